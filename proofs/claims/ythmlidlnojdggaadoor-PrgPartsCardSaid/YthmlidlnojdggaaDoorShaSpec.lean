/- Sums of 256 bits, in plain Lean: what the program's layer 5 computes. -/
import Derived.Laws.BitsAllLaws
set_option linter.unusedVariables false
set_option linter.unusedSimpArgs false
namespace Go.Proofs.YthmlidlnojdggaaDoor.Sha

abbrev Wd := BitVec 32
def kt : List Wd := [0x428a2f98#32, 0x71374491#32, 0xb5c0fbcf#32, 0xe9b5dba5#32, 0x3956c25b#32, 0x59f111f1#32, 0x923f82a4#32, 0xab1c5ed5#32,
  0xd807aa98#32, 0x12835b01#32, 0x243185be#32, 0x550c7dc3#32, 0x72be5d74#32, 0x80deb1fe#32, 0x9bdc06a7#32, 0xc19bf174#32,
  0xe49b69c1#32, 0xefbe4786#32, 0x0fc19dc6#32, 0x240ca1cc#32, 0x2de92c6f#32, 0x4a7484aa#32, 0x5cb0a9dc#32, 0x76f988da#32,
  0x983e5152#32, 0xa831c66d#32, 0xb00327c8#32, 0xbf597fc7#32, 0xc6e00bf3#32, 0xd5a79147#32, 0x06ca6351#32, 0x14292967#32,
  0x27b70a85#32, 0x2e1b2138#32, 0x4d2c6dfc#32, 0x53380d13#32, 0x650a7354#32, 0x766a0abb#32, 0x81c2c92e#32, 0x92722c85#32,
  0xa2bfe8a1#32, 0xa81a664b#32, 0xc24b8b70#32, 0xc76c51a3#32, 0xd192e819#32, 0xd6990624#32, 0xf40e3585#32, 0x106aa070#32,
  0x19a4c116#32, 0x1e376c08#32, 0x2748774c#32, 0x34b0bcb5#32, 0x391c0cb3#32, 0x4ed8aa4a#32, 0x5b9cca4f#32, 0x682e6ff3#32,
  0x748f82ee#32, 0x78a5636f#32, 0x84c87814#32, 0x8cc70208#32, 0x90befffa#32, 0xa4506ceb#32, 0xbef9a3f7#32, 0xc67178f2#32]
theorem kt_len : kt.length = 64 := rfl
structure St where
  a : Wd
  b : Wd
  c : Wd
  d : Wd
  e : Wd
  f : Wd
  g : Wd
  h : Wd
deriving DecidableEq
def st0 : St := ⟨0x6a09e667#32, 0xbb67ae85#32, 0x3c6ef372#32, 0xa54ff53a#32, 0x510e527f#32, 0x9b05688c#32, 0x1f83d9ab#32, 0x5be0cd19#32⟩
def St.list (s : St) : List Wd := [s.a, s.b, s.c, s.d, s.e, s.f, s.g, s.h]
def turn (x : Wd) (n : Nat) : Wd := x >>> n ||| x <<< (32 - n)
def c32 (c : UInt8) : Wd := BitVec.ofNat 32 c.toNat
theorem c32_toNat (c : UInt8) : ((c32 c).toNat : Int) = c.toNat := by
  have := c.toNat_lt
  unfold c32
  rw [BitVec.toNat_ofNat]
  omega
def word (b : List UInt8) : Wd := c32 (b.getD 0 0) <<< 24 ||| c32 (b.getD 1 0) <<< 16 ||| c32 (b.getD 2 0) <<< 8 ||| c32 (b.getD 3 0)
def s0 (x : Wd) : Wd := turn x 7 ^^^ turn x 18 ^^^ x >>> 3
def s1 (y : Wd) : Wd := turn y 17 ^^^ turn y 19 ^^^ y >>> 10
/-- The next word behind t of them. -/
def nxt (l : List Wd) (t : Nat) : Wd := s1 (l.getD (t - 2) 0) + l.getD (t - 7) 0 + s0 (l.getD (t - 15) 0) + l.getD (t - 16) 0
def first (b : List UInt8) : Nat → List Wd
  | 0 => []
  | t + 1 => first b t ++ [word (b.drop (4 * t))]
def grow (b : List UInt8) : Nat → List Wd
  | 0 => first b 16
  | k + 1 => grow b k ++ [nxt (grow b k) (16 + k)]
def spread (b : List UInt8) : List Wd := grow b 48
theorem first_len (b : List UInt8) : ∀ t, (first b t).length = t
  | 0 => rfl
  | t + 1 => by rw [first, List.length_append, first_len b t]; rfl
theorem grow_len (b : List UInt8) : ∀ k, (grow b k).length = 16 + k
  | 0 => first_len b 16
  | k + 1 => by rw [grow, List.length_append, grow_len b k]; rfl
theorem spread_len (b : List UInt8) : (spread b).length = 64 := grow_len b 48
def rnd (s : St) (k w : Wd) : St :=
  let t1 := s.h + (turn s.e 6 ^^^ turn s.e 11 ^^^ turn s.e 25) + (s.e &&& s.f ^^^ ~~~ s.e &&& s.g) + k + w
  ⟨t1 + (turn s.a 2 ^^^ turn s.a 13 ^^^ turn s.a 22) + (s.a &&& s.b ^^^ s.a &&& s.c ^^^ s.b &&& s.c), s.a, s.b, s.c, s.d + t1, s.e, s.f, s.g⟩
def rnds (b : List UInt8) (s : St) : Nat → St
  | 0 => s
  | t + 1 => rnd (rnds b s t) (kt.getD t 0) ((spread b).getD t 0)
def plus (s t : St) : St := ⟨s.a + t.a, s.b + t.b, s.c + t.c, s.d + t.d, s.e + t.e, s.f + t.f, s.g + t.g, s.h + t.h⟩
def behind (s : St) (b : List UInt8) : St := plus (rnds b s 64) s
def byte (n k : Nat) : UInt8 := UInt8.ofNat (n >>> k)
def tail8 (n : Nat) : List UInt8 := [byte n 56, byte n 48, byte n 40, byte n 32, byte n 24, byte n 16, byte n 8, byte n 0]
/-- How many noughts stand behind n bytes and one. -/
def noughts (n : Nat) : Nat := (119 - n % 64) % 64
def padded (l : List UInt8) : List UInt8 := l ++ 128 :: (List.replicate (noughts l.length) 0 ++ tail8 (8 * l.length))
def run : Nat → St → List UInt8 → St
  | 0, s, _ => s
  | n + 1, s, l => run n (behind s (l.take 64)) (l.drop 64)
def w4 (x : Wd) : List UInt8 := [byte x.toNat 24, byte x.toNat 16, byte x.toNat 8, byte x.toNat 0]
def St.bytes (s : St) : List UInt8 := s.list.flatMap w4
theorem bytes_len (s : St) : s.bytes.length = 32 := rfl
/-- The sum. -/
def sum (l : List UInt8) : List UInt8 := (run ((padded l).length / 64) st0 (padded l)).bytes
theorem sum_len (l : List UInt8) : (sum l).length = 32 := bytes_len _
theorem padded_len (l : List UInt8) : ∃ k, (padded l).length = 64 * k ∧ (padded l).length = l.length + 9 + noughts l.length := by
  have h : (padded l).length = l.length + 9 + noughts l.length := by simp [padded, tail8]; omega
  refine ⟨(padded l).length / 64, ?_, h⟩
  rw [h]
  unfold noughts
  omega
theorem abc : sum [97, 98, 99] = [0xba, 0x78, 0x16, 0xbf, 0x8f, 0x01, 0xcf, 0xea, 0x41, 0x41, 0x40, 0xde, 0x5d, 0xae, 0x22, 0x23, 0xb0, 0x03, 0x61, 0xa3, 0x96, 0x17, 0x7a, 0x9c, 0xb4, 0x10, 0xff, 0x61, 0xf2, 0x00, 0x15, 0xad] := by decide +kernel
end Go.Proofs.YthmlidlnojdggaaDoor.Sha
