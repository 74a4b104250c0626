/- Numbers out of a seed, as plain Lean says it: labels, blocks, words. -/
import Derived.Test.YthmlidlnojdggaaDoorMacOf
set_option linter.unusedVariables false
set_option linter.unusedSimpArgs false
namespace Go.Proofs.YthmlidlnojdggaaDoor.Prg
open Go.Proofs.YthmlidlnojdggaaDoor.Sha Go.Proofs.YthmlidlnojdggaaDoor.Mac

/-- A label: at most 64 bytes, each a printed one. -/
def Lab (l : List UInt8) : Prop := l.length ≤ 64 ∧ ∀ i, i < l.length → 32 ≤ (l.getD i 0).toNat ∧ (l.getD i 0).toNat ≤ 126
instance (l : List UInt8) : Decidable (Lab l) := by unfold Lab; infer_instance
/-- n bytes of a number, the highest first. -/
def beN (v : Nat) : Nat → List UInt8
  | 0 => []
  | n + 1 => UInt8.ofNat (v / 256 ^ n) :: beN v n
theorem beN_len (v n : Nat) : (beN v n).length = n := by
  induction n with
  | zero => rfl
  | succ n ih => simp [beN, ih]
/-- The first k of n. -/
theorem beN_take (v n : Nat) : ∀ k, k ≤ n → (beN v n).take k = (List.range k).map fun j => UInt8.ofNat (v / 256 ^ (n - 1 - j)) := by
  induction n with
  | zero => intro k hk; obtain rfl : k = 0 := Nat.le_zero.1 hk; rfl
  | succ n ih =>
    intro k hk
    cases k with
    | zero => rfl
    | succ k =>
      rw [beN, List.take_succ_cons, ih k (by omega), List.range_succ_eq_map, List.map_cons, List.map_map]
      congr 1
      refine List.map_congr_left fun j hj => ?_
      have := List.mem_range.1 hj
      show UInt8.ofNat (v / 256 ^ (n - 1 - j)) = UInt8.ofNat (v / 256 ^ (n + 1 - 1 - (j + 1)))
      rw [show n + 1 - 1 - (j + 1) = n - 1 - j by omega]
theorem beN_take_succ (v n k : Nat) (h : k < n) : (beN v n).take (k + 1) = (beN v n).take k ++ [UInt8.ofNat (v / 256 ^ (n - 1 - k))] := by
  rw [beN_take v n (k + 1) h, beN_take v n k (by omega), List.range_succ, List.map_append]
  rfl
/-- Bytes as one number. -/
def num (l : List UInt8) : Nat := l.foldl (fun v c => 256 * v + c.toNat) 0
theorem num_snoc (l : List UInt8) (c : UInt8) : num (l ++ [c]) = 256 * num l + c.toNat := by rw [num, List.foldl_append]; rfl
theorem num_lt (l : List UInt8) : num l < 256 ^ l.length := by
  suffices h : ∀ (l : List UInt8) (v : Nat), l.foldl (fun v c => 256 * v + c.toNat) v < (v + 1) * 256 ^ l.length by simpa [num] using h l 0
  intro l
  induction l with
  | nil => intro v; simp
  | cons c l ih =>
    intro v
    rw [List.foldl_cons, List.length_cons, Nat.pow_succ]
    refine Nat.lt_of_lt_of_le (ih _) ?_
    have := c.toNat_lt
    calc (256 * v + c.toNat + 1) * 256 ^ l.length ≤ ((v + 1) * 256) * 256 ^ l.length := Nat.mul_le_mul_right _ (by omega)
      _ = (v + 1) * (256 ^ l.length * 256) := by rw [Nat.mul_assoc, Nat.mul_comm 256]
/-- The text of a block, and the block. -/
def btext (l : List UInt8) (i : Nat) : List UInt8 := (l ++ [0]) ++ beN i 4
def blk (seed : Nat) (l : List UInt8) (i : Nat) : List UInt8 := macOf (beN seed 8) (btext l i)
theorem blk_len (seed : Nat) (l : List UInt8) (i : Nat) : (blk seed l i).length = 32 := sum_len _
theorem btext_len (l : List UInt8) (i : Nat) : (btext l i).length = l.length + 5 := by simp [btext, beN_len]
/-- Number k of a block. -/
def wd (b : List UInt8) (k : Nat) : BitVec 32 := BitVec.ofNat 32 (num ((b.drop (4 * k)).take 4))
/-- Number k of a seed and a label. -/
def word (seed : Nat) (l : List UInt8) (k : Nat) : BitVec 32 := wd (blk seed l (k / 8)) (k % 8)
def words (seed : Nat) (l : List UInt8) (n : Nat) : List (BitVec 32) := (List.range n).map (word seed l)
theorem words_len (seed : Nat) (l : List UInt8) (n : Nat) : (words seed l n).length = n := by simp [words]
theorem words_succ (seed : Nat) (l : List UInt8) (n : Nat) : words seed l (n + 1) = words seed l n ++ [word seed l n] := by simp [words, List.range_succ]
theorem words_take (seed : Nat) (l : List UInt8) (n m : Nat) (h : m ≤ n) : (words seed l n).take m = words seed l m := by
  rw [words, ← List.map_take, List.take_range, Nat.min_eq_left h]
  rfl
def prime : Nat := 2305843009213693951
/-- The number of the field at a place. -/
def fnum (seed : Nat) (l : List UInt8) (i : Nat) : Nat := num ((blk seed l i).take 8) % prime
end Go.Proofs.YthmlidlnojdggaaDoor.Prg
