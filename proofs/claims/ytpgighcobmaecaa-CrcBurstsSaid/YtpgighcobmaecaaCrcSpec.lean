/- Sums of 32 bits, in plain Lean: what the program's layer 12 and its reference compute. -/
import Derived.Laws.BitsAllLaws
set_option linter.unusedVariables false
set_option linter.unusedSimpArgs false
namespace Go.Proofs.Ytpgighcobmaecaa.Crc

def poly : BitVec 32 := 79764919#32
/-- A number moved left by one. -/
def sh (v : BitVec 32) : BitVec 32 := if v.msb then (v <<< 1) ^^^ poly else v <<< 1
def shn : Nat → BitVec 32 → BitVec 32
  | 0, v => v
  | n + 1, v => sh (shn n v)
def c32 (c : UInt8) : BitVec 32 := BitVec.ofNat 32 c.toNat
def put (v : BitVec 32) (c : UInt8) : BitVec 32 := v ^^^ (c32 c <<< 24)
def step (v : BitVec 32) (c : UInt8) : BitVec 32 := shn 8 (put v c)
def more (a : BitVec 32) (l : List UInt8) : BitVec 32 := ~~~ (l.foldl step (~~~ a))
/-- The reference's step by one bit. -/
def rbit (v : BitVec 32) (b : Bool) : BitVec 32 := if v.msb != b then (v <<< 1) ^^^ poly else v <<< 1
def rput (v : BitVec 32) (c : UInt8) : Nat → BitVec 32
  | 0 => v
  | j + 1 => rbit (rput v c j) (c.toNat.testBit (7 - j))

theorem xlc (a b c : BitVec 32) : a ^^^ (b ^^^ c) = b ^^^ (a ^^^ c) := by rw [← BitVec.xor_assoc, BitVec.xor_comm a b, BitVec.xor_assoc]
theorem xss (a b : BitVec 32) : a ^^^ (a ^^^ b) = b := by rw [← BitVec.xor_assoc, BitVec.xor_self, BitVec.zero_xor]
theorem sh_xor (a b : BitVec 32) : sh (a ^^^ b) = sh a ^^^ sh b := by
  unfold sh
  rw [BitVec.msb_xor, BitVec.shiftLeft_xor_distrib]
  cases a.msb <;> cases b.msb <;> simp [BitVec.xor_assoc, BitVec.xor_comm, xlc, xss]
theorem c32_msb (c : UInt8) (j : Nat) (hj : j < 8) : (c32 c <<< (24 + j)).msb = c.toNat.testBit (7 - j) := by
  rw [BitVec.msb_eq_getLsbD_last, BitVec.getLsbD_shiftLeft]
  unfold c32
  rw [BitVec.getLsbD_ofNat]
  have h1 : decide (32 - 1 < 32) = true := by decide
  have h2 : decide (32 - 1 < 24 + j) = false := by simp; omega
  have h3 : 32 - 1 - (24 + j) = 7 - j := by omega
  have h4 : decide (7 - j < 32) = true := by simp; omega
  rw [h1, h2, h3, h4]
  simp
theorem shn_put (v : BitVec 32) (c : UInt8) : ∀ j, j ≤ 8 → shn j (put v c) = rput v c j ^^^ (c32 c <<< (24 + j))
  | 0, _ => rfl
  | j + 1, h => by
    have ih := shn_put v c j (by omega)
    have hm := c32_msb c j (by omega)
    have e : (c32 c <<< (24 + j)) <<< 1 = c32 c <<< (24 + (j + 1)) := by rw [← BitVec.shiftLeft_add, Nat.add_assoc]
    show sh (shn j (put v c)) = rbit (rput v c j) (c.toNat.testBit (7 - j)) ^^^ _
    rw [ih, sh_xor]
    unfold sh rbit
    rw [hm, e]
    cases (rput v c j).msb <;> cases c.toNat.testBit (7 - j) <;> simp [BitVec.xor_assoc, BitVec.xor_comm, xlc, xss]
theorem rput_all (v : BitVec 32) (c : UInt8) : rput v c 8 = step v c := by
  have h := shn_put v c 8 (Nat.le_refl _)
  have e : c32 c <<< (24 + 8) = 0#32 := by
    apply BitVec.shiftLeft_eq_zero; decide
  rw [e, BitVec.xor_zero] at h
  exact h.symm
/-- A sum as four bytes, the highest first. -/
def tail (v : BitVec 32) : List UInt8 := [UInt8.ofNat (v.toNat / 16777216), UInt8.ofNat (v.toNat / 65536), UInt8.ofNat (v.toNat / 256), UInt8.ofNat v.toNat]
/-- Bytes as one number. -/
def num (l : List UInt8) : BitVec 32 := l.foldl (fun v c => (v <<< 8) ||| c32 c) 0#32
def fits (l : List UInt8) : Bool := decide (4 ≤ l.length) && (more 0#32 (l.take (l.length - 4)) == num (l.drop (l.length - 4)))

theorem c32_toNat (c : UInt8) : (c32 c).toNat = c.toNat := by
  have := c.toNat_lt
  unfold c32
  rw [BitVec.toNat_ofNat]
  omega
theorem num_step (v : BitVec 32) (c : UInt8) (h : v.toNat < 16777216) : ((v <<< 8) ||| c32 c).toNat = v.toNat * 256 + c.toNat := by
  have hc := c.toNat_lt
  rw [BitVec.toNat_or, BitVec.toNat_shiftLeft, c32_toNat, Nat.mod_eq_of_lt (by rw [Nat.shiftLeft_eq]; omega), ← Nat.shiftLeft_add_eq_or_of_lt (by omega), Nat.shiftLeft_eq]
theorem num_four (a b c d : UInt8) : (num [a, b, c, d]).toNat = a.toNat * 16777216 + b.toNat * 65536 + c.toNat * 256 + d.toNat := by
  have ha := a.toNat_lt
  have hb := b.toNat_lt
  have hc := c.toNat_lt
  have hd := d.toNat_lt
  unfold num
  simp only [List.foldl_cons, List.foldl_nil]
  have h0 := num_step 0#32 a (by decide)
  simp only [BitVec.toNat_zero] at h0
  have h1 := num_step _ b (show ((0#32 <<< 8) ||| c32 a).toNat < 16777216 by omega)
  have h2 := num_step _ c (show ((((0#32 <<< 8) ||| c32 a) <<< 8) ||| c32 b).toNat < 16777216 by omega)
  rw [num_step _ d (by omega)]
  omega
theorem num_tail (v : BitVec 32) : num (tail v) = v := by
  have hv := v.isLt
  apply BitVec.eq_of_toNat_eq
  unfold tail
  rw [num_four]
  simp only [UInt8.toNat_ofNat']
  omega
theorem tail_num (l : List UInt8) (h : l.length = 4) : tail (num l) = l := by
  match l, h with
  | [a, b, c, d], _ =>
    have ha := a.toNat_lt
    have hb := b.toNat_lt
    have hc := c.toNat_lt
    have hd := d.toNat_lt
    unfold tail
    rw [num_four]
    simp only [List.cons.injEq, and_true]
    refine ⟨?_, ?_, ?_, ?_⟩ <;> (apply UInt8.toNat_inj.1; simp only [UInt8.toNat_ofNat']; omega)
theorem more_append (a : BitVec 32) (l m : List UInt8) : more (more a l) m = more a (l ++ m) := by
  unfold more
  rw [BitVec.not_not, List.foldl_append]
theorem fits_tail (l : List UInt8) : fits (l ++ tail (more 0#32 l)) = true := by
  have h : (l ++ tail (more 0#32 l)).length - 4 = l.length := by simp [tail]
  unfold fits
  rw [h, List.take_left, List.drop_left, num_tail]
  simp [tail]
theorem tail_beq (v : BitVec 32) (q : List UInt8) (h : q.length = 4) : (tail v == q) = (v == num q) := by
  rw [Bool.eq_iff_iff, beq_iff_eq, beq_iff_eq]
  exact ⟨fun e => by rw [← e, num_tail], fun e => by rw [e, tail_num q h]⟩
end Go.Proofs.Ytpgighcobmaecaa.Crc
