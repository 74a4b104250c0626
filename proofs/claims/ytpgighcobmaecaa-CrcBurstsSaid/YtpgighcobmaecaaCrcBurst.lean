/- The law of bursts, in plain Lean: of bytes with their sum behind, with bits turned that lie within 32 in a row, the sum does not fit. -/
import Derived.Test.YtpgighcobmaecaaCrcSpec
set_option linter.unusedVariables false
set_option linter.unusedSimpArgs false
namespace Go.Proofs.Ytpgighcobmaecaa.Crc

/-! ### bit by bit -/
theorem rbit_xor (v w : BitVec 32) (a b : Bool) : rbit v a ^^^ rbit w b = rbit (v ^^^ w) (a ^^ b) := by
  unfold rbit
  rw [BitVec.msb_xor, BitVec.shiftLeft_xor_distrib]
  cases v.msb <;> cases w.msb <;> cases a <;> cases b <;> simp [BitVec.xor_assoc, BitVec.xor_comm, xlc, xss]
def bits8 (c : UInt8) : List Bool := [c.toNat.testBit 7, c.toNat.testBit 6, c.toNat.testBit 5, c.toNat.testBit 4, c.toNat.testBit 3, c.toNat.testBit 2, c.toNat.testBit 1, c.toNat.testBit 0]
theorem step_bits (v : BitVec 32) (c : UInt8) : step v c = (bits8 c).foldl rbit v := by
  rw [← rput_all]
  rfl
def bitsOf (l : List UInt8) : List Bool := l.flatMap bits8
theorem foldl_bits (l : List UInt8) : ∀ v, l.foldl step v = (bitsOf l).foldl rbit v := by
  induction l with
  | nil => intro v; rfl
  | cons c l ih =>
    intro v
    show l.foldl step (step v c) = (bits8 c ++ bitsOf l).foldl rbit v
    rw [ih, step_bits, List.foldl_append]
theorem foldl_xor : ∀ (a b : List Bool) (v w : BitVec 32), a.length = b.length → a.foldl rbit v ^^^ b.foldl rbit w = (List.zipWith xor a b).foldl rbit (v ^^^ w)
  | [], [], v, w, _ => rfl
  | x :: a, y :: b, v, w, h => by
    show a.foldl rbit (rbit v x) ^^^ b.foldl rbit (rbit w y) = (List.zipWith xor a b).foldl rbit (rbit (v ^^^ w) (x ^^ y))
    rw [foldl_xor a b _ _ (by simpa using h), rbit_xor]
/-- What 32 bits at the most leave as nought was those bits. -/
theorem back_bits : ∀ (e : List Bool) (v : BitVec 32), e.length ≤ 32 → e.foldl rbit v = 0#32 → ∀ i, i < 32 → v.getMsbD i = e.getD i false
  | [], v, _, h, i, _ => by
    have : v = 0#32 := h
    subst this
    simp
  | b :: e, v, hl, h, i, hi => by
    have hl' : e.length ≤ 31 := by simpa using hl
    have ih := back_bits e (rbit v b) (by omega) h
    have h31 := ih 31 (by omega)
    have he : e.getD 31 false = false := by
      rw [List.getD_eq_getElem?_getD, List.getElem?_eq_none (by omega)]
      rfl
    rw [he] at h31
    by_cases hm : v.msb = b
    · have hr : rbit v b = v <<< 1 := by
        unfold rbit
        rw [hm]
        simp
      rw [hr] at ih
      cases i with
      | zero =>
        rw [← BitVec.msb_eq_getMsbD_zero, hm]
        rfl
      | succ i =>
        have h2 := ih i (by omega)
        rw [BitVec.getMsbD_shiftLeft] at h2
        show v.getMsbD (i + 1) = e.getD i false
        rw [← h2]
    · have hr : rbit v b = v <<< 1 ^^^ poly := by
        unfold rbit
        rw [if_pos (by simpa using hm)]
      rw [hr, BitVec.getMsbD_xor, BitVec.getMsbD_shiftLeft] at h31
      have h0 : v.getMsbD (31 + 1) = false := by simp
      rw [h0] at h31
      have hp : poly.getMsbD 31 = true := by decide
      rw [hp] at h31
      simp at h31
theorem zeros_zero : ∀ n, (List.replicate n false).foldl rbit 0#32 = 0#32
  | 0 => rfl
  | n + 1 => by
    rw [List.replicate_succ, List.foldl_cons, show rbit 0#32 false = 0#32 by decide]
    exact zeros_zero n
theorem zeros_back : ∀ n v, (List.replicate n false).foldl rbit v = 0#32 → v = 0#32
  | 0, v, h => h
  | n + 1, v, h => by
    rw [List.replicate_succ, List.foldl_cons] at h
    have h1 := zeros_back n _ h
    have h2 := back_bits [false] v (by decide) h1
    apply BitVec.eq_of_getMsbD_eq
    intro i hi
    rw [h2 i hi]
    cases i with
    | zero => simp
    | succ i => simp
/-- Noughts, at most 32 bits, and noughts leave nought just if all bits are. -/
theorem burst (m n : Nat) (e : List Bool) (he : e.length ≤ 32) : ((List.replicate m false ++ e ++ List.replicate n false).foldl rbit 0#32 = 0#32) ↔ e.all (fun b => !b) = true := by
  rw [List.foldl_append, List.foldl_append, zeros_zero]
  constructor
  · intro h
    have h1 := back_bits e 0#32 he (zeros_back n _ h)
    rw [List.all_eq_true]
    intro b hb
    obtain ⟨i, hi, rfl⟩ := List.mem_iff_getElem.1 hb
    have h2 := h1 i (by omega)
    rw [List.getD_eq_getElem?_getD, List.getElem?_eq_getElem hi] at h2
    simp at h2
    simp [← h2]
  · intro h
    have : e = List.replicate e.length false := by
      apply List.ext_getElem (by simp)
      intro i h1 h2
      have := List.all_eq_true.1 h _ (List.getElem_mem h1)
      simpa using this
    rw [this, zeros_zero, zeros_zero]

/-! ### whether bytes end with their sum, by what is left of all of them -/
theorem forth_bits : ∀ (e : List Bool) (v : BitVec 32), e.length ≤ 32 → (∀ i, i < 32 → v.getMsbD i = e.getD i false) → e.foldl rbit v = 0#32
  | [], v, _, h => by
    show v = 0#32
    apply BitVec.eq_of_getMsbD_eq
    intro i hi
    rw [h i hi]
    simp
  | b :: e, v, hl, h => by
    have hl' : e.length ≤ 31 := by simpa using hl
    have hm : v.msb = b := by
      rw [BitVec.msb_eq_getMsbD_zero, h 0 (by decide)]
      rfl
    have hr : rbit v b = v <<< 1 := by
      unfold rbit
      rw [hm]
      simp
    show e.foldl rbit (rbit v b) = 0#32
    rw [hr]
    refine forth_bits e _ (by omega) (fun i hi => ?_)
    rw [BitVec.getMsbD_shiftLeft]
    by_cases h31 : i = 31
    · subst h31
      rw [List.getD_eq_getElem?_getD, List.getElem?_eq_none (by omega)]
      simp
    · rw [Nat.add_comm, Nat.add_comm 1 i, h (i + 1) (by omega)]
      rfl
theorem tb8 (n j : Nat) (h : j < 8) : (UInt8.ofNat n).toNat.testBit j = n.testBit j := by
  rw [UInt8.toNat_ofNat', show (2 ^ 8 : Nat) = 2 ^ 8 from rfl, Nat.testBit_mod_two_pow]
  simp [h]
theorem tbd (n k j : Nat) : (n / 2 ^ k).testBit j = n.testBit (j + k) := Nat.testBit_div_two_pow n j
theorem tail_bits (v : BitVec 32) : bitsOf (tail v) = (List.range 32).map (fun i => v.toNat.testBit (31 - i)) := by
  have h1 : ∀ n : Nat, bits8 (UInt8.ofNat n) = [n.testBit 7, n.testBit 6, n.testBit 5, n.testBit 4, n.testBit 3, n.testBit 2, n.testBit 1, n.testBit 0] := fun n => by
    unfold bits8
    rw [tb8 _ _ (by decide), tb8 _ _ (by decide), tb8 _ _ (by decide), tb8 _ _ (by decide), tb8 _ _ (by decide), tb8 _ _ (by decide), tb8 _ _ (by decide), tb8 _ _ (by decide)]
  show bits8 _ ++ (bits8 _ ++ (bits8 _ ++ (bits8 _ ++ []))) = _
  rw [h1, h1, h1, h1, show (16777216 : Nat) = 2 ^ 24 from rfl, show (65536 : Nat) = 2 ^ 16 from rfl, show (256 : Nat) = 2 ^ 8 from rfl]
  simp only [tbd]
  rfl
theorem tail_back (v : BitVec 32) : (tail v).foldl step v = 0#32 := by
  rw [foldl_bits]
  refine forth_bits _ _ ?_ (fun i hi => ?_)
  · rw [tail_bits]
    simp
  · rw [tail_bits, List.getD_eq_getElem?_getD, List.getElem?_map, List.getElem?_range hi]
    simp [BitVec.getMsbD, hi, BitVec.getLsbD]
/-- What is left of bytes that end with their sum. -/
def left : BitVec 32 := (List.replicate 32 false).foldl rbit (BitVec.allOnes 32)
theorem xor_zeros : ∀ (l : List Bool), List.zipWith xor l l = List.replicate l.length false
  | [] => rfl
  | x :: l => by
    rw [List.zipWith_cons_cons, xor_zeros l, List.length_cons, List.replicate_succ]
    simp
theorem bitsOf_length (l : List UInt8) : (bitsOf l).length = 8 * l.length := by
  induction l with
  | nil => rfl
  | cons c l ih =>
    show (bits8 c ++ bitsOf l).length = _
    rw [List.length_append, ih, List.length_cons]
    show 8 + _ = _
    omega
theorem bitsOf_append (a b : List UInt8) : bitsOf (a ++ b) = bitsOf a ++ bitsOf b := by
  unfold bitsOf
  rw [List.flatMap_append]
theorem four_left (r v : BitVec 32) : (tail v).foldl step r = (List.replicate 32 false).foldl rbit (r ^^^ v) := by
  have h := foldl_xor (bitsOf (tail v)) (bitsOf (tail v)) r v rfl
  rw [xor_zeros, bitsOf_length, ← foldl_bits, ← foldl_bits, tail_back, BitVec.xor_zero] at h
  exact h
theorem zeros_inj (a b : BitVec 32) (n : Nat) (h : (List.replicate n false).foldl rbit a = (List.replicate n false).foldl rbit b) : a = b := by
  have h1 := foldl_xor (List.replicate n false) (List.replicate n false) a b rfl
  rw [h, BitVec.xor_self, xor_zeros] at h1
  have h2 := zeros_back _ _ h1.symm
  have h3 : (a ^^^ b) ^^^ b = 0#32 ^^^ b := by rw [h2]
  rwa [BitVec.xor_assoc, BitVec.xor_self, BitVec.xor_zero, BitVec.zero_xor] at h3
theorem fits_left (l : List UInt8) (h : 4 ≤ l.length) : fits l = true ↔ (bitsOf l).foldl rbit (BitVec.allOnes 32) = left := by
  obtain ⟨p, v, rfl⟩ : ∃ p v, l = p ++ tail v := ⟨l.take (l.length - 4), num (l.drop (l.length - 4)), by
    rw [tail_num _ (by rw [List.length_drop]; omega), List.take_append_drop]⟩
  have hl : (p ++ tail v).length - 4 = p.length := by simp [tail]
  unfold fits
  rw [decide_eq_true h, hl, List.take_left, List.drop_left, num_tail, Bool.true_and, beq_iff_eq, ← foldl_bits, List.foldl_append, four_left]
  unfold more left
  have hz : ~~~ (0#32) = BitVec.allOnes 32 := by decide
  rw [hz]
  generalize p.foldl step (BitVec.allOnes 32) = r
  have hx : ∀ a : BitVec 32, ~~~ a = a ^^^ BitVec.allOnes 32 := fun a => by rw [BitVec.xor_allOnes]
  constructor
  · intro e
    rw [← e, hx, ← BitVec.xor_assoc, BitVec.xor_self, BitVec.zero_xor]
  · intro e
    have e2 := zeros_inj _ _ _ e
    rw [hx, ← e2, ← BitVec.xor_assoc, BitVec.xor_self, BitVec.zero_xor]

/-! ### bits turned -/
def flip (l : List UInt8) (p : Nat) : List UInt8 := l.set (p / 8) (l.getD (p / 8) 0 ^^^ UInt8.ofNat (128 / 2 ^ (p % 8)))
def bitAt (l : List UInt8) (p : Nat) : Bool := (l.getD (p / 8) 0).toNat.testBit (7 - p % 8)
def flips (l : List UInt8) (at_ : Nat) (m : Nat) : Nat → List UInt8
  | 0 => l
  | k + 1 => if m.testBit k then flip (flips l at_ m k) (at_ + k) else flips l at_ m k
def some_ (m : Nat) : Nat → Bool
  | 0 => false
  | k + 1 => some_ m k || m.testBit k
theorem flip_length (l : List UInt8) (p : Nat) : (flip l p).length = l.length := List.length_set
theorem flips_length (l : List UInt8) (at_ m : Nat) : ∀ k, (flips l at_ m k).length = l.length
  | 0 => rfl
  | k + 1 => by
    unfold flips
    split
    · rw [flip_length, flips_length l at_ m k]
    · exact flips_length l at_ m k
theorem bitsOf_get (l : List UInt8) : ∀ p, p < 8 * l.length → (bitsOf l)[p]? = some (bitAt l p) := by
  induction l with
  | nil => intro p h; simp at h
  | cons c l ih =>
    intro p h
    show (bits8 c ++ bitsOf l)[p]? = _
    by_cases hp : p < 8
    · rw [List.getElem?_append_left (by exact hp)]
      unfold bitAt
      rw [show p / 8 = 0 by omega, show p % 8 = p by omega]
      have : p = 0 ∨ p = 1 ∨ p = 2 ∨ p = 3 ∨ p = 4 ∨ p = 5 ∨ p = 6 ∨ p = 7 := by omega
      rcases this with rfl | rfl | rfl | rfl | rfl | rfl | rfl | rfl <;> rfl
    · rw [List.getElem?_append_right (by exact Nat.le_of_not_lt hp)]
      have h8 : (bits8 c).length = 8 := rfl
      rw [h8, ih (p - 8) (by simp at h; omega)]
      unfold bitAt
      rw [show p / 8 = (p - 8) / 8 + 1 by omega, show p % 8 = (p - 8) % 8 by omega]
      rfl
theorem mask_bit (j i : Nat) (hj : j < 8) (hi : i < 8) : (UInt8.ofNat (128 / 2 ^ j)).toNat.testBit (7 - i) = decide (i = j) := by
  have h1 : j = 0 ∨ j = 1 ∨ j = 2 ∨ j = 3 ∨ j = 4 ∨ j = 5 ∨ j = 6 ∨ j = 7 := by omega
  have h2 : i = 0 ∨ i = 1 ∨ i = 2 ∨ i = 3 ∨ i = 4 ∨ i = 5 ∨ i = 6 ∨ i = 7 := by omega
  rcases h1 with rfl | rfl | rfl | rfl | rfl | rfl | rfl | rfl <;> rcases h2 with rfl | rfl | rfl | rfl | rfl | rfl | rfl | rfl <;> decide
theorem flip_bit (l : List UInt8) (p q : Nat) (hp : p < 8 * l.length) : bitAt (flip l p) q = (bitAt l q ^^ decide (q = p)) := by
  unfold bitAt flip
  by_cases h : q / 8 = p / 8
  · rw [h, List.getD_eq_getElem?_getD, List.getElem?_set_self (by omega), Option.getD_some, UInt8.toNat_xor, Nat.testBit_xor, mask_bit _ _ (by omega) (by omega)]
    congr 1
    rw [Bool.eq_iff_iff, decide_eq_true_iff, decide_eq_true_iff]
    omega
  · rw [List.getD_eq_getElem?_getD, List.getElem?_set_ne (by omega), ← List.getD_eq_getElem?_getD, show decide (q = p) = false by rw [decide_eq_false_iff_not]; omega, Bool.xor_false]
theorem flips_bit (l : List UInt8) (at_ m q : Nat) : ∀ k, at_ + k ≤ 8 * l.length → bitAt (flips l at_ m k) q = (bitAt l q ^^ (decide (at_ ≤ q) && decide (q < at_ + k) && m.testBit (q - at_)))
  | 0, _ => by
    have : (decide (at_ ≤ q) && decide (q < at_ + 0)) = false := by
      rw [Bool.and_eq_false_iff, decide_eq_false_iff_not, decide_eq_false_iff_not]
      omega
    rw [this]
    simp [flips]
  | k + 1, h => by
    have ih := flips_bit l at_ m q k (by omega)
    unfold flips
    by_cases hq : q = at_ + k
    · subst hq
      have e1 : (decide (at_ ≤ at_ + k) && decide (at_ + k < at_ + k)) = false := by simp
      have e2 : (decide (at_ ≤ at_ + k) && decide (at_ + k < at_ + (k + 1))) = true := by
        rw [Bool.and_eq_true, decide_eq_true_iff, decide_eq_true_iff]
        omega
      rw [e1] at ih
      rw [e2, Nat.add_sub_cancel_left]
      simp only [Bool.false_and, Bool.xor_false, Bool.true_and] at ih ⊢
      split
      · rename_i hm
        rw [flip_bit _ _ _ (by rw [flips_length]; omega), ih, hm]
        simp
      · rename_i hm
        rw [ih, Bool.eq_false_iff.2 hm, Bool.xor_false]
    · have e1 : decide (q < at_ + (k + 1)) = decide (q < at_ + k) := by
        rw [Bool.eq_iff_iff, decide_eq_true_iff, decide_eq_true_iff]; omega
      rw [e1, ← ih]
      split
      · rw [flip_bit _ _ _ (by rw [flips_length]; omega), show decide (q = at_ + k) = false from decide_eq_false hq, Bool.xor_false]
      · rfl
theorem some_all (m : Nat) : ∀ k, ((List.range k).map (fun j => m.testBit j)).all (fun b => !b) = !some_ m k
  | 0 => rfl
  | k + 1 => by
    rw [List.range_succ, List.map_append, List.all_append, some_all m k]
    show (!some_ m k && _) = !(some_ m k || m.testBit k)
    simp
/-- The law of bursts. -/
theorem fits_flips (l : List UInt8) (at_ m k : Nat) (h4 : 4 ≤ l.length) (hk : k ≤ 32) (hat : at_ + k ≤ 8 * l.length) (hf : fits l = true) : fits (flips l at_ m k) = !some_ m k := by
  have hfl := (fits_left l h4).1 hf
  have hlen := flips_length l at_ m k
  have hx := foldl_xor (bitsOf l) (bitsOf (flips l at_ m k)) (BitVec.allOnes 32) (BitVec.allOnes 32) (by rw [bitsOf_length, bitsOf_length, hlen])
  have hz : List.zipWith xor (bitsOf l) (bitsOf (flips l at_ m k)) = List.replicate at_ false ++ (List.range k).map (fun j => m.testBit j) ++ List.replicate (8 * l.length - (at_ + k)) false := by
    apply List.ext_getElem?
    intro p
    rw [List.getElem?_zipWith]
    by_cases hp : p < 8 * l.length
    · rw [bitsOf_get l p hp, bitsOf_get _ p (by rw [hlen]; exact hp), flips_bit l at_ m p k hat]
      simp only [Bool.xor_left_inj, ← Bool.xor_assoc, Bool.xor_self, Bool.false_xor]
      by_cases h1 : p < at_
      · rw [List.append_assoc, List.getElem?_append_left (by simpa using h1), List.getElem?_replicate_of_lt h1, show decide (at_ ≤ p) = false by rw [decide_eq_false_iff_not]; omega]
        rfl
      · by_cases h2 : p < at_ + k
        · rw [List.getElem?_append_left (by simp; omega), List.getElem?_append_right (by simp; omega), List.length_replicate, List.getElem?_map, List.getElem?_range (by omega), show decide (at_ ≤ p) = true by rw [decide_eq_true_iff]; omega, show decide (p < at_ + k) = true by rw [decide_eq_true_iff]; omega]
          rfl
        · rw [List.getElem?_append_right (by simp; omega), List.getElem?_replicate_of_lt (by simp; omega), show decide (p < at_ + k) = false by rw [decide_eq_false_iff_not]; omega, Bool.and_false]
          rfl
    · rw [List.getElem?_eq_none (l := bitsOf l) (by rw [bitsOf_length]; omega), List.getElem?_eq_none (l := bitsOf (flips l at_ m k)) (by rw [bitsOf_length, hlen]; omega), List.getElem?_eq_none (by simp only [List.length_append, List.length_replicate, List.length_map, List.length_range]; omega)]
  rw [BitVec.xor_self, hz, hfl] at hx
  have hb := burst at_ (8 * l.length - (at_ + k)) ((List.range k).map (fun j => m.testBit j)) (by simpa using hk)
  rw [← hx, some_all] at hb
  have hfk := fits_left (flips l at_ m k) (by omega)
  rw [Bool.eq_iff_iff, hfk, ← hb]
  constructor
  · intro e
    rw [e, BitVec.xor_self]
  · intro e
    have h3 : left ^^^ (left ^^^ (bitsOf (flips l at_ m k)).foldl rbit (BitVec.allOnes 32)) = left ^^^ 0#32 := by rw [e]
    rwa [xss, BitVec.xor_zero] at h3
end Go.Proofs.Ytpgighcobmaecaa.Crc
