/- What was put is got; the order of numbers is their bytes' order: in plain Lean. -/
import Derived.Test.YtpgighcobmaecaaDoorVarintSpec
import GoSem.Op.String
set_option linter.unusedVariables false
set_option linter.unusedSimpArgs false
namespace Go.Proofs.YtpgighcobmaecaaDoor.Vi

/-- The first byte of a number's bytes, and how many follow it. -/
theorem enc_head {v : Nat} (hv : v < 18446744073709551616) : ∃ (b : UInt8) (r : List UInt8), enc v = b :: r ∧ ((v < 248 ∧ b.toNat = v ∧ r = []) ∨ (¬ v < 248 ∧ b.toNat = 247 + need0 v ∧ 1 ≤ need0 v ∧ need0 v ≤ 8 ∧ r = be v (need0 v))) := by
  by_cases h : v < 248
  · refine ⟨UInt8.ofNat v, [], by unfold enc; rw [if_pos h], .inl ⟨h, ?_, rfl⟩⟩
    rw [UInt8.toNat_ofNat']
    omega
  · have h8 := need0_le hv
    have h1 : 1 ≤ need0 v := by rw [need0_pos (by omega)]; omega
    refine ⟨UInt8.ofNat (247 + need0 v), be v (need0 v), by unfold enc; rw [if_neg h], .inr ⟨h, ?_, h1, h8, rfl⟩⟩
    rw [UInt8.toNat_ofNat']
    omega
theorem val_be_need (v : Nat) : val (be v (need0 v)) = v := by rw [val_be, Nat.mod_eq_of_lt (need0_lt v)]
theorem be_first {v : Nat} (hv : 0 < v) (l : List UInt8) : ((be v (need0 v) ++ l).getD 0 0) ≠ 0 := by
  have h1 : 0 < need0 v := by rw [need0_pos hv]; omega
  obtain ⟨k, hk⟩ : ∃ k, need0 v = k + 1 := ⟨need0 v - 1, by omega⟩
  have hlt := need0_lt v
  have hge := need0_ge v hv
  rw [hk] at hlt hge ⊢
  rw [Nat.add_sub_cancel] at hge
  rw [Nat.pow_succ] at hlt
  have hd1 : 1 ≤ v / 256 ^ k := (Nat.one_le_div_iff (Nat.pow_pos (by decide))).2 hge
  have hd2 : v / 256 ^ k < 256 := (Nat.div_lt_iff_lt_mul (Nat.pow_pos (by decide))).2 (by rw [Nat.mul_comm]; exact hlt)
  show UInt8.ofNat (v / 256 ^ k) ≠ 0
  intro e
  have := congrArg UInt8.toNat e
  rw [UInt8.toNat_ofNat'] at this
  have h0 : (0 : UInt8).toNat = 0 := rfl
  rw [h0] at this
  omega
theorem getS_enc {v : Nat} (hv : v < 18446744073709551616) (l : List UInt8) : getS (enc v ++ l) = some (v, size v) := by
  obtain ⟨b, r, he, ⟨h, hb, rfl⟩ | ⟨h, hb, h1, h8, rfl⟩⟩ := enc_head hv
  · rw [he, List.singleton_append, getS_small b l (by omega), hb]
    unfold size
    rw [if_pos h]
  · have hl : (be v (need0 v)).length = need0 v := be_length _ _
    have e : b.toNat - 247 = need0 v := by omega
    have ht : (be v (need0 v) ++ l).take (b.toNat - 247) = be v (need0 v) := by rw [e, List.take_append_of_le_length (by omega), List.take_of_length_le (by omega)]
    rw [he, List.cons_append, getS_ok b _ (by omega) (by rw [ht, val_be_need, List.length_append]; rintro (k | k | k) <;> first | omega | exact be_first (by omega) l k), ht, val_be_need, e]
    unfold size
    rw [if_neg h]
theorem getS_cut {v : Nat} (hv : v < 18446744073709551616) : getS ((enc v).take ((enc v).length - 1)) = none := by
  obtain ⟨b, r, he, ⟨h, hb, rfl⟩ | ⟨h, hb, h1, h8, rfl⟩⟩ := enc_head hv
  · rw [he]
    rfl
  · have hl : (be v (need0 v)).length = need0 v := be_length _ _
    obtain ⟨k, hk⟩ : ∃ k, need0 v = k + 1 := ⟨need0 v - 1, by omega⟩
    rw [he, List.length_cons, hl, Nat.add_sub_cancel, hk, List.take_succ_cons]
    exact getS_bad b _ (by omega) (.inl (by rw [List.length_take]; omega))
theorem less_be (v w : Nat) : ∀ k, Op.bytesLess (be v k) (be w k) = decide (v % 256 ^ k < w % 256 ^ k)
  | 0 => by simp [be, Op.bytesLess, Nat.mod_one]
  | k + 1 => by
    have ev : v % 256 ^ (k + 1) = v % 256 ^ k + 256 ^ k * (v / 256 ^ k % 256) := by rw [Nat.pow_succ, Nat.mod_mul]
    have ew : w % 256 ^ (k + 1) = w % 256 ^ k + 256 ^ k * (w / 256 ^ k % 256) := by rw [Nat.pow_succ, Nat.mod_mul]
    rw [be, be, Op.bytesLess, less_be v w k, ev, ew]
    have hp : 0 < 256 ^ k := Nat.pow_pos (by decide)
    have hv := Nat.mod_lt v hp
    have hw := Nat.mod_lt w hp
    have a1 : (UInt8.ofNat (v / 256 ^ k)).toNat = v / 256 ^ k % 256 := UInt8.toNat_ofNat'
    have a2 : (UInt8.ofNat (w / 256 ^ k)).toNat = w / 256 ^ k % 256 := UInt8.toNat_ofNat'
    generalize UInt8.ofNat (v / 256 ^ k) = x at *
    generalize UInt8.ofNat (w / 256 ^ k) = y at *
    generalize v / 256 ^ k % 256 = p at *
    generalize w / 256 ^ k % 256 = q at *
    generalize 256 ^ k = P at *
    generalize v % P = v' at *
    generalize w % P = w' at *
    rcases Nat.lt_trichotomy p q with h | h | h
    · have hxy : x < y := by rw [UInt8.lt_iff_toNat_lt]; omega
      have hm := Nat.mul_le_mul_left P (Nat.succ_le_of_lt h)
      rw [Nat.mul_succ] at hm
      rw [decide_eq_true hxy, Bool.true_or]
      exact (decide_eq_true (by omega)).symm
    · have hxy : x = y := UInt8.toNat_inj.1 (by omega)
      subst hxy h
      have hn : ¬ x < x := by rw [UInt8.lt_iff_toNat_lt]; omega
      rw [decide_eq_false hn, Bool.false_or, beq_self_eq_true, Bool.true_and]
      exact decide_eq_decide.2 (by omega)
    · have hn : ¬ x < y := by rw [UInt8.lt_iff_toNat_lt]; omega
      have hne : (x == y) = false := by
        rw [beq_eq_false_iff_ne]
        rintro rfl
        omega
      have hm := Nat.mul_le_mul_left P (Nat.succ_le_of_lt h)
      rw [Nat.mul_succ] at hm
      rw [decide_eq_false hn, hne, Bool.false_or, Bool.false_and]
      exact (decide_eq_false (by omega)).symm
theorem less_cons_lt {x y : UInt8} (h : x.toNat < y.toNat) (a b : List UInt8) : Op.bytesLess (x :: a) (y :: b) = true := by
  have : x < y := by rw [UInt8.lt_iff_toNat_lt]; exact h
  rw [Op.bytesLess, decide_eq_true this, Bool.true_or]
theorem less_cons_gt {x y : UInt8} (h : y.toNat < x.toNat) (a b : List UInt8) : Op.bytesLess (x :: a) (y :: b) = false := by
  have h1 : ¬ x < y := by rw [UInt8.lt_iff_toNat_lt]; omega
  have h2 : (x == y) = false := by
    rw [beq_eq_false_iff_ne]
    rintro rfl
    omega
  rw [Op.bytesLess, decide_eq_false h1, h2, Bool.false_or, Bool.false_and]
theorem less_cons_eq {x y : UInt8} (h : x.toNat = y.toNat) (a b : List UInt8) : Op.bytesLess (x :: a) (y :: b) = Op.bytesLess a b := by
  obtain rfl : x = y := UInt8.toNat_inj.1 h
  have h1 : ¬ x < x := by rw [UInt8.lt_iff_toNat_lt]; omega
  rw [Op.bytesLess, decide_eq_false h1, Bool.false_or, beq_self_eq_true, Bool.true_and]
theorem need0_mono_lt {v w : Nat} (h : need0 v < need0 w) : v < w := by
  have hw : 0 < w := by
    rcases Nat.eq_zero_or_pos w with rfl | h0
    · rw [need0_zero] at h; omega
    · exact h0
  have h1 := need0_lt v
  have h2 := need0_ge w hw
  have h3 := Nat.pow_le_pow_right (n := 256) (by decide) (show need0 v ≤ need0 w - 1 by omega)
  omega
theorem less_enc {v w : Nat} (hv : v < 18446744073709551616) (hw : w < 18446744073709551616) : Op.bytesLess (enc v) (enc w) = decide (v < w) := by
  obtain ⟨b, r, he, hb⟩ := enc_head hv
  obtain ⟨b2, r2, he2, hb2⟩ := enc_head hw
  rw [he, he2]
  rcases hb with ⟨h, hb, rfl⟩ | ⟨h, hb, h1, h8, rfl⟩
  · rcases hb2 with ⟨h2, hb2, rfl⟩ | ⟨h2, hb2, k1, k8, rfl⟩
    · rcases Nat.lt_trichotomy v w with k | k | k
      · rw [less_cons_lt (by omega), decide_eq_true k]
      · rw [less_cons_eq (by omega), decide_eq_false (by omega)]
        rfl
      · rw [less_cons_gt (by omega), decide_eq_false (by omega)]
    · rw [less_cons_lt (by omega), decide_eq_true (by omega)]
  · rcases hb2 with ⟨h2, hb2, rfl⟩ | ⟨h2, hb2, k1, k8, rfl⟩
    · rw [less_cons_gt (by omega), decide_eq_false (by omega)]
    · rcases Nat.lt_trichotomy (need0 v) (need0 w) with k | k | k
      · rw [less_cons_lt (by omega), decide_eq_true (need0_mono_lt k)]
      · have e1 := Nat.mod_eq_of_lt (need0_lt v)
        have e2 := Nat.mod_eq_of_lt (need0_lt w)
        rw [less_cons_eq (by omega), ← k, less_be, e1]
        rw [← k] at e2
        rw [e2]
      · have := need0_mono_lt k
        rw [less_cons_gt (by omega), decide_eq_false (by omega)]
/-- No number's bytes are the beginning of another one's. -/
theorem enc_prefix {v w : Nat} (hv : v < 18446744073709551616) (hw : w < 18446744073709551616) (h : (enc v).length < (enc w).length) : enc v ≠ (enc w).take (enc v).length := by
  obtain ⟨b, r, he, hb⟩ := enc_head hv
  obtain ⟨b2, r2, he2, hb2⟩ := enc_head hw
  intro e
  rw [he, he2] at e
  rw [he, he2] at h
  rw [List.length_cons, List.take_succ_cons] at e
  injection e with e1 e2
  subst e1
  have l1 := be_length v (need0 v)
  have l2 := be_length w (need0 w)
  rcases hb with ⟨h, hb, rfl⟩ | ⟨h, hb, h1, h8, rfl⟩ <;> rcases hb2 with ⟨h2, hb2, rfl⟩ | ⟨h2, hb2, k1, k8, rfl⟩ <;> simp only [List.length_cons, List.length_nil] at h <;> omega
theorem size_pos (v : Nat) : 1 ≤ size v := by unfold size; split <;> omega
theorem size_le {v : Nat} (hv : v < 18446744073709551616) : size v ≤ 9 := by
  have := need0_le hv
  unfold size
  split <;> omega
end Go.Proofs.YtpgighcobmaecaaDoor.Vi
