/- Numbers as few bytes, in plain Lean: what the program's layer 11 and its reference compute. -/
import Derived.Laws.BitsAllLaws
set_option linter.unusedVariables false
set_option linter.unusedSimpArgs false
namespace Go.Proofs.YtpgighcobmaecaaDoor.Vi

/-- How many bytes a number has (nought: none). -/
def need0 (v : Nat) : Nat := if h : v = 0 then 0 else 1 + need0 (v / 256)
termination_by v
decreasing_by omega
/-- The lowest k bytes of a number, the highest first. -/
def be (v : Nat) : Nat → List UInt8
  | 0 => []
  | k + 1 => UInt8.ofNat (v / 256 ^ k) :: be v k
def enc (v : Nat) : List UInt8 := if v < 248 then [UInt8.ofNat v] else UInt8.ofNat (247 + need0 v) :: be v (need0 v)
def size (v : Nat) : Nat := if v < 248 then 1 else 1 + need0 v
def val (l : List UInt8) : Nat := l.foldl (fun v c => v * 256 + c.toNat) 0
def getS : List UInt8 → Option (Nat × Nat)
  | [] => none
  | b :: r => if b.toNat < 248 then some (b.toNat, 1)
    else if r.length < b.toNat - 247 ∨ r.getD 0 0 = 0 ∨ val (r.take (b.toNat - 247)) < 248 then none
    else some (val (r.take (b.toNat - 247)), 1 + (b.toNat - 247))

theorem need0_zero : need0 0 = 0 := by rw [need0, dif_pos rfl]
theorem need0_pos {v : Nat} (h : 0 < v) : need0 v = 1 + need0 (v / 256) := by rw [need0, dif_neg (by omega)]
theorem be_length (v : Nat) : ∀ k, (be v k).length = k
  | 0 => rfl
  | k + 1 => by rw [be, List.length_cons, be_length v k]
theorem need0_lt : ∀ (v : Nat), v < 256 ^ need0 v := by
  intro v
  induction v using Nat.strongRecOn with
  | ind v ih =>
    rcases Nat.eq_zero_or_pos v with rfl | h
    · rw [need0_zero]; decide
    · rw [need0_pos h, Nat.add_comm, Nat.pow_succ]
      have := ih (v / 256) (by omega)
      omega
theorem need0_ge : ∀ (v : Nat), 0 < v → 256 ^ (need0 v - 1) ≤ v := by
  intro v
  induction v using Nat.strongRecOn with
  | ind v ih =>
    intro h
    rw [need0_pos h, Nat.add_sub_cancel_left]
    rcases Nat.eq_zero_or_pos (v / 256) with h0 | h0
    · rw [h0, need0_zero, Nat.pow_zero]; omega
    · have h1 := ih (v / 256) (by omega) h0
      have h2 : need0 (v / 256) = (need0 (v / 256) - 1) + 1 := by
        have : 0 < need0 (v / 256) := by rw [need0_pos h0]; omega
        omega
      rw [h2, Nat.pow_succ]
      omega
theorem need0_eq {v n : Nat} (h1 : 256 ^ n ≤ v) (h2 : v < 256 ^ (n + 1)) : need0 v = n + 1 := by
  have hv : 0 < v := Nat.lt_of_lt_of_le (Nat.pow_pos (by decide)) h1
  have h3 := need0_lt v
  have h4 := need0_ge v hv
  have hp : 0 < need0 v := by rw [need0_pos hv]; omega
  have h5 : n < need0 v := by
    rcases Nat.lt_or_ge n (need0 v) with h | h
    · exact h
    · exact absurd (Nat.lt_of_lt_of_le h3 (Nat.pow_le_pow_right (by decide) h)) (by omega)
  have h6 : need0 v - 1 < n + 1 := by
    rcases Nat.lt_or_ge (need0 v - 1) (n + 1) with h | h
    · exact h
    · exact absurd (Nat.le_trans (Nat.pow_le_pow_right (by decide) h) h4) (by omega)
  omega
theorem need0_le {v : Nat} (h : v < 18446744073709551616) : need0 v ≤ 8 := by
  rcases Nat.eq_zero_or_pos v with rfl | hv
  · rw [need0_zero]; decide
  · have h4 := need0_ge v hv
    rcases Nat.lt_or_ge (need0 v - 1) 8 with h8 | h8
    · omega
    · have := Nat.le_trans (Nat.pow_le_pow_right (n := 256) (by decide) h8) h4
      have e : (256 : Nat) ^ 8 = 18446744073709551616 := by decide
      omega
theorem val_snoc (l : List UInt8) (c : UInt8) : val (l ++ [c]) = val l * 256 + c.toNat := by
  unfold val
  rw [List.foldl_append]
  rfl
theorem val_lt (l : List UInt8) : val l < 256 ^ l.length := by
  suffices h : ∀ n (l : List UInt8), l.length = n → val l < 256 ^ n from h _ l rfl
  intro n
  induction n with
  | zero =>
    intro l hl
    rw [List.eq_nil_of_length_eq_zero hl]
    decide
  | succ n ih =>
    intro l hl
    rcases List.eq_nil_or_concat l with rfl | ⟨l', c, rfl⟩
    · simp at hl
    · rw [List.concat_eq_append, val_snoc]
      have h1 := ih l' (by simpa using hl)
      have h2 := c.toNat_lt
      rw [Nat.pow_succ]
      omega
theorem val_cons (c : UInt8) (l : List UInt8) : val (c :: l) = c.toNat * 256 ^ l.length + val l := by
  suffices h : ∀ n (l : List UInt8), l.length = n → val (c :: l) = c.toNat * 256 ^ n + val l from h _ l rfl
  intro n
  induction n with
  | zero =>
    intro l hl
    rw [List.eq_nil_of_length_eq_zero hl]
    show 0 * 256 + c.toNat = c.toNat * 256 ^ 0 + 0
    omega
  | succ n ih =>
    intro l hl
    rcases List.eq_nil_or_concat l with rfl | ⟨l', d, rfl⟩
    · simp at hl
    · rw [List.concat_eq_append, ← List.cons_append, val_snoc, val_snoc, ih l' (by simpa using hl), Nat.pow_succ, Nat.add_mul, ← Nat.mul_assoc]
      omega
theorem be_mod (v : Nat) : ∀ k n, k ≤ n → be (v % 256 ^ n) k = be v k
  | 0, _, _ => rfl
  | k + 1, n, h => by
    rw [be, be, be_mod v k n (by omega)]
    congr 1
    apply UInt8.toNat_inj.1
    rw [UInt8.toNat_ofNat', UInt8.toNat_ofNat']
    obtain ⟨d, rfl⟩ : ∃ d, n = (k + 1) + d := ⟨n - (k + 1), by omega⟩
    show (v % 256 ^ (k + 1 + d)) / 256 ^ k % 256 = v / 256 ^ k % 256
    rw [Nat.pow_add, Nat.pow_succ, Nat.mul_assoc, Nat.mod_mul_right_div_self, Nat.mod_mul_right_mod]
theorem val_be (v : Nat) : ∀ k, val (be v k) = v % 256 ^ k
  | 0 => by simp [be, val, Nat.mod_one]
  | k + 1 => by
    have e : v % 256 ^ (k + 1) = v % 256 ^ k + 256 ^ k * (v / 256 ^ k % 256) := by rw [Nat.pow_succ, Nat.mod_mul]
    rw [be, val_cons, val_be v k, be_length, UInt8.toNat_ofNat', e, Nat.mul_comm (256 ^ k), Nat.add_comm]
theorem be_val (l : List UInt8) : be (val l) l.length = l := by
  induction l with
  | nil => rfl
  | cons c l ih =>
    rw [List.length_cons, be, val_cons]
    have h1 := val_lt l
    congr 1
    · apply UInt8.toNat_inj.1
      rw [UInt8.toNat_ofNat', Nat.mul_comm, Nat.mul_add_div (Nat.pow_pos (by decide)), Nat.div_eq_of_lt h1]
      have := c.toNat_lt
      show (c.toNat + 0) % 256 = c.toNat
      omega
    · rw [← be_mod _ l.length l.length (Nat.le_refl _), Nat.mul_comm, Nat.mul_add_mod, Nat.mod_eq_of_lt h1, ih]
theorem enc_length {v : Nat} : (enc v).length = size v := by
  unfold enc size
  split
  · rfl
  · rw [List.length_cons, be_length, Nat.add_comm]
/-- The reference looks whether the number's own bytes are these. -/
theorem get_ref (b : UInt8) (r : List UInt8) (hb : ¬ b.toNat < 248) (hr : ¬ r.length < b.toNat - 247) :
    (enc (val (r.take (b.toNat - 247))) = b :: r.take (b.toNat - 247)) ↔ ¬ (r.getD 0 0 = 0 ∨ val (r.take (b.toNat - 247)) < 248) := by
  have hb2 := b.toNat_lt
  obtain ⟨n, hn⟩ : ∃ n, b.toNat - 247 = n + 1 := ⟨b.toNat - 248, by omega⟩
  rw [hn] at hr ⊢
  match r, hr with
  | [], hr => simp at hr
  | c :: r, hr =>
    have hl : (r.take n).length = n := by rw [List.length_take]; simp at hr; omega
    rw [List.take_succ_cons]
    show _ ↔ ¬ (c = 0 ∨ _)
    have hv := val_lt (c :: r.take n)
    rw [List.length_cons, hl] at hv
    have hv64 : val (c :: r.take n) < 18446744073709551616 := by
      have := Nat.pow_le_pow_right (n := 256) (by decide) (show n + 1 ≤ 8 by omega)
      have e : (256 : Nat) ^ 8 = 18446744073709551616 := by decide
      omega
    have hcons := val_cons c (r.take n)
    rw [hl] at hcons
    have hbv := be_val (c :: r.take n)
    rw [List.length_cons, hl] at hbv
    generalize val (c :: r.take n) = v at *
    constructor
    · intro he
      rintro (h0 | h0)
      · by_cases h248 : v < 248
        · unfold enc at he
          rw [if_pos h248] at he
          simp at he
        · unfold enc at he
          rw [if_neg h248] at he
          injection he with h1 h2
          have h3 := congrArg List.length h2
          rw [be_length, List.length_cons, hl] at h3
          have h4 := need0_ge v (by omega)
          rw [h3, Nat.add_sub_cancel] at h4
          have h5 := val_lt (r.take n)
          rw [hl] at h5
          subst h0
          simp at hcons
          omega
      · unfold enc at he
        rw [if_pos h0] at he
        simp at he
    · intro h
      have hc : c ≠ 0 := fun e => h (.inl e)
      have h248 : ¬ v < 248 := fun e => h (.inr e)
      have hc1 : 1 ≤ c.toNat := by
        rcases Nat.eq_zero_or_pos c.toNat with e | e
        · exact absurd (UInt8.toNat_inj.1 (by simpa using e)) hc
        · exact e
      have hge : 256 ^ n ≤ v := by
        rw [hcons]
        have := Nat.mul_le_mul_right (256 ^ n) hc1
        omega
      have hneed := need0_eq hge hv
      have hb3 : UInt8.ofNat (247 + (n + 1)) = b := by
        rw [show 247 + (n + 1) = b.toNat by omega]
        exact UInt8.ofNat_toNat
      unfold enc
      rw [if_neg h248, hneed, hbv, hb3]
def gv (o : Option (Nat × Nat)) : Nat := (o.map (·.1)).getD 0
def gn (o : Option (Nat × Nat)) : Nat := (o.map (·.2)).getD 0
def ge (o : Option (Nat × Nat)) : Option Int := if o.isSome then none else some 3
theorem getS_small (b : UInt8) (r : List UInt8) (h : b.toNat < 248) : getS (b :: r) = some (b.toNat, 1) := by simp only [getS]; rw [if_pos h]
theorem getS_bad (b : UInt8) (r : List UInt8) (h : ¬ b.toNat < 248) (k : r.length < b.toNat - 247 ∨ r.getD 0 0 = 0 ∨ val (r.take (b.toNat - 247)) < 248) : getS (b :: r) = none := by simp only [getS]; rw [if_neg h, if_pos k]
theorem getS_ok (b : UInt8) (r : List UInt8) (h : ¬ b.toNat < 248) (k : ¬ (r.length < b.toNat - 247 ∨ r.getD 0 0 = 0 ∨ val (r.take (b.toNat - 247)) < 248)) : getS (b :: r) = some (val (r.take (b.toNat - 247)), 1 + (b.toNat - 247)) := by simp only [getS]; rw [if_neg h, if_neg k]
theorem val_lt64 (l : List UInt8) (h : l.length ≤ 8) : val l < 18446744073709551616 := by
  have h1 := val_lt l
  have h2 := Nat.pow_le_pow_right (n := 256) (by decide) h
  have e : (256 : Nat) ^ 8 = 18446744073709551616 := by decide
  omega
theorem getS_lt {l : List UInt8} {v n : Nat} (h : getS l = some (v, n)) : v < 18446744073709551616 ∧ n ≤ 9 ∧ 1 ≤ n ∧ n ≤ l.length := by
  match l with
  | [] => cases h
  | b :: r =>
    have hb := b.toNat_lt
    by_cases h1 : b.toNat < 248
    · rw [getS_small b r h1] at h
      injection h with h
      injection h with h2 h3
      subst h2 h3
      refine ⟨by omega, by omega, by omega, by simp⟩
    · by_cases h2 : r.length < b.toNat - 247 ∨ r.getD 0 0 = 0 ∨ val (r.take (b.toNat - 247)) < 248
      · rw [getS_bad b r h1 h2] at h
        cases h
      · rw [getS_ok b r h1 h2] at h
        injection h with h
        injection h with h3 h4
        subst h3 h4
        refine ⟨val_lt64 _ (by rw [List.length_take]; omega), by omega, by omega, ?_⟩
        rw [List.length_cons]
        have : ¬ r.length < b.toNat - 247 := fun k => h2 (.inl k)
        omega
theorem or64 (v : Nat) (c : UInt8) (h : v < 72057594037927936) : bits .or .u64 ((v : Int) * 256 % 18446744073709551616) ((c.toNat : Int) % 18446744073709551616) = ((v * 256 + c.toNat : Nat) : Int) := by
  have hc := c.toNat_lt
  rw [show ((v : Int) * 256 % 18446744073709551616) = ((v * 256 : Nat) : Int) by omega, show ((c.toNat : Int) % 18446744073709551616) = ((c.toNat : Nat) : Int) by omega, u64_or_nat _ _ (by omega) (by omega)]
  have e := Nat.shiftLeft_add_eq_or_of_lt (i := 8) (b := c.toNat) (by omega) v
  rw [Nat.shiftLeft_eq] at e
  rw [← e]
theorem getS_ref (b : UInt8) (r : List UInt8) (h : ¬ b.toNat < 248) (hr : ¬ r.length < b.toNat - 247) (v : Nat) (q : List UInt8) (hq : q = r.take (b.toNat - 247)) (hv : v = val q) :
    getS (b :: r) = if enc v = b :: q then some (v, 1 + (b.toNat - 247)) else none := by
  have hg := get_ref b r h hr
  rw [← hq, ← hv] at hg
  by_cases he : enc v = b :: q
  · have h2 := hg.1 he
    rw [if_pos he, getS_ok b r h (by rw [← hq, ← hv]; exact fun k => k.elim hr h2), ← hq, ← hv]
  · rw [if_neg he]
    have h2 : r.getD 0 0 = 0 ∨ v < 248 := by
      rcases Nat.lt_or_ge v 248 with k | k
      · exact .inr k
      · by_cases h0 : r.getD 0 0 = 0
        · exact .inl h0
        · exact absurd (hg.2 (fun e => e.elim h0 (fun e => by omega))) he
    exact getS_bad b r h (by rw [← hq, ← hv]; exact .inr h2)
theorem enc_small (b : UInt8) (h : b.toNat < 248) : enc b.toNat = [b] := by
  unfold enc
  rw [if_pos h]
  simp
theorem be_succ_front (v k : Nat) : be v (k + 1) = UInt8.ofNat (v / 256 ^ k) :: be v k := rfl
end Go.Proofs.YtpgighcobmaecaaDoor.Vi
