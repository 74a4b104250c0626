/- Two lists of rows, and two words, as arrays among the arguments. -/
import Derived.Test.YtpgighcobmaecaaRowK
import Derived.Test.YtpgighcobmaecaaRowA
set_option linter.unusedVariables false
set_option linter.unusedSimpArgs false
namespace Go.Proofs.Ytpgighcobmaecaa
open Go.ChangeShapes Go.WideShapes Go.ChangeAt Go.RowKit Go.Proofs.YtpgighcobmaecaaW.PrintWords Go.Proofs.Ytpgighcobmaecaa.Seal

section
variable {H : Type} {enc : TypeId × Value → H} {W : World}
theorem w2_of {xs : List Int} (hl : xs.length = 2) (hw : ∀ x ∈ xs, (Lit.int .u64 x).wf = true) : ∃ a b : V64, (xs.map (Value.int .u64)).toArray = #[.int .u64 (a.toNat : Int), .int .u64 (b.toNat : Int)] := by
  match xs, hl with
  | [x, y], _ =>
    obtain ⟨a, ha⟩ := wf_u64 (hw x (by simp))
    obtain ⟨b, hb⟩ := wf_u64 (hw y (by simp))
    exact ⟨a, b, by rw [ha, hb]; rfl⟩
theorem open_w2 {base : Nat} {v : Value} {d : DataW H} {p : List MemPlace} (hval : Value.okWide Try.prog W .any base 62 v) (h : DataW.Trod enc Try.prog W 0 (fun _ => true) true 62 v d p) :
    ∃ a b : V64, v = .agg #[.int .u64 (a.toNat : Int), .int .u64 (b.toNat : Int)] := by
  obtain ⟨xs, hl, rfl, hw⟩ := open_iarr Try.underlying62 Try.underlying50 (by kernel_rfl) (by kernel_rfl) hval h
  obtain ⟨a, b, e⟩ := w2_of hl hw
  exact ⟨a, b, by rw [e]⟩
theorem arr2 {cs : Array Value} (h : cs.size = 2) : ∃ x0 x1, cs = #[x0, x1] := by
  obtain ⟨l⟩ := cs
  match l, h with
  | [x0, x1], _ => exact ⟨x0, x1, rfl⟩
theorem one2 {x0 x1 x : Value} {i : Nat} (hi : i < 2) (h : (#[x0, x1] : Array Value)[i]? = some x) : ((Value.cells (.agg #[x0, x1])).toList.drop i).take 1 = [x] := by
  rcases (show i = 0 ∨ i = 1 by omega) with rfl | rfl
  · injection h with h
    rw [← h]
    rfl
  · injection h with h
    rw [← h]
    rfl
set_option maxRecDepth 100000 in
theorem open_lists2 {base : Nat} {v : Value} {d : DataW H} {p : List MemPlace} (hval : Value.okWide Try.prog W .any base 63 v) (h : DataW.Trod enc Try.prog W 0 (fun _ => true) true 63 v d p) :
    ∃ (A B : Option Addr) (c e : Nat) (l m : List (List UInt8)), v = .agg #[.slice A l.length c, .slice B m.length e] ∧ Kr.C W A l.length l ∧ Kr.C W B m.length m ∧ l.length ≤ maxLen ∧ m.length ≤ maxLen := by
  have ht := Try.underlying63
  obtain ⟨cs, rfl, hsz⟩ : ∃ cs, v = .agg cs ∧ cs.size = Try.prog.cellsOf 63 := by
    simp only [Value.okWide, ht] at hval
    obtain ⟨cs, h1, h2, _⟩ := hval
    exact ⟨cs, h1, h2⟩
  obtain ⟨fuel, hf⟩ := h
  obtain ⟨ys, m, _, hx, hl, hy, hget⟩ := DataW.trod_array ht hf
  have hc2 : Try.prog.cellsOf 63 = 2 := by kernel_rfl
  have hc1 : Try.prog.cellsOf 33 = 1 := by kernel_rfl
  rw [hc2] at hsz
  obtain ⟨x0, x1, rfl⟩ := arr2 hsz
  have one : ∀ i x, i < 2 → (#[x0, x1] : Array Value)[i]? = some x → ∃ (A : Option Addr) (c : Nat) (l : List (List UInt8)), x = .slice A l.length c ∧ Kr.C W A l.length l ∧ l.length ≤ maxLen := by
    intro i x hi hxi
    have h1 := hget i hi
    rw [List.getElem?_eq_getElem (by omega), hc1, Nat.mul_one] at h1
    have h2 := one2 hi hxi
    rw [h2] at h1
    obtain ⟨a, len, c, e1⟩ := Go.Joins.slice_form Try.underlying33 h1
    injection e1 with e1 _
    rw [e1] at h1 ⊢
    obtain ⟨l, rfl, hr, hc, hm⟩ := C_of_trod (Kd.slice 5 Kb) Try.underlying33 (by kernel_rfl) el_bytes h1
    exact ⟨a, c, l, rfl, hr, Nat.le_trans hc hm⟩
  obtain ⟨A, c, l, rfl, hr0, hm0⟩ := one 0 x0 (by decide) rfl
  obtain ⟨B, e, m, rfl, hr1, hm1⟩ := one 1 x1 (by decide) rfl
  exact ⟨A, B, c, e, l, m, rfl, hr0, hr1, hm0, hm1⟩
end
end Go.Proofs.Ytpgighcobmaecaa
