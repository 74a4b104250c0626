/- A sum and a list among the arguments, as one struct. -/
import Derived.Test.YtpgighcobmaecaaRowK
import Derived.Test.YtpgighcobmaecaaSealTells
import Derived.Lib.SmallJoins
set_option linter.unusedVariables false
set_option linter.unusedSimpArgs false
namespace Go.Proofs.Ytpgighcobmaecaa
open Go.ChangeShapes Go.WideShapes Go.ChangeAt Go.RowKit Go.Proofs.YtpgighcobmaecaaW.PrintWords Go.Proofs.Ytpgighcobmaecaa.Seal

section
variable {H : Type} {enc : TypeId × Value → H} {W : World}
/-- Cells that read as an array of bytes are bytes. -/
theorem cells_bytes {t : TypeId} {n fuel : Nat} {base : Nat} {held : Bool} {cs : List Value} {x : DataW H × List MemPlace} (ht : Try.prog.underlying t = some (.array n 5)) (hl : cs.length = n)
    (h : DataW.trod enc Try.prog W base (fun _ => true) held fuel t cs = some x) : ∃ l : List UInt8, l.length = n ∧ cs = l.map fun x => Value.int .u8 (x.toNat : Int) := by
  obtain ⟨ys, m, _, hx, _, hy, hget⟩ := DataW.trod_array ht h
  have hce : Try.prog.cellsOf 5 = 1 := by kernel_rfl
  have hcell : ∀ i (hi : i < cs.length), ∃ b : UInt8, cs[i] = .int .u8 (b.toNat : Int) := by
    intro i hi
    have h1 := hget i (by omega)
    rw [List.getElem?_eq_getElem (by omega), hce] at h1
    obtain ⟨z, hz, _, hw⟩ := DataW.trod_int Try.underlying5 h1
    obtain ⟨b, rfl⟩ := wf_u8' hw
    refine ⟨b, ?_⟩
    have h2 : (cs.drop (i * 1)).take 1 = [cs[i]] := by
      rw [Nat.mul_one, List.drop_eq_getElem_cons hi]
      rfl
    rw [h2] at hz
    injection hz
  refine ⟨List.ofFn (fun i : Fin cs.length => Classical.choose (hcell i.1 i.2)), by rw [List.length_ofFn, hl], ?_⟩
  apply List.ext_getElem
  · simp
  · intro i h1 h2
    simp only [List.getElem_map, List.getElem_ofFn]
    exact Classical.choose_spec (hcell i h1)
theorem open_ask {base : Nat} {v : Value} {d : DataW H} {p : List MemPlace} (hval : Value.okWide Try.prog W .any base 53 v) (h : DataW.Trod enc Try.prog W 0 (fun _ => true) true 53 v d p) :
    ∃ (ss : List UInt8) (A : Option Addr) (c : Nat) (l : List (List UInt8)), v = .agg (askC ss A l.length c) ∧ ss.length = 32 ∧ Kr.C W A l.length l ∧ l.length ≤ c ∧ l.length ≤ maxLen := by
  obtain ⟨cs, rfl, hsz⟩ := okWide_struct Try.underlying53 hval
  obtain ⟨fuel, hf⟩ := h
  obtain ⟨y0, y1, n, hx, hl, h0, h1⟩ := trod_struct2 Try.underlying53 hf
  have hc33 : Try.prog.cellsOf 53 = 33 := by kernel_rfl
  have hc32 : Try.prog.cellsOf 51 = 32 := by kernel_rfl
  have hc1 : Try.prog.cellsOf 33 = 1 := by kernel_rfl
  rw [hc33] at hl
  have hl' : cs.toList.length = 33 := hl
  have h0' : DataW.trod enc Try.prog W 0 (fun _ => true) true n 51 ((cs.toList.drop 0).take (Try.prog.cellsOf 51)) = some y0 := h0
  have h1' : DataW.trod enc Try.prog W 0 (fun _ => true) true n 33 ((cs.toList.drop 32).take (Try.prog.cellsOf 33)) = some y1 := h1
  rw [hc32, List.drop_zero] at h0'
  rw [hc1] at h1'
  obtain ⟨ss, hss, e0⟩ := cells_bytes (n := 32) Try.underlying51 (by rw [List.length_take, hl']; rfl) h0'
  obtain ⟨a, len, c, e1⟩ := Go.Joins.slice_form Try.underlying33 h1'
  rw [e1] at h1'
  obtain ⟨l, rfl, hr, hc, hm⟩ := C_of_trod (Kd.slice 5 Kb) Try.underlying33 (by kernel_rfl) el_bytes h1'
  refine ⟨ss, a, c, l, ?_, hss, hr, hc, Nat.le_trans hc hm⟩
  congr 1
  apply Array.toList_inj.1
  rw [← List.take_append_drop 32 cs.toList, e0, ← List.take_of_length_le (l := cs.toList.drop 32) (i := 1) (by rw [List.length_drop, hl']; decide), e1]
  rfl
end
end Go.Proofs.Ytpgighcobmaecaa
