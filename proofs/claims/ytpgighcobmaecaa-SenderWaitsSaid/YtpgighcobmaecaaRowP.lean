/- A [][2]int among the arguments. -/
import Derived.Test.YtpgighcobmaecaaRowK
set_option linter.unusedVariables false
set_option linter.unusedSimpArgs false
namespace Go.Proofs.Ytpgighcobmaecaa
open Go.ChangeShapes Go.WideShapes Go.ChangeAt Go.RowKit Go.Proofs.YtpgighcobmaecaaW.PrintWords

theorem two_of {α : Type} {l : List α} (h : l.length = 2) : ∃ a b, l = [a, b] := by
  match l, h with
  | [a, b], _ => exact ⟨a, b, rfl⟩
/-- Two whole numbers, one behind the other. -/
abbrev Kp : Kd (Int × Int) := Kd.pair (Kd.int .i64) (Kd.int .i64)
section
variable {H : Type} {enc : TypeId × Value → H} {W : World}
set_option maxRecDepth 100000 in
theorem el_pair {base : Nat} {held : Bool} (m : Nat) (cs : List Value) (y : DataW H × List MemPlace) (h : DataW.trod enc Try.prog W base (fun _ => true) held m 47 cs = some y) : ∃ x : Int × Int, Kp.K W x cs := by
  obtain ⟨ys, n, _, hx, hl, hy, hget⟩ := DataW.trod_array Try.underlying47 h
  have hc : Try.prog.cellsOf 3 = 1 := by kernel_rfl
  have hl2 : cs.length = 2 := by rw [hl]; kernel_rfl
  obtain ⟨a, b, rfl⟩ := two_of hl2
  have h0 := hget 0 (by decide)
  have h1 := hget 1 (by decide)
  rw [List.getElem?_eq_getElem (by omega), hc] at h0 h1
  obtain ⟨z0, e0, _, _⟩ := DataW.trod_int Try.underlying3 h0
  obtain ⟨z1, e1, _, _⟩ := DataW.trod_int Try.underlying3 h1
  have e0' : [a] = [Value.int .i64 z0] := e0
  have e1' : [b] = [Value.int .i64 z1] := e1
  injection e0' with e0'
  injection e1' with e1'
  subst e0' e1'
  exact ⟨(z0, z1), [.int .i64 z0], [.int .i64 z1], rfl, rfl, rfl⟩
theorem open_pairs {base : Nat} {v : Value} {d : DataW H} {p : List MemPlace} (hval : Value.okWide Try.prog W .any base 45 v) (h : DataW.Trod enc Try.prog W 0 (fun _ => true) true 45 v d p) :
    ∃ (A : Option Addr) (c : Nat) (l : List (Int × Int)), v = .slice A l.length c ∧ Kp.C W A l.length l ∧ l.length ≤ c ∧ l.length ≤ maxLen := by
  obtain ⟨a0, len0, cap0, rfl⟩ := okWide_slice Try.underlying45 hval
  obtain ⟨fuel, hf⟩ := h
  obtain ⟨l, rfl, hr, hc, hm⟩ := C_of_trod Kp Try.underlying45 (by kernel_rfl) el_pair hf
  exact ⟨a0, cap0, l, rfl, hr, hc, Nat.le_trans hc hm⟩
end
theorem at_p {w : World} {A : Option Addr} {n : Nat} {l : List (Int × Int)} (h : Kp.C w A n l) (i : Nat) (hi : i < n) :
    ∃ ad, A = some ad ∧ w.cell? (ad.add (i * 2)) = some (.int .i64 (l.getD i (0, 0)).1) ∧ w.cell? ⟨(ad.add (i * 2)).block, (ad.add (i * 2)).off + 1, none⟩ = some (.int .i64 (l.getD i (0, 0)).2) := by
  obtain ⟨ad, cs, rfl, hl, ⟨c0, c1, e, h0, h1⟩, hcell⟩ := Kd.C_get h (0, 0) (i : Int) (by omega) (by omega)
  rw [Int.toNat_natCast] at h0 h1 hcell
  have h0' : c0 = [.int .i64 (l.getD i (0, 0)).1] := h0
  have h1' : c1 = [.int .i64 (l.getD i (0, 0)).2] := h1
  subst h0' h1' e
  refine ⟨ad, rfl, hcell 0 _ rfl, ?_⟩
  rw [← add_pos _ 1 (by decide), add_add]
  exact hcell 1 _ rfl
end Go.Proofs.Ytpgighcobmaecaa
