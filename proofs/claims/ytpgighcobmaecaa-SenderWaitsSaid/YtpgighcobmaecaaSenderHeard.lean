/- Package sender: Heard. -/
import Derived.Test.YtpgighcobmaecaaSenderOut
set_option linter.unusedVariables false
set_option linter.unusedSimpArgs false
namespace Go.Proofs.Ytpgighcobmaecaa.Sn
open Go.RowKit Go.Proofs.YtpgighcobmaecaaW.PrintWords Go.Proofs.YtpgighcobmaecaaW.PrintLast

set_option maxRecDepth 100000 in
set_option maxHeartbeats 4000000 in
theorem Heard_no (w : World) (p ep sq st lf : Nat) (v : Value) (l : List (List UInt8)) (h : So w p ep sq st lf v l) (e s : Int) (hno : e ≠ (ep : Int) ∨ s ≠ (sq : Int) ∨ l = []) :
    Calls Try.prog 23 #[.pointer (some ⟨p, 0, none⟩), .int .i64 e, .int .i64 s] w fun r w' => r = .returned (.bool false) ∧ w = w' := by
  obtain ⟨A0, c0, rfl, hc⟩ := h.val
  have h0 := h.c0
  have h1 := h.c1
  have h2 := h.c2
  clear h
  by_cases he : e = (ep : Int)
  · by_cases hs : s = (sq : Int)
    · have hl : l = [] := (hno.resolve_left (fun k => k he)).resolve_left (fun k => k hs)
      subst hl he hs
      have e1 : w.cell? ⟨p, 2, none⟩ = some (.slice A0 0 c0) := h2
      clear h2
      go_enter Try.func23, Try.ntmps23
      go_wp2
      go_ret
      exact ⟨rfl, rfl⟩
    · subst he
      have e2 : (s == (sq : Int)) = false := beq_eq_false_iff_ne.2 hs
      go_enter Try.func23, Try.ntmps23
      go_wp2
      go_ret
      exact ⟨rfl, rfl⟩
  · have e2 : (e == (ep : Int)) = false := beq_eq_false_iff_ne.2 he
    go_enter Try.func23, Try.ntmps23
    go_wp2
    go_ret
    exact ⟨rfl, rfl⟩
set_option maxRecDepth 100000 in
set_option maxHeartbeats 4000000 in
theorem Heard_yes (w : World) (p ep sq st lf : Nat) (v : Value) (b : List UInt8) (r : List (List UInt8)) (h : So w p ep sq st lf v (b :: r)) (e s : Int) (he : e = (ep : Int)) (hs : s = (sq : Int)) (hq : sq ≤ 1073741824) :
    Calls Try.prog 23 #[.pointer (some ⟨p, 0, none⟩), .int .i64 e, .int .i64 s] w fun e w' => e = .returned (.bool true) ∧ (∃ v', So w' p ep (sq + 1) 0 0 v' r ∧ v'.ownBlock = v.ownBlock) ∧ Below p w w' ∧ Kept w w' p v := by
  subst he hs
  obtain ⟨g, c, A1, c1, hv, hc, hpg, hgs, _, _, _⟩ := h.head
  subst hv
  have h0 := h.c0
  have h1 := h.c1
  have h2 := h.c2
  have hne : ((r.length : Int) + 1 == 0) = false := by rw [beq_eq_false_iff_ne]; omega
  have HD := Aside0.mk (Delete_q w (p + 1) g r.length c 0 0 1 (b :: r) rfl rfl h.row (Nat.zero_le _) hc h.lt)
  have H := Aside0.mk h
  clear h
  go_enter Try.func23, Try.ntmps23
  go_wp2_with (go_at_call 44; (with_reducible refine HD.out.mono ?_); rintro e w2 ⟨rfl, hR2, hg2⟩; have hb2 := blk_grown H.out.blk hg2 (fun e => by injection e with e; omega); have HK := Aside0.mk hb2; have HR2 := Aside0.mk hR2; have HG2 := Aside0.mk hg2; have k1 : w2.cell? ⟨p, 1, none⟩ = some (.int .i64 (sq : Int)) := blk_cell hb2 1; have k2 : w2.cell? ⟨p, 2, none⟩ = some (.slice (some ⟨g, 0, none⟩) (r.length + 1) c) := blk_cell hb2 2; have k3 : w2.cell? ⟨p, 3, none⟩ = some (.int .i64 (st : Int)) := blk_cell hb2 3; have k4 : w2.cell? ⟨p, 4, none⟩ = some (.int .i64 (lf : Int)) := blk_cell hb2 4; have f1 := blk_frozen hb2 1; have f2 := blk_frozen hb2 2; have f3 := blk_frozen hb2 3; have f4 := blk_frozen hb2 4; clear hR2 hg2 hb2)
  go_ret
  refine ⟨rfl, ⟨_, (((So.set2 HK.out HR2.out).set1 (sq + 1) _ (by omega)).set3 0 _ rfl).set4 0 _ rfl, rfl⟩, ?_, ?_⟩
  · have hB := (Below.refl p w).grown HG2.out (Nat.le_of_lt H.out.lt) (fun k e => by injection e with e; omega)
    exact (((hB.setCell (Nat.le_refl p) _).setCell (Nat.le_refl p) _).setCell (Nat.le_refl p) _).setCell (Nat.le_refl p) _
  · exact ((((show Kept w w2 p (.slice (some ⟨g, 0, none⟩) (r.length + 1) c) from fun k h1 h2 h3 => HG2.out.block k h1 h3).set _ _).set _ _).set _ _).set _ _
end Go.Proofs.Ytpgighcobmaecaa.Sn
