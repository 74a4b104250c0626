/- mac.Check. -/
import Derived.Test.YtpgighcobmaecaaMacOf
set_option linter.unusedVariables false
set_option linter.unusedSimpArgs false
namespace Go.Proofs.Ytpgighcobmaecaa.Mac
open Go.RowKit Go.Proofs.YtpgighcobmaecaaW.PrintWords Go.Proofs.YtpgighcobmaecaaW.PrintLast Go.Proofs.Ytpgighcobmaecaa.Sha Go.Proofs.Ytpgighcobmaecaa.Seal

def f40_r1.T1 : Bool × List (List Nat × List Nat) := (true, [([], []), ([], []), ([0, 1], [0, 1]), ([], []), ([2, 3], [2, 3]), ([4, 2, 0, 1, 2, 3, 4], [4])])
def f40_r1.B1 : List Nat := [0, 0, 3, 0, 15, 31]
theorem f40_r1.tab1 : Go.Proofs.YtpgighcobmaecaaW.PrintLast.rtab .any (Go.Proofs.YtpgighcobmaecaaW.PrintLast.opsOf Try.f40 1) = f40_r1.T1 := by kernel_rfl
theorem f40_r1.bits1 : Go.Proofs.YtpgighcobmaecaaW.PrintLast.waitsOk f40_r1.T1.2 f40_r1.B1 = true := by kernel_rfl
theorem Check_calls (A B : Option Addr) (c d n m : Nat) (key txt s : List UInt8) (V : List UInt8) (hV : V = macOf key txt) (v : Bool) (hv : v = (V == s)) (hsl : s.length = 32) (w : World) (hn : key.length = n) (hm : txt.length = m) (hr : Kb.C w A n key) (hs : Kb.C w B m txt) (hl : n ≤ 1000000) (hl2 : m ≤ 100000) :
    Calls Try.prog 40 #[.slice A n c, .slice B m d, .agg (e8 s)] w fun e w' => e = .returned (.bool v) ∧ Below w.heap.size w w' := by
  have HVL := Aside0.mk (show V.length = 32 by rw [hV]; exact sum_len _)
  have heq := fun w => (eq32 V s HVL.out hsl w).trans (by rw [← hv])
  have HZ := Aside0.mk (sz32 s hsl)
  have HB0 := Aside0.mk (show Below w.heap.size w (w.alloc (.cells (e8 s) 51)).drew from below_drew (below_new _))
  have HV := Aside0.mk hV
  have HN := Aside0.mk hn
  have HM := Aside0.mk hm
  have HR := Aside0.mk hr
  have HS := Aside0.mk hs
  clear hV hv hsl hn hm hr hs
  go_enter Try.func40, Try.ntmps40
  go_wp2
  refine start_ (n := 6) (S := fun w' => Blk w' w.heap.size 51 (e8 s) ∧ True) (ds := []) #[false, false, false, false, false, false] (by kernel_rfl) rfl rfl ⟨blk_drew (blk_new w _), trivial⟩ (fun hHeld => ?_)
  refine with_tabW f40_r1.tab1 f40_r1.bits1 (fun HT_ HW_ => ?_)
  refine pure_ (i := 0) (N := some 7) (v := ?_) (a' := ?_) #[true, false, false, false, false, false] rfl rfl (any_of HT_.out (by kernel_rfl)) (fun _ _ _ h => h) (Or.inl ⟨by rfl, ?_⟩) ?_ ?_
  rotate_left
  · intro w'
    go_simp
    with_reducible rfl
  rotate_left
  · simp only [Act.put, List.setIfInBounds_toArray, List.set_cons_zero, List.set_cons_succ, i64_w, i32_w]
    rfl
  refine pure_ (i := 1) (N := some 8) (v := ?_) (a' := ?_) #[true, true, false, false, false, false] rfl rfl (any_of HT_.out (by kernel_rfl)) (fun _ _ _ h => h) (Or.inl ⟨by rfl, ?_⟩) ?_ ?_
  rotate_left
  · intro w'
    go_simp
    with_reducible rfl
  rotate_left
  · simp only [Act.put, List.setIfInBounds_toArray, List.set_cons_zero, List.set_cons_succ, i64_w, i32_w]
    rfl
  refine take_ (i := 3) (N := some 10) (v := ?_) (a' := ?_) #[true, true, false, true, false, false] rfl rfl (take_ofW HT_.out HW_.out (by kernel_rfl)) (fun _ _ _ h => h) (Or.inl ⟨by rfl, ?_⟩) hHeld ?_ ?_
  rotate_left
  · intro w' s0
    refine Eq.trans (exec_load_row 51 (.tmp 5) (by rfl) w.heap.size 51 (e8 s) _ (by rfl) s0.1 Try.underlying51 rfl HZ.out) ?_
    with_reducible rfl
  rotate_left
  · simp only [Act.put, List.setIfInBounds_toArray, List.set_cons_zero, List.set_cons_succ, i64_w, i32_w]
    rfl
  refine one_ (i := 2) (N := some 9) #[true, true, true, true, false, false] rfl rfl (one_of HT_.out (by kernel_rfl)) (by decide) (fun K hK => ?_)
  refine goes_ Try.func39 (by kernel_rfl) rfl #[.slice A n c, .slice B m d] (by rfl) rfl rfl (by (try simp only [List.map_toArray, List.map_cons, List.map_nil]); first | done | rfl) ?_
  with_reducible refine (MacOf_calls A B c d n m key txt V HV.out _ HN.out HM.out (Kd.C_below HR.out HB0.out) (Kd.C_below HS.out HB0.out) hl hl2).mono ?_
  rintro e w1 ⟨rfl, hb1⟩
  refine ⟨_, rfl, ?_⟩
  have HB1 := Aside0.mk (below_then HB0.out (by have := HB0.out.size; omega) hb1)
  refine hK.out _ _ ⟨(blk_below hHeld.1 hb1), trivial⟩ (fun hHeld => ?_)
  clear hK K
  refine norm_ (a' := ?_) ?_ ?_
  rotate_left
  · show Act.put _ (some 9) _ = _
    simp only [Act.put, List.setIfInBounds_toArray, List.set_cons_zero, List.set_cons_succ, i64_w, i32_w]
    rfl
  refine pure_ (i := 4) (N := some 11) (v := ?_) (a' := ?_) #[true, true, true, true, true, false] rfl rfl (any_of HT_.out (by kernel_rfl)) (fun _ _ _ h => h) (Or.inl ⟨by rfl, ?_⟩) ?_ ?_
  rotate_left
  · intro w'
    go_simp
    with_reducible rfl
  rotate_left
  · simp only [Act.put, List.setIfInBounds_toArray, List.set_cons_zero, List.set_cons_succ, i64_w, i32_w]
    rfl
  refine pure_ (i := 5) (N := some 6) (v := ?_) (a' := ?_) #[true, true, true, true, true, true] rfl rfl (any_of HT_.out (by kernel_rfl)) (fun _ _ _ h => h) (Or.inl ⟨by rfl, ?_⟩) ?_ ?_
  rotate_left
  · intro w'
    go_simp
    with_reducible rfl
  rotate_left
  · simp only [Act.put, List.setIfInBounds_toArray, List.set_cons_zero, List.set_cons_succ, i64_w, i32_w]
    rfl
  refine done_ (done_of HT_.out (by kernel_rfl)) ?_
  go_wp2
  go_ret
  exact ⟨rfl, HB1.out⟩
end Go.Proofs.Ytpgighcobmaecaa.Mac
