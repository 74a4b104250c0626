/- Package sender: Out and Heard. -/
import Derived.Test.YtpgighcobmaecaaSender
set_option linter.unusedVariables false
set_option linter.unusedSimpArgs false
namespace Go.Proofs.Ytpgighcobmaecaa.Sn
open Go.RowKit Go.Proofs.YtpgighcobmaecaaW.PrintWords Go.Proofs.YtpgighcobmaecaaW.PrintLast

/-- The first of what waits, where there is one. -/
theorem So.head {W : World} {p ep sq st lf : Nat} {v : Value} {b : List UInt8} {r : List (List UInt8)} (h : So W p ep sq st lf v (b :: r)) :
    ∃ g c A1 c1, v = .slice (some ⟨g, 0, none⟩) (r.length + 1) c ∧ r.length + 1 ≤ c ∧ p < g ∧ g < W.heap.size ∧ W.cell? ⟨g, 0, none⟩ = some (.slice A1 b.length c1) ∧ Kb.C W A1 b.length b ∧ b.length ≤ c1 := by
  obtain ⟨g, c, rfl, hg, hgs, _⟩ := Kd.R_form h.row (by simp)
  obtain ⟨_, hc, hC⟩ := Kd.R_reads' h.row
  obtain ⟨ad, cs, e, hl, ⟨A1, c1, rfl, hc1, hK⟩, hcell⟩ := Kd.C_get hC [] 0 (by decide) (by simp)
  injection e with e
  subst e
  refine ⟨g, c, A1, c1, rfl, by simpa using hc, hg, hgs, ?_, hK, hc1⟩
  have := hcell 0 _ rfl
  simpa [Addr.add] using this
section
variable (w : World) (p ep sq st lf : Nat) (v : Value) (l : List (List UInt8)) (h : So w p ep sq st lf v l)
include h
set_option maxRecDepth 100000 in
theorem Out_no (hno : l = [] ∨ 0 < lf) : Calls Try.prog 21 #[.pointer (some ⟨p, 0, none⟩)] w fun e w' => e = .returned (.tuple #[.int .i64 0, .slice none 0 0, .bool false]) ∧ w = w' := by
  obtain ⟨A0, c0, rfl, hc⟩ := h.val
  have h2 := h.c2
  have h4 := h.c4
  clear h
  by_cases hl : l = []
  · subst hl
    have e1 : w.cell? ⟨p, 2, none⟩ = some (.slice A0 0 c0) := h2
    clear h2
    go_enter Try.func21, Try.ntmps21
    go_wp2
    go_ret3
    exact ⟨rfl, rfl⟩
  · have hlf : 0 < lf := hno.resolve_left hl
    have e1 : ((l.length : Int) == 0) = false := by
      rw [beq_eq_false_iff_ne]
      have := List.length_pos_iff.2 hl
      omega
    have e2 : decide (0 < lf) = true := decide_eq_true hlf
    have e3 : (l == []) = false := by simpa using hl
    go_enter Try.func21, Try.ntmps21
    go_wp2
    go_ret3
    exact ⟨rfl, rfl⟩
end
def wait (st : Nat) : Nat := 3 * 2 ^ st
def f21_r5.T5 : Bool × List (List Nat × List Nat) := (true, [([], []), ([0], [0]), ([1], [1]), ([2], [2]), ([], []), ([4], [4]), ([5], [5]), ([6], [6]), ([7], [7]), ([8], [8]), ([9], [9]), ([3, 10, 0, 1, 2, 3], [3]), ([10, 11, 0, 1, 2, 3, 4, 5, 6, 7, 8, 9, 10, 11], [10]), ([12, 0, 1, 2, 3, 4, 5, 6, 7, 8, 9, 10, 11, 12], [])])
def f21_r5.B5 : List Nat := [0, 1, 3, 7, 0, 16, 48, 112, 240, 496, 1008, 2047, 4095, 8191]
theorem f21_r5.tab5 : Go.Proofs.YtpgighcobmaecaaW.PrintLast.rtab .any (Go.Proofs.YtpgighcobmaecaaW.PrintLast.opsOf Try.f21 5) = f21_r5.T5 := by kernel_rfl
theorem f21_r5.bits5 : Go.Proofs.YtpgighcobmaecaaW.PrintLast.waitsOk f21_r5.T5.2 f21_r5.B5 = true := by kernel_rfl
set_option maxRecDepth 100000 in
set_option maxHeartbeats 4000000 in
theorem Out_0 (w : World) (p ep sq : Nat) (v : Value) (b : List UInt8) (r : List (List UInt8)) (h : So w p ep sq 0 0 v (b :: r)) (hb : b.length ≤ 8192) :
    Calls Try.prog 21 #[.pointer (some ⟨p, 0, none⟩)] w fun e w' => ∃ A c, e = .returned (.tuple #[.int .i64 (sq : Int), .slice A b.length c, .bool true]) ∧ Bs w' w.heap.size (.slice A b.length c) b ∧ So w' p ep sq 1 3 v (b :: r) ∧ Below p w w' ∧ Kept w w' p v := by
  obtain ⟨g, c, A1, c1, hv, hc, hpg, hgs, hcell, hK, hc1⟩ := h.head
  subst hv
  have h1 := h.c1
  have h2 := h.c2
  have h3 : w.cell? ⟨p, 3, none⟩ = some (.int .i64 0) := h.c3
  have f3 := h.frozen 3
  have h4 : w.cell? ⟨p, 4, none⟩ = some (.int .i64 0) := h.c4
  have f4 := h.frozen 4
  obtain ⟨w3, hw3⟩ : ∃ w3, w3 = (w.setCell ⟨p, 4, none⟩ (.int .i64 3)).setCell ⟨p, 3, none⟩ (.int .i64 1) := ⟨_, rfl⟩
  have H3 := Aside0.mk (show So w3.drew p ep sq 1 3 (.slice (some ⟨g, 0, none⟩) (r.length + 1) c) (b :: r) by
    rw [hw3]
    exact ((h.set4 3 _ rfl).set3 1 _ rfl).below (Below.drew (Below.refl _ _)))
  have HB3 := Aside0.mk (show Below p w w3.drew by
    rw [hw3]
    exact Below.drew (((Below.refl p w).setCell (Nat.le_refl p) _).setCell (Nat.le_refl p) _))
  obtain ⟨g', c', A3, c3, ev, _, _, _, hcell3, hK3, _⟩ := H3.out.head
  injection ev with ev1 _ ev3
  injection ev1 with ev1
  injection ev1 with ev1
  subst ev1 ev3
  have HP3 := Aside0.mk (show Kept w w3.drew p (.slice (some ⟨g, 0, none⟩) (r.length + 1) c) ∧ w3.drew.heap.size = w.heap.size by
    rw [hw3]
    exact ⟨((Kept.refl _ _ _).set _ _).set _ _, by simp [World.setCell, World.drew]⟩)
  have HC3 := Aside0.mk hcell3
  have HK3 := Aside0.mk hK3
  have HW3 := Aside0.mk hw3
  clear h hcell hK hcell3 hK3 hw3
  go_enter Try.func21, Try.ntmps21
  go_wp2
  rw [← HW3.out]
  clear h1 h2 h3 h4 f3 f4
  refine start_ (n := 14) (S := fun w' => So w' p ep sq 1 3 (.slice (some ⟨g, 0, none⟩) (r.length + 1) c) (b :: r) ∧ w'.cell? ⟨g, 0, none⟩ = some (.slice A3 b.length c3) ∧ True) (ds := []) #[false, false, false, false, false, false, false, false, false, false, false, false, false, false] (by kernel_rfl) rfl rfl ⟨H3.out, HC3.out, trivial⟩ (fun hHeld => ?_)
  refine with_tabW f21_r5.tab5 f21_r5.bits5 (fun HT_ HW_ => ?_)
  generalize w3.drew = w4 at H3 HB3 HC3 HK3 HP3 hHeld ⊢
  refine pure_ (i := 0) (N := some 40) (v := ?_) (a' := ?_) #[true, false, false, false, false, false, false, false, false, false, false, false, false, false] rfl rfl (any_of HT_.out (by kernel_rfl)) (fun _ _ _ h => h) (Or.inl ⟨by rfl, ?_⟩) ?_ ?_
  rotate_left
  · intro w'
    go_simp
    with_reducible rfl
  rotate_left
  · simp only [Act.put, List.setIfInBounds_toArray, List.set_cons_zero, List.set_cons_succ, i64_w, i32_w]
    rfl
  refine pure_ (i := 1) (N := some 41) (v := ?_) (a' := ?_) #[true, true, false, false, false, false, false, false, false, false, false, false, false, false] rfl rfl (any_of HT_.out (by kernel_rfl)) (fun _ _ _ h => h) (Or.inl ⟨by rfl, ?_⟩) ?_ ?_
  rotate_left
  · intro w'
    go_simp
    with_reducible rfl
  rotate_left
  · simp only [Act.put, List.setIfInBounds_toArray, List.set_cons_zero, List.set_cons_succ, i64_w, i32_w]
    rfl
  refine pure_ (i := 2) (N := some 42) (v := ?_) (a' := ?_) #[true, true, true, false, false, false, false, false, false, false, false, false, false, false] rfl rfl (any_of HT_.out (by kernel_rfl)) (fun _ _ _ h => h) (Or.inl ⟨by rfl, ?_⟩) ?_ ?_
  rotate_left
  · intro w'
    go_simp
    with_reducible rfl
  rotate_left
  · simp only [Act.put, List.setIfInBounds_toArray, List.set_cons_zero, List.set_cons_succ, i64_w, i32_w]
    rfl
  refine pure_ (i := 4) (N := some 44) (v := ?_) (a' := ?_) #[true, true, true, false, true, false, false, false, false, false, false, false, false, false] rfl rfl (any_of HT_.out (by kernel_rfl)) (fun _ _ _ h => h) (Or.inl ⟨by rfl, ?_⟩) ?_ ?_
  rotate_left
  · intro w'
    go_simp
    with_reducible rfl
  rotate_left
  · simp only [Act.put, List.setIfInBounds_toArray, List.set_cons_zero, List.set_cons_succ, i64_w, i32_w]
    rfl
  refine pure_ (i := 5) (N := some 45) (v := ?_) (a' := ?_) #[true, true, true, false, true, true, false, false, false, false, false, false, false, false] rfl rfl (any_of HT_.out (by kernel_rfl)) (fun _ _ _ h => h) (Or.inl ⟨by rfl, ?_⟩) ?_ ?_
  rotate_left
  · intro w'
    go_simp
    with_reducible rfl
  rotate_left
  · simp only [Act.put, List.setIfInBounds_toArray, List.set_cons_zero, List.set_cons_succ, i64_w, i32_w]
    rfl
  refine pure_ (i := 6) (N := some 46) (v := ?_) (a' := ?_) #[true, true, true, false, true, true, true, false, false, false, false, false, false, false] rfl rfl (any_of HT_.out (by kernel_rfl)) (fun _ _ _ h => h) (Or.inl ⟨by rfl, ?_⟩) ?_ ?_
  rotate_left
  · intro w'
    go_simp
    with_reducible rfl
  rotate_left
  · simp only [Act.put, List.setIfInBounds_toArray, List.set_cons_zero, List.set_cons_succ, i64_w, i32_w]
    rfl
  refine take_ (i := 3) (N := some 43) (v := ?_) (a' := ?_) #[true, true, true, true, true, true, true, false, false, false, false, false, false, false] rfl rfl (take_ofW HT_.out HW_.out (by kernel_rfl)) (fun _ _ _ h => h) (Or.inl ⟨by rfl, ?_⟩) hHeld ?_ ?_
  rotate_left
  · intro w' s0
    have e := s0.1.c1
    go_simp
    with_reducible rfl
  rotate_left
  · simp only [Act.put, List.setIfInBounds_toArray, List.set_cons_zero, List.set_cons_succ, i64_w, i32_w]
    rfl
  refine take_ (i := 7) (N := some 47) (v := ?_) (a' := ?_) #[true, true, true, true, true, true, true, true, false, false, false, false, false, false] rfl rfl (take_ofW HT_.out HW_.out (by kernel_rfl)) (fun _ _ _ h => h) (Or.inl ⟨by rfl, ?_⟩) hHeld ?_ ?_
  rotate_left
  · intro w' s0
    have e := s0.1.c2
    go_simp
    with_reducible rfl
  rotate_left
  · simp only [Act.put, List.setIfInBounds_toArray, List.set_cons_zero, List.set_cons_succ, i64_w, i32_w]
    rfl
  refine pure_ (i := 8) (N := some 48) (v := ?_) (a' := ?_) #[true, true, true, true, true, true, true, true, true, false, false, false, false, false] rfl rfl (any_of HT_.out (by kernel_rfl)) (fun _ _ _ h => h) (Or.inl ⟨by rfl, ?_⟩) ?_ ?_
  rotate_left
  · intro w'
    go_simp
    with_reducible rfl
  rotate_left
  · simp only [Act.put, List.setIfInBounds_toArray, List.set_cons_zero, List.set_cons_succ, i64_w, i32_w]
    rfl
  refine take_ (i := 9) (N := some 49) (v := ?_) (a' := ?_) #[true, true, true, true, true, true, true, true, true, true, false, false, false, false] rfl rfl (take_ofW HT_.out HW_.out (by kernel_rfl)) (fun _ _ _ h => h) (Or.inl ⟨by rfl, ?_⟩) hHeld ?_ ?_
  rotate_left
  · intro w' s0
    have e := s0.2.1
    go_simp
    with_reducible rfl
  rotate_left
  · simp only [Act.put, List.setIfInBounds_toArray, List.set_cons_zero, List.set_cons_succ, i64_w, i32_w]
    rfl
  refine one_ (i := 10) (N := some 50) #[true, true, true, true, true, true, true, true, true, true, true, false, false, false] rfl rfl (one_of HT_.out (by kernel_rfl)) (by decide) (fun K hK => ?_)
  refine goes_ Try.func43 (by kernel_rfl) rfl #[.slice A3 b.length c3] (by rfl) rfl rfl (by (try simp only [List.map_toArray, List.map_cons, List.map_nil]); first | done | rfl) ?_
  with_reducible refine (Clone_v A3 c3 b.length b w4 rfl HK3.out (by omega) b rfl).mono ?_
  rintro e w5 ⟨A5, c5, rfl, hB5, hb5⟩
  refine ⟨_, rfl, ?_⟩
  have HB5 := Aside0.mk (HB3.out.trans (hb5.mono (Nat.le_of_lt H3.out.lt)))
  have HS5 := Aside0.mk (H3.out.below hb5)
  have HR5 := Aside0.mk (hB5.lower (Nat.le_of_eq HP3.out.2.symm))
  have HP5 := Aside0.mk (HP3.out.1.below (Nat.le_of_eq HP3.out.2.symm) hb5)
  refine hK.out _ _ ⟨(So.below hHeld.1 hb5), (pw_cell_below hb5 hHeld.2.1), trivial⟩ (fun hHeld => ?_)
  clear hK K
  refine norm_ (a' := ?_) ?_ ?_
  rotate_left
  · show Act.put _ (some 50) _ = _
    simp only [Act.put, List.setIfInBounds_toArray, List.set_cons_zero, List.set_cons_succ, i64_w, i32_w]
    rfl
  refine pure_ (i := 11) (N := some 2) (v := ?_) (a' := ?_) #[true, true, true, true, true, true, true, true, true, true, true, true, false, false] rfl rfl (any_of HT_.out (by kernel_rfl)) (fun _ _ _ h => h) (Or.inl ⟨by rfl, ?_⟩) ?_ ?_
  rotate_left
  · intro w'
    go_simp
    with_reducible rfl
  rotate_left
  · simp only [Act.put, List.setIfInBounds_toArray, List.set_cons_zero, List.set_cons_succ, i64_w, i32_w]
    rfl
  refine pure_ (i := 12) (N := some 3) (v := ?_) (a' := ?_) #[true, true, true, true, true, true, true, true, true, true, true, true, true, false] rfl rfl (any_of HT_.out (by kernel_rfl)) (fun _ _ _ h => h) (Or.inl ⟨by rfl, ?_⟩) ?_ ?_
  rotate_left
  · intro w'
    go_simp
    with_reducible rfl
  rotate_left
  · simp only [Act.put, List.setIfInBounds_toArray, List.set_cons_zero, List.set_cons_succ, i64_w, i32_w]
    rfl
  refine pure_ (i := 13) (N := some 4) (v := ?_) (a' := ?_) #[true, true, true, true, true, true, true, true, true, true, true, true, true, true] rfl rfl (any_of HT_.out (by kernel_rfl)) (fun _ _ _ h => h) (Or.inl ⟨by rfl, ?_⟩) ?_ ?_
  rotate_left
  · intro w'
    go_simp
    with_reducible rfl
  rotate_left
  · simp only [Act.put, List.setIfInBounds_toArray, List.set_cons_zero, List.set_cons_succ, i64_w, i32_w]
    rfl
  refine done_ (done_of HT_.out (by kernel_rfl)) ?_
  go_wp2
  go_ret3
  exact ⟨A5, c5, rfl, HR5.out, HS5.out, HB5.out, HP5.out⟩
set_option maxRecDepth 100000 in
set_option maxHeartbeats 4000000 in
theorem Out_1 (w : World) (p ep sq : Nat) (v : Value) (b : List UInt8) (r : List (List UInt8)) (h : So w p ep sq 1 0 v (b :: r)) (hb : b.length ≤ 8192) :
    Calls Try.prog 21 #[.pointer (some ⟨p, 0, none⟩)] w fun e w' => ∃ A c, e = .returned (.tuple #[.int .i64 (sq : Int), .slice A b.length c, .bool true]) ∧ Bs w' w.heap.size (.slice A b.length c) b ∧ So w' p ep sq 2 6 v (b :: r) ∧ Below p w w' ∧ Kept w w' p v := by
  obtain ⟨g, c, A1, c1, hv, hc, hpg, hgs, hcell, hK, hc1⟩ := h.head
  subst hv
  have h1 := h.c1
  have h2 := h.c2
  have h3 : w.cell? ⟨p, 3, none⟩ = some (.int .i64 1) := h.c3
  have f3 := h.frozen 3
  have h4 : w.cell? ⟨p, 4, none⟩ = some (.int .i64 0) := h.c4
  have f4 := h.frozen 4
  obtain ⟨w3, hw3⟩ : ∃ w3, w3 = (w.setCell ⟨p, 4, none⟩ (.int .i64 6)).setCell ⟨p, 3, none⟩ (.int .i64 2) := ⟨_, rfl⟩
  have H3 := Aside0.mk (show So w3.drew p ep sq 2 6 (.slice (some ⟨g, 0, none⟩) (r.length + 1) c) (b :: r) by
    rw [hw3]
    exact ((h.set4 6 _ rfl).set3 2 _ rfl).below (Below.drew (Below.refl _ _)))
  have HB3 := Aside0.mk (show Below p w w3.drew by
    rw [hw3]
    exact Below.drew (((Below.refl p w).setCell (Nat.le_refl p) _).setCell (Nat.le_refl p) _))
  obtain ⟨g', c', A3, c3, ev, _, _, _, hcell3, hK3, _⟩ := H3.out.head
  injection ev with ev1 _ ev3
  injection ev1 with ev1
  injection ev1 with ev1
  subst ev1 ev3
  have HP3 := Aside0.mk (show Kept w w3.drew p (.slice (some ⟨g, 0, none⟩) (r.length + 1) c) ∧ w3.drew.heap.size = w.heap.size by
    rw [hw3]
    exact ⟨((Kept.refl _ _ _).set _ _).set _ _, by simp [World.setCell, World.drew]⟩)
  have HC3 := Aside0.mk hcell3
  have HK3 := Aside0.mk hK3
  have HW3 := Aside0.mk hw3
  clear h hcell hK hcell3 hK3 hw3
  go_enter Try.func21, Try.ntmps21
  go_wp2
  rw [← HW3.out]
  clear h1 h2 h3 h4 f3 f4
  refine start_ (n := 14) (S := fun w' => So w' p ep sq 2 6 (.slice (some ⟨g, 0, none⟩) (r.length + 1) c) (b :: r) ∧ w'.cell? ⟨g, 0, none⟩ = some (.slice A3 b.length c3) ∧ True) (ds := []) #[false, false, false, false, false, false, false, false, false, false, false, false, false, false] (by kernel_rfl) rfl rfl ⟨H3.out, HC3.out, trivial⟩ (fun hHeld => ?_)
  refine with_tabW f21_r5.tab5 f21_r5.bits5 (fun HT_ HW_ => ?_)
  generalize w3.drew = w4 at H3 HB3 HC3 HK3 HP3 hHeld ⊢
  refine pure_ (i := 0) (N := some 40) (v := ?_) (a' := ?_) #[true, false, false, false, false, false, false, false, false, false, false, false, false, false] rfl rfl (any_of HT_.out (by kernel_rfl)) (fun _ _ _ h => h) (Or.inl ⟨by rfl, ?_⟩) ?_ ?_
  rotate_left
  · intro w'
    go_simp
    with_reducible rfl
  rotate_left
  · simp only [Act.put, List.setIfInBounds_toArray, List.set_cons_zero, List.set_cons_succ, i64_w, i32_w]
    rfl
  refine pure_ (i := 1) (N := some 41) (v := ?_) (a' := ?_) #[true, true, false, false, false, false, false, false, false, false, false, false, false, false] rfl rfl (any_of HT_.out (by kernel_rfl)) (fun _ _ _ h => h) (Or.inl ⟨by rfl, ?_⟩) ?_ ?_
  rotate_left
  · intro w'
    go_simp
    with_reducible rfl
  rotate_left
  · simp only [Act.put, List.setIfInBounds_toArray, List.set_cons_zero, List.set_cons_succ, i64_w, i32_w]
    rfl
  refine pure_ (i := 2) (N := some 42) (v := ?_) (a' := ?_) #[true, true, true, false, false, false, false, false, false, false, false, false, false, false] rfl rfl (any_of HT_.out (by kernel_rfl)) (fun _ _ _ h => h) (Or.inl ⟨by rfl, ?_⟩) ?_ ?_
  rotate_left
  · intro w'
    go_simp
    with_reducible rfl
  rotate_left
  · simp only [Act.put, List.setIfInBounds_toArray, List.set_cons_zero, List.set_cons_succ, i64_w, i32_w]
    rfl
  refine pure_ (i := 4) (N := some 44) (v := ?_) (a' := ?_) #[true, true, true, false, true, false, false, false, false, false, false, false, false, false] rfl rfl (any_of HT_.out (by kernel_rfl)) (fun _ _ _ h => h) (Or.inl ⟨by rfl, ?_⟩) ?_ ?_
  rotate_left
  · intro w'
    go_simp
    with_reducible rfl
  rotate_left
  · simp only [Act.put, List.setIfInBounds_toArray, List.set_cons_zero, List.set_cons_succ, i64_w, i32_w]
    rfl
  refine pure_ (i := 5) (N := some 45) (v := ?_) (a' := ?_) #[true, true, true, false, true, true, false, false, false, false, false, false, false, false] rfl rfl (any_of HT_.out (by kernel_rfl)) (fun _ _ _ h => h) (Or.inl ⟨by rfl, ?_⟩) ?_ ?_
  rotate_left
  · intro w'
    go_simp
    with_reducible rfl
  rotate_left
  · simp only [Act.put, List.setIfInBounds_toArray, List.set_cons_zero, List.set_cons_succ, i64_w, i32_w]
    rfl
  refine pure_ (i := 6) (N := some 46) (v := ?_) (a' := ?_) #[true, true, true, false, true, true, true, false, false, false, false, false, false, false] rfl rfl (any_of HT_.out (by kernel_rfl)) (fun _ _ _ h => h) (Or.inl ⟨by rfl, ?_⟩) ?_ ?_
  rotate_left
  · intro w'
    go_simp
    with_reducible rfl
  rotate_left
  · simp only [Act.put, List.setIfInBounds_toArray, List.set_cons_zero, List.set_cons_succ, i64_w, i32_w]
    rfl
  refine take_ (i := 3) (N := some 43) (v := ?_) (a' := ?_) #[true, true, true, true, true, true, true, false, false, false, false, false, false, false] rfl rfl (take_ofW HT_.out HW_.out (by kernel_rfl)) (fun _ _ _ h => h) (Or.inl ⟨by rfl, ?_⟩) hHeld ?_ ?_
  rotate_left
  · intro w' s0
    have e := s0.1.c1
    go_simp
    with_reducible rfl
  rotate_left
  · simp only [Act.put, List.setIfInBounds_toArray, List.set_cons_zero, List.set_cons_succ, i64_w, i32_w]
    rfl
  refine take_ (i := 7) (N := some 47) (v := ?_) (a' := ?_) #[true, true, true, true, true, true, true, true, false, false, false, false, false, false] rfl rfl (take_ofW HT_.out HW_.out (by kernel_rfl)) (fun _ _ _ h => h) (Or.inl ⟨by rfl, ?_⟩) hHeld ?_ ?_
  rotate_left
  · intro w' s0
    have e := s0.1.c2
    go_simp
    with_reducible rfl
  rotate_left
  · simp only [Act.put, List.setIfInBounds_toArray, List.set_cons_zero, List.set_cons_succ, i64_w, i32_w]
    rfl
  refine pure_ (i := 8) (N := some 48) (v := ?_) (a' := ?_) #[true, true, true, true, true, true, true, true, true, false, false, false, false, false] rfl rfl (any_of HT_.out (by kernel_rfl)) (fun _ _ _ h => h) (Or.inl ⟨by rfl, ?_⟩) ?_ ?_
  rotate_left
  · intro w'
    go_simp
    with_reducible rfl
  rotate_left
  · simp only [Act.put, List.setIfInBounds_toArray, List.set_cons_zero, List.set_cons_succ, i64_w, i32_w]
    rfl
  refine take_ (i := 9) (N := some 49) (v := ?_) (a' := ?_) #[true, true, true, true, true, true, true, true, true, true, false, false, false, false] rfl rfl (take_ofW HT_.out HW_.out (by kernel_rfl)) (fun _ _ _ h => h) (Or.inl ⟨by rfl, ?_⟩) hHeld ?_ ?_
  rotate_left
  · intro w' s0
    have e := s0.2.1
    go_simp
    with_reducible rfl
  rotate_left
  · simp only [Act.put, List.setIfInBounds_toArray, List.set_cons_zero, List.set_cons_succ, i64_w, i32_w]
    rfl
  refine one_ (i := 10) (N := some 50) #[true, true, true, true, true, true, true, true, true, true, true, false, false, false] rfl rfl (one_of HT_.out (by kernel_rfl)) (by decide) (fun K hK => ?_)
  refine goes_ Try.func43 (by kernel_rfl) rfl #[.slice A3 b.length c3] (by rfl) rfl rfl (by (try simp only [List.map_toArray, List.map_cons, List.map_nil]); first | done | rfl) ?_
  with_reducible refine (Clone_v A3 c3 b.length b w4 rfl HK3.out (by omega) b rfl).mono ?_
  rintro e w5 ⟨A5, c5, rfl, hB5, hb5⟩
  refine ⟨_, rfl, ?_⟩
  have HB5 := Aside0.mk (HB3.out.trans (hb5.mono (Nat.le_of_lt H3.out.lt)))
  have HS5 := Aside0.mk (H3.out.below hb5)
  have HR5 := Aside0.mk (hB5.lower (Nat.le_of_eq HP3.out.2.symm))
  have HP5 := Aside0.mk (HP3.out.1.below (Nat.le_of_eq HP3.out.2.symm) hb5)
  refine hK.out _ _ ⟨(So.below hHeld.1 hb5), (pw_cell_below hb5 hHeld.2.1), trivial⟩ (fun hHeld => ?_)
  clear hK K
  refine norm_ (a' := ?_) ?_ ?_
  rotate_left
  · show Act.put _ (some 50) _ = _
    simp only [Act.put, List.setIfInBounds_toArray, List.set_cons_zero, List.set_cons_succ, i64_w, i32_w]
    rfl
  refine pure_ (i := 11) (N := some 2) (v := ?_) (a' := ?_) #[true, true, true, true, true, true, true, true, true, true, true, true, false, false] rfl rfl (any_of HT_.out (by kernel_rfl)) (fun _ _ _ h => h) (Or.inl ⟨by rfl, ?_⟩) ?_ ?_
  rotate_left
  · intro w'
    go_simp
    with_reducible rfl
  rotate_left
  · simp only [Act.put, List.setIfInBounds_toArray, List.set_cons_zero, List.set_cons_succ, i64_w, i32_w]
    rfl
  refine pure_ (i := 12) (N := some 3) (v := ?_) (a' := ?_) #[true, true, true, true, true, true, true, true, true, true, true, true, true, false] rfl rfl (any_of HT_.out (by kernel_rfl)) (fun _ _ _ h => h) (Or.inl ⟨by rfl, ?_⟩) ?_ ?_
  rotate_left
  · intro w'
    go_simp
    with_reducible rfl
  rotate_left
  · simp only [Act.put, List.setIfInBounds_toArray, List.set_cons_zero, List.set_cons_succ, i64_w, i32_w]
    rfl
  refine pure_ (i := 13) (N := some 4) (v := ?_) (a' := ?_) #[true, true, true, true, true, true, true, true, true, true, true, true, true, true] rfl rfl (any_of HT_.out (by kernel_rfl)) (fun _ _ _ h => h) (Or.inl ⟨by rfl, ?_⟩) ?_ ?_
  rotate_left
  · intro w'
    go_simp
    with_reducible rfl
  rotate_left
  · simp only [Act.put, List.setIfInBounds_toArray, List.set_cons_zero, List.set_cons_succ, i64_w, i32_w]
    rfl
  refine done_ (done_of HT_.out (by kernel_rfl)) ?_
  go_wp2
  go_ret3
  exact ⟨A5, c5, rfl, HR5.out, HS5.out, HB5.out, HP5.out⟩
set_option maxRecDepth 100000 in
set_option maxHeartbeats 4000000 in
theorem Out_2 (w : World) (p ep sq : Nat) (v : Value) (b : List UInt8) (r : List (List UInt8)) (h : So w p ep sq 2 0 v (b :: r)) (hb : b.length ≤ 8192) :
    Calls Try.prog 21 #[.pointer (some ⟨p, 0, none⟩)] w fun e w' => ∃ A c, e = .returned (.tuple #[.int .i64 (sq : Int), .slice A b.length c, .bool true]) ∧ Bs w' w.heap.size (.slice A b.length c) b ∧ So w' p ep sq 3 12 v (b :: r) ∧ Below p w w' ∧ Kept w w' p v := by
  obtain ⟨g, c, A1, c1, hv, hc, hpg, hgs, hcell, hK, hc1⟩ := h.head
  subst hv
  have h1 := h.c1
  have h2 := h.c2
  have h3 : w.cell? ⟨p, 3, none⟩ = some (.int .i64 2) := h.c3
  have f3 := h.frozen 3
  have h4 : w.cell? ⟨p, 4, none⟩ = some (.int .i64 0) := h.c4
  have f4 := h.frozen 4
  obtain ⟨w3, hw3⟩ : ∃ w3, w3 = (w.setCell ⟨p, 4, none⟩ (.int .i64 12)).setCell ⟨p, 3, none⟩ (.int .i64 3) := ⟨_, rfl⟩
  have H3 := Aside0.mk (show So w3.drew p ep sq 3 12 (.slice (some ⟨g, 0, none⟩) (r.length + 1) c) (b :: r) by
    rw [hw3]
    exact ((h.set4 12 _ rfl).set3 3 _ rfl).below (Below.drew (Below.refl _ _)))
  have HB3 := Aside0.mk (show Below p w w3.drew by
    rw [hw3]
    exact Below.drew (((Below.refl p w).setCell (Nat.le_refl p) _).setCell (Nat.le_refl p) _))
  obtain ⟨g', c', A3, c3, ev, _, _, _, hcell3, hK3, _⟩ := H3.out.head
  injection ev with ev1 _ ev3
  injection ev1 with ev1
  injection ev1 with ev1
  subst ev1 ev3
  have HP3 := Aside0.mk (show Kept w w3.drew p (.slice (some ⟨g, 0, none⟩) (r.length + 1) c) ∧ w3.drew.heap.size = w.heap.size by
    rw [hw3]
    exact ⟨((Kept.refl _ _ _).set _ _).set _ _, by simp [World.setCell, World.drew]⟩)
  have HC3 := Aside0.mk hcell3
  have HK3 := Aside0.mk hK3
  have HW3 := Aside0.mk hw3
  clear h hcell hK hcell3 hK3 hw3
  go_enter Try.func21, Try.ntmps21
  go_wp2
  rw [← HW3.out]
  clear h1 h2 h3 h4 f3 f4
  refine start_ (n := 14) (S := fun w' => So w' p ep sq 3 12 (.slice (some ⟨g, 0, none⟩) (r.length + 1) c) (b :: r) ∧ w'.cell? ⟨g, 0, none⟩ = some (.slice A3 b.length c3) ∧ True) (ds := []) #[false, false, false, false, false, false, false, false, false, false, false, false, false, false] (by kernel_rfl) rfl rfl ⟨H3.out, HC3.out, trivial⟩ (fun hHeld => ?_)
  refine with_tabW f21_r5.tab5 f21_r5.bits5 (fun HT_ HW_ => ?_)
  generalize w3.drew = w4 at H3 HB3 HC3 HK3 HP3 hHeld ⊢
  refine pure_ (i := 0) (N := some 40) (v := ?_) (a' := ?_) #[true, false, false, false, false, false, false, false, false, false, false, false, false, false] rfl rfl (any_of HT_.out (by kernel_rfl)) (fun _ _ _ h => h) (Or.inl ⟨by rfl, ?_⟩) ?_ ?_
  rotate_left
  · intro w'
    go_simp
    with_reducible rfl
  rotate_left
  · simp only [Act.put, List.setIfInBounds_toArray, List.set_cons_zero, List.set_cons_succ, i64_w, i32_w]
    rfl
  refine pure_ (i := 1) (N := some 41) (v := ?_) (a' := ?_) #[true, true, false, false, false, false, false, false, false, false, false, false, false, false] rfl rfl (any_of HT_.out (by kernel_rfl)) (fun _ _ _ h => h) (Or.inl ⟨by rfl, ?_⟩) ?_ ?_
  rotate_left
  · intro w'
    go_simp
    with_reducible rfl
  rotate_left
  · simp only [Act.put, List.setIfInBounds_toArray, List.set_cons_zero, List.set_cons_succ, i64_w, i32_w]
    rfl
  refine pure_ (i := 2) (N := some 42) (v := ?_) (a' := ?_) #[true, true, true, false, false, false, false, false, false, false, false, false, false, false] rfl rfl (any_of HT_.out (by kernel_rfl)) (fun _ _ _ h => h) (Or.inl ⟨by rfl, ?_⟩) ?_ ?_
  rotate_left
  · intro w'
    go_simp
    with_reducible rfl
  rotate_left
  · simp only [Act.put, List.setIfInBounds_toArray, List.set_cons_zero, List.set_cons_succ, i64_w, i32_w]
    rfl
  refine pure_ (i := 4) (N := some 44) (v := ?_) (a' := ?_) #[true, true, true, false, true, false, false, false, false, false, false, false, false, false] rfl rfl (any_of HT_.out (by kernel_rfl)) (fun _ _ _ h => h) (Or.inl ⟨by rfl, ?_⟩) ?_ ?_
  rotate_left
  · intro w'
    go_simp
    with_reducible rfl
  rotate_left
  · simp only [Act.put, List.setIfInBounds_toArray, List.set_cons_zero, List.set_cons_succ, i64_w, i32_w]
    rfl
  refine pure_ (i := 5) (N := some 45) (v := ?_) (a' := ?_) #[true, true, true, false, true, true, false, false, false, false, false, false, false, false] rfl rfl (any_of HT_.out (by kernel_rfl)) (fun _ _ _ h => h) (Or.inl ⟨by rfl, ?_⟩) ?_ ?_
  rotate_left
  · intro w'
    go_simp
    with_reducible rfl
  rotate_left
  · simp only [Act.put, List.setIfInBounds_toArray, List.set_cons_zero, List.set_cons_succ, i64_w, i32_w]
    rfl
  refine pure_ (i := 6) (N := some 46) (v := ?_) (a' := ?_) #[true, true, true, false, true, true, true, false, false, false, false, false, false, false] rfl rfl (any_of HT_.out (by kernel_rfl)) (fun _ _ _ h => h) (Or.inl ⟨by rfl, ?_⟩) ?_ ?_
  rotate_left
  · intro w'
    go_simp
    with_reducible rfl
  rotate_left
  · simp only [Act.put, List.setIfInBounds_toArray, List.set_cons_zero, List.set_cons_succ, i64_w, i32_w]
    rfl
  refine take_ (i := 3) (N := some 43) (v := ?_) (a' := ?_) #[true, true, true, true, true, true, true, false, false, false, false, false, false, false] rfl rfl (take_ofW HT_.out HW_.out (by kernel_rfl)) (fun _ _ _ h => h) (Or.inl ⟨by rfl, ?_⟩) hHeld ?_ ?_
  rotate_left
  · intro w' s0
    have e := s0.1.c1
    go_simp
    with_reducible rfl
  rotate_left
  · simp only [Act.put, List.setIfInBounds_toArray, List.set_cons_zero, List.set_cons_succ, i64_w, i32_w]
    rfl
  refine take_ (i := 7) (N := some 47) (v := ?_) (a' := ?_) #[true, true, true, true, true, true, true, true, false, false, false, false, false, false] rfl rfl (take_ofW HT_.out HW_.out (by kernel_rfl)) (fun _ _ _ h => h) (Or.inl ⟨by rfl, ?_⟩) hHeld ?_ ?_
  rotate_left
  · intro w' s0
    have e := s0.1.c2
    go_simp
    with_reducible rfl
  rotate_left
  · simp only [Act.put, List.setIfInBounds_toArray, List.set_cons_zero, List.set_cons_succ, i64_w, i32_w]
    rfl
  refine pure_ (i := 8) (N := some 48) (v := ?_) (a' := ?_) #[true, true, true, true, true, true, true, true, true, false, false, false, false, false] rfl rfl (any_of HT_.out (by kernel_rfl)) (fun _ _ _ h => h) (Or.inl ⟨by rfl, ?_⟩) ?_ ?_
  rotate_left
  · intro w'
    go_simp
    with_reducible rfl
  rotate_left
  · simp only [Act.put, List.setIfInBounds_toArray, List.set_cons_zero, List.set_cons_succ, i64_w, i32_w]
    rfl
  refine take_ (i := 9) (N := some 49) (v := ?_) (a' := ?_) #[true, true, true, true, true, true, true, true, true, true, false, false, false, false] rfl rfl (take_ofW HT_.out HW_.out (by kernel_rfl)) (fun _ _ _ h => h) (Or.inl ⟨by rfl, ?_⟩) hHeld ?_ ?_
  rotate_left
  · intro w' s0
    have e := s0.2.1
    go_simp
    with_reducible rfl
  rotate_left
  · simp only [Act.put, List.setIfInBounds_toArray, List.set_cons_zero, List.set_cons_succ, i64_w, i32_w]
    rfl
  refine one_ (i := 10) (N := some 50) #[true, true, true, true, true, true, true, true, true, true, true, false, false, false] rfl rfl (one_of HT_.out (by kernel_rfl)) (by decide) (fun K hK => ?_)
  refine goes_ Try.func43 (by kernel_rfl) rfl #[.slice A3 b.length c3] (by rfl) rfl rfl (by (try simp only [List.map_toArray, List.map_cons, List.map_nil]); first | done | rfl) ?_
  with_reducible refine (Clone_v A3 c3 b.length b w4 rfl HK3.out (by omega) b rfl).mono ?_
  rintro e w5 ⟨A5, c5, rfl, hB5, hb5⟩
  refine ⟨_, rfl, ?_⟩
  have HB5 := Aside0.mk (HB3.out.trans (hb5.mono (Nat.le_of_lt H3.out.lt)))
  have HS5 := Aside0.mk (H3.out.below hb5)
  have HR5 := Aside0.mk (hB5.lower (Nat.le_of_eq HP3.out.2.symm))
  have HP5 := Aside0.mk (HP3.out.1.below (Nat.le_of_eq HP3.out.2.symm) hb5)
  refine hK.out _ _ ⟨(So.below hHeld.1 hb5), (pw_cell_below hb5 hHeld.2.1), trivial⟩ (fun hHeld => ?_)
  clear hK K
  refine norm_ (a' := ?_) ?_ ?_
  rotate_left
  · show Act.put _ (some 50) _ = _
    simp only [Act.put, List.setIfInBounds_toArray, List.set_cons_zero, List.set_cons_succ, i64_w, i32_w]
    rfl
  refine pure_ (i := 11) (N := some 2) (v := ?_) (a' := ?_) #[true, true, true, true, true, true, true, true, true, true, true, true, false, false] rfl rfl (any_of HT_.out (by kernel_rfl)) (fun _ _ _ h => h) (Or.inl ⟨by rfl, ?_⟩) ?_ ?_
  rotate_left
  · intro w'
    go_simp
    with_reducible rfl
  rotate_left
  · simp only [Act.put, List.setIfInBounds_toArray, List.set_cons_zero, List.set_cons_succ, i64_w, i32_w]
    rfl
  refine pure_ (i := 12) (N := some 3) (v := ?_) (a' := ?_) #[true, true, true, true, true, true, true, true, true, true, true, true, true, false] rfl rfl (any_of HT_.out (by kernel_rfl)) (fun _ _ _ h => h) (Or.inl ⟨by rfl, ?_⟩) ?_ ?_
  rotate_left
  · intro w'
    go_simp
    with_reducible rfl
  rotate_left
  · simp only [Act.put, List.setIfInBounds_toArray, List.set_cons_zero, List.set_cons_succ, i64_w, i32_w]
    rfl
  refine pure_ (i := 13) (N := some 4) (v := ?_) (a' := ?_) #[true, true, true, true, true, true, true, true, true, true, true, true, true, true] rfl rfl (any_of HT_.out (by kernel_rfl)) (fun _ _ _ h => h) (Or.inl ⟨by rfl, ?_⟩) ?_ ?_
  rotate_left
  · intro w'
    go_simp
    with_reducible rfl
  rotate_left
  · simp only [Act.put, List.setIfInBounds_toArray, List.set_cons_zero, List.set_cons_succ, i64_w, i32_w]
    rfl
  refine done_ (done_of HT_.out (by kernel_rfl)) ?_
  go_wp2
  go_ret3
  exact ⟨A5, c5, rfl, HR5.out, HS5.out, HB5.out, HP5.out⟩
set_option maxRecDepth 100000 in
set_option maxHeartbeats 4000000 in
theorem Out_3 (w : World) (p ep sq : Nat) (v : Value) (b : List UInt8) (r : List (List UInt8)) (h : So w p ep sq 3 0 v (b :: r)) (hb : b.length ≤ 8192) :
    Calls Try.prog 21 #[.pointer (some ⟨p, 0, none⟩)] w fun e w' => ∃ A c, e = .returned (.tuple #[.int .i64 (sq : Int), .slice A b.length c, .bool true]) ∧ Bs w' w.heap.size (.slice A b.length c) b ∧ So w' p ep sq 3 24 v (b :: r) ∧ Below p w w' ∧ Kept w w' p v := by
  obtain ⟨g, c, A1, c1, hv, hc, hpg, hgs, hcell, hK, hc1⟩ := h.head
  subst hv
  have h1 := h.c1
  have h2 := h.c2
  have h3 : w.cell? ⟨p, 3, none⟩ = some (.int .i64 3) := h.c3
  have f3 := h.frozen 3
  have h4 : w.cell? ⟨p, 4, none⟩ = some (.int .i64 0) := h.c4
  have f4 := h.frozen 4
  obtain ⟨w3, hw3⟩ : ∃ w3, w3 = (w.setCell ⟨p, 4, none⟩ (.int .i64 24)).setCell ⟨p, 3, none⟩ (.int .i64 3) := ⟨_, rfl⟩
  have H3 := Aside0.mk (show So w3.drew p ep sq 3 24 (.slice (some ⟨g, 0, none⟩) (r.length + 1) c) (b :: r) by
    rw [hw3]
    exact ((h.set4 24 _ rfl).set3 3 _ rfl).below (Below.drew (Below.refl _ _)))
  have HB3 := Aside0.mk (show Below p w w3.drew by
    rw [hw3]
    exact Below.drew (((Below.refl p w).setCell (Nat.le_refl p) _).setCell (Nat.le_refl p) _))
  obtain ⟨g', c', A3, c3, ev, _, _, _, hcell3, hK3, _⟩ := H3.out.head
  injection ev with ev1 _ ev3
  injection ev1 with ev1
  injection ev1 with ev1
  subst ev1 ev3
  have HP3 := Aside0.mk (show Kept w w3.drew p (.slice (some ⟨g, 0, none⟩) (r.length + 1) c) ∧ w3.drew.heap.size = w.heap.size by
    rw [hw3]
    exact ⟨((Kept.refl _ _ _).set _ _).set _ _, by simp [World.setCell, World.drew]⟩)
  have HC3 := Aside0.mk hcell3
  have HK3 := Aside0.mk hK3
  have HW3 := Aside0.mk hw3
  clear h hcell hK hcell3 hK3 hw3
  go_enter Try.func21, Try.ntmps21
  go_wp2
  rw [← HW3.out]
  clear h1 h2 h3 h4 f3 f4
  refine start_ (n := 14) (S := fun w' => So w' p ep sq 3 24 (.slice (some ⟨g, 0, none⟩) (r.length + 1) c) (b :: r) ∧ w'.cell? ⟨g, 0, none⟩ = some (.slice A3 b.length c3) ∧ True) (ds := []) #[false, false, false, false, false, false, false, false, false, false, false, false, false, false] (by kernel_rfl) rfl rfl ⟨H3.out, HC3.out, trivial⟩ (fun hHeld => ?_)
  refine with_tabW f21_r5.tab5 f21_r5.bits5 (fun HT_ HW_ => ?_)
  generalize w3.drew = w4 at H3 HB3 HC3 HK3 HP3 hHeld ⊢
  refine pure_ (i := 0) (N := some 40) (v := ?_) (a' := ?_) #[true, false, false, false, false, false, false, false, false, false, false, false, false, false] rfl rfl (any_of HT_.out (by kernel_rfl)) (fun _ _ _ h => h) (Or.inl ⟨by rfl, ?_⟩) ?_ ?_
  rotate_left
  · intro w'
    go_simp
    with_reducible rfl
  rotate_left
  · simp only [Act.put, List.setIfInBounds_toArray, List.set_cons_zero, List.set_cons_succ, i64_w, i32_w]
    rfl
  refine pure_ (i := 1) (N := some 41) (v := ?_) (a' := ?_) #[true, true, false, false, false, false, false, false, false, false, false, false, false, false] rfl rfl (any_of HT_.out (by kernel_rfl)) (fun _ _ _ h => h) (Or.inl ⟨by rfl, ?_⟩) ?_ ?_
  rotate_left
  · intro w'
    go_simp
    with_reducible rfl
  rotate_left
  · simp only [Act.put, List.setIfInBounds_toArray, List.set_cons_zero, List.set_cons_succ, i64_w, i32_w]
    rfl
  refine pure_ (i := 2) (N := some 42) (v := ?_) (a' := ?_) #[true, true, true, false, false, false, false, false, false, false, false, false, false, false] rfl rfl (any_of HT_.out (by kernel_rfl)) (fun _ _ _ h => h) (Or.inl ⟨by rfl, ?_⟩) ?_ ?_
  rotate_left
  · intro w'
    go_simp
    with_reducible rfl
  rotate_left
  · simp only [Act.put, List.setIfInBounds_toArray, List.set_cons_zero, List.set_cons_succ, i64_w, i32_w]
    rfl
  refine pure_ (i := 4) (N := some 44) (v := ?_) (a' := ?_) #[true, true, true, false, true, false, false, false, false, false, false, false, false, false] rfl rfl (any_of HT_.out (by kernel_rfl)) (fun _ _ _ h => h) (Or.inl ⟨by rfl, ?_⟩) ?_ ?_
  rotate_left
  · intro w'
    go_simp
    with_reducible rfl
  rotate_left
  · simp only [Act.put, List.setIfInBounds_toArray, List.set_cons_zero, List.set_cons_succ, i64_w, i32_w]
    rfl
  refine pure_ (i := 5) (N := some 45) (v := ?_) (a' := ?_) #[true, true, true, false, true, true, false, false, false, false, false, false, false, false] rfl rfl (any_of HT_.out (by kernel_rfl)) (fun _ _ _ h => h) (Or.inl ⟨by rfl, ?_⟩) ?_ ?_
  rotate_left
  · intro w'
    go_simp
    with_reducible rfl
  rotate_left
  · simp only [Act.put, List.setIfInBounds_toArray, List.set_cons_zero, List.set_cons_succ, i64_w, i32_w]
    rfl
  refine pure_ (i := 6) (N := some 46) (v := ?_) (a' := ?_) #[true, true, true, false, true, true, true, false, false, false, false, false, false, false] rfl rfl (any_of HT_.out (by kernel_rfl)) (fun _ _ _ h => h) (Or.inl ⟨by rfl, ?_⟩) ?_ ?_
  rotate_left
  · intro w'
    go_simp
    with_reducible rfl
  rotate_left
  · simp only [Act.put, List.setIfInBounds_toArray, List.set_cons_zero, List.set_cons_succ, i64_w, i32_w]
    rfl
  refine take_ (i := 3) (N := some 43) (v := ?_) (a' := ?_) #[true, true, true, true, true, true, true, false, false, false, false, false, false, false] rfl rfl (take_ofW HT_.out HW_.out (by kernel_rfl)) (fun _ _ _ h => h) (Or.inl ⟨by rfl, ?_⟩) hHeld ?_ ?_
  rotate_left
  · intro w' s0
    have e := s0.1.c1
    go_simp
    with_reducible rfl
  rotate_left
  · simp only [Act.put, List.setIfInBounds_toArray, List.set_cons_zero, List.set_cons_succ, i64_w, i32_w]
    rfl
  refine take_ (i := 7) (N := some 47) (v := ?_) (a' := ?_) #[true, true, true, true, true, true, true, true, false, false, false, false, false, false] rfl rfl (take_ofW HT_.out HW_.out (by kernel_rfl)) (fun _ _ _ h => h) (Or.inl ⟨by rfl, ?_⟩) hHeld ?_ ?_
  rotate_left
  · intro w' s0
    have e := s0.1.c2
    go_simp
    with_reducible rfl
  rotate_left
  · simp only [Act.put, List.setIfInBounds_toArray, List.set_cons_zero, List.set_cons_succ, i64_w, i32_w]
    rfl
  refine pure_ (i := 8) (N := some 48) (v := ?_) (a' := ?_) #[true, true, true, true, true, true, true, true, true, false, false, false, false, false] rfl rfl (any_of HT_.out (by kernel_rfl)) (fun _ _ _ h => h) (Or.inl ⟨by rfl, ?_⟩) ?_ ?_
  rotate_left
  · intro w'
    go_simp
    with_reducible rfl
  rotate_left
  · simp only [Act.put, List.setIfInBounds_toArray, List.set_cons_zero, List.set_cons_succ, i64_w, i32_w]
    rfl
  refine take_ (i := 9) (N := some 49) (v := ?_) (a' := ?_) #[true, true, true, true, true, true, true, true, true, true, false, false, false, false] rfl rfl (take_ofW HT_.out HW_.out (by kernel_rfl)) (fun _ _ _ h => h) (Or.inl ⟨by rfl, ?_⟩) hHeld ?_ ?_
  rotate_left
  · intro w' s0
    have e := s0.2.1
    go_simp
    with_reducible rfl
  rotate_left
  · simp only [Act.put, List.setIfInBounds_toArray, List.set_cons_zero, List.set_cons_succ, i64_w, i32_w]
    rfl
  refine one_ (i := 10) (N := some 50) #[true, true, true, true, true, true, true, true, true, true, true, false, false, false] rfl rfl (one_of HT_.out (by kernel_rfl)) (by decide) (fun K hK => ?_)
  refine goes_ Try.func43 (by kernel_rfl) rfl #[.slice A3 b.length c3] (by rfl) rfl rfl (by (try simp only [List.map_toArray, List.map_cons, List.map_nil]); first | done | rfl) ?_
  with_reducible refine (Clone_v A3 c3 b.length b w4 rfl HK3.out (by omega) b rfl).mono ?_
  rintro e w5 ⟨A5, c5, rfl, hB5, hb5⟩
  refine ⟨_, rfl, ?_⟩
  have HB5 := Aside0.mk (HB3.out.trans (hb5.mono (Nat.le_of_lt H3.out.lt)))
  have HS5 := Aside0.mk (H3.out.below hb5)
  have HR5 := Aside0.mk (hB5.lower (Nat.le_of_eq HP3.out.2.symm))
  have HP5 := Aside0.mk (HP3.out.1.below (Nat.le_of_eq HP3.out.2.symm) hb5)
  refine hK.out _ _ ⟨(So.below hHeld.1 hb5), (pw_cell_below hb5 hHeld.2.1), trivial⟩ (fun hHeld => ?_)
  clear hK K
  refine norm_ (a' := ?_) ?_ ?_
  rotate_left
  · show Act.put _ (some 50) _ = _
    simp only [Act.put, List.setIfInBounds_toArray, List.set_cons_zero, List.set_cons_succ, i64_w, i32_w]
    rfl
  refine pure_ (i := 11) (N := some 2) (v := ?_) (a' := ?_) #[true, true, true, true, true, true, true, true, true, true, true, true, false, false] rfl rfl (any_of HT_.out (by kernel_rfl)) (fun _ _ _ h => h) (Or.inl ⟨by rfl, ?_⟩) ?_ ?_
  rotate_left
  · intro w'
    go_simp
    with_reducible rfl
  rotate_left
  · simp only [Act.put, List.setIfInBounds_toArray, List.set_cons_zero, List.set_cons_succ, i64_w, i32_w]
    rfl
  refine pure_ (i := 12) (N := some 3) (v := ?_) (a' := ?_) #[true, true, true, true, true, true, true, true, true, true, true, true, true, false] rfl rfl (any_of HT_.out (by kernel_rfl)) (fun _ _ _ h => h) (Or.inl ⟨by rfl, ?_⟩) ?_ ?_
  rotate_left
  · intro w'
    go_simp
    with_reducible rfl
  rotate_left
  · simp only [Act.put, List.setIfInBounds_toArray, List.set_cons_zero, List.set_cons_succ, i64_w, i32_w]
    rfl
  refine pure_ (i := 13) (N := some 4) (v := ?_) (a' := ?_) #[true, true, true, true, true, true, true, true, true, true, true, true, true, true] rfl rfl (any_of HT_.out (by kernel_rfl)) (fun _ _ _ h => h) (Or.inl ⟨by rfl, ?_⟩) ?_ ?_
  rotate_left
  · intro w'
    go_simp
    with_reducible rfl
  rotate_left
  · simp only [Act.put, List.setIfInBounds_toArray, List.set_cons_zero, List.set_cons_succ, i64_w, i32_w]
    rfl
  refine done_ (done_of HT_.out (by kernel_rfl)) ?_
  go_wp2
  go_ret3
  exact ⟨A5, c5, rfl, HR5.out, HS5.out, HB5.out, HP5.out⟩
theorem Out_yes (w : World) (p ep sq st : Nat) (v : Value) (b : List UInt8) (r : List (List UInt8)) (h : So w p ep sq st 0 v (b :: r)) (hst : st ≤ 3) (hb : b.length ≤ 8192) :
    Calls Try.prog 21 #[.pointer (some ⟨p, 0, none⟩)] w fun e w' => ∃ A c, e = .returned (.tuple #[.int .i64 (sq : Int), .slice A b.length c, .bool true]) ∧ Bs w' w.heap.size (.slice A b.length c) b ∧ So w' p ep sq (min 3 (st + 1)) (wait st) v (b :: r) ∧ Below p w w' ∧ Kept w w' p v := by
  rcases (show st = 0 ∨ st = 1 ∨ st = 2 ∨ st = 3 by omega) with rfl | rfl | rfl | rfl
  · exact Out_0 w p ep sq v b r h hb
  · exact Out_1 w p ep sq v b r h hb
  · exact Out_2 w p ep sq v b r h hb
  · exact Out_3 w p ep sq v b r h hb
end Go.Proofs.Ytpgighcobmaecaa.Sn
