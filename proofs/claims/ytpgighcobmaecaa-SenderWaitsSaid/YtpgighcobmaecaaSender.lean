/- The functions of package sender by contracts. -/
import Derived.Test.YtpgighcobmaecaaDelete
set_option linter.unusedVariables false
set_option linter.unusedSimpArgs false
namespace Go.Proofs.Ytpgighcobmaecaa.Sn
open Go.RowKit Go.Proofs.YtpgighcobmaecaaW.PrintWords Go.Proofs.YtpgighcobmaecaaW.PrintLast

/-- A sender stands in block p: its epoch, its number, what waits, the step, the ticks that are left. -/
structure So (W : World) (p ep sq st lf : Nat) (v : Value) (l : List (List UInt8)) : Prop where
  blk : W.heap[p]? = some (.cells #[.int .i64 (ep : Int), .int .i64 (sq : Int), v, .int .i64 (st : Int), .int .i64 (lf : Int)] 74 (0, 0))
  row : Kq.R 22 W (p + 1) (fun _ => True) v l
section
variable {W : World} {p ep sq st lf : Nat} {v : Value} {l : List (List UInt8)}
theorem So.lt (h : So W p ep sq st lf v l) : p < W.heap.size := blk_lt h.blk
theorem So.below {W1 : World} (h : So W p ep sq st lf v l) (hb : Below W.heap.size W W1) : So W1 p ep sq st lf v l := ⟨blk_below h.blk hb, Kd.R_below h.row hb⟩
theorem So.cell (h : So W p ep sq st lf v l) (i : Nat) : W.cell? ⟨p, i, none⟩ = #[.int .i64 (ep : Int), .int .i64 (sq : Int), v, .int .i64 (st : Int), .int .i64 (lf : Int)][i]? := blk_cell h.blk i
theorem So.c0 (h : So W p ep sq st lf v l) : W.cell? ⟨p, 0, none⟩ = some (.int .i64 (ep : Int)) := h.cell 0
theorem So.c1 (h : So W p ep sq st lf v l) : W.cell? ⟨p, 1, none⟩ = some (.int .i64 (sq : Int)) := h.cell 1
theorem So.c2 (h : So W p ep sq st lf v l) : W.cell? ⟨p, 2, none⟩ = some v := h.cell 2
theorem So.c3 (h : So W p ep sq st lf v l) : W.cell? ⟨p, 3, none⟩ = some (.int .i64 (st : Int)) := h.cell 3
theorem So.c4 (h : So W p ep sq st lf v l) : W.cell? ⟨p, 4, none⟩ = some (.int .i64 (lf : Int)) := h.cell 4
theorem So.frozen (h : So W p ep sq st lf v l) (i : Nat) : W.frozen? ⟨p, i, none⟩ = false := blk_frozen h.blk i
theorem So.val (h : So W p ep sq st lf v l) : ∃ A c, v = .slice A l.length c ∧ l.length ≤ c := by
  obtain ⟨A, c, e, hc, _⟩ := Kd.R_reads h.row
  exact ⟨A, c, e, hc⟩
theorem So.row_set (h : So W p ep sq st lf v l) (i : Nat) (u : Value) : Kq.R 22 (W.setCell ⟨p, i, none⟩ u) (p + 1) (fun _ => True) v l :=
  Kd.R_mono (Kd.R_step (Kd.R_bound h.row) (fun k hk _ => Below.heap_setCell W ⟨p, i, none⟩ u k (by have := hk.2.1; show k ≠ p; omega))) (fun _ _ => trivial)
theorem So.set1 (h : So W p ep sq st lf v l) (x : Nat) (z : Int) (hz : z = (x : Int)) : So (W.setCell ⟨p, 1, none⟩ (.int .i64 z)) p ep x st lf v l := by
  subst hz
  exact ⟨blk_put h.blk 1 _ rfl, h.row_set 1 _⟩
theorem So.set0 (h : So W p ep sq st lf v l) (x : Nat) (z : Int) (hz : z = (x : Int)) : So (W.setCell ⟨p, 0, none⟩ (.int .i64 z)) p x sq st lf v l := by
  subst hz
  exact ⟨blk_put h.blk 0 _ rfl, h.row_set 0 _⟩
theorem So.set3 (h : So W p ep sq st lf v l) (x : Nat) (z : Int) (hz : z = (x : Int)) : So (W.setCell ⟨p, 3, none⟩ (.int .i64 z)) p ep sq x lf v l := by
  subst hz
  exact ⟨blk_put h.blk 3 _ rfl, h.row_set 3 _⟩
theorem So.set4 (h : So W p ep sq st lf v l) (x : Nat) (z : Int) (hz : z = (x : Int)) : So (W.setCell ⟨p, 4, none⟩ (.int .i64 z)) p ep sq st x v l := by
  subst hz
  exact ⟨blk_put h.blk 4 _ rfl, h.row_set 4 _⟩
end
/-- Every block stands as it stood, but the sender's own and its row's. -/
abbrev Kept (w w' : World) (p : Nat) (v : Value) : Prop := ∀ k, k < w.heap.size → k ≠ p → some k ≠ v.ownBlock → w'.heap[k]? = w.heap[k]?
theorem Kept.set {w w' : World} {p : Nat} {v : Value} (h : Kept w w' p v) (i : Nat) (u : Value) : Kept w (w'.setCell ⟨p, i, none⟩ u) p v := fun k h1 h2 h3 => (Below.heap_setCell w' ⟨p, i, none⟩ u k h2).trans (h k h1 h2 h3)
theorem Kept.refl (w : World) (p : Nat) (v : Value) : Kept w w p v := fun _ _ _ _ => rfl
theorem Kept.below {w w' w2 : World} {p : Nat} {v : Value} (h : Kept w w' p v) (hs : w.heap.size ≤ w'.heap.size) (hb : Below w'.heap.size w' w2) : Kept w w2 p v := fun k h1 h2 h3 => (hb.block k (by omega)).trans (h k h1 h2 h3)
/-- A row of bytes that was made when the sender stood already. -/
theorem Bs.kept {w w' : World} {p N : Nat} {v x : Value} {b : List UInt8} (h : Bs w N x b) (hk : Kept w w' p v) (hp : p < N) (hv : ∀ g, v.ownBlock = some g → g < N) : Bs w' N x b :=
  Kd.R_mono (Kd.R_step (Kd.R_bound h) (fun k hk2 hlt => hk k hlt (by have := hk2.2.1; omega) (fun e => by have := hv k e.symm; have := hk2.2.1; omega))) (fun _ _ => trivial)
theorem below_here (w : World) (p i : Nat) (u : Value) : Below p w (w.setCell ⟨p, i, none⟩ u) := (Below.refl p w).setCell (Nat.le_refl p) u

/-- The row that waits is another one. -/
theorem So.set2 {W : World} {p ep sq st lf : Nat} {v v' : Value} {l' : List (List UInt8)} (h : W.heap[p]? = some (.cells #[.int .i64 (ep : Int), .int .i64 (sq : Int), v, .int .i64 (st : Int), .int .i64 (lf : Int)] 74 (0, 0))) (hr : Kq.R 22 W (p + 1) (fun _ => True) v' l') : So (W.setCell ⟨p, 2, none⟩ v') p ep sq st lf v' l' :=
  ⟨blk_put h 2 _ rfl, Kd.R_mono (Kd.R_step (Kd.R_bound hr) (fun k hk _ => Below.heap_setCell W ⟨p, 2, none⟩ v' k (by have := hk.2.1; show k ≠ p; omega))) (fun _ _ => trivial)⟩

section
variable (w : World) (p ep sq st lf : Nat) (v : Value) (l : List (List UInt8)) (h : So w p ep sq st lf v l)
include h
theorem Tick_v (hlf : lf ≤ 24) :
    Calls Try.prog 22 #[.pointer (some ⟨p, 0, none⟩)] w fun e w' => e = .returned (.tuple #[]) ∧ So w' p ep sq st (lf - 1) v l ∧ Below p w w' ∧ Kept w w' p v := by
  have h4 := h.c4
  have f4 := h.frozen 4
  have H := Aside0.mk h
  clear h
  rcases lf with _ | lf
  · go_enter Try.func22, Try.ntmps22
    go_wp2
    go_end0
    exact ⟨rfl, H.out.set4 0 0 rfl, below_here _ _ _ _, (Kept.refl _ _ _).set _ _⟩
  · go_enter Try.func22, Try.ntmps22
    go_wp2
    all_goals
      go_end0
      exact ⟨rfl, H.out.set4 lf _ (by omega), below_here _ _ _ _, (Kept.refl _ _ _).set _ _⟩
theorem Waits_v : Calls Try.prog 24 #[.pointer (some ⟨p, 0, none⟩)] w fun e w' => e = .returned (.int .i64 (l.length : Int)) ∧ w = w' := by
  obtain ⟨A, c, rfl, hc⟩ := h.val
  have h2 := h.c2
  clear h
  go_enter Try.func24, Try.ntmps24
  go_wp2
  go_ret
  exact ⟨rfl, rfl⟩
theorem Epoch_v : Calls Try.prog 26 #[.pointer (some ⟨p, 0, none⟩)] w fun e w' => e = .returned (.int .i64 (ep : Int)) ∧ w = w' := by
  have h2 := h.c0
  clear h
  go_enter Try.func26, Try.ntmps26
  go_wp2
  go_ret
  exact ⟨rfl, rfl⟩
theorem Reset_v (he : ep < 1073741824) : Calls Try.prog 25 #[.pointer (some ⟨p, 0, none⟩)] w fun e w' => e = .returned .nilIface ∧ So w' p (ep + 1) 1 0 0 v l ∧ Below p w w' := by
  have h0 := h.c0
  have f0 := h.frozen 0
  have h1 := h.c1
  have f1 := h.frozen 1
  have h3 := h.c3
  have f3 := h.frozen 3
  have h4 := h.c4
  have f4 := h.frozen 4
  have hne : ((ep : Int) == 1073741824) = false := by rw [beq_eq_false_iff_ne]; omega
  have H := Aside0.mk h
  clear h
  go_enter Try.func25, Try.ntmps25
  go_wp2
  go_ret
  exact ⟨rfl, (((H.out.set0 (ep + 1) _ (by omega)).set1 1 _ rfl).set3 0 _ rfl).set4 0 _ rfl, (((below_here _ _ _ _).setCell (Nat.le_refl p) _).setCell (Nat.le_refl p) _).setCell (Nat.le_refl p) _⟩
end
theorem New_v (e : Nat) (h1 : 1 ≤ e) (h2 : e ≤ 1073741824) (w : World) : Calls Try.prog 18 #[.int .i64 (e : Int)] w fun r w' => r = .returned (.tuple #[.pointer (some ⟨w.heap.size, 0, none⟩), .nilIface]) ∧ So w' w.heap.size e 1 0 0 (.slice none 0 0) [] ∧ Below w.heap.size w w' := by
  have d1 : decide (e < 1) = false := decide_eq_false (by omega)
  have d2 : decide ((1073741824 : Int) < (e : Int)) = false := decide_eq_false (by omega)
  go_enter Try.func18, Try.ntmps18
  go_wp2
  go_ret2
  exact ⟨rfl, ⟨blk_new _ _, Kd.R_nil _ _ _ _ _⟩, below_alloc (Below.refl _ _) _⟩
def f20_r5.T5 : Bool × List (List Nat × List Nat) := (true, [([], []), ([0], [0]), ([1], [1]), ([2], [2]), ([3], [3]), ([4], [4]), ([5], [5]), ([6], [6]), ([7, 6], [6, 7]), ([8, 6], [6, 8]), ([9, 6], [6, 9]), ([6], [6]), ([11, 6], [6, 11]), ([12, 6], [6, 12]), ([13, 6], [6, 13]), ([14, 6], [6, 14]), ([10, 15, 6], [6, 10, 15]), ([16, 6], [6, 16]), ([6, 17], [6, 17]), ([18, 6], [18])])
def f20_r5.B5 : List Nat := [0, 1, 3, 7, 15, 31, 63, 127, 255, 511, 1023, 127, 2175, 6271, 14463, 30847, 65535, 131071, 262143, 524287]
theorem f20_r5.tab5 : Go.Proofs.YtpgighcobmaecaaW.PrintLast.rtab .any (Go.Proofs.YtpgighcobmaecaaW.PrintLast.opsOf Try.f20 5) = f20_r5.T5 := by kernel_rfl
theorem f20_r5.bits5 : Go.Proofs.YtpgighcobmaecaaW.PrintLast.waitsOk f20_r5.T5.2 f20_r5.B5 = true := by kernel_rfl
def f20_r7.T7 : Bool × List (List Nat × List Nat) := (true, [([], []), ([], []), ([1], [1]), ([2], [2]), ([3], [3]), ([], []), ([5], [5]), ([6], [6]), ([4, 7, 6], [4, 7]), ([0, 0, 1, 2, 3, 4, 5, 6, 7, 8], [0]), ([9, 0, 1, 2, 3, 4, 5, 6, 7, 8], [9]), ([10, 8, 8, 0, 1, 2, 3, 4, 5, 6, 7, 8], [8, 10])])
def f20_r7.B7 : List Nat := [0, 0, 2, 6, 14, 0, 32, 96, 254, 511, 1023, 2047]
theorem f20_r7.tab7 : Go.Proofs.YtpgighcobmaecaaW.PrintLast.rtab .any (Go.Proofs.YtpgighcobmaecaaW.PrintLast.opsOf Try.f20 7) = f20_r7.T7 := by kernel_rfl
theorem f20_r7.bits7 : Go.Proofs.YtpgighcobmaecaaW.PrintLast.waitsOk f20_r7.T7.2 f20_r7.B7 = true := by kernel_rfl
set_option maxRecDepth 100000 in
set_option maxHeartbeats 4000000 in
theorem Put_v (w : World) (p ep sq st lf : Nat) (v : Value) (l : List (List UInt8)) (h : So w p ep sq st lf v l) (A : Option Addr) (c n : Nat) (b : List UInt8) (hn : b.length = n) (hr : Kb.C w A n b) (hb : n ≤ 8192) (hl : l.length < 64) (hs : sq + l.length ≤ 1073741824) :
    Calls Try.prog 20 #[.pointer (some ⟨p, 0, none⟩), .slice A n c] w fun e w' => e = .returned .nilIface ∧ (∃ v', So w' p ep sq st lf v' (l ++ [b])) ∧ Below p w w' := by
  obtain ⟨A0, c0, hv, hc⟩ := h.val
  subst hv
  have d1 : decide ((8192 : Int) < (n : Int)) = false := decide_eq_false (by omega)
  have d2 : decide ((64 : Int) ≤ (l.length : Int)) = false := decide_eq_false (by omega)
  have d3 : decide ((1073741824 : Int) < (sq : Int) + (l.length : Int)) = false := decide_eq_false (by omega)
  have d4 : wrap64 ((sq : Int) + (l.length : Int)) = (sq : Int) + (l.length : Int) := by unfold wrap64; omega
  have H := Aside0.mk (show So w.drew p ep sq st lf (.slice A0 l.length c0) l from h.below (Below.drew (Below.refl _ _)))
  have HR := Aside0.mk (show Kb.C w.drew A n b from hr)
  have HN := Aside0.mk hn
  have HB := Aside0.mk (Below.drew (Below.refl p w))
  clear h hr hn
  go_enter Try.func20, Try.ntmps20
  go_wp2
  refine start_ (n := 20) (S := fun w' => So w' p ep sq st lf (.slice A0 l.length c0) l ∧ True) (ds := []) #[false, false, false, false, false, false, false, false, false, false, false, false, false, false, false, false, false, false, false, false] (by kernel_rfl) rfl rfl ⟨H.out, trivial⟩ (fun hHeld => ?_)
  refine with_tabW f20_r5.tab5 f20_r5.bits5 (fun HT_ HW_ => ?_)
  generalize w.drew = w1 at H HR HB hHeld ⊢
  refine pure_ (i := 0) (N := some 15) (v := ?_) (a' := ?_) #[true, false, false, false, false, false, false, false, false, false, false, false, false, false, false, false, false, false, false, false] rfl rfl (any_of HT_.out (by kernel_rfl)) (fun _ _ _ h => h) (Or.inl ⟨by rfl, ?_⟩) ?_ ?_
  rotate_left
  · intro w'
    go_simp
    with_reducible rfl
  rotate_left
  · simp only [Act.put, List.setIfInBounds_toArray, List.set_cons_zero, List.set_cons_succ, i64_w, i32_w]
    rfl
  refine pure_ (i := 1) (N := some 16) (v := ?_) (a' := ?_) #[true, true, false, false, false, false, false, false, false, false, false, false, false, false, false, false, false, false, false, false] rfl rfl (any_of HT_.out (by kernel_rfl)) (fun _ _ _ h => h) (Or.inl ⟨by rfl, ?_⟩) ?_ ?_
  rotate_left
  · intro w'
    go_simp
    with_reducible rfl
  rotate_left
  · simp only [Act.put, List.setIfInBounds_toArray, List.set_cons_zero, List.set_cons_succ, i64_w, i32_w]
    rfl
  refine pure_ (i := 2) (N := some 17) (v := ?_) (a' := ?_) #[true, true, true, false, false, false, false, false, false, false, false, false, false, false, false, false, false, false, false, false] rfl rfl (any_of HT_.out (by kernel_rfl)) (fun _ _ _ h => h) (Or.inl ⟨by rfl, ?_⟩) ?_ ?_
  rotate_left
  · intro w'
    go_simp
    with_reducible rfl
  rotate_left
  · simp only [Act.put, List.setIfInBounds_toArray, List.set_cons_zero, List.set_cons_succ, i64_w, i32_w]
    rfl
  refine take_ (i := 3) (N := some 18) (v := ?_) (a' := ?_) #[true, true, true, true, false, false, false, false, false, false, false, false, false, false, false, false, false, false, false, false] rfl rfl (take_ofW HT_.out HW_.out (by kernel_rfl)) (fun _ _ _ h => h) (Or.inl ⟨by rfl, ?_⟩) hHeld ?_ ?_
  rotate_left
  · intro w' s0
    have e := s0.1.c2
    go_simp
    with_reducible rfl
  rotate_left
  · simp only [Act.put, List.setIfInBounds_toArray, List.set_cons_zero, List.set_cons_succ, i64_w, i32_w]
    rfl
  refine pure_ (i := 4) (N := some 19) (v := ?_) (a' := ?_) #[true, true, true, true, true, false, false, false, false, false, false, false, false, false, false, false, false, false, false, false] rfl rfl (any_of HT_.out (by kernel_rfl)) (fun _ _ _ h => h) (Or.inl ⟨by rfl, ?_⟩) ?_ ?_
  rotate_left
  · intro w'
    go_simp
    with_reducible rfl
  rotate_left
  · simp only [Act.put, List.setIfInBounds_toArray, List.set_cons_zero, List.set_cons_succ, i64_w, i32_w]
    rfl
  refine pure_ (i := 5) (N := some 20) (v := ?_) (a' := ?_) #[true, true, true, true, true, true, false, false, false, false, false, false, false, false, false, false, false, false, false, false] rfl rfl (any_of HT_.out (by kernel_rfl)) (fun _ _ _ h => h) (Or.inl ⟨by rfl, ?_⟩) ?_ ?_
  rotate_left
  · intro w'
    go_simp
    with_reducible rfl
  rotate_left
  · simp only [Act.put, List.setIfInBounds_toArray, List.set_cons_zero, List.set_cons_succ, i64_w, i32_w]
    rfl
  refine pure_ (i := 6) (N := some 21) (v := ?_) (a' := ?_) #[true, true, true, true, true, true, true, false, false, false, false, false, false, false, false, false, false, false, false, false] rfl rfl (any_of HT_.out (by kernel_rfl)) (fun _ _ _ h => h) (Or.inl ⟨by rfl, ?_⟩) ?_ ?_
  rotate_left
  · intro w'
    go_simp
    with_reducible rfl
  rotate_left
  · simp only [Act.put, List.setIfInBounds_toArray, List.set_cons_zero, List.set_cons_succ, i64_w, i32_w]
    rfl
  refine pure_ (i := 7) (N := some 22) (v := ?_) (a' := ?_) #[true, true, true, true, true, true, true, true, false, false, false, false, false, false, false, false, false, false, false, false] rfl rfl (any_of HT_.out (by kernel_rfl)) (fun _ _ _ h => h) (Or.inl ⟨by rfl, ?_⟩) ?_ ?_
  rotate_left
  · intro w'
    go_simp
    with_reducible rfl
  rotate_left
  · simp only [Act.put, List.setIfInBounds_toArray, List.set_cons_zero, List.set_cons_succ, i64_w, i32_w]
    rfl
  refine pure_ (i := 8) (N := some 23) (v := ?_) (a' := ?_) #[true, true, true, true, true, true, true, true, true, false, false, false, false, false, false, false, false, false, false, false] rfl rfl (any_of HT_.out (by kernel_rfl)) (fun _ _ _ h => h) (Or.inl ⟨by rfl, ?_⟩) ?_ ?_
  rotate_left
  · intro w'
    go_simp
    with_reducible rfl
  rotate_left
  · simp only [Act.put, List.setIfInBounds_toArray, List.set_cons_zero, List.set_cons_succ, i64_w, i32_w]
    rfl
  refine pure_ (i := 9) (N := some 24) (v := ?_) (a' := ?_) #[true, true, true, true, true, true, true, true, true, true, false, false, false, false, false, false, false, false, false, false] rfl rfl (any_of HT_.out (by kernel_rfl)) (fun _ _ _ h => h) (Or.inl ⟨by rfl, ?_⟩) ?_ ?_
  rotate_left
  · intro w'
    go_simp
    with_reducible rfl
  rotate_left
  · simp only [Act.put, List.setIfInBounds_toArray, List.set_cons_zero, List.set_cons_succ, i64_w, i32_w]
    rfl
  refine pure_ (i := 11) (N := some 26) (v := ?_) (a' := ?_) #[true, true, true, true, true, true, true, true, true, true, false, true, false, false, false, false, false, false, false, false] rfl rfl (any_of HT_.out (by kernel_rfl)) (fun _ _ _ h => h) (Or.inl ⟨by rfl, ?_⟩) ?_ ?_
  rotate_left
  · intro w'
    go_simp
    with_reducible rfl
  rotate_left
  · simp only [Act.put, List.setIfInBounds_toArray, List.set_cons_zero, List.set_cons_succ, i64_w, i32_w]
    rfl
  refine pure_ (i := 12) (N := some 27) (v := ?_) (a' := ?_) #[true, true, true, true, true, true, true, true, true, true, false, true, true, false, false, false, false, false, false, false] rfl rfl (any_of HT_.out (by kernel_rfl)) (fun _ _ _ h => h) (Or.inl ⟨by rfl, ?_⟩) ?_ ?_
  rotate_left
  · intro w'
    go_simp
    with_reducible rfl
  rotate_left
  · simp only [Act.put, List.setIfInBounds_toArray, List.set_cons_zero, List.set_cons_succ, i64_w, i32_w]
    rfl
  refine pure_ (i := 13) (N := some 28) (v := ?_) (a' := ?_) #[true, true, true, true, true, true, true, true, true, true, false, true, true, true, false, false, false, false, false, false] rfl rfl (any_of HT_.out (by kernel_rfl)) (fun _ _ _ h => h) (Or.inl ⟨by rfl, ?_⟩) ?_ ?_
  rotate_left
  · intro w'
    go_simp
    with_reducible rfl
  rotate_left
  · simp only [Act.put, List.setIfInBounds_toArray, List.set_cons_zero, List.set_cons_succ, i64_w, i32_w]
    rfl
  refine take_ (i := 10) (N := some 25) (v := ?_) (a' := ?_) #[true, true, true, true, true, true, true, true, true, true, true, true, true, true, false, false, false, false, false, false] rfl rfl (take_ofW HT_.out HW_.out (by kernel_rfl)) (fun _ _ _ h => h) (Or.inl ⟨by rfl, ?_⟩) hHeld ?_ ?_
  rotate_left
  · intro w' s0
    have e := s0.1.c1
    go_simp
    with_reducible rfl
  rotate_left
  · simp only [Act.put, List.setIfInBounds_toArray, List.set_cons_zero, List.set_cons_succ, i64_w, i32_w]
    rfl
  refine take_ (i := 14) (N := some 29) (v := ?_) (a' := ?_) #[true, true, true, true, true, true, true, true, true, true, true, true, true, true, true, false, false, false, false, false] rfl rfl (take_ofW HT_.out HW_.out (by kernel_rfl)) (fun _ _ _ h => h) (Or.inl ⟨by rfl, ?_⟩) hHeld ?_ ?_
  rotate_left
  · intro w' s0
    have e := s0.1.c2
    go_simp
    with_reducible rfl
  rotate_left
  · simp only [Act.put, List.setIfInBounds_toArray, List.set_cons_zero, List.set_cons_succ, i64_w, i32_w]
    rfl
  refine pure_ (i := 15) (N := some 30) (v := ?_) (a' := ?_) #[true, true, true, true, true, true, true, true, true, true, true, true, true, true, true, true, false, false, false, false] rfl rfl (any_of HT_.out (by kernel_rfl)) (fun _ _ _ h => h) (Or.inl ⟨by rfl, ?_⟩) ?_ ?_
  rotate_left
  · intro w'
    go_simp
    with_reducible rfl
  rotate_left
  · simp only [Act.put, List.setIfInBounds_toArray, List.set_cons_zero, List.set_cons_succ, i64_w, i32_w]
    rfl
  refine pure_ (i := 16) (N := some 31) (v := ?_) (a' := ?_) #[true, true, true, true, true, true, true, true, true, true, true, true, true, true, true, true, true, false, false, false] rfl rfl (any_of HT_.out (by kernel_rfl)) (fun _ _ _ h => h) (Or.inl ⟨by rfl, ?_⟩) ?_ ?_
  rotate_left
  · intro w'
    go_simp
    with_reducible rfl
  rotate_left
  · simp only [Act.put, List.setIfInBounds_toArray, List.set_cons_zero, List.set_cons_succ, i64_w, i32_w]
    rfl
  refine pure_ (i := 17) (N := some 32) (v := ?_) (a' := ?_) #[true, true, true, true, true, true, true, true, true, true, true, true, true, true, true, true, true, true, false, false] rfl rfl (any_of HT_.out (by kernel_rfl)) (fun _ _ _ h => h) (Or.inl ⟨by rfl, ?_⟩) ?_ ?_
  rotate_left
  · intro w'
    go_simp
    with_reducible rfl
  rotate_left
  · simp only [Act.put, List.setIfInBounds_toArray, List.set_cons_zero, List.set_cons_succ, i64_w, i32_w]
    rfl
  refine pure_ (i := 18) (N := some 33) (v := ?_) (a' := ?_) #[true, true, true, true, true, true, true, true, true, true, true, true, true, true, true, true, true, true, true, false] rfl rfl (any_of HT_.out (by kernel_rfl)) (fun _ _ _ h => h) (Or.inl ⟨by rfl, ?_⟩) ?_ ?_
  rotate_left
  · intro w'
    go_simp
    with_reducible rfl
  rotate_left
  · simp only [Act.put, List.setIfInBounds_toArray, List.set_cons_zero, List.set_cons_succ, i64_w, i32_w]
    rfl
  refine pure_ (i := 19) (N := some 14) (v := ?_) (a' := ?_) #[true, true, true, true, true, true, true, true, true, true, true, true, true, true, true, true, true, true, true, true] rfl rfl (any_of HT_.out (by kernel_rfl)) (fun _ _ _ h => h) (Or.inl ⟨by rfl, ?_⟩) ?_ ?_
  rotate_left
  · intro w'
    go_simp
    with_reducible rfl
  rotate_left
  · simp only [Act.put, List.setIfInBounds_toArray, List.set_cons_zero, List.set_cons_succ, i64_w, i32_w]
    rfl
  refine done_ (done_of HT_.out (by kernel_rfl)) ?_
  clear hHeld
  have H2 := Aside0.mk (show So w1.drew p ep sq st lf (.slice A0 l.length c0) l from H.out.below (Below.drew (Below.refl _ _)))
  have HR2 := Aside0.mk (show Kb.C w1.drew A n b from HR.out)
  have HB2 := Aside0.mk (Below.drew HB.out)
  go_wp2
  refine start_ (n := 12) (S := fun w' => So w' p ep sq st lf (.slice A0 l.length c0) l ∧ True) (ds := [8, 11]) #[false, false, false, false, false, false, false, false, false, false, false, false] (by kernel_rfl) rfl rfl ⟨H2.out, trivial⟩ (fun hHeld => ?_)
  refine with_tabW f20_r7.tab7 f20_r7.bits7 (fun HT_ HW_ => ?_)
  generalize w1.drew = w2 at H2 HR2 HB2 hHeld ⊢
  refine pure_ (i := 0) (N := some 35) (v := ?_) (a' := ?_) #[true, false, false, false, false, false, false, false, false, false, false, false] rfl rfl (any_of HT_.out (by kernel_rfl)) (fun _ _ _ h => h) (Or.inl ⟨by rfl, ?_⟩) ?_ ?_
  rotate_left
  · intro w'
    go_simp
    with_reducible rfl
  rotate_left
  · simp only [Act.put, List.setIfInBounds_toArray, List.set_cons_zero, List.set_cons_succ, i64_w, i32_w]
    rfl
  refine pure_ (i := 1) (N := some 36) (v := ?_) (a' := ?_) #[true, true, false, false, false, false, false, false, false, false, false, false] rfl rfl (any_of HT_.out (by kernel_rfl)) (fun _ _ _ h => h) (Or.inl ⟨by rfl, ?_⟩) ?_ ?_
  rotate_left
  · intro w'
    go_simp
    with_reducible rfl
  rotate_left
  · simp only [Act.put, List.setIfInBounds_toArray, List.set_cons_zero, List.set_cons_succ, i64_w, i32_w]
    rfl
  refine pure_ (i := 2) (N := some 37) (v := ?_) (a' := ?_) #[true, true, true, false, false, false, false, false, false, false, false, false] rfl rfl (any_of HT_.out (by kernel_rfl)) (fun _ _ _ h => h) (Or.inl ⟨by rfl, ?_⟩) ?_ ?_
  rotate_left
  · intro w'
    go_simp
    with_reducible rfl
  rotate_left
  · simp only [Act.put, List.setIfInBounds_toArray, List.set_cons_zero, List.set_cons_succ, i64_w, i32_w]
    rfl
  refine pure_ (i := 3) (N := some 38) (v := ?_) (a' := ?_) #[true, true, true, true, false, false, false, false, false, false, false, false] rfl rfl (any_of HT_.out (by kernel_rfl)) (fun _ _ _ h => h) (Or.inl ⟨by rfl, ?_⟩) ?_ ?_
  rotate_left
  · intro w'
    go_simp
    with_reducible rfl
  rotate_left
  · simp only [Act.put, List.setIfInBounds_toArray, List.set_cons_zero, List.set_cons_succ, i64_w, i32_w]
    rfl
  refine pure_ (i := 5) (N := some 40) (v := ?_) (a' := ?_) #[true, true, true, true, false, true, false, false, false, false, false, false] rfl rfl (any_of HT_.out (by kernel_rfl)) (fun _ _ _ h => h) (Or.inl ⟨by rfl, ?_⟩) ?_ ?_
  rotate_left
  · intro w'
    go_simp
    with_reducible rfl
  rotate_left
  · simp only [Act.put, List.setIfInBounds_toArray, List.set_cons_zero, List.set_cons_succ, i64_w, i32_w]
    rfl
  refine take_ (i := 4) (N := some 39) (v := ?_) (a' := ?_) #[true, true, true, true, true, true, false, false, false, false, false, false] rfl rfl (take_ofW HT_.out HW_.out (by kernel_rfl)) (fun _ _ _ h => h) (Or.inl ⟨by rfl, ?_⟩) hHeld ?_ ?_
  rotate_left
  · intro w' s0
    have e := s0.1.c2
    go_simp
    with_reducible rfl
  rotate_left
  · simp only [Act.put, List.setIfInBounds_toArray, List.set_cons_zero, List.set_cons_succ, i64_w, i32_w]
    rfl
  refine one_ (i := 6) (N := some 41) #[true, true, true, true, true, true, true, false, false, false, false, false] rfl rfl (one_of HT_.out (by kernel_rfl)) (by decide) (fun K hK => ?_)
  refine goes_ Try.func43 (by kernel_rfl) rfl #[.slice A n c] (by rfl) rfl rfl (by (try simp only [List.map_toArray, List.map_cons, List.map_nil]); first | done | rfl) ?_
  with_reducible refine (Clone_v A c n b w2 HN.out HR2.out (by omega) b rfl).mono ?_
  rintro e w3 ⟨A3, c3, rfl, hB3, hb3⟩
  refine ⟨_, rfl, ?_⟩
  have HC := Aside0.mk hB3
  have HB3 := Aside0.mk (HB2.out.trans (hb3.mono (Nat.le_of_lt H2.out.lt)))
  have hp2 := H2.out.lt
  have hw3 := hb3.size
  have H3 := Aside0.mk (H2.out.below hb3)
  refine hK.out _ _ ⟨(So.below hHeld.1 hb3), trivial⟩ (fun hHeld => ?_)
  clear hK K
  refine norm_ (a' := ?_) ?_ ?_
  rotate_left
  · show Act.put _ (some 41) _ = _
    simp only [Act.put, List.setIfInBounds_toArray, List.set_cons_zero, List.set_cons_succ, i64_w, i32_w]
    rfl
  refine one_ (i := 7) (N := some 42) #[true, true, true, true, true, true, true, true, false, false, false, false] rfl rfl (one_of HT_.out (by kernel_rfl)) (by decide) (fun K hK => ?_)
  refine value_ (w1 := ?_) (v := ?_) (by rfl) rfl ?_ ?_
  rotate_left 2
  · go_simp
    constructor
    · rfl
    · rfl
  refine hK.out _ _ ⟨(So.below hHeld.1 (below_alloc (Below.refl _ _) _)), trivial⟩ (fun hHeld => ?_)
  clear hK K
  refine norm_ (a' := ?_) ?_ ?_
  rotate_left
  · show Act.put _ (some 42) _ = _
    simp only [Act.put, List.setIfInBounds_toArray, List.set_cons_zero, List.set_cons_succ, i64_w, i32_w]
    rfl
  refine last_ (i := 8) (N := some 43) #[true, true, true, true, true, true, true, true, true, false, false, false] rfl rfl (one_of HT_.out (by kernel_rfl)) (by decide) (fun K hK => ?_)
  refine Kd.R_append_step (w0 := w3) (W := w3) Kq (p + 1) (by rfl) (.tmp 39) (.tmp 42) 33 22 (.slice none 0 0) 24 rfl Try.underlying33 infoQ rfl (by decide) (by decide) (.slice A0 l.length c0) l b [.slice A3 b.length c3] (fun _ => True) (fun k => w2.heap.size ≤ k) rfl rfl ⟨_, rfl, Kd.R_lower (Kd.R_mono (Kd.R_bound HC.out) (fun k hk => hk.2.1)) hp2⟩ (fun k hk => ⟨trivial, fun e => by have := Kd.R_lt H2.out.row k e.symm; omega⟩) (fun _ _ => trivial) H3.out.row (Below.refl _ _) (by omega) (by omega) ?_
  intro v5 w5 hR5 hB5 hg5 hat5
  obtain ⟨A5, c5, rfl⟩ := Kd.R_slice hR5
  rw [show (l ++ [b]).length = l.length + 1 by simp] at hR5 hat5 ⊢
  have hb5 := blk_grown H3.out.blk hg5 (fun e => by have := Kd.R_base H3.out.row p e.symm; omega)
  have HR5 := Aside0.mk hR5
  have HK5 := Aside0.mk hb5
  have HB5 := Aside0.mk (HB3.out.trans (hB5.mono (Nat.le_succ p)))
  have e5 : w5.cell? ⟨p, 2, none⟩ = some (.slice A0 l.length c0) := blk_cell hb5 2
  have f5 : w5.frozen? ⟨p, 2, none⟩ = false := blk_frozen hb5 2
  clear hR5 hB5 hg5 hat5 hb5
  refine hK.out _ _ ?_
  clear hK K
  refine norm_ (a' := ?_) ?_ ?_
  rotate_left
  · show Act.put _ (some 43) _ = _
    simp only [Act.put, List.setIfInBounds_toArray, List.set_cons_zero, List.set_cons_succ, i64_w, i32_w]
    rfl
  refine pure_ (i := 9) (N := some 44) (v := ?_) (a' := ?_) #[true, true, true, true, true, true, true, true, true, true, false, false] rfl rfl (any_of HT_.out (by kernel_rfl)) (fun _ _ _ h => h) (Or.inl ⟨by rfl, ?_⟩) ?_ ?_
  rotate_left
  · intro w'
    go_simp
    with_reducible rfl
  rotate_left
  · simp only [Act.put, List.setIfInBounds_toArray, List.set_cons_zero, List.set_cons_succ, i64_w, i32_w]
    rfl
  refine pure_ (i := 10) (N := some 45) (v := ?_) (a' := ?_) #[true, true, true, true, true, true, true, true, true, true, true, false] rfl rfl (any_of HT_.out (by kernel_rfl)) (fun _ _ _ h => h) (Or.inl ⟨by rfl, ?_⟩) ?_ ?_
  rotate_left
  · intro w'
    go_simp
    with_reducible rfl
  rotate_left
  · simp only [Act.put, List.setIfInBounds_toArray, List.set_cons_zero, List.set_cons_succ, i64_w, i32_w]
    rfl
  refine last_ (i := 11) (N := none) #[true, true, true, true, true, true, true, true, true, true, true, true] rfl rfl (one_of HT_.out (by kernel_rfl)) (by decide) (fun K hK => ?_)
  refine skip_ (w1 := ?_) (by rfl) rfl ?_ ?_
  rotate_left
  · go_simp
    rfl
  refine hK.out _ _ ?_
  clear hK K
  refine done_ (done_of HT_.out (by kernel_rfl)) ?_
  go_wp2
  go_ret
  exact ⟨rfl, ⟨_, So.set2 HK5.out HR5.out⟩, HB5.out.setCell (Nat.le_refl p) _⟩
end Go.Proofs.Ytpgighcobmaecaa.Sn
