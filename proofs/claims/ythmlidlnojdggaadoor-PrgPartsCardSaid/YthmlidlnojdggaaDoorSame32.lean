/- Two rows of words are the same. -/
import Derived.Test.YthmlidlnojdggaaDoorWord
set_option linter.unusedVariables false
set_option linter.unusedSimpArgs false
namespace Go.Proofs.YthmlidlnojdggaaDoor
open Go.RowKit Go.Proofs.YthmlidlnojdggaaDoorW.PrintWords Go.Proofs.YthmlidlnojdggaaDoorW.PrintLast

def f27_r6.T6 : Bool × List (List Nat × List Nat) := (true, [([], []), ([], []), ([0, 1], [0, 1]), ([2], [2]), ([], []), ([], []), ([4, 5], [4, 5]), ([6], [6]), ([3, 7], [3, 7])])
def f27_r6.B6 : List Nat := [0, 0, 3, 7, 0, 0, 48, 112, 255]
theorem f27_r6.tab6 : Go.Proofs.YthmlidlnojdggaaDoorW.PrintLast.rtab .any (Go.Proofs.YthmlidlnojdggaaDoorW.PrintLast.opsOf Tryd.f27 6) = f27_r6.T6 := by kernel_rfl
theorem f27_r6.bits6 : Go.Proofs.YthmlidlnojdggaaDoorW.PrintLast.waitsOk f27_r6.T6.2 f27_r6.B6 = true := by kernel_rfl
set_option maxRecDepth 100000 in
set_option maxHeartbeats 4000000 in
theorem RefSame_calls (A B : Option Addr) (c d n m : Nat) (xs ys : List W32) (w : World) (hn : xs.length = n) (hm : ys.length = m) (hr : K32.C w A n xs) (hs : K32.C w B m ys) (v : Bool) (hv : v = (xs == ys)) :
    Calls Tryd.prog 27 #[.slice A n c, .slice B m d] w fun e w' => e = .returned (.bool v) ∧ Below w.heap.size w w' := by
  have HN := Aside0.mk hn
  have HM := Aside0.mk hm
  have HR := Aside0.mk hr
  have HS := Aside0.mk hs
  have HV := Aside0.mk hv
  have hnb := hr.2.1
  clear hn hm hr hs hv
  by_cases hl : n = m
  · subst hl
    have hq0 : ((n : Int) == (n : Int)) = true := by simp
    have hq1 : ((n : Int) != (n : Int)) = false := by simp
    go_enter Tryd.func27, Tryd.ntmps27
    go_wp2
    go_loopw [5] (fun i wr => ∃ k : Nat, k ≤ n ∧ i = .int .i64 k ∧ Aside0 (xs.take k = ys.take k) ∧ Aside0 (Below w.heap.size w wr)) (fun i _ => n - (intOf i).toNat)
    case atStart => exact ⟨0, Nat.zero_le _, rfl, ⟨rfl⟩, ⟨Below.refl _ _⟩⟩
    case round =>
      obtain ⟨k, hk, rfl, HE, HW⟩ := hrel
      have hz1 := Below.size HW.out
      by_cases hlt : k < n
      · have hki : (k : Int) < (n : Int) := by omega
        obtain ⟨x, hx⟩ : ∃ x, x = xs.getD k 0 := ⟨_, rfl⟩
        obtain ⟨y, hy⟩ : ∃ y, y = ys.getD k 0 := ⟨_, rfl⟩
        have HX := Aside0.mk (show ∀ W, K32.C W A n xs → ∃ ad, A = some ad ∧ W.cell? (ad.add k) = some (.int .u32 (x.toNat : Int)) from fun W h => by rw [hx]; exact at_wn h k hlt)
        have HY := Aside0.mk (show ∀ W, K32.C W B n ys → ∃ ad, B = some ad ∧ W.cell? (ad.add k) = some (.int .u32 (y.toNat : Int)) from fun W h => by rw [hy]; exact at_wn h k hlt)
        have hxg : xs.getD k 0 = xs[k]'(by rw [HN.out]; exact hlt) := by simp [List.getD, show k < xs.length by rw [HN.out]; exact hlt]
        have hyg : ys.getD k 0 = ys[k]'(by rw [HM.out]; exact hlt) := by simp [List.getD, show k < ys.length by rw [HM.out]; exact hlt]
        have HXY := Aside0.mk (show x = y → xs.take (k + 1) = ys.take (k + 1) from fun h => by
          rw [List.take_succ_eq_append_getElem (by rw [HN.out]; exact hlt), List.take_succ_eq_append_getElem (by rw [HM.out]; exact hlt), HE.out, ← hxg, ← hyg, ← hx, ← hy, h])
        have HXN := Aside0.mk (show x ≠ y → xs ≠ ys from fun h he => h (by rw [hx, hy, he]))
        clear hx hy hxg hyg
        obtain ⟨a, ha, _⟩ := HX.out w HR.out
        obtain ⟨b, hb, _⟩ := HY.out w HS.out
        subst ha hb
        have CX := Aside0.mk (show ∀ W, K32.C W (some a) n xs → W.cell? (a.add k) = some (.int .u32 (x.toNat : Int)) from fun W h => by obtain ⟨ad, e, hc⟩ := HX.out W h; injection e with e; subst e; exact hc)
        have CY := Aside0.mk (show ∀ W, K32.C W (some b) n ys → W.cell? (b.add k) = some (.int .u32 (y.toNat : Int)) from fun W h => by obtain ⟨ad, e, hc⟩ := HY.out W h; injection e with e; subst e; exact hc)
        by_cases hxy : x = y
        · have HE2 := Aside0.mk (HXY.out hxy)
          have h0 : ((x.toNat : Int) == (y.toNat : Int)) = true := by rw [hxy]; simp
          have h1 : ((x.toNat : Int) != (y.toNat : Int)) = false := by rw [hxy]; simp
          clear hxy
          go_wp2
          refine start_ (n := 9) (S := fun w' => Below w.heap.size w w' ∧ True) (ds := []) #[false, false, false, false, false, false, false, false, false] (by kernel_rfl) rfl rfl ⟨below_drew HW.out, trivial⟩ (fun hHeld => ?_)
          refine with_tabW f27_r6.tab6 f27_r6.bits6 (fun HT_ HW_ => ?_)
          refine pure_ (i := 0) (N := some 17) (v := ?_) (a' := ?_) #[true, false, false, false, false, false, false, false, false] rfl rfl (any_of HT_.out (by kernel_rfl)) (fun _ _ _ h => h) (Or.inl ⟨by rfl, ?_⟩) ?_ ?_
          rotate_left
          · intro w'
            go_simp
            with_reducible rfl
          rotate_left
          · simp only [Act.put, List.setIfInBounds_toArray, List.set_cons_zero, List.set_cons_succ, i64_w, i32_w]
            rfl
          refine pure_ (i := 1) (N := some 18) (v := ?_) (a' := ?_) #[true, true, false, false, false, false, false, false, false] rfl rfl (any_of HT_.out (by kernel_rfl)) (fun _ _ _ h => h) (Or.inl ⟨by rfl, ?_⟩) ?_ ?_
          rotate_left
          · intro w'
            go_simp
            with_reducible rfl
          rotate_left
          · simp only [Act.put, List.setIfInBounds_toArray, List.set_cons_zero, List.set_cons_succ, i64_w, i32_w]
            rfl
          refine pure_ (i := 2) (N := some 19) (v := ?_) (a' := ?_) #[true, true, true, false, false, false, false, false, false] rfl rfl (any_of HT_.out (by kernel_rfl)) (fun _ _ _ h => h) (Or.inl ⟨by rfl, ?_⟩) ?_ ?_
          rotate_left
          · intro w'
            go_simp
            with_reducible rfl
          rotate_left
          · simp only [Act.put, List.setIfInBounds_toArray, List.set_cons_zero, List.set_cons_succ, i64_w, i32_w]
            rfl
          refine pure_ (i := 4) (N := some 21) (v := ?_) (a' := ?_) #[true, true, true, false, true, false, false, false, false] rfl rfl (any_of HT_.out (by kernel_rfl)) (fun _ _ _ h => h) (Or.inl ⟨by rfl, ?_⟩) ?_ ?_
          rotate_left
          · intro w'
            go_simp
            with_reducible rfl
          rotate_left
          · simp only [Act.put, List.setIfInBounds_toArray, List.set_cons_zero, List.set_cons_succ, i64_w, i32_w]
            rfl
          refine pure_ (i := 5) (N := some 22) (v := ?_) (a' := ?_) #[true, true, true, false, true, true, false, false, false] rfl rfl (any_of HT_.out (by kernel_rfl)) (fun _ _ _ h => h) (Or.inl ⟨by rfl, ?_⟩) ?_ ?_
          rotate_left
          · intro w'
            go_simp
            with_reducible rfl
          rotate_left
          · simp only [Act.put, List.setIfInBounds_toArray, List.set_cons_zero, List.set_cons_succ, i64_w, i32_w]
            rfl
          refine pure_ (i := 6) (N := some 23) (v := ?_) (a' := ?_) #[true, true, true, false, true, true, true, false, false] rfl rfl (any_of HT_.out (by kernel_rfl)) (fun _ _ _ h => h) (Or.inl ⟨by rfl, ?_⟩) ?_ ?_
          rotate_left
          · intro w'
            go_simp
            with_reducible rfl
          rotate_left
          · simp only [Act.put, List.setIfInBounds_toArray, List.set_cons_zero, List.set_cons_succ, i64_w, i32_w]
            rfl
          refine take_ (i := 3) (N := some 20) (v := ?_) (a' := ?_) #[true, true, true, true, true, true, true, false, false] rfl rfl (take_ofW HT_.out HW_.out (by kernel_rfl)) (fun _ _ _ h => h) (Or.inl ⟨by rfl, ?_⟩) hHeld ?_ ?_
          rotate_left
          · intro w' s0
            have e := CX.out _ (Kd.C_below HR.out s0.1)
            go_simp
            with_reducible rfl
          rotate_left
          · simp only [Act.put, List.setIfInBounds_toArray, List.set_cons_zero, List.set_cons_succ, i64_w, i32_w]
            rfl
          refine take_ (i := 7) (N := some 24) (v := ?_) (a' := ?_) #[true, true, true, true, true, true, true, true, false] rfl rfl (take_ofW HT_.out HW_.out (by kernel_rfl)) (fun _ _ _ h => h) (Or.inl ⟨by rfl, ?_⟩) hHeld ?_ ?_
          rotate_left
          · intro w' s0
            have e := CY.out _ (Kd.C_below HS.out s0.1)
            go_simp
            with_reducible rfl
          rotate_left
          · simp only [Act.put, List.setIfInBounds_toArray, List.set_cons_zero, List.set_cons_succ, i64_w, i32_w]
            rfl
          refine pure_ (i := 8) (N := some 25) (v := ?_) (a' := ?_) #[true, true, true, true, true, true, true, true, true] rfl rfl (any_of HT_.out (by kernel_rfl)) (fun _ _ _ h => h) (Or.inl ⟨by rfl, ?_⟩) ?_ ?_
          rotate_left
          · intro w'
            go_simp
            with_reducible rfl
          rotate_left
          · simp only [Act.put, List.setIfInBounds_toArray, List.set_cons_zero, List.set_cons_succ, i64_w, i32_w]
            rfl
          refine done_ (done_of HT_.out (by kernel_rfl)) ?_
          have L2_w := Aside0.mk hHeld.1
          clear hHeld
          go_wp2
          go_roundw
          case rel => exact ⟨k + 1, hlt, by go_num, HE2, ⟨L2_w.out⟩⟩
          case measure => simp [intOf]; omega
        · have HV2 := Aside0.mk (show v = false by rw [HV.out]; exact beq_eq_false_iff_ne.2 (HXN.out hxy))
          have hne : ¬ (x.toNat : Int) = (y.toNat : Int) := fun h => hxy (BitVec.eq_of_toNat_eq (by omega))
          have h0 : ((x.toNat : Int) == (y.toNat : Int)) = false := beq_eq_false_iff_ne.2 hne
          have h1 : ((x.toNat : Int) != (y.toNat : Int)) = true := bne_iff_ne.2 hne
          clear hxy hne
          go_wp2
          refine start_ (n := 9) (S := fun w' => Below w.heap.size w w' ∧ True) (ds := []) #[false, false, false, false, false, false, false, false, false] (by kernel_rfl) rfl rfl ⟨below_drew HW.out, trivial⟩ (fun hHeld => ?_)
          refine with_tabW f27_r6.tab6 f27_r6.bits6 (fun HT_ HW_ => ?_)
          refine pure_ (i := 0) (N := some 17) (v := ?_) (a' := ?_) #[true, false, false, false, false, false, false, false, false] rfl rfl (any_of HT_.out (by kernel_rfl)) (fun _ _ _ h => h) (Or.inl ⟨by rfl, ?_⟩) ?_ ?_
          rotate_left
          · intro w'
            go_simp
            with_reducible rfl
          rotate_left
          · simp only [Act.put, List.setIfInBounds_toArray, List.set_cons_zero, List.set_cons_succ, i64_w, i32_w]
            rfl
          refine pure_ (i := 1) (N := some 18) (v := ?_) (a' := ?_) #[true, true, false, false, false, false, false, false, false] rfl rfl (any_of HT_.out (by kernel_rfl)) (fun _ _ _ h => h) (Or.inl ⟨by rfl, ?_⟩) ?_ ?_
          rotate_left
          · intro w'
            go_simp
            with_reducible rfl
          rotate_left
          · simp only [Act.put, List.setIfInBounds_toArray, List.set_cons_zero, List.set_cons_succ, i64_w, i32_w]
            rfl
          refine pure_ (i := 2) (N := some 19) (v := ?_) (a' := ?_) #[true, true, true, false, false, false, false, false, false] rfl rfl (any_of HT_.out (by kernel_rfl)) (fun _ _ _ h => h) (Or.inl ⟨by rfl, ?_⟩) ?_ ?_
          rotate_left
          · intro w'
            go_simp
            with_reducible rfl
          rotate_left
          · simp only [Act.put, List.setIfInBounds_toArray, List.set_cons_zero, List.set_cons_succ, i64_w, i32_w]
            rfl
          refine pure_ (i := 4) (N := some 21) (v := ?_) (a' := ?_) #[true, true, true, false, true, false, false, false, false] rfl rfl (any_of HT_.out (by kernel_rfl)) (fun _ _ _ h => h) (Or.inl ⟨by rfl, ?_⟩) ?_ ?_
          rotate_left
          · intro w'
            go_simp
            with_reducible rfl
          rotate_left
          · simp only [Act.put, List.setIfInBounds_toArray, List.set_cons_zero, List.set_cons_succ, i64_w, i32_w]
            rfl
          refine pure_ (i := 5) (N := some 22) (v := ?_) (a' := ?_) #[true, true, true, false, true, true, false, false, false] rfl rfl (any_of HT_.out (by kernel_rfl)) (fun _ _ _ h => h) (Or.inl ⟨by rfl, ?_⟩) ?_ ?_
          rotate_left
          · intro w'
            go_simp
            with_reducible rfl
          rotate_left
          · simp only [Act.put, List.setIfInBounds_toArray, List.set_cons_zero, List.set_cons_succ, i64_w, i32_w]
            rfl
          refine pure_ (i := 6) (N := some 23) (v := ?_) (a' := ?_) #[true, true, true, false, true, true, true, false, false] rfl rfl (any_of HT_.out (by kernel_rfl)) (fun _ _ _ h => h) (Or.inl ⟨by rfl, ?_⟩) ?_ ?_
          rotate_left
          · intro w'
            go_simp
            with_reducible rfl
          rotate_left
          · simp only [Act.put, List.setIfInBounds_toArray, List.set_cons_zero, List.set_cons_succ, i64_w, i32_w]
            rfl
          refine take_ (i := 3) (N := some 20) (v := ?_) (a' := ?_) #[true, true, true, true, true, true, true, false, false] rfl rfl (take_ofW HT_.out HW_.out (by kernel_rfl)) (fun _ _ _ h => h) (Or.inl ⟨by rfl, ?_⟩) hHeld ?_ ?_
          rotate_left
          · intro w' s0
            have e := CX.out _ (Kd.C_below HR.out s0.1)
            go_simp
            with_reducible rfl
          rotate_left
          · simp only [Act.put, List.setIfInBounds_toArray, List.set_cons_zero, List.set_cons_succ, i64_w, i32_w]
            rfl
          refine take_ (i := 7) (N := some 24) (v := ?_) (a' := ?_) #[true, true, true, true, true, true, true, true, false] rfl rfl (take_ofW HT_.out HW_.out (by kernel_rfl)) (fun _ _ _ h => h) (Or.inl ⟨by rfl, ?_⟩) hHeld ?_ ?_
          rotate_left
          · intro w' s0
            have e := CY.out _ (Kd.C_below HS.out s0.1)
            go_simp
            with_reducible rfl
          rotate_left
          · simp only [Act.put, List.setIfInBounds_toArray, List.set_cons_zero, List.set_cons_succ, i64_w, i32_w]
            rfl
          refine pure_ (i := 8) (N := some 25) (v := ?_) (a' := ?_) #[true, true, true, true, true, true, true, true, true] rfl rfl (any_of HT_.out (by kernel_rfl)) (fun _ _ _ h => h) (Or.inl ⟨by rfl, ?_⟩) ?_ ?_
          rotate_left
          · intro w'
            go_simp
            with_reducible rfl
          rotate_left
          · simp only [Act.put, List.setIfInBounds_toArray, List.set_cons_zero, List.set_cons_succ, i64_w, i32_w]
            rfl
          refine done_ (done_of HT_.out (by kernel_rfl)) ?_
          have L3_w := Aside0.mk hHeld.1
          clear hHeld
          go_wp2
          go_ret
          exact ⟨by rw [HV2.out]; rfl, L3_w.out⟩
      · obtain rfl : k = n := by omega
        have HV2 := Aside0.mk (show v = true by
          have h := HE.out
          rw [List.take_of_length_le (by rw [HN.out]; exact Nat.le_refl _), List.take_of_length_le (by rw [HM.out]; exact Nat.le_refl _)] at h
          rw [HV.out, h, beq_self_eq_true])
        clear hlt
        go_wp2
        go_ret
        exact ⟨by rw [HV2.out]; rfl, HW.out⟩
  · have HV2 := Aside0.mk (show v = false by rw [HV.out]; exact beq_eq_false_iff_ne.2 (fun h => hl (by rw [← HN.out, ← HM.out, h])))
    have hne : ¬ (n : Int) = (m : Int) := by omega
    have h0 : ((n : Int) == (m : Int)) = false := beq_eq_false_iff_ne.2 hne
    have h1 : ((n : Int) != (m : Int)) = true := bne_iff_ne.2 hne
    clear hl hne
    go_enter Tryd.func27, Tryd.ntmps27
    go_wp2
    go_ret
    exact ⟨by rw [HV2.out]; rfl, Below.refl _ _⟩
def f70_r6.T6 : Bool × List (List Nat × List Nat) := (true, [([], []), ([], []), ([0, 1], [0, 1]), ([2], [2]), ([], []), ([], []), ([4, 5], [4, 5]), ([6], [6]), ([3, 7], [3, 7])])
def f70_r6.B6 : List Nat := [0, 0, 3, 7, 0, 0, 48, 112, 255]
theorem f70_r6.tab6 : Go.Proofs.YthmlidlnojdggaaDoorW.PrintLast.rtab .any (Go.Proofs.YthmlidlnojdggaaDoorW.PrintLast.opsOf Tryd.f70 6) = f70_r6.T6 := by kernel_rfl
theorem f70_r6.bits6 : Go.Proofs.YthmlidlnojdggaaDoorW.PrintLast.waitsOk f70_r6.T6.2 f70_r6.B6 = true := by kernel_rfl
set_option maxRecDepth 100000 in
set_option maxHeartbeats 4000000 in
theorem Equal32_calls (A B : Option Addr) (c d n m : Nat) (xs ys : List W32) (w : World) (hn : xs.length = n) (hm : ys.length = m) (hr : K32.C w A n xs) (hs : K32.C w B m ys) (v : Bool) (hv : v = (xs == ys)) :
    Calls Tryd.prog 70 #[.slice A n c, .slice B m d] w fun e w' => e = .returned (.bool v) ∧ Below w.heap.size w w' := by
  have HN := Aside0.mk hn
  have HM := Aside0.mk hm
  have HR := Aside0.mk hr
  have HS := Aside0.mk hs
  have HV := Aside0.mk hv
  have hnb := hr.2.1
  clear hn hm hr hs hv
  by_cases hl : n = m
  · subst hl
    have hq0 : ((n : Int) == (n : Int)) = true := by simp
    have hq1 : ((n : Int) != (n : Int)) = false := by simp
    go_enter Tryd.func70, Tryd.ntmps70
    go_wp2
    go_loopw [5, 13] (fun _ i wr => ∃ k : Nat, k ≤ n ∧ i = .int .i64 k ∧ Aside0 (xs.take k = ys.take k) ∧ Aside0 (Below w.heap.size w wr)) (fun _ i _ => n - (intOf i).toNat)
    case atStart => exact ⟨0, Nat.zero_le _, rfl, ⟨rfl⟩, ⟨Below.refl _ _⟩⟩
    case round =>
      obtain ⟨k, hk, rfl, HE, HW⟩ := hrel
      have hz4 := Below.size HW.out
      by_cases hlt : k < n
      · have hki : (k : Int) < (n : Int) := by omega
        obtain ⟨x, hx⟩ : ∃ x, x = xs.getD k 0 := ⟨_, rfl⟩
        obtain ⟨y, hy⟩ : ∃ y, y = ys.getD k 0 := ⟨_, rfl⟩
        have HX := Aside0.mk (show ∀ W, K32.C W A n xs → ∃ ad, A = some ad ∧ W.cell? (ad.add k) = some (.int .u32 (x.toNat : Int)) from fun W h => by rw [hx]; exact at_wn h k hlt)
        have HY := Aside0.mk (show ∀ W, K32.C W B n ys → ∃ ad, B = some ad ∧ W.cell? (ad.add k) = some (.int .u32 (y.toNat : Int)) from fun W h => by rw [hy]; exact at_wn h k hlt)
        have hxg : xs.getD k 0 = xs[k]'(by rw [HN.out]; exact hlt) := by simp [List.getD, show k < xs.length by rw [HN.out]; exact hlt]
        have hyg : ys.getD k 0 = ys[k]'(by rw [HM.out]; exact hlt) := by simp [List.getD, show k < ys.length by rw [HM.out]; exact hlt]
        have HXY := Aside0.mk (show x = y → xs.take (k + 1) = ys.take (k + 1) from fun h => by
          rw [List.take_succ_eq_append_getElem (by rw [HN.out]; exact hlt), List.take_succ_eq_append_getElem (by rw [HM.out]; exact hlt), HE.out, ← hxg, ← hyg, ← hx, ← hy, h])
        have HXN := Aside0.mk (show x ≠ y → xs ≠ ys from fun h he => h (by rw [hx, hy, he]))
        clear hx hy hxg hyg
        obtain ⟨a, ha, _⟩ := HX.out w HR.out
        obtain ⟨b, hb, _⟩ := HY.out w HS.out
        subst ha hb
        have CX := Aside0.mk (show ∀ W, K32.C W (some a) n xs → W.cell? (a.add k) = some (.int .u32 (x.toNat : Int)) from fun W h => by obtain ⟨ad, e, hc⟩ := HX.out W h; injection e with e; subst e; exact hc)
        have CY := Aside0.mk (show ∀ W, K32.C W (some b) n ys → W.cell? (b.add k) = some (.int .u32 (y.toNat : Int)) from fun W h => by obtain ⟨ad, e, hc⟩ := HY.out W h; injection e with e; subst e; exact hc)
        by_cases hxy : x = y
        · have HE2 := Aside0.mk (HXY.out hxy)
          have h0 : ((x.toNat : Int) == (y.toNat : Int)) = true := by rw [hxy]; simp
          have h1 : ((x.toNat : Int) != (y.toNat : Int)) = false := by rw [hxy]; simp
          clear hxy
          go_wp2
          refine start_ (n := 9) (S := fun w' => Below w.heap.size w w' ∧ True) (ds := []) #[false, false, false, false, false, false, false, false, false] (by kernel_rfl) rfl rfl ⟨below_drew HW.out, trivial⟩ (fun hHeld => ?_)
          refine with_tabW f70_r6.tab6 f70_r6.bits6 (fun HT_ HW_ => ?_)
          refine pure_ (i := 0) (N := some 16) (v := ?_) (a' := ?_) #[true, false, false, false, false, false, false, false, false] rfl rfl (any_of HT_.out (by kernel_rfl)) (fun _ _ _ h => h) (Or.inl ⟨by rfl, ?_⟩) ?_ ?_
          rotate_left
          · intro w'
            go_simp
            with_reducible rfl
          rotate_left
          · simp only [Act.put, List.setIfInBounds_toArray, List.set_cons_zero, List.set_cons_succ, i64_w, i32_w]
            rfl
          refine pure_ (i := 1) (N := some 17) (v := ?_) (a' := ?_) #[true, true, false, false, false, false, false, false, false] rfl rfl (any_of HT_.out (by kernel_rfl)) (fun _ _ _ h => h) (Or.inl ⟨by rfl, ?_⟩) ?_ ?_
          rotate_left
          · intro w'
            go_simp
            with_reducible rfl
          rotate_left
          · simp only [Act.put, List.setIfInBounds_toArray, List.set_cons_zero, List.set_cons_succ, i64_w, i32_w]
            rfl
          refine pure_ (i := 2) (N := some 18) (v := ?_) (a' := ?_) #[true, true, true, false, false, false, false, false, false] rfl rfl (any_of HT_.out (by kernel_rfl)) (fun _ _ _ h => h) (Or.inl ⟨by rfl, ?_⟩) ?_ ?_
          rotate_left
          · intro w'
            go_simp
            with_reducible rfl
          rotate_left
          · simp only [Act.put, List.setIfInBounds_toArray, List.set_cons_zero, List.set_cons_succ, i64_w, i32_w]
            rfl
          refine pure_ (i := 4) (N := some 20) (v := ?_) (a' := ?_) #[true, true, true, false, true, false, false, false, false] rfl rfl (any_of HT_.out (by kernel_rfl)) (fun _ _ _ h => h) (Or.inl ⟨by rfl, ?_⟩) ?_ ?_
          rotate_left
          · intro w'
            go_simp
            with_reducible rfl
          rotate_left
          · simp only [Act.put, List.setIfInBounds_toArray, List.set_cons_zero, List.set_cons_succ, i64_w, i32_w]
            rfl
          refine pure_ (i := 5) (N := some 21) (v := ?_) (a' := ?_) #[true, true, true, false, true, true, false, false, false] rfl rfl (any_of HT_.out (by kernel_rfl)) (fun _ _ _ h => h) (Or.inl ⟨by rfl, ?_⟩) ?_ ?_
          rotate_left
          · intro w'
            go_simp
            with_reducible rfl
          rotate_left
          · simp only [Act.put, List.setIfInBounds_toArray, List.set_cons_zero, List.set_cons_succ, i64_w, i32_w]
            rfl
          refine pure_ (i := 6) (N := some 22) (v := ?_) (a' := ?_) #[true, true, true, false, true, true, true, false, false] rfl rfl (any_of HT_.out (by kernel_rfl)) (fun _ _ _ h => h) (Or.inl ⟨by rfl, ?_⟩) ?_ ?_
          rotate_left
          · intro w'
            go_simp
            with_reducible rfl
          rotate_left
          · simp only [Act.put, List.setIfInBounds_toArray, List.set_cons_zero, List.set_cons_succ, i64_w, i32_w]
            rfl
          refine take_ (i := 3) (N := some 19) (v := ?_) (a' := ?_) #[true, true, true, true, true, true, true, false, false] rfl rfl (take_ofW HT_.out HW_.out (by kernel_rfl)) (fun _ _ _ h => h) (Or.inl ⟨by rfl, ?_⟩) hHeld ?_ ?_
          rotate_left
          · intro w' s0
            have e := CX.out _ (Kd.C_below HR.out s0.1)
            go_simp
            with_reducible rfl
          rotate_left
          · simp only [Act.put, List.setIfInBounds_toArray, List.set_cons_zero, List.set_cons_succ, i64_w, i32_w]
            rfl
          refine take_ (i := 7) (N := some 23) (v := ?_) (a' := ?_) #[true, true, true, true, true, true, true, true, false] rfl rfl (take_ofW HT_.out HW_.out (by kernel_rfl)) (fun _ _ _ h => h) (Or.inl ⟨by rfl, ?_⟩) hHeld ?_ ?_
          rotate_left
          · intro w' s0
            have e := CY.out _ (Kd.C_below HS.out s0.1)
            go_simp
            with_reducible rfl
          rotate_left
          · simp only [Act.put, List.setIfInBounds_toArray, List.set_cons_zero, List.set_cons_succ, i64_w, i32_w]
            rfl
          refine pure_ (i := 8) (N := some 24) (v := ?_) (a' := ?_) #[true, true, true, true, true, true, true, true, true] rfl rfl (any_of HT_.out (by kernel_rfl)) (fun _ _ _ h => h) (Or.inl ⟨by rfl, ?_⟩) ?_ ?_
          rotate_left
          · intro w'
            go_simp
            with_reducible rfl
          rotate_left
          · simp only [Act.put, List.setIfInBounds_toArray, List.set_cons_zero, List.set_cons_succ, i64_w, i32_w]
            rfl
          refine done_ (done_of HT_.out (by kernel_rfl)) ?_
          have L5_w := Aside0.mk hHeld.1
          clear hHeld
          go_wp2
          go_roundw
          case rel => exact ⟨k + 1, hlt, by go_num, HE2, ⟨L5_w.out⟩⟩
          case measure => simp [intOf]; omega
        · have HV2 := Aside0.mk (show v = false by rw [HV.out]; exact beq_eq_false_iff_ne.2 (HXN.out hxy))
          have hne : ¬ (x.toNat : Int) = (y.toNat : Int) := fun h => hxy (BitVec.eq_of_toNat_eq (by omega))
          have h0 : ((x.toNat : Int) == (y.toNat : Int)) = false := beq_eq_false_iff_ne.2 hne
          have h1 : ((x.toNat : Int) != (y.toNat : Int)) = true := bne_iff_ne.2 hne
          clear hxy hne
          go_wp2
          refine start_ (n := 9) (S := fun w' => Below w.heap.size w w' ∧ True) (ds := []) #[false, false, false, false, false, false, false, false, false] (by kernel_rfl) rfl rfl ⟨below_drew HW.out, trivial⟩ (fun hHeld => ?_)
          refine with_tabW f70_r6.tab6 f70_r6.bits6 (fun HT_ HW_ => ?_)
          refine pure_ (i := 0) (N := some 16) (v := ?_) (a' := ?_) #[true, false, false, false, false, false, false, false, false] rfl rfl (any_of HT_.out (by kernel_rfl)) (fun _ _ _ h => h) (Or.inl ⟨by rfl, ?_⟩) ?_ ?_
          rotate_left
          · intro w'
            go_simp
            with_reducible rfl
          rotate_left
          · simp only [Act.put, List.setIfInBounds_toArray, List.set_cons_zero, List.set_cons_succ, i64_w, i32_w]
            rfl
          refine pure_ (i := 1) (N := some 17) (v := ?_) (a' := ?_) #[true, true, false, false, false, false, false, false, false] rfl rfl (any_of HT_.out (by kernel_rfl)) (fun _ _ _ h => h) (Or.inl ⟨by rfl, ?_⟩) ?_ ?_
          rotate_left
          · intro w'
            go_simp
            with_reducible rfl
          rotate_left
          · simp only [Act.put, List.setIfInBounds_toArray, List.set_cons_zero, List.set_cons_succ, i64_w, i32_w]
            rfl
          refine pure_ (i := 2) (N := some 18) (v := ?_) (a' := ?_) #[true, true, true, false, false, false, false, false, false] rfl rfl (any_of HT_.out (by kernel_rfl)) (fun _ _ _ h => h) (Or.inl ⟨by rfl, ?_⟩) ?_ ?_
          rotate_left
          · intro w'
            go_simp
            with_reducible rfl
          rotate_left
          · simp only [Act.put, List.setIfInBounds_toArray, List.set_cons_zero, List.set_cons_succ, i64_w, i32_w]
            rfl
          refine pure_ (i := 4) (N := some 20) (v := ?_) (a' := ?_) #[true, true, true, false, true, false, false, false, false] rfl rfl (any_of HT_.out (by kernel_rfl)) (fun _ _ _ h => h) (Or.inl ⟨by rfl, ?_⟩) ?_ ?_
          rotate_left
          · intro w'
            go_simp
            with_reducible rfl
          rotate_left
          · simp only [Act.put, List.setIfInBounds_toArray, List.set_cons_zero, List.set_cons_succ, i64_w, i32_w]
            rfl
          refine pure_ (i := 5) (N := some 21) (v := ?_) (a' := ?_) #[true, true, true, false, true, true, false, false, false] rfl rfl (any_of HT_.out (by kernel_rfl)) (fun _ _ _ h => h) (Or.inl ⟨by rfl, ?_⟩) ?_ ?_
          rotate_left
          · intro w'
            go_simp
            with_reducible rfl
          rotate_left
          · simp only [Act.put, List.setIfInBounds_toArray, List.set_cons_zero, List.set_cons_succ, i64_w, i32_w]
            rfl
          refine pure_ (i := 6) (N := some 22) (v := ?_) (a' := ?_) #[true, true, true, false, true, true, true, false, false] rfl rfl (any_of HT_.out (by kernel_rfl)) (fun _ _ _ h => h) (Or.inl ⟨by rfl, ?_⟩) ?_ ?_
          rotate_left
          · intro w'
            go_simp
            with_reducible rfl
          rotate_left
          · simp only [Act.put, List.setIfInBounds_toArray, List.set_cons_zero, List.set_cons_succ, i64_w, i32_w]
            rfl
          refine take_ (i := 3) (N := some 19) (v := ?_) (a' := ?_) #[true, true, true, true, true, true, true, false, false] rfl rfl (take_ofW HT_.out HW_.out (by kernel_rfl)) (fun _ _ _ h => h) (Or.inl ⟨by rfl, ?_⟩) hHeld ?_ ?_
          rotate_left
          · intro w' s0
            have e := CX.out _ (Kd.C_below HR.out s0.1)
            go_simp
            with_reducible rfl
          rotate_left
          · simp only [Act.put, List.setIfInBounds_toArray, List.set_cons_zero, List.set_cons_succ, i64_w, i32_w]
            rfl
          refine take_ (i := 7) (N := some 23) (v := ?_) (a' := ?_) #[true, true, true, true, true, true, true, true, false] rfl rfl (take_ofW HT_.out HW_.out (by kernel_rfl)) (fun _ _ _ h => h) (Or.inl ⟨by rfl, ?_⟩) hHeld ?_ ?_
          rotate_left
          · intro w' s0
            have e := CY.out _ (Kd.C_below HS.out s0.1)
            go_simp
            with_reducible rfl
          rotate_left
          · simp only [Act.put, List.setIfInBounds_toArray, List.set_cons_zero, List.set_cons_succ, i64_w, i32_w]
            rfl
          refine pure_ (i := 8) (N := some 24) (v := ?_) (a' := ?_) #[true, true, true, true, true, true, true, true, true] rfl rfl (any_of HT_.out (by kernel_rfl)) (fun _ _ _ h => h) (Or.inl ⟨by rfl, ?_⟩) ?_ ?_
          rotate_left
          · intro w'
            go_simp
            with_reducible rfl
          rotate_left
          · simp only [Act.put, List.setIfInBounds_toArray, List.set_cons_zero, List.set_cons_succ, i64_w, i32_w]
            rfl
          refine done_ (done_of HT_.out (by kernel_rfl)) ?_
          have L6_w := Aside0.mk hHeld.1
          clear hHeld
          go_wp2
          go_ret
          exact ⟨by rw [HV2.out]; rfl, L6_w.out⟩
      · obtain rfl : k = n := by omega
        have HV2 := Aside0.mk (show v = true by
          have h := HE.out
          rw [List.take_of_length_le (by rw [HN.out]; exact Nat.le_refl _), List.take_of_length_le (by rw [HM.out]; exact Nat.le_refl _)] at h
          rw [HV.out, h, beq_self_eq_true])
        clear hlt
        go_wp2
        go_ret
        exact ⟨by rw [HV2.out]; rfl, HW.out⟩
  · have HV2 := Aside0.mk (show v = false by rw [HV.out]; exact beq_eq_false_iff_ne.2 (fun h => hl (by rw [← HN.out, ← HM.out, h])))
    have hne : ¬ (n : Int) = (m : Int) := by omega
    have h0 : ((n : Int) == (m : Int)) = false := beq_eq_false_iff_ne.2 hne
    have h1 : ((n : Int) != (m : Int)) = true := bne_iff_ne.2 hne
    clear hl hne
    go_enter Tryd.func70, Tryd.ntmps70
    go_wp2
    go_ret
    exact ⟨by rw [HV2.out]; rfl, Below.refl _ _⟩
theorem VecSame_calls (A B : Option Addr) (c d n m : Nat) (xs ys : List W32) (w : World) (hn : xs.length = n) (hm : ys.length = m) (hr : K32.C w A n xs) (hs : K32.C w B m ys) (v : Bool) (hv : v = (xs == ys)) :
    Calls Tryd.prog 29 #[.slice A n c, .slice B m d] w fun e w' => e = .returned (.bool v) ∧ Below w.heap.size w w' := by
  have H := Aside0.mk (Equal32_calls A B c d n m xs ys w hn hm hr hs v hv)
  clear hn hm hr hs hv
  go_enter Tryd.func29, Tryd.ntmps29
  go_wp2_with (go_at_call 70; (with_reducible refine H.out.mono ?_); rintro e w1 ⟨rfl, hb1⟩)
  go_ret
  exact ⟨rfl, hb1⟩
end Go.Proofs.YthmlidlnojdggaaDoor
