/- The document's text of a sum. -/
import Derived.Test.YthmlidlnojdggaaDoorShaHex
import Derived.Test.YthmlidlnojdggaaDoorSum32
import Derived.Test.YthmlidlnojdggaaDoorStep
import Derived.Test.YthmlidlnojdggaaDoorRows2
set_option linter.unusedVariables false
set_option linter.unusedSimpArgs false
namespace Go.Proofs.YthmlidlnojdggaaDoor.Sha
open Go.RowKit Go.Proofs.YthmlidlnojdggaaDoorW.PrintWords Go.Proofs.YthmlidlnojdggaaDoorW.PrintLast

def f20_r5.T5 : Bool × List (List Nat × List Nat) := (true, [([], []), ([], []), ([1], [1]), ([2], [2]), ([3], [3]), ([4], [4]), ([], []), ([6], [6]), ([7], [7]), ([8], [8]), ([9], [9]), ([5, 10], [5, 10]), ([0, 11], [0, 11]), ([12, 12, 0, 1, 2, 3, 4, 5, 6, 7, 8, 9, 10, 11, 12], [0, 12])])
def f20_r5.B5 : List Nat := [0, 0, 2, 6, 14, 30, 0, 64, 192, 448, 960, 2046, 4095, 8191]
theorem f20_r5.tab5 : Go.Proofs.YthmlidlnojdggaaDoorW.PrintLast.rtab .any (Go.Proofs.YthmlidlnojdggaaDoorW.PrintLast.opsOf Tryd.f20 5) = f20_r5.T5 := by kernel_rfl
theorem f20_r5.bits5 : Go.Proofs.YthmlidlnojdggaaDoorW.PrintLast.waitsOk f20_r5.T5.2 f20_r5.B5 = true := by kernel_rfl
set_option maxRecDepth 100000 in
set_option maxHeartbeats 4000000 in
theorem RefText_calls (l : List UInt8) (hl : l.length = 32) (w : World) :
    Calls Tryd.prog 20 #[.agg (e8 l)] w fun e w' => e = .returned (.string (strOf (hexOf l))) ∧ Below w.heap.size w w' := by
  have HL := Aside0.mk hl
  clear hl
  go_enter Tryd.func20, Tryd.ntmps20
  go_wp2_with ((with_reducible refine at_box_ (d := some 1) ?_); (refine wpList_make_ (t := 24) ((e8 l)) (fun g => .pointer (some ⟨g, 0, none⟩)) (by rfl) ?_ ?_); (first | (go_simp; done) | (unfold execOp; go_simp; done) | (go_simp; constructor <;> rfl) | (go_simp; rfl) | rfl); intro g1 x1 hge_g1 B_g1 hbx1; replace B_g1 := Aside0.mk B_g1; have hz1 := Below.size hbx1; replace hbx1 := Aside0.mk hbx1)
  go_loopw [3, 4] (fun o i wr => ∃ (j : Nat) (A3 : Option Addr) (c3 : Nat), j ≤ 32 ∧ i = .int .i64 j ∧ o = .slice A3 (2 * j) c3 ∧ Aside0 (Bs wr x1.heap.size (.slice A3 (2 * j) c3) (hexOf (l.take j))) ∧ Aside0 (Below x1.heap.size x1 wr)) (fun _ i _ => 32 - (intOf i).toNat)
  case atStart => exact ⟨0, none, 0, by decide, rfl, rfl, ⟨Bs.nil _ _⟩, ⟨Below.refl _ _⟩⟩
  case round =>
    obtain ⟨j, A3, c3, hj, rfl, rfl, HO, HW⟩ := hrel
    have L2_w := Aside0.mk (below_then hbx1.out (Below.size hbx1.out) HW.out)
    by_cases hlt : j < 32
    · have hji : (j : Int) < 32 := by omega
      obtain ⟨x, hx⟩ : ∃ x, x = l.getD j 0 := ⟨_, rfl⟩
      have HS := Aside0.mk (hexOf_snoc l j x (by rw [HL.out]; exact hlt) hx)
      have h1 : ∀ w, (Instr.index 9 (.string digs) (.int .u8 ((x.toNat : Int) / 16))).run Tryd.prog w = .ok (.int .u8 ((hd (x.toNat / 16)).toNat : Int)) w := fun w => dig_at _ (by have := x.toNat_lt; omega) _ _ (by omega) w
      have h2 : ∀ w, (Instr.index 9 (.string digs) (.int .u8 ((x.toNat : Int) % 16))).run Tryd.prog w = .ok (.int .u8 ((hd (x.toNat % 16)).toNat : Int)) w := fun w => dig_at _ (by omega) _ _ (by omega) w
      have hq1 : IntKind.u8.wrap ((x.toNat : Int) / 16) = (x.toNat : Int) / 16 := by have := x.toNat_lt; show (x.toNat : Int) / 16 % 256 = _; omega
      have hq2 : (x.toNat : Int).tmod 16 = (x.toNat : Int) % 16 := Int.tmod_eq_emod_of_nonneg (by omega)
      have HN := Aside0.mk (show (hexOf (l.take j)).length = 2 * j by rw [hexOf_len, List.length_take, HL.out]; omega)
      have HC := Aside0.mk (show ∀ W, Blk W g1 24 (e8 l) → W.cell? ⟨g1, j, none⟩ = some (.int .u8 (x.toNat : Int)) from fun W h => by rw [hx]; exact blk8 h j (by rw [HL.out]; exact hlt))
      clear hx
      go_wp2_with fail
      refine start_ (n := 14) (S := fun w' => Below w.heap.size w w' ∧ Below x1.heap.size x1 w' ∧ Below wr.heap.size wr w' ∧ True) (ds := [12]) #[false, false, false, false, false, false, false, false, false, false, false, false, false, false] (by kernel_rfl) rfl rfl ⟨below_drew L2_w.out, below_drew HW.out, below_drew (Below.refl _ _), trivial⟩ (fun hHeld => ?_)
      refine with_tabW f20_r5.tab5 f20_r5.bits5 (fun HT_ HW_ => ?_)
      refine pure_ (i := 0) (N := some 9) (v := ?_) (a' := ?_) #[true, false, false, false, false, false, false, false, false, false, false, false, false, false] rfl rfl (any_of HT_.out (by kernel_rfl)) (fun _ _ _ h => h) (Or.inl ⟨by rfl, ?_⟩) ?_ ?_
      rotate_left
      · intro w'
        go_simp
        with_reducible rfl
      rotate_left
      · simp only [Act.put, List.setIfInBounds_toArray, List.set_cons_zero, List.set_cons_succ, i64_w, i32_w]
        rfl
      refine pure_ (i := 1) (N := some 10) (v := ?_) (a' := ?_) #[true, true, false, false, false, false, false, false, false, false, false, false, false, false] rfl rfl (any_of HT_.out (by kernel_rfl)) (fun _ _ _ h => h) (Or.inl ⟨by rfl, ?_⟩) ?_ ?_
      rotate_left
      · intro w'
        go_simp
        with_reducible rfl
      rotate_left
      · simp only [Act.put, List.setIfInBounds_toArray, List.set_cons_zero, List.set_cons_succ, i64_w, i32_w]
        rfl
      refine pure_ (i := 2) (N := some 11) (v := ?_) (a' := ?_) #[true, true, true, false, false, false, false, false, false, false, false, false, false, false] rfl rfl (any_of HT_.out (by kernel_rfl)) (fun _ _ _ h => h) (Or.inl ⟨by rfl, ?_⟩) ?_ ?_
      rotate_left
      · intro w'
        go_simp
        with_reducible rfl
      rotate_left
      · simp only [Act.put, List.setIfInBounds_toArray, List.set_cons_zero, List.set_cons_succ, i64_w, i32_w]
        rfl
      refine pure_ (i := 6) (N := some 15) (v := ?_) (a' := ?_) #[true, true, true, false, false, false, true, false, false, false, false, false, false, false] rfl rfl (any_of HT_.out (by kernel_rfl)) (fun _ _ _ h => h) (Or.inl ⟨by rfl, ?_⟩) ?_ ?_
      rotate_left
      · intro w'
        go_simp
        with_reducible rfl
      rotate_left
      · simp only [Act.put, List.setIfInBounds_toArray, List.set_cons_zero, List.set_cons_succ, i64_w, i32_w]
        rfl
      refine pure_ (i := 7) (N := some 16) (v := ?_) (a' := ?_) #[true, true, true, false, false, false, true, true, false, false, false, false, false, false] rfl rfl (any_of HT_.out (by kernel_rfl)) (fun _ _ _ h => h) (Or.inl ⟨by rfl, ?_⟩) ?_ ?_
      rotate_left
      · intro w'
        go_simp
        with_reducible rfl
      rotate_left
      · simp only [Act.put, List.setIfInBounds_toArray, List.set_cons_zero, List.set_cons_succ, i64_w, i32_w]
        rfl
      refine take_ (i := 3) (N := some 12) (v := ?_) (a' := ?_) #[true, true, true, true, false, false, true, true, false, false, false, false, false, false] rfl rfl (take_ofW HT_.out HW_.out (by kernel_rfl)) (fun _ _ _ h => h) (Or.inl ⟨by rfl, ?_⟩) hHeld ?_ ?_
      rotate_left
      · intro w' s0
        have e := HC.out _ (blk_below B_g1.out s0.2.1)
        go_simp
        with_reducible rfl
      rotate_left
      · simp only [Act.put, List.setIfInBounds_toArray, List.set_cons_zero, List.set_cons_succ, i64_w, i32_w]
        rfl
      refine pure_ (i := 4) (N := some 13) (v := ?_) (a' := ?_) #[true, true, true, true, true, false, true, true, false, false, false, false, false, false] rfl rfl (any_of HT_.out (by kernel_rfl)) (fun _ _ _ h => h) (Or.inl ⟨by rfl, ?_⟩) ?_ ?_
      rotate_left
      · intro w'
        go_simp
        with_reducible rfl
      rotate_left
      · simp only [Act.put, List.setIfInBounds_toArray, List.set_cons_zero, List.set_cons_succ, i64_w, i32_w]
        rfl
      refine take_ (i := 5) (N := some 14) (v := ?_) (a' := ?_) #[true, true, true, true, true, true, true, true, false, false, false, false, false, false] rfl rfl (take_ofW HT_.out HW_.out (by kernel_rfl)) (fun _ _ _ h => h) (Or.inl ⟨by rfl, ?_⟩) hHeld ?_ ?_
      rotate_left
      · intro w' s0
        go_simp
        with_reducible rfl
      rotate_left
      · simp only [Act.put, List.setIfInBounds_toArray, List.set_cons_zero, List.set_cons_succ, i64_w, i32_w]
        rfl
      refine take_ (i := 8) (N := some 17) (v := ?_) (a' := ?_) #[true, true, true, true, true, true, true, true, true, false, false, false, false, false] rfl rfl (take_ofW HT_.out HW_.out (by kernel_rfl)) (fun _ _ _ h => h) (Or.inl ⟨by rfl, ?_⟩) hHeld ?_ ?_
      rotate_left
      · intro w' s0
        have e := HC.out _ (blk_below B_g1.out s0.2.1)
        go_simp
        with_reducible rfl
      rotate_left
      · simp only [Act.put, List.setIfInBounds_toArray, List.set_cons_zero, List.set_cons_succ, i64_w, i32_w]
        rfl
      refine pure_ (i := 9) (N := some 18) (v := ?_) (a' := ?_) #[true, true, true, true, true, true, true, true, true, true, false, false, false, false] rfl rfl (any_of HT_.out (by kernel_rfl)) (fun _ _ _ h => h) (Or.inl ⟨by rfl, ?_⟩) ?_ ?_
      rotate_left
      · intro w'
        go_simp
        with_reducible rfl
      rotate_left
      · simp only [Act.put, List.setIfInBounds_toArray, List.set_cons_zero, List.set_cons_succ, i64_w, i32_w]
        rfl
      refine take_ (i := 10) (N := some 19) (v := ?_) (a' := ?_) #[true, true, true, true, true, true, true, true, true, true, true, false, false, false] rfl rfl (take_ofW HT_.out HW_.out (by kernel_rfl)) (fun _ _ _ h => h) (Or.inl ⟨by rfl, ?_⟩) hHeld ?_ ?_
      rotate_left
      · intro w' s0
        go_simp
        with_reducible rfl
      rotate_left
      · simp only [Act.put, List.setIfInBounds_toArray, List.set_cons_zero, List.set_cons_succ, i64_w, i32_w]
        rfl
      refine one_ (i := 11) (N := some 20) #[true, true, true, true, true, true, true, true, true, true, true, true, false, false] rfl rfl (one_of HT_.out (by kernel_rfl)) (by decide) (fun K hK => ?_)
      refine make_ (t := 5) (#[.int .u8 ((hd (x.toNat / 16)).toNat : Int), .int .u8 ((hd (x.toNat % 16)).toNat : Int)]) (fun g => .slice (some ⟨g, 0, none⟩) 2 2) (by rfl) rfl ?_ (fun g20 x2 hge_g20 B_g20 hbx2 => ?_)
      · first | (go_simp; done) | (unfold execOp; go_simp; done) | (go_simp; constructor <;> rfl) | (go_simp; rfl) | rfl
      replace B_g20 := Aside0.mk B_g20
      have H20 := Aside0.mk (Bs.of_blk (base := x1.heap.size) B_g20.out (l := [hd (x.toNat / 16), hd (x.toNat % 16)]) rfl (Nat.le_trans HW.out.size hge_g20) rfl (by show 2 ≤ _; decide))
      refine hK.out _ _ ⟨(below_then hHeld.1 (Below.size hHeld.1) hbx2), (below_then hHeld.2.1 (Below.size hHeld.2.1) hbx2), (below_then hHeld.2.2.1 (Below.size hHeld.2.2.1) hbx2), trivial⟩ (fun hHeld => ?_)
      clear hK K
      refine norm_ (a' := ?_) ?_ ?_
      rotate_left
      · show Act.put _ (some 20) _ = _
        simp only [Act.put, List.setIfInBounds_toArray, List.set_cons_zero, List.set_cons_succ, i64_w, i32_w]
        rfl
      refine last_ (i := 12) (N := some 21) #[true, true, true, true, true, true, true, true, true, true, true, true, true, false] rfl rfl (one_of HT_.out (by kernel_rfl)) (by decide) (fun K hK => ?_)
      refine app_bs_step (w0 := x1) x1.heap.size (by rfl) (.tmp 9) (.tmp 20) (by rfl) _ (hexOf (l.take j)) ([hd (x.toNat / 16), hd (x.toNat % 16)]) _ _ _ (by rfl) (by rfl) (Kd.R_below HO.out hHeld.2.2.1) H20.out.read.1 hHeld.2.1 (Below.size hHeld.2.1) (by rw [HN.out]; show 2 * j + 2 ≤ _; omega) ?_
      intro z5 A5 c5 x3 hzx3 hBx3 hbx3 hsx3 hgx3
      refine hK.out _ _ ?_
      clear hK K
      refine norm_ (a' := ?_) ?_ ?_
      rotate_left
      · show Act.put _ (some 21) _ = _
        simp only [Act.put, List.setIfInBounds_toArray, List.set_cons_zero, List.set_cons_succ, i64_w, i32_w]
        rfl
      refine pure_ (i := 13) (N := some 3) (v := ?_) (a' := ?_) #[true, true, true, true, true, true, true, true, true, true, true, true, true, true] rfl rfl (any_of HT_.out (by kernel_rfl)) (fun _ _ _ h => h) (Or.inl ⟨by rfl, ?_⟩) ?_ ?_
      rotate_left
      · intro w'
        go_simp
        with_reducible rfl
      rotate_left
      · simp only [Act.put, List.setIfInBounds_toArray, List.set_cons_zero, List.set_cons_succ, i64_w, i32_w]
        rfl
      refine done_ (done_of HT_.out (by kernel_rfl)) ?_
      have L3_w := Aside0.mk (Below.grown hHeld.1 hgx3.out (Below.size hHeld.1) (fun k hk => Nat.le_trans (by omega) (Kd.R_base (Kd.R_below HO.out hHeld.2.2.1) k hk)))
      clear hHeld
      have hzl : z5.length = 2 * (j + 1) := by rw [hzx3.out, List.length_append, HN.out]; rfl
      rw [hzl] at hBx3 ⊢
      go_wp2
      go_roundw
      case rel => exact ⟨j + 1, A5, c5, by omega, by go_num, rfl, ⟨by rw [HS.out, List.append_assoc, show [hd (x.toNat / 16)] ++ [hd (x.toNat % 16)] = [hd (x.toNat / 16), hd (x.toNat % 16)] from rfl, ← hzx3.out]; exact hBx3.out⟩, hbx3⟩
      case measure => simp [intOf]; omega
    · obtain rfl : j = 32 := by omega
      clear hlt
      have HE := Aside0.mk (show l.take 32 = l from List.take_of_length_le (by rw [HL.out]; decide))
      have hst : (convert 22 9 (.slice A3 (2 * 32) c3)).run Tryd.prog wr = _ := str_of HO.out.read.1
      rw [show ((32 : Nat) : Int) = 32 from rfl]
      go_wp2
      go_ret
      rw [HE.out]
      exact ⟨rfl, L2_w.out⟩
end Go.Proofs.YthmlidlnojdggaaDoor.Sha
