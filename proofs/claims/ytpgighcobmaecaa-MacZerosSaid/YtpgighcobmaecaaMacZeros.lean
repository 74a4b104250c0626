/- The law MacZeros: the walk. -/
import Derived.Test.YtpgighcobmaecaaMacSums
set_option linter.unusedVariables false
set_option linter.unusedSimpArgs false
namespace Go.Proofs.Ytpgighcobmaecaa.Mac
open Go.RowKit Go.Proofs.YtpgighcobmaecaaW.PrintWords Go.Proofs.YtpgighcobmaecaaW.PrintLast Go.Proofs.Ytpgighcobmaecaa.Sha Go.Proofs.Ytpgighcobmaecaa.Seal

theorem padK_zeros (k : List UInt8) (z : Nat) (h : k.length + z ≤ 64) : padK (k ++ List.replicate z 0) = padK k := by
  unfold padK
  rw [List.append_assoc, List.length_append, List.length_replicate, List.replicate_append_replicate, show z + (64 - (k.length + z)) = 64 - k.length by omega]
theorem block_zeros (k : List UInt8) (z : Nat) (h : k.length + z ≤ 64) : block (k ++ List.replicate z 0) = block k := by
  have e1 : keyOf (k ++ List.replicate z 0) = k ++ List.replicate z 0 := by unfold keyOf; rw [if_neg (by rw [List.length_append, List.length_replicate]; omega)]
  have e2 : keyOf k = k := by unfold keyOf; rw [if_neg (by omega)]
  rw [block, block, e1, e2, padK_zeros k z h]
theorem block_sum (k : List UInt8) (h : 64 < k.length) : block (sum k) = block k := by
  have e1 : keyOf (sum k) = sum k := by unfold keyOf; rw [if_neg (by rw [sum_len]; decide)]
  have e2 : keyOf k = sum k := by unfold keyOf; rw [if_pos h]
  rw [block, block, e1, e2]
theorem macOf_block {k k' t : List UInt8} (h : block k = block k') : macOf k t = macOf k' t := by unfold macOf inn; rw [h]
def f10_r6.T6 : Bool × List (List Nat × List Nat) := (true, [([], []), ([], []), ([0, 1], [0, 1]), ([], []), ([3], [3]), ([], []), ([5], [5]), ([6], [6]), ([4, 7], [4, 7]), ([2, 8, 2], [2, 8]), ([9, 9, 0, 1, 2, 3, 4, 5, 6, 7, 8, 9], [9])])
def f10_r6.B6 : List Nat := [0, 0, 3, 0, 8, 0, 32, 96, 248, 511, 1023]
theorem f10_r6.tab6 : Go.Proofs.YtpgighcobmaecaaW.PrintLast.rtab .any (Go.Proofs.YtpgighcobmaecaaW.PrintLast.opsOf Try.f10 6) = f10_r6.T6 := by kernel_rfl
theorem f10_r6.bits6 : Go.Proofs.YtpgighcobmaecaaW.PrintLast.waitsOk f10_r6.T6.2 f10_r6.B6 = true := by kernel_rfl
def f10_r7.T7 : Bool × List (List Nat × List Nat) := (true, [([], []), ([], []), ([0, 1], [0, 1]), ([], []), ([2, 3], [2, 3]), ([4, 2], [4]), ([5], [5]), ([6, 5, 5], [5, 6]), ([5], [5]), ([8, 7, 5], [5, 8]), ([7, 9, 5], [5, 7, 9]), ([5, 10], [5, 10]), ([11, 9], [11]), ([12], [12]), ([13, 12], [12, 13]), ([12], [12]), ([15, 12], [12, 15]), ([14, 16, 12], [12, 14, 16]), ([12, 17], [12, 17]), ([18, 12], [18]), ([19, 19], [19]), ([19, 20], [19, 20]), ([21, 20, 0, 1, 2, 3, 4, 5, 6, 7, 8, 9, 10, 11, 12, 13, 14, 15, 16, 17, 18, 19, 20, 21], [21])])
def f10_r7.B7 : List Nat := [0, 0, 3, 0, 15, 31, 63, 127, 63, 511, 1023, 2047, 4095, 8191, 16383, 8191, 40959, 131071, 262143, 524287, 1048575, 2097151, 4194303]
theorem f10_r7.tab7 : Go.Proofs.YtpgighcobmaecaaW.PrintLast.rtab .any (Go.Proofs.YtpgighcobmaecaaW.PrintLast.opsOf Try.f10 7) = f10_r7.T7 := by kernel_rfl
theorem f10_r7.bits7 : Go.Proofs.YtpgighcobmaecaaW.PrintLast.waitsOk f10_r7.T7.2 f10_r7.B7 = true := by kernel_rfl
def f10_r9.T9 : Bool × List (List Nat × List Nat) := (true, [([], []), ([], []), ([0, 1], [0, 1]), ([], []), ([2, 3], [2, 3]), ([4, 2], [4]), ([5], [5]), ([6, 5], [5, 6]), ([5], [5]), ([8, 5], [5, 8]), ([7, 9, 5], [5, 7, 9]), ([5, 10], [5, 10]), ([11, 5], [11]), ([12, 12], [12]), ([12, 13], [12, 13]), ([14, 13, 0, 1, 2, 3, 4, 5, 6, 7, 8, 9, 10, 11, 12, 13, 14], [14])])
def f10_r9.B9 : List Nat := [0, 0, 3, 0, 15, 31, 63, 127, 63, 319, 1023, 2047, 4095, 8191, 16383, 32767]
theorem f10_r9.tab9 : Go.Proofs.YtpgighcobmaecaaW.PrintLast.rtab .any (Go.Proofs.YtpgighcobmaecaaW.PrintLast.opsOf Try.f10 9) = f10_r9.T9 := by kernel_rfl
theorem f10_r9.bits9 : Go.Proofs.YtpgighcobmaecaaW.PrintLast.waitsOk f10_r9.T9.2 f10_r9.B9 = true := by kernel_rfl
set_option maxRecDepth 100000 in
set_option maxHeartbeats 8000000 in
theorem zeros_calls (A B : Option Addr) (c d n m : Nat) (key txt : List UInt8) (q : UInt8) (w : World) (hn : key.length = n) (hm : txt.length = m) (hr : Kb.C w A n key) (hs : Kb.C w B m txt) :
    Calls Try.prog 10 #[.slice A n c, .slice B m d, .int .u8 (q.toNat : Int)] w fun e w' => e = .returned (.bool true) ∧ Below w.heap.size w w' := by
  have HN := Aside0.mk hn
  have HM := Aside0.mk hm
  have HR := Aside0.mk hr
  have HS := Aside0.mk hs
  clear hn hm hr hs
  by_cases h1 : n ≤ 300 ∧ m ≤ 400
  · obtain ⟨h1, h2⟩ := h1
    have i1 : (n : Int) ≤ 300 := by omega
    have i2 : (m : Int) ≤ 400 := by omega
    obtain ⟨V, hV⟩ : ∃ V, V = macOf key txt := ⟨_, rfl⟩
    have hVl : V.length = 32 := by rw [hV]; exact sum_len _
    have heqV := fun w => (eq32 V V hVl hVl w).trans (by rw [beq_self_eq_true])
    have hss := seq_true (a := key) rfl
    have HZ := Aside0.mk (sz32 V hVl)
    have HV := Aside0.mk hV
    have HVL := Aside0.mk hVl
    have HO := Aside0.mk (show (e8 (List.replicate 32 0)).size = (e8 V).size by rw [e8_size, e8_size, HVL.out]; rfl)
    clear hV hVl
    by_cases h64 : n ≤ 64
    · have i3 : (n : Int) ≤ 64 := by omega
      obtain ⟨b, hb⟩ : ∃ b, b = block key := ⟨_, rfl⟩
      obtain ⟨k, hk⟩ : ∃ k, k = q.toNat % (65 - n) := ⟨_, rfl⟩
      have hk64 : n + k ≤ 64 := by have := Nat.mod_lt q.toNat (show 0 < 65 - n by omega); omega
      have HK := Aside0.mk (show (q.toNat : Int) % (65 - (n : Int)) = (k : Int) by rw [hk, Int.natCast_emod, show ((65 - n : Nat) : Int) = 65 - (n : Int) by omega])
      obtain ⟨more, hmore⟩ : ∃ l, l = key ++ List.replicate k 0 := ⟨_, rfl⟩
      have HML := Aside0.mk (show more.length = n + k by rw [hmore, List.length_append, List.length_replicate, HN.out])
      have HMB := Aside0.mk (show b = block more by rw [hmore, block_zeros _ _ (by rw [HN.out]; exact hk64), hb])
      have HMV := Aside0.mk (show V = macOf more txt by rw [HV.out]; exact macOf_block (by rw [← HMB.out, hb]))
      have HMO := Aside0.mk hmore
      have hbl : b.length = 64 := by rw [hb]; exact block_len key
      have heqb := fun w => (eq64 b b hbl hbl w).trans (by rw [beq_self_eq_true])
      have HB := Aside0.mk hb
      clear hb hk hmore hbl
      go_enter Try.func10, Try.ntmps10
      go_wp2_with (first
        | ((with_reducible refine at_row_ (d := some 20) ?_); (refine wpList_make_ (t := 5) (#[]) (fun g => .slice (some ⟨g, 0, none⟩) 0 0) (by rfl) ?_ ?_); (first | exact exec_row0 _ rfl _ | (go_simp; done) | (unfold execOp; go_simp; done) | (go_simp; constructor <;> rfl) | (go_simp; rfl) | rfl); intro g20 x1 hge_g20 B_g20 hbx1; replace B_g20 := Aside0.mk B_g20; have hz1 := Below.size hbx1; replace hbx1 := Aside0.mk hbx1; have H20 := Aside0.mk (show Bs x1 w.heap.size (.slice (some ⟨g20, 0, none⟩) 0 0) [] from Bs.of_blk B_g20.out rfl hge_g20 rfl (by decide)))
        | (at_builtin; refine app_bs (w0 := w) w.heap.size rfl (.tmp 20) (.tmp 21) rfl _ ([]) (key) _ _ _ rfl rfl H20.out (Kd.C_below HR.out hbx1.out) hbx1.out (Below.size hbx1.out) (by show 0 + n ≤ _; omega) ?_; intro z5 A5 c5 x2 hzx2 hBx2 hbx2 hsx2 hgx2; have hz2 := hgx2.out.size; have hzl : z5 = key := hzx2.out.trans (List.nil_append _); subst hzl; rw [HN.out] at hBx2 ⊢; have K5 := Aside0.mk (show Kb.C x2 A5 n z5 from hBx2.out.read.1))
        | (go_at_call 39; (with_reducible refine (MacOf_calls A5 B c5 d n m z5 txt V HV.out x2 HN.out HM.out K5.out (Kd.C_below HS.out hbx2.out) (by omega) (by omega)).mono ?_); rintro e x3 ⟨rfl, hbx3⟩; have L3_w := Aside0.mk (below_then hbx2.out (Below.size hbx2.out) hbx3); have hz3 := Below.size hbx3; replace hbx3 := Aside0.mk hbx3)
        | ((with_reducible refine at_alloc_ (d := some 8) ?_); (refine wpList_make_ (t := 51) ((e8 (List.replicate 32 0))) (fun g => .pointer (some ⟨g, 0, none⟩)) (by rfl) ?_ ?_); (first | (go_simp; done) | (unfold execOp; go_simp; done) | (go_simp; constructor <;> rfl) | (go_simp; rfl) | rfl); intro g8 x4 hge_g8 B_g8 hbx4; replace B_g8 := Aside0.mk B_g8; have L4_w := Aside0.mk (below_then L3_w.out (Below.size L3_w.out) hbx4); have L4_x2 := Aside0.mk (below_then hbx3.out (Below.size hbx3.out) hbx4); have hz4 := Below.size hbx4; replace hbx4 := Aside0.mk hbx4)
        | ((with_reducible refine at_store_ (x := .tmp 8) ?_); (refine wpList_store_row rfl 51 _ _ rfl g8 (e8 V) _ 51 rfl rfl B_g8.out HZ.out HO.out (e8_one _) ?_); generalize hWx5 : World.setRow x4 _ _ = x5; have L5_w := Aside0.mk (show Below w.heap.size w x5 by rw [← hWx5]; exact below_setRow L4_w.out (by omega) _); have hzL5_w := Below.size L5_w.out; have L5_x2 := Aside0.mk (show Below x2.heap.size x2 x5 by rw [← hWx5]; exact below_setRow L4_x2.out (by omega) _); have hzL5_x2 := Below.size L5_x2.out; have B_g8_5 := Aside0.mk (show Blk x5 g8 51 (e8 V) by rw [← hWx5]; exact blk_setRow B_g8.out _); clear hWx5))
      have hw1 : wrap64 (65 - (n : Int)) = 65 - (n : Int) := by unfold wrap64; omega
      have hw2 : wrap64 (q.toNat : Int) = (q.toNat : Int) := by have := q.toNat_lt; unfold wrap64; omega
      have hw3 : ¬ (65 - (n : Int) = 0) := by omega
      refine start_ (n := 11) (S := fun w' => Below w.heap.size w w' ∧ Below x2.heap.size x2 w' ∧ Below x5.heap.size x5 w' ∧ True) (ds := []) #[false, false, false, false, false, false, false, false, false, false, false] (by kernel_rfl) rfl rfl ⟨below_drew L5_w.out, below_drew L5_x2.out, below_drew (Below.refl _ _), trivial⟩ (fun hHeld => ?_)
      refine with_tabW f10_r6.tab6 f10_r6.bits6 (fun HT_ HW_ => ?_)
      refine pure_ (i := 1) (N := some 30) (v := ?_) (a' := ?_) #[false, true, false, false, false, false, false, false, false, false, false] rfl rfl (any_of HT_.out (by kernel_rfl)) (fun _ _ _ h => h) (Or.inl ⟨by rfl, ?_⟩) ?_ ?_
      rotate_left
      · intro w'
        go_simp
        with_reducible rfl
      rotate_left
      · simp only [Act.put, List.setIfInBounds_toArray, List.set_cons_zero, List.set_cons_succ, i64_w, i32_w]
        rfl
      refine pure_ (i := 3) (N := some 32) (v := ?_) (a' := ?_) #[false, true, false, true, false, false, false, false, false, false, false] rfl rfl (any_of HT_.out (by kernel_rfl)) (fun _ _ _ h => h) (Or.inl ⟨by rfl, ?_⟩) ?_ ?_
      rotate_left
      · intro w'
        go_simp
        with_reducible rfl
      rotate_left
      · simp only [Act.put, List.setIfInBounds_toArray, List.set_cons_zero, List.set_cons_succ, i64_w, i32_w]
        rfl
      refine pure_ (i := 4) (N := some 33) (v := ?_) (a' := ?_) #[false, true, false, true, true, false, false, false, false, false, false] rfl rfl (any_of HT_.out (by kernel_rfl)) (fun _ _ _ h => h) (Or.inl ⟨by rfl, ?_⟩) ?_ ?_
      rotate_left
      · intro w'
        go_simp
        with_reducible rfl
      rotate_left
      · simp only [Act.put, List.setIfInBounds_toArray, List.set_cons_zero, List.set_cons_succ, i64_w, i32_w]
        rfl
      refine pure_ (i := 5) (N := some 34) (v := ?_) (a' := ?_) #[false, true, false, true, true, true, false, false, false, false, false] rfl rfl (any_of HT_.out (by kernel_rfl)) (fun _ _ _ h => h) (Or.inl ⟨by rfl, ?_⟩) ?_ ?_
      rotate_left
      · intro w'
        go_simp
        with_reducible rfl
      rotate_left
      · simp only [Act.put, List.setIfInBounds_toArray, List.set_cons_zero, List.set_cons_succ, i64_w, i32_w]
        rfl
      refine pure_ (i := 6) (N := some 35) (v := ?_) (a' := ?_) #[false, true, false, true, true, true, true, false, false, false, false] rfl rfl (any_of HT_.out (by kernel_rfl)) (fun _ _ _ h => h) (Or.inl ⟨by rfl, ?_⟩) ?_ ?_
      rotate_left
      · intro w'
        go_simp
        with_reducible rfl
      rotate_left
      · simp only [Act.put, List.setIfInBounds_toArray, List.set_cons_zero, List.set_cons_succ, i64_w, i32_w]
        rfl
      refine pure_ (i := 7) (N := some 36) (v := ?_) (a' := ?_) #[false, true, false, true, true, true, true, true, false, false, false] rfl rfl (any_of HT_.out (by kernel_rfl)) (fun _ _ _ h => h) (Or.inl ⟨by rfl, ?_⟩) ?_ ?_
      rotate_left
      · intro w'
        go_simp
        with_reducible rfl
      rotate_left
      · simp only [Act.put, List.setIfInBounds_toArray, List.set_cons_zero, List.set_cons_succ, i64_w, i32_w]
        rfl
      refine pure_ (i := 8) (N := some 37) (v := ?_) (a' := ?_) #[false, true, false, true, true, true, true, true, true, false, false] rfl rfl (any_of HT_.out (by kernel_rfl)) (fun _ _ _ h => h) (Or.inl ⟨by rfl, ?_⟩) ?_ ?_
      rotate_left
      · intro w'
        go_simp
        with_reducible rfl
      rotate_left
      · simp only [Act.put, List.setIfInBounds_toArray, List.set_cons_zero, List.set_cons_succ, i64_w, i32_w]
        rfl
      refine one_ (i := 0) (N := some 29) #[true, true, false, true, true, true, true, true, true, false, false] rfl rfl (one_of HT_.out (by kernel_rfl)) (by decide) (fun K hK => ?_)
      refine make_ (t := 5) (#[]) (fun g => .slice (some ⟨g, 0, none⟩) 0 0) (by rfl) rfl ?_ (fun g29 x6 hge_g29 B_g29 hbx6 => ?_)
      · first | exact exec_row0 _ rfl _ | (go_simp; done) | (unfold execOp; go_simp; done) | (go_simp; constructor <;> rfl) | (go_simp; rfl) | rfl
      replace B_g29 := Aside0.mk B_g29
      have H29 := Aside0.mk (Bs.of_blk (base := x5.heap.size) B_g29.out (l := []) rfl hge_g29 rfl (by decide))
      refine hK.out _ _ ⟨(below_then hHeld.1 (Below.size hHeld.1) hbx6), (below_then hHeld.2.1 (Below.size hHeld.2.1) hbx6), (below_then hHeld.2.2.1 (Below.size hHeld.2.2.1) hbx6), trivial⟩ (fun hHeld => ?_)
      clear hK K
      refine norm_ (a' := ?_) ?_ ?_
      rotate_left
      · show Act.put _ (some 29) _ = _
        simp only [Act.put, List.setIfInBounds_toArray, List.set_cons_zero, List.set_cons_succ, i64_w, i32_w]
        rfl
      refine one_ (i := 2) (N := some 31) #[true, true, true, true, true, true, true, true, true, false, false] rfl rfl (one_of HT_.out (by kernel_rfl)) (by decide) (fun K hK => ?_)
      refine app_bs_step (w0 := x5) x5.heap.size (by rfl) (.tmp 29) (.tmp 30) (by rfl) _ ([]) (z5) _ _ _ (by rfl) (by rfl) H29.out (Kd.C_below HR.out hHeld.1) hHeld.2.2.1 (Below.size hHeld.2.2.1) (by show 0 + n ≤ _; omega) ?_
      intro z6 A6 c6 x7 hzx7 hBx7 hbx7 hsx7 hgx7
      have H6 := Aside0.mk (show z6 = z5 from hzx7.out.trans (List.nil_append _))
      refine hK.out _ _ ⟨(Below.grown hHeld.1 hgx7.out (Below.size hHeld.1) (fun k hk => Nat.le_trans (by omega) (Kd.R_base H29.out k hk))), (Below.grown hHeld.2.1 hgx7.out (Below.size hHeld.2.1) (fun k hk => Nat.le_trans (by omega) (Kd.R_base H29.out k hk))), hbx7.out, trivial⟩ (fun hHeld => ?_)
      clear hK K
      refine norm_ (a' := ?_) ?_ ?_
      rotate_left
      · show Act.put _ (some 31) _ = _
        simp only [Act.put, List.setIfInBounds_toArray, List.set_cons_zero, List.set_cons_succ, i64_w, i32_w]
        rfl
      refine one_ (i := 9) (N := some 38) #[true, true, true, true, true, true, true, true, true, true, false] rfl rfl (one_of HT_.out (by kernel_rfl)) (by decide) (fun K hK => ?_)
      refine app_zs_step (w0 := x5) x5.heap.size (by rfl) (.tmp 31) (.tmp 37) (by rfl) _ z6 k _ (by rfl) (by rfl) (by rw [Int.tmod_eq_emod_of_nonneg (by omega)]; exact HK.out) hBx7.out hHeld.2.2.1 (Below.size hHeld.2.2.1) (by rw [H6.out, HN.out]; omega) ?_
      intro z8 A8 c8 x8 hz8 hB8 hbx8 hs8 hgx8
      refine hK.out _ _ ⟨(Below.grown hHeld.1 hgx8.out (Below.size hHeld.1) (fun k hk => Nat.le_trans (by omega) (Kd.R_base hBx7.out k hk))), (Below.grown hHeld.2.1 hgx8.out (Below.size hHeld.2.1) (fun k hk => Nat.le_trans (by omega) (Kd.R_base hBx7.out k hk))), hbx8.out, trivial⟩ (fun hHeld => ?_)
      clear hK K
      refine norm_ (a' := ?_) ?_ ?_
      rotate_left
      · show Act.put _ (some 38) _ = _
        simp only [Act.put, List.setIfInBounds_toArray, List.set_cons_zero, List.set_cons_succ, i64_w, i32_w]
        rfl
      refine pure_ (i := 10) (N := some 9) (v := ?_) (a' := ?_) #[true, true, true, true, true, true, true, true, true, true, true] rfl rfl (any_of HT_.out (by kernel_rfl)) (fun _ _ _ h => h) (Or.inl ⟨by rfl, ?_⟩) ?_ ?_
      rotate_left
      · intro w'
        go_simp
        with_reducible rfl
      rotate_left
      · simp only [Act.put, List.setIfInBounds_toArray, List.set_cons_zero, List.set_cons_succ, i64_w, i32_w]
        rfl
      refine done_ (done_of HT_.out (by kernel_rfl)) ?_
      have L6_w := Aside0.mk hHeld.1
      have L6_x2 := Aside0.mk hHeld.2.1
      have L6_x5 := Aside0.mk hHeld.2.2.1
      clear hHeld
      have HM8 := Aside0.mk (show z8 = more by rw [hz8.out, H6.out, HMO.out])
      have hl8 : z8.length = n + k := by rw [HM8.out, HML.out]
      rw [hl8] at hB8 ⊢
      have KM := Aside0.mk (show Kb.C x8 A8 (n + k) more from (by rw [← HM8.out]; exact hB8.out.read.1))
      clear hl8 hw1 hw2 hw3
      go_wp2
      refine start_ (n := 23) (S := fun w' => Below w.heap.size w w' ∧ Below x2.heap.size x2 w' ∧ Below x5.heap.size x5 w' ∧ Below x8.heap.size x8 w' ∧ True) (ds := []) #[false, false, false, false, false, false, false, false, false, false, false, false, false, false, false, false, false, false, false, false, false, false, false] (by kernel_rfl) rfl rfl ⟨below_drew L6_w.out, below_drew L6_x2.out, below_drew L6_x5.out, below_drew (Below.refl _ _), trivial⟩ (fun hHeld => ?_)
      refine with_tabW f10_r7.tab7 f10_r7.bits7 (fun HT_ HW_ => ?_)
      refine pure_ (i := 0) (N := some 39) (v := ?_) (a' := ?_) #[true, false, false, false, false, false, false, false, false, false, false, false, false, false, false, false, false, false, false, false, false, false, false] rfl rfl (any_of HT_.out (by kernel_rfl)) (fun _ _ _ h => h) (Or.inl ⟨by rfl, ?_⟩) ?_ ?_
      rotate_left
      · intro w'
        go_simp
        with_reducible rfl
      rotate_left
      · simp only [Act.put, List.setIfInBounds_toArray, List.set_cons_zero, List.set_cons_succ, i64_w, i32_w]
        rfl
      refine pure_ (i := 1) (N := some 40) (v := ?_) (a' := ?_) #[true, true, false, false, false, false, false, false, false, false, false, false, false, false, false, false, false, false, false, false, false, false, false] rfl rfl (any_of HT_.out (by kernel_rfl)) (fun _ _ _ h => h) (Or.inl ⟨by rfl, ?_⟩) ?_ ?_
      rotate_left
      · intro w'
        go_simp
        with_reducible rfl
      rotate_left
      · simp only [Act.put, List.setIfInBounds_toArray, List.set_cons_zero, List.set_cons_succ, i64_w, i32_w]
        rfl
      refine take_ (i := 3) (N := some 42) (v := ?_) (a' := ?_) #[true, true, false, true, false, false, false, false, false, false, false, false, false, false, false, false, false, false, false, false, false, false, false] rfl rfl (take_ofW HT_.out HW_.out (by kernel_rfl)) (fun _ _ _ h => h) (Or.inl ⟨by rfl, ?_⟩) hHeld ?_ ?_
      rotate_left
      · intro w' s0
        refine Eq.trans (exec_load_row 51 (.tmp 8) (by rfl) g8 51 (e8 V) _ (by rfl) (blk_below B_g8_5.out s0.2.2.1) Try.underlying51 rfl HZ.out) ?_
        with_reducible rfl
      rotate_left
      · simp only [Act.put, List.setIfInBounds_toArray, List.set_cons_zero, List.set_cons_succ, i64_w, i32_w]
        rfl
      refine one_ (i := 2) (N := some 41) #[true, true, true, true, false, false, false, false, false, false, false, false, false, false, false, false, false, false, false, false, false, false, false] rfl rfl (one_of HT_.out (by kernel_rfl)) (by decide) (fun K hK => ?_)
      refine goes_ Try.func39 (by kernel_rfl) rfl #[.slice A8 (n + k) c8, .slice B m d] (by rfl) rfl rfl (by (try simp only [List.map_toArray, List.map_cons, List.map_nil]); first | done | rfl) ?_
      with_reducible refine (MacOf_calls A8 B c8 d (n + k) m more txt V HMV.out _ HML.out HM.out (Kd.C_below KM.out hHeld.2.2.2.1) (Kd.C_below HS.out hHeld.1) (by omega) (by omega)).mono ?_
      rintro e x9 ⟨rfl, hbx9⟩
      refine ⟨_, rfl, ?_⟩
      refine hK.out _ _ ⟨(below_then hHeld.1 (Below.size hHeld.1) hbx9), (below_then hHeld.2.1 (Below.size hHeld.2.1) hbx9), (below_then hHeld.2.2.1 (Below.size hHeld.2.2.1) hbx9), (below_then hHeld.2.2.2.1 (Below.size hHeld.2.2.2.1) hbx9), trivial⟩ (fun hHeld => ?_)
      clear hK K
      refine norm_ (a' := ?_) ?_ ?_
      rotate_left
      · show Act.put _ (some 41) _ = _
        simp only [Act.put, List.setIfInBounds_toArray, List.set_cons_zero, List.set_cons_succ, i64_w, i32_w]
        rfl
      refine pure_ (i := 4) (N := some 43) (v := ?_) (a' := ?_) #[true, true, true, true, true, false, false, false, false, false, false, false, false, false, false, false, false, false, false, false, false, false, false] rfl rfl (any_of HT_.out (by kernel_rfl)) (fun _ _ _ h => h) (Or.inl ⟨by rfl, ?_⟩) ?_ ?_
      rotate_left
      · intro w'
        go_simp
        with_reducible rfl
      rotate_left
      · simp only [Act.put, List.setIfInBounds_toArray, List.set_cons_zero, List.set_cons_succ, i64_w, i32_w]
        rfl
      refine pure_ (i := 5) (N := some 44) (v := ?_) (a' := ?_) #[true, true, true, true, true, true, false, false, false, false, false, false, false, false, false, false, false, false, false, false, false, false, false] rfl rfl (any_of HT_.out (by kernel_rfl)) (fun _ _ _ h => h) (Or.inl ⟨by rfl, ?_⟩) ?_ ?_
      rotate_left
      · intro w'
        go_simp
        with_reducible rfl
      rotate_left
      · simp only [Act.put, List.setIfInBounds_toArray, List.set_cons_zero, List.set_cons_succ, i64_w, i32_w]
        rfl
      refine pure_ (i := 6) (N := some 45) (v := ?_) (a' := ?_) #[true, true, true, true, true, true, true, false, false, false, false, false, false, false, false, false, false, false, false, false, false, false, false] rfl rfl (any_of HT_.out (by kernel_rfl)) (fun _ _ _ h => h) (Or.inl ⟨by rfl, ?_⟩) ?_ ?_
      rotate_left
      · intro w'
        go_simp
        with_reducible rfl
      rotate_left
      · simp only [Act.put, List.setIfInBounds_toArray, List.set_cons_zero, List.set_cons_succ, i64_w, i32_w]
        rfl
      refine pure_ (i := 8) (N := some 47) (v := ?_) (a' := ?_) #[true, true, true, true, true, true, true, false, true, false, false, false, false, false, false, false, false, false, false, false, false, false, false] rfl rfl (any_of HT_.out (by kernel_rfl)) (fun _ _ _ h => h) (Or.inl ⟨by rfl, ?_⟩) ?_ ?_
      rotate_left
      · intro w'
        go_simp
        with_reducible rfl
      rotate_left
      · simp only [Act.put, List.setIfInBounds_toArray, List.set_cons_zero, List.set_cons_succ, i64_w, i32_w]
        rfl
      refine one_ (i := 7) (N := some 46) #[true, true, true, true, true, true, true, true, true, false, false, false, false, false, false, false, false, false, false, false, false, false, false] rfl rfl (one_of HT_.out (by kernel_rfl)) (by decide) (fun K hK => ?_)
      refine goes_ Try.func37 (by kernel_rfl) rfl #[.slice A8 (n + k) c8] (by rfl) rfl rfl (by (try simp only [List.map_toArray, List.map_cons, List.map_nil]); first | done | rfl) ?_
      with_reducible refine (Block_b A8 c8 (n + k) more b HMB.out _ HML.out (Kd.C_below KM.out hHeld.2.2.2.1) (by omega)).mono ?_
      rintro e x10 ⟨rfl, hbx10⟩
      refine ⟨_, rfl, ?_⟩
      refine hK.out _ _ ⟨(below_then hHeld.1 (Below.size hHeld.1) hbx10), (below_then hHeld.2.1 (Below.size hHeld.2.1) hbx10), (below_then hHeld.2.2.1 (Below.size hHeld.2.2.1) hbx10), (below_then hHeld.2.2.2.1 (Below.size hHeld.2.2.2.1) hbx10), trivial⟩ (fun hHeld => ?_)
      clear hK K
      refine norm_ (a' := ?_) ?_ ?_
      rotate_left
      · show Act.put _ (some 46) _ = _
        simp only [Act.put, List.setIfInBounds_toArray, List.set_cons_zero, List.set_cons_succ, i64_w, i32_w]
        rfl
      refine one_ (i := 9) (N := some 48) #[true, true, true, true, true, true, true, true, true, true, false, false, false, false, false, false, false, false, false, false, false, false, false] rfl rfl (one_of HT_.out (by kernel_rfl)) (by decide) (fun K hK => ?_)
      refine goes_ Try.func37 (by kernel_rfl) rfl #[.slice A n c] (by rfl) rfl rfl (by (try simp only [List.map_toArray, List.map_cons, List.map_nil]); first | done | rfl) ?_
      with_reducible refine (Block_b A c n z5 b HB.out _ HN.out (Kd.C_below HR.out hHeld.1) (by omega)).mono ?_
      rintro e x11 ⟨rfl, hbx11⟩
      refine ⟨_, rfl, ?_⟩
      refine hK.out _ _ ⟨(below_then hHeld.1 (Below.size hHeld.1) hbx11), (below_then hHeld.2.1 (Below.size hHeld.2.1) hbx11), (below_then hHeld.2.2.1 (Below.size hHeld.2.2.1) hbx11), (below_then hHeld.2.2.2.1 (Below.size hHeld.2.2.2.1) hbx11), trivial⟩ (fun hHeld => ?_)
      clear hK K
      refine norm_ (a' := ?_) ?_ ?_
      rotate_left
      · show Act.put _ (some 48) _ = _
        simp only [Act.put, List.setIfInBounds_toArray, List.set_cons_zero, List.set_cons_succ, i64_w, i32_w]
        rfl
      refine pure_ (i := 10) (N := some 49) (v := ?_) (a' := ?_) #[true, true, true, true, true, true, true, true, true, true, true, false, false, false, false, false, false, false, false, false, false, false, false] rfl rfl (any_of HT_.out (by kernel_rfl)) (fun _ _ _ h => h) (Or.inl ⟨by rfl, ?_⟩) ?_ ?_
      rotate_left
      · intro w'
        go_simp
        with_reducible rfl
      rotate_left
      · simp only [Act.put, List.setIfInBounds_toArray, List.set_cons_zero, List.set_cons_succ, i64_w, i32_w]
        rfl
      refine pure_ (i := 11) (N := some 50) (v := ?_) (a' := ?_) #[true, true, true, true, true, true, true, true, true, true, true, true, false, false, false, false, false, false, false, false, false, false, false] rfl rfl (any_of HT_.out (by kernel_rfl)) (fun _ _ _ h => h) (Or.inl ⟨by rfl, ?_⟩) ?_ ?_
      rotate_left
      · intro w'
        go_simp
        with_reducible rfl
      rotate_left
      · simp only [Act.put, List.setIfInBounds_toArray, List.set_cons_zero, List.set_cons_succ, i64_w, i32_w]
        rfl
      refine pure_ (i := 12) (N := some 51) (v := ?_) (a' := ?_) #[true, true, true, true, true, true, true, true, true, true, true, true, true, false, false, false, false, false, false, false, false, false, false] rfl rfl (any_of HT_.out (by kernel_rfl)) (fun _ _ _ h => h) (Or.inl ⟨by rfl, ?_⟩) ?_ ?_
      rotate_left
      · intro w'
        go_simp
        with_reducible rfl
      rotate_left
      · simp only [Act.put, List.setIfInBounds_toArray, List.set_cons_zero, List.set_cons_succ, i64_w, i32_w]
        rfl
      refine pure_ (i := 13) (N := some 52) (v := ?_) (a' := ?_) #[true, true, true, true, true, true, true, true, true, true, true, true, true, true, false, false, false, false, false, false, false, false, false] rfl rfl (any_of HT_.out (by kernel_rfl)) (fun _ _ _ h => h) (Or.inl ⟨by rfl, ?_⟩) ?_ ?_
      rotate_left
      · intro w'
        go_simp
        with_reducible rfl
      rotate_left
      · simp only [Act.put, List.setIfInBounds_toArray, List.set_cons_zero, List.set_cons_succ, i64_w, i32_w]
        rfl
      refine pure_ (i := 15) (N := some 54) (v := ?_) (a' := ?_) #[true, true, true, true, true, true, true, true, true, true, true, true, true, true, false, true, false, false, false, false, false, false, false] rfl rfl (any_of HT_.out (by kernel_rfl)) (fun _ _ _ h => h) (Or.inl ⟨by rfl, ?_⟩) ?_ ?_
      rotate_left
      · intro w'
        go_simp
        with_reducible rfl
      rotate_left
      · simp only [Act.put, List.setIfInBounds_toArray, List.set_cons_zero, List.set_cons_succ, i64_w, i32_w]
        rfl
      refine take_ (i := 14) (N := some 53) (v := ?_) (a' := ?_) #[true, true, true, true, true, true, true, true, true, true, true, true, true, true, true, true, false, false, false, false, false, false, false] rfl rfl (take_ofW HT_.out HW_.out (by kernel_rfl)) (fun _ _ _ h => h) (Or.inl ⟨by rfl, ?_⟩) hHeld ?_ ?_
      rotate_left
      · intro w' s0
        have e := str_of (c := c5) (Kd.C_below K5.out s0.2.1)
        go_simp
        with_reducible rfl
      rotate_left
      · simp only [Act.put, List.setIfInBounds_toArray, List.set_cons_zero, List.set_cons_succ, i64_w, i32_w]
        rfl
      refine take_ (i := 16) (N := some 55) (v := ?_) (a' := ?_) #[true, true, true, true, true, true, true, true, true, true, true, true, true, true, true, true, true, false, false, false, false, false, false] rfl rfl (take_ofW HT_.out HW_.out (by kernel_rfl)) (fun _ _ _ h => h) (Or.inl ⟨by rfl, ?_⟩) hHeld ?_ ?_
      rotate_left
      · intro w' s0
        have e := str_of (c := c) (Kd.C_below HR.out s0.1)
        go_simp
        with_reducible rfl
      rotate_left
      · simp only [Act.put, List.setIfInBounds_toArray, List.set_cons_zero, List.set_cons_succ, i64_w, i32_w]
        rfl
      refine pure_ (i := 17) (N := some 56) (v := ?_) (a' := ?_) #[true, true, true, true, true, true, true, true, true, true, true, true, true, true, true, true, true, true, false, false, false, false, false] rfl rfl (any_of HT_.out (by kernel_rfl)) (fun _ _ _ h => h) (Or.inl ⟨by rfl, ?_⟩) ?_ ?_
      rotate_left
      · intro w'
        go_simp
        with_reducible rfl
      rotate_left
      · simp only [Act.put, List.setIfInBounds_toArray, List.set_cons_zero, List.set_cons_succ, i64_w, i32_w]
        rfl
      refine pure_ (i := 18) (N := some 57) (v := ?_) (a' := ?_) #[true, true, true, true, true, true, true, true, true, true, true, true, true, true, true, true, true, true, true, false, false, false, false] rfl rfl (any_of HT_.out (by kernel_rfl)) (fun _ _ _ h => h) (Or.inl ⟨by rfl, ?_⟩) ?_ ?_
      rotate_left
      · intro w'
        go_simp
        with_reducible rfl
      rotate_left
      · simp only [Act.put, List.setIfInBounds_toArray, List.set_cons_zero, List.set_cons_succ, i64_w, i32_w]
        rfl
      refine pure_ (i := 19) (N := some 58) (v := ?_) (a' := ?_) #[true, true, true, true, true, true, true, true, true, true, true, true, true, true, true, true, true, true, true, true, false, false, false] rfl rfl (any_of HT_.out (by kernel_rfl)) (fun _ _ _ h => h) (Or.inl ⟨by rfl, ?_⟩) ?_ ?_
      rotate_left
      · intro w'
        go_simp
        with_reducible rfl
      rotate_left
      · simp only [Act.put, List.setIfInBounds_toArray, List.set_cons_zero, List.set_cons_succ, i64_w, i32_w]
        rfl
      refine one_ (i := 20) (N := some 59) #[true, true, true, true, true, true, true, true, true, true, true, true, true, true, true, true, true, true, true, true, true, false, false] rfl rfl (one_of HT_.out (by kernel_rfl)) (by decide) (fun K hK => ?_)
      refine goes_ Try.func35 (by kernel_rfl) rfl #[] (by rfl) rfl rfl (by (try simp only [List.map_toArray, List.map_cons, List.map_nil]); first | done | rfl) ?_
      with_reducible refine (sure_calls _).mono ?_
      rintro e x12 ⟨rfl, hbx12⟩
      refine ⟨_, rfl, ?_⟩
      refine hK.out _ _ ⟨(below_then hHeld.1 (Below.size hHeld.1) hbx12), (below_then hHeld.2.1 (Below.size hHeld.2.1) hbx12), (below_then hHeld.2.2.1 (Below.size hHeld.2.2.1) hbx12), (below_then hHeld.2.2.2.1 (Below.size hHeld.2.2.2.1) hbx12), trivial⟩ (fun hHeld => ?_)
      clear hK K
      refine norm_ (a' := ?_) ?_ ?_
      rotate_left
      · show Act.put _ (some 59) _ = _
        simp only [Act.put, List.setIfInBounds_toArray, List.set_cons_zero, List.set_cons_succ, i64_w, i32_w]
        rfl
      refine pure_ (i := 21) (N := some 60) (v := ?_) (a' := ?_) #[true, true, true, true, true, true, true, true, true, true, true, true, true, true, true, true, true, true, true, true, true, true, false] rfl rfl (any_of HT_.out (by kernel_rfl)) (fun _ _ _ h => h) (Or.inl ⟨by rfl, ?_⟩) ?_ ?_
      rotate_left
      · intro w'
        go_simp
        with_reducible rfl
      rotate_left
      · simp only [Act.put, List.setIfInBounds_toArray, List.set_cons_zero, List.set_cons_succ, i64_w, i32_w]
        rfl
      refine pure_ (i := 22) (N := some 6) (v := ?_) (a' := ?_) #[true, true, true, true, true, true, true, true, true, true, true, true, true, true, true, true, true, true, true, true, true, true, true] rfl rfl (any_of HT_.out (by kernel_rfl)) (fun _ _ _ h => h) (Or.inl ⟨by rfl, ?_⟩) ?_ ?_
      rotate_left
      · intro w'
        go_simp
        with_reducible rfl
      rotate_left
      · simp only [Act.put, List.setIfInBounds_toArray, List.set_cons_zero, List.set_cons_succ, i64_w, i32_w]
        rfl
      refine done_ (done_of HT_.out (by kernel_rfl)) ?_
      have L7_w := Aside0.mk hHeld.1
      have L7_x2 := Aside0.mk hHeld.2.1
      have L7_x5 := Aside0.mk hHeld.2.2.1
      have L7_x8 := Aside0.mk hHeld.2.2.2.1
      clear hHeld
      go_wp2
      go_ret
      exact ⟨rfl, L7_w.out⟩
    · have i3 : 64 < (n : Int) := by omega
      obtain ⟨U, hU⟩ : ∃ U, U = sum key := ⟨_, rfl⟩
      have HUL := Aside0.mk (show U.length = 32 by rw [hU]; exact sum_len _)
      have HUV := Aside0.mk (show V = macOf U txt by rw [HV.out]; exact macOf_block (by rw [hU, block_sum key (by rw [HN.out]; omega)]))
      have HU := Aside0.mk hU
      have HZU := Aside0.mk (sz32 U HUL.out)
      have HOU := Aside0.mk (show (e8 (List.replicate 32 0)).size = (e8 U).size by rw [e8_size, e8_size, HUL.out]; rfl)
      clear hU h64
      go_enter Try.func10, Try.ntmps10
      go_wp2_with (first
        | ((with_reducible refine at_row_ (d := some 20) ?_); (refine wpList_make_ (t := 5) (#[]) (fun g => .slice (some ⟨g, 0, none⟩) 0 0) (by rfl) ?_ ?_); (first | exact exec_row0 _ rfl _ | (go_simp; done) | (unfold execOp; go_simp; done) | (go_simp; constructor <;> rfl) | (go_simp; rfl) | rfl); intro g20 y1 hge_g20 B_g20 hby1; replace B_g20 := Aside0.mk B_g20; have hz8 := Below.size hby1; replace hby1 := Aside0.mk hby1; have H20 := Aside0.mk (show Bs y1 w.heap.size (.slice (some ⟨g20, 0, none⟩) 0 0) [] from Bs.of_blk B_g20.out rfl hge_g20 rfl (by decide)))
        | (at_builtin; refine app_bs (w0 := w) w.heap.size rfl (.tmp 20) (.tmp 21) rfl _ ([]) (key) _ _ _ rfl rfl H20.out (Kd.C_below HR.out hby1.out) hby1.out (Below.size hby1.out) (by show 0 + n ≤ _; omega) ?_; intro z5 A5 c5 y2 hzy2 hBy2 hby2 hsy2 hgy2; have hz9 := hgy2.out.size; have hzl : z5 = key := hzy2.out.trans (List.nil_append _); subst hzl; rw [HN.out] at hBy2 ⊢; have K5 := Aside0.mk (show Kb.C y2 A5 n z5 from hBy2.out.read.1))
        | (go_at_call 39; (with_reducible refine (MacOf_calls A5 B c5 d n m z5 txt V HV.out y2 HN.out HM.out K5.out (Kd.C_below HS.out hby2.out) (by omega) (by omega)).mono ?_); rintro e y3 ⟨rfl, hby3⟩; have L10_w := Aside0.mk (below_then hby2.out (Below.size hby2.out) hby3); have hz10 := Below.size hby3; replace hby3 := Aside0.mk hby3)
        | ((with_reducible refine at_alloc_ (d := some 8) ?_); (refine wpList_make_ (t := 51) ((e8 (List.replicate 32 0))) (fun g => .pointer (some ⟨g, 0, none⟩)) (by rfl) ?_ ?_); (first | (go_simp; done) | (unfold execOp; go_simp; done) | (go_simp; constructor <;> rfl) | (go_simp; rfl) | rfl); intro g8 y4 hge_g8 B_g8 hby4; replace B_g8 := Aside0.mk B_g8; have L11_w := Aside0.mk (below_then L10_w.out (Below.size L10_w.out) hby4); have L11_y2 := Aside0.mk (below_then hby3.out (Below.size hby3.out) hby4); have hz11 := Below.size hby4; replace hby4 := Aside0.mk hby4)
        | ((with_reducible refine at_store_ (x := .tmp 8) ?_); (refine wpList_store_row rfl 51 _ _ rfl g8 (e8 V) _ 51 rfl rfl B_g8.out HZ.out HO.out (e8_one _) ?_); generalize hWy5 : World.setRow y4 _ _ = y5; have L12_w := Aside0.mk (show Below w.heap.size w y5 by rw [← hWy5]; exact below_setRow L11_w.out (by omega) _); have hzL12_w := Below.size L12_w.out; have L12_y2 := Aside0.mk (show Below y2.heap.size y2 y5 by rw [← hWy5]; exact below_setRow L11_y2.out (by omega) _); have hzL12_y2 := Below.size L12_y2.out; have B_g8_12 := Aside0.mk (show Blk y5 g8 51 (e8 V) by rw [← hWy5]; exact blk_setRow B_g8.out _); clear hWy5)
        | (go_at_call 41; (with_reducible refine (Sum_x z5 U HU.out A c n y5 HN.out (Kd.C_below HR.out L12_w.out) (by omega)).mono ?_); rintro e y6 ⟨rfl, hby6⟩; have L13_w := Aside0.mk (below_then L12_w.out (Below.size L12_w.out) hby6); have L13_y2 := Aside0.mk (below_then L12_y2.out (Below.size L12_y2.out) hby6); have hz13 := Below.size hby6; replace hby6 := Aside0.mk hby6)
        | ((with_reducible refine at_alloc_ (d := some 10) ?_); (refine wpList_make_ (t := 51) ((e8 (List.replicate 32 0))) (fun g => .pointer (some ⟨g, 0, none⟩)) (by rfl) ?_ ?_); (first | (go_simp; done) | (unfold execOp; go_simp; done) | (go_simp; constructor <;> rfl) | (go_simp; rfl) | rfl); intro g10 y7 hge_g10 B_g10 hby7; replace B_g10 := Aside0.mk B_g10; have L14_w := Aside0.mk (below_then L13_w.out (Below.size L13_w.out) hby7); have L14_y2 := Aside0.mk (below_then L13_y2.out (Below.size L13_y2.out) hby7); have L14_y5 := Aside0.mk (below_then hby6.out (Below.size hby6.out) hby7); have hz14 := Below.size hby7; replace hby7 := Aside0.mk hby7)
        | ((with_reducible refine at_store_ (x := .tmp 10) ?_); (refine wpList_store_row rfl 51 _ _ rfl g10 (e8 U) _ 51 rfl rfl B_g10.out HZU.out HOU.out (e8_one _) ?_); generalize hWy8 : World.setRow y7 _ _ = y8; have L15_w := Aside0.mk (show Below w.heap.size w y8 by rw [← hWy8]; exact below_setRow L14_w.out (by omega) _); have hzL15_w := Below.size L15_w.out; have L15_y2 := Aside0.mk (show Below y2.heap.size y2 y8 by rw [← hWy8]; exact below_setRow L14_y2.out (by omega) _); have hzL15_y2 := Below.size L15_y2.out; have L15_y5 := Aside0.mk (show Below y5.heap.size y5 y8 by rw [← hWy8]; exact below_setRow L14_y5.out (by omega) _); have hzL15_y5 := Below.size L15_y5.out; have B_g10_15 := Aside0.mk (show Blk y8 g10 51 (e8 U) by rw [← hWy8]; exact blk_setRow B_g10.out _); clear hWy8; have KH := Aside0.mk (show Kb.C y8 (some ⟨g10, 0, none⟩) 32 U from blk_C8 B_g10_15.out 32 HUL.out (by decide))))
      refine start_ (n := 16) (S := fun w' => Below w.heap.size w w' ∧ Below y2.heap.size y2 w' ∧ Below y5.heap.size y5 w' ∧ Below y8.heap.size y8 w' ∧ True) (ds := []) #[false, false, false, false, false, false, false, false, false, false, false, false, false, false, false, false] (by kernel_rfl) rfl rfl ⟨below_drew L15_w.out, below_drew L15_y2.out, below_drew L15_y5.out, below_drew (Below.refl _ _), trivial⟩ (fun hHeld => ?_)
      refine with_tabW f10_r9.tab9 f10_r9.bits9 (fun HT_ HW_ => ?_)
      refine pure_ (i := 0) (N := some 63) (v := ?_) (a' := ?_) #[true, false, false, false, false, false, false, false, false, false, false, false, false, false, false, false] rfl rfl (any_of HT_.out (by kernel_rfl)) (fun _ _ _ h => h) (Or.inl ⟨by rfl, ?_⟩) ?_ ?_
      rotate_left
      · intro w'
        go_simp
        with_reducible rfl
      rotate_left
      · simp only [Act.put, List.setIfInBounds_toArray, List.set_cons_zero, List.set_cons_succ, i64_w, i32_w]
        rfl
      refine pure_ (i := 1) (N := some 64) (v := ?_) (a' := ?_) #[true, true, false, false, false, false, false, false, false, false, false, false, false, false, false, false] rfl rfl (any_of HT_.out (by kernel_rfl)) (fun _ _ _ h => h) (Or.inl ⟨by rfl, ?_⟩) ?_ ?_
      rotate_left
      · intro w'
        go_simp
        with_reducible rfl
      rotate_left
      · simp only [Act.put, List.setIfInBounds_toArray, List.set_cons_zero, List.set_cons_succ, i64_w, i32_w]
        rfl
      refine take_ (i := 3) (N := some 66) (v := ?_) (a' := ?_) #[true, true, false, true, false, false, false, false, false, false, false, false, false, false, false, false] rfl rfl (take_ofW HT_.out HW_.out (by kernel_rfl)) (fun _ _ _ h => h) (Or.inl ⟨by rfl, ?_⟩) hHeld ?_ ?_
      rotate_left
      · intro w' s0
        refine Eq.trans (exec_load_row 51 (.tmp 8) (by rfl) g8 51 (e8 V) _ (by rfl) (blk_below B_g8_12.out s0.2.2.1) Try.underlying51 rfl HZ.out) ?_
        with_reducible rfl
      rotate_left
      · simp only [Act.put, List.setIfInBounds_toArray, List.set_cons_zero, List.set_cons_succ, i64_w, i32_w]
        rfl
      refine one_ (i := 2) (N := some 65) #[true, true, true, true, false, false, false, false, false, false, false, false, false, false, false, false] rfl rfl (one_of HT_.out (by kernel_rfl)) (by decide) (fun K hK => ?_)
      refine goes_ Try.func39 (by kernel_rfl) rfl #[.slice (some ⟨g10, 0, none⟩) 32 32, .slice B m d] (by rfl) rfl rfl (by (try simp only [List.map_toArray, List.map_cons, List.map_nil]); first | done | rfl) ?_
      with_reducible refine (MacOf_calls (some ⟨g10, 0, none⟩) B 32 d 32 m U txt V HUV.out _ HUL.out HM.out (Kd.C_below KH.out hHeld.2.2.2.1) (Kd.C_below HS.out hHeld.1) (by omega) (by omega)).mono ?_
      rintro e y9 ⟨rfl, hby9⟩
      refine ⟨_, rfl, ?_⟩
      refine hK.out _ _ ⟨(below_then hHeld.1 (Below.size hHeld.1) hby9), (below_then hHeld.2.1 (Below.size hHeld.2.1) hby9), (below_then hHeld.2.2.1 (Below.size hHeld.2.2.1) hby9), (below_then hHeld.2.2.2.1 (Below.size hHeld.2.2.2.1) hby9), trivial⟩ (fun hHeld => ?_)
      clear hK K
      refine norm_ (a' := ?_) ?_ ?_
      rotate_left
      · show Act.put _ (some 65) _ = _
        simp only [Act.put, List.setIfInBounds_toArray, List.set_cons_zero, List.set_cons_succ, i64_w, i32_w]
        rfl
      refine pure_ (i := 4) (N := some 67) (v := ?_) (a' := ?_) #[true, true, true, true, true, false, false, false, false, false, false, false, false, false, false, false] rfl rfl (any_of HT_.out (by kernel_rfl)) (fun _ _ _ h => h) (Or.inl ⟨by rfl, ?_⟩) ?_ ?_
      rotate_left
      · intro w'
        go_simp
        with_reducible rfl
      rotate_left
      · simp only [Act.put, List.setIfInBounds_toArray, List.set_cons_zero, List.set_cons_succ, i64_w, i32_w]
        rfl
      refine pure_ (i := 5) (N := some 68) (v := ?_) (a' := ?_) #[true, true, true, true, true, true, false, false, false, false, false, false, false, false, false, false] rfl rfl (any_of HT_.out (by kernel_rfl)) (fun _ _ _ h => h) (Or.inl ⟨by rfl, ?_⟩) ?_ ?_
      rotate_left
      · intro w'
        go_simp
        with_reducible rfl
      rotate_left
      · simp only [Act.put, List.setIfInBounds_toArray, List.set_cons_zero, List.set_cons_succ, i64_w, i32_w]
        rfl
      refine pure_ (i := 6) (N := some 69) (v := ?_) (a' := ?_) #[true, true, true, true, true, true, true, false, false, false, false, false, false, false, false, false] rfl rfl (any_of HT_.out (by kernel_rfl)) (fun _ _ _ h => h) (Or.inl ⟨by rfl, ?_⟩) ?_ ?_
      rotate_left
      · intro w'
        go_simp
        with_reducible rfl
      rotate_left
      · simp only [Act.put, List.setIfInBounds_toArray, List.set_cons_zero, List.set_cons_succ, i64_w, i32_w]
        rfl
      refine pure_ (i := 8) (N := some 71) (v := ?_) (a' := ?_) #[true, true, true, true, true, true, true, false, true, false, false, false, false, false, false, false] rfl rfl (any_of HT_.out (by kernel_rfl)) (fun _ _ _ h => h) (Or.inl ⟨by rfl, ?_⟩) ?_ ?_
      rotate_left
      · intro w'
        go_simp
        with_reducible rfl
      rotate_left
      · simp only [Act.put, List.setIfInBounds_toArray, List.set_cons_zero, List.set_cons_succ, i64_w, i32_w]
        rfl
      refine take_ (i := 7) (N := some 70) (v := ?_) (a' := ?_) #[true, true, true, true, true, true, true, true, true, false, false, false, false, false, false, false] rfl rfl (take_ofW HT_.out HW_.out (by kernel_rfl)) (fun _ _ _ h => h) (Or.inl ⟨by rfl, ?_⟩) hHeld ?_ ?_
      rotate_left
      · intro w' s0
        have e := str_of (c := c5) (Kd.C_below K5.out s0.2.1)
        go_simp
        with_reducible rfl
      rotate_left
      · simp only [Act.put, List.setIfInBounds_toArray, List.set_cons_zero, List.set_cons_succ, i64_w, i32_w]
        rfl
      refine take_ (i := 9) (N := some 72) (v := ?_) (a' := ?_) #[true, true, true, true, true, true, true, true, true, true, false, false, false, false, false, false] rfl rfl (take_ofW HT_.out HW_.out (by kernel_rfl)) (fun _ _ _ h => h) (Or.inl ⟨by rfl, ?_⟩) hHeld ?_ ?_
      rotate_left
      · intro w' s0
        have e := str_of (c := c) (Kd.C_below HR.out s0.1)
        go_simp
        with_reducible rfl
      rotate_left
      · simp only [Act.put, List.setIfInBounds_toArray, List.set_cons_zero, List.set_cons_succ, i64_w, i32_w]
        rfl
      refine pure_ (i := 10) (N := some 73) (v := ?_) (a' := ?_) #[true, true, true, true, true, true, true, true, true, true, true, false, false, false, false, false] rfl rfl (any_of HT_.out (by kernel_rfl)) (fun _ _ _ h => h) (Or.inl ⟨by rfl, ?_⟩) ?_ ?_
      rotate_left
      · intro w'
        go_simp
        with_reducible rfl
      rotate_left
      · simp only [Act.put, List.setIfInBounds_toArray, List.set_cons_zero, List.set_cons_succ, i64_w, i32_w]
        rfl
      refine pure_ (i := 11) (N := some 74) (v := ?_) (a' := ?_) #[true, true, true, true, true, true, true, true, true, true, true, true, false, false, false, false] rfl rfl (any_of HT_.out (by kernel_rfl)) (fun _ _ _ h => h) (Or.inl ⟨by rfl, ?_⟩) ?_ ?_
      rotate_left
      · intro w'
        go_simp
        with_reducible rfl
      rotate_left
      · simp only [Act.put, List.setIfInBounds_toArray, List.set_cons_zero, List.set_cons_succ, i64_w, i32_w]
        rfl
      refine pure_ (i := 12) (N := some 75) (v := ?_) (a' := ?_) #[true, true, true, true, true, true, true, true, true, true, true, true, true, false, false, false] rfl rfl (any_of HT_.out (by kernel_rfl)) (fun _ _ _ h => h) (Or.inl ⟨by rfl, ?_⟩) ?_ ?_
      rotate_left
      · intro w'
        go_simp
        with_reducible rfl
      rotate_left
      · simp only [Act.put, List.setIfInBounds_toArray, List.set_cons_zero, List.set_cons_succ, i64_w, i32_w]
        rfl
      refine one_ (i := 13) (N := some 76) #[true, true, true, true, true, true, true, true, true, true, true, true, true, true, false, false] rfl rfl (one_of HT_.out (by kernel_rfl)) (by decide) (fun K hK => ?_)
      refine goes_ Try.func35 (by kernel_rfl) rfl #[] (by rfl) rfl rfl (by (try simp only [List.map_toArray, List.map_cons, List.map_nil]); first | done | rfl) ?_
      with_reducible refine (sure_calls _).mono ?_
      rintro e y10 ⟨rfl, hby10⟩
      refine ⟨_, rfl, ?_⟩
      refine hK.out _ _ ⟨(below_then hHeld.1 (Below.size hHeld.1) hby10), (below_then hHeld.2.1 (Below.size hHeld.2.1) hby10), (below_then hHeld.2.2.1 (Below.size hHeld.2.2.1) hby10), (below_then hHeld.2.2.2.1 (Below.size hHeld.2.2.2.1) hby10), trivial⟩ (fun hHeld => ?_)
      clear hK K
      refine norm_ (a' := ?_) ?_ ?_
      rotate_left
      · show Act.put _ (some 76) _ = _
        simp only [Act.put, List.setIfInBounds_toArray, List.set_cons_zero, List.set_cons_succ, i64_w, i32_w]
        rfl
      refine pure_ (i := 14) (N := some 77) (v := ?_) (a' := ?_) #[true, true, true, true, true, true, true, true, true, true, true, true, true, true, true, false] rfl rfl (any_of HT_.out (by kernel_rfl)) (fun _ _ _ h => h) (Or.inl ⟨by rfl, ?_⟩) ?_ ?_
      rotate_left
      · intro w'
        go_simp
        with_reducible rfl
      rotate_left
      · simp only [Act.put, List.setIfInBounds_toArray, List.set_cons_zero, List.set_cons_succ, i64_w, i32_w]
        rfl
      refine pure_ (i := 15) (N := some 6) (v := ?_) (a' := ?_) #[true, true, true, true, true, true, true, true, true, true, true, true, true, true, true, true] rfl rfl (any_of HT_.out (by kernel_rfl)) (fun _ _ _ h => h) (Or.inl ⟨by rfl, ?_⟩) ?_ ?_
      rotate_left
      · intro w'
        go_simp
        with_reducible rfl
      rotate_left
      · simp only [Act.put, List.setIfInBounds_toArray, List.set_cons_zero, List.set_cons_succ, i64_w, i32_w]
        rfl
      refine done_ (done_of HT_.out (by kernel_rfl)) ?_
      have L16_w := Aside0.mk hHeld.1
      have L16_y2 := Aside0.mk hHeld.2.1
      have L16_y5 := Aside0.mk hHeld.2.2.1
      have L16_y8 := Aside0.mk hHeld.2.2.2.1
      clear hHeld
      go_wp2
      go_ret
      exact ⟨rfl, L16_w.out⟩
  · have HB0 := Aside0.mk (Below.refl w.heap.size w)
    by_cases h2 : n ≤ 300
    · have i1 : (n : Int) ≤ 300 := by omega
      have i2 : 400 < (m : Int) := by omega
      clear h1
      go_enter Try.func10, Try.ntmps10
      go_wp2_with (go_at_call 35; refine (sure_calls _).mono ?_; rintro e w1 ⟨rfl, hb1⟩; replace hb1 := Aside0.mk (below_then HB0.out HB0.out.size hb1))
      go_ret
      exact ⟨rfl, hb1.out⟩
    · have i1 : 300 < (n : Int) := by omega
      clear h1
      go_enter Try.func10, Try.ntmps10
      go_wp2_with (go_at_call 35; refine (sure_calls _).mono ?_; rintro e w1 ⟨rfl, hb1⟩; replace hb1 := Aside0.mk (below_then HB0.out HB0.out.size hb1))
      go_ret
      exact ⟨rfl, hb1.out⟩
end Go.Proofs.Ytpgighcobmaecaa.Mac
