/- The law MacSums: the walk. -/
import Derived.Test.YtpgighcobmaecaaMacSure
import Derived.Test.YtpgighcobmaecaaStep
set_option linter.unusedVariables false
set_option linter.unusedSimpArgs false
namespace Go.Proofs.Ytpgighcobmaecaa.Mac
open Go.RowKit Go.Proofs.YtpgighcobmaecaaW.PrintWords Go.Proofs.YtpgighcobmaecaaW.PrintLast Go.Proofs.Ytpgighcobmaecaa.Sha Go.Proofs.Ytpgighcobmaecaa.Seal

theorem eq64 (xs ys : List UInt8) (hx : xs.length = 64) (hy : ys.length = 64) (w : World) : (Op.equalIn 10000 67 (.agg (e8 xs)) (.agg (e8 ys))).run Try.prog w = .ok (xs == ys) w :=
  run_eq_e8 Try.underlying67 Try.underlying5 Try.isAgg5 (by kernel_rfl) xs ys hx hy w
theorem Block_b (A : Option Addr) (c n : Nat) (key b : List UInt8) (hb : b = block key) (w : World) (hn : key.length = n) (hr : Kb.C w A n key) (hl : n ≤ 1000000) :
    Calls Try.prog 37 #[.slice A n c] w fun e w' => e = .returned (.agg (e8 b)) ∧ Below w.heap.size w w' := by
  subst hb
  exact Block_calls A c n key w hn hr hl
theorem RefBlock_b (A : Option Addr) (c n : Nat) (key b : List UInt8) (hb : b = block key) (w : World) (hn : key.length = n) (hr : Kb.C w A n key) (hl : n ≤ 1000000) :
    Calls Try.prog 38 #[.slice A n c] w fun e w' => e = .returned (.agg (e8 b)) ∧ Below w.heap.size w w' := by
  subst hb
  exact RefBlock_calls A c n key w hn hr hl
theorem bq8 (a b : List UInt8) : (a == b) = (b == a) := by rw [Bool.eq_iff_iff, beq_iff_eq, beq_iff_eq]; exact eq_comm
def f9_r4.T4 : Bool × List (List Nat × List Nat) := (true, [([], []), ([0], [0]), ([], []), ([2, 1], [2]), ([1, 3], [1, 3]), ([4, 3], [4]), ([5], [5]), ([5], [5]), ([6, 7, 5, 5], [5, 6, 7]), ([5], [5]), ([8, 9, 5], [5, 8, 9]), ([5, 10], [5, 10]), ([11, 8], [11]), ([12], [12]), ([12], [12]), ([12], [12]), ([13, 14, 15, 12, 12], [12, 13, 14, 15]), ([12], [12]), ([12], [12]), ([17, 18, 12], [12, 17, 18]), ([16, 19, 12], [12, 16, 19]), ([12, 20], [12, 20]), ([21, 16], [21]), ([22], [22]), ([22], [22]), ([22], [22]), ([23, 24, 25, 22, 22], [22, 23, 24, 25]), ([22, 26], [22, 26]), ([27, 26], [27]), ([28, 28], [28]), ([28, 29], [28, 29]), ([30, 29, 0, 1, 2, 3, 4, 5, 6, 7, 8, 9, 10, 11, 12, 13, 14, 15, 16, 17, 18, 19, 20, 21, 22, 23, 24, 25, 26, 27, 28, 29, 30], [30])])
def f9_r4.B4 : List Nat := [0, 1, 0, 7, 15, 31, 63, 63, 255, 63, 1023, 2047, 4095, 8191, 8191, 8191, 65535, 8191, 8191, 401407, 1048575, 2097151, 4194303, 8388607, 8388607, 8388607, 67108863, 134217727, 268435455, 536870911, 1073741823, 2147483647]
theorem f9_r4.tab4 : Go.Proofs.YtpgighcobmaecaaW.PrintLast.rtab .any (Go.Proofs.YtpgighcobmaecaaW.PrintLast.opsOf Try.f9 4) = f9_r4.T4 := by kernel_rfl
theorem f9_r4.bits4 : Go.Proofs.YtpgighcobmaecaaW.PrintLast.waitsOk f9_r4.T4.2 f9_r4.B4 = true := by kernel_rfl
set_option maxRecDepth 100000 in
set_option maxHeartbeats 8000000 in
theorem sums_calls (A B : Option Addr) (c d n m : Nat) (key txt s : List UInt8) (w : World) (hn : key.length = n) (hm : txt.length = m) (hr : Kb.C w A n key) (hs : Kb.C w B m txt) (hsl : s.length = 32) :
    Calls Try.prog 9 #[.slice A n c, .slice B m d, .agg (e8 s)] w fun e w' => e = .returned (.bool true) ∧ Below w.heap.size w w' := by
  have HN := Aside0.mk hn
  have HM := Aside0.mk hm
  have HR := Aside0.mk hr
  have HS := Aside0.mk hs
  have HSL := Aside0.mk hsl
  clear hn hm hr hs hsl
  by_cases h1 : n ≤ 300 ∧ m ≤ 400
  · obtain ⟨h1, h2⟩ := h1
    have i1 : (n : Int) ≤ 300 := by omega
    have i2 : (m : Int) ≤ 400 := by omega
    obtain ⟨V, hV⟩ : ∃ V, V = macOf key txt := ⟨_, rfl⟩
    obtain ⟨b, hb⟩ : ∃ b, b = block key := ⟨_, rfl⟩
    obtain ⟨v, hv⟩ : ∃ v, v = (V == s) := ⟨_, rfl⟩
    have hVl : V.length = 32 := by rw [hV]; exact sum_len _
    have hbl : b.length = 64 := by rw [hb]; exact block_len key
    have heqb := fun w => (eq64 b b hbl hbl w).trans (by rw [beq_self_eq_true])
    have heqV := fun w => (eq32 V V hVl hVl w).trans (by rw [beq_self_eq_true])
    have heqS := fun w => (eq32 s V HSL.out hVl w).trans (by rw [bq8, ← hv])
    have hvv : (v == v) = true := by cases v <;> rfl
    have HZ := Aside0.mk (sz32 V hVl)
    have HZS := Aside0.mk (sz32 s HSL.out)
    have HV := Aside0.mk hV
    have HB := Aside0.mk hb
    have Hv := Aside0.mk hv
    have HVL := Aside0.mk hVl
    have HO := Aside0.mk (show (e8 (List.replicate 32 0)).size = (e8 V).size by rw [e8_size, e8_size, HVL.out]; rfl)
    clear hV hb hv hVl hbl
    go_enter Try.func9, Try.ntmps9
    go_wp2_with (first
      | ((with_reducible refine at_box_ (d := some 5) ?_); (refine wpList_make_ (t := 51) ((e8 s)) (fun g => .pointer (some ⟨g, 0, none⟩)) (by rfl) ?_ ?_); (first | (go_simp; done) | (go_simp; constructor <;> rfl) | (go_simp; rfl) | rfl); intro g5 x1 hge_g5 B_g5 hbx1; replace B_g5 := Aside0.mk B_g5; have hz1 := Below.size hbx1; replace hbx1 := Aside0.mk hbx1)
      | (go_at_call 36; (with_reducible refine (RefMacOf_calls A B c d n m key txt V HV.out x1 HN.out HM.out (Kd.C_below HR.out hbx1.out) (Kd.C_below HS.out hbx1.out) (by omega) (by omega)).mono ?_); rintro e x2 ⟨rfl, hbx2⟩; have L2_w := Aside0.mk (below_then hbx1.out (Below.size hbx1.out) hbx2); have hz2 := Below.size hbx2; replace hbx2 := Aside0.mk hbx2)
      | ((with_reducible refine at_alloc_ (d := some 7) ?_); (refine wpList_make_ (t := 51) ((e8 (List.replicate 32 0))) (fun g => .pointer (some ⟨g, 0, none⟩)) (by rfl) ?_ ?_); (first | (go_simp; done) | (go_simp; constructor <;> rfl) | (go_simp; rfl) | rfl); intro g7 x3 hge_g7 B_g7 hbx3; replace B_g7 := Aside0.mk B_g7; have L3_w := Aside0.mk (below_then L2_w.out (Below.size L2_w.out) hbx3); have L3_x1 := Aside0.mk (below_then hbx2.out (Below.size hbx2.out) hbx3); have hz3 := Below.size hbx3; replace hbx3 := Aside0.mk hbx3)
      | ((with_reducible refine at_store_ (x := .tmp 7) ?_); (refine wpList_store_row rfl 51 _ _ rfl g7 (e8 V) _ 51 rfl rfl B_g7.out HZ.out HO.out (e8_one _) ?_); generalize hWx4 : World.setRow x3 _ _ = x4; have L4_w := Aside0.mk (show Below w.heap.size w x4 by rw [← hWx4]; exact below_setRow L3_w.out (by omega) _); have L4_x1 := Aside0.mk (show Below x1.heap.size x1 x4 by rw [← hWx4]; exact below_setRow L3_x1.out (by omega) _); have B_g7_4 := Aside0.mk (show Blk x4 g7 51 (e8 V) by rw [← hWx4]; exact blk_setRow B_g7.out _); clear hWx4))
    refine start_ (n := 32) (S := fun w' => Below w.heap.size w w' ∧ Below x1.heap.size x1 w' ∧ Below x4.heap.size x4 w' ∧ True) (ds := []) #[false, false, false, false, false, false, false, false, false, false, false, false, false, false, false, false, false, false, false, false, false, false, false, false, false, false, false, false, false, false, false, false] (by kernel_rfl) rfl rfl ⟨below_drew L4_w.out, below_drew L4_x1.out, below_drew (Below.refl _ _), trivial⟩ (fun hHeld => ?_)
    refine with_tabW f9_r4.tab4 f9_r4.bits4 (fun HT_ HW_ => ?_)
    refine pure_ (i := 0) (N := some 20) (v := ?_) (a' := ?_) #[true, false, false, false, false, false, false, false, false, false, false, false, false, false, false, false, false, false, false, false, false, false, false, false, false, false, false, false, false, false, false, false] rfl rfl (any_of HT_.out (by kernel_rfl)) (fun _ _ _ h => h) (Or.inl ⟨by rfl, ?_⟩) ?_ ?_
    rotate_left
    · intro w'
      go_simp
      with_reducible rfl
    rotate_left
    · simp only [Act.put, List.setIfInBounds_toArray, List.set_cons_zero, List.set_cons_succ, i64_w, i32_w]
      rfl
    refine pure_ (i := 2) (N := some 22) (v := ?_) (a' := ?_) #[true, false, true, false, false, false, false, false, false, false, false, false, false, false, false, false, false, false, false, false, false, false, false, false, false, false, false, false, false, false, false, false] rfl rfl (any_of HT_.out (by kernel_rfl)) (fun _ _ _ h => h) (Or.inl ⟨by rfl, ?_⟩) ?_ ?_
    rotate_left
    · intro w'
      go_simp
      with_reducible rfl
    rotate_left
    · simp only [Act.put, List.setIfInBounds_toArray, List.set_cons_zero, List.set_cons_succ, i64_w, i32_w]
      rfl
    refine one_ (i := 1) (N := some 21) #[true, true, true, false, false, false, false, false, false, false, false, false, false, false, false, false, false, false, false, false, false, false, false, false, false, false, false, false, false, false, false, false] rfl rfl (one_of HT_.out (by kernel_rfl)) (by decide) (fun K hK => ?_)
    refine goes_ Try.func37 (by kernel_rfl) rfl #[.slice A n c] (by rfl) rfl rfl (by (try simp only [List.map_toArray, List.map_cons, List.map_nil]); first | done | rfl) ?_
    with_reducible refine (Block_b A c n key b HB.out _ HN.out (Kd.C_below HR.out hHeld.1) (by omega)).mono ?_
    rintro e x5 ⟨rfl, hbx5⟩
    refine ⟨_, rfl, ?_⟩
    refine hK.out _ _ ⟨(below_then hHeld.1 (Below.size hHeld.1) hbx5), (below_then hHeld.2.1 (Below.size hHeld.2.1) hbx5), (below_then hHeld.2.2.1 (Below.size hHeld.2.2.1) hbx5), trivial⟩ (fun hHeld => ?_)
    clear hK K
    refine norm_ (a' := ?_) ?_ ?_
    rotate_left
    · show Act.put _ (some 21) _ = _
      simp only [Act.put, List.setIfInBounds_toArray, List.set_cons_zero, List.set_cons_succ, i64_w, i32_w]
      rfl
    refine one_ (i := 3) (N := some 23) #[true, true, true, true, false, false, false, false, false, false, false, false, false, false, false, false, false, false, false, false, false, false, false, false, false, false, false, false, false, false, false, false] rfl rfl (one_of HT_.out (by kernel_rfl)) (by decide) (fun K hK => ?_)
    refine goes_ Try.func38 (by kernel_rfl) rfl #[.slice A n c] (by rfl) rfl rfl (by (try simp only [List.map_toArray, List.map_cons, List.map_nil]); first | done | rfl) ?_
    with_reducible refine (RefBlock_b A c n key b HB.out _ HN.out (Kd.C_below HR.out hHeld.1) (by omega)).mono ?_
    rintro e x6 ⟨rfl, hbx6⟩
    refine ⟨_, rfl, ?_⟩
    refine hK.out _ _ ⟨(below_then hHeld.1 (Below.size hHeld.1) hbx6), (below_then hHeld.2.1 (Below.size hHeld.2.1) hbx6), (below_then hHeld.2.2.1 (Below.size hHeld.2.2.1) hbx6), trivial⟩ (fun hHeld => ?_)
    clear hK K
    refine norm_ (a' := ?_) ?_ ?_
    rotate_left
    · show Act.put _ (some 23) _ = _
      simp only [Act.put, List.setIfInBounds_toArray, List.set_cons_zero, List.set_cons_succ, i64_w, i32_w]
      rfl
    refine pure_ (i := 4) (N := some 24) (v := ?_) (a' := ?_) #[true, true, true, true, true, false, false, false, false, false, false, false, false, false, false, false, false, false, false, false, false, false, false, false, false, false, false, false, false, false, false, false] rfl rfl (any_of HT_.out (by kernel_rfl)) (fun _ _ _ h => h) (Or.inl ⟨by rfl, ?_⟩) ?_ ?_
    rotate_left
    · intro w'
      go_simp
      with_reducible rfl
    rotate_left
    · simp only [Act.put, List.setIfInBounds_toArray, List.set_cons_zero, List.set_cons_succ, i64_w, i32_w]
      rfl
    refine pure_ (i := 5) (N := some 25) (v := ?_) (a' := ?_) #[true, true, true, true, true, true, false, false, false, false, false, false, false, false, false, false, false, false, false, false, false, false, false, false, false, false, false, false, false, false, false, false] rfl rfl (any_of HT_.out (by kernel_rfl)) (fun _ _ _ h => h) (Or.inl ⟨by rfl, ?_⟩) ?_ ?_
    rotate_left
    · intro w'
      go_simp
      with_reducible rfl
    rotate_left
    · simp only [Act.put, List.setIfInBounds_toArray, List.set_cons_zero, List.set_cons_succ, i64_w, i32_w]
      rfl
    refine pure_ (i := 6) (N := some 26) (v := ?_) (a' := ?_) #[true, true, true, true, true, true, true, false, false, false, false, false, false, false, false, false, false, false, false, false, false, false, false, false, false, false, false, false, false, false, false, false] rfl rfl (any_of HT_.out (by kernel_rfl)) (fun _ _ _ h => h) (Or.inl ⟨by rfl, ?_⟩) ?_ ?_
    rotate_left
    · intro w'
      go_simp
      with_reducible rfl
    rotate_left
    · simp only [Act.put, List.setIfInBounds_toArray, List.set_cons_zero, List.set_cons_succ, i64_w, i32_w]
      rfl
    refine pure_ (i := 7) (N := some 27) (v := ?_) (a' := ?_) #[true, true, true, true, true, true, true, true, false, false, false, false, false, false, false, false, false, false, false, false, false, false, false, false, false, false, false, false, false, false, false, false] rfl rfl (any_of HT_.out (by kernel_rfl)) (fun _ _ _ h => h) (Or.inl ⟨by rfl, ?_⟩) ?_ ?_
    rotate_left
    · intro w'
      go_simp
      with_reducible rfl
    rotate_left
    · simp only [Act.put, List.setIfInBounds_toArray, List.set_cons_zero, List.set_cons_succ, i64_w, i32_w]
      rfl
    refine take_ (i := 9) (N := some 29) (v := ?_) (a' := ?_) #[true, true, true, true, true, true, true, true, false, true, false, false, false, false, false, false, false, false, false, false, false, false, false, false, false, false, false, false, false, false, false, false] rfl rfl (take_ofW HT_.out HW_.out (by kernel_rfl)) (fun _ _ _ h => h) (Or.inl ⟨by rfl, ?_⟩) hHeld ?_ ?_
    rotate_left
    · intro w' s0
      refine Eq.trans (exec_load_row 51 (.tmp 7) (by rfl) g7 51 (e8 V) _ (by rfl) (blk_below B_g7_4.out s0.2.2.1) Try.underlying51 rfl HZ.out) ?_
      with_reducible rfl
    rotate_left
    · simp only [Act.put, List.setIfInBounds_toArray, List.set_cons_zero, List.set_cons_succ, i64_w, i32_w]
      rfl
    refine one_ (i := 8) (N := some 28) #[true, true, true, true, true, true, true, true, true, true, false, false, false, false, false, false, false, false, false, false, false, false, false, false, false, false, false, false, false, false, false, false] rfl rfl (one_of HT_.out (by kernel_rfl)) (by decide) (fun K hK => ?_)
    refine goes_ Try.func39 (by kernel_rfl) rfl #[.slice A n c, .slice B m d] (by rfl) rfl rfl (by (try simp only [List.map_toArray, List.map_cons, List.map_nil]); first | done | rfl) ?_
    with_reducible refine (MacOf_calls A B c d n m key txt V HV.out _ HN.out HM.out (Kd.C_below HR.out hHeld.1) (Kd.C_below HS.out hHeld.1) (by omega) (by omega)).mono ?_
    rintro e x7 ⟨rfl, hbx7⟩
    refine ⟨_, rfl, ?_⟩
    refine hK.out _ _ ⟨(below_then hHeld.1 (Below.size hHeld.1) hbx7), (below_then hHeld.2.1 (Below.size hHeld.2.1) hbx7), (below_then hHeld.2.2.1 (Below.size hHeld.2.2.1) hbx7), trivial⟩ (fun hHeld => ?_)
    clear hK K
    refine norm_ (a' := ?_) ?_ ?_
    rotate_left
    · show Act.put _ (some 28) _ = _
      simp only [Act.put, List.setIfInBounds_toArray, List.set_cons_zero, List.set_cons_succ, i64_w, i32_w]
      rfl
    refine pure_ (i := 10) (N := some 30) (v := ?_) (a' := ?_) #[true, true, true, true, true, true, true, true, true, true, true, false, false, false, false, false, false, false, false, false, false, false, false, false, false, false, false, false, false, false, false, false] rfl rfl (any_of HT_.out (by kernel_rfl)) (fun _ _ _ h => h) (Or.inl ⟨by rfl, ?_⟩) ?_ ?_
    rotate_left
    · intro w'
      go_simp
      with_reducible rfl
    rotate_left
    · simp only [Act.put, List.setIfInBounds_toArray, List.set_cons_zero, List.set_cons_succ, i64_w, i32_w]
      rfl
    refine pure_ (i := 11) (N := some 31) (v := ?_) (a' := ?_) #[true, true, true, true, true, true, true, true, true, true, true, true, false, false, false, false, false, false, false, false, false, false, false, false, false, false, false, false, false, false, false, false] rfl rfl (any_of HT_.out (by kernel_rfl)) (fun _ _ _ h => h) (Or.inl ⟨by rfl, ?_⟩) ?_ ?_
    rotate_left
    · intro w'
      go_simp
      with_reducible rfl
    rotate_left
    · simp only [Act.put, List.setIfInBounds_toArray, List.set_cons_zero, List.set_cons_succ, i64_w, i32_w]
      rfl
    refine pure_ (i := 12) (N := some 32) (v := ?_) (a' := ?_) #[true, true, true, true, true, true, true, true, true, true, true, true, true, false, false, false, false, false, false, false, false, false, false, false, false, false, false, false, false, false, false, false] rfl rfl (any_of HT_.out (by kernel_rfl)) (fun _ _ _ h => h) (Or.inl ⟨by rfl, ?_⟩) ?_ ?_
    rotate_left
    · intro w'
      go_simp
      with_reducible rfl
    rotate_left
    · simp only [Act.put, List.setIfInBounds_toArray, List.set_cons_zero, List.set_cons_succ, i64_w, i32_w]
      rfl
    refine pure_ (i := 13) (N := some 33) (v := ?_) (a' := ?_) #[true, true, true, true, true, true, true, true, true, true, true, true, true, true, false, false, false, false, false, false, false, false, false, false, false, false, false, false, false, false, false, false] rfl rfl (any_of HT_.out (by kernel_rfl)) (fun _ _ _ h => h) (Or.inl ⟨by rfl, ?_⟩) ?_ ?_
    rotate_left
    · intro w'
      go_simp
      with_reducible rfl
    rotate_left
    · simp only [Act.put, List.setIfInBounds_toArray, List.set_cons_zero, List.set_cons_succ, i64_w, i32_w]
      rfl
    refine pure_ (i := 14) (N := some 34) (v := ?_) (a' := ?_) #[true, true, true, true, true, true, true, true, true, true, true, true, true, true, true, false, false, false, false, false, false, false, false, false, false, false, false, false, false, false, false, false] rfl rfl (any_of HT_.out (by kernel_rfl)) (fun _ _ _ h => h) (Or.inl ⟨by rfl, ?_⟩) ?_ ?_
    rotate_left
    · intro w'
      go_simp
      with_reducible rfl
    rotate_left
    · simp only [Act.put, List.setIfInBounds_toArray, List.set_cons_zero, List.set_cons_succ, i64_w, i32_w]
      rfl
    refine take_ (i := 15) (N := some 35) (v := ?_) (a' := ?_) #[true, true, true, true, true, true, true, true, true, true, true, true, true, true, true, true, false, false, false, false, false, false, false, false, false, false, false, false, false, false, false, false] rfl rfl (take_ofW HT_.out HW_.out (by kernel_rfl)) (fun _ _ _ h => h) (Or.inl ⟨by rfl, ?_⟩) hHeld ?_ ?_
    rotate_left
    · intro w' s0
      refine Eq.trans (exec_load_row 51 (.tmp 5) (by rfl) g5 51 (e8 s) _ (by rfl) (blk_below B_g5.out s0.2.1) Try.underlying51 rfl HZS.out) ?_
      with_reducible rfl
    rotate_left
    · simp only [Act.put, List.setIfInBounds_toArray, List.set_cons_zero, List.set_cons_succ, i64_w, i32_w]
      rfl
    refine take_ (i := 17) (N := some 37) (v := ?_) (a' := ?_) #[true, true, true, true, true, true, true, true, true, true, true, true, true, true, true, true, false, true, false, false, false, false, false, false, false, false, false, false, false, false, false, false] rfl rfl (take_ofW HT_.out HW_.out (by kernel_rfl)) (fun _ _ _ h => h) (Or.inl ⟨by rfl, ?_⟩) hHeld ?_ ?_
    rotate_left
    · intro w' s0
      refine Eq.trans (exec_load_row 51 (.tmp 5) (by rfl) g5 51 (e8 s) _ (by rfl) (blk_below B_g5.out s0.2.1) Try.underlying51 rfl HZS.out) ?_
      with_reducible rfl
    rotate_left
    · simp only [Act.put, List.setIfInBounds_toArray, List.set_cons_zero, List.set_cons_succ, i64_w, i32_w]
      rfl
    refine take_ (i := 18) (N := some 38) (v := ?_) (a' := ?_) #[true, true, true, true, true, true, true, true, true, true, true, true, true, true, true, true, false, true, true, false, false, false, false, false, false, false, false, false, false, false, false, false] rfl rfl (take_ofW HT_.out HW_.out (by kernel_rfl)) (fun _ _ _ h => h) (Or.inl ⟨by rfl, ?_⟩) hHeld ?_ ?_
    rotate_left
    · intro w' s0
      refine Eq.trans (exec_load_row 51 (.tmp 7) (by rfl) g7 51 (e8 V) _ (by rfl) (blk_below B_g7_4.out s0.2.2.1) Try.underlying51 rfl HZ.out) ?_
      with_reducible rfl
    rotate_left
    · simp only [Act.put, List.setIfInBounds_toArray, List.set_cons_zero, List.set_cons_succ, i64_w, i32_w]
      rfl
    refine pure_ (i := 19) (N := some 39) (v := ?_) (a' := ?_) #[true, true, true, true, true, true, true, true, true, true, true, true, true, true, true, true, false, true, true, true, false, false, false, false, false, false, false, false, false, false, false, false] rfl rfl (any_of HT_.out (by kernel_rfl)) (fun _ _ _ h => h) (Or.inl ⟨by rfl, ?_⟩) ?_ ?_
    rotate_left
    · intro w'
      go_simp
      with_reducible rfl
    rotate_left
    · simp only [Act.put, List.setIfInBounds_toArray, List.set_cons_zero, List.set_cons_succ, i64_w, i32_w]
      rfl
    refine one_ (i := 16) (N := some 36) #[true, true, true, true, true, true, true, true, true, true, true, true, true, true, true, true, true, true, true, true, false, false, false, false, false, false, false, false, false, false, false, false] rfl rfl (one_of HT_.out (by kernel_rfl)) (by decide) (fun K hK => ?_)
    refine goes_ Try.func40 (by kernel_rfl) rfl #[.slice A n c, .slice B m d, .agg (e8 s)] (by rfl) rfl rfl (by (try simp only [List.map_toArray, List.map_cons, List.map_nil]); first | done | rfl) ?_
    with_reducible refine (Check_calls A B c d n m key txt s V HV.out v Hv.out HSL.out _ HN.out HM.out (Kd.C_below HR.out hHeld.1) (Kd.C_below HS.out hHeld.1) (by omega) (by omega)).mono ?_
    rintro e x8 ⟨rfl, hbx8⟩
    refine ⟨_, rfl, ?_⟩
    refine hK.out _ _ ⟨(below_then hHeld.1 (Below.size hHeld.1) hbx8), (below_then hHeld.2.1 (Below.size hHeld.2.1) hbx8), (below_then hHeld.2.2.1 (Below.size hHeld.2.2.1) hbx8), trivial⟩ (fun hHeld => ?_)
    clear hK K
    refine norm_ (a' := ?_) ?_ ?_
    rotate_left
    · show Act.put _ (some 36) _ = _
      simp only [Act.put, List.setIfInBounds_toArray, List.set_cons_zero, List.set_cons_succ, i64_w, i32_w]
      rfl
    refine pure_ (i := 20) (N := some 40) (v := ?_) (a' := ?_) #[true, true, true, true, true, true, true, true, true, true, true, true, true, true, true, true, true, true, true, true, true, false, false, false, false, false, false, false, false, false, false, false] rfl rfl (any_of HT_.out (by kernel_rfl)) (fun _ _ _ h => h) (Or.inl ⟨by rfl, ?_⟩) ?_ ?_
    rotate_left
    · intro w'
      go_simp
      with_reducible rfl
    rotate_left
    · simp only [Act.put, List.setIfInBounds_toArray, List.set_cons_zero, List.set_cons_succ, i64_w, i32_w]
      rfl
    refine pure_ (i := 21) (N := some 41) (v := ?_) (a' := ?_) #[true, true, true, true, true, true, true, true, true, true, true, true, true, true, true, true, true, true, true, true, true, true, false, false, false, false, false, false, false, false, false, false] rfl rfl (any_of HT_.out (by kernel_rfl)) (fun _ _ _ h => h) (Or.inl ⟨by rfl, ?_⟩) ?_ ?_
    rotate_left
    · intro w'
      go_simp
      with_reducible rfl
    rotate_left
    · simp only [Act.put, List.setIfInBounds_toArray, List.set_cons_zero, List.set_cons_succ, i64_w, i32_w]
      rfl
    refine pure_ (i := 22) (N := some 42) (v := ?_) (a' := ?_) #[true, true, true, true, true, true, true, true, true, true, true, true, true, true, true, true, true, true, true, true, true, true, true, false, false, false, false, false, false, false, false, false] rfl rfl (any_of HT_.out (by kernel_rfl)) (fun _ _ _ h => h) (Or.inl ⟨by rfl, ?_⟩) ?_ ?_
    rotate_left
    · intro w'
      go_simp
      with_reducible rfl
    rotate_left
    · simp only [Act.put, List.setIfInBounds_toArray, List.set_cons_zero, List.set_cons_succ, i64_w, i32_w]
      rfl
    refine pure_ (i := 23) (N := some 43) (v := ?_) (a' := ?_) #[true, true, true, true, true, true, true, true, true, true, true, true, true, true, true, true, true, true, true, true, true, true, true, true, false, false, false, false, false, false, false, false] rfl rfl (any_of HT_.out (by kernel_rfl)) (fun _ _ _ h => h) (Or.inl ⟨by rfl, ?_⟩) ?_ ?_
    rotate_left
    · intro w'
      go_simp
      with_reducible rfl
    rotate_left
    · simp only [Act.put, List.setIfInBounds_toArray, List.set_cons_zero, List.set_cons_succ, i64_w, i32_w]
      rfl
    refine pure_ (i := 24) (N := some 44) (v := ?_) (a' := ?_) #[true, true, true, true, true, true, true, true, true, true, true, true, true, true, true, true, true, true, true, true, true, true, true, true, true, false, false, false, false, false, false, false] rfl rfl (any_of HT_.out (by kernel_rfl)) (fun _ _ _ h => h) (Or.inl ⟨by rfl, ?_⟩) ?_ ?_
    rotate_left
    · intro w'
      go_simp
      with_reducible rfl
    rotate_left
    · simp only [Act.put, List.setIfInBounds_toArray, List.set_cons_zero, List.set_cons_succ, i64_w, i32_w]
      rfl
    refine take_ (i := 25) (N := some 45) (v := ?_) (a' := ?_) #[true, true, true, true, true, true, true, true, true, true, true, true, true, true, true, true, true, true, true, true, true, true, true, true, true, true, false, false, false, false, false, false] rfl rfl (take_ofW HT_.out HW_.out (by kernel_rfl)) (fun _ _ _ h => h) (Or.inl ⟨by rfl, ?_⟩) hHeld ?_ ?_
    rotate_left
    · intro w' s0
      refine Eq.trans (exec_load_row 51 (.tmp 7) (by rfl) g7 51 (e8 V) _ (by rfl) (blk_below B_g7_4.out s0.2.2.1) Try.underlying51 rfl HZ.out) ?_
      with_reducible rfl
    rotate_left
    · simp only [Act.put, List.setIfInBounds_toArray, List.set_cons_zero, List.set_cons_succ, i64_w, i32_w]
      rfl
    refine one_ (i := 26) (N := some 46) #[true, true, true, true, true, true, true, true, true, true, true, true, true, true, true, true, true, true, true, true, true, true, true, true, true, true, true, false, false, false, false, false] rfl rfl (one_of HT_.out (by kernel_rfl)) (by decide) (fun K hK => ?_)
    refine goes_ Try.func40 (by kernel_rfl) rfl #[.slice A n c, .slice B m d, .agg (e8 V)] (by rfl) rfl rfl (by (try simp only [List.map_toArray, List.map_cons, List.map_nil]); first | done | rfl) ?_
    with_reducible refine (Check_calls A B c d n m key txt V V HV.out true (beq_self_eq_true _).symm HVL.out _ HN.out HM.out (Kd.C_below HR.out hHeld.1) (Kd.C_below HS.out hHeld.1) (by omega) (by omega)).mono ?_
    rintro e x9 ⟨rfl, hbx9⟩
    refine ⟨_, rfl, ?_⟩
    refine hK.out _ _ ⟨(below_then hHeld.1 (Below.size hHeld.1) hbx9), (below_then hHeld.2.1 (Below.size hHeld.2.1) hbx9), (below_then hHeld.2.2.1 (Below.size hHeld.2.2.1) hbx9), trivial⟩ (fun hHeld => ?_)
    clear hK K
    refine norm_ (a' := ?_) ?_ ?_
    rotate_left
    · show Act.put _ (some 46) _ = _
      simp only [Act.put, List.setIfInBounds_toArray, List.set_cons_zero, List.set_cons_succ, i64_w, i32_w]
      rfl
    refine pure_ (i := 27) (N := some 47) (v := ?_) (a' := ?_) #[true, true, true, true, true, true, true, true, true, true, true, true, true, true, true, true, true, true, true, true, true, true, true, true, true, true, true, true, false, false, false, false] rfl rfl (any_of HT_.out (by kernel_rfl)) (fun _ _ _ h => h) (Or.inl ⟨by rfl, ?_⟩) ?_ ?_
    rotate_left
    · intro w'
      go_simp
      with_reducible rfl
    rotate_left
    · simp only [Act.put, List.setIfInBounds_toArray, List.set_cons_zero, List.set_cons_succ, i64_w, i32_w]
      rfl
    refine pure_ (i := 28) (N := some 48) (v := ?_) (a' := ?_) #[true, true, true, true, true, true, true, true, true, true, true, true, true, true, true, true, true, true, true, true, true, true, true, true, true, true, true, true, true, false, false, false] rfl rfl (any_of HT_.out (by kernel_rfl)) (fun _ _ _ h => h) (Or.inl ⟨by rfl, ?_⟩) ?_ ?_
    rotate_left
    · intro w'
      go_simp
      with_reducible rfl
    rotate_left
    · simp only [Act.put, List.setIfInBounds_toArray, List.set_cons_zero, List.set_cons_succ, i64_w, i32_w]
      rfl
    refine one_ (i := 29) (N := some 49) #[true, true, true, true, true, true, true, true, true, true, true, true, true, true, true, true, true, true, true, true, true, true, true, true, true, true, true, true, true, true, false, false] rfl rfl (one_of HT_.out (by kernel_rfl)) (by decide) (fun K hK => ?_)
    refine goes_ Try.func35 (by kernel_rfl) rfl #[] (by rfl) rfl rfl (by (try simp only [List.map_toArray, List.map_cons, List.map_nil]); first | done | rfl) ?_
    with_reducible refine (sure_calls _).mono ?_
    rintro e x10 ⟨rfl, hbx10⟩
    refine ⟨_, rfl, ?_⟩
    refine hK.out _ _ ⟨(below_then hHeld.1 (Below.size hHeld.1) hbx10), (below_then hHeld.2.1 (Below.size hHeld.2.1) hbx10), (below_then hHeld.2.2.1 (Below.size hHeld.2.2.1) hbx10), trivial⟩ (fun hHeld => ?_)
    clear hK K
    refine norm_ (a' := ?_) ?_ ?_
    rotate_left
    · show Act.put _ (some 49) _ = _
      simp only [Act.put, List.setIfInBounds_toArray, List.set_cons_zero, List.set_cons_succ, i64_w, i32_w]
      rfl
    refine pure_ (i := 30) (N := some 50) (v := ?_) (a' := ?_) #[true, true, true, true, true, true, true, true, true, true, true, true, true, true, true, true, true, true, true, true, true, true, true, true, true, true, true, true, true, true, true, false] rfl rfl (any_of HT_.out (by kernel_rfl)) (fun _ _ _ h => h) (Or.inl ⟨by rfl, ?_⟩) ?_ ?_
    rotate_left
    · intro w'
      go_simp
      with_reducible rfl
    rotate_left
    · simp only [Act.put, List.setIfInBounds_toArray, List.set_cons_zero, List.set_cons_succ, i64_w, i32_w]
      rfl
    refine pure_ (i := 31) (N := some 6) (v := ?_) (a' := ?_) #[true, true, true, true, true, true, true, true, true, true, true, true, true, true, true, true, true, true, true, true, true, true, true, true, true, true, true, true, true, true, true, true] rfl rfl (any_of HT_.out (by kernel_rfl)) (fun _ _ _ h => h) (Or.inl ⟨by rfl, ?_⟩) ?_ ?_
    rotate_left
    · intro w'
      go_simp
      with_reducible rfl
    rotate_left
    · simp only [Act.put, List.setIfInBounds_toArray, List.set_cons_zero, List.set_cons_succ, i64_w, i32_w]
      rfl
    refine done_ (done_of HT_.out (by kernel_rfl)) ?_
    have L5_w := Aside0.mk hHeld.1
    have L5_x1 := Aside0.mk hHeld.2.1
    have L5_x4 := Aside0.mk hHeld.2.2.1
    clear hHeld
    go_wp2
    go_ret
    exact ⟨rfl, L5_w.out⟩
  · have HB0 := Aside0.mk (show Below w.heap.size w (w.alloc (.cells (e8 s) 51)) from below_new _)
    by_cases h2 : n ≤ 300
    · have i1 : (n : Int) ≤ 300 := by omega
      have i2 : 400 < (m : Int) := by omega
      clear h1
      go_enter Try.func9, Try.ntmps9
      go_wp2_with (go_at_call 35; refine (sure_calls _).mono ?_; rintro e w1 ⟨rfl, hb1⟩; replace hb1 := Aside0.mk (below_then HB0.out HB0.out.size hb1))
      go_ret
      exact ⟨rfl, hb1.out⟩
    · have i1 : 300 < (n : Int) := by omega
      clear h1
      go_enter Try.func9, Try.ntmps9
      go_wp2_with (go_at_call 35; refine (sure_calls _).mono ?_; rintro e w1 ⟨rfl, hb1⟩; replace hb1 := Aside0.mk (below_then HB0.out HB0.out.size hb1))
      go_ret
      exact ⟨rfl, hb1.out⟩
end Go.Proofs.Ytpgighcobmaecaa.Mac
