/- The law ShaTexts: the walk. -/
import Derived.Test.YthmlidlnojdggaaDoorShaSums
set_option linter.unusedVariables false
set_option linter.unusedSimpArgs false
namespace Go.Proofs.YthmlidlnojdggaaDoor.Sha
open Go.RowKit Go.Proofs.YthmlidlnojdggaaDoorW.PrintWords Go.Proofs.YthmlidlnojdggaaDoorW.PrintLast

theorem Parse_z (l a : List UInt8) (e : Option Int) (ha : a = pv l) (he : e = pe l) (w : World) : Calls Tryd.prog 16 #[.string (strOf l)] w fun r w' => r = .returned (.tuple #[.agg (e8 a), errV e]) ∧ Below w.heap.size w w' := by
  subst ha he
  exact Parse_calls l w
theorem RefParse_z (l a : List UInt8) (e : Option Int) (ha : a = pv l) (he : e = pe l) (w : World) : Calls Tryd.prog 17 #[.string (strOf l)] w fun r w' => r = .returned (.tuple #[.agg (e8 a), .int .i64 (errN e)]) ∧ Below w.heap.size w w' := by
  subst ha he
  exact RefParse_calls l w
theorem Text_z (s X : List UInt8) (hX : X = hexOf s) (hs : s.length = 32) (w : World) : Calls Tryd.prog 18 #[.agg (e8 s)] w fun r w' => r = .returned (.string (strOf X)) ∧ Below w.heap.size w w' := by
  subst hX
  exact Text_calls s hs w
theorem RefText_z (s X : List UInt8) (hX : X = hexOf s) (hs : s.length = 32) (w : World) : Calls Tryd.prog 20 #[.agg (e8 s)] w fun r w' => r = .returned (.string (strOf X)) ∧ Below w.heap.size w w' := by
  subst hX
  exact RefText_calls s hs w
theorem Parse_back (s X : List UInt8) (hX : X = hexOf s) (hs : s.length = 32) (w : World) : Calls Tryd.prog 16 #[.string (strOf X)] w fun r w' => r = .returned (.tuple #[.agg (e8 s), .nilIface]) ∧ Below w.heap.size w w' := by
  have h := Parse_calls X w
  rw [hX, pv_hex s hs, pe_hex s hs] at h
  rw [hX]
  exact h
def f4_r6.T6 : Bool × List (List Nat × List Nat) := (true, [([], []), ([], []), ([0, 1], [0, 1]), ([2], [2]), ([3], [3]), ([4, 3, 3], [3, 4]), ([3], [3]), ([5, 6, 3], [3, 5, 6]), ([3, 7], [3, 7]), ([8, 5], [8]), ([9], [9]), ([10, 9, 9], [9, 10]), ([9], [9]), ([12, 11, 9], [9, 12]), ([11, 13, 9], [9, 11, 13]), ([9, 14], [9, 14]), ([15, 13], [15]), ([16], [16]), ([17, 16], [16, 17]), ([16, 18], [16, 18]), ([19, 16], [19]), ([20], [20]), ([20], [20]), ([21, 22, 20], [20, 21, 22]), ([20, 23], [20, 23]), ([24, 20], [24]), ([25], [25]), ([26, 25, 25], [25, 26]), ([25], [25]), ([28, 27, 25], [25, 28]), ([27, 29, 25], [25, 27, 29]), ([25], [25]), ([25], [25]), ([31, 32, 25], [25, 31, 32]), ([30, 33, 25], [25, 30, 33]), ([25, 34], [25, 34]), ([35, 29], [35]), ([36], [36]), ([37, 36], [36, 37]), ([38, 36, 36], [36, 38]), ([39], [39]), ([40, 39, 39], [39, 40]), ([39], [39]), ([41, 42, 39], [39, 41, 42]), ([39, 43, 36], [36, 39, 43]), ([36, 44], [36, 44]), ([45, 41], [45]), ([46, 46], [46]), ([46, 47], [46, 47]), ([48, 47, 0, 1, 2, 3, 4, 5, 6, 7, 8, 9, 10, 11, 12, 13, 14, 15, 16, 17, 18, 19, 20, 21, 22, 23, 24, 25, 26, 27, 28, 29, 30, 31, 32, 33, 34, 35, 36, 37, 38, 39, 40, 41, 42, 43, 44, 45, 46, 47, 48], [48])])
def f4_r6.B6 : List Nat := [0, 0, 3, 7, 15, 31, 15, 127, 255, 511, 1023, 2047, 1023, 8191, 16383, 32767, 65535, 131071, 262143, 524287, 1048575, 2097151, 2097151, 8388607, 16777215, 33554431, 67108863, 134217727, 67108863, 536870911, 1073741823, 67108863, 67108863, 6509559807, 17179869183, 34359738367, 68719476735, 137438953471, 274877906943, 549755813887, 1099511627775, 2199023255551, 1099511627775, 8796093022207, 17592186044415, 35184372088831, 70368744177663, 140737488355327, 281474976710655, 562949953421311]
theorem f4_r6.tab6 : Go.Proofs.YthmlidlnojdggaaDoorW.PrintLast.rtab .any (Go.Proofs.YthmlidlnojdggaaDoorW.PrintLast.opsOf Tryd.f4 6) = f4_r6.T6 := by kernel_rfl
theorem f4_r6.bits6 : Go.Proofs.YthmlidlnojdggaaDoorW.PrintLast.waitsOk f4_r6.T6.2 f4_r6.B6 = true := by kernel_rfl
set_option maxRecDepth 100000 in
set_option maxHeartbeats 8000000 in
theorem texts_calls (s t l : List UInt8) (hs : s.length = 32) (ht : t.length = 32) (w : World) (hL : ErrAs.Laid w) :
    Calls Tryd.prog 4 #[.agg (e8 s), .agg (e8 t), .string (strOf l)] w fun e w' => e = .returned (.bool true) ∧ Below w.heap.size w w' := by
  have HL := Aside0.mk hL
  clear hL
  by_cases h1 : (strOf l).size ≤ 300
  · have i1 : ((strOf l).size : Int) ≤ 300 := by omega
    obtain ⟨X, hX⟩ : ∃ X, X = hexOf s := ⟨_, rfl⟩
    obtain ⟨Y, hY⟩ : ∃ Y, Y = hexOf t := ⟨_, rfl⟩
    obtain ⟨v, hv⟩ : ∃ v, v = (s == t) := ⟨_, rfl⟩
    obtain ⟨a, ha⟩ : ∃ a, a = pv l := ⟨_, rfl⟩
    have hal : a.length = 32 := by rw [ha]; exact pv_len l
    have heqS := fun w => (eq32 s s hs hs w).trans (by rw [beq_self_eq_true])
    have heqA := fun w => (eq32 a a hal hal w).trans (by rw [beq_self_eq_true])
    have heqT := fun w => (eq32 s t hs ht w).trans (by rw [← hv])
    have hxx := seq_true (a := X) rfl
    have hll := seq_true (a := l) rfl
    have hxy : ((strOf X).toList == (strOf Y).toList) = v := by
      rw [str_beq, hX, hY, hv]
      rw [Bool.eq_iff_iff, beq_iff_eq, beq_iff_eq]
      exact ⟨fun h => hex_inj hs ht h, fun h => by rw [h]⟩
    have hvv : (v == v) = true := by cases v <;> rfl
    have HZA := Aside0.mk (sz32 a hal)
    have HZS := Aside0.mk (sz32 s hs)
    have HZT := Aside0.mk (sz32 t ht)
    have HOA := Aside0.mk (show (e8 (List.replicate 32 0)).size = (e8 a).size by rw [e8_size, e8_size, hal]; rfl)
    have HOS := Aside0.mk (show (e8 (List.replicate 32 0)).size = (e8 s).size by rw [e8_size, e8_size, hs]; rfl)
    have HX := Aside0.mk hX
    have HY := Aside0.mk hY
    have HA := Aside0.mk ha
    have HSL := Aside0.mk hs
    have HTL := Aside0.mk ht
    clear hX hY hv ha hal hs ht
    by_cases hg : Good l
    · have HE := Aside0.mk (show none = pe l by rw [pe, if_pos hg])
      have HB := Aside0.mk (show l = hexOf a by rw [HA.out, hex_pv l hg])
      have HAL := Aside0.mk (show a.length = 32 by rw [HA.out]; exact pv_len l)
      have hen := errV_none
      clear hg
      go_enter Tryd.func4, Tryd.ntmps4
      go_wp2_with (first
        | ((with_reducible refine at_box_ (d := some 3) ?_); (refine wpList_make_ (t := 24) ((e8 s)) (fun g => .pointer (some ⟨g, 0, none⟩)) (by rfl) ?_ ?_); (first | (go_simp; done) | (unfold execOp; go_simp; done) | (go_simp; constructor <;> rfl) | (go_simp; rfl) | rfl); intro g3 x1 hge_g3 B_g3 hbx1; replace B_g3 := Aside0.mk B_g3; have hz1 := Below.size hbx1; replace hbx1 := Aside0.mk hbx1)
        | ((with_reducible refine at_box_ (d := some 4) ?_); (refine wpList_make_ (t := 24) ((e8 t)) (fun g => .pointer (some ⟨g, 0, none⟩)) (by rfl) ?_ ?_); (first | (go_simp; done) | (unfold execOp; go_simp; done) | (go_simp; constructor <;> rfl) | (go_simp; rfl) | rfl); intro g4 x2 hge_g4 B_g4 hbx2; replace B_g4 := Aside0.mk B_g4; have L2_w := Aside0.mk (below_then hbx1.out (Below.size hbx1.out) hbx2); have hz2 := Below.size hbx2; replace hbx2 := Aside0.mk hbx2)
        | (go_at_call 16; (with_reducible refine (Parse_z l a none HA.out HE.out x2).mono ?_); rintro e x3 ⟨rfl, hbx3⟩; have L3_w := Aside0.mk (below_then L2_w.out (Below.size L2_w.out) hbx3); have L3_x1 := Aside0.mk (below_then hbx2.out (Below.size hbx2.out) hbx3); have hz3 := Below.size hbx3; replace hbx3 := Aside0.mk hbx3)
        | ((with_reducible refine at_alloc_ (d := some 7) ?_); (refine wpList_make_ (t := 24) ((e8 (List.replicate 32 0))) (fun g => .pointer (some ⟨g, 0, none⟩)) (by rfl) ?_ ?_); (first | (go_simp; done) | (unfold execOp; go_simp; done) | (go_simp; constructor <;> rfl) | (go_simp; rfl) | rfl); intro g7 x4 hge_g7 B_g7 hbx4; replace B_g7 := Aside0.mk B_g7; have L4_w := Aside0.mk (below_then L3_w.out (Below.size L3_w.out) hbx4); have L4_x1 := Aside0.mk (below_then L3_x1.out (Below.size L3_x1.out) hbx4); have L4_x2 := Aside0.mk (below_then hbx3.out (Below.size hbx3.out) hbx4); have hz4 := Below.size hbx4; replace hbx4 := Aside0.mk hbx4)
        | ((with_reducible refine at_store_ (x := .tmp 7) ?_); (refine wpList_store_row rfl 24 _ _ rfl g7 (e8 a) _ 24 rfl rfl B_g7.out HZA.out HOA.out (e8_one _) ?_); generalize hWx5 : World.setRow x4 _ _ = x5; have L5_w := Aside0.mk (show Below w.heap.size w x5 by rw [← hWx5]; exact below_setRow L4_w.out (by omega) _); have hzL5_w := Below.size L5_w.out; have L5_x1 := Aside0.mk (show Below x1.heap.size x1 x5 by rw [← hWx5]; exact below_setRow L4_x1.out (by omega) _); have hzL5_x1 := Below.size L5_x1.out; have L5_x2 := Aside0.mk (show Below x2.heap.size x2 x5 by rw [← hWx5]; exact below_setRow L4_x2.out (by omega) _); have hzL5_x2 := Below.size L5_x2.out; have B_g7_5 := Aside0.mk (show Blk x5 g7 24 (e8 a) by rw [← hWx5]; exact blk_setRow B_g7.out _); clear hWx5)
        | (go_at_call 17; (with_reducible refine (RefParse_z l a none HA.out HE.out x5).mono ?_); rintro e x6 ⟨rfl, hbx6⟩; have L6_w := Aside0.mk (below_then L5_w.out (Below.size L5_w.out) hbx6); have L6_x1 := Aside0.mk (below_then L5_x1.out (Below.size L5_x1.out) hbx6); have L6_x2 := Aside0.mk (below_then L5_x2.out (Below.size L5_x2.out) hbx6); have hz6 := Below.size hbx6; replace hbx6 := Aside0.mk hbx6)
        | ((with_reducible refine at_alloc_ (d := some 9) ?_); (refine wpList_make_ (t := 24) ((e8 (List.replicate 32 0))) (fun g => .pointer (some ⟨g, 0, none⟩)) (by rfl) ?_ ?_); (first | (go_simp; done) | (unfold execOp; go_simp; done) | (go_simp; constructor <;> rfl) | (go_simp; rfl) | rfl); intro g9 x7 hge_g9 B_g9 hbx7; replace B_g9 := Aside0.mk B_g9; have L7_w := Aside0.mk (below_then L6_w.out (Below.size L6_w.out) hbx7); have L7_x1 := Aside0.mk (below_then L6_x1.out (Below.size L6_x1.out) hbx7); have L7_x2 := Aside0.mk (below_then L6_x2.out (Below.size L6_x2.out) hbx7); have L7_x5 := Aside0.mk (below_then hbx6.out (Below.size hbx6.out) hbx7); have hz7 := Below.size hbx7; replace hbx7 := Aside0.mk hbx7)
        | ((with_reducible refine at_store_ (x := .tmp 9) ?_); (refine wpList_store_row rfl 24 _ _ rfl g9 (e8 a) _ 24 rfl rfl B_g9.out HZA.out HOA.out (e8_one _) ?_); generalize hWx8 : World.setRow x7 _ _ = x8; have L8_w := Aside0.mk (show Below w.heap.size w x8 by rw [← hWx8]; exact below_setRow L7_w.out (by omega) _); have hzL8_w := Below.size L8_w.out; have L8_x1 := Aside0.mk (show Below x1.heap.size x1 x8 by rw [← hWx8]; exact below_setRow L7_x1.out (by omega) _); have hzL8_x1 := Below.size L8_x1.out; have L8_x2 := Aside0.mk (show Below x2.heap.size x2 x8 by rw [← hWx8]; exact below_setRow L7_x2.out (by omega) _); have hzL8_x2 := Below.size L8_x2.out; have L8_x5 := Aside0.mk (show Below x5.heap.size x5 x8 by rw [← hWx8]; exact below_setRow L7_x5.out (by omega) _); have hzL8_x5 := Below.size L8_x5.out; have B_g9_8 := Aside0.mk (show Blk x8 g9 24 (e8 a) by rw [← hWx8]; exact blk_setRow B_g9.out _); clear hWx8)
        | ((with_reducible refine at_load_ (x := .tmp 3) ?_); (refine wpList_value (by rfl) (exec_load_row 24 (.tmp 3) rfl g3 24 (e8 s) _ rfl (blk_below B_g3.out L8_x1.out) Tryd.underlying24 rfl HZS.out) ?_))
        | (go_at_call 18; (with_reducible refine (Text_z s X HX.out HSL.out x8).mono ?_); rintro e x9 ⟨rfl, hbx9⟩; have L9_w := Aside0.mk (below_then L8_w.out (Below.size L8_w.out) hbx9); have L9_x1 := Aside0.mk (below_then L8_x1.out (Below.size L8_x1.out) hbx9); have L9_x2 := Aside0.mk (below_then L8_x2.out (Below.size L8_x2.out) hbx9); have L9_x5 := Aside0.mk (below_then L8_x5.out (Below.size L8_x5.out) hbx9); have hz9 := Below.size hbx9; replace hbx9 := Aside0.mk hbx9)
        | (go_at_call 16; (with_reducible refine (Parse_back s X HX.out HSL.out x9).mono ?_); rintro e x10 ⟨rfl, hbx10⟩; have L10_w := Aside0.mk (below_then L9_w.out (Below.size L9_w.out) hbx10); have L10_x1 := Aside0.mk (below_then L9_x1.out (Below.size L9_x1.out) hbx10); have L10_x2 := Aside0.mk (below_then L9_x2.out (Below.size L9_x2.out) hbx10); have L10_x5 := Aside0.mk (below_then L9_x5.out (Below.size L9_x5.out) hbx10); have L10_x8 := Aside0.mk (below_then hbx9.out (Below.size hbx9.out) hbx10); have hz10 := Below.size hbx10; replace hbx10 := Aside0.mk hbx10)
        | ((with_reducible refine at_alloc_ (d := some 11) ?_); (refine wpList_make_ (t := 24) ((e8 (List.replicate 32 0))) (fun g => .pointer (some ⟨g, 0, none⟩)) (by rfl) ?_ ?_); (first | (go_simp; done) | (unfold execOp; go_simp; done) | (go_simp; constructor <;> rfl) | (go_simp; rfl) | rfl); intro g11 x11 hge_g11 B_g11 hbx11; replace B_g11 := Aside0.mk B_g11; have L11_w := Aside0.mk (below_then L10_w.out (Below.size L10_w.out) hbx11); have L11_x1 := Aside0.mk (below_then L10_x1.out (Below.size L10_x1.out) hbx11); have L11_x2 := Aside0.mk (below_then L10_x2.out (Below.size L10_x2.out) hbx11); have L11_x5 := Aside0.mk (below_then L10_x5.out (Below.size L10_x5.out) hbx11); have L11_x8 := Aside0.mk (below_then L10_x8.out (Below.size L10_x8.out) hbx11); have hz11 := Below.size hbx11; replace hbx11 := Aside0.mk hbx11)
        | ((with_reducible refine at_store_ (x := .tmp 11) ?_); (refine wpList_store_row rfl 24 _ _ rfl g11 (e8 s) _ 24 rfl rfl B_g11.out HZS.out HOS.out (e8_one _) ?_); generalize hWx12 : World.setRow x11 _ _ = x12; have L12_w := Aside0.mk (show Below w.heap.size w x12 by rw [← hWx12]; exact below_setRow L11_w.out (by omega) _); have hzL12_w := Below.size L12_w.out; have L12_x1 := Aside0.mk (show Below x1.heap.size x1 x12 by rw [← hWx12]; exact below_setRow L11_x1.out (by omega) _); have hzL12_x1 := Below.size L12_x1.out; have L12_x2 := Aside0.mk (show Below x2.heap.size x2 x12 by rw [← hWx12]; exact below_setRow L11_x2.out (by omega) _); have hzL12_x2 := Below.size L12_x2.out; have L12_x5 := Aside0.mk (show Below x5.heap.size x5 x12 by rw [← hWx12]; exact below_setRow L11_x5.out (by omega) _); have hzL12_x5 := Below.size L12_x5.out; have L12_x8 := Aside0.mk (show Below x8.heap.size x8 x12 by rw [← hWx12]; exact below_setRow L11_x8.out (by omega) _); have hzL12_x8 := Below.size L12_x8.out; have B_g11_12 := Aside0.mk (show Blk x12 g11 24 (e8 s) by rw [← hWx12]; exact blk_setRow B_g11.out _); clear hWx12))
      refine start_ (n := 50) (S := fun w' => Below w.heap.size w w' ∧ Below x1.heap.size x1 w' ∧ Below x2.heap.size x2 w' ∧ Below x5.heap.size x5 w' ∧ Below x8.heap.size x8 w' ∧ Below x12.heap.size x12 w' ∧ True) (ds := []) #[false, false, false, false, false, false, false, false, false, false, false, false, false, false, false, false, false, false, false, false, false, false, false, false, false, false, false, false, false, false, false, false, false, false, false, false, false, false, false, false, false, false, false, false, false, false, false, false, false, false] (by kernel_rfl) rfl rfl ⟨below_drew L12_w.out, below_drew L12_x1.out, below_drew L12_x2.out, below_drew L12_x5.out, below_drew L12_x8.out, below_drew (Below.refl _ _), trivial⟩ (fun hHeld => ?_)
      refine with_tabW f4_r6.tab6 f4_r6.bits6 (fun HT_ HW_ => ?_)
      refine take_ (i := 0) (N := some 33) (v := ?_) (a' := ?_) #[true, false, false, false, false, false, false, false, false, false, false, false, false, false, false, false, false, false, false, false, false, false, false, false, false, false, false, false, false, false, false, false, false, false, false, false, false, false, false, false, false, false, false, false, false, false, false, false, false, false] rfl rfl (take_ofW HT_.out HW_.out (by kernel_rfl)) (fun _ _ _ h => h) (Or.inl ⟨by rfl, ?_⟩) hHeld ?_ ?_
      rotate_left
      · intro w' s0
        refine Eq.trans (exec_load_row 24 (.tmp 7) (by rfl) g7 24 (e8 a) _ (by rfl) (blk_below B_g7_5.out s0.2.2.2.1) Tryd.underlying24 rfl HZA.out) ?_
        with_reducible rfl
      rotate_left
      · simp only [Act.put, List.setIfInBounds_toArray, List.set_cons_zero, List.set_cons_succ, i64_w, i32_w]
        rfl
      refine take_ (i := 1) (N := some 34) (v := ?_) (a' := ?_) #[true, true, false, false, false, false, false, false, false, false, false, false, false, false, false, false, false, false, false, false, false, false, false, false, false, false, false, false, false, false, false, false, false, false, false, false, false, false, false, false, false, false, false, false, false, false, false, false, false, false] rfl rfl (take_ofW HT_.out HW_.out (by kernel_rfl)) (fun _ _ _ h => h) (Or.inl ⟨by rfl, ?_⟩) hHeld ?_ ?_
      rotate_left
      · intro w' s0
        refine Eq.trans (exec_load_row 24 (.tmp 9) (by rfl) g9 24 (e8 a) _ (by rfl) (blk_below B_g9_8.out s0.2.2.2.2.1) Tryd.underlying24 rfl HZA.out) ?_
        with_reducible rfl
      rotate_left
      · simp only [Act.put, List.setIfInBounds_toArray, List.set_cons_zero, List.set_cons_succ, i64_w, i32_w]
        rfl
      refine pure_ (i := 2) (N := some 35) (v := ?_) (a' := ?_) #[true, true, true, false, false, false, false, false, false, false, false, false, false, false, false, false, false, false, false, false, false, false, false, false, false, false, false, false, false, false, false, false, false, false, false, false, false, false, false, false, false, false, false, false, false, false, false, false, false, false] rfl rfl (any_of HT_.out (by kernel_rfl)) (fun _ _ _ h => h) (Or.inl ⟨by rfl, ?_⟩) ?_ ?_
      rotate_left
      · intro w'
        go_simp
        with_reducible rfl
      rotate_left
      · simp only [Act.put, List.setIfInBounds_toArray, List.set_cons_zero, List.set_cons_succ, i64_w, i32_w]
        rfl
      refine pure_ (i := 3) (N := some 36) (v := ?_) (a' := ?_) #[true, true, true, true, false, false, false, false, false, false, false, false, false, false, false, false, false, false, false, false, false, false, false, false, false, false, false, false, false, false, false, false, false, false, false, false, false, false, false, false, false, false, false, false, false, false, false, false, false, false] rfl rfl (any_of HT_.out (by kernel_rfl)) (fun _ _ _ h => h) (Or.inl ⟨by rfl, ?_⟩) ?_ ?_
      rotate_left
      · intro w'
        go_simp
        with_reducible rfl
      rotate_left
      · simp only [Act.put, List.setIfInBounds_toArray, List.set_cons_zero, List.set_cons_succ, i64_w, i32_w]
        rfl
      refine pure_ (i := 4) (N := some 37) (v := ?_) (a' := ?_) #[true, true, true, true, true, false, false, false, false, false, false, false, false, false, false, false, false, false, false, false, false, false, false, false, false, false, false, false, false, false, false, false, false, false, false, false, false, false, false, false, false, false, false, false, false, false, false, false, false, false] rfl rfl (any_of HT_.out (by kernel_rfl)) (fun _ _ _ h => h) (Or.inl ⟨by rfl, ?_⟩) ?_ ?_
      rotate_left
      · intro w'
        go_simp
        with_reducible rfl
      rotate_left
      · simp only [Act.put, List.setIfInBounds_toArray, List.set_cons_zero, List.set_cons_succ, i64_w, i32_w]
        rfl
      refine pure_ (i := 6) (N := some 39) (v := ?_) (a' := ?_) #[true, true, true, true, true, false, true, false, false, false, false, false, false, false, false, false, false, false, false, false, false, false, false, false, false, false, false, false, false, false, false, false, false, false, false, false, false, false, false, false, false, false, false, false, false, false, false, false, false, false] rfl rfl (any_of HT_.out (by kernel_rfl)) (fun _ _ _ h => h) (Or.inl ⟨by rfl, ?_⟩) ?_ ?_
      rotate_left
      · intro w'
        go_simp
        with_reducible rfl
      rotate_left
      · simp only [Act.put, List.setIfInBounds_toArray, List.set_cons_zero, List.set_cons_succ, i64_w, i32_w]
        rfl
      refine one_ (i := 5) (N := some 38) #[true, true, true, true, true, true, true, false, false, false, false, false, false, false, false, false, false, false, false, false, false, false, false, false, false, false, false, false, false, false, false, false, false, false, false, false, false, false, false, false, false, false, false, false, false, false, false, false, false, false] rfl rfl (one_of HT_.out (by kernel_rfl)) (by decide) (fun K hK => ?_)
      refine goes_ Tryd.func19 (by kernel_rfl) rfl #[errV none] (by rfl) rfl rfl (by (try simp only [List.map_toArray, List.map_cons, List.map_nil]); first | done | rfl) ?_
      with_reducible refine (caucuslaw05.num_calls none _ (ErrAs.Laid.below HL.out hHeld.1)).mono ?_
      rintro e x13 ⟨rfl, hbx13⟩
      refine ⟨_, rfl, ?_⟩
      refine hK.out _ _ ⟨(below_then hHeld.1 (Below.size hHeld.1) hbx13), (below_then hHeld.2.1 (Below.size hHeld.2.1) hbx13), (below_then hHeld.2.2.1 (Below.size hHeld.2.2.1) hbx13), (below_then hHeld.2.2.2.1 (Below.size hHeld.2.2.2.1) hbx13), (below_then hHeld.2.2.2.2.1 (Below.size hHeld.2.2.2.2.1) hbx13), (below_then hHeld.2.2.2.2.2.1 (Below.size hHeld.2.2.2.2.2.1) hbx13), trivial⟩ (fun hHeld => ?_)
      clear hK K
      refine norm_ (a' := ?_) ?_ ?_
      rotate_left
      · show Act.put _ (some 38) _ = _
        simp only [Act.put, List.setIfInBounds_toArray, List.set_cons_zero, List.set_cons_succ, i64_w, i32_w]
        rfl
      refine pure_ (i := 7) (N := some 40) (v := ?_) (a' := ?_) #[true, true, true, true, true, true, true, true, false, false, false, false, false, false, false, false, false, false, false, false, false, false, false, false, false, false, false, false, false, false, false, false, false, false, false, false, false, false, false, false, false, false, false, false, false, false, false, false, false, false] rfl rfl (any_of HT_.out (by kernel_rfl)) (fun _ _ _ h => h) (Or.inl ⟨by rfl, ?_⟩) ?_ ?_
      rotate_left
      · intro w'
        go_simp
        with_reducible rfl
      rotate_left
      · simp only [Act.put, List.setIfInBounds_toArray, List.set_cons_zero, List.set_cons_succ, i64_w, i32_w]
        rfl
      refine pure_ (i := 8) (N := some 41) (v := ?_) (a' := ?_) #[true, true, true, true, true, true, true, true, true, false, false, false, false, false, false, false, false, false, false, false, false, false, false, false, false, false, false, false, false, false, false, false, false, false, false, false, false, false, false, false, false, false, false, false, false, false, false, false, false, false] rfl rfl (any_of HT_.out (by kernel_rfl)) (fun _ _ _ h => h) (Or.inl ⟨by rfl, ?_⟩) ?_ ?_
      rotate_left
      · intro w'
        go_simp
        with_reducible rfl
      rotate_left
      · simp only [Act.put, List.setIfInBounds_toArray, List.set_cons_zero, List.set_cons_succ, i64_w, i32_w]
        rfl
      refine pure_ (i := 9) (N := some 42) (v := ?_) (a' := ?_) #[true, true, true, true, true, true, true, true, true, true, false, false, false, false, false, false, false, false, false, false, false, false, false, false, false, false, false, false, false, false, false, false, false, false, false, false, false, false, false, false, false, false, false, false, false, false, false, false, false, false] rfl rfl (any_of HT_.out (by kernel_rfl)) (fun _ _ _ h => h) (Or.inl ⟨by rfl, ?_⟩) ?_ ?_
      rotate_left
      · intro w'
        go_simp
        with_reducible rfl
      rotate_left
      · simp only [Act.put, List.setIfInBounds_toArray, List.set_cons_zero, List.set_cons_succ, i64_w, i32_w]
        rfl
      refine take_ (i := 10) (N := some 43) (v := ?_) (a' := ?_) #[true, true, true, true, true, true, true, true, true, true, true, false, false, false, false, false, false, false, false, false, false, false, false, false, false, false, false, false, false, false, false, false, false, false, false, false, false, false, false, false, false, false, false, false, false, false, false, false, false, false] rfl rfl (take_ofW HT_.out HW_.out (by kernel_rfl)) (fun _ _ _ h => h) (Or.inl ⟨by rfl, ?_⟩) hHeld ?_ ?_
      rotate_left
      · intro w' s0
        refine Eq.trans (exec_load_row 24 (.tmp 3) (by rfl) g3 24 (e8 s) _ (by rfl) (blk_below B_g3.out s0.2.1) Tryd.underlying24 rfl HZS.out) ?_
        with_reducible rfl
      rotate_left
      · simp only [Act.put, List.setIfInBounds_toArray, List.set_cons_zero, List.set_cons_succ, i64_w, i32_w]
        rfl
      refine take_ (i := 12) (N := some 45) (v := ?_) (a' := ?_) #[true, true, true, true, true, true, true, true, true, true, true, false, true, false, false, false, false, false, false, false, false, false, false, false, false, false, false, false, false, false, false, false, false, false, false, false, false, false, false, false, false, false, false, false, false, false, false, false, false, false] rfl rfl (take_ofW HT_.out HW_.out (by kernel_rfl)) (fun _ _ _ h => h) (Or.inl ⟨by rfl, ?_⟩) hHeld ?_ ?_
      rotate_left
      · intro w' s0
        refine Eq.trans (exec_load_row 24 (.tmp 3) (by rfl) g3 24 (e8 s) _ (by rfl) (blk_below B_g3.out s0.2.1) Tryd.underlying24 rfl HZS.out) ?_
        with_reducible rfl
      rotate_left
      · simp only [Act.put, List.setIfInBounds_toArray, List.set_cons_zero, List.set_cons_succ, i64_w, i32_w]
        rfl
      refine one_ (i := 11) (N := some 44) #[true, true, true, true, true, true, true, true, true, true, true, true, true, false, false, false, false, false, false, false, false, false, false, false, false, false, false, false, false, false, false, false, false, false, false, false, false, false, false, false, false, false, false, false, false, false, false, false, false, false] rfl rfl (one_of HT_.out (by kernel_rfl)) (by decide) (fun K hK => ?_)
      refine goes_ Tryd.func18 (by kernel_rfl) rfl #[.agg (e8 s)] (by rfl) rfl rfl (by (try simp only [List.map_toArray, List.map_cons, List.map_nil]); first | done | rfl) ?_
      with_reducible refine (Text_z s X HX.out HSL.out _).mono ?_
      rintro e x14 ⟨rfl, hbx14⟩
      refine ⟨_, rfl, ?_⟩
      refine hK.out _ _ ⟨(below_then hHeld.1 (Below.size hHeld.1) hbx14), (below_then hHeld.2.1 (Below.size hHeld.2.1) hbx14), (below_then hHeld.2.2.1 (Below.size hHeld.2.2.1) hbx14), (below_then hHeld.2.2.2.1 (Below.size hHeld.2.2.2.1) hbx14), (below_then hHeld.2.2.2.2.1 (Below.size hHeld.2.2.2.2.1) hbx14), (below_then hHeld.2.2.2.2.2.1 (Below.size hHeld.2.2.2.2.2.1) hbx14), trivial⟩ (fun hHeld => ?_)
      clear hK K
      refine norm_ (a' := ?_) ?_ ?_
      rotate_left
      · show Act.put _ (some 44) _ = _
        simp only [Act.put, List.setIfInBounds_toArray, List.set_cons_zero, List.set_cons_succ, i64_w, i32_w]
        rfl
      refine one_ (i := 13) (N := some 46) #[true, true, true, true, true, true, true, true, true, true, true, true, true, true, false, false, false, false, false, false, false, false, false, false, false, false, false, false, false, false, false, false, false, false, false, false, false, false, false, false, false, false, false, false, false, false, false, false, false, false] rfl rfl (one_of HT_.out (by kernel_rfl)) (by decide) (fun K hK => ?_)
      refine goes_ Tryd.func20 (by kernel_rfl) rfl #[.agg (e8 s)] (by rfl) rfl rfl (by (try simp only [List.map_toArray, List.map_cons, List.map_nil]); first | done | rfl) ?_
      with_reducible refine (RefText_z s X HX.out HSL.out _).mono ?_
      rintro e x15 ⟨rfl, hbx15⟩
      refine ⟨_, rfl, ?_⟩
      refine hK.out _ _ ⟨(below_then hHeld.1 (Below.size hHeld.1) hbx15), (below_then hHeld.2.1 (Below.size hHeld.2.1) hbx15), (below_then hHeld.2.2.1 (Below.size hHeld.2.2.1) hbx15), (below_then hHeld.2.2.2.1 (Below.size hHeld.2.2.2.1) hbx15), (below_then hHeld.2.2.2.2.1 (Below.size hHeld.2.2.2.2.1) hbx15), (below_then hHeld.2.2.2.2.2.1 (Below.size hHeld.2.2.2.2.2.1) hbx15), trivial⟩ (fun hHeld => ?_)
      clear hK K
      refine norm_ (a' := ?_) ?_ ?_
      rotate_left
      · show Act.put _ (some 46) _ = _
        simp only [Act.put, List.setIfInBounds_toArray, List.set_cons_zero, List.set_cons_succ, i64_w, i32_w]
        rfl
      refine pure_ (i := 14) (N := some 47) (v := ?_) (a' := ?_) #[true, true, true, true, true, true, true, true, true, true, true, true, true, true, true, false, false, false, false, false, false, false, false, false, false, false, false, false, false, false, false, false, false, false, false, false, false, false, false, false, false, false, false, false, false, false, false, false, false, false] rfl rfl (any_of HT_.out (by kernel_rfl)) (fun _ _ _ h => h) (Or.inl ⟨by rfl, ?_⟩) ?_ ?_
      rotate_left
      · intro w'
        go_simp
        with_reducible rfl
      rotate_left
      · simp only [Act.put, List.setIfInBounds_toArray, List.set_cons_zero, List.set_cons_succ, i64_w, i32_w]
        rfl
      refine pure_ (i := 15) (N := some 48) (v := ?_) (a' := ?_) #[true, true, true, true, true, true, true, true, true, true, true, true, true, true, true, true, false, false, false, false, false, false, false, false, false, false, false, false, false, false, false, false, false, false, false, false, false, false, false, false, false, false, false, false, false, false, false, false, false, false] rfl rfl (any_of HT_.out (by kernel_rfl)) (fun _ _ _ h => h) (Or.inl ⟨by rfl, ?_⟩) ?_ ?_
      rotate_left
      · intro w'
        go_simp
        with_reducible rfl
      rotate_left
      · simp only [Act.put, List.setIfInBounds_toArray, List.set_cons_zero, List.set_cons_succ, i64_w, i32_w]
        rfl
      refine pure_ (i := 16) (N := some 49) (v := ?_) (a' := ?_) #[true, true, true, true, true, true, true, true, true, true, true, true, true, true, true, true, true, false, false, false, false, false, false, false, false, false, false, false, false, false, false, false, false, false, false, false, false, false, false, false, false, false, false, false, false, false, false, false, false, false] rfl rfl (any_of HT_.out (by kernel_rfl)) (fun _ _ _ h => h) (Or.inl ⟨by rfl, ?_⟩) ?_ ?_
      rotate_left
      · intro w'
        go_simp
        with_reducible rfl
      rotate_left
      · simp only [Act.put, List.setIfInBounds_toArray, List.set_cons_zero, List.set_cons_succ, i64_w, i32_w]
        rfl
      refine pure_ (i := 17) (N := some 50) (v := ?_) (a' := ?_) #[true, true, true, true, true, true, true, true, true, true, true, true, true, true, true, true, true, true, false, false, false, false, false, false, false, false, false, false, false, false, false, false, false, false, false, false, false, false, false, false, false, false, false, false, false, false, false, false, false, false] rfl rfl (any_of HT_.out (by kernel_rfl)) (fun _ _ _ h => h) (Or.inl ⟨by rfl, ?_⟩) ?_ ?_
      rotate_left
      · intro w'
        go_simp
        with_reducible rfl
      rotate_left
      · simp only [Act.put, List.setIfInBounds_toArray, List.set_cons_zero, List.set_cons_succ, i64_w, i32_w]
        rfl
      refine pure_ (i := 18) (N := some 51) (v := ?_) (a' := ?_) #[true, true, true, true, true, true, true, true, true, true, true, true, true, true, true, true, true, true, true, false, false, false, false, false, false, false, false, false, false, false, false, false, false, false, false, false, false, false, false, false, false, false, false, false, false, false, false, false, false, false] rfl rfl (any_of HT_.out (by kernel_rfl)) (fun _ _ _ h => h) (Or.inl ⟨by rfl, ?_⟩) ?_ ?_
      rotate_left
      · intro w'
        go_simp
        with_reducible rfl
      rotate_left
      · simp only [Act.put, List.setIfInBounds_toArray, List.set_cons_zero, List.set_cons_succ, i64_w, i32_w]
        rfl
      refine pure_ (i := 19) (N := some 52) (v := ?_) (a' := ?_) #[true, true, true, true, true, true, true, true, true, true, true, true, true, true, true, true, true, true, true, true, false, false, false, false, false, false, false, false, false, false, false, false, false, false, false, false, false, false, false, false, false, false, false, false, false, false, false, false, false, false] rfl rfl (any_of HT_.out (by kernel_rfl)) (fun _ _ _ h => h) (Or.inl ⟨by rfl, ?_⟩) ?_ ?_
      rotate_left
      · intro w'
        go_simp
        with_reducible rfl
      rotate_left
      · simp only [Act.put, List.setIfInBounds_toArray, List.set_cons_zero, List.set_cons_succ, i64_w, i32_w]
        rfl
      refine pure_ (i := 20) (N := some 53) (v := ?_) (a' := ?_) #[true, true, true, true, true, true, true, true, true, true, true, true, true, true, true, true, true, true, true, true, true, false, false, false, false, false, false, false, false, false, false, false, false, false, false, false, false, false, false, false, false, false, false, false, false, false, false, false, false, false] rfl rfl (any_of HT_.out (by kernel_rfl)) (fun _ _ _ h => h) (Or.inl ⟨by rfl, ?_⟩) ?_ ?_
      rotate_left
      · intro w'
        go_simp
        with_reducible rfl
      rotate_left
      · simp only [Act.put, List.setIfInBounds_toArray, List.set_cons_zero, List.set_cons_succ, i64_w, i32_w]
        rfl
      refine take_ (i := 21) (N := some 54) (v := ?_) (a' := ?_) #[true, true, true, true, true, true, true, true, true, true, true, true, true, true, true, true, true, true, true, true, true, true, false, false, false, false, false, false, false, false, false, false, false, false, false, false, false, false, false, false, false, false, false, false, false, false, false, false, false, false] rfl rfl (take_ofW HT_.out HW_.out (by kernel_rfl)) (fun _ _ _ h => h) (Or.inl ⟨by rfl, ?_⟩) hHeld ?_ ?_
      rotate_left
      · intro w' s0
        refine Eq.trans (exec_load_row 24 (.tmp 11) (by rfl) g11 24 (e8 s) _ (by rfl) (blk_below B_g11_12.out s0.2.2.2.2.2.1) Tryd.underlying24 rfl HZS.out) ?_
        with_reducible rfl
      rotate_left
      · simp only [Act.put, List.setIfInBounds_toArray, List.set_cons_zero, List.set_cons_succ, i64_w, i32_w]
        rfl
      refine take_ (i := 22) (N := some 55) (v := ?_) (a' := ?_) #[true, true, true, true, true, true, true, true, true, true, true, true, true, true, true, true, true, true, true, true, true, true, true, false, false, false, false, false, false, false, false, false, false, false, false, false, false, false, false, false, false, false, false, false, false, false, false, false, false, false] rfl rfl (take_ofW HT_.out HW_.out (by kernel_rfl)) (fun _ _ _ h => h) (Or.inl ⟨by rfl, ?_⟩) hHeld ?_ ?_
      rotate_left
      · intro w' s0
        refine Eq.trans (exec_load_row 24 (.tmp 3) (by rfl) g3 24 (e8 s) _ (by rfl) (blk_below B_g3.out s0.2.1) Tryd.underlying24 rfl HZS.out) ?_
        with_reducible rfl
      rotate_left
      · simp only [Act.put, List.setIfInBounds_toArray, List.set_cons_zero, List.set_cons_succ, i64_w, i32_w]
        rfl
      refine pure_ (i := 23) (N := some 56) (v := ?_) (a' := ?_) #[true, true, true, true, true, true, true, true, true, true, true, true, true, true, true, true, true, true, true, true, true, true, true, true, false, false, false, false, false, false, false, false, false, false, false, false, false, false, false, false, false, false, false, false, false, false, false, false, false, false] rfl rfl (any_of HT_.out (by kernel_rfl)) (fun _ _ _ h => h) (Or.inl ⟨by rfl, ?_⟩) ?_ ?_
      rotate_left
      · intro w'
        go_simp
        with_reducible rfl
      rotate_left
      · simp only [Act.put, List.setIfInBounds_toArray, List.set_cons_zero, List.set_cons_succ, i64_w, i32_w]
        rfl
      refine pure_ (i := 24) (N := some 57) (v := ?_) (a' := ?_) #[true, true, true, true, true, true, true, true, true, true, true, true, true, true, true, true, true, true, true, true, true, true, true, true, true, false, false, false, false, false, false, false, false, false, false, false, false, false, false, false, false, false, false, false, false, false, false, false, false, false] rfl rfl (any_of HT_.out (by kernel_rfl)) (fun _ _ _ h => h) (Or.inl ⟨by rfl, ?_⟩) ?_ ?_
      rotate_left
      · intro w'
        go_simp
        with_reducible rfl
      rotate_left
      · simp only [Act.put, List.setIfInBounds_toArray, List.set_cons_zero, List.set_cons_succ, i64_w, i32_w]
        rfl
      refine pure_ (i := 25) (N := some 58) (v := ?_) (a' := ?_) #[true, true, true, true, true, true, true, true, true, true, true, true, true, true, true, true, true, true, true, true, true, true, true, true, true, true, false, false, false, false, false, false, false, false, false, false, false, false, false, false, false, false, false, false, false, false, false, false, false, false] rfl rfl (any_of HT_.out (by kernel_rfl)) (fun _ _ _ h => h) (Or.inl ⟨by rfl, ?_⟩) ?_ ?_
      rotate_left
      · intro w'
        go_simp
        with_reducible rfl
      rotate_left
      · simp only [Act.put, List.setIfInBounds_toArray, List.set_cons_zero, List.set_cons_succ, i64_w, i32_w]
        rfl
      refine take_ (i := 26) (N := some 59) (v := ?_) (a' := ?_) #[true, true, true, true, true, true, true, true, true, true, true, true, true, true, true, true, true, true, true, true, true, true, true, true, true, true, true, false, false, false, false, false, false, false, false, false, false, false, false, false, false, false, false, false, false, false, false, false, false, false] rfl rfl (take_ofW HT_.out HW_.out (by kernel_rfl)) (fun _ _ _ h => h) (Or.inl ⟨by rfl, ?_⟩) hHeld ?_ ?_
      rotate_left
      · intro w' s0
        refine Eq.trans (exec_load_row 24 (.tmp 3) (by rfl) g3 24 (e8 s) _ (by rfl) (blk_below B_g3.out s0.2.1) Tryd.underlying24 rfl HZS.out) ?_
        with_reducible rfl
      rotate_left
      · simp only [Act.put, List.setIfInBounds_toArray, List.set_cons_zero, List.set_cons_succ, i64_w, i32_w]
        rfl
      refine take_ (i := 28) (N := some 61) (v := ?_) (a' := ?_) #[true, true, true, true, true, true, true, true, true, true, true, true, true, true, true, true, true, true, true, true, true, true, true, true, true, true, true, false, true, false, false, false, false, false, false, false, false, false, false, false, false, false, false, false, false, false, false, false, false, false] rfl rfl (take_ofW HT_.out HW_.out (by kernel_rfl)) (fun _ _ _ h => h) (Or.inl ⟨by rfl, ?_⟩) hHeld ?_ ?_
      rotate_left
      · intro w' s0
        refine Eq.trans (exec_load_row 24 (.tmp 4) (by rfl) g4 24 (e8 t) _ (by rfl) (blk_below B_g4.out s0.2.2.1) Tryd.underlying24 rfl HZT.out) ?_
        with_reducible rfl
      rotate_left
      · simp only [Act.put, List.setIfInBounds_toArray, List.set_cons_zero, List.set_cons_succ, i64_w, i32_w]
        rfl
      refine take_ (i := 31) (N := some 64) (v := ?_) (a' := ?_) #[true, true, true, true, true, true, true, true, true, true, true, true, true, true, true, true, true, true, true, true, true, true, true, true, true, true, true, false, true, false, false, true, false, false, false, false, false, false, false, false, false, false, false, false, false, false, false, false, false, false] rfl rfl (take_ofW HT_.out HW_.out (by kernel_rfl)) (fun _ _ _ h => h) (Or.inl ⟨by rfl, ?_⟩) hHeld ?_ ?_
      rotate_left
      · intro w' s0
        refine Eq.trans (exec_load_row 24 (.tmp 3) (by rfl) g3 24 (e8 s) _ (by rfl) (blk_below B_g3.out s0.2.1) Tryd.underlying24 rfl HZS.out) ?_
        with_reducible rfl
      rotate_left
      · simp only [Act.put, List.setIfInBounds_toArray, List.set_cons_zero, List.set_cons_succ, i64_w, i32_w]
        rfl
      refine take_ (i := 32) (N := some 65) (v := ?_) (a' := ?_) #[true, true, true, true, true, true, true, true, true, true, true, true, true, true, true, true, true, true, true, true, true, true, true, true, true, true, true, false, true, false, false, true, true, false, false, false, false, false, false, false, false, false, false, false, false, false, false, false, false, false] rfl rfl (take_ofW HT_.out HW_.out (by kernel_rfl)) (fun _ _ _ h => h) (Or.inl ⟨by rfl, ?_⟩) hHeld ?_ ?_
      rotate_left
      · intro w' s0
        refine Eq.trans (exec_load_row 24 (.tmp 4) (by rfl) g4 24 (e8 t) _ (by rfl) (blk_below B_g4.out s0.2.2.1) Tryd.underlying24 rfl HZT.out) ?_
        with_reducible rfl
      rotate_left
      · simp only [Act.put, List.setIfInBounds_toArray, List.set_cons_zero, List.set_cons_succ, i64_w, i32_w]
        rfl
      refine pure_ (i := 33) (N := some 66) (v := ?_) (a' := ?_) #[true, true, true, true, true, true, true, true, true, true, true, true, true, true, true, true, true, true, true, true, true, true, true, true, true, true, true, false, true, false, false, true, true, true, false, false, false, false, false, false, false, false, false, false, false, false, false, false, false, false] rfl rfl (any_of HT_.out (by kernel_rfl)) (fun _ _ _ h => h) (Or.inl ⟨by rfl, ?_⟩) ?_ ?_
      rotate_left
      · intro w'
        go_simp
        with_reducible rfl
      rotate_left
      · simp only [Act.put, List.setIfInBounds_toArray, List.set_cons_zero, List.set_cons_succ, i64_w, i32_w]
        rfl
      refine one_ (i := 27) (N := some 60) #[true, true, true, true, true, true, true, true, true, true, true, true, true, true, true, true, true, true, true, true, true, true, true, true, true, true, true, true, true, false, false, true, true, true, false, false, false, false, false, false, false, false, false, false, false, false, false, false, false, false] rfl rfl (one_of HT_.out (by kernel_rfl)) (by decide) (fun K hK => ?_)
      refine goes_ Tryd.func18 (by kernel_rfl) rfl #[.agg (e8 s)] (by rfl) rfl rfl (by (try simp only [List.map_toArray, List.map_cons, List.map_nil]); first | done | rfl) ?_
      with_reducible refine (Text_z s X HX.out HSL.out _).mono ?_
      rintro e x16 ⟨rfl, hbx16⟩
      refine ⟨_, rfl, ?_⟩
      refine hK.out _ _ ⟨(below_then hHeld.1 (Below.size hHeld.1) hbx16), (below_then hHeld.2.1 (Below.size hHeld.2.1) hbx16), (below_then hHeld.2.2.1 (Below.size hHeld.2.2.1) hbx16), (below_then hHeld.2.2.2.1 (Below.size hHeld.2.2.2.1) hbx16), (below_then hHeld.2.2.2.2.1 (Below.size hHeld.2.2.2.2.1) hbx16), (below_then hHeld.2.2.2.2.2.1 (Below.size hHeld.2.2.2.2.2.1) hbx16), trivial⟩ (fun hHeld => ?_)
      clear hK K
      refine norm_ (a' := ?_) ?_ ?_
      rotate_left
      · show Act.put _ (some 60) _ = _
        simp only [Act.put, List.setIfInBounds_toArray, List.set_cons_zero, List.set_cons_succ, i64_w, i32_w]
        rfl
      refine one_ (i := 29) (N := some 62) #[true, true, true, true, true, true, true, true, true, true, true, true, true, true, true, true, true, true, true, true, true, true, true, true, true, true, true, true, true, true, false, true, true, true, false, false, false, false, false, false, false, false, false, false, false, false, false, false, false, false] rfl rfl (one_of HT_.out (by kernel_rfl)) (by decide) (fun K hK => ?_)
      refine goes_ Tryd.func18 (by kernel_rfl) rfl #[.agg (e8 t)] (by rfl) rfl rfl (by (try simp only [List.map_toArray, List.map_cons, List.map_nil]); first | done | rfl) ?_
      with_reducible refine (Text_z t Y HY.out HTL.out _).mono ?_
      rintro e x17 ⟨rfl, hbx17⟩
      refine ⟨_, rfl, ?_⟩
      refine hK.out _ _ ⟨(below_then hHeld.1 (Below.size hHeld.1) hbx17), (below_then hHeld.2.1 (Below.size hHeld.2.1) hbx17), (below_then hHeld.2.2.1 (Below.size hHeld.2.2.1) hbx17), (below_then hHeld.2.2.2.1 (Below.size hHeld.2.2.2.1) hbx17), (below_then hHeld.2.2.2.2.1 (Below.size hHeld.2.2.2.2.1) hbx17), (below_then hHeld.2.2.2.2.2.1 (Below.size hHeld.2.2.2.2.2.1) hbx17), trivial⟩ (fun hHeld => ?_)
      clear hK K
      refine norm_ (a' := ?_) ?_ ?_
      rotate_left
      · show Act.put _ (some 62) _ = _
        simp only [Act.put, List.setIfInBounds_toArray, List.set_cons_zero, List.set_cons_succ, i64_w, i32_w]
        rfl
      refine pure_ (i := 30) (N := some 63) (v := ?_) (a' := ?_) #[true, true, true, true, true, true, true, true, true, true, true, true, true, true, true, true, true, true, true, true, true, true, true, true, true, true, true, true, true, true, true, true, true, true, false, false, false, false, false, false, false, false, false, false, false, false, false, false, false, false] rfl rfl (any_of HT_.out (by kernel_rfl)) (fun _ _ _ h => h) (Or.inl ⟨by rfl, ?_⟩) ?_ ?_
      rotate_left
      · intro w'
        go_simp
        with_reducible rfl
      rotate_left
      · simp only [Act.put, List.setIfInBounds_toArray, List.set_cons_zero, List.set_cons_succ, i64_w, i32_w]
        rfl
      refine pure_ (i := 34) (N := some 67) (v := ?_) (a' := ?_) #[true, true, true, true, true, true, true, true, true, true, true, true, true, true, true, true, true, true, true, true, true, true, true, true, true, true, true, true, true, true, true, true, true, true, true, false, false, false, false, false, false, false, false, false, false, false, false, false, false, false] rfl rfl (any_of HT_.out (by kernel_rfl)) (fun _ _ _ h => h) (Or.inl ⟨by rfl, ?_⟩) ?_ ?_
      rotate_left
      · intro w'
        go_simp
        with_reducible rfl
      rotate_left
      · simp only [Act.put, List.setIfInBounds_toArray, List.set_cons_zero, List.set_cons_succ, i64_w, i32_w]
        rfl
      refine pure_ (i := 35) (N := some 68) (v := ?_) (a' := ?_) #[true, true, true, true, true, true, true, true, true, true, true, true, true, true, true, true, true, true, true, true, true, true, true, true, true, true, true, true, true, true, true, true, true, true, true, true, false, false, false, false, false, false, false, false, false, false, false, false, false, false] rfl rfl (any_of HT_.out (by kernel_rfl)) (fun _ _ _ h => h) (Or.inl ⟨by rfl, ?_⟩) ?_ ?_
      rotate_left
      · intro w'
        go_simp
        with_reducible rfl
      rotate_left
      · simp only [Act.put, List.setIfInBounds_toArray, List.set_cons_zero, List.set_cons_succ, i64_w, i32_w]
        rfl
      refine pure_ (i := 36) (N := some 69) (v := ?_) (a' := ?_) #[true, true, true, true, true, true, true, true, true, true, true, true, true, true, true, true, true, true, true, true, true, true, true, true, true, true, true, true, true, true, true, true, true, true, true, true, true, false, false, false, false, false, false, false, false, false, false, false, false, false] rfl rfl (any_of HT_.out (by kernel_rfl)) (fun _ _ _ h => h) (Or.inl ⟨by rfl, ?_⟩) ?_ ?_
      rotate_left
      · intro w'
        go_simp
        with_reducible rfl
      rotate_left
      · simp only [Act.put, List.setIfInBounds_toArray, List.set_cons_zero, List.set_cons_succ, i64_w, i32_w]
        rfl
      refine pure_ (i := 37) (N := some 70) (v := ?_) (a' := ?_) #[true, true, true, true, true, true, true, true, true, true, true, true, true, true, true, true, true, true, true, true, true, true, true, true, true, true, true, true, true, true, true, true, true, true, true, true, true, true, false, false, false, false, false, false, false, false, false, false, false, false] rfl rfl (any_of HT_.out (by kernel_rfl)) (fun _ _ _ h => h) (Or.inl ⟨by rfl, ?_⟩) ?_ ?_
      rotate_left
      · intro w'
        go_simp
        with_reducible rfl
      rotate_left
      · simp only [Act.put, List.setIfInBounds_toArray, List.set_cons_zero, List.set_cons_succ, i64_w, i32_w]
        rfl
      refine pure_ (i := 38) (N := some 71) (v := ?_) (a' := ?_) #[true, true, true, true, true, true, true, true, true, true, true, true, true, true, true, true, true, true, true, true, true, true, true, true, true, true, true, true, true, true, true, true, true, true, true, true, true, true, true, false, false, false, false, false, false, false, false, false, false, false] rfl rfl (any_of HT_.out (by kernel_rfl)) (fun _ _ _ h => h) (Or.inl ⟨by rfl, ?_⟩) ?_ ?_
      rotate_left
      · intro w'
        go_simp
        with_reducible rfl
      rotate_left
      · simp only [Act.put, List.setIfInBounds_toArray, List.set_cons_zero, List.set_cons_succ, i64_w, i32_w]
        rfl
      refine pure_ (i := 39) (N := some 72) (v := ?_) (a' := ?_) #[true, true, true, true, true, true, true, true, true, true, true, true, true, true, true, true, true, true, true, true, true, true, true, true, true, true, true, true, true, true, true, true, true, true, true, true, true, true, true, true, false, false, false, false, false, false, false, false, false, false] rfl rfl (any_of HT_.out (by kernel_rfl)) (fun _ _ _ h => h) (Or.inl ⟨by rfl, ?_⟩) ?_ ?_
      rotate_left
      · intro w'
        go_simp
        with_reducible rfl
      rotate_left
      · simp only [Act.put, List.setIfInBounds_toArray, List.set_cons_zero, List.set_cons_succ, i64_w, i32_w]
        rfl
      refine pure_ (i := 42) (N := some 75) (v := ?_) (a' := ?_) #[true, true, true, true, true, true, true, true, true, true, true, true, true, true, true, true, true, true, true, true, true, true, true, true, true, true, true, true, true, true, true, true, true, true, true, true, true, true, true, true, false, false, true, false, false, false, false, false, false, false] rfl rfl (any_of HT_.out (by kernel_rfl)) (fun _ _ _ h => h) (Or.inl ⟨by rfl, ?_⟩) ?_ ?_
      rotate_left
      · intro w'
        go_simp
        with_reducible rfl
      rotate_left
      · simp only [Act.put, List.setIfInBounds_toArray, List.set_cons_zero, List.set_cons_succ, i64_w, i32_w]
        rfl
      refine take_ (i := 40) (N := some 73) (v := ?_) (a' := ?_) #[true, true, true, true, true, true, true, true, true, true, true, true, true, true, true, true, true, true, true, true, true, true, true, true, true, true, true, true, true, true, true, true, true, true, true, true, true, true, true, true, true, false, true, false, false, false, false, false, false, false] rfl rfl (take_ofW HT_.out HW_.out (by kernel_rfl)) (fun _ _ _ h => h) (Or.inl ⟨by rfl, ?_⟩) hHeld ?_ ?_
      rotate_left
      · intro w' s0
        refine Eq.trans (exec_load_row 24 (.tmp 7) (by rfl) g7 24 (e8 a) _ (by rfl) (blk_below B_g7_5.out s0.2.2.2.1) Tryd.underlying24 rfl HZA.out) ?_
        with_reducible rfl
      rotate_left
      · simp only [Act.put, List.setIfInBounds_toArray, List.set_cons_zero, List.set_cons_succ, i64_w, i32_w]
        rfl
      refine one_ (i := 41) (N := some 74) #[true, true, true, true, true, true, true, true, true, true, true, true, true, true, true, true, true, true, true, true, true, true, true, true, true, true, true, true, true, true, true, true, true, true, true, true, true, true, true, true, true, true, true, false, false, false, false, false, false, false] rfl rfl (one_of HT_.out (by kernel_rfl)) (by decide) (fun K hK => ?_)
      refine goes_ Tryd.func18 (by kernel_rfl) rfl #[.agg (e8 a)] (by rfl) rfl rfl (by (try simp only [List.map_toArray, List.map_cons, List.map_nil]); first | done | rfl) ?_
      with_reducible refine (Text_z a l HB.out HAL.out _).mono ?_
      rintro e x18 ⟨rfl, hbx18⟩
      refine ⟨_, rfl, ?_⟩
      refine hK.out _ _ ⟨(below_then hHeld.1 (Below.size hHeld.1) hbx18), (below_then hHeld.2.1 (Below.size hHeld.2.1) hbx18), (below_then hHeld.2.2.1 (Below.size hHeld.2.2.1) hbx18), (below_then hHeld.2.2.2.1 (Below.size hHeld.2.2.2.1) hbx18), (below_then hHeld.2.2.2.2.1 (Below.size hHeld.2.2.2.2.1) hbx18), (below_then hHeld.2.2.2.2.2.1 (Below.size hHeld.2.2.2.2.2.1) hbx18), trivial⟩ (fun hHeld => ?_)
      clear hK K
      refine norm_ (a' := ?_) ?_ ?_
      rotate_left
      · show Act.put _ (some 74) _ = _
        simp only [Act.put, List.setIfInBounds_toArray, List.set_cons_zero, List.set_cons_succ, i64_w, i32_w]
        rfl
      refine pure_ (i := 43) (N := some 76) (v := ?_) (a' := ?_) #[true, true, true, true, true, true, true, true, true, true, true, true, true, true, true, true, true, true, true, true, true, true, true, true, true, true, true, true, true, true, true, true, true, true, true, true, true, true, true, true, true, true, true, true, false, false, false, false, false, false] rfl rfl (any_of HT_.out (by kernel_rfl)) (fun _ _ _ h => h) (Or.inl ⟨by rfl, ?_⟩) ?_ ?_
      rotate_left
      · intro w'
        go_simp
        with_reducible rfl
      rotate_left
      · simp only [Act.put, List.setIfInBounds_toArray, List.set_cons_zero, List.set_cons_succ, i64_w, i32_w]
        rfl
      refine pure_ (i := 44) (N := some 77) (v := ?_) (a' := ?_) #[true, true, true, true, true, true, true, true, true, true, true, true, true, true, true, true, true, true, true, true, true, true, true, true, true, true, true, true, true, true, true, true, true, true, true, true, true, true, true, true, true, true, true, true, true, false, false, false, false, false] rfl rfl (any_of HT_.out (by kernel_rfl)) (fun _ _ _ h => h) (Or.inl ⟨by rfl, ?_⟩) ?_ ?_
      rotate_left
      · intro w'
        go_simp
        with_reducible rfl
      rotate_left
      · simp only [Act.put, List.setIfInBounds_toArray, List.set_cons_zero, List.set_cons_succ, i64_w, i32_w]
        rfl
      refine pure_ (i := 45) (N := some 78) (v := ?_) (a' := ?_) #[true, true, true, true, true, true, true, true, true, true, true, true, true, true, true, true, true, true, true, true, true, true, true, true, true, true, true, true, true, true, true, true, true, true, true, true, true, true, true, true, true, true, true, true, true, true, false, false, false, false] rfl rfl (any_of HT_.out (by kernel_rfl)) (fun _ _ _ h => h) (Or.inl ⟨by rfl, ?_⟩) ?_ ?_
      rotate_left
      · intro w'
        go_simp
        with_reducible rfl
      rotate_left
      · simp only [Act.put, List.setIfInBounds_toArray, List.set_cons_zero, List.set_cons_succ, i64_w, i32_w]
        rfl
      refine pure_ (i := 46) (N := some 79) (v := ?_) (a' := ?_) #[true, true, true, true, true, true, true, true, true, true, true, true, true, true, true, true, true, true, true, true, true, true, true, true, true, true, true, true, true, true, true, true, true, true, true, true, true, true, true, true, true, true, true, true, true, true, true, false, false, false] rfl rfl (any_of HT_.out (by kernel_rfl)) (fun _ _ _ h => h) (Or.inl ⟨by rfl, ?_⟩) ?_ ?_
      rotate_left
      · intro w'
        go_simp
        with_reducible rfl
      rotate_left
      · simp only [Act.put, List.setIfInBounds_toArray, List.set_cons_zero, List.set_cons_succ, i64_w, i32_w]
        rfl
      refine one_ (i := 47) (N := some 80) #[true, true, true, true, true, true, true, true, true, true, true, true, true, true, true, true, true, true, true, true, true, true, true, true, true, true, true, true, true, true, true, true, true, true, true, true, true, true, true, true, true, true, true, true, true, true, true, true, false, false] rfl rfl (one_of HT_.out (by kernel_rfl)) (by decide) (fun K hK => ?_)
      refine goes_ Tryd.func13 (by kernel_rfl) rfl #[] (by rfl) rfl rfl (by (try simp only [List.map_toArray, List.map_cons, List.map_nil]); first | done | rfl) ?_
      with_reducible refine (sure_calls _ (ErrAs.Laid.below HL.out hHeld.1)).mono ?_
      rintro e x19 ⟨rfl, hbx19⟩
      refine ⟨_, rfl, ?_⟩
      refine hK.out _ _ ⟨(below_then hHeld.1 (Below.size hHeld.1) hbx19), (below_then hHeld.2.1 (Below.size hHeld.2.1) hbx19), (below_then hHeld.2.2.1 (Below.size hHeld.2.2.1) hbx19), (below_then hHeld.2.2.2.1 (Below.size hHeld.2.2.2.1) hbx19), (below_then hHeld.2.2.2.2.1 (Below.size hHeld.2.2.2.2.1) hbx19), (below_then hHeld.2.2.2.2.2.1 (Below.size hHeld.2.2.2.2.2.1) hbx19), trivial⟩ (fun hHeld => ?_)
      clear hK K
      refine norm_ (a' := ?_) ?_ ?_
      rotate_left
      · show Act.put _ (some 80) _ = _
        simp only [Act.put, List.setIfInBounds_toArray, List.set_cons_zero, List.set_cons_succ, i64_w, i32_w]
        rfl
      refine pure_ (i := 48) (N := some 81) (v := ?_) (a' := ?_) #[true, true, true, true, true, true, true, true, true, true, true, true, true, true, true, true, true, true, true, true, true, true, true, true, true, true, true, true, true, true, true, true, true, true, true, true, true, true, true, true, true, true, true, true, true, true, true, true, true, false] rfl rfl (any_of HT_.out (by kernel_rfl)) (fun _ _ _ h => h) (Or.inl ⟨by rfl, ?_⟩) ?_ ?_
      rotate_left
      · intro w'
        go_simp
        with_reducible rfl
      rotate_left
      · simp only [Act.put, List.setIfInBounds_toArray, List.set_cons_zero, List.set_cons_succ, i64_w, i32_w]
        rfl
      refine pure_ (i := 49) (N := some 6) (v := ?_) (a' := ?_) #[true, true, true, true, true, true, true, true, true, true, true, true, true, true, true, true, true, true, true, true, true, true, true, true, true, true, true, true, true, true, true, true, true, true, true, true, true, true, true, true, true, true, true, true, true, true, true, true, true, true] rfl rfl (any_of HT_.out (by kernel_rfl)) (fun _ _ _ h => h) (Or.inl ⟨by rfl, ?_⟩) ?_ ?_
      rotate_left
      · intro w'
        go_simp
        with_reducible rfl
      rotate_left
      · simp only [Act.put, List.setIfInBounds_toArray, List.set_cons_zero, List.set_cons_succ, i64_w, i32_w]
        rfl
      refine done_ (done_of HT_.out (by kernel_rfl)) ?_
      have L13_w := Aside0.mk hHeld.1
      have L13_x1 := Aside0.mk hHeld.2.1
      have L13_x2 := Aside0.mk hHeld.2.2.1
      have L13_x5 := Aside0.mk hHeld.2.2.2.1
      have L13_x8 := Aside0.mk hHeld.2.2.2.2.1
      have L13_x12 := Aside0.mk hHeld.2.2.2.2.2.1
      clear hHeld
      go_wp2
      go_ret
      exact ⟨rfl, L13_w.out⟩
    · have HE := Aside0.mk (show some 3 = pe l by rw [pe, if_neg hg])
      have hes := errV_some 3
      clear hg
      go_enter Tryd.func4, Tryd.ntmps4
      go_wp2_with (first
        | ((with_reducible refine at_box_ (d := some 3) ?_); (refine wpList_make_ (t := 24) ((e8 s)) (fun g => .pointer (some ⟨g, 0, none⟩)) (by rfl) ?_ ?_); (first | (go_simp; done) | (unfold execOp; go_simp; done) | (go_simp; constructor <;> rfl) | (go_simp; rfl) | rfl); intro g3 y1 hge_g3 B_g3 hby1; replace B_g3 := Aside0.mk B_g3; have hz14 := Below.size hby1; replace hby1 := Aside0.mk hby1)
        | ((with_reducible refine at_box_ (d := some 4) ?_); (refine wpList_make_ (t := 24) ((e8 t)) (fun g => .pointer (some ⟨g, 0, none⟩)) (by rfl) ?_ ?_); (first | (go_simp; done) | (unfold execOp; go_simp; done) | (go_simp; constructor <;> rfl) | (go_simp; rfl) | rfl); intro g4 y2 hge_g4 B_g4 hby2; replace B_g4 := Aside0.mk B_g4; have L15_w := Aside0.mk (below_then hby1.out (Below.size hby1.out) hby2); have hz15 := Below.size hby2; replace hby2 := Aside0.mk hby2)
        | (go_at_call 16; (with_reducible refine (Parse_z l a (some 3) HA.out HE.out y2).mono ?_); rintro e y3 ⟨rfl, hby3⟩; have L16_w := Aside0.mk (below_then L15_w.out (Below.size L15_w.out) hby3); have L16_y1 := Aside0.mk (below_then hby2.out (Below.size hby2.out) hby3); have hz16 := Below.size hby3; replace hby3 := Aside0.mk hby3)
        | ((with_reducible refine at_alloc_ (d := some 7) ?_); (refine wpList_make_ (t := 24) ((e8 (List.replicate 32 0))) (fun g => .pointer (some ⟨g, 0, none⟩)) (by rfl) ?_ ?_); (first | (go_simp; done) | (unfold execOp; go_simp; done) | (go_simp; constructor <;> rfl) | (go_simp; rfl) | rfl); intro g7 y4 hge_g7 B_g7 hby4; replace B_g7 := Aside0.mk B_g7; have L17_w := Aside0.mk (below_then L16_w.out (Below.size L16_w.out) hby4); have L17_y1 := Aside0.mk (below_then L16_y1.out (Below.size L16_y1.out) hby4); have L17_y2 := Aside0.mk (below_then hby3.out (Below.size hby3.out) hby4); have hz17 := Below.size hby4; replace hby4 := Aside0.mk hby4)
        | ((with_reducible refine at_store_ (x := .tmp 7) ?_); (refine wpList_store_row rfl 24 _ _ rfl g7 (e8 a) _ 24 rfl rfl B_g7.out HZA.out HOA.out (e8_one _) ?_); generalize hWy5 : World.setRow y4 _ _ = y5; have L18_w := Aside0.mk (show Below w.heap.size w y5 by rw [← hWy5]; exact below_setRow L17_w.out (by omega) _); have hzL18_w := Below.size L18_w.out; have L18_y1 := Aside0.mk (show Below y1.heap.size y1 y5 by rw [← hWy5]; exact below_setRow L17_y1.out (by omega) _); have hzL18_y1 := Below.size L18_y1.out; have L18_y2 := Aside0.mk (show Below y2.heap.size y2 y5 by rw [← hWy5]; exact below_setRow L17_y2.out (by omega) _); have hzL18_y2 := Below.size L18_y2.out; have B_g7_18 := Aside0.mk (show Blk y5 g7 24 (e8 a) by rw [← hWy5]; exact blk_setRow B_g7.out _); clear hWy5)
        | (go_at_call 17; (with_reducible refine (RefParse_z l a (some 3) HA.out HE.out y5).mono ?_); rintro e y6 ⟨rfl, hby6⟩; have L19_w := Aside0.mk (below_then L18_w.out (Below.size L18_w.out) hby6); have L19_y1 := Aside0.mk (below_then L18_y1.out (Below.size L18_y1.out) hby6); have L19_y2 := Aside0.mk (below_then L18_y2.out (Below.size L18_y2.out) hby6); have hz19 := Below.size hby6; replace hby6 := Aside0.mk hby6)
        | ((with_reducible refine at_alloc_ (d := some 9) ?_); (refine wpList_make_ (t := 24) ((e8 (List.replicate 32 0))) (fun g => .pointer (some ⟨g, 0, none⟩)) (by rfl) ?_ ?_); (first | (go_simp; done) | (unfold execOp; go_simp; done) | (go_simp; constructor <;> rfl) | (go_simp; rfl) | rfl); intro g9 y7 hge_g9 B_g9 hby7; replace B_g9 := Aside0.mk B_g9; have L20_w := Aside0.mk (below_then L19_w.out (Below.size L19_w.out) hby7); have L20_y1 := Aside0.mk (below_then L19_y1.out (Below.size L19_y1.out) hby7); have L20_y2 := Aside0.mk (below_then L19_y2.out (Below.size L19_y2.out) hby7); have L20_y5 := Aside0.mk (below_then hby6.out (Below.size hby6.out) hby7); have hz20 := Below.size hby7; replace hby7 := Aside0.mk hby7)
        | ((with_reducible refine at_store_ (x := .tmp 9) ?_); (refine wpList_store_row rfl 24 _ _ rfl g9 (e8 a) _ 24 rfl rfl B_g9.out HZA.out HOA.out (e8_one _) ?_); generalize hWy8 : World.setRow y7 _ _ = y8; have L21_w := Aside0.mk (show Below w.heap.size w y8 by rw [← hWy8]; exact below_setRow L20_w.out (by omega) _); have hzL21_w := Below.size L21_w.out; have L21_y1 := Aside0.mk (show Below y1.heap.size y1 y8 by rw [← hWy8]; exact below_setRow L20_y1.out (by omega) _); have hzL21_y1 := Below.size L21_y1.out; have L21_y2 := Aside0.mk (show Below y2.heap.size y2 y8 by rw [← hWy8]; exact below_setRow L20_y2.out (by omega) _); have hzL21_y2 := Below.size L21_y2.out; have L21_y5 := Aside0.mk (show Below y5.heap.size y5 y8 by rw [← hWy8]; exact below_setRow L20_y5.out (by omega) _); have hzL21_y5 := Below.size L21_y5.out; have B_g9_21 := Aside0.mk (show Blk y8 g9 24 (e8 a) by rw [← hWy8]; exact blk_setRow B_g9.out _); clear hWy8)
        | ((with_reducible refine at_load_ (x := .tmp 3) ?_); (refine wpList_value (by rfl) (exec_load_row 24 (.tmp 3) rfl g3 24 (e8 s) _ rfl (blk_below B_g3.out L21_y1.out) Tryd.underlying24 rfl HZS.out) ?_))
        | (go_at_call 18; (with_reducible refine (Text_z s X HX.out HSL.out y8).mono ?_); rintro e y9 ⟨rfl, hby9⟩; have L22_w := Aside0.mk (below_then L21_w.out (Below.size L21_w.out) hby9); have L22_y1 := Aside0.mk (below_then L21_y1.out (Below.size L21_y1.out) hby9); have L22_y2 := Aside0.mk (below_then L21_y2.out (Below.size L21_y2.out) hby9); have L22_y5 := Aside0.mk (below_then L21_y5.out (Below.size L21_y5.out) hby9); have hz22 := Below.size hby9; replace hby9 := Aside0.mk hby9)
        | (go_at_call 16; (with_reducible refine (Parse_back s X HX.out HSL.out y9).mono ?_); rintro e y10 ⟨rfl, hby10⟩; have L23_w := Aside0.mk (below_then L22_w.out (Below.size L22_w.out) hby10); have L23_y1 := Aside0.mk (below_then L22_y1.out (Below.size L22_y1.out) hby10); have L23_y2 := Aside0.mk (below_then L22_y2.out (Below.size L22_y2.out) hby10); have L23_y5 := Aside0.mk (below_then L22_y5.out (Below.size L22_y5.out) hby10); have L23_y8 := Aside0.mk (below_then hby9.out (Below.size hby9.out) hby10); have hz23 := Below.size hby10; replace hby10 := Aside0.mk hby10)
        | ((with_reducible refine at_alloc_ (d := some 11) ?_); (refine wpList_make_ (t := 24) ((e8 (List.replicate 32 0))) (fun g => .pointer (some ⟨g, 0, none⟩)) (by rfl) ?_ ?_); (first | (go_simp; done) | (unfold execOp; go_simp; done) | (go_simp; constructor <;> rfl) | (go_simp; rfl) | rfl); intro g11 y11 hge_g11 B_g11 hby11; replace B_g11 := Aside0.mk B_g11; have L24_w := Aside0.mk (below_then L23_w.out (Below.size L23_w.out) hby11); have L24_y1 := Aside0.mk (below_then L23_y1.out (Below.size L23_y1.out) hby11); have L24_y2 := Aside0.mk (below_then L23_y2.out (Below.size L23_y2.out) hby11); have L24_y5 := Aside0.mk (below_then L23_y5.out (Below.size L23_y5.out) hby11); have L24_y8 := Aside0.mk (below_then L23_y8.out (Below.size L23_y8.out) hby11); have hz24 := Below.size hby11; replace hby11 := Aside0.mk hby11)
        | ((with_reducible refine at_store_ (x := .tmp 11) ?_); (refine wpList_store_row rfl 24 _ _ rfl g11 (e8 s) _ 24 rfl rfl B_g11.out HZS.out HOS.out (e8_one _) ?_); generalize hWy12 : World.setRow y11 _ _ = y12; have L25_w := Aside0.mk (show Below w.heap.size w y12 by rw [← hWy12]; exact below_setRow L24_w.out (by omega) _); have hzL25_w := Below.size L25_w.out; have L25_y1 := Aside0.mk (show Below y1.heap.size y1 y12 by rw [← hWy12]; exact below_setRow L24_y1.out (by omega) _); have hzL25_y1 := Below.size L25_y1.out; have L25_y2 := Aside0.mk (show Below y2.heap.size y2 y12 by rw [← hWy12]; exact below_setRow L24_y2.out (by omega) _); have hzL25_y2 := Below.size L25_y2.out; have L25_y5 := Aside0.mk (show Below y5.heap.size y5 y12 by rw [← hWy12]; exact below_setRow L24_y5.out (by omega) _); have hzL25_y5 := Below.size L25_y5.out; have L25_y8 := Aside0.mk (show Below y8.heap.size y8 y12 by rw [← hWy12]; exact below_setRow L24_y8.out (by omega) _); have hzL25_y8 := Below.size L25_y8.out; have B_g11_25 := Aside0.mk (show Blk y12 g11 24 (e8 s) by rw [← hWy12]; exact blk_setRow B_g11.out _); clear hWy12))
      refine start_ (n := 50) (S := fun w' => Below w.heap.size w w' ∧ Below y1.heap.size y1 w' ∧ Below y2.heap.size y2 w' ∧ Below y5.heap.size y5 w' ∧ Below y8.heap.size y8 w' ∧ Below y12.heap.size y12 w' ∧ True) (ds := []) #[false, false, false, false, false, false, false, false, false, false, false, false, false, false, false, false, false, false, false, false, false, false, false, false, false, false, false, false, false, false, false, false, false, false, false, false, false, false, false, false, false, false, false, false, false, false, false, false, false, false] (by kernel_rfl) rfl rfl ⟨below_drew L25_w.out, below_drew L25_y1.out, below_drew L25_y2.out, below_drew L25_y5.out, below_drew L25_y8.out, below_drew (Below.refl _ _), trivial⟩ (fun hHeld => ?_)
      refine with_tabW f4_r6.tab6 f4_r6.bits6 (fun HT_ HW_ => ?_)
      refine take_ (i := 0) (N := some 33) (v := ?_) (a' := ?_) #[true, false, false, false, false, false, false, false, false, false, false, false, false, false, false, false, false, false, false, false, false, false, false, false, false, false, false, false, false, false, false, false, false, false, false, false, false, false, false, false, false, false, false, false, false, false, false, false, false, false] rfl rfl (take_ofW HT_.out HW_.out (by kernel_rfl)) (fun _ _ _ h => h) (Or.inl ⟨by rfl, ?_⟩) hHeld ?_ ?_
      rotate_left
      · intro w' s0
        refine Eq.trans (exec_load_row 24 (.tmp 7) (by rfl) g7 24 (e8 a) _ (by rfl) (blk_below B_g7_18.out s0.2.2.2.1) Tryd.underlying24 rfl HZA.out) ?_
        with_reducible rfl
      rotate_left
      · simp only [Act.put, List.setIfInBounds_toArray, List.set_cons_zero, List.set_cons_succ, i64_w, i32_w]
        rfl
      refine take_ (i := 1) (N := some 34) (v := ?_) (a' := ?_) #[true, true, false, false, false, false, false, false, false, false, false, false, false, false, false, false, false, false, false, false, false, false, false, false, false, false, false, false, false, false, false, false, false, false, false, false, false, false, false, false, false, false, false, false, false, false, false, false, false, false] rfl rfl (take_ofW HT_.out HW_.out (by kernel_rfl)) (fun _ _ _ h => h) (Or.inl ⟨by rfl, ?_⟩) hHeld ?_ ?_
      rotate_left
      · intro w' s0
        refine Eq.trans (exec_load_row 24 (.tmp 9) (by rfl) g9 24 (e8 a) _ (by rfl) (blk_below B_g9_21.out s0.2.2.2.2.1) Tryd.underlying24 rfl HZA.out) ?_
        with_reducible rfl
      rotate_left
      · simp only [Act.put, List.setIfInBounds_toArray, List.set_cons_zero, List.set_cons_succ, i64_w, i32_w]
        rfl
      refine pure_ (i := 2) (N := some 35) (v := ?_) (a' := ?_) #[true, true, true, false, false, false, false, false, false, false, false, false, false, false, false, false, false, false, false, false, false, false, false, false, false, false, false, false, false, false, false, false, false, false, false, false, false, false, false, false, false, false, false, false, false, false, false, false, false, false] rfl rfl (any_of HT_.out (by kernel_rfl)) (fun _ _ _ h => h) (Or.inl ⟨by rfl, ?_⟩) ?_ ?_
      rotate_left
      · intro w'
        go_simp
        with_reducible rfl
      rotate_left
      · simp only [Act.put, List.setIfInBounds_toArray, List.set_cons_zero, List.set_cons_succ, i64_w, i32_w]
        rfl
      refine pure_ (i := 3) (N := some 36) (v := ?_) (a' := ?_) #[true, true, true, true, false, false, false, false, false, false, false, false, false, false, false, false, false, false, false, false, false, false, false, false, false, false, false, false, false, false, false, false, false, false, false, false, false, false, false, false, false, false, false, false, false, false, false, false, false, false] rfl rfl (any_of HT_.out (by kernel_rfl)) (fun _ _ _ h => h) (Or.inl ⟨by rfl, ?_⟩) ?_ ?_
      rotate_left
      · intro w'
        go_simp
        with_reducible rfl
      rotate_left
      · simp only [Act.put, List.setIfInBounds_toArray, List.set_cons_zero, List.set_cons_succ, i64_w, i32_w]
        rfl
      refine pure_ (i := 4) (N := some 37) (v := ?_) (a' := ?_) #[true, true, true, true, true, false, false, false, false, false, false, false, false, false, false, false, false, false, false, false, false, false, false, false, false, false, false, false, false, false, false, false, false, false, false, false, false, false, false, false, false, false, false, false, false, false, false, false, false, false] rfl rfl (any_of HT_.out (by kernel_rfl)) (fun _ _ _ h => h) (Or.inl ⟨by rfl, ?_⟩) ?_ ?_
      rotate_left
      · intro w'
        go_simp
        with_reducible rfl
      rotate_left
      · simp only [Act.put, List.setIfInBounds_toArray, List.set_cons_zero, List.set_cons_succ, i64_w, i32_w]
        rfl
      refine pure_ (i := 6) (N := some 39) (v := ?_) (a' := ?_) #[true, true, true, true, true, false, true, false, false, false, false, false, false, false, false, false, false, false, false, false, false, false, false, false, false, false, false, false, false, false, false, false, false, false, false, false, false, false, false, false, false, false, false, false, false, false, false, false, false, false] rfl rfl (any_of HT_.out (by kernel_rfl)) (fun _ _ _ h => h) (Or.inl ⟨by rfl, ?_⟩) ?_ ?_
      rotate_left
      · intro w'
        go_simp
        with_reducible rfl
      rotate_left
      · simp only [Act.put, List.setIfInBounds_toArray, List.set_cons_zero, List.set_cons_succ, i64_w, i32_w]
        rfl
      refine one_ (i := 5) (N := some 38) #[true, true, true, true, true, true, true, false, false, false, false, false, false, false, false, false, false, false, false, false, false, false, false, false, false, false, false, false, false, false, false, false, false, false, false, false, false, false, false, false, false, false, false, false, false, false, false, false, false, false] rfl rfl (one_of HT_.out (by kernel_rfl)) (by decide) (fun K hK => ?_)
      refine goes_ Tryd.func19 (by kernel_rfl) rfl #[errV (some 3)] (by rfl) rfl rfl (by (try simp only [List.map_toArray, List.map_cons, List.map_nil]); first | done | rfl) ?_
      with_reducible refine (caucuslaw05.num_calls (some 3) _ (ErrAs.Laid.below HL.out hHeld.1)).mono ?_
      rintro e y13 ⟨rfl, hby13⟩
      refine ⟨_, rfl, ?_⟩
      refine hK.out _ _ ⟨(below_then hHeld.1 (Below.size hHeld.1) hby13), (below_then hHeld.2.1 (Below.size hHeld.2.1) hby13), (below_then hHeld.2.2.1 (Below.size hHeld.2.2.1) hby13), (below_then hHeld.2.2.2.1 (Below.size hHeld.2.2.2.1) hby13), (below_then hHeld.2.2.2.2.1 (Below.size hHeld.2.2.2.2.1) hby13), (below_then hHeld.2.2.2.2.2.1 (Below.size hHeld.2.2.2.2.2.1) hby13), trivial⟩ (fun hHeld => ?_)
      clear hK K
      refine norm_ (a' := ?_) ?_ ?_
      rotate_left
      · show Act.put _ (some 38) _ = _
        simp only [Act.put, List.setIfInBounds_toArray, List.set_cons_zero, List.set_cons_succ, i64_w, i32_w]
        rfl
      refine pure_ (i := 7) (N := some 40) (v := ?_) (a' := ?_) #[true, true, true, true, true, true, true, true, false, false, false, false, false, false, false, false, false, false, false, false, false, false, false, false, false, false, false, false, false, false, false, false, false, false, false, false, false, false, false, false, false, false, false, false, false, false, false, false, false, false] rfl rfl (any_of HT_.out (by kernel_rfl)) (fun _ _ _ h => h) (Or.inl ⟨by rfl, ?_⟩) ?_ ?_
      rotate_left
      · intro w'
        go_simp
        with_reducible rfl
      rotate_left
      · simp only [Act.put, List.setIfInBounds_toArray, List.set_cons_zero, List.set_cons_succ, i64_w, i32_w]
        rfl
      refine pure_ (i := 8) (N := some 41) (v := ?_) (a' := ?_) #[true, true, true, true, true, true, true, true, true, false, false, false, false, false, false, false, false, false, false, false, false, false, false, false, false, false, false, false, false, false, false, false, false, false, false, false, false, false, false, false, false, false, false, false, false, false, false, false, false, false] rfl rfl (any_of HT_.out (by kernel_rfl)) (fun _ _ _ h => h) (Or.inl ⟨by rfl, ?_⟩) ?_ ?_
      rotate_left
      · intro w'
        go_simp
        with_reducible rfl
      rotate_left
      · simp only [Act.put, List.setIfInBounds_toArray, List.set_cons_zero, List.set_cons_succ, i64_w, i32_w]
        rfl
      refine pure_ (i := 9) (N := some 42) (v := ?_) (a' := ?_) #[true, true, true, true, true, true, true, true, true, true, false, false, false, false, false, false, false, false, false, false, false, false, false, false, false, false, false, false, false, false, false, false, false, false, false, false, false, false, false, false, false, false, false, false, false, false, false, false, false, false] rfl rfl (any_of HT_.out (by kernel_rfl)) (fun _ _ _ h => h) (Or.inl ⟨by rfl, ?_⟩) ?_ ?_
      rotate_left
      · intro w'
        go_simp
        with_reducible rfl
      rotate_left
      · simp only [Act.put, List.setIfInBounds_toArray, List.set_cons_zero, List.set_cons_succ, i64_w, i32_w]
        rfl
      refine take_ (i := 10) (N := some 43) (v := ?_) (a' := ?_) #[true, true, true, true, true, true, true, true, true, true, true, false, false, false, false, false, false, false, false, false, false, false, false, false, false, false, false, false, false, false, false, false, false, false, false, false, false, false, false, false, false, false, false, false, false, false, false, false, false, false] rfl rfl (take_ofW HT_.out HW_.out (by kernel_rfl)) (fun _ _ _ h => h) (Or.inl ⟨by rfl, ?_⟩) hHeld ?_ ?_
      rotate_left
      · intro w' s0
        refine Eq.trans (exec_load_row 24 (.tmp 3) (by rfl) g3 24 (e8 s) _ (by rfl) (blk_below B_g3.out s0.2.1) Tryd.underlying24 rfl HZS.out) ?_
        with_reducible rfl
      rotate_left
      · simp only [Act.put, List.setIfInBounds_toArray, List.set_cons_zero, List.set_cons_succ, i64_w, i32_w]
        rfl
      refine take_ (i := 12) (N := some 45) (v := ?_) (a' := ?_) #[true, true, true, true, true, true, true, true, true, true, true, false, true, false, false, false, false, false, false, false, false, false, false, false, false, false, false, false, false, false, false, false, false, false, false, false, false, false, false, false, false, false, false, false, false, false, false, false, false, false] rfl rfl (take_ofW HT_.out HW_.out (by kernel_rfl)) (fun _ _ _ h => h) (Or.inl ⟨by rfl, ?_⟩) hHeld ?_ ?_
      rotate_left
      · intro w' s0
        refine Eq.trans (exec_load_row 24 (.tmp 3) (by rfl) g3 24 (e8 s) _ (by rfl) (blk_below B_g3.out s0.2.1) Tryd.underlying24 rfl HZS.out) ?_
        with_reducible rfl
      rotate_left
      · simp only [Act.put, List.setIfInBounds_toArray, List.set_cons_zero, List.set_cons_succ, i64_w, i32_w]
        rfl
      refine one_ (i := 11) (N := some 44) #[true, true, true, true, true, true, true, true, true, true, true, true, true, false, false, false, false, false, false, false, false, false, false, false, false, false, false, false, false, false, false, false, false, false, false, false, false, false, false, false, false, false, false, false, false, false, false, false, false, false] rfl rfl (one_of HT_.out (by kernel_rfl)) (by decide) (fun K hK => ?_)
      refine goes_ Tryd.func18 (by kernel_rfl) rfl #[.agg (e8 s)] (by rfl) rfl rfl (by (try simp only [List.map_toArray, List.map_cons, List.map_nil]); first | done | rfl) ?_
      with_reducible refine (Text_z s X HX.out HSL.out _).mono ?_
      rintro e y14 ⟨rfl, hby14⟩
      refine ⟨_, rfl, ?_⟩
      refine hK.out _ _ ⟨(below_then hHeld.1 (Below.size hHeld.1) hby14), (below_then hHeld.2.1 (Below.size hHeld.2.1) hby14), (below_then hHeld.2.2.1 (Below.size hHeld.2.2.1) hby14), (below_then hHeld.2.2.2.1 (Below.size hHeld.2.2.2.1) hby14), (below_then hHeld.2.2.2.2.1 (Below.size hHeld.2.2.2.2.1) hby14), (below_then hHeld.2.2.2.2.2.1 (Below.size hHeld.2.2.2.2.2.1) hby14), trivial⟩ (fun hHeld => ?_)
      clear hK K
      refine norm_ (a' := ?_) ?_ ?_
      rotate_left
      · show Act.put _ (some 44) _ = _
        simp only [Act.put, List.setIfInBounds_toArray, List.set_cons_zero, List.set_cons_succ, i64_w, i32_w]
        rfl
      refine one_ (i := 13) (N := some 46) #[true, true, true, true, true, true, true, true, true, true, true, true, true, true, false, false, false, false, false, false, false, false, false, false, false, false, false, false, false, false, false, false, false, false, false, false, false, false, false, false, false, false, false, false, false, false, false, false, false, false] rfl rfl (one_of HT_.out (by kernel_rfl)) (by decide) (fun K hK => ?_)
      refine goes_ Tryd.func20 (by kernel_rfl) rfl #[.agg (e8 s)] (by rfl) rfl rfl (by (try simp only [List.map_toArray, List.map_cons, List.map_nil]); first | done | rfl) ?_
      with_reducible refine (RefText_z s X HX.out HSL.out _).mono ?_
      rintro e y15 ⟨rfl, hby15⟩
      refine ⟨_, rfl, ?_⟩
      refine hK.out _ _ ⟨(below_then hHeld.1 (Below.size hHeld.1) hby15), (below_then hHeld.2.1 (Below.size hHeld.2.1) hby15), (below_then hHeld.2.2.1 (Below.size hHeld.2.2.1) hby15), (below_then hHeld.2.2.2.1 (Below.size hHeld.2.2.2.1) hby15), (below_then hHeld.2.2.2.2.1 (Below.size hHeld.2.2.2.2.1) hby15), (below_then hHeld.2.2.2.2.2.1 (Below.size hHeld.2.2.2.2.2.1) hby15), trivial⟩ (fun hHeld => ?_)
      clear hK K
      refine norm_ (a' := ?_) ?_ ?_
      rotate_left
      · show Act.put _ (some 46) _ = _
        simp only [Act.put, List.setIfInBounds_toArray, List.set_cons_zero, List.set_cons_succ, i64_w, i32_w]
        rfl
      refine pure_ (i := 14) (N := some 47) (v := ?_) (a' := ?_) #[true, true, true, true, true, true, true, true, true, true, true, true, true, true, true, false, false, false, false, false, false, false, false, false, false, false, false, false, false, false, false, false, false, false, false, false, false, false, false, false, false, false, false, false, false, false, false, false, false, false] rfl rfl (any_of HT_.out (by kernel_rfl)) (fun _ _ _ h => h) (Or.inl ⟨by rfl, ?_⟩) ?_ ?_
      rotate_left
      · intro w'
        go_simp
        with_reducible rfl
      rotate_left
      · simp only [Act.put, List.setIfInBounds_toArray, List.set_cons_zero, List.set_cons_succ, i64_w, i32_w]
        rfl
      refine pure_ (i := 15) (N := some 48) (v := ?_) (a' := ?_) #[true, true, true, true, true, true, true, true, true, true, true, true, true, true, true, true, false, false, false, false, false, false, false, false, false, false, false, false, false, false, false, false, false, false, false, false, false, false, false, false, false, false, false, false, false, false, false, false, false, false] rfl rfl (any_of HT_.out (by kernel_rfl)) (fun _ _ _ h => h) (Or.inl ⟨by rfl, ?_⟩) ?_ ?_
      rotate_left
      · intro w'
        go_simp
        with_reducible rfl
      rotate_left
      · simp only [Act.put, List.setIfInBounds_toArray, List.set_cons_zero, List.set_cons_succ, i64_w, i32_w]
        rfl
      refine pure_ (i := 16) (N := some 49) (v := ?_) (a' := ?_) #[true, true, true, true, true, true, true, true, true, true, true, true, true, true, true, true, true, false, false, false, false, false, false, false, false, false, false, false, false, false, false, false, false, false, false, false, false, false, false, false, false, false, false, false, false, false, false, false, false, false] rfl rfl (any_of HT_.out (by kernel_rfl)) (fun _ _ _ h => h) (Or.inl ⟨by rfl, ?_⟩) ?_ ?_
      rotate_left
      · intro w'
        go_simp
        with_reducible rfl
      rotate_left
      · simp only [Act.put, List.setIfInBounds_toArray, List.set_cons_zero, List.set_cons_succ, i64_w, i32_w]
        rfl
      refine pure_ (i := 17) (N := some 50) (v := ?_) (a' := ?_) #[true, true, true, true, true, true, true, true, true, true, true, true, true, true, true, true, true, true, false, false, false, false, false, false, false, false, false, false, false, false, false, false, false, false, false, false, false, false, false, false, false, false, false, false, false, false, false, false, false, false] rfl rfl (any_of HT_.out (by kernel_rfl)) (fun _ _ _ h => h) (Or.inl ⟨by rfl, ?_⟩) ?_ ?_
      rotate_left
      · intro w'
        go_simp
        with_reducible rfl
      rotate_left
      · simp only [Act.put, List.setIfInBounds_toArray, List.set_cons_zero, List.set_cons_succ, i64_w, i32_w]
        rfl
      refine pure_ (i := 18) (N := some 51) (v := ?_) (a' := ?_) #[true, true, true, true, true, true, true, true, true, true, true, true, true, true, true, true, true, true, true, false, false, false, false, false, false, false, false, false, false, false, false, false, false, false, false, false, false, false, false, false, false, false, false, false, false, false, false, false, false, false] rfl rfl (any_of HT_.out (by kernel_rfl)) (fun _ _ _ h => h) (Or.inl ⟨by rfl, ?_⟩) ?_ ?_
      rotate_left
      · intro w'
        go_simp
        with_reducible rfl
      rotate_left
      · simp only [Act.put, List.setIfInBounds_toArray, List.set_cons_zero, List.set_cons_succ, i64_w, i32_w]
        rfl
      refine pure_ (i := 19) (N := some 52) (v := ?_) (a' := ?_) #[true, true, true, true, true, true, true, true, true, true, true, true, true, true, true, true, true, true, true, true, false, false, false, false, false, false, false, false, false, false, false, false, false, false, false, false, false, false, false, false, false, false, false, false, false, false, false, false, false, false] rfl rfl (any_of HT_.out (by kernel_rfl)) (fun _ _ _ h => h) (Or.inl ⟨by rfl, ?_⟩) ?_ ?_
      rotate_left
      · intro w'
        go_simp
        with_reducible rfl
      rotate_left
      · simp only [Act.put, List.setIfInBounds_toArray, List.set_cons_zero, List.set_cons_succ, i64_w, i32_w]
        rfl
      refine pure_ (i := 20) (N := some 53) (v := ?_) (a' := ?_) #[true, true, true, true, true, true, true, true, true, true, true, true, true, true, true, true, true, true, true, true, true, false, false, false, false, false, false, false, false, false, false, false, false, false, false, false, false, false, false, false, false, false, false, false, false, false, false, false, false, false] rfl rfl (any_of HT_.out (by kernel_rfl)) (fun _ _ _ h => h) (Or.inl ⟨by rfl, ?_⟩) ?_ ?_
      rotate_left
      · intro w'
        go_simp
        with_reducible rfl
      rotate_left
      · simp only [Act.put, List.setIfInBounds_toArray, List.set_cons_zero, List.set_cons_succ, i64_w, i32_w]
        rfl
      refine take_ (i := 21) (N := some 54) (v := ?_) (a' := ?_) #[true, true, true, true, true, true, true, true, true, true, true, true, true, true, true, true, true, true, true, true, true, true, false, false, false, false, false, false, false, false, false, false, false, false, false, false, false, false, false, false, false, false, false, false, false, false, false, false, false, false] rfl rfl (take_ofW HT_.out HW_.out (by kernel_rfl)) (fun _ _ _ h => h) (Or.inl ⟨by rfl, ?_⟩) hHeld ?_ ?_
      rotate_left
      · intro w' s0
        refine Eq.trans (exec_load_row 24 (.tmp 11) (by rfl) g11 24 (e8 s) _ (by rfl) (blk_below B_g11_25.out s0.2.2.2.2.2.1) Tryd.underlying24 rfl HZS.out) ?_
        with_reducible rfl
      rotate_left
      · simp only [Act.put, List.setIfInBounds_toArray, List.set_cons_zero, List.set_cons_succ, i64_w, i32_w]
        rfl
      refine take_ (i := 22) (N := some 55) (v := ?_) (a' := ?_) #[true, true, true, true, true, true, true, true, true, true, true, true, true, true, true, true, true, true, true, true, true, true, true, false, false, false, false, false, false, false, false, false, false, false, false, false, false, false, false, false, false, false, false, false, false, false, false, false, false, false] rfl rfl (take_ofW HT_.out HW_.out (by kernel_rfl)) (fun _ _ _ h => h) (Or.inl ⟨by rfl, ?_⟩) hHeld ?_ ?_
      rotate_left
      · intro w' s0
        refine Eq.trans (exec_load_row 24 (.tmp 3) (by rfl) g3 24 (e8 s) _ (by rfl) (blk_below B_g3.out s0.2.1) Tryd.underlying24 rfl HZS.out) ?_
        with_reducible rfl
      rotate_left
      · simp only [Act.put, List.setIfInBounds_toArray, List.set_cons_zero, List.set_cons_succ, i64_w, i32_w]
        rfl
      refine pure_ (i := 23) (N := some 56) (v := ?_) (a' := ?_) #[true, true, true, true, true, true, true, true, true, true, true, true, true, true, true, true, true, true, true, true, true, true, true, true, false, false, false, false, false, false, false, false, false, false, false, false, false, false, false, false, false, false, false, false, false, false, false, false, false, false] rfl rfl (any_of HT_.out (by kernel_rfl)) (fun _ _ _ h => h) (Or.inl ⟨by rfl, ?_⟩) ?_ ?_
      rotate_left
      · intro w'
        go_simp
        with_reducible rfl
      rotate_left
      · simp only [Act.put, List.setIfInBounds_toArray, List.set_cons_zero, List.set_cons_succ, i64_w, i32_w]
        rfl
      refine pure_ (i := 24) (N := some 57) (v := ?_) (a' := ?_) #[true, true, true, true, true, true, true, true, true, true, true, true, true, true, true, true, true, true, true, true, true, true, true, true, true, false, false, false, false, false, false, false, false, false, false, false, false, false, false, false, false, false, false, false, false, false, false, false, false, false] rfl rfl (any_of HT_.out (by kernel_rfl)) (fun _ _ _ h => h) (Or.inl ⟨by rfl, ?_⟩) ?_ ?_
      rotate_left
      · intro w'
        go_simp
        with_reducible rfl
      rotate_left
      · simp only [Act.put, List.setIfInBounds_toArray, List.set_cons_zero, List.set_cons_succ, i64_w, i32_w]
        rfl
      refine pure_ (i := 25) (N := some 58) (v := ?_) (a' := ?_) #[true, true, true, true, true, true, true, true, true, true, true, true, true, true, true, true, true, true, true, true, true, true, true, true, true, true, false, false, false, false, false, false, false, false, false, false, false, false, false, false, false, false, false, false, false, false, false, false, false, false] rfl rfl (any_of HT_.out (by kernel_rfl)) (fun _ _ _ h => h) (Or.inl ⟨by rfl, ?_⟩) ?_ ?_
      rotate_left
      · intro w'
        go_simp
        with_reducible rfl
      rotate_left
      · simp only [Act.put, List.setIfInBounds_toArray, List.set_cons_zero, List.set_cons_succ, i64_w, i32_w]
        rfl
      refine take_ (i := 26) (N := some 59) (v := ?_) (a' := ?_) #[true, true, true, true, true, true, true, true, true, true, true, true, true, true, true, true, true, true, true, true, true, true, true, true, true, true, true, false, false, false, false, false, false, false, false, false, false, false, false, false, false, false, false, false, false, false, false, false, false, false] rfl rfl (take_ofW HT_.out HW_.out (by kernel_rfl)) (fun _ _ _ h => h) (Or.inl ⟨by rfl, ?_⟩) hHeld ?_ ?_
      rotate_left
      · intro w' s0
        refine Eq.trans (exec_load_row 24 (.tmp 3) (by rfl) g3 24 (e8 s) _ (by rfl) (blk_below B_g3.out s0.2.1) Tryd.underlying24 rfl HZS.out) ?_
        with_reducible rfl
      rotate_left
      · simp only [Act.put, List.setIfInBounds_toArray, List.set_cons_zero, List.set_cons_succ, i64_w, i32_w]
        rfl
      refine take_ (i := 28) (N := some 61) (v := ?_) (a' := ?_) #[true, true, true, true, true, true, true, true, true, true, true, true, true, true, true, true, true, true, true, true, true, true, true, true, true, true, true, false, true, false, false, false, false, false, false, false, false, false, false, false, false, false, false, false, false, false, false, false, false, false] rfl rfl (take_ofW HT_.out HW_.out (by kernel_rfl)) (fun _ _ _ h => h) (Or.inl ⟨by rfl, ?_⟩) hHeld ?_ ?_
      rotate_left
      · intro w' s0
        refine Eq.trans (exec_load_row 24 (.tmp 4) (by rfl) g4 24 (e8 t) _ (by rfl) (blk_below B_g4.out s0.2.2.1) Tryd.underlying24 rfl HZT.out) ?_
        with_reducible rfl
      rotate_left
      · simp only [Act.put, List.setIfInBounds_toArray, List.set_cons_zero, List.set_cons_succ, i64_w, i32_w]
        rfl
      refine take_ (i := 31) (N := some 64) (v := ?_) (a' := ?_) #[true, true, true, true, true, true, true, true, true, true, true, true, true, true, true, true, true, true, true, true, true, true, true, true, true, true, true, false, true, false, false, true, false, false, false, false, false, false, false, false, false, false, false, false, false, false, false, false, false, false] rfl rfl (take_ofW HT_.out HW_.out (by kernel_rfl)) (fun _ _ _ h => h) (Or.inl ⟨by rfl, ?_⟩) hHeld ?_ ?_
      rotate_left
      · intro w' s0
        refine Eq.trans (exec_load_row 24 (.tmp 3) (by rfl) g3 24 (e8 s) _ (by rfl) (blk_below B_g3.out s0.2.1) Tryd.underlying24 rfl HZS.out) ?_
        with_reducible rfl
      rotate_left
      · simp only [Act.put, List.setIfInBounds_toArray, List.set_cons_zero, List.set_cons_succ, i64_w, i32_w]
        rfl
      refine take_ (i := 32) (N := some 65) (v := ?_) (a' := ?_) #[true, true, true, true, true, true, true, true, true, true, true, true, true, true, true, true, true, true, true, true, true, true, true, true, true, true, true, false, true, false, false, true, true, false, false, false, false, false, false, false, false, false, false, false, false, false, false, false, false, false] rfl rfl (take_ofW HT_.out HW_.out (by kernel_rfl)) (fun _ _ _ h => h) (Or.inl ⟨by rfl, ?_⟩) hHeld ?_ ?_
      rotate_left
      · intro w' s0
        refine Eq.trans (exec_load_row 24 (.tmp 4) (by rfl) g4 24 (e8 t) _ (by rfl) (blk_below B_g4.out s0.2.2.1) Tryd.underlying24 rfl HZT.out) ?_
        with_reducible rfl
      rotate_left
      · simp only [Act.put, List.setIfInBounds_toArray, List.set_cons_zero, List.set_cons_succ, i64_w, i32_w]
        rfl
      refine pure_ (i := 33) (N := some 66) (v := ?_) (a' := ?_) #[true, true, true, true, true, true, true, true, true, true, true, true, true, true, true, true, true, true, true, true, true, true, true, true, true, true, true, false, true, false, false, true, true, true, false, false, false, false, false, false, false, false, false, false, false, false, false, false, false, false] rfl rfl (any_of HT_.out (by kernel_rfl)) (fun _ _ _ h => h) (Or.inl ⟨by rfl, ?_⟩) ?_ ?_
      rotate_left
      · intro w'
        go_simp
        with_reducible rfl
      rotate_left
      · simp only [Act.put, List.setIfInBounds_toArray, List.set_cons_zero, List.set_cons_succ, i64_w, i32_w]
        rfl
      refine one_ (i := 27) (N := some 60) #[true, true, true, true, true, true, true, true, true, true, true, true, true, true, true, true, true, true, true, true, true, true, true, true, true, true, true, true, true, false, false, true, true, true, false, false, false, false, false, false, false, false, false, false, false, false, false, false, false, false] rfl rfl (one_of HT_.out (by kernel_rfl)) (by decide) (fun K hK => ?_)
      refine goes_ Tryd.func18 (by kernel_rfl) rfl #[.agg (e8 s)] (by rfl) rfl rfl (by (try simp only [List.map_toArray, List.map_cons, List.map_nil]); first | done | rfl) ?_
      with_reducible refine (Text_z s X HX.out HSL.out _).mono ?_
      rintro e y16 ⟨rfl, hby16⟩
      refine ⟨_, rfl, ?_⟩
      refine hK.out _ _ ⟨(below_then hHeld.1 (Below.size hHeld.1) hby16), (below_then hHeld.2.1 (Below.size hHeld.2.1) hby16), (below_then hHeld.2.2.1 (Below.size hHeld.2.2.1) hby16), (below_then hHeld.2.2.2.1 (Below.size hHeld.2.2.2.1) hby16), (below_then hHeld.2.2.2.2.1 (Below.size hHeld.2.2.2.2.1) hby16), (below_then hHeld.2.2.2.2.2.1 (Below.size hHeld.2.2.2.2.2.1) hby16), trivial⟩ (fun hHeld => ?_)
      clear hK K
      refine norm_ (a' := ?_) ?_ ?_
      rotate_left
      · show Act.put _ (some 60) _ = _
        simp only [Act.put, List.setIfInBounds_toArray, List.set_cons_zero, List.set_cons_succ, i64_w, i32_w]
        rfl
      refine one_ (i := 29) (N := some 62) #[true, true, true, true, true, true, true, true, true, true, true, true, true, true, true, true, true, true, true, true, true, true, true, true, true, true, true, true, true, true, false, true, true, true, false, false, false, false, false, false, false, false, false, false, false, false, false, false, false, false] rfl rfl (one_of HT_.out (by kernel_rfl)) (by decide) (fun K hK => ?_)
      refine goes_ Tryd.func18 (by kernel_rfl) rfl #[.agg (e8 t)] (by rfl) rfl rfl (by (try simp only [List.map_toArray, List.map_cons, List.map_nil]); first | done | rfl) ?_
      with_reducible refine (Text_z t Y HY.out HTL.out _).mono ?_
      rintro e y17 ⟨rfl, hby17⟩
      refine ⟨_, rfl, ?_⟩
      refine hK.out _ _ ⟨(below_then hHeld.1 (Below.size hHeld.1) hby17), (below_then hHeld.2.1 (Below.size hHeld.2.1) hby17), (below_then hHeld.2.2.1 (Below.size hHeld.2.2.1) hby17), (below_then hHeld.2.2.2.1 (Below.size hHeld.2.2.2.1) hby17), (below_then hHeld.2.2.2.2.1 (Below.size hHeld.2.2.2.2.1) hby17), (below_then hHeld.2.2.2.2.2.1 (Below.size hHeld.2.2.2.2.2.1) hby17), trivial⟩ (fun hHeld => ?_)
      clear hK K
      refine norm_ (a' := ?_) ?_ ?_
      rotate_left
      · show Act.put _ (some 62) _ = _
        simp only [Act.put, List.setIfInBounds_toArray, List.set_cons_zero, List.set_cons_succ, i64_w, i32_w]
        rfl
      refine pure_ (i := 30) (N := some 63) (v := ?_) (a' := ?_) #[true, true, true, true, true, true, true, true, true, true, true, true, true, true, true, true, true, true, true, true, true, true, true, true, true, true, true, true, true, true, true, true, true, true, false, false, false, false, false, false, false, false, false, false, false, false, false, false, false, false] rfl rfl (any_of HT_.out (by kernel_rfl)) (fun _ _ _ h => h) (Or.inl ⟨by rfl, ?_⟩) ?_ ?_
      rotate_left
      · intro w'
        go_simp
        with_reducible rfl
      rotate_left
      · simp only [Act.put, List.setIfInBounds_toArray, List.set_cons_zero, List.set_cons_succ, i64_w, i32_w]
        rfl
      refine pure_ (i := 34) (N := some 67) (v := ?_) (a' := ?_) #[true, true, true, true, true, true, true, true, true, true, true, true, true, true, true, true, true, true, true, true, true, true, true, true, true, true, true, true, true, true, true, true, true, true, true, false, false, false, false, false, false, false, false, false, false, false, false, false, false, false] rfl rfl (any_of HT_.out (by kernel_rfl)) (fun _ _ _ h => h) (Or.inl ⟨by rfl, ?_⟩) ?_ ?_
      rotate_left
      · intro w'
        go_simp
        with_reducible rfl
      rotate_left
      · simp only [Act.put, List.setIfInBounds_toArray, List.set_cons_zero, List.set_cons_succ, i64_w, i32_w]
        rfl
      refine pure_ (i := 35) (N := some 68) (v := ?_) (a' := ?_) #[true, true, true, true, true, true, true, true, true, true, true, true, true, true, true, true, true, true, true, true, true, true, true, true, true, true, true, true, true, true, true, true, true, true, true, true, false, false, false, false, false, false, false, false, false, false, false, false, false, false] rfl rfl (any_of HT_.out (by kernel_rfl)) (fun _ _ _ h => h) (Or.inl ⟨by rfl, ?_⟩) ?_ ?_
      rotate_left
      · intro w'
        go_simp
        with_reducible rfl
      rotate_left
      · simp only [Act.put, List.setIfInBounds_toArray, List.set_cons_zero, List.set_cons_succ, i64_w, i32_w]
        rfl
      refine pure_ (i := 36) (N := some 69) (v := ?_) (a' := ?_) #[true, true, true, true, true, true, true, true, true, true, true, true, true, true, true, true, true, true, true, true, true, true, true, true, true, true, true, true, true, true, true, true, true, true, true, true, true, false, false, false, false, false, false, false, false, false, false, false, false, false] rfl rfl (any_of HT_.out (by kernel_rfl)) (fun _ _ _ h => h) (Or.inl ⟨by rfl, ?_⟩) ?_ ?_
      rotate_left
      · intro w'
        go_simp
        with_reducible rfl
      rotate_left
      · simp only [Act.put, List.setIfInBounds_toArray, List.set_cons_zero, List.set_cons_succ, i64_w, i32_w]
        rfl
      refine pure_ (i := 37) (N := some 70) (v := ?_) (a' := ?_) #[true, true, true, true, true, true, true, true, true, true, true, true, true, true, true, true, true, true, true, true, true, true, true, true, true, true, true, true, true, true, true, true, true, true, true, true, true, true, false, false, false, false, false, false, false, false, false, false, false, false] rfl rfl (any_of HT_.out (by kernel_rfl)) (fun _ _ _ h => h) (Or.inl ⟨by rfl, ?_⟩) ?_ ?_
      rotate_left
      · intro w'
        go_simp
        with_reducible rfl
      rotate_left
      · simp only [Act.put, List.setIfInBounds_toArray, List.set_cons_zero, List.set_cons_succ, i64_w, i32_w]
        rfl
      refine pure_ (i := 38) (N := some 71) (v := ?_) (a' := ?_) #[true, true, true, true, true, true, true, true, true, true, true, true, true, true, true, true, true, true, true, true, true, true, true, true, true, true, true, true, true, true, true, true, true, true, true, true, true, true, true, false, false, false, false, false, false, false, false, false, false, false] rfl rfl (any_of HT_.out (by kernel_rfl)) (fun _ _ _ h => h) (Or.inl ⟨by rfl, ?_⟩) ?_ ?_
      rotate_left
      · intro w'
        go_simp
        with_reducible rfl
      rotate_left
      · simp only [Act.put, List.setIfInBounds_toArray, List.set_cons_zero, List.set_cons_succ, i64_w, i32_w]
        rfl
      refine pure_ (i := 39) (N := some 72) (v := ?_) (a' := ?_) #[true, true, true, true, true, true, true, true, true, true, true, true, true, true, true, true, true, true, true, true, true, true, true, true, true, true, true, true, true, true, true, true, true, true, true, true, true, true, true, true, false, false, false, false, false, false, false, false, false, false] rfl rfl (any_of HT_.out (by kernel_rfl)) (fun _ _ _ h => h) (Or.inl ⟨by rfl, ?_⟩) ?_ ?_
      rotate_left
      · intro w'
        go_simp
        with_reducible rfl
      rotate_left
      · simp only [Act.put, List.setIfInBounds_toArray, List.set_cons_zero, List.set_cons_succ, i64_w, i32_w]
        rfl
      refine pure_ (i := 40) (N := some 73) (v := undef) (a' := ?_) #[true, true, true, true, true, true, true, true, true, true, true, true, true, true, true, true, true, true, true, true, true, true, true, true, true, true, true, true, true, true, true, true, true, true, true, true, true, true, true, true, true, false, false, false, false, false, false, false, false, false] rfl rfl (any_of HT_.out (by kernel_rfl)) (fun _ _ _ h => h) (Or.inr ⟨by rfl, rfl⟩) ?_ ?_
      rotate_left
      · simp only [Act.put, List.setIfInBounds_toArray, List.set_cons_zero, List.set_cons_succ, i64_w, i32_w]
        rfl
      refine pure_ (i := 41) (N := some 74) (v := undef) (a' := ?_) #[true, true, true, true, true, true, true, true, true, true, true, true, true, true, true, true, true, true, true, true, true, true, true, true, true, true, true, true, true, true, true, true, true, true, true, true, true, true, true, true, true, true, false, false, false, false, false, false, false, false] rfl rfl (any_of HT_.out (by kernel_rfl)) (fun _ _ _ h => h) (Or.inr ⟨by rfl, rfl⟩) ?_ ?_
      rotate_left
      · simp only [Act.put, List.setIfInBounds_toArray, List.set_cons_zero, List.set_cons_succ, i64_w, i32_w]
        rfl
      refine pure_ (i := 42) (N := some 75) (v := undef) (a' := ?_) #[true, true, true, true, true, true, true, true, true, true, true, true, true, true, true, true, true, true, true, true, true, true, true, true, true, true, true, true, true, true, true, true, true, true, true, true, true, true, true, true, true, true, true, false, false, false, false, false, false, false] rfl rfl (any_of HT_.out (by kernel_rfl)) (fun _ _ _ h => h) (Or.inr ⟨by rfl, rfl⟩) ?_ ?_
      rotate_left
      · simp only [Act.put, List.setIfInBounds_toArray, List.set_cons_zero, List.set_cons_succ, i64_w, i32_w]
        rfl
      refine pure_ (i := 43) (N := some 76) (v := undef) (a' := ?_) #[true, true, true, true, true, true, true, true, true, true, true, true, true, true, true, true, true, true, true, true, true, true, true, true, true, true, true, true, true, true, true, true, true, true, true, true, true, true, true, true, true, true, true, true, false, false, false, false, false, false] rfl rfl (any_of HT_.out (by kernel_rfl)) (fun _ _ _ h => h) (Or.inr ⟨by rfl, rfl⟩) ?_ ?_
      rotate_left
      · simp only [Act.put, List.setIfInBounds_toArray, List.set_cons_zero, List.set_cons_succ, i64_w, i32_w]
        rfl
      refine pure_ (i := 44) (N := some 77) (v := ?_) (a' := ?_) #[true, true, true, true, true, true, true, true, true, true, true, true, true, true, true, true, true, true, true, true, true, true, true, true, true, true, true, true, true, true, true, true, true, true, true, true, true, true, true, true, true, true, true, true, true, false, false, false, false, false] rfl rfl (any_of HT_.out (by kernel_rfl)) (fun _ _ _ h => h) (Or.inl ⟨by rfl, ?_⟩) ?_ ?_
      rotate_left
      · intro w'
        go_simp
        with_reducible rfl
      rotate_left
      · simp only [Act.put, List.setIfInBounds_toArray, List.set_cons_zero, List.set_cons_succ, i64_w, i32_w]
        rfl
      refine pure_ (i := 45) (N := some 78) (v := ?_) (a' := ?_) #[true, true, true, true, true, true, true, true, true, true, true, true, true, true, true, true, true, true, true, true, true, true, true, true, true, true, true, true, true, true, true, true, true, true, true, true, true, true, true, true, true, true, true, true, true, true, false, false, false, false] rfl rfl (any_of HT_.out (by kernel_rfl)) (fun _ _ _ h => h) (Or.inl ⟨by rfl, ?_⟩) ?_ ?_
      rotate_left
      · intro w'
        go_simp
        with_reducible rfl
      rotate_left
      · simp only [Act.put, List.setIfInBounds_toArray, List.set_cons_zero, List.set_cons_succ, i64_w, i32_w]
        rfl
      refine pure_ (i := 46) (N := some 79) (v := ?_) (a' := ?_) #[true, true, true, true, true, true, true, true, true, true, true, true, true, true, true, true, true, true, true, true, true, true, true, true, true, true, true, true, true, true, true, true, true, true, true, true, true, true, true, true, true, true, true, true, true, true, true, false, false, false] rfl rfl (any_of HT_.out (by kernel_rfl)) (fun _ _ _ h => h) (Or.inl ⟨by rfl, ?_⟩) ?_ ?_
      rotate_left
      · intro w'
        go_simp
        with_reducible rfl
      rotate_left
      · simp only [Act.put, List.setIfInBounds_toArray, List.set_cons_zero, List.set_cons_succ, i64_w, i32_w]
        rfl
      refine one_ (i := 47) (N := some 80) #[true, true, true, true, true, true, true, true, true, true, true, true, true, true, true, true, true, true, true, true, true, true, true, true, true, true, true, true, true, true, true, true, true, true, true, true, true, true, true, true, true, true, true, true, true, true, true, true, false, false] rfl rfl (one_of HT_.out (by kernel_rfl)) (by decide) (fun K hK => ?_)
      refine goes_ Tryd.func13 (by kernel_rfl) rfl #[] (by rfl) rfl rfl (by (try simp only [List.map_toArray, List.map_cons, List.map_nil]); first | done | rfl) ?_
      with_reducible refine (sure_calls _ (ErrAs.Laid.below HL.out hHeld.1)).mono ?_
      rintro e y18 ⟨rfl, hby18⟩
      refine ⟨_, rfl, ?_⟩
      refine hK.out _ _ ⟨(below_then hHeld.1 (Below.size hHeld.1) hby18), (below_then hHeld.2.1 (Below.size hHeld.2.1) hby18), (below_then hHeld.2.2.1 (Below.size hHeld.2.2.1) hby18), (below_then hHeld.2.2.2.1 (Below.size hHeld.2.2.2.1) hby18), (below_then hHeld.2.2.2.2.1 (Below.size hHeld.2.2.2.2.1) hby18), (below_then hHeld.2.2.2.2.2.1 (Below.size hHeld.2.2.2.2.2.1) hby18), trivial⟩ (fun hHeld => ?_)
      clear hK K
      refine norm_ (a' := ?_) ?_ ?_
      rotate_left
      · show Act.put _ (some 80) _ = _
        simp only [Act.put, List.setIfInBounds_toArray, List.set_cons_zero, List.set_cons_succ, i64_w, i32_w]
        rfl
      refine pure_ (i := 48) (N := some 81) (v := ?_) (a' := ?_) #[true, true, true, true, true, true, true, true, true, true, true, true, true, true, true, true, true, true, true, true, true, true, true, true, true, true, true, true, true, true, true, true, true, true, true, true, true, true, true, true, true, true, true, true, true, true, true, true, true, false] rfl rfl (any_of HT_.out (by kernel_rfl)) (fun _ _ _ h => h) (Or.inl ⟨by rfl, ?_⟩) ?_ ?_
      rotate_left
      · intro w'
        go_simp
        with_reducible rfl
      rotate_left
      · simp only [Act.put, List.setIfInBounds_toArray, List.set_cons_zero, List.set_cons_succ, i64_w, i32_w]
        rfl
      refine pure_ (i := 49) (N := some 6) (v := ?_) (a' := ?_) #[true, true, true, true, true, true, true, true, true, true, true, true, true, true, true, true, true, true, true, true, true, true, true, true, true, true, true, true, true, true, true, true, true, true, true, true, true, true, true, true, true, true, true, true, true, true, true, true, true, true] rfl rfl (any_of HT_.out (by kernel_rfl)) (fun _ _ _ h => h) (Or.inl ⟨by rfl, ?_⟩) ?_ ?_
      rotate_left
      · intro w'
        go_simp
        with_reducible rfl
      rotate_left
      · simp only [Act.put, List.setIfInBounds_toArray, List.set_cons_zero, List.set_cons_succ, i64_w, i32_w]
        rfl
      refine done_ (done_of HT_.out (by kernel_rfl)) ?_
      have L26_w := Aside0.mk hHeld.1
      have L26_y1 := Aside0.mk hHeld.2.1
      have L26_y2 := Aside0.mk hHeld.2.2.1
      have L26_y5 := Aside0.mk hHeld.2.2.2.1
      have L26_y8 := Aside0.mk hHeld.2.2.2.2.1
      have L26_y12 := Aside0.mk hHeld.2.2.2.2.2.1
      clear hHeld
      go_wp2
      go_ret
      exact ⟨rfl, L26_w.out⟩
  · have i1 : 300 < ((strOf l).size : Int) := by omega
    clear h1
    go_enter Tryd.func4, Tryd.ntmps4
    go_wp2_with (first
      | ((with_reducible refine at_box_ (d := some 3) ?_); (refine wpList_make_ (t := 24) ((e8 s)) (fun g => .pointer (some ⟨g, 0, none⟩)) (by rfl) ?_ ?_); (first | (go_simp; done) | (unfold execOp; go_simp; done) | (go_simp; constructor <;> rfl) | (go_simp; rfl) | rfl); intro g3 z1 hge_g3 B_g3 hbz1; replace B_g3 := Aside0.mk B_g3; have hz27 := Below.size hbz1; replace hbz1 := Aside0.mk hbz1)
      | ((with_reducible refine at_box_ (d := some 4) ?_); (refine wpList_make_ (t := 24) ((e8 t)) (fun g => .pointer (some ⟨g, 0, none⟩)) (by rfl) ?_ ?_); (first | (go_simp; done) | (unfold execOp; go_simp; done) | (go_simp; constructor <;> rfl) | (go_simp; rfl) | rfl); intro g4 z2 hge_g4 B_g4 hbz2; replace B_g4 := Aside0.mk B_g4; have L28_w := Aside0.mk (below_then hbz1.out (Below.size hbz1.out) hbz2); have hz28 := Below.size hbz2; replace hbz2 := Aside0.mk hbz2)
      | (go_at_call 13; (with_reducible refine (sure_calls z2 (ErrAs.Laid.below HL.out L28_w.out)).mono ?_); rintro e z3 ⟨rfl, hbz3⟩; have L29_w := Aside0.mk (below_then L28_w.out (Below.size L28_w.out) hbz3); have L29_z1 := Aside0.mk (below_then hbz2.out (Below.size hbz2.out) hbz3); have hz29 := Below.size hbz3; replace hbz3 := Aside0.mk hbz3))
    go_ret
    exact ⟨rfl, L29_w.out⟩
theorem strOf_self (s : ByteArray) : strOf s.data.toList = s := by
  cases s
  simp [strOf]
theorem texts_any (s t : List UInt8) (b : ByteArray) (hs : s.length = 32) (ht : t.length = 32) (w : World) (hL : ErrAs.Laid w) :
    Calls Tryd.prog 4 #[.agg (e8 s), .agg (e8 t), .string b] w fun e w' => e = .returned (.bool true) ∧ Below w.heap.size w w' := by
  have h := texts_calls s t b.data.toList hs ht w hL
  rwa [strOf_self] at h
end Go.Proofs.YthmlidlnojdggaaDoor.Sha
