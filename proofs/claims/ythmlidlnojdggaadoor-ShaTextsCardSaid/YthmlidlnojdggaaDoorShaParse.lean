/- sha.Parse, and the document's: the sum of digits. -/
import Derived.Test.YthmlidlnojdggaaDoorShaHex
import Derived.Test.YthmlidlnojdggaaDoorSum32
set_option linter.unusedVariables false
set_option linter.unusedSimpArgs false
namespace Go.Proofs.YthmlidlnojdggaaDoor.Sha
open Go.RowKit Go.Proofs.YthmlidlnojdggaaDoorW.PrintWords Go.Proofs.YthmlidlnojdggaaDoorW.PrintLast

theorem IndexByte_z (x : UInt8) (a : Int) (ha : a = dg x) (w : World) : Calls Tryd.prog 59 #[.string digs, .int .u8 (x.toNat : Int)] w fun e w' => e = .returned (.int .i64 a) ∧ w = w' :=
  (Tryd.strings_IndexByte digs (x.toNat : Int) w).mono fun e w' ⟨he, hw⟩ => ⟨by rw [he, ha, ← idx_dg]; simp, hw.symm⟩
theorem digit_z (x : UInt8) (a : Int) (ha : a = dg x) (w : World) : Calls Tryd.prog 60 #[.int .u8 (x.toNat : Int)] w fun e w' => e = .returned (.int .i64 a) ∧ w = w' := by
  subst ha
  exact digit_calls x w
theorem or16 (p q : Nat) (hp : p < 16) (hq : q < 16) : bits .or .i64 ((p : Int) * 16) (q : Int) = (p : Int) * 16 + q := by
  have h : ∀ p q : Fin 16, bits .or .i64 ((p.val : Int) * 16) (q.val : Int) = (p.val : Int) * 16 + q.val := by decide +kernel
  exact h ⟨p, hp⟩ ⟨q, hq⟩

def f16_r7.T7 : Bool × List (List Nat × List Nat) := (true, [([], []), ([], []), ([1], [1]), ([0, 2], [0, 2]), ([3], [3]), ([], []), ([], []), ([6], [6]), ([7], [7]), ([5, 8], [5, 8]), ([9, 4], [9]), ([4, 10, 0, 1, 2, 3, 4], [4]), ([10, 11, 0, 1, 2, 3, 4, 5, 6, 7, 8, 9, 10, 11], [10])])
def f16_r7.B7 : List Nat := [0, 0, 2, 7, 15, 0, 0, 64, 192, 480, 1023, 2047, 4095]
theorem f16_r7.tab7 : Go.Proofs.YthmlidlnojdggaaDoorW.PrintLast.rtab .any (Go.Proofs.YthmlidlnojdggaaDoorW.PrintLast.opsOf Tryd.f16 7) = f16_r7.T7 := by kernel_rfl
theorem f16_r7.bits7 : Go.Proofs.YthmlidlnojdggaaDoorW.PrintLast.waitsOk f16_r7.T7.2 f16_r7.B7 = true := by kernel_rfl
set_option maxRecDepth 100000 in
set_option maxHeartbeats 4000000 in
theorem Parse_calls (l : List UInt8) (w : World) :
    Calls Tryd.prog 16 #[.string (strOf l)] w fun e w' => e = .returned (.tuple #[.agg (e8 (pv l)), errV (pe l)]) ∧ Below w.heap.size w w' := by
  have hs0 : (strOf l).size = l.length := by simp [strOf, ByteArray.size]
  have HZ0 := Aside0.mk (sz32t (List.replicate 32 0) rfl)
  by_cases h64 : l.length = 64
  · have HL := Aside0.mk h64
    have hsz : (strOf l).size = 64 := by rw [hs0, h64]
    clear hs0 h64
    go_enter Tryd.func16, Tryd.ntmps16
    go_wp2
    go_loopw [5, 6, 7, 13] (fun _ _ _ i wr => ∃ j : Nat, j ≤ 32 ∧ i = .int .i64 j ∧ Aside0 (∀ q, q < j → okAt l q) ∧ Aside0 (Blk wr w.heap.size 24 (e8 (List.replicate 32 0))) ∧ Aside0 (Blk wr (w.heap.size + 1) 24 (e8 (upB l j ++ List.replicate (32 - j) 0))) ∧ Aside0 (Below w.heap.size w wr)) (fun _ _ _ i _ => 32 - (intOf i).toNat)
    case atStart => exact ⟨0, by decide, rfl, ⟨fun q hq => absurd hq (Nat.not_lt_zero q)⟩, ⟨blk_alloc (blk_new w _) _⟩, ⟨blk_new1 w _ _ _⟩, ⟨below_alloc (below_new _) _⟩⟩
    case round =>
      obtain ⟨j, hj, rfl, HG, HO, HB, HW⟩ := hrel
      by_cases hlt : j < 32
      · have hji : (j : Int) < 32 := by omega
        obtain ⟨x, hx⟩ : ∃ x, x = l.getD (2 * j) 0 := ⟨_, rfl⟩
        obtain ⟨y, hy⟩ : ∃ y, y = l.getD (2 * j + 1) 0 := ⟨_, rfl⟩
        have hw1 : wrap64 (2 * (j : Int)) = 2 * (j : Int) := by unfold wrap64; omega
        have hw2 : wrap64 (2 * (j : Int) + 1) = 2 * (j : Int) + 1 := by unfold wrap64; omega
        have hi1 : ∀ w, (Instr.index 9 (.string (strOf l)) (.int .i64 (2 * (j : Int)))).run Tryd.prog w = .ok (.int .u8 (x.toNat : Int)) w := fun w => str_index l .i64 (2 * j) (by rw [HL.out]; omega) x hx _ (by omega) w
        have hi2 : ∀ w, (Instr.index 9 (.string (strOf l)) (.int .i64 (2 * (j : Int) + 1))).run Tryd.prog w = .ok (.int .u8 (y.toNat : Int)) w := fun w => str_index l .i64 (2 * j + 1) (by rw [HL.out]; omega) y hy _ (by omega) w
        have HX := Aside0.mk hx
        have HY := Aside0.mk hy
        clear hx hy
        obtain ⟨a, ha⟩ : ∃ a, a = dg x := ⟨_, rfl⟩
        obtain ⟨b, hb⟩ : ∃ b, b = dg y := ⟨_, rfl⟩
        have hr := dg_range x
        have hr2 := dg_range y
        rw [← ha] at hr
        rw [← hb] at hr2
        have HA := Aside0.mk ha
        have HBB := Aside0.mk hb
        clear ha hb
        go_wp2
        refine start_ (n := 13) (S := fun w' => Below wr.heap.size wr w' ∧ True) (ds := []) #[false, false, false, false, false, false, false, false, false, false, false, false, false] (by kernel_rfl) rfl rfl ⟨below_drew (Below.refl _ _), trivial⟩ (fun hHeld => ?_)
        refine with_tabW f16_r7.tab7 f16_r7.bits7 (fun HT_ HW_ => ?_)
        refine pure_ (i := 0) (N := some 16) (v := ?_) (a' := ?_) #[true, false, false, false, false, false, false, false, false, false, false, false, false] rfl rfl (any_of HT_.out (by kernel_rfl)) (fun _ _ _ h => h) (Or.inl ⟨by rfl, ?_⟩) ?_ ?_
        rotate_left
        · intro w'
          go_simp
          with_reducible rfl
        rotate_left
        · simp only [Act.put, List.setIfInBounds_toArray, List.set_cons_zero, List.set_cons_succ, i64_w, i32_w]
          rfl
        refine pure_ (i := 1) (N := some 17) (v := ?_) (a' := ?_) #[true, true, false, false, false, false, false, false, false, false, false, false, false] rfl rfl (any_of HT_.out (by kernel_rfl)) (fun _ _ _ h => h) (Or.inl ⟨by rfl, ?_⟩) ?_ ?_
        rotate_left
        · intro w'
          go_simp
          with_reducible rfl
        rotate_left
        · simp only [Act.put, List.setIfInBounds_toArray, List.set_cons_zero, List.set_cons_succ, i64_w, i32_w]
          rfl
        refine pure_ (i := 2) (N := some 18) (v := ?_) (a' := ?_) #[true, true, true, false, false, false, false, false, false, false, false, false, false] rfl rfl (any_of HT_.out (by kernel_rfl)) (fun _ _ _ h => h) (Or.inl ⟨by rfl, ?_⟩) ?_ ?_
        rotate_left
        · intro w'
          go_simp
          with_reducible rfl
        rotate_left
        · simp only [Act.put, List.setIfInBounds_toArray, List.set_cons_zero, List.set_cons_succ, i64_w, i32_w]
          rfl
        refine pure_ (i := 5) (N := some 21) (v := ?_) (a' := ?_) #[true, true, true, false, false, true, false, false, false, false, false, false, false] rfl rfl (any_of HT_.out (by kernel_rfl)) (fun _ _ _ h => h) (Or.inl ⟨by rfl, ?_⟩) ?_ ?_
        rotate_left
        · intro w'
          go_simp
          with_reducible rfl
        rotate_left
        · simp only [Act.put, List.setIfInBounds_toArray, List.set_cons_zero, List.set_cons_succ, i64_w, i32_w]
          rfl
        refine pure_ (i := 6) (N := some 22) (v := ?_) (a' := ?_) #[true, true, true, false, false, true, true, false, false, false, false, false, false] rfl rfl (any_of HT_.out (by kernel_rfl)) (fun _ _ _ h => h) (Or.inl ⟨by rfl, ?_⟩) ?_ ?_
        rotate_left
        · intro w'
          go_simp
          with_reducible rfl
        rotate_left
        · simp only [Act.put, List.setIfInBounds_toArray, List.set_cons_zero, List.set_cons_succ, i64_w, i32_w]
          rfl
        refine pure_ (i := 7) (N := some 23) (v := ?_) (a' := ?_) #[true, true, true, false, false, true, true, true, false, false, false, false, false] rfl rfl (any_of HT_.out (by kernel_rfl)) (fun _ _ _ h => h) (Or.inl ⟨by rfl, ?_⟩) ?_ ?_
        rotate_left
        · intro w'
          go_simp
          with_reducible rfl
        rotate_left
        · simp only [Act.put, List.setIfInBounds_toArray, List.set_cons_zero, List.set_cons_succ, i64_w, i32_w]
          rfl
        refine pure_ (i := 8) (N := some 24) (v := ?_) (a' := ?_) #[true, true, true, false, false, true, true, true, true, false, false, false, false] rfl rfl (any_of HT_.out (by kernel_rfl)) (fun _ _ _ h => h) (Or.inl ⟨by rfl, ?_⟩) ?_ ?_
        rotate_left
        · intro w'
          go_simp
          with_reducible rfl
        rotate_left
        · simp only [Act.put, List.setIfInBounds_toArray, List.set_cons_zero, List.set_cons_succ, i64_w, i32_w]
          rfl
        refine take_ (i := 3) (N := some 19) (v := ?_) (a' := ?_) #[true, true, true, true, false, true, true, true, true, false, false, false, false] rfl rfl (take_ofW HT_.out HW_.out (by kernel_rfl)) (fun _ _ _ h => h) (Or.inl ⟨by rfl, ?_⟩) hHeld ?_ ?_
        rotate_left
        · intro w' s0
          go_simp
          with_reducible rfl
        rotate_left
        · simp only [Act.put, List.setIfInBounds_toArray, List.set_cons_zero, List.set_cons_succ, i64_w, i32_w]
          rfl
        refine take_ (i := 9) (N := some 25) (v := ?_) (a' := ?_) #[true, true, true, true, false, true, true, true, true, true, false, false, false] rfl rfl (take_ofW HT_.out HW_.out (by kernel_rfl)) (fun _ _ _ h => h) (Or.inl ⟨by rfl, ?_⟩) hHeld ?_ ?_
        rotate_left
        · intro w' s0
          go_simp
          with_reducible rfl
        rotate_left
        · simp only [Act.put, List.setIfInBounds_toArray, List.set_cons_zero, List.set_cons_succ, i64_w, i32_w]
          rfl
        refine one_ (i := 4) (N := some 20) #[true, true, true, true, true, true, true, true, true, true, false, false, false] rfl rfl (one_of HT_.out (by kernel_rfl)) (by decide) (fun K hK => ?_)
        refine goes_ Tryd.func59 (by kernel_rfl) rfl #[.string digs, .int .u8 (x.toNat : Int)] (by rfl) rfl rfl (by (try simp only [List.map_toArray, List.map_cons, List.map_nil]); first | done | rfl) ?_
        with_reducible refine (IndexByte_z x a HA.out _).mono ?_
        rintro e z1 ⟨rfl, rfl⟩
        refine ⟨_, rfl, ?_⟩
        refine hK.out _ _ ⟨(below_then hHeld.1 (Below.size hHeld.1) (Below.refl _ _)), trivial⟩ (fun hHeld => ?_)
        clear hK K
        refine norm_ (a' := ?_) ?_ ?_
        rotate_left
        · show Act.put _ (some 20) _ = _
          simp only [Act.put, List.setIfInBounds_toArray, List.set_cons_zero, List.set_cons_succ, i64_w, i32_w]
          rfl
        refine one_ (i := 10) (N := some 26) #[true, true, true, true, true, true, true, true, true, true, true, false, false] rfl rfl (one_of HT_.out (by kernel_rfl)) (by decide) (fun K hK => ?_)
        refine goes_ Tryd.func59 (by kernel_rfl) rfl #[.string digs, .int .u8 (y.toNat : Int)] (by rfl) rfl rfl (by (try simp only [List.map_toArray, List.map_cons, List.map_nil]); first | done | rfl) ?_
        with_reducible refine (IndexByte_z y b HBB.out _).mono ?_
        rintro e z2 ⟨rfl, rfl⟩
        refine ⟨_, rfl, ?_⟩
        refine hK.out _ _ ⟨(below_then hHeld.1 (Below.size hHeld.1) (Below.refl _ _)), trivial⟩ (fun hHeld => ?_)
        clear hK K
        refine norm_ (a' := ?_) ?_ ?_
        rotate_left
        · show Act.put _ (some 26) _ = _
          simp only [Act.put, List.setIfInBounds_toArray, List.set_cons_zero, List.set_cons_succ, i64_w, i32_w]
          rfl
        refine pure_ (i := 11) (N := some 6) (v := ?_) (a' := ?_) #[true, true, true, true, true, true, true, true, true, true, true, true, false] rfl rfl (any_of HT_.out (by kernel_rfl)) (fun _ _ _ h => h) (Or.inl ⟨by rfl, ?_⟩) ?_ ?_
        rotate_left
        · intro w'
          go_simp
          with_reducible rfl
        rotate_left
        · simp only [Act.put, List.setIfInBounds_toArray, List.set_cons_zero, List.set_cons_succ, i64_w, i32_w]
          rfl
        refine pure_ (i := 12) (N := some 7) (v := ?_) (a' := ?_) #[true, true, true, true, true, true, true, true, true, true, true, true, true] rfl rfl (any_of HT_.out (by kernel_rfl)) (fun _ _ _ h => h) (Or.inl ⟨by rfl, ?_⟩) ?_ ?_
        rotate_left
        · intro w'
          go_simp
          with_reducible rfl
        rotate_left
        · simp only [Act.put, List.setIfInBounds_toArray, List.set_cons_zero, List.set_cons_succ, i64_w, i32_w]
          rfl
        refine done_ (done_of HT_.out (by kernel_rfl)) ?_
        have L1_wr := Aside0.mk hHeld.1
        clear hHeld
        clear hi1 hi2 hw1 hw2
        by_cases hbad : a < 0 ∨ b < 0
        · have HPV := Aside0.mk (show pv l = List.replicate 32 0 ∧ pe l = some 3 by
            have hng : ¬ Good l := fun hg => by
              obtain ⟨o1, o2⟩ := hg.2 j hlt
              rw [← HX.out, ← HA.out] at o1
              rw [← HY.out, ← HBB.out] at o2
              omega
            exact ⟨by rw [pv, if_neg hng], by rw [pe, if_neg hng]⟩)
          rcases hbad with h1 | h2
          · go_wp2_with ((with_reducible refine at_store_ (x := .tmp 2) ?_); (refine wpList_store_row rfl 24 _ _ rfl w.heap.size (e8 (List.replicate 32 0)) _ 24 rfl rfl (blk_below HO.out L1_wr.out) HZ0.out rfl (e8_one _) ?_))
            rw [HPV.out.1]
            exact bodyPost_ret (results_ct (p := 2) (u := 3) (ty := 24) rfl _ _ w.heap.size 24 (e8 (List.replicate 32 0)) (0, 0) _ rfl (blk_setRow (blk_below HO.out L1_wr.out) _) Tryd.underlying24 rfl HZ0.out) rfl ⟨by rw [HPV.out.2]; rfl, below_setRow (below_then HW.out HW.out.size L1_wr.out) (Nat.le_refl _) _⟩
          · by_cases h1 : a < 0
            all_goals
              have h1' : a < 0 ∨ 0 ≤ a := by omega
              go_wp2_with ((with_reducible refine at_store_ (x := .tmp 2) ?_); (refine wpList_store_row rfl 24 _ _ rfl w.heap.size (e8 (List.replicate 32 0)) _ 24 rfl rfl (blk_below HO.out L1_wr.out) HZ0.out rfl (e8_one _) ?_))
              rw [HPV.out.1]
              exact bodyPost_ret (results_ct (p := 2) (u := 3) (ty := 24) rfl _ _ w.heap.size 24 (e8 (List.replicate 32 0)) (0, 0) _ rfl (blk_setRow (blk_below HO.out L1_wr.out) _) Tryd.underlying24 rfl HZ0.out) rfl ⟨by rw [HPV.out.2]; rfl, below_setRow (below_then HW.out HW.out.size L1_wr.out) (Nat.le_refl _) _⟩
        · obtain ⟨p, rfl⟩ := Int.eq_ofNat_of_zero_le (show 0 ≤ a by omega)
          obtain ⟨q, rfl⟩ := Int.eq_ofNat_of_zero_le (show 0 ≤ b by omega)
          have hp : p < 16 := by omega
          have hq : q < 16 := by omega
          have hp0 : (0 : Int) ≤ (p : Int) := by omega
          have hq0 : (0 : Int) ≤ (q : Int) := by omega
          have hpi : (p : Int) ≤ 15 := by omega
          have hqi : (q : Int) ≤ 15 := by omega
          have HK := Aside0.mk (show okAt l j by unfold okAt; rw [← HX.out, ← HY.out, ← HA.out, ← HBB.out]; omega)
          have HV := Aside0.mk (show byteAt l j = UInt8.ofNat (p * 16 + q) by rw [byteAt, ← HX.out, ← HY.out, ← HA.out, ← HBB.out, Int.toNat_natCast, Int.toNat_natCast])
          have HZV := Aside0.mk (show ((byteAt l j).toNat : Int) = (p : Int) * 16 + q by rw [HV.out, UInt8.toNat_ofNat', Nat.mod_eq_of_lt (by omega)]; omega)
          have hor := or16 p q hp hq
          have cy := blk8 (blk_below HB.out L1_wr.out) j (by rw [List.length_append, upB_len, List.length_replicate]; omega)
          have cf := blk_frozen (blk_below HB.out L1_wr.out) j
          have HS := Aside0.mk (show (upB l j ++ List.replicate (32 - j) 0).set j (byteAt l j) = upB l (j + 1) ++ List.replicate (32 - (j + 1)) 0 by rw [set_pad _ _ 0 j 32 (upB_len l j) hlt, upB_succ])
          clear hbad hr hr2
          go_wp2
          go_roundw
          case rel => exact ⟨j + 1, by omega, by go_num, ⟨fun r hr => by
            rcases Nat.lt_or_ge r j with h | h
            · exact HG.out r h
            · rw [show r = j by omega]; exact HK.out⟩, ⟨blk_far (blk_below HO.out L1_wr.out) (by simp) _⟩, ⟨by rw [← HS.out]; exact blk8_set (blk_below HB.out L1_wr.out) j _ _ (by first | (rw [HZV.out]; done) | (rw [HZV.out]; omega))⟩, ⟨(below_then HW.out HW.out.size L1_wr.out).setCell (by simp) _⟩⟩
          case measure => simp [intOf]; omega
      · obtain rfl : j = 32 := by omega
        clear hlt
        have HGD := Aside0.mk (show Good l from ⟨HL.out, HG.out⟩)
        have HPV := Aside0.mk (show upB l 32 ++ List.replicate (32 - 32) 0 = pv l by rw [pv, if_pos HGD.out]; exact List.append_nil _)
        have HPE := Aside0.mk (show pe l = none by rw [pe, if_pos HGD.out])
        have HZ := Aside0.mk (sz32t (pv l) (pv_len l))
        have HB2 := Aside0.mk (show Blk wr (w.heap.size + 1) 24 (e8 (pv l)) by rw [← HPV.out]; exact HB.out)
        rw [show ((32 : Nat) : Int) = 32 from rfl]
        go_wp2_with (first
          | ((with_reducible refine at_load_ (x := .tmp 4) ?_); (refine wpList_load_row rfl 24 _ rfl (w.heap.size + 1) rfl 24 (e8 (pv l)) (0, 0) _ HB2.out Tryd.underlying24 rfl HZ.out ?_))
          | ((with_reducible refine at_store_ (x := .tmp 2) ?_); (refine wpList_store_row rfl 24 _ _ rfl w.heap.size (e8 (pv l)) _ 24 rfl rfl HO.out HZ.out (by rw [e8_size, e8_size, pv_len]; rfl) (e8_one _) ?_)))
        exact bodyPost_ret (results_ct (p := 2) (u := 3) (ty := 24) rfl _ _ w.heap.size 24 (e8 (pv l)) (0, 0) _ rfl (blk_setRow HO.out _) Tryd.underlying24 rfl HZ.out) rfl ⟨by rw [HPE.out]; rfl, below_setRow HW.out (Nat.le_refl _) _⟩
  · have HNG := Aside0.mk (show pv l = List.replicate 32 0 ∧ pe l = some 3 by
      have hng : ¬ Good l := fun hg => h64 hg.1
      exact ⟨by rw [pv, if_neg hng], by rw [pe, if_neg hng]⟩)
    obtain ⟨n, hn⟩ : ∃ n, n = (strOf l).size := ⟨_, rfl⟩
    have hne : ((n : Int) == 64) = false := by rw [hn, hs0]; exact beq_eq_false_iff_ne.2 (by omega)
    have hne2 : ((n : Int) != 64) = true := by rw [hn, hs0, bne_iff_ne]; omega
    replace hn := hn.symm
    clear hs0 h64
    go_enter Tryd.func16, Tryd.ntmps16
    go_wp2_with ((with_reducible refine at_store_ (x := .tmp 2) ?_); (refine wpList_store_row rfl 24 _ _ rfl w.heap.size (e8 (List.replicate 32 0)) _ 24 rfl rfl (blk_alloc (blk_new w _) _) HZ0.out rfl (e8_one _) ?_))
    rw [HNG.out.1]
    exact bodyPost_ret (results_ct (p := 2) (u := 3) (ty := 24) rfl _ _ w.heap.size 24 (e8 (List.replicate 32 0)) (0, 0) _ rfl (blk_setRow (blk_alloc (blk_new w _) _) _) Tryd.underlying24 rfl HZ0.out) rfl ⟨by rw [HNG.out.2]; rfl, below_setRow (below_alloc (below_new _) _) (Nat.le_refl _) _⟩

def f17_r7.T7 : Bool × List (List Nat × List Nat) := (true, [([], []), ([], []), ([1], [1]), ([0, 2], [0, 2]), ([3], [3]), ([], []), ([], []), ([6], [6]), ([7], [7]), ([5, 8], [5, 8]), ([9, 4], [9]), ([4, 10, 0, 1, 2, 3, 4], [4]), ([10, 11, 0, 1, 2, 3, 4, 5, 6, 7, 8, 9, 10, 11], [10])])
def f17_r7.B7 : List Nat := [0, 0, 2, 7, 15, 0, 0, 64, 192, 480, 1023, 2047, 4095]
theorem f17_r7.tab7 : Go.Proofs.YthmlidlnojdggaaDoorW.PrintLast.rtab .any (Go.Proofs.YthmlidlnojdggaaDoorW.PrintLast.opsOf Tryd.f17 7) = f17_r7.T7 := by kernel_rfl
theorem f17_r7.bits7 : Go.Proofs.YthmlidlnojdggaaDoorW.PrintLast.waitsOk f17_r7.T7.2 f17_r7.B7 = true := by kernel_rfl
set_option maxRecDepth 100000 in
set_option maxHeartbeats 4000000 in
theorem RefParse_calls (l : List UInt8) (w : World) :
    Calls Tryd.prog 17 #[.string (strOf l)] w fun e w' => e = .returned (.tuple #[.agg (e8 (pv l)), .int .i64 (errN (pe l))]) ∧ Below w.heap.size w w' := by
  have hs0 : (strOf l).size = l.length := by simp [strOf, ByteArray.size]
  have HZ0 := Aside0.mk (sz32t (List.replicate 32 0) rfl)
  by_cases h64 : l.length = 64
  · have HL := Aside0.mk h64
    have hsz : (strOf l).size = 64 := by rw [hs0, h64]
    clear hs0 h64
    go_enter Tryd.func17, Tryd.ntmps17
    go_wp2
    go_loopw [5, 6, 7] (fun i _ _ wr => ∃ j : Nat, j ≤ 32 ∧ i = .int .i64 j ∧ Aside0 (∀ q, q < j → okAt l q) ∧ Aside0 (Blk wr w.heap.size 24 (e8 (List.replicate 32 0))) ∧ Aside0 (Blk wr (w.heap.size + 1) 24 (e8 (upB l j ++ List.replicate (32 - j) 0))) ∧ Aside0 (Below w.heap.size w wr)) (fun i _ _ _ => 32 - (intOf i).toNat)
    case atStart => exact ⟨0, by decide, rfl, ⟨fun q hq => absurd hq (Nat.not_lt_zero q)⟩, ⟨blk_alloc (blk_new w _) _⟩, ⟨blk_new1 w _ _ _⟩, ⟨below_alloc (below_new _) _⟩⟩
    case round =>
      obtain ⟨j, hj, rfl, HG, HO, HB, HW⟩ := hrel
      by_cases hlt : j < 32
      · have hji : (j : Int) < 32 := by omega
        obtain ⟨x, hx⟩ : ∃ x, x = l.getD (2 * j) 0 := ⟨_, rfl⟩
        obtain ⟨y, hy⟩ : ∃ y, y = l.getD (2 * j + 1) 0 := ⟨_, rfl⟩
        have hw1 : wrap64 (2 * (j : Int)) = 2 * (j : Int) := by unfold wrap64; omega
        have hw2 : wrap64 (2 * (j : Int) + 1) = 2 * (j : Int) + 1 := by unfold wrap64; omega
        have hi1 : ∀ w, (Instr.index 9 (.string (strOf l)) (.int .i64 (2 * (j : Int)))).run Tryd.prog w = .ok (.int .u8 (x.toNat : Int)) w := fun w => str_index l .i64 (2 * j) (by rw [HL.out]; omega) x hx _ (by omega) w
        have hi2 : ∀ w, (Instr.index 9 (.string (strOf l)) (.int .i64 (2 * (j : Int) + 1))).run Tryd.prog w = .ok (.int .u8 (y.toNat : Int)) w := fun w => str_index l .i64 (2 * j + 1) (by rw [HL.out]; omega) y hy _ (by omega) w
        have HX := Aside0.mk hx
        have HY := Aside0.mk hy
        clear hx hy
        obtain ⟨a, ha⟩ : ∃ a, a = dg x := ⟨_, rfl⟩
        obtain ⟨b, hb⟩ : ∃ b, b = dg y := ⟨_, rfl⟩
        have hr := dg_range x
        have hr2 := dg_range y
        rw [← ha] at hr
        rw [← hb] at hr2
        have HA := Aside0.mk ha
        have HBB := Aside0.mk hb
        clear ha hb
        go_wp2
        refine start_ (n := 13) (S := fun w' => Below wr.heap.size wr w' ∧ True) (ds := []) #[false, false, false, false, false, false, false, false, false, false, false, false, false] (by kernel_rfl) rfl rfl ⟨below_drew (Below.refl _ _), trivial⟩ (fun hHeld => ?_)
        refine with_tabW f17_r7.tab7 f17_r7.bits7 (fun HT_ HW_ => ?_)
        refine pure_ (i := 0) (N := some 16) (v := ?_) (a' := ?_) #[true, false, false, false, false, false, false, false, false, false, false, false, false] rfl rfl (any_of HT_.out (by kernel_rfl)) (fun _ _ _ h => h) (Or.inl ⟨by rfl, ?_⟩) ?_ ?_
        rotate_left
        · intro w'
          go_simp
          with_reducible rfl
        rotate_left
        · simp only [Act.put, List.setIfInBounds_toArray, List.set_cons_zero, List.set_cons_succ, i64_w, i32_w]
          rfl
        refine pure_ (i := 1) (N := some 17) (v := ?_) (a' := ?_) #[true, true, false, false, false, false, false, false, false, false, false, false, false] rfl rfl (any_of HT_.out (by kernel_rfl)) (fun _ _ _ h => h) (Or.inl ⟨by rfl, ?_⟩) ?_ ?_
        rotate_left
        · intro w'
          go_simp
          with_reducible rfl
        rotate_left
        · simp only [Act.put, List.setIfInBounds_toArray, List.set_cons_zero, List.set_cons_succ, i64_w, i32_w]
          rfl
        refine pure_ (i := 2) (N := some 18) (v := ?_) (a' := ?_) #[true, true, true, false, false, false, false, false, false, false, false, false, false] rfl rfl (any_of HT_.out (by kernel_rfl)) (fun _ _ _ h => h) (Or.inl ⟨by rfl, ?_⟩) ?_ ?_
        rotate_left
        · intro w'
          go_simp
          with_reducible rfl
        rotate_left
        · simp only [Act.put, List.setIfInBounds_toArray, List.set_cons_zero, List.set_cons_succ, i64_w, i32_w]
          rfl
        refine pure_ (i := 5) (N := some 21) (v := ?_) (a' := ?_) #[true, true, true, false, false, true, false, false, false, false, false, false, false] rfl rfl (any_of HT_.out (by kernel_rfl)) (fun _ _ _ h => h) (Or.inl ⟨by rfl, ?_⟩) ?_ ?_
        rotate_left
        · intro w'
          go_simp
          with_reducible rfl
        rotate_left
        · simp only [Act.put, List.setIfInBounds_toArray, List.set_cons_zero, List.set_cons_succ, i64_w, i32_w]
          rfl
        refine pure_ (i := 6) (N := some 22) (v := ?_) (a' := ?_) #[true, true, true, false, false, true, true, false, false, false, false, false, false] rfl rfl (any_of HT_.out (by kernel_rfl)) (fun _ _ _ h => h) (Or.inl ⟨by rfl, ?_⟩) ?_ ?_
        rotate_left
        · intro w'
          go_simp
          with_reducible rfl
        rotate_left
        · simp only [Act.put, List.setIfInBounds_toArray, List.set_cons_zero, List.set_cons_succ, i64_w, i32_w]
          rfl
        refine pure_ (i := 7) (N := some 23) (v := ?_) (a' := ?_) #[true, true, true, false, false, true, true, true, false, false, false, false, false] rfl rfl (any_of HT_.out (by kernel_rfl)) (fun _ _ _ h => h) (Or.inl ⟨by rfl, ?_⟩) ?_ ?_
        rotate_left
        · intro w'
          go_simp
          with_reducible rfl
        rotate_left
        · simp only [Act.put, List.setIfInBounds_toArray, List.set_cons_zero, List.set_cons_succ, i64_w, i32_w]
          rfl
        refine pure_ (i := 8) (N := some 24) (v := ?_) (a' := ?_) #[true, true, true, false, false, true, true, true, true, false, false, false, false] rfl rfl (any_of HT_.out (by kernel_rfl)) (fun _ _ _ h => h) (Or.inl ⟨by rfl, ?_⟩) ?_ ?_
        rotate_left
        · intro w'
          go_simp
          with_reducible rfl
        rotate_left
        · simp only [Act.put, List.setIfInBounds_toArray, List.set_cons_zero, List.set_cons_succ, i64_w, i32_w]
          rfl
        refine take_ (i := 3) (N := some 19) (v := ?_) (a' := ?_) #[true, true, true, true, false, true, true, true, true, false, false, false, false] rfl rfl (take_ofW HT_.out HW_.out (by kernel_rfl)) (fun _ _ _ h => h) (Or.inl ⟨by rfl, ?_⟩) hHeld ?_ ?_
        rotate_left
        · intro w' s0
          go_simp
          with_reducible rfl
        rotate_left
        · simp only [Act.put, List.setIfInBounds_toArray, List.set_cons_zero, List.set_cons_succ, i64_w, i32_w]
          rfl
        refine take_ (i := 9) (N := some 25) (v := ?_) (a' := ?_) #[true, true, true, true, false, true, true, true, true, true, false, false, false] rfl rfl (take_ofW HT_.out HW_.out (by kernel_rfl)) (fun _ _ _ h => h) (Or.inl ⟨by rfl, ?_⟩) hHeld ?_ ?_
        rotate_left
        · intro w' s0
          go_simp
          with_reducible rfl
        rotate_left
        · simp only [Act.put, List.setIfInBounds_toArray, List.set_cons_zero, List.set_cons_succ, i64_w, i32_w]
          rfl
        refine one_ (i := 4) (N := some 20) #[true, true, true, true, true, true, true, true, true, true, false, false, false] rfl rfl (one_of HT_.out (by kernel_rfl)) (by decide) (fun K hK => ?_)
        refine goes_ Tryd.func60 (by kernel_rfl) rfl #[.int .u8 (x.toNat : Int)] (by rfl) rfl rfl (by (try simp only [List.map_toArray, List.map_cons, List.map_nil]); first | done | rfl) ?_
        with_reducible refine (digit_z x a HA.out _).mono ?_
        rintro e z1 ⟨rfl, rfl⟩
        refine ⟨_, rfl, ?_⟩
        refine hK.out _ _ ⟨(below_then hHeld.1 (Below.size hHeld.1) (Below.refl _ _)), trivial⟩ (fun hHeld => ?_)
        clear hK K
        refine norm_ (a' := ?_) ?_ ?_
        rotate_left
        · show Act.put _ (some 20) _ = _
          simp only [Act.put, List.setIfInBounds_toArray, List.set_cons_zero, List.set_cons_succ, i64_w, i32_w]
          rfl
        refine one_ (i := 10) (N := some 26) #[true, true, true, true, true, true, true, true, true, true, true, false, false] rfl rfl (one_of HT_.out (by kernel_rfl)) (by decide) (fun K hK => ?_)
        refine goes_ Tryd.func60 (by kernel_rfl) rfl #[.int .u8 (y.toNat : Int)] (by rfl) rfl rfl (by (try simp only [List.map_toArray, List.map_cons, List.map_nil]); first | done | rfl) ?_
        with_reducible refine (digit_z y b HBB.out _).mono ?_
        rintro e z2 ⟨rfl, rfl⟩
        refine ⟨_, rfl, ?_⟩
        refine hK.out _ _ ⟨(below_then hHeld.1 (Below.size hHeld.1) (Below.refl _ _)), trivial⟩ (fun hHeld => ?_)
        clear hK K
        refine norm_ (a' := ?_) ?_ ?_
        rotate_left
        · show Act.put _ (some 26) _ = _
          simp only [Act.put, List.setIfInBounds_toArray, List.set_cons_zero, List.set_cons_succ, i64_w, i32_w]
          rfl
        refine pure_ (i := 11) (N := some 6) (v := ?_) (a' := ?_) #[true, true, true, true, true, true, true, true, true, true, true, true, false] rfl rfl (any_of HT_.out (by kernel_rfl)) (fun _ _ _ h => h) (Or.inl ⟨by rfl, ?_⟩) ?_ ?_
        rotate_left
        · intro w'
          go_simp
          with_reducible rfl
        rotate_left
        · simp only [Act.put, List.setIfInBounds_toArray, List.set_cons_zero, List.set_cons_succ, i64_w, i32_w]
          rfl
        refine pure_ (i := 12) (N := some 7) (v := ?_) (a' := ?_) #[true, true, true, true, true, true, true, true, true, true, true, true, true] rfl rfl (any_of HT_.out (by kernel_rfl)) (fun _ _ _ h => h) (Or.inl ⟨by rfl, ?_⟩) ?_ ?_
        rotate_left
        · intro w'
          go_simp
          with_reducible rfl
        rotate_left
        · simp only [Act.put, List.setIfInBounds_toArray, List.set_cons_zero, List.set_cons_succ, i64_w, i32_w]
          rfl
        refine done_ (done_of HT_.out (by kernel_rfl)) ?_
        have L2_wr := Aside0.mk hHeld.1
        clear hHeld
        clear hi1 hi2 hw1 hw2
        by_cases hbad : a < 0 ∨ b < 0
        · have HPV := Aside0.mk (show pv l = List.replicate 32 0 ∧ pe l = some 3 by
            have hng : ¬ Good l := fun hg => by
              obtain ⟨o1, o2⟩ := hg.2 j hlt
              rw [← HX.out, ← HA.out] at o1
              rw [← HY.out, ← HBB.out] at o2
              omega
            exact ⟨by rw [pv, if_neg hng], by rw [pe, if_neg hng]⟩)
          rcases hbad with h1 | h2
          · go_wp2_with ((with_reducible refine at_store_ (x := .tmp 2) ?_); (refine wpList_store_row rfl 24 _ _ rfl w.heap.size (e8 (List.replicate 32 0)) _ 24 rfl rfl (blk_below HO.out L2_wr.out) HZ0.out rfl (e8_one _) ?_))
            rw [HPV.out.1]
            exact bodyPost_ret (results_ct (p := 2) (u := 3) (ty := 24) rfl _ _ w.heap.size 24 (e8 (List.replicate 32 0)) (0, 0) _ rfl (blk_setRow (blk_below HO.out L2_wr.out) _) Tryd.underlying24 rfl HZ0.out) rfl ⟨by rw [HPV.out.2]; rfl, below_setRow (below_then HW.out HW.out.size L2_wr.out) (Nat.le_refl _) _⟩
          · by_cases h1 : a < 0
            all_goals
              have h1' : a < 0 ∨ 0 ≤ a := by omega
              go_wp2_with ((with_reducible refine at_store_ (x := .tmp 2) ?_); (refine wpList_store_row rfl 24 _ _ rfl w.heap.size (e8 (List.replicate 32 0)) _ 24 rfl rfl (blk_below HO.out L2_wr.out) HZ0.out rfl (e8_one _) ?_))
              rw [HPV.out.1]
              exact bodyPost_ret (results_ct (p := 2) (u := 3) (ty := 24) rfl _ _ w.heap.size 24 (e8 (List.replicate 32 0)) (0, 0) _ rfl (blk_setRow (blk_below HO.out L2_wr.out) _) Tryd.underlying24 rfl HZ0.out) rfl ⟨by rw [HPV.out.2]; rfl, below_setRow (below_then HW.out HW.out.size L2_wr.out) (Nat.le_refl _) _⟩
        · obtain ⟨p, rfl⟩ := Int.eq_ofNat_of_zero_le (show 0 ≤ a by omega)
          obtain ⟨q, rfl⟩ := Int.eq_ofNat_of_zero_le (show 0 ≤ b by omega)
          have hp : p < 16 := by omega
          have hq : q < 16 := by omega
          have hp0 : (0 : Int) ≤ (p : Int) := by omega
          have hq0 : (0 : Int) ≤ (q : Int) := by omega
          have hpi : (p : Int) ≤ 15 := by omega
          have hqi : (q : Int) ≤ 15 := by omega
          have HK := Aside0.mk (show okAt l j by unfold okAt; rw [← HX.out, ← HY.out, ← HA.out, ← HBB.out]; omega)
          have HV := Aside0.mk (show byteAt l j = UInt8.ofNat (p * 16 + q) by rw [byteAt, ← HX.out, ← HY.out, ← HA.out, ← HBB.out, Int.toNat_natCast, Int.toNat_natCast])
          have HZV := Aside0.mk (show ((byteAt l j).toNat : Int) = (p : Int) * 16 + q by rw [HV.out, UInt8.toNat_ofNat', Nat.mod_eq_of_lt (by omega)]; omega)
          have hor := or16 p q hp hq
          have cy := blk8 (blk_below HB.out L2_wr.out) j (by rw [List.length_append, upB_len, List.length_replicate]; omega)
          have cf := blk_frozen (blk_below HB.out L2_wr.out) j
          have HS := Aside0.mk (show (upB l j ++ List.replicate (32 - j) 0).set j (byteAt l j) = upB l (j + 1) ++ List.replicate (32 - (j + 1)) 0 by rw [set_pad _ _ 0 j 32 (upB_len l j) hlt, upB_succ])
          clear hbad hr hr2
          go_wp2
          go_roundw
          case rel => exact ⟨j + 1, by omega, by go_num, ⟨fun r hr => by
            rcases Nat.lt_or_ge r j with h | h
            · exact HG.out r h
            · rw [show r = j by omega]; exact HK.out⟩, ⟨blk_far (blk_below HO.out L2_wr.out) (by simp) _⟩, ⟨by rw [← HS.out]; exact blk8_set (blk_below HB.out L2_wr.out) j _ _ (by first | (rw [HZV.out]; done) | (rw [HZV.out]; omega))⟩, ⟨(below_then HW.out HW.out.size L2_wr.out).setCell (by simp) _⟩⟩
          case measure => simp [intOf]; omega
      · obtain rfl : j = 32 := by omega
        clear hlt
        have HGD := Aside0.mk (show Good l from ⟨HL.out, HG.out⟩)
        have HPV := Aside0.mk (show upB l 32 ++ List.replicate (32 - 32) 0 = pv l by rw [pv, if_pos HGD.out]; exact List.append_nil _)
        have HPE := Aside0.mk (show pe l = none by rw [pe, if_pos HGD.out])
        have HZ := Aside0.mk (sz32t (pv l) (pv_len l))
        have HB2 := Aside0.mk (show Blk wr (w.heap.size + 1) 24 (e8 (pv l)) by rw [← HPV.out]; exact HB.out)
        rw [show ((32 : Nat) : Int) = 32 from rfl]
        go_wp2_with (first
          | ((with_reducible refine at_load_ (x := .tmp 4) ?_); (refine wpList_load_row rfl 24 _ rfl (w.heap.size + 1) rfl 24 (e8 (pv l)) (0, 0) _ HB2.out Tryd.underlying24 rfl HZ.out ?_))
          | ((with_reducible refine at_store_ (x := .tmp 2) ?_); (refine wpList_store_row rfl 24 _ _ rfl w.heap.size (e8 (pv l)) _ 24 rfl rfl HO.out HZ.out (by rw [e8_size, e8_size, pv_len]; rfl) (e8_one _) ?_)))
        exact bodyPost_ret (results_ct (p := 2) (u := 3) (ty := 24) rfl _ _ w.heap.size 24 (e8 (pv l)) (0, 0) _ rfl (blk_setRow HO.out _) Tryd.underlying24 rfl HZ.out) rfl ⟨by rw [HPE.out]; rfl, below_setRow HW.out (Nat.le_refl _) _⟩
  · have HNG := Aside0.mk (show pv l = List.replicate 32 0 ∧ pe l = some 3 by
      have hng : ¬ Good l := fun hg => h64 hg.1
      exact ⟨by rw [pv, if_neg hng], by rw [pe, if_neg hng]⟩)
    obtain ⟨n, hn⟩ : ∃ n, n = (strOf l).size := ⟨_, rfl⟩
    have hne : ((n : Int) == 64) = false := by rw [hn, hs0]; exact beq_eq_false_iff_ne.2 (by omega)
    have hne2 : ((n : Int) != 64) = true := by rw [hn, hs0, bne_iff_ne]; omega
    replace hn := hn.symm
    clear hs0 h64
    go_enter Tryd.func17, Tryd.ntmps17
    go_wp2_with ((with_reducible refine at_store_ (x := .tmp 2) ?_); (refine wpList_store_row rfl 24 _ _ rfl w.heap.size (e8 (List.replicate 32 0)) _ 24 rfl rfl (blk_new w _) HZ0.out rfl (e8_one _) ?_))
    rw [HNG.out.1]
    exact bodyPost_ret (results_ct (p := 2) (u := 3) (ty := 24) rfl _ _ w.heap.size 24 (e8 (List.replicate 32 0)) (0, 0) _ rfl (blk_setRow (blk_new w _) _) Tryd.underlying24 rfl HZ0.out) rfl ⟨by rw [HNG.out.2]; rfl, below_setRow (below_new _) (Nat.le_refl _) _⟩
end Go.Proofs.YthmlidlnojdggaaDoor.Sha
