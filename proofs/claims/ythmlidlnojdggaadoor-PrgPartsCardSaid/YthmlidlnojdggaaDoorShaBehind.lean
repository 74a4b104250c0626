/- sha's behind by a contract. -/
import Derived.Test.YthmlidlnojdggaaDoorShaSpread
set_option linter.unusedVariables false
set_option linter.unusedSimpArgs false
namespace Go.Proofs.YthmlidlnojdggaaDoor.Sha
open Go.RowKit Go.Proofs.YthmlidlnojdggaaDoorW.PrintWords Go.Proofs.YthmlidlnojdggaaDoorW.PrintLast

theorem round_st (s : St) (k x : Wd) (w : World) : Calls Tryd.prog 84 #[.agg (e32 s.list), .int .u32 (k.toNat : Int), .int .u32 (x.toNat : Int)] w
    fun r w' => r = .returned (.agg (e32 (rnd s k x).list)) ∧ Below w.heap.size w w' := round_calls s.a s.b s.c s.d s.e s.f s.g s.h k x w
/-- The first i words are sums. -/
def mix (r s : St) (i : Nat) : List Wd := (plus r s).list.take i ++ r.list.drop i
theorem mix_len (r s : St) (i : Nat) (h : i ≤ 8) : (mix r s i).length = 8 := by
  rw [mix, List.length_append, List.length_take, List.length_drop]
  show min i 8 + (8 - i) = 8
  omega
theorem mix_at (r s : St) (i : Nat) (h : i < 8) : (mix r s i).getD i 0 = r.list.getD i 0 ∧ (mix r s i).set i (r.list.getD i 0 + s.list.getD i 0) = mix r s (i + 1) := by
  rcases (show i = 0 ∨ i = 1 ∨ i = 2 ∨ i = 3 ∨ i = 4 ∨ i = 5 ∨ i = 6 ∨ i = 7 by omega) with rfl | rfl | rfl | rfl | rfl | rfl | rfl | rfl <;> exact ⟨rfl, rfl⟩
theorem sum2_int (a b : Wd) : ((a.toNat : Int) + b.toNat) % 4294967296 = ((a + b).toNat : Int) := by
  rw [BitVec.toNat_add]
  omega
theorem sz8 (s : St) : (Tryd.prog.info? 90).map (·.size) = some (e32 s.list).size := by rw [e32_size]; kernel_rfl
theorem sz8' (l : List Wd) (h : l.length = 8) : (Tryd.prog.info? 90).map (·.size) = some (e32 l).size := by rw [e32_size, h]; kernel_rfl
def f53_r5.T5 : Bool × List (List Nat × List Nat) := (true, [([], []), ([], []), ([1], [1]), ([2], [2]), ([], []), ([0, 3, 4], [0, 3, 4]), ([5, 5, 0, 1, 2, 3, 4, 5], [5])])
def f53_r5.B5 : List Nat := [0, 0, 2, 6, 0, 31, 63]
theorem f53_r5.tab5 : Go.Proofs.YthmlidlnojdggaaDoorW.PrintLast.rtab .any (Go.Proofs.YthmlidlnojdggaaDoorW.PrintLast.opsOf Tryd.f53 5) = f53_r5.T5 := by kernel_rfl
theorem f53_r5.bits5 : Go.Proofs.YthmlidlnojdggaaDoorW.PrintLast.waitsOk f53_r5.T5.2 f53_r5.B5 = true := by kernel_rfl
def f53_r10.T10 : Bool × List (List Nat × List Nat) := (true, [([], []), ([0], [0]), ([1], [1]), ([], []), ([3], [3]), ([4], [4]), ([2, 5], [2, 5]), ([0, 0, 1, 2, 3, 4, 5, 6], [0]), ([7, 6, 0, 1, 2, 3, 4, 5, 6], [6, 7])])
def f53_r10.B10 : List Nat := [0, 1, 3, 0, 8, 24, 63, 127, 255]
theorem f53_r10.tab10 : Go.Proofs.YthmlidlnojdggaaDoorW.PrintLast.rtab .any (Go.Proofs.YthmlidlnojdggaaDoorW.PrintLast.opsOf Tryd.f53 10) = f53_r10.T10 := by kernel_rfl
theorem f53_r10.bits10 : Go.Proofs.YthmlidlnojdggaaDoorW.PrintLast.waitsOk f53_r10.T10.2 f53_r10.B10 = true := by kernel_rfl
set_option maxRecDepth 100000 in
set_option maxHeartbeats 4000000 in
theorem behind_calls (s : St) (A : Option Addr) (c : Nat) (l : List UInt8) (w : World) (hr : Kb.C w A 64 l) (hl : l.length = 64) (hc : 64 ≤ c) :
    Calls Tryd.prog 53 #[.agg (e32 s.list), .slice A 64 c, .agg (e32 kt)] w fun e w' => e = .returned (.agg (e32 (behind s l).list)) ∧ Below w.heap.size w w' := by
  have HR := Aside0.mk hr
  have HL := Aside0.mk hl
  clear hr hl
  go_enter Tryd.func53, Tryd.ntmps53
  go_wp2_with (first | ((with_reducible refine at_load_ (x := .tmp 3) ?_); (refine wpList_load_row rfl 90 _ rfl w.heap.size rfl 90 (e32 s.list) (0, 0) _ (blk_alloc (blk_alloc (blk_new _ _) _) _) Tryd.underlying90 rfl (sz8 s) ?_)) | ((with_reducible refine at_store_ (x := .tmp 7) ?_); (refine wpList_store_row rfl 90 _ _ rfl (w.heap.size + 3) (e32 s.list) _ 90 rfl rfl (blk_new3 _ _ _ _ _ _) (sz8 s) (by rw [e32_size]; rfl) (e32_one _) ?_)))
  refine (spread_calls A c l _ (Kd.C_below HR.out (below_setRow (below_alloc (below_alloc (below_alloc (below_new _) _) _) _) (by omega) _)) HL.out hc).mono ?_
  rintro e w1 ⟨rfl, hb⟩
  have HW := Aside0.mk (below_then (below_setRow (g := w.heap.size + 3) (below_alloc (below_alloc (below_alloc (below_new _) _) _) _) (by omega) _) (by simp; omega) hb)
  have HS := Aside0.mk (blk_below (blk_setRow_far (blk_alloc (blk_alloc (blk_alloc (blk_new _ _) _) _) _) (by omega) _) hb)
  have HK := Aside0.mk (blk_below (blk_setRow_far (blk_alloc (blk_alloc (blk_new1 _ _ _ _) _) _) (by omega) _) hb)
  have HZ := Aside0.mk (blk_below (blk_setRow_far (blk_alloc (blk_new2 _ _ _ _ _) _) (by omega) _) hb)
  have HT := Aside0.mk (blk_below (blk_setRow (blk_new3 _ _ _ _ _ _) _) hb)
  clear hb
  go_wp2
  go_loopw [8, 9, 14] (fun _ _ i wr => ∃ t : Nat, t ≤ 64 ∧ i = .int .i64 t ∧ Aside0 (Blk wr (w.heap.size + 3) 90 (e32 (rnds l s t).list)) ∧ Aside0 (Blk wr w.heap.size 90 (e32 s.list)) ∧ Aside0 (Blk wr (w.heap.size + 1) 92 (e32 kt)) ∧ Aside0 (Blk wr (w.heap.size + 2) 90 #[.int .u32 0, .int .u32 0, .int .u32 0, .int .u32 0, .int .u32 0, .int .u32 0, .int .u32 0, .int .u32 0]) ∧ Aside0 (Below w.heap.size w wr)) (fun _ _ i _ => 64 - (intOf i).toNat)
  case atStart => exact ⟨0, Nat.zero_le _, rfl, HT, HS, HK, HZ, HW⟩
  case round =>
    clear HT HS HK HZ HW
    obtain ⟨t, ht, rfl, HT, HS, HK, HZ, HW⟩ := hrel
    by_cases hlt : t < 64
    · obtain ⟨x, hx⟩ : ∃ x, x = (spread l).getD t 0 := ⟨_, rfl⟩
      obtain ⟨k, hk⟩ : ∃ x, x = kt.getD t 0 := ⟨_, rfl⟩
      have hix := run_index_row (P := Tryd.prog) Tryd.underlying92 Tryd.isAgg52 Tryd.sizeOf52 (e32 (spread l)) .i64 t (.int .u32 (x.toNat : Int)) hlt (by rw [e32_get _ _ (by rw [spread_len]; exact hlt), hx])
      have hkc := blk32 HK.out t (by rw [kt_len]; exact hlt)
      rw [← hk] at hkc
      obtain ⟨q, hq⟩ : ∃ q, q = rnds l s t := ⟨_, rfl⟩
      have HN := Aside0.mk (show rnds l s (t + 1) = rnd q k x by rw [hq, hk, hx]; rfl)
      rw [← hq] at HT
      have h64 : (t : Int) < 64 := by omega
      clear hx hk hq
      go_wp2
      refine start_ (n := 7) (S := fun w' => Blk w' (w.heap.size + 3) 90 (e32 q.list) ∧ w'.cell? ⟨w.heap.size + 1, t, none⟩ = some (.int .u32 (k.toNat : Int)) ∧ True) (ds := [6]) #[false, false, false, false, false, false, false] (by kernel_rfl) rfl rfl ⟨blk_drew HT.out, hkc, trivial⟩ (fun hHeld => ?_)
      refine with_tabW f53_r5.tab5 f53_r5.bits5 (fun HT_ HW_ => ?_)
      refine pure_ (i := 1) (N := some 19) (v := ?_) (a' := ?_) #[false, true, false, false, false, false, false] rfl rfl (any_of HT_.out (by kernel_rfl)) (fun _ _ _ h => h) (Or.inl ⟨by rfl, ?_⟩) ?_ ?_
      rotate_left
      · intro w'
        go_simp
        with_reducible rfl
      rotate_left
      · simp only [Act.put, List.setIfInBounds_toArray, List.set_cons_zero, List.set_cons_succ, i64_w, i32_w]
        rfl
      refine pure_ (i := 2) (N := some 20) (v := ?_) (a' := ?_) #[false, true, true, false, false, false, false] rfl rfl (any_of HT_.out (by kernel_rfl)) (fun _ _ _ h => h) (Or.inl ⟨by rfl, ?_⟩) ?_ ?_
      rotate_left
      · intro w'
        go_simp
        with_reducible rfl
      rotate_left
      · simp only [Act.put, List.setIfInBounds_toArray, List.set_cons_zero, List.set_cons_succ, i64_w, i32_w]
        rfl
      refine pure_ (i := 4) (N := some 22) (v := ?_) (a' := ?_) #[false, true, true, false, true, false, false] rfl rfl (any_of HT_.out (by kernel_rfl)) (fun _ _ _ h => h) (Or.inl ⟨by rfl, ?_⟩) ?_ ?_
      rotate_left
      · intro w'
        go_simp
        with_reducible rfl
      rotate_left
      · simp only [Act.put, List.setIfInBounds_toArray, List.set_cons_zero, List.set_cons_succ, i64_w, i32_w]
        rfl
      refine take_ (i := 0) (N := some 18) (v := ?_) (a' := ?_) #[true, true, true, false, true, false, false] rfl rfl (take_ofW HT_.out HW_.out (by kernel_rfl)) (fun _ _ _ h => h) (Or.inl ⟨by rfl, ?_⟩) hHeld ?_ ?_
      rotate_left
      · intro w' s0
        refine Eq.trans (exec_load_row 90 (.tmp 7) (by rfl) (w.heap.size + 3) 90 (e32 q.list) _ (by rfl) s0.1 Tryd.underlying90 rfl (sz8 q)) ?_
        with_reducible rfl
      rotate_left
      · simp only [Act.put, List.setIfInBounds_toArray, List.set_cons_zero, List.set_cons_succ, i64_w, i32_w]
        rfl
      refine take_ (i := 3) (N := some 21) (v := ?_) (a' := ?_) #[true, true, true, true, true, false, false] rfl rfl (take_ofW HT_.out HW_.out (by kernel_rfl)) (fun _ _ _ h => h) (Or.inl ⟨by rfl, ?_⟩) hHeld ?_ ?_
      rotate_left
      · intro w' s0
        have e := s0.2.1
        go_simp
        with_reducible rfl
      rotate_left
      · simp only [Act.put, List.setIfInBounds_toArray, List.set_cons_zero, List.set_cons_succ, i64_w, i32_w]
        rfl
      refine one_ (i := 5) (N := some 23) #[true, true, true, true, true, true, false] rfl rfl (one_of HT_.out (by kernel_rfl)) (by decide) (fun K hK => ?_)
      refine goes_ Tryd.func84 (by kernel_rfl) rfl #[.agg (e32 q.list), .int .u32 (k.toNat : Int), .int .u32 (x.toNat : Int)] (by rfl) rfl rfl (by (try simp only [List.map_toArray, List.map_cons, List.map_nil]); first | done | rfl) ?_
      with_reducible refine (round_st q k x _).mono ?_
      rintro e w2 ⟨rfl, hb⟩
      refine ⟨_, rfl, ?_⟩
      have HB2 := Aside0.mk hb
      refine hK.out _ _ ⟨(blk_below hHeld.1 hb), (pw_cell_below hb hHeld.2.1), trivial⟩ (fun hHeld => ?_)
      clear hK K
      refine norm_ (a' := ?_) ?_ ?_
      rotate_left
      · show Act.put _ (some 23) _ = _
        simp only [Act.put, List.setIfInBounds_toArray, List.set_cons_zero, List.set_cons_succ, i64_w, i32_w]
        rfl
      refine last_ (i := 6) (N := none) #[true, true, true, true, true, true, true] rfl rfl (one_of HT_.out (by kernel_rfl)) (by decide) (fun K hK => ?_)
      refine skip_ (w1 := ?_) (by rfl) rfl ?_ ?_
      rotate_left
      · refine Eq.trans (exec_store_row 90 (.tmp 7) (.tmp 23) (by rfl) (w.heap.size + 3) 90 (e32 (rnd q k x).list) (e32 q.list) (by rfl) (by rfl) hHeld.1 (sz8 _) (by rw [e32_size, e32_size]; rfl) (e32_one _)) ?_
        rfl
      refine hK.out _ _ ?_
      clear hK K
      refine done_ (done_of HT_.out (by kernel_rfl)) ?_
      go_wp2
      go_roundw
      case rel =>
        have hz : w.heap.size + 3 < w2.heap.size := by have := blk_lt HT.out; have := HB2.out.size; simp at this; omega
        refine ⟨t + 1, by omega, by go_num, ⟨?_⟩, ⟨?_⟩, ⟨?_⟩, ⟨?_⟩, ⟨?_⟩⟩
        · rw [HN.out]
          exact blk_setRow (blk_below (blk_drew HT.out) HB2.out) _
        · exact blk_setRow_far (blk_below (blk_drew HS.out) HB2.out) (by omega) _
        · exact blk_setRow_far (blk_below (blk_drew HK.out) HB2.out) (by omega) _
        · exact blk_setRow_far (blk_below (blk_drew HZ.out) HB2.out) (by omega) _
        · exact below_setRow (below_then (Below.drew HW.out) HW.out.size HB2.out) (by omega) _
      case measure => simp [intOf]; omega
    · obtain rfl : t = 64 := by omega
      clear hlt
      rw [show ((64 : Nat) : Int) = 64 from rfl]
      obtain ⟨q, hq⟩ : ∃ q, q = rnds l s 64 := ⟨_, rfl⟩
      rw [← hq] at HT
      have HQ := Aside0.mk (show behind s l = plus q s by rw [hq]; rfl)
      clear hq
      go_wp2
      go_loopw [10, 25] (fun _ i wr => ∃ t : Nat, t ≤ 8 ∧ i = .int .i64 t ∧ Aside0 (Blk wr (w.heap.size + 3) 90 (e32 (mix q s t))) ∧ Aside0 (Blk wr w.heap.size 90 (e32 s.list)) ∧ Aside0 (Blk wr (w.heap.size + 2) 90 #[.int .u32 0, .int .u32 0, .int .u32 0, .int .u32 0, .int .u32 0, .int .u32 0, .int .u32 0, .int .u32 0]) ∧ Aside0 (Below w.heap.size w wr)) (fun _ i _ => 8 - (intOf i).toNat)
      case atStart => exact ⟨0, Nat.zero_le _, rfl, HT, HS, HZ, HW⟩
      case round =>
        clear HT HS HK HZ HW
        obtain ⟨t, ht, rfl, HT, HS, HZ, HW⟩ := hrel
        by_cases hlt : t < 8
        · have hm := mix_at q s t hlt
          have c1 := blk32 HT.out t (by rw [mix_len _ _ _ ht]; exact hlt)
          have f1 := blk_frozen HT.out t
          have c2 := blk32 HS.out t hlt
          rw [hm.1] at c1
          obtain ⟨x, hx⟩ : ∃ x, x = q.list.getD t 0 := ⟨_, rfl⟩
          obtain ⟨y, hy⟩ : ∃ x, x = s.list.getD t 0 := ⟨_, rfl⟩
          rw [← hx] at c1
          rw [← hy] at c2
          have HM := Aside0.mk (show (mix q s t).set t (x + y) = mix q s (t + 1) by rw [hx, hy]; exact hm.2)
          have h8 : (t : Int) < 8 := by omega
          clear hx hy hm
          go_wp2
          refine start_ (n := 9) (S := fun w' => w'.cell? ⟨w.heap.size + 3, t, none⟩ = some (.int .u32 (x.toNat : Int)) ∧ w'.cell? ⟨w.heap.size, t, none⟩ = some (.int .u32 (y.toNat : Int)) ∧ True) (ds := [8]) #[false, false, false, false, false, false, false, false, false] (by kernel_rfl) rfl rfl ⟨c1, c2, trivial⟩ (fun hHeld => ?_)
          refine with_tabW f53_r10.tab10 f53_r10.bits10 (fun HT_ HW_ => ?_)
          refine pure_ (i := 0) (N := some 28) (v := ?_) (a' := ?_) #[true, false, false, false, false, false, false, false, false] rfl rfl (any_of HT_.out (by kernel_rfl)) (fun _ _ _ h => h) (Or.inl ⟨by rfl, ?_⟩) ?_ ?_
          rotate_left
          · intro w'
            go_simp
            with_reducible rfl
          rotate_left
          · simp only [Act.put, List.setIfInBounds_toArray, List.set_cons_zero, List.set_cons_succ, i64_w, i32_w]
            rfl
          refine pure_ (i := 1) (N := some 29) (v := ?_) (a' := ?_) #[true, true, false, false, false, false, false, false, false] rfl rfl (any_of HT_.out (by kernel_rfl)) (fun _ _ _ h => h) (Or.inl ⟨by rfl, ?_⟩) ?_ ?_
          rotate_left
          · intro w'
            go_simp
            with_reducible rfl
          rotate_left
          · simp only [Act.put, List.setIfInBounds_toArray, List.set_cons_zero, List.set_cons_succ, i64_w, i32_w]
            rfl
          refine pure_ (i := 3) (N := some 31) (v := ?_) (a' := ?_) #[true, true, false, true, false, false, false, false, false] rfl rfl (any_of HT_.out (by kernel_rfl)) (fun _ _ _ h => h) (Or.inl ⟨by rfl, ?_⟩) ?_ ?_
          rotate_left
          · intro w'
            go_simp
            with_reducible rfl
          rotate_left
          · simp only [Act.put, List.setIfInBounds_toArray, List.set_cons_zero, List.set_cons_succ, i64_w, i32_w]
            rfl
          refine pure_ (i := 4) (N := some 32) (v := ?_) (a' := ?_) #[true, true, false, true, true, false, false, false, false] rfl rfl (any_of HT_.out (by kernel_rfl)) (fun _ _ _ h => h) (Or.inl ⟨by rfl, ?_⟩) ?_ ?_
          rotate_left
          · intro w'
            go_simp
            with_reducible rfl
          rotate_left
          · simp only [Act.put, List.setIfInBounds_toArray, List.set_cons_zero, List.set_cons_succ, i64_w, i32_w]
            rfl
          refine take_ (i := 2) (N := some 30) (v := ?_) (a' := ?_) #[true, true, true, true, true, false, false, false, false] rfl rfl (take_ofW HT_.out HW_.out (by kernel_rfl)) (fun _ _ _ h => h) (Or.inl ⟨by rfl, ?_⟩) hHeld ?_ ?_
          rotate_left
          · intro w' s0
            have e := s0.1
            go_simp
            with_reducible rfl
          rotate_left
          · simp only [Act.put, List.setIfInBounds_toArray, List.set_cons_zero, List.set_cons_succ, i64_w, i32_w]
            rfl
          refine take_ (i := 5) (N := some 33) (v := ?_) (a' := ?_) #[true, true, true, true, true, true, false, false, false] rfl rfl (take_ofW HT_.out HW_.out (by kernel_rfl)) (fun _ _ _ h => h) (Or.inl ⟨by rfl, ?_⟩) hHeld ?_ ?_
          rotate_left
          · intro w' s0
            have e := s0.2.1
            go_simp
            with_reducible rfl
          rotate_left
          · simp only [Act.put, List.setIfInBounds_toArray, List.set_cons_zero, List.set_cons_succ, i64_w, i32_w]
            rfl
          refine pure_ (i := 6) (N := some 34) (v := ?_) (a' := ?_) #[true, true, true, true, true, true, true, false, false] rfl rfl (any_of HT_.out (by kernel_rfl)) (fun _ _ _ h => h) (Or.inl ⟨by rfl, ?_⟩) ?_ ?_
          rotate_left
          · intro w'
            go_simp
            with_reducible rfl
          rotate_left
          · simp only [Act.put, List.setIfInBounds_toArray, List.set_cons_zero, List.set_cons_succ, i64_w, i32_w]
            rfl
          refine pure_ (i := 7) (N := some 35) (v := ?_) (a' := ?_) #[true, true, true, true, true, true, true, true, false] rfl rfl (any_of HT_.out (by kernel_rfl)) (fun _ _ _ h => h) (Or.inl ⟨by rfl, ?_⟩) ?_ ?_
          rotate_left
          · intro w'
            go_simp
            with_reducible rfl
          rotate_left
          · simp only [Act.put, List.setIfInBounds_toArray, List.set_cons_zero, List.set_cons_succ, i64_w, i32_w]
            rfl
          refine last_ (i := 8) (N := none) #[true, true, true, true, true, true, true, true, true] rfl rfl (one_of HT_.out (by kernel_rfl)) (by decide) (fun K hK => ?_)
          refine skip_ (w1 := ?_) (by rfl) rfl ?_ ?_
          rotate_left
          · go_simp
            rfl
          refine hK.out _ _ ?_
          clear hK K
          refine done_ (done_of HT_.out (by kernel_rfl)) ?_
          go_wp2
          go_roundw
          case rel =>
            refine ⟨t + 1, by omega, by go_num, ⟨?_⟩, ⟨?_⟩, ⟨?_⟩, ⟨?_⟩⟩
            · have := blk32_set (blk_drew HT.out) t (x + y) _ (sum2_int x y)
              rw [HM.out] at this
              exact this
            · exact blk_far (blk_drew HS.out) (by show w.heap.size ≠ w.heap.size + 3; omega) _
            · exact blk_far (blk_drew HZ.out) (by show w.heap.size + 2 ≠ w.heap.size + 3; omega) _
            · exact (Below.drew HW.out).setCell (by show w.heap.size ≤ w.heap.size + 3; omega) _
          case measure => simp [intOf]; omega
        · obtain rfl : t = 8 := by omega
          clear hlt
          have HT' := Aside0.mk (show Blk _ (w.heap.size + 3) 90 (e32 (behind s l).list) by rw [HQ.out]; exact HT.out)
          go_wp2_with (first | ((with_reducible refine at_load_ (x := .tmp 7) ?_); (refine wpList_load_row rfl 90 _ rfl (w.heap.size + 3) rfl 90 (e32 (behind s l).list) (0, 0) _ HT'.out Tryd.underlying90 rfl (sz8 _) ?_)) | ((with_reducible refine at_store_ (x := .tmp 6) ?_); (refine wpList_store_row rfl 90 _ _ rfl (w.heap.size + 2) (e32 (behind s l).list) _ 90 rfl rfl HZ.out (sz8 _) (by rw [e32_size]; rfl) (e32_one _) ?_)))
          exact ret_row (p := 6) (ty := 90) (w.heap.size + 2) 90 (e32 (behind s l).list) _ rfl rfl (blk_setRow HZ.out _) Tryd.underlying90 rfl (sz8 _) ⟨rfl, below_setRow HW.out (by omega) _⟩
end Go.Proofs.YthmlidlnojdggaaDoor.Sha
