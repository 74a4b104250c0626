/- Package seal, and the document's layer 8, by contracts: seeds. -/
import Derived.Test.YtpgighcobmaecaaSealList
set_option linter.unusedVariables false
set_option linter.unusedSimpArgs false
namespace Go.Proofs.Ytpgighcobmaecaa.Seal
open Go.RowKit Go.Proofs.YtpgighcobmaecaaW.PrintWords Go.Proofs.YtpgighcobmaecaaW.PrintLast Go.Proofs.Ytpgighcobmaecaa.Sha

theorem sz32 (l : List UInt8) (h : l.length = 32) : (Try.prog.info? 51).map (·.size) = some (e8 l).size := by rw [e8_size, h]; kernel_rfl
/-- Two sums are equal or not. -/
theorem eq32 (xs ys : List UInt8) (hx : xs.length = 32) (hy : ys.length = 32) (w : World) : (Op.equalIn 10000 51 (.agg (e8 xs)) (.agg (e8 ys))).run Try.prog w = .ok (xs == ys) w :=
  run_eq_e8 Try.underlying51 Try.underlying5 Try.isAgg5 (by kernel_rfl) xs ys hx hy w
theorem Of_v (a b : V64) (w : World) : Calls Try.prog 31 #[.int .u64 (a.toNat : Int), .int .u64 (b.toNat : Int)] w fun e w' => e = .returned (.agg (e8 (sum (text a b)))) ∧ Below w.heap.size w w' := by
  have HZ := Aside0.mk (sz32 (sum (text a b)) (sum_len _))
  go_enter Try.func31, Try.ntmps31
  go_wp2_with (first
    | (go_at_call 46; refine (text_calls a b _).mono ?_; rintro e w1 ⟨A1, c1, rfl, hB1, hb1⟩; rw [text_len] at hB1 ⊢; replace hB1 := Aside0.mk hB1; replace hb1 := Aside0.mk hb1)
    | (go_at_call 41; refine (Of_calls A1 c1 17 (text a b) w1 rfl hB1.out.read.1 (by decide)).mono ?_; rintro e w2 ⟨rfl, hb2⟩; replace hb2 := Aside0.mk hb2)
    | ((with_reducible refine at_store_ (x := .tmp 4) ?_); (refine wpList_store_row rfl 51 _ _ rfl w.heap.size (e8 (sum (text a b))) _ 51 rfl rfl (blk_below (blk_below (blk_new w _) hb1.out) hb2.out) HZ.out (by rw [e8_size, sum_len]; rfl) (e8_one _) ?_)))
  exact ret_row (p := 4) (ty := 51) w.heap.size 51 (e8 (sum (text a b))) _ rfl rfl (blk_setRow (blk_below (blk_below (blk_new w _) hb1.out) hb2.out) _) Try.underlying51 rfl HZ.out ⟨rfl, below_setRow (below_then (below_then (below_new _) (by simp) hb1.out) (by have := hb1.out.size; simp at this; omega) hb2.out) (Nat.le_refl _) _⟩
theorem RefOf_v (a b : V64) (w : World) : Calls Try.prog 30 #[.int .u64 (a.toNat : Int), .int .u64 (b.toNat : Int)] w fun e w' => e = .returned (.agg (e8 (sum (text a b)))) ∧ Below w.heap.size w w' := by
  have HZ := Aside0.mk (sz32 (sum (text a b)) (sum_len _))
  go_enter Try.func30, Try.ntmps30
  go_wp2_with (first
    | (go_at_call 34; refine (RefText_calls a b _).mono ?_; rintro e w1 ⟨A1, c1, rfl, hB1, hb1⟩; rw [text_len] at hB1 ⊢; replace hB1 := Aside0.mk hB1; replace hb1 := Aside0.mk hb1)
    | (go_at_call 33; refine (RefOf_calls A1 c1 17 (text a b) w1 rfl hB1.out.read.1 (by decide)).mono ?_; rintro e w2 ⟨rfl, hb2⟩; replace hb2 := Aside0.mk hb2)
    | ((with_reducible refine at_store_ (x := .tmp 4) ?_); (refine wpList_store_row rfl 51 _ _ rfl w.heap.size (e8 (sum (text a b))) _ 51 rfl rfl (blk_below (blk_below (blk_new w _) hb1.out) hb2.out) HZ.out (by rw [e8_size, sum_len]; rfl) (e8_one _) ?_)))
  exact ret_row (p := 4) (ty := 51) w.heap.size 51 (e8 (sum (text a b))) _ rfl rfl (blk_setRow (blk_below (blk_below (blk_new w _) hb1.out) hb2.out) _) Try.underlying51 rfl HZ.out ⟨rfl, below_setRow (below_then (below_then (below_new _) (by simp) hb1.out) (by have := hb1.out.size; simp at this; omega) hb2.out) (Nat.le_refl _) _⟩
def f32_r1.T1 : Bool × List (List Nat × List Nat) := (true, [([], []), ([], []), ([0, 1], [0, 1]), ([], []), ([2, 3], [2, 3]), ([4, 2, 0, 1, 2, 3, 4], [4])])
def f32_r1.B1 : List Nat := [0, 0, 3, 0, 15, 31]
theorem f32_r1.tab1 : Go.Proofs.YtpgighcobmaecaaW.PrintLast.rtab .any (Go.Proofs.YtpgighcobmaecaaW.PrintLast.opsOf Try.f32 1) = f32_r1.T1 := by kernel_rfl
theorem f32_r1.bits1 : Go.Proofs.YtpgighcobmaecaaW.PrintLast.waitsOk f32_r1.T1.2 f32_r1.B1 = true := by kernel_rfl
theorem Opens_v (s : List UInt8) (hs : s.length = 32) (a b : V64) (w : World) : Calls Try.prog 32 #[.agg (e8 s), .int .u64 (a.toNat : Int), .int .u64 (b.toNat : Int)] w fun e w' => e = .returned (.bool (sum (text a b) == s)) ∧ Below w.heap.size w w' := by
  have heq := eq32 (sum (text a b)) s (sum_len _) hs
  have HZ := Aside0.mk (sz32 s hs)
  have HB0 := Aside0.mk (show Below w.heap.size w (w.alloc (.cells (e8 s) 51)).drew from below_drew (below_new _))
  go_enter Try.func32, Try.ntmps32
  go_wp2
  refine start_ (n := 6) (S := fun w' => Blk w' w.heap.size 51 (e8 s) ∧ True) (ds := []) #[false, false, false, false, false, false] (by kernel_rfl) rfl rfl ⟨blk_drew (blk_new w _), trivial⟩ (fun hHeld => ?_)
  refine with_tabW f32_r1.tab1 f32_r1.bits1 (fun HT_ HW_ => ?_)
  refine pure_ (i := 0) (N := some 7) (v := ?_) (a' := ?_) #[true, false, false, false, false, false] rfl rfl (any_of HT_.out (by kernel_rfl)) (fun _ _ _ h => h) (Or.inl ⟨by rfl, ?_⟩) ?_ ?_
  rotate_left
  · intro w'
    go_simp
    with_reducible rfl
  rotate_left
  · simp only [Act.put, List.setIfInBounds_toArray, List.set_cons_zero, List.set_cons_succ, i64_w, i32_w]
    rfl
  refine pure_ (i := 1) (N := some 8) (v := ?_) (a' := ?_) #[true, true, false, false, false, false] rfl rfl (any_of HT_.out (by kernel_rfl)) (fun _ _ _ h => h) (Or.inl ⟨by rfl, ?_⟩) ?_ ?_
  rotate_left
  · intro w'
    go_simp
    with_reducible rfl
  rotate_left
  · simp only [Act.put, List.setIfInBounds_toArray, List.set_cons_zero, List.set_cons_succ, i64_w, i32_w]
    rfl
  refine take_ (i := 3) (N := some 10) (v := ?_) (a' := ?_) #[true, true, false, true, false, false] rfl rfl (take_ofW HT_.out HW_.out (by kernel_rfl)) (fun _ _ _ h => h) (Or.inl ⟨by rfl, ?_⟩) hHeld ?_ ?_
  rotate_left
  · intro w' s0
    refine Eq.trans (exec_load_row 51 (.tmp 3) (by rfl) w.heap.size 51 (e8 s) _ (by rfl) s0.1 Try.underlying51 rfl HZ.out) ?_
    with_reducible rfl
  rotate_left
  · simp only [Act.put, List.setIfInBounds_toArray, List.set_cons_zero, List.set_cons_succ, i64_w, i32_w]
    rfl
  refine one_ (i := 2) (N := some 9) #[true, true, true, true, false, false] rfl rfl (one_of HT_.out (by kernel_rfl)) (by decide) (fun K hK => ?_)
  refine goes_ Try.func31 (by kernel_rfl) rfl #[.int .u64 (a.toNat : Int), .int .u64 (b.toNat : Int)] (by rfl) rfl rfl (by (try simp only [List.map_toArray, List.map_cons, List.map_nil]); first | done | rfl) ?_
  with_reducible refine (Of_v a b _).mono ?_
  rintro e w1 ⟨rfl, hb1⟩
  refine ⟨_, rfl, ?_⟩
  have HB1 := Aside0.mk (below_then HB0.out (by have := HB0.out.size; omega) hb1)
  refine hK.out _ _ ⟨(blk_below hHeld.1 hb1), trivial⟩ (fun hHeld => ?_)
  clear hK K
  refine norm_ (a' := ?_) ?_ ?_
  rotate_left
  · show Act.put _ (some 9) _ = _
    simp only [Act.put, List.setIfInBounds_toArray, List.set_cons_zero, List.set_cons_succ, i64_w, i32_w]
    rfl
  refine pure_ (i := 4) (N := some 11) (v := ?_) (a' := ?_) #[true, true, true, true, true, false] rfl rfl (any_of HT_.out (by kernel_rfl)) (fun _ _ _ h => h) (Or.inl ⟨by rfl, ?_⟩) ?_ ?_
  rotate_left
  · intro w'
    go_simp
    with_reducible rfl
  rotate_left
  · simp only [Act.put, List.setIfInBounds_toArray, List.set_cons_zero, List.set_cons_succ, i64_w, i32_w]
    rfl
  refine pure_ (i := 5) (N := some 6) (v := ?_) (a' := ?_) #[true, true, true, true, true, true] rfl rfl (any_of HT_.out (by kernel_rfl)) (fun _ _ _ h => h) (Or.inl ⟨by rfl, ?_⟩) ?_ ?_
  rotate_left
  · intro w'
    go_simp
    with_reducible rfl
  rotate_left
  · simp only [Act.put, List.setIfInBounds_toArray, List.set_cons_zero, List.set_cons_succ, i64_w, i32_w]
    rfl
  refine done_ (done_of HT_.out (by kernel_rfl)) ?_
  go_wp2
  go_ret
  exact ⟨rfl, HB1.out⟩
theorem three_cells (n : Nat) (h : n < 65536) : #[.int .u8 76, .int .u8 ((n : Int) / 256), .int .u8 ((n : Int) % 256)] = ((76 :: two n).map fun b => Value.int .u8 (b.toNat : Int)).toArray := by
  have h1 := byte_int n 8
  have h2 := byte_int n 0
  rw [show (n : Int) / 256 = ((byte n 8).toNat : Int) by rw [h1]; show _ = (n : Int) / 256 % 256; omega, show (n : Int) % 256 = ((byte n 0).toNat : Int) by rw [h2]; show _ = (n : Int) / 1 % 256; omega]
  rfl
theorem item2_cells (q : Nat) (h : q ≤ 300) : #[.int .u8 (IntKind.u8.wrap (wrap64 ((q : Int) / 256))), .int .u8 (IntKind.u8.wrap ((q : Int).tmod 256))] = ((two q).map fun b => Value.int .u8 (b.toNat : Int)).toArray := by
  have hw : wrap64 ((q : Int) / 256) = (q : Int) / 256 := by unfold wrap64; omega
  rw [wr8, wr8, tm256 _ (by omega), hw, ← two_int q (by omega), show (q : Int) / 256 % 256 = (q : Int) / 256 by omega, show (q : Int) % 256 % 256 = (q : Int) % 256 by omega]
def f29_r9.T9 : Bool × List (List Nat × List Nat) := (true, [([], []), ([], []), ([], []), ([1, 2], [1, 2]), ([3], [3]), ([4], [4]), ([5], [5]), ([6], [6]), ([], []), ([], []), ([8, 9], [8, 9]), ([10], [10]), ([11], [11]), ([12], [12]), ([13], [13]), ([7, 14], [7, 14]), ([0, 15], [0, 15]), ([16, 16, 0, 1, 2, 3, 4, 5, 6, 7, 8, 9, 10, 11, 12, 13, 14, 15, 16], [0, 16])])
def f29_r9.B9 : List Nat := [0, 0, 0, 6, 14, 30, 62, 126, 0, 0, 768, 1792, 3840, 7936, 16128, 32766, 65535, 131071]
theorem f29_r9.tab9 : Go.Proofs.YtpgighcobmaecaaW.PrintLast.rtab .any (Go.Proofs.YtpgighcobmaecaaW.PrintLast.opsOf Try.f29 9) = f29_r9.T9 := by kernel_rfl
theorem f29_r9.bits9 : Go.Proofs.YtpgighcobmaecaaW.PrintLast.waitsOk f29_r9.T9.2 f29_r9.B9 = true := by kernel_rfl
set_option maxRecDepth 100000 in
set_option maxHeartbeats 4000000 in
theorem ListText_calls (A : Option Addr) (c n : Nat) (l : List (List UInt8)) (w : World) (hn : l.length = n) (hr : Kr.C w A n l) (hn31 : n ≤ 31) (he : ∀ b ∈ l, b.length ≤ 300) :
    Calls Try.prog 29 #[.slice A n c] w fun e w' => ∃ A' c', e = .returned (.tuple #[.slice A' (listText l).length c', .bool true]) ∧ Bs w' w.heap.size (.slice A' (listText l).length c') (listText l) ∧ Below w.heap.size w w' := by
  have HR := Aside0.mk hr
  have HN := Aside0.mk hn
  have HE := Aside0.mk he
  clear hr hn he
  go_enter Try.func29, Try.ntmps29
  go_wp2
  go_loopw [4, 5] (fun o i wr => ∃ (k m : Nat) (A3 : Option Addr) (c3 : Nat), k ≤ n ∧ Aside0 (m = (ltext l k).length) ∧ i = .int .i64 k ∧ o = .slice A3 m c3 ∧ Aside0 (Bs wr w.heap.size (.slice A3 m c3) (ltext l k)) ∧ Aside0 (Below w.heap.size w wr)) (fun _ i _ => n - (intOf i).toNat)
  case atStart => exact ⟨0, 3, some ⟨w.heap.size, 0, none⟩, 3, Nat.zero_le _, ⟨rfl⟩, rfl, rfl, ⟨Bs.lit w _ _ rfl (Nat.le_refl _) (ltext l 0) 3 rfl _ (by rw [show ltext l 0 = 76 :: two n by rw [ltext, HN.out]; rfl]; exact three_cells n (by omega)) (by decide)⟩, ⟨below_new _⟩⟩
  case round =>
    obtain ⟨k, m, A3, c3, hk, HM, rfl, rfl, HB, HW⟩ := hrel
    have HM3 := Aside0.mk (show m ≤ 10000 by have := ltext_le l HE.out k (by rw [HN.out]; exact hk); have := HM.out; omega)
    have hm := HM3.out
    by_cases hlt : k < n
    · obtain ⟨x, hx⟩ : ∃ x, x = l.getD k [] := ⟨_, rfl⟩
      obtain ⟨ad, A1, c1, rfl, cx, hK, hc1⟩ := at_r HR.out k hlt x hx
      have cx0 := Aside0.mk cx
      replace cx := pw_cell_below HW.out cx
      have hx300 : x.length ≤ 300 := by rw [hx]; exact HE.out _ (getD_mem _ _ _ (by rw [HN.out]; exact hlt))
      have HS := Aside0.mk (ltext_succ l k (by rw [HN.out]; exact hlt) x hx)
      obtain ⟨q, hq⟩ : ∃ q, q = x.length := ⟨_, rfl⟩
      rw [← hq] at cx cx0 hK hc1 hx300
      have HQ := Aside0.mk hq
      have HK := Aside0.mk hK
      have hnk : (k : Int) < (n : Int) := by omega
      clear hx hK hq
      go_wp2_with fail
      refine start_ (n := 18) (S := fun w' => w'.cell? (ad.add k) = some (.slice A1 q c1) ∧ True) (ds := [16]) #[false, false, false, false, false, false, false, false, false, false, false, false, false, false, false, false, false, false] (by kernel_rfl) rfl rfl ⟨cx, trivial⟩ (fun hHeld => ?_)
      refine with_tabW f29_r9.tab9 f29_r9.bits9 (fun HT_ HW_ => ?_)
      refine pure_ (i := 0) (N := some 30) (v := ?_) (a' := ?_) #[true, false, false, false, false, false, false, false, false, false, false, false, false, false, false, false, false, false] rfl rfl (any_of HT_.out (by kernel_rfl)) (fun _ _ _ h => h) (Or.inl ⟨by rfl, ?_⟩) ?_ ?_
      rotate_left
      · intro w'
        go_simp
        with_reducible rfl
      rotate_left
      · simp only [Act.put, List.setIfInBounds_toArray, List.set_cons_zero, List.set_cons_succ, i64_w, i32_w]
        rfl
      refine pure_ (i := 1) (N := some 31) (v := ?_) (a' := ?_) #[true, true, false, false, false, false, false, false, false, false, false, false, false, false, false, false, false, false] rfl rfl (any_of HT_.out (by kernel_rfl)) (fun _ _ _ h => h) (Or.inl ⟨by rfl, ?_⟩) ?_ ?_
      rotate_left
      · intro w'
        go_simp
        with_reducible rfl
      rotate_left
      · simp only [Act.put, List.setIfInBounds_toArray, List.set_cons_zero, List.set_cons_succ, i64_w, i32_w]
        rfl
      refine pure_ (i := 2) (N := some 32) (v := ?_) (a' := ?_) #[true, true, true, false, false, false, false, false, false, false, false, false, false, false, false, false, false, false] rfl rfl (any_of HT_.out (by kernel_rfl)) (fun _ _ _ h => h) (Or.inl ⟨by rfl, ?_⟩) ?_ ?_
      rotate_left
      · intro w'
        go_simp
        with_reducible rfl
      rotate_left
      · simp only [Act.put, List.setIfInBounds_toArray, List.set_cons_zero, List.set_cons_succ, i64_w, i32_w]
        rfl
      refine pure_ (i := 3) (N := some 33) (v := ?_) (a' := ?_) #[true, true, true, true, false, false, false, false, false, false, false, false, false, false, false, false, false, false] rfl rfl (any_of HT_.out (by kernel_rfl)) (fun _ _ _ h => h) (Or.inl ⟨by rfl, ?_⟩) ?_ ?_
      rotate_left
      · intro w'
        go_simp
        with_reducible rfl
      rotate_left
      · simp only [Act.put, List.setIfInBounds_toArray, List.set_cons_zero, List.set_cons_succ, i64_w, i32_w]
        rfl
      refine pure_ (i := 8) (N := some 38) (v := ?_) (a' := ?_) #[true, true, true, true, false, false, false, false, true, false, false, false, false, false, false, false, false, false] rfl rfl (any_of HT_.out (by kernel_rfl)) (fun _ _ _ h => h) (Or.inl ⟨by rfl, ?_⟩) ?_ ?_
      rotate_left
      · intro w'
        go_simp
        with_reducible rfl
      rotate_left
      · simp only [Act.put, List.setIfInBounds_toArray, List.set_cons_zero, List.set_cons_succ, i64_w, i32_w]
        rfl
      refine pure_ (i := 9) (N := some 39) (v := ?_) (a' := ?_) #[true, true, true, true, false, false, false, false, true, true, false, false, false, false, false, false, false, false] rfl rfl (any_of HT_.out (by kernel_rfl)) (fun _ _ _ h => h) (Or.inl ⟨by rfl, ?_⟩) ?_ ?_
      rotate_left
      · intro w'
        go_simp
        with_reducible rfl
      rotate_left
      · simp only [Act.put, List.setIfInBounds_toArray, List.set_cons_zero, List.set_cons_succ, i64_w, i32_w]
        rfl
      refine pure_ (i := 10) (N := some 40) (v := ?_) (a' := ?_) #[true, true, true, true, false, false, false, false, true, true, true, false, false, false, false, false, false, false] rfl rfl (any_of HT_.out (by kernel_rfl)) (fun _ _ _ h => h) (Or.inl ⟨by rfl, ?_⟩) ?_ ?_
      rotate_left
      · intro w'
        go_simp
        with_reducible rfl
      rotate_left
      · simp only [Act.put, List.setIfInBounds_toArray, List.set_cons_zero, List.set_cons_succ, i64_w, i32_w]
        rfl
      refine take_ (i := 4) (N := some 34) (v := ?_) (a' := ?_) #[true, true, true, true, true, false, false, false, true, true, true, false, false, false, false, false, false, false] rfl rfl (take_ofW HT_.out HW_.out (by kernel_rfl)) (fun _ _ _ h => h) (Or.inl ⟨by rfl, ?_⟩) hHeld ?_ ?_
      rotate_left
      · intro w' s0
        have e := s0.1
        go_simp
        with_reducible rfl
      rotate_left
      · simp only [Act.put, List.setIfInBounds_toArray, List.set_cons_zero, List.set_cons_succ, i64_w, i32_w]
        rfl
      refine pure_ (i := 5) (N := some 35) (v := ?_) (a' := ?_) #[true, true, true, true, true, true, false, false, true, true, true, false, false, false, false, false, false, false] rfl rfl (any_of HT_.out (by kernel_rfl)) (fun _ _ _ h => h) (Or.inl ⟨by rfl, ?_⟩) ?_ ?_
      rotate_left
      · intro w'
        go_simp
        with_reducible rfl
      rotate_left
      · simp only [Act.put, List.setIfInBounds_toArray, List.set_cons_zero, List.set_cons_succ, i64_w, i32_w]
        rfl
      refine pure_ (i := 6) (N := some 36) (v := ?_) (a' := ?_) #[true, true, true, true, true, true, true, false, true, true, true, false, false, false, false, false, false, false] rfl rfl (any_of HT_.out (by kernel_rfl)) (fun _ _ _ h => h) (Or.inl ⟨by rfl, ?_⟩) ?_ ?_
      rotate_left
      · intro w'
        go_simp
        with_reducible rfl
      rotate_left
      · simp only [Act.put, List.setIfInBounds_toArray, List.set_cons_zero, List.set_cons_succ, i64_w, i32_w]
        rfl
      refine pure_ (i := 7) (N := some 37) (v := ?_) (a' := ?_) #[true, true, true, true, true, true, true, true, true, true, true, false, false, false, false, false, false, false] rfl rfl (any_of HT_.out (by kernel_rfl)) (fun _ _ _ h => h) (Or.inl ⟨by rfl, ?_⟩) ?_ ?_
      rotate_left
      · intro w'
        go_simp
        with_reducible rfl
      rotate_left
      · simp only [Act.put, List.setIfInBounds_toArray, List.set_cons_zero, List.set_cons_succ, i64_w, i32_w]
        rfl
      refine take_ (i := 11) (N := some 41) (v := ?_) (a' := ?_) #[true, true, true, true, true, true, true, true, true, true, true, true, false, false, false, false, false, false] rfl rfl (take_ofW HT_.out HW_.out (by kernel_rfl)) (fun _ _ _ h => h) (Or.inl ⟨by rfl, ?_⟩) hHeld ?_ ?_
      rotate_left
      · intro w' s0
        have e := s0.1
        go_simp
        with_reducible rfl
      rotate_left
      · simp only [Act.put, List.setIfInBounds_toArray, List.set_cons_zero, List.set_cons_succ, i64_w, i32_w]
        rfl
      refine pure_ (i := 12) (N := some 42) (v := ?_) (a' := ?_) #[true, true, true, true, true, true, true, true, true, true, true, true, true, false, false, false, false, false] rfl rfl (any_of HT_.out (by kernel_rfl)) (fun _ _ _ h => h) (Or.inl ⟨by rfl, ?_⟩) ?_ ?_
      rotate_left
      · intro w'
        go_simp
        with_reducible rfl
      rotate_left
      · simp only [Act.put, List.setIfInBounds_toArray, List.set_cons_zero, List.set_cons_succ, i64_w, i32_w]
        rfl
      refine pure_ (i := 13) (N := some 43) (v := ?_) (a' := ?_) #[true, true, true, true, true, true, true, true, true, true, true, true, true, true, false, false, false, false] rfl rfl (any_of HT_.out (by kernel_rfl)) (fun _ _ _ h => h) (Or.inl ⟨by rfl, ?_⟩) ?_ ?_
      rotate_left
      · intro w'
        go_simp
        with_reducible rfl
      rotate_left
      · simp only [Act.put, List.setIfInBounds_toArray, List.set_cons_zero, List.set_cons_succ, i64_w, i32_w]
        rfl
      refine pure_ (i := 14) (N := some 44) (v := ?_) (a' := ?_) #[true, true, true, true, true, true, true, true, true, true, true, true, true, true, true, false, false, false] rfl rfl (any_of HT_.out (by kernel_rfl)) (fun _ _ _ h => h) (Or.inl ⟨by rfl, ?_⟩) ?_ ?_
      rotate_left
      · intro w'
        go_simp
        with_reducible rfl
      rotate_left
      · simp only [Act.put, List.setIfInBounds_toArray, List.set_cons_zero, List.set_cons_succ, i64_w, i32_w]
        rfl
      refine one_ (i := 15) (N := some 45) #[true, true, true, true, true, true, true, true, true, true, true, true, true, true, true, true, false, false] rfl rfl (one_of HT_.out (by kernel_rfl)) (by decide) (fun K hK => ?_)
      refine value_ (w1 := ?_) (v := ?_) (by rfl) rfl ?_ ?_
      rotate_left 2
      · go_simp
        constructor
        · rfl
        · rfl
      refine hK.out _ _ ⟨(pw_cell_below (below_new _) hHeld.1), trivial⟩ (fun hHeld => ?_)
      clear hK K
      refine norm_ (a' := ?_) ?_ ?_
      rotate_left
      · show Act.put _ (some 45) _ = _
        simp only [Act.put, List.setIfInBounds_toArray, List.set_cons_zero, List.set_cons_succ, i64_w, i32_w]
        rfl
      refine last_ (i := 16) (N := some 46) #[true, true, true, true, true, true, true, true, true, true, true, true, true, true, true, true, true, false] rfl rfl (one_of HT_.out (by kernel_rfl)) (by decide) (fun K hK => ?_)
      refine app_bs_step (w0 := w) w.heap.size (by rfl) (.tmp 30) (.tmp 45) (by rfl) _ (ltext l k) (two q) _ _ _ (by rfl) (by rfl) ((show Bs wr.drew _ _ _ from HB.out).alloc _) (Bs.read (Bs.lit wr.drew w.heap.size _ rfl HW.out.size (two q) 2 rfl _ (item2_cells q hx300) (by decide))).1 (below_alloc (below_drew HW.out) _) (by have := HW.out.size; simp; omega) (by rw [← HM.out]; omega) ?_
      intro z4 A4 c4 w4 hz4 hB4 hb4 hs4 hg4
      refine hK.out _ _ ?_
      clear hK K
      refine norm_ (a' := ?_) ?_ ?_
      rotate_left
      · show Act.put _ (some 46) _ = _
        simp only [Act.put, List.setIfInBounds_toArray, List.set_cons_zero, List.set_cons_succ, i64_w, i32_w]
        rfl
      refine pure_ (i := 17) (N := some 4) (v := ?_) (a' := ?_) #[true, true, true, true, true, true, true, true, true, true, true, true, true, true, true, true, true, true] rfl rfl (any_of HT_.out (by kernel_rfl)) (fun _ _ _ h => h) (Or.inl ⟨by rfl, ?_⟩) ?_ ?_
      rotate_left
      · intro w'
        go_simp
        with_reducible rfl
      rotate_left
      · simp only [Act.put, List.setIfInBounds_toArray, List.set_cons_zero, List.set_cons_succ, i64_w, i32_w]
        rfl
      refine done_ (done_of HT_.out (by kernel_rfl)) ?_
      have cx4 := pw_cell_below hb4.out cx0.out
      have hzl : z4.length = m + 2 := by rw [hz4.out, List.length_append, ← HM.out]; rfl
      rw [hzl] at hB4 ⊢
      have HZL := Aside0.mk hzl
      clear hzl
      go_wp2_with (at_builtin; refine app_bs (w0 := w) w.heap.size rfl (.tmp 47) (.tmp 51) rfl _ z4 x _ _ _ rfl rfl hB4.out (Kd.C_below HK.out hb4.out) hb4.out hb4.out.size (by rw [HZL.out]; omega) ?_; intro z5 A5 c5 w5 hz5 hB5 hb5 hs5 hg5)
      go_roundw
      case rel => exact ⟨k + 1, z5.length, A5, c5, by omega, ⟨by rw [HS.out, hz5.out, hz4.out, HQ.out]⟩, by go_num, rfl, ⟨by rw [HS.out, ← HQ.out, ← hz4.out, ← hz5.out]; exact hB5.out⟩, hb5⟩
      case measure => simp [intOf]; omega
    · obtain rfl : k = n := by omega
      clear hlt
      have HE2 := Aside0.mk (show ltext l k = listText l by rw [← HN.out]; exact ltext_all l)
      go_wp2
      go_ret2
      rw [← HE2.out, ← HM.out]
      exact ⟨A3, c3, rfl, HB.out, HW.out⟩
end Go.Proofs.Ytpgighcobmaecaa.Seal
