/- The document's layer 6 by contracts. -/
import Derived.Test.YthmlidlnojdggaaDoorMacOf
set_option linter.unusedVariables false
set_option linter.unusedSimpArgs false
namespace Go.Proofs.YthmlidlnojdggaaDoor.Mac
open Go.RowKit Go.Proofs.YthmlidlnojdggaaDoorW.PrintWords Go.Proofs.YthmlidlnojdggaaDoorW.PrintLast Go.Proofs.YthmlidlnojdggaaDoor.Sha

theorem RefOf_x (l Z : List UInt8) (hZ : Z = sum l) (A : Option Addr) (c n : Nat) (w : World) (hn : l.length = n) (hr : Kb.C w A n l) (hl : n ≤ 140737488000000) : Calls Tryd.prog 15 #[.slice A n c] w fun e w' => e = .returned (.agg (e8 Z)) ∧ Below w.heap.size w w' := by
  subst hZ
  exact RefOf_calls A c n l w hn hr hl
set_option maxRecDepth 100000 in
set_option maxHeartbeats 4000000 in
theorem RefBlock_calls (A : Option Addr) (c n : Nat) (key : List UInt8) (w : World) (hn : key.length = n) (hr : Kb.C w A n key) (hl : n ≤ 1000000) :
    Calls Tryd.prog 108 #[.slice A n c] w fun e w' => e = .returned (.agg (e8 (block key))) ∧ Below w.heap.size w w' := by
  have HN := Aside0.mk hn
  have HR := Aside0.mk hr
  clear hn hr
  by_cases h64 : n ≤ 64
  · have HP := Aside0.mk (padK_len key (by rw [HN.out]; exact h64))
    have HE := Aside0.mk (show block key = padK key by rw [block, keyOf, if_neg (by rw [HN.out]; omega)])
    have HZ := Aside0.mk (sz64 (padK key) HP.out)
    have hi : (n : Int) ≤ 64 := by omega
    go_enter Tryd.func108, Tryd.ntmps108
    go_wp2
    go_loopw [6] (fun i wr => ∃ j : Nat, j ≤ n ∧ i = .int .i64 j ∧ Aside0 (Blk wr (w.heap.size + 1) 160 (e8 (key.take j ++ List.replicate (64 - j) 0))) ∧ Aside0 (Blk wr w.heap.size 160 (e8 (List.replicate 64 0))) ∧ Aside0 (Kb.C wr A n key) ∧ Aside0 (Below w.heap.size w wr)) (fun i _ => n - (intOf i).toNat)
    case atStart => exact ⟨0, Nat.zero_le _, rfl, ⟨blk_new1 w _ _ _⟩, ⟨blk_alloc (blk_new w _) _⟩, ⟨Kd.C_below HR.out (below_alloc (below_new _) _)⟩, ⟨below_alloc (below_new _) _⟩⟩
    case round =>
      obtain ⟨j, hj, rfl, HB, HO, HR2, HW⟩ := hrel
      have HT := Aside0.mk (show (key.take j).length = j by rw [List.length_take, HN.out]; omega)
      have hj64 : j ≤ 64 := by omega
      by_cases hlt : j < n
      · obtain ⟨x, hx⟩ : ∃ x, x = key.getD j 0 := ⟨_, rfl⟩
        obtain ⟨ad, had, cx⟩ := at_bn HR2.out j hlt
        subst had
        rw [← hx] at cx
        have HS := Aside0.mk (show (key.take j ++ List.replicate (64 - j) 0).set j x = key.take (j + 1) ++ List.replicate (64 - (j + 1)) 0 by
          rw [set_pad _ x 0 j 64 HT.out (by omega), List.take_succ_eq_append_getElem (by rw [HN.out]; exact hlt), hx]
          simp [List.getD, show j < key.length by rw [HN.out]; exact hlt])
        have cy := blk8 HB.out j (by rw [List.length_append, HT.out, List.length_replicate]; omega)
        have cf := blk_frozen HB.out j
        have hji : (j : Int) < (n : Int) := by omega
        have hji2 : (j : Int) < 64 := by omega
        clear hx
        go_wp2
        go_roundw
        case rel => exact ⟨j + 1, by omega, by go_num, ⟨by rw [← HS.out]; exact blk8_set HB.out j _ _ rfl⟩, ⟨blk_far HO.out (by simp) _⟩, ⟨Kd.C_below HR.out (HW.out.setCell (by simp) _)⟩, ⟨HW.out.setCell (by simp) _⟩⟩
        case measure => simp [intOf]; omega
      · obtain rfl : j = n := by omega
        clear hlt
        have HE2 := Aside0.mk (show Blk wr (w.heap.size + 1) 160 (e8 (padK key)) by have h := HB.out; rwa [List.take_of_length_le (by rw [HN.out]; exact Nat.le_refl _), show List.replicate (64 - j) (0 : UInt8) = List.replicate (64 - key.length) 0 by rw [HN.out]] at h)
        clear hj
        go_wp2_with (first
          | ((with_reducible refine at_load_ (x := .tmp 3) ?_); (refine wpList_load_row rfl 160 _ rfl (w.heap.size + 1) rfl 160 (e8 (padK key)) (0, 0) _ HE2.out Tryd.underlying160 rfl HZ.out ?_))
          | ((with_reducible refine at_store_ (x := .tmp 2) ?_); (refine wpList_store_row rfl 160 _ _ rfl w.heap.size (e8 (padK key)) _ 160 rfl rfl HO.out HZ.out (by rw [e8_size, e8_size, HP.out]; rfl) (e8_one _) ?_)))
        rw [HE.out]
        exact ret_row (p := 2) (ty := 160) w.heap.size 160 (e8 (padK key)) _ rfl rfl (blk_setRow HO.out _) Tryd.underlying160 rfl HZ.out ⟨rfl, below_setRow HW.out (Nat.le_refl _) _⟩
  · obtain ⟨K, hK⟩ : ∃ K, K = sum key := ⟨_, rfl⟩
    have HKL := Aside0.mk (show K.length = 32 by rw [hK]; exact sum_len _)
    have HK := Aside0.mk hK
    have HP := Aside0.mk (padK_len K (by rw [HKL.out]; decide))
    have HE := Aside0.mk (show block key = padK K by rw [block, keyOf, if_pos (by rw [HN.out]; omega), ← hK])
    have HZ := Aside0.mk (sz64 (padK K) HP.out)
    have HZK := Aside0.mk (sz32 K HKL.out)
    have hi : 64 < (n : Int) := by omega
    clear hK
    go_enter Tryd.func108, Tryd.ntmps108
    go_wp2_with (first
      | (go_at_call 15; (refine (RefOf_x key K HK.out A c n _ HN.out (Kd.C_below HR.out (below_alloc (below_new _) _)) (by omega)).mono ?_); rintro e w1 ⟨rfl, hb1⟩; have hz1 : w.heap.size + 2 ≤ w1.heap.size := (by have h := hb1.size; simp at h; omega); have HO1 := Aside0.mk (blk_below (blk_alloc (blk_new w _) _) hb1); have HG1 := Aside0.mk (blk_below (blk_new1 w _ _ _) hb1); replace hb1 := Aside0.mk (below_then (below_alloc (below_new _) _) (by simp; omega) hb1))
      | ((with_reducible refine at_store_ (x := .tmp 5) ?_); (refine wpList_store_row rfl 24 _ _ rfl w1.heap.size (e8 K) _ 24 rfl rfl (blk_new w1 _) HZK.out (by rw [e8_size, HKL.out]; rfl) (e8_one _) ?_); (generalize hW2 : World.setRow (World.alloc w1 _) _ _ = W2; have HK2 := Aside0.mk (show Blk W2 w1.heap.size 24 (e8 K) by rw [← hW2]; exact blk_setRow (blk_new w1 _) _); have HO2 := Aside0.mk (show Blk W2 w.heap.size 160 (e8 (List.replicate 64 0)) by rw [← hW2]; exact blk_setRow_far (blk_alloc HO1.out _) (by omega) _); have HG2 := Aside0.mk (show Blk W2 (w.heap.size + 1) 160 (e8 (List.replicate 64 0)) by rw [← hW2]; exact blk_setRow_far (blk_alloc HG1.out _) (by omega) _); have HW2 := Aside0.mk (show Below w.heap.size w W2 by rw [← hW2]; exact below_setRow (below_alloc hb1.out _) (by omega) _); clear hW2)))
    go_loopw [6] (fun i wr => ∃ j : Nat, j ≤ 32 ∧ i = .int .i64 j ∧ Aside0 (Blk wr (w.heap.size + 1) 160 (e8 (K.take j ++ List.replicate (64 - j) 0))) ∧ Aside0 (Blk wr w.heap.size 160 (e8 (List.replicate 64 0))) ∧ Aside0 (Kb.C wr (some ⟨w1.heap.size, 0, none⟩) 32 K) ∧ Aside0 (Below w.heap.size w wr)) (fun i _ => 32 - (intOf i).toNat)
    case atStart => exact ⟨0, Nat.zero_le _, rfl, HG2, HO2, ⟨blk_C8 HK2.out 32 HKL.out (by decide)⟩, HW2⟩
    case round =>
      obtain ⟨j, hj, rfl, HB, HO, HR2, HW⟩ := hrel
      have HT := Aside0.mk (show (K.take j).length = j by rw [List.length_take, HKL.out]; omega)
      have hj64 : j ≤ 64 := by omega
      by_cases hlt : j < 32
      · obtain ⟨x, hx⟩ : ∃ x, x = K.getD j 0 := ⟨_, rfl⟩
        obtain ⟨ad, had, cx⟩ := at_bn HR2.out j hlt
        injection had with had; subst had; rw [add_plain] at cx
        rw [← hx] at cx
        have HS := Aside0.mk (show (K.take j ++ List.replicate (64 - j) 0).set j x = K.take (j + 1) ++ List.replicate (64 - (j + 1)) 0 by
          rw [set_pad _ x 0 j 64 HT.out (by omega), List.take_succ_eq_append_getElem (by rw [HKL.out]; exact hlt), hx]
          simp [List.getD, show j < K.length by rw [HKL.out]; exact hlt])
        have cy := blk8 HB.out j (by rw [List.length_append, HT.out, List.length_replicate]; omega)
        have cf := blk_frozen HB.out j
        have hji : (j : Int) < 32 := by omega
        have hji2 : (j : Int) < 64 := by omega
        clear hx
        go_wp2
        go_roundw
        case rel => exact ⟨j + 1, by omega, by go_num, ⟨by rw [← HS.out]; exact blk8_set HB.out j _ _ rfl⟩, ⟨blk_far HO.out (by simp) _⟩, ⟨C_far HR2.out _ (by omega)⟩, ⟨HW.out.setCell (by simp) _⟩⟩
        case measure => simp [intOf]; omega
      · obtain rfl : j = 32 := by omega
        clear hlt
        have HE2 := Aside0.mk (show Blk wr (w.heap.size + 1) 160 (e8 (padK K)) by have h := HB.out; rwa [List.take_of_length_le (by rw [HKL.out]; exact Nat.le_refl _), show List.replicate (64 - 32) (0 : UInt8) = List.replicate (64 - K.length) 0 by rw [HKL.out]] at h)
        rw [show ((32 : Nat) : Int) = 32 from rfl]
        go_wp2_with (first
          | ((with_reducible refine at_load_ (x := .tmp 3) ?_); (refine wpList_load_row rfl 160 _ rfl (w.heap.size + 1) rfl 160 (e8 (padK K)) (0, 0) _ HE2.out Tryd.underlying160 rfl HZ.out ?_))
          | ((with_reducible refine at_store_ (x := .tmp 2) ?_); (refine wpList_store_row rfl 160 _ _ rfl w.heap.size (e8 (padK K)) _ 160 rfl rfl HO.out HZ.out (by rw [e8_size, e8_size, HP.out]; rfl) (e8_one _) ?_)))
        rw [HE.out]
        exact ret_row (p := 2) (ty := 160) w.heap.size 160 (e8 (padK K)) _ rfl rfl (blk_setRow HO.out _) Tryd.underlying160 rfl HZ.out ⟨rfl, below_setRow HW.out (Nat.le_refl _) _⟩
end Go.Proofs.YthmlidlnojdggaaDoor.Mac
