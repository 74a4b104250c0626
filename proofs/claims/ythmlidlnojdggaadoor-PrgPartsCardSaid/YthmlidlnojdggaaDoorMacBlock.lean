/- mac.Block: the 64 bytes that a key is. -/
import Derived.Test.YthmlidlnojdggaaDoorShaOf
import Derived.Test.YthmlidlnojdggaaDoorShaRefOf
import Derived.Test.YthmlidlnojdggaaDoorSum32
import Derived.Test.YthmlidlnojdggaaDoorMacTurned
import Derived.Laws.CopyOwn
set_option linter.unusedVariables false
set_option linter.unusedSimpArgs false
namespace Go.Proofs.YthmlidlnojdggaaDoor.Mac
open Go.RowKit Go.Proofs.YthmlidlnojdggaaDoorW.PrintWords Go.Proofs.YthmlidlnojdggaaDoor.Sha

def padK (k : List UInt8) : List UInt8 := k ++ List.replicate (64 - k.length) 0
def keyOf (key : List UInt8) : List UInt8 := if 64 < key.length then sum key else key
def block (key : List UInt8) : List UInt8 := padK (keyOf key)
theorem padK_len (k : List UInt8) (h : k.length ≤ 64) : (padK k).length = 64 := by
  rw [padK, List.length_append, List.length_replicate]
  omega
theorem splice_pad (k : List UInt8) (h : k.length ≤ 64) : (splice ((List.replicate 64 (0 : UInt8)).map fun x => Value.int .u8 (x.toNat : Int)) 0 (k.map fun x => Value.int .u8 (x.toNat : Int))).toArray = e8 (padK k) := by
  unfold splice e8 padK
  rw [List.take_zero, List.nil_append, Nat.zero_add, List.length_map, List.map_append, ← List.map_drop, List.drop_replicate]
theorem sz64 (l : List UInt8) (h : l.length = 64) : (Tryd.prog.info? 160).map (·.size) = some (e8 l).size := by rw [e8_size, h]; kernel_rfl
theorem src_cells {w : World} {A : Option Addr} {n : Nat} {l : List UInt8} (h : Kb.C w A n l) (hn : l.length = n) (h0 : 0 < n) : ∃ ad, A = some ad ∧ ∀ j v, (l.map fun x : UInt8 => Value.int .u8 (x.toNat : Int))[j]? = some v → w.cell? (ad.add j) = some v := by
  obtain ⟨ad, rfl, _⟩ := at_bn h 0 h0
  refine ⟨ad, rfl, fun j v hv => ?_⟩
  have hj : j < n := by have := (List.getElem?_eq_some_iff.1 hv).1; simpa [hn] using this
  obtain ⟨ad', e, hc⟩ := at_bn h j hj
  injection e with e
  subst e
  rw [hc]
  rw [List.getElem?_map, List.getElem?_eq_getElem (by omega)] at hv
  rw [← hv]
  simp [List.getD, show j < l.length by omega]
theorem below_new1 (w : World) (o p : Obj) : Below (w.heap.size + 1) (w.alloc o) ((w.alloc o).alloc p) := by
  have := below_new (w := w.alloc o) p
  simpa using this
theorem info1 : (Tryd.prog.info? 5).map (·.size) = some 1 := by kernel_rfl
set_option maxRecDepth 100000 in
set_option maxHeartbeats 4000000 in
theorem Block_calls (A : Option Addr) (c n : Nat) (key : List UInt8) (w : World) (hn : key.length = n) (hr : Kb.C w A n key) (hl : n ≤ 1000000) :
    Calls Tryd.prog 105 #[.slice A n c] w fun e w' => e = .returned (.agg (e8 (block key))) ∧ Below w.heap.size w w' := by
  have HN := Aside0.mk hn
  have HR := Aside0.mk hr
  clear hn hr
  by_cases h64 : n ≤ 64
  · have HP := Aside0.mk (padK_len key (by rw [HN.out]; exact h64))
    have HE := Aside0.mk (show block key = padK key by rw [block, keyOf, if_neg (by rw [HN.out]; omega)])
    have HZ := Aside0.mk (sz64 (padK key) HP.out)
    have hi : (n : Int) ≤ 64 := by omega
    go_enter Tryd.func105, Tryd.ntmps105
    go_wp2_with (first
      | ((refine wpList_copy_splice rfl (.tmp 11) (.tmp 12) 22 22 rfl 5 Tryd.underlying22 info1 _ _ _ _ _ _ rfl rfl (w.heap.size + 1) 0 ((List.replicate 64 (0 : UInt8)).map fun x => Value.int .u8 (x.toNat : Int)) 160 (blk_new1 w _ _ _) (key.map fun x => Value.int .u8 (x.toNat : Int)) (by rw [List.length_map, HN.out]; show n = min n 64; omega) (fun h0 => ⟨rfl, src_cells (Kd.C_below HR.out (below_alloc (below_new _) _)) HN.out (by rw [List.length_map, HN.out] at h0; exact h0)⟩) (by rw [List.length_map, HN.out, List.length_map, List.length_replicate]; omega) (fun v hv => by obtain ⟨x, _, rfl⟩ := List.mem_map.1 hv; rfl) (w.heap.size + 1) (w.alloc (.cells (e8 (List.replicate 64 0)) 160)) (below_new1 _ _ _) (Nat.le_refl _) ?_); intro w3 hg3 hb3; have HG3 := Aside0.mk (show Blk w3 (w.heap.size + 1) 160 (e8 (padK key)) by rw [← splice_pad key (by rw [HN.out]; exact h64)]; exact hg3); have HO3 := Aside0.mk (show Blk w3 w.heap.size 160 (e8 (List.replicate 64 0)) from (hb3.block _ (Nat.lt_succ_self _)).trans (blk_new w _)); replace hb3 := Aside0.mk hb3; clear hg3)
      | ((with_reducible refine at_load_ (x := .tmp 4) ?_); (refine wpList_load_row rfl 160 _ rfl (w.heap.size + 1) rfl 160 (e8 (padK key)) (0, 0) _ HG3.out Tryd.underlying160 rfl HZ.out ?_))
      | ((with_reducible refine at_store_ (x := .tmp 2) ?_); (refine wpList_store_row rfl 160 _ _ rfl w.heap.size (e8 (padK key)) _ 160 rfl rfl HO3.out HZ.out (by rw [e8_size, e8_size, HP.out]; rfl) (e8_one _) ?_)))
    rw [HE.out]
    exact ret_row (p := 2) (ty := 160) w.heap.size 160 (e8 (padK key)) _ rfl rfl (blk_setRow HO3.out _) Tryd.underlying160 rfl HZ.out ⟨rfl, below_setRow (below_then (below_new _) (by simp) (hb3.out.mono (by simp))) (Nat.le_refl _) _⟩
  · obtain ⟨K, hK⟩ : ∃ K, K = sum key := ⟨_, rfl⟩
    have HKL := Aside0.mk (show K.length = 32 by rw [hK]; exact sum_len _)
    have HK := Aside0.mk hK
    have HP := Aside0.mk (padK_len K (by rw [HKL.out]; decide))
    have HE := Aside0.mk (show block key = padK K by rw [block, keyOf, if_pos (by rw [HN.out]; omega), ← hK])
    have HZ := Aside0.mk (sz64 (padK K) HP.out)
    have HZK := Aside0.mk (sz32 K HKL.out)
    have hi : 64 < (n : Int) := by omega
    clear hK
    go_enter Tryd.func105, Tryd.ntmps105
    go_wp2_with (first
      | (go_at_call 14; (refine (Of_calls A c n key _ HN.out (Kd.C_below HR.out (below_new _)) (by omega)).mono ?_); rintro e w1 ⟨rfl, hb1⟩; rw [← HK.out]; have hz1 : w.heap.size < w1.heap.size := (by have h := hb1.size; simp at h; omega); have HO1 := Aside0.mk (show Blk w1 w.heap.size 160 (e8 (List.replicate 64 0)) from (hb1.block _ (by simp)).trans (blk_new w _)); replace hb1 := Aside0.mk (below_then (below_new _) (by simp) hb1))
      | ((with_reducible refine at_store_ (x := .tmp 3) ?_); (refine wpList_store_row rfl 24 _ _ rfl w1.heap.size (e8 K) _ 24 rfl rfl (blk_new w1 _) HZK.out (by rw [e8_size, HKL.out]; rfl) (e8_one _) ?_); (generalize hW2 : World.setRow (World.alloc w1 _) _ _ = W2; have HK2 := Aside0.mk (show Blk W2 w1.heap.size 24 (e8 K) by rw [← hW2]; exact blk_setRow (blk_new w1 _) _); have HO2 := Aside0.mk (show Blk W2 w.heap.size 160 (e8 (List.replicate 64 0)) by rw [← hW2]; exact blk_setRow_far (blk_alloc HO1.out _) (by omega) _); have HW2 := Aside0.mk (show Below w.heap.size w W2 by rw [← hW2]; exact below_setRow (below_alloc hb1.out _) (by omega) _); have hz2 : w1.heap.size < W2.heap.size := blk_lt HK2.out; clear hW2))
      | (refine wpList_copy_splice rfl (.tmp 11) (.tmp 12) 22 22 rfl 5 Tryd.underlying22 info1 _ _ _ _ _ _ rfl rfl W2.heap.size 0 ((List.replicate 64 (0 : UInt8)).map fun x => Value.int .u8 (x.toNat : Int)) 160 (blk_new W2 _) (K.map fun x => Value.int .u8 (x.toNat : Int)) (by rw [List.length_map, HKL.out]; rfl) (fun h0 => ⟨rfl, src_cells (Kd.C_below (blk_C8 HK2.out 32 HKL.out (by decide)) (below_new _)) HKL.out (by decide)⟩) (by rw [List.length_map, HKL.out, List.length_map, List.length_replicate]; decide) (fun v hv => by obtain ⟨x, _, rfl⟩ := List.mem_map.1 hv; rfl) W2.heap.size W2 (below_new _) (Nat.le_refl _) ?_; intro w3 hg3 hb3; have HG3 := Aside0.mk (show Blk w3 W2.heap.size 160 (e8 (padK K)) by rw [← splice_pad K (by rw [HKL.out]; decide)]; exact hg3); have HO3 := Aside0.mk (blk_below HO2.out hb3); have HW3 := Aside0.mk (below_then HW2.out HW2.out.size hb3); clear hg3 hb3)
      | ((with_reducible refine at_load_ (x := .tmp 4) ?_); (refine wpList_load_row rfl 160 _ rfl W2.heap.size rfl 160 (e8 (padK K)) (0, 0) _ HG3.out Tryd.underlying160 rfl HZ.out ?_))
      | ((with_reducible refine at_store_ (x := .tmp 2) ?_); (refine wpList_store_row rfl 160 _ _ rfl w.heap.size (e8 (padK K)) _ 160 rfl rfl HO3.out HZ.out (by rw [e8_size, e8_size, HP.out]; rfl) (e8_one _) ?_)))
    rw [HE.out]
    exact ret_row (p := 2) (ty := 160) w.heap.size 160 (e8 (padK K)) _ rfl rfl (blk_setRow HO3.out _) Tryd.underlying160 rfl HZ.out ⟨rfl, below_setRow HW3.out (Nat.le_refl _) _⟩
end Go.Proofs.YthmlidlnojdggaaDoor.Mac
