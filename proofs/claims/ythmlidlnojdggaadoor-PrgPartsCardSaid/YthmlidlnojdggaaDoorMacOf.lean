/- mac.Of, mac.Check. -/
import Derived.Test.YthmlidlnojdggaaDoorMacBlock
import Derived.Test.YthmlidlnojdggaaDoorMacConcat
import Derived.Test.YthmlidlnojdggaaDoorJoin
set_option linter.unusedVariables false
set_option linter.unusedSimpArgs false
namespace Go.Proofs.YthmlidlnojdggaaDoor.Mac
open Go.RowKit Go.Proofs.YthmlidlnojdggaaDoorW.PrintWords Go.Proofs.YthmlidlnojdggaaDoorW.PrintLast Go.Proofs.YthmlidlnojdggaaDoor.Sha

def inn (key text : List UInt8) : List UInt8 := sum (xored (block key) 54 ++ text)
def macOf (key text : List UInt8) : List UInt8 := sum (xored (block key) 92 ++ inn key text)
theorem keyOf_len (key : List UInt8) : (keyOf key).length ≤ 64 := by
  unfold keyOf
  split
  · rw [sum_len]; decide
  · omega
theorem block_len (key : List UInt8) : (block key).length = 64 := padK_len _ (keyOf_len key)
theorem xored_len (b : List UInt8) (k : UInt8) : (xored b k).length = b.length := by simp [xored]
theorem inn_len (key text : List UInt8) : (inn key text).length = 32 := sum_len _
theorem turned_k (b : List UInt8) (hb : b.length = 64) (k : UInt8) (z : Int) (hz : z = (k.toNat : Int)) (w : World) :
    Calls Tryd.prog 107 #[.agg (e8 b), .int .u8 z] w fun e w' => ∃ g, e = .returned (.slice (some ⟨g, 0, none⟩) 64 64) ∧ Kb.C w' (some ⟨g, 0, none⟩) 64 (xored b k) ∧ w.heap.size ≤ g ∧ Below w.heap.size w w' := by
  subst hz
  exact turned_calls b hb k w
theorem Sum_x (l Z : List UInt8) (hZ : Z = sum l) (A : Option Addr) (c n : Nat) (w : World) (hn : l.length = n) (hr : Kb.C w A n l) (hl : n ≤ 140737488000000) : Calls Tryd.prog 14 #[.slice A n c] w fun e w' => e = .returned (.agg (e8 Z)) ∧ Below w.heap.size w w' := by
  subst hZ
  exact Of_calls A c n l w hn hr hl
def f92_r3.T3 : Bool × List (List Nat × List Nat) := (true, [([], []), ([0], [0]), ([], []), ([1, 2], [1, 2]), ([3, 1], [3]), ([4, 4], [4]), ([5, 5, 0, 1, 2, 3, 4, 5], [5])])
def f92_r3.B3 : List Nat := [0, 1, 0, 7, 15, 31, 63]
theorem f92_r3.tab3 : Go.Proofs.YthmlidlnojdggaaDoorW.PrintLast.rtab .any (Go.Proofs.YthmlidlnojdggaaDoorW.PrintLast.opsOf Tryd.f92 3) = f92_r3.T3 := by kernel_rfl
theorem f92_r3.bits3 : Go.Proofs.YthmlidlnojdggaaDoorW.PrintLast.waitsOk f92_r3.T3.2 f92_r3.B3 = true := by kernel_rfl
set_option maxRecDepth 100000 in
set_option maxHeartbeats 4000000 in
theorem MacOf_calls (A B : Option Addr) (c d n m : Nat) (key txt : List UInt8) (V : List UInt8) (hV : V = macOf key txt) (w : World) (hn : key.length = n) (hm : txt.length = m) (hr : Kb.C w A n key) (hs : Kb.C w B m txt) (hl : n ≤ 1000000) (hl2 : m ≤ 100000) :
    Calls Tryd.prog 92 #[.slice A n c, .slice B m d] w fun e w' => e = .returned (.agg (e8 V)) ∧ Below w.heap.size w w' := by
  obtain ⟨b, hb⟩ : ∃ b, b = block key := ⟨_, rfl⟩
  obtain ⟨U, hU⟩ : ∃ U, U = sum (xored b 54 ++ txt) := ⟨_, rfl⟩
  have HBL := Aside0.mk (show b.length = 64 by rw [hb]; exact block_len key)
  have HUL := Aside0.mk (show U.length = 32 by rw [hU]; exact sum_len _)
  have HV := Aside0.mk (show V = sum (xored b 92 ++ U) by rw [hV, macOf, inn, hU, hb])
  have HVL := Aside0.mk (show V.length = 32 by rw [HV.out]; exact sum_len _)
  have HU := Aside0.mk hU
  have HBK := Aside0.mk hb
  have HN := Aside0.mk hn
  have HM := Aside0.mk hm
  have HR := Aside0.mk hr
  have HS := Aside0.mk hs
  have HZ := Aside0.mk (sz64 b HBL.out)
  have HZU := Aside0.mk (sz32 U HUL.out)
  have HZV := Aside0.mk (sz32 V HVL.out)
  clear hV hb hU hn hm hr hs
  go_enter Tryd.func92, Tryd.ntmps92
  go_wp2_with (first
    | (go_at_call 105; refine (Block_calls A c n key _ HN.out (Kd.C_below HR.out (below_new _)) hl).mono ?_; rintro e w1 ⟨rfl, hb1⟩; rw [← HBK.out]; have hz1 : w.heap.size < w1.heap.size := (by have h := hb1.size; simp at h; omega); have HO1 := Aside0.mk (show Blk w1 w.heap.size 24 (e8 (List.replicate 32 0)) from (hb1.block _ (by simp)).trans (blk_new w _)); replace hb1 := Aside0.mk (below_then (below_new _) (by simp) hb1))
    | ((with_reducible refine at_store_ (x := .tmp 5) ?_); (refine wpList_store_row rfl 160 _ _ rfl w1.heap.size (e8 b) _ 160 rfl rfl (blk_new w1 _) HZ.out (by rw [e8_size, HBL.out]; rfl) (e8_one _) ?_); (generalize hW2 : World.setRow (World.alloc w1 _) _ _ = W2; have HB2 := Aside0.mk (show Blk W2 w1.heap.size 160 (e8 b) by rw [← hW2]; exact blk_setRow (blk_new w1 _) _); have HO2 := Aside0.mk (show Blk W2 w.heap.size 24 (e8 (List.replicate 32 0)) by rw [← hW2]; exact blk_setRow_far (blk_alloc HO1.out _) (by omega) _); have HW2 := Aside0.mk (show Below w.heap.size w W2 by rw [← hW2]; exact below_setRow (below_alloc hb1.out _) (by omega) _); have hz2 : w1.heap.size < W2.heap.size := blk_lt HB2.out; clear hW2))
    | ((with_reducible refine at_load_ (x := .tmp 5) ?_); (refine wpList_load_row rfl 160 _ rfl w1.heap.size rfl 160 (e8 b) (0, 0) _ HB2.out Tryd.underlying160 rfl HZ.out ?_))
    | (go_at_call 107; refine (turned_k b HBL.out 54 54 rfl W2).mono ?_; rintro e w3 ⟨g3, rfl, hC3, hg3, hb3⟩; replace hC3 := Aside0.mk hC3; have hz3 : W2.heap.size ≤ w3.heap.size := hb3.size; replace hb3 := Aside0.mk hb3)
    | (go_at_call 106; refine (Concat_calls (xored b 54) txt (some ⟨g3, 0, none⟩) B 64 m 64 d w3.heap.size _ (by rw [xored_len, HBL.out]) HM.out (by decide) (by omega) (Kd.C_below hC3.out (below_new _)) (Kd.C_below (Kd.C_below (Kd.C_below HS.out HW2.out) hb3.out) (below_new _)) ((blk_cell (blk_new w3 _) 0).trans rfl) ((blk_cell (blk_new w3 _) 1).trans rfl)).mono ?_; rintro e w4 ⟨A4, c4, rfl, hB4, hb4⟩; have hz4 : w3.heap.size < w4.heap.size := (by have h := hb4.size; simp at h; omega); replace hB4 := Aside0.mk hB4.read.1; replace hb4 := Aside0.mk (below_then (below_new _) (by simp) hb4))
    | (go_at_call 14; refine (Sum_x (xored b 54 ++ txt) U HU.out A4 c4 (64 + m) w4 (by rw [List.length_append, xored_len, HBL.out, HM.out]) hB4.out (by omega)).mono ?_; rintro e w5 ⟨rfl, hb5⟩; have hz5 : w4.heap.size ≤ w5.heap.size := hb5.size; replace hb5 := Aside0.mk hb5)
    | ((with_reducible refine at_store_ (x := .tmp 6) ?_); (refine wpList_store_row rfl 24 _ _ rfl w5.heap.size (e8 U) _ 24 rfl rfl (blk_new w5 _) HZU.out (by rw [e8_size, HUL.out]; rfl) (e8_one _) ?_); (generalize hW6 : World.setRow (World.alloc w5 _) _ _ = W6)))
  have H25 := Aside0.mk (below_then (below_then hb3.out hb3.out.size hb4.out) (Nat.le_trans hb3.out.size hb4.out.size) hb5.out)
  have HU6 := Aside0.mk (show Blk W6 w5.heap.size 24 (e8 U) by rw [← hW6]; exact blk_setRow (blk_new w5 _) _)
  have H26 := Aside0.mk (show Below W2.heap.size W2 W6 by rw [← hW6]; exact below_setRow (below_alloc H25.out _) H25.out.size _)
  clear hW6
  have HB6 := Aside0.mk (blk_below HB2.out H26.out)
  have HO6 := Aside0.mk (blk_below HO2.out H26.out)
  have H06 := Aside0.mk (below_then HW2.out HW2.out.size H26.out)
  refine start_ (n := 7) (S := fun w' => Blk w' w1.heap.size 160 (e8 b) ∧ Blk w' w5.heap.size 24 (e8 U) ∧ Blk w' w.heap.size 24 (e8 (List.replicate 32 0)) ∧ Below w.heap.size w w' ∧ True) (ds := [6]) #[false, false, false, false, false, false, false] (by kernel_rfl) rfl rfl ⟨blk_drew HB6.out, blk_drew HU6.out, blk_drew HO6.out, below_drew H06.out, trivial⟩ (fun hHeld => ?_)
  refine with_tabW f92_r3.tab3 f92_r3.bits3 (fun HT_ HW_ => ?_)
  refine pure_ (i := 2) (N := some 17) (v := ?_) (a' := ?_) #[false, false, true, false, false, false, false] rfl rfl (any_of HT_.out (by kernel_rfl)) (fun _ _ _ h => h) (Or.inl ⟨by rfl, ?_⟩) ?_ ?_
  rotate_left
  · intro w'
    go_simp
    with_reducible rfl
  rotate_left
  · simp only [Act.put, List.setIfInBounds_toArray, List.set_cons_zero, List.set_cons_succ, i64_w, i32_w]
    rfl
  refine take_ (i := 0) (N := some 15) (v := ?_) (a' := ?_) #[true, false, true, false, false, false, false] rfl rfl (take_ofW HT_.out HW_.out (by kernel_rfl)) (fun _ _ _ h => h) (Or.inl ⟨by rfl, ?_⟩) hHeld ?_ ?_
  rotate_left
  · intro w' s0
    refine Eq.trans (exec_load_row 160 (.tmp 5) (by rfl) w1.heap.size 160 (e8 b) _ (by rfl) s0.1 Tryd.underlying160 rfl HZ.out) ?_
    with_reducible rfl
  rotate_left
  · simp only [Act.put, List.setIfInBounds_toArray, List.set_cons_zero, List.set_cons_succ, i64_w, i32_w]
    rfl
  refine one_ (i := 1) (N := some 16) #[true, true, true, false, false, false, false] rfl rfl (one_of HT_.out (by kernel_rfl)) (by decide) (fun K hK => ?_)
  refine goes_ Tryd.func107 (by kernel_rfl) rfl #[.agg (e8 b), .int .u8 92] (by rfl) rfl rfl (by (try simp only [List.map_toArray, List.map_cons, List.map_nil]); first | done | rfl) ?_
  with_reducible refine (turned_k b HBL.out 92 92 rfl _).mono ?_
  rintro e w7 ⟨g7, rfl, hC7, hg7, hb⟩
  refine ⟨_, rfl, ?_⟩
  replace hC7 := Aside0.mk hC7
  refine hK.out _ _ ⟨(blk_below hHeld.1 hb), (blk_below hHeld.2.1 hb), (blk_below hHeld.2.2.1 hb), (below_then hHeld.2.2.2.1 (Below.size hHeld.2.2.2.1) hb), trivial⟩ (fun hHeld => ?_)
  clear hK K
  refine norm_ (a' := ?_) ?_ ?_
  rotate_left
  · show Act.put _ (some 16) _ = _
    simp only [Act.put, List.setIfInBounds_toArray, List.set_cons_zero, List.set_cons_succ, i64_w, i32_w]
    rfl
  refine one_ (i := 3) (N := some 18) #[true, true, true, true, false, false, false] rfl rfl (one_of HT_.out (by kernel_rfl)) (by decide) (fun K hK => ?_)
  refine make_ (t := 22) #[.slice (some ⟨g7, 0, none⟩) 64 64, .slice (some ⟨w5.heap.size, 0, none⟩) 32 32] (fun g => .slice (some ⟨g, 0, none⟩) 2 2) (by rfl) rfl ?_ (fun g8 w8 hge8 hbk8 hb => ?_)
  · first | (go_simp; done) | (go_simp; constructor <;> rfl) | (go_simp; rfl) | rfl
  have HC8 := Aside0.mk (Kd.C_below hC7.out hb)
  replace hbk8 := Aside0.mk hbk8
  refine hK.out _ _ ⟨(blk_below hHeld.1 hb), (blk_below hHeld.2.1 hb), (blk_below hHeld.2.2.1 hb), (below_then hHeld.2.2.2.1 (Below.size hHeld.2.2.2.1) hb), trivial⟩ (fun hHeld => ?_)
  clear hK K
  refine norm_ (a' := ?_) ?_ ?_
  rotate_left
  · show Act.put _ (some 18) _ = _
    simp only [Act.put, List.setIfInBounds_toArray, List.set_cons_zero, List.set_cons_succ, i64_w, i32_w]
    rfl
  refine one_ (i := 4) (N := some 19) #[true, true, true, true, true, false, false] rfl rfl (one_of HT_.out (by kernel_rfl)) (by decide) (fun K hK => ?_)
  refine goes_ Tryd.func106 (by kernel_rfl) rfl #[.slice (some ⟨g8, 0, none⟩) 2 2] (by rfl) rfl rfl (by (try simp only [List.map_toArray, List.map_cons, List.map_nil]); first | done | rfl) ?_
  with_reducible refine (Concat_calls (xored b 92) U (some ⟨g7, 0, none⟩) (some ⟨w5.heap.size, 0, none⟩) 64 32 64 32 g8 w8 (by rw [xored_len, HBL.out]) HUL.out (by decide) (by decide) HC8.out (blk_C8 hHeld.2.1 32 HUL.out (by decide)) ((blk_cell hbk8.out 0).trans rfl) ((blk_cell hbk8.out 1).trans rfl)).mono ?_
  rintro e w9 ⟨A9, c9, rfl, hB9, hb⟩
  refine ⟨_, rfl, ?_⟩
  replace hB9 := Aside0.mk hB9.read.1
  refine hK.out _ _ ⟨(blk_below hHeld.1 hb), (blk_below hHeld.2.1 hb), (blk_below hHeld.2.2.1 hb), (below_then hHeld.2.2.2.1 (Below.size hHeld.2.2.2.1) hb), trivial⟩ (fun hHeld => ?_)
  clear hK K
  refine norm_ (a' := ?_) ?_ ?_
  rotate_left
  · show Act.put _ (some 19) _ = _
    simp only [Act.put, List.setIfInBounds_toArray, List.set_cons_zero, List.set_cons_succ, i64_w, i32_w]
    rfl
  refine one_ (i := 5) (N := some 20) #[true, true, true, true, true, true, false] rfl rfl (one_of HT_.out (by kernel_rfl)) (by decide) (fun K hK => ?_)
  refine goes_ Tryd.func14 (by kernel_rfl) rfl #[.slice A9 96 c9] (by rfl) rfl rfl (by (try simp only [List.map_toArray, List.map_cons, List.map_nil]); first | done | rfl) ?_
  with_reducible refine (Sum_x (xored b 92 ++ U) V HV.out A9 c9 96 w9 (by rw [List.length_append, xored_len, HBL.out, HUL.out]) hB9.out (by decide)).mono ?_
  rintro e w10 ⟨rfl, hb⟩
  refine ⟨_, rfl, ?_⟩
  refine hK.out _ _ ⟨(blk_below hHeld.1 hb), (blk_below hHeld.2.1 hb), (blk_below hHeld.2.2.1 hb), (below_then hHeld.2.2.2.1 (Below.size hHeld.2.2.2.1) hb), trivial⟩ (fun hHeld => ?_)
  clear hK K
  refine norm_ (a' := ?_) ?_ ?_
  rotate_left
  · show Act.put _ (some 20) _ = _
    simp only [Act.put, List.setIfInBounds_toArray, List.set_cons_zero, List.set_cons_succ, i64_w, i32_w]
    rfl
  refine last_ (i := 6) (N := none) #[true, true, true, true, true, true, true] rfl rfl (one_of HT_.out (by kernel_rfl)) (by decide) (fun K hK => ?_)
  refine skip_ (w1 := World.setRow w10 w.heap.size (e8 V)) (by rfl) rfl ?_ ?_
  · refine Eq.trans (exec_store_row 24 (.tmp 4) (.tmp 20) (by rfl) w.heap.size 24 (e8 V) (e8 (List.replicate 32 0)) (by rfl) (by rfl) hHeld.2.2.1 HZV.out (by rw [e8_size, e8_size, HVL.out]; rfl) (e8_one _)) ?_
    rfl
  refine hK.out _ _ ?_
  clear hK K
  refine done_ (done_of HT_.out (by kernel_rfl)) ?_
  go_wp2
  exact ret_row (p := 4) (ty := 24) w.heap.size 24 (e8 V) _ rfl rfl (blk_setRow hHeld.2.2.1 _) Tryd.underlying24 rfl HZV.out ⟨rfl, below_setRow hHeld.2.2.2.1 (Nat.le_refl _) _⟩
end Go.Proofs.YthmlidlnojdggaaDoor.Mac
