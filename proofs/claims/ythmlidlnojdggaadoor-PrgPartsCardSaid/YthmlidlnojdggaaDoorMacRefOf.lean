/- The document's sum of a text with a key. -/
import Derived.Test.YthmlidlnojdggaaDoorMacRef
import Derived.Test.YthmlidlnojdggaaDoorRows2
set_option linter.unusedVariables false
set_option linter.unusedSimpArgs false
namespace Go.Proofs.YthmlidlnojdggaaDoor.Mac
open Go.RowKit Go.Proofs.YthmlidlnojdggaaDoorW.PrintWords Go.Proofs.YthmlidlnojdggaaDoorW.PrintLast Go.Proofs.YthmlidlnojdggaaDoor.Sha

theorem xored_succ (b : List UInt8) (k x : UInt8) (j : Nat) (h : j < b.length) (hx : x = b.getD j 0) : xored (b.take (j + 1)) k = xored (b.take j) k ++ [x ^^^ k] := by
  have e : b.getD j 0 = b[j] := by simp [List.getD, h]
  rw [List.take_succ_eq_append_getElem h, hx, e]
  simp only [xored, List.map_append, List.map_cons, List.map_nil]
set_option maxRecDepth 100000 in
set_option maxHeartbeats 4000000 in
theorem RefMacOf_calls (A B : Option Addr) (c d n m : Nat) (key txt : List UInt8) (V : List UInt8) (hV : V = macOf key txt) (w : World) (hn : key.length = n) (hm : txt.length = m) (hr : Kb.C w A n key) (hs : Kb.C w B m txt) (hl : n ≤ 1000000) (hl2 : m ≤ 100000) :
    Calls Tryd.prog 93 #[.slice A n c, .slice B m d] w fun e w' => e = .returned (.agg (e8 V)) ∧ Below w.heap.size w w' := by
  obtain ⟨b, hb⟩ : ∃ b, b = block key := ⟨_, rfl⟩
  obtain ⟨U, hU⟩ : ∃ U, U = sum (xored b 54 ++ txt) := ⟨_, rfl⟩
  have HBL := Aside0.mk (show b.length = 64 by rw [hb]; exact block_len key)
  have HUL := Aside0.mk (show U.length = 32 by rw [hU]; exact sum_len _)
  have HV := Aside0.mk (show V = sum (xored b 92 ++ U) by rw [hV, macOf, inn, hU, hb])
  have HVL := Aside0.mk (show V.length = 32 by rw [HV.out]; exact sum_len _)
  have HU := Aside0.mk hU
  have HBK := Aside0.mk hb
  have HN := Aside0.mk hn
  have HM := Aside0.mk hm
  have HR := Aside0.mk hr
  have HS := Aside0.mk hs
  have HZ := Aside0.mk (sz64 b HBL.out)
  have HZU := Aside0.mk (sz32 U HUL.out)
  have HZV := Aside0.mk (sz32 V HVL.out)
  clear hV hb hU hn hm hr hs
  go_enter Tryd.func93, Tryd.ntmps93
  go_wp2_with (first
    | (go_at_call 108; refine (RefBlock_calls A c n key _ HN.out (Kd.C_below HR.out (below_new _)) hl).mono ?_; rintro e w1 ⟨rfl, hb1⟩; rw [← HBK.out]; have hz1 : w.heap.size < w1.heap.size := (by have h := hb1.size; simp at h; omega); have HO1 := Aside0.mk (show Blk w1 w.heap.size 24 (e8 (List.replicate 32 0)) from (hb1.block _ (by simp)).trans (blk_new w _)); replace hb1 := Aside0.mk (below_then (below_new _) (by simp) hb1))
    | ((with_reducible refine at_store_ (x := .tmp 5) ?_); (refine wpList_store_row rfl 160 _ _ rfl w1.heap.size (e8 b) _ 160 rfl rfl (blk_new w1 _) HZ.out (by rw [e8_size, HBL.out]; rfl) (e8_one _) ?_); (generalize hW2 : World.setRow (World.alloc w1 _) _ _ = W2; have HB2 := Aside0.mk (show Blk W2 w1.heap.size 160 (e8 b) by rw [← hW2]; exact blk_setRow (blk_new w1 _) _); have HO2 := Aside0.mk (show Blk W2 w.heap.size 24 (e8 (List.replicate 32 0)) by rw [← hW2]; exact blk_setRow_far (blk_alloc HO1.out _) (by omega) _); have HW2 := Aside0.mk (show Below w.heap.size w W2 by rw [← hW2]; exact below_setRow (below_alloc hb1.out _) (by omega) _); have hz2 : w1.heap.size < W2.heap.size := blk_lt HB2.out; clear hW2)))
  go_loopw [6, 7, 8] (fun u v i wr => ∃ (j : Nat) (A3 A4 : Option Addr) (c3 c4 : Nat), j ≤ 64 ∧ i = .int .i64 j ∧ u = .slice A3 j c3 ∧ v = .slice A4 j c4 ∧ Aside0 (Bs wr W2.heap.size (.slice A3 j c3) (xored (b.take j) 54)) ∧ Aside0 (Bs wr W2.heap.size (.slice A4 j c4) (xored (b.take j) 92)) ∧ Aside0 (Apart (.slice A3 j c3) (.slice A4 j c4)) ∧ Aside0 (Below W2.heap.size W2 wr)) (fun _ _ i _ => 64 - (intOf i).toNat)
  case atStart => exact ⟨0, none, none, 0, 0, by decide, rfl, rfl, rfl, ⟨Bs.nil _ _⟩, ⟨Bs.nil _ _⟩, ⟨Apart.nil_l _ _ _⟩, ⟨Below.refl _ _⟩⟩
  case round =>
    obtain ⟨j, A3, A4, c3, c4, hj, rfl, rfl, rfl, H6, H7, HA, HW⟩ := hrel
    by_cases hlt : j < 64
    · have hji : (j : Int) < 64 := by omega
      have hjb : j < b.length := by rw [HBL.out]; exact hlt
      obtain ⟨x, hx⟩ : ∃ x, x = b.getD j 0 := ⟨_, rfl⟩
      have cx := blk8 (blk_below HB2.out HW.out) j hjb
      rw [← hx] at cx
      have S5 := Aside0.mk (xored_succ b 54 x j hjb hx)
      have S9 := Aside0.mk (xored_succ b 92 x j hjb hx)
      have XL : ∀ k : UInt8, (xored (b.take j) k).length = j := fun k => by rw [xored_len, List.length_take, HBL.out]; omega
      have HX6 := Aside0.mk (XL 54)
      have HX7 := Aside0.mk (XL 92)
      have XB := Aside0.mk (show bits .xor .u8 (x.toNat : Int) 54 = ((x ^^^ 54).toNat : Int) from bx8 x 54)
      have XB2 := Aside0.mk (show bits .xor .u8 (x.toNat : Int) 92 = ((x ^^^ 92).toNat : Int) from bx8 x 92)
      have HX := Aside0.mk hx
      clear hx XL hjb
      go_wp2_with (first
        | (at_builtin; refine app_bs2 (w0 := W2) W2.heap.size rfl (.tmp 16) (.tmp 21) rfl _ (xored (b.take j) 54) [x ^^^ 54] _ _ _ rfl rfl (H6.out.alloc _) (Bs.read (Bs.one wr W2.heap.size _ rfl HW.out.size _ _ XB.out)).1 (HW.out.alloc HW.out.size _) (by simp; have := HW.out.size; omega) (by rw [HX6.out]; omega) ?_; intro z5 A5 c5 w5 hz5 hB5 hb5 hs5 hg5 hat5; have H7a := Aside0.mk (Kd.sc_other (H7.out.alloc _) hg5.out HA.out.symm); have HA5 := Aside0.mk (Apart.grown HA.out.symm (fun k hk => Bs.own_lt (H7.out.alloc _) k hk) hat5.out); clear cx; have cx2 : w5.cell? ⟨w1.heap.size, j, none⟩ = some (.int .u8 (x.toNat : Int)) := (by rw [HX.out]; exact blk8 (blk_below HB2.out hb5.out) j (by rw [HBL.out]; exact hlt)))
        | (at_builtin; refine app_bs2 (w0 := W2) W2.heap.size rfl (.tmp 23) (.tmp 28) rfl _ (xored (b.take j) 92) [x ^^^ 92] _ _ _ rfl rfl (Kd.R_alloc H7a.out _) (Bs.read (Bs.one w5 W2.heap.size _ rfl hb5.out.size _ _ XB2.out)).1 (hb5.out.alloc hb5.out.size _) (by simp; have := hb5.out.size; omega) (by rw [HX7.out]; omega) ?_; intro z6 A6 c6 w6 hz6 hB6 hb6 hs6 hg6 hat6; have H6a := Aside0.mk (Kd.sc_other (hB5.out.alloc _) hg6.out HA5.out.symm); have HA6 := Aside0.mk (Apart.grown HA5.out.symm (fun k hk => Bs.own_lt (hB5.out.alloc _) k hk) hat6.out)))
      go_roundw
      case rel => exact ⟨j + 1, A5, A6, c5, c6, by omega, by go_num, by rw [show z5.length = j + 1 by rw [hz5.out, List.length_append, HX6.out]; rfl], by rw [show z6.length = j + 1 by rw [hz6.out, List.length_append, HX7.out]; rfl], ⟨by rw [S5.out, ← hz5.out, show j + 1 = z5.length by rw [hz5.out, List.length_append, HX6.out]; rfl]; exact H6a.out⟩, ⟨by rw [S9.out, ← hz6.out, show j + 1 = z6.length by rw [hz6.out, List.length_append, HX7.out]; rfl]; exact hB6.out⟩, ⟨fun k h1 h2 => HA6.out k ((own_len _ _ _ _ _).trans h1) ((own_len _ _ _ _ _).trans h2)⟩, hb6⟩
      case measure => simp [intOf]; omega
    · obtain rfl : j = 64 := by omega
      clear hlt
      have HT := Aside0.mk (show b.take 64 = b from List.take_of_length_le (by rw [HBL.out]; decide))
      have E6 := Aside0.mk (show Bs wr W2.heap.size (.slice A3 64 c3) (xored b 54) by rw [← HT.out]; exact H6.out)
      have E7 := Aside0.mk (show Bs wr W2.heap.size (.slice A4 64 c4) (xored b 92) by rw [← HT.out]; exact H7.out)
      rw [show ((64 : Nat) : Int) = 64 from rfl]
      clear H6 H7
      go_wp2_with (first
        | (at_builtin; refine app_bs2 (w0 := W2) W2.heap.size rfl (.tmp 30) (.tmp 31) rfl _ (xored b 54) txt _ _ _ rfl rfl E6.out (Kd.C_below (Kd.C_below HS.out HW2.out) HW.out) HW.out HW.out.size (by rw [xored_len, HBL.out]; omega) ?_; intro z5 A5 c5 w5 hz5 hB5 hb5 hs5 hg5 hat5; have E7a := Aside0.mk (Kd.sc_other E7.out hg5.out HA.out.symm))
        | (go_at_call 15; (with_reducible refine (RefOf_x (xored b 54 ++ txt) U HU.out A5 c5 _ w5 (by rw [← hz5.out]) (by rw [← hz5.out]; exact hB5.out.read.1) (by rw [hz5.out, List.length_append, xored_len, HBL.out, HM.out]; omega)).mono ?_); rintro e w6 ⟨rfl, hb6⟩; replace hb6 := Aside0.mk hb6)
        | ((with_reducible refine at_store_ (x := .tmp 9) ?_); (refine wpList_store_row rfl 24 _ _ rfl w6.heap.size (e8 U) _ 24 rfl rfl (blk_new w6 _) HZU.out (by rw [e8_size, HUL.out]; rfl) (e8_one _) ?_); (generalize hW7 : World.setRow (World.alloc w6 _) _ _ = W7; have HU7 := Aside0.mk (show Blk W7 w6.heap.size 24 (e8 U) by rw [← hW7]; exact blk_setRow (blk_new w6 _) _); have hb7 := Aside0.mk (show Below w6.heap.size w6 W7 by rw [← hW7]; exact below_setRow (below_new _) (Nat.le_refl _) _); clear hW7; have E7b := Aside0.mk (Kd.R_below (Kd.R_below E7a.out hb6.out) hb7.out); have HW7 := Aside0.mk (show Below W2.heap.size W2 W7 from below_then (below_then hb5.out hs5.out hb6.out) (Nat.le_trans hs5.out hb6.out.size) hb7.out)))
        | (at_builtin; refine app_bs2 (w0 := W2) W2.heap.size rfl (.tmp 34) (.tmp 35) rfl _ (xored b 92) U _ _ _ rfl rfl E7b.out (blk_C8 HU7.out 32 HUL.out (by decide)) HW7.out HW7.out.size (by rw [xored_len, HBL.out]; omega) ?_; intro z8 A8 c8 w8 hz8 hB8 hb8 hs8 hg8 hat8; have HO8 := Aside0.mk (blk_below HO2.out hb8.out))
        | (go_at_call 15; (with_reducible refine (RefOf_x (xored b 92 ++ U) V HV.out A8 c8 _ w8 (by rw [← hz8.out]) (by rw [← hz8.out]; exact hB8.out.read.1) (by rw [hz8.out, List.length_append, xored_len, HBL.out, HUL.out]; omega)).mono ?_); rintro e w9 ⟨rfl, hb9⟩; have HO9 := Aside0.mk (blk_below HO8.out hb9); replace hb9 := Aside0.mk hb9)
        | ((with_reducible refine at_store_ (x := .tmp 4) ?_); (refine wpList_store_row rfl 24 _ _ rfl w.heap.size (e8 V) _ 24 rfl rfl HO9.out HZV.out (by rw [e8_size, e8_size, HVL.out]; rfl) (e8_one _) ?_)))
      exact ret_row (p := 4) (ty := 24) w.heap.size 24 (e8 V) _ rfl rfl (blk_setRow HO9.out _) Tryd.underlying24 rfl HZV.out ⟨rfl, below_setRow (below_then (below_then HW2.out HW2.out.size hb8.out) (Nat.le_trans HW2.out.size hs8.out) hb9.out) (Nat.le_refl _) _⟩
end Go.Proofs.YthmlidlnojdggaaDoor.Mac
