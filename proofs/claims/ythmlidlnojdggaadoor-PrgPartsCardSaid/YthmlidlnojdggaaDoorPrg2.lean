/- Package prg by contracts: numbers of bytes, blocks. -/
import Derived.Test.YthmlidlnojdggaaDoorPrg
import Derived.Test.YthmlidlnojdggaaDoorMark
set_option linter.unusedVariables false
set_option linter.unusedSimpArgs false
namespace Go.Proofs.YthmlidlnojdggaaDoor.Prg
open Go.RowKit Go.Proofs.YthmlidlnojdggaaDoorW.PrintWords Go.Proofs.YthmlidlnojdggaaDoorW.PrintLast Go.Proofs.YthmlidlnojdggaaDoor.Sha Go.Proofs.YthmlidlnojdggaaDoor.Mac

theorem or256 (v : Nat) (c : UInt8) (h : v * 256 < 18446744073709551616) : bits .or .u64 ((v : Int) * 256) (c.toNat : Int) = ((256 * v + c.toNat : Nat) : Int) := by
  have hc := c.toNat_lt
  have e := u64_or_nat (v * 256) c.toNat h (by omega)
  rw [show ((v * 256 : Nat) : Int) = (v : Int) * 256 by omega] at e
  rw [e, show v * 256 = v <<< 8 from (Nat.shiftLeft_eq v 8).symm, ← Nat.shiftLeft_add_eq_or_of_lt (show c.toNat < 2 ^ 8 by omega), Nat.shiftLeft_eq]
  congr 1
  omega
theorem num_take (l : List UInt8) (k : Nat) (h : k < l.length) (x : UInt8) (hx : x = l.getD k 0) : num (l.take (k + 1)) = 256 * num (l.take k) + x.toNat := by
  have e : l.getD k 0 = l[k] := by simp [List.getD, h]
  rw [List.take_succ_eq_append_getElem h, num_snoc, hx, e]
theorem num_bd (l : List UInt8) (k : Nat) (h : k ≤ 7) : num (l.take k) * 256 < 18446744073709551616 := by
  have h1 := num_lt (l.take k)
  have h2 : 256 ^ (l.take k).length ≤ 256 ^ 7 := Nat.pow_le_pow_right (by decide) (by rw [List.length_take]; omega)
  have h3 : (256 : Nat) ^ 7 * 256 = 18446744073709551616 := by decide
  rw [← h3]
  exact Nat.mul_lt_mul_of_pos_right (Nat.lt_of_lt_of_le h1 h2) (by decide)
set_option maxRecDepth 100000 in
set_option maxHeartbeats 4000000 in
theorem number_calls (A : Option Addr) (c n : Nat) (l : List UInt8) (w : World) (hn : l.length = n) (hr : Kb.C w A n l) (h8 : n ≤ 8) (V : Nat) (hV : V = num l) :
    Calls Tryd.prog 66 #[.slice A n c] w fun e w' => e = .returned (.int .u64 (V : Int)) ∧ w = w' := by
  have HN := Aside0.mk hn
  have HR := Aside0.mk hr
  have HV := Aside0.mk hV
  clear hn hr hV
  go_enter Tryd.func66, Tryd.ntmps66
  go_wp2
  go_loop [3, 5, 8] (fun v _ i => ∃ (k m : Nat), k ≤ n ∧ i = .int .i64 k ∧ v = .int .u64 m ∧ Aside0 (m = num (l.take k))) (fun _ _ i => n - (intOf i).toNat)
  case atStart => exact ⟨0, 0, Nat.zero_le _, rfl, rfl, ⟨rfl⟩⟩
  case round =>
    obtain ⟨k, m, hk, rfl, rfl, HM⟩ := hrel
    by_cases hlt : k < n
    · obtain ⟨x, hx⟩ : ∃ x, x = l.getD k 0 := ⟨_, rfl⟩
      obtain ⟨ad, rfl, cx⟩ := at_bn HR.out k hlt
      rw [← hx] at cx
      have HS := Aside0.mk (num_take l k (by rw [HN.out]; exact hlt) x hx)
      have hb : m * 256 < 18446744073709551616 := by rw [HM.out]; exact num_bd l k (by omega)
      have hor := or256 m x hb
      have hwr : (m : Int) * 256 % 18446744073709551616 = (m : Int) * 256 := by omega
      have hwx : IntKind.u64.wrap (x.toNat : Int) = (x.toNat : Int) := by have := x.toNat_lt; show (x.toNat : Int) % 18446744073709551616 = _; omega
      have hki : (k : Int) < (n : Int) := by omega
      clear hx hb
      go_wp2_with fail
      --HERE
      go_round
      case rel => exact ⟨k + 1, 256 * m + x.toNat, hlt, by go_num, by go_num, ⟨by rw [HS.out, HM.out]⟩⟩
      case measure => simp [intOf]; omega
    · obtain rfl : k = n := by omega
      clear hlt
      have HE := Aside0.mk (show num (l.take k) = V by rw [HV.out, List.take_of_length_le (by rw [HN.out]; exact Nat.le_refl _)])
      go_wp2
      go_ret
      have hm : m = V := HM.out.trans HE.out
      subst hm
      exact ⟨rfl, rfl⟩
set_option maxRecDepth 100000 in
set_option maxHeartbeats 4000000 in
theorem block_calls (seed i : Nat) (z k : Int) (hz : z = (seed : Int)) (hk : k = (i : Int)) (hs : seed < 18446744073709551616) (hi : i ≤ 2000000) (l : List UInt8) (hl : l.length ≤ 300) (V : List UInt8) (hV : V = blk seed l i) (w : World) :
    Calls Tryd.prog 65 #[.int .u64 z, .string (strOf l), .int .i64 k] w fun e w' => e = .returned (.agg (e8 V)) ∧ Below w.heap.size w w' := by
  subst hz hk
  have HS := Aside0.mk hs
  have HV := Aside0.mk (show V = macOf (beN seed 8) (btext l i) from hV)
  have HVL := Aside0.mk (show V.length = 32 by rw [hV]; exact blk_len _ _ _)
  have HZ := Aside0.mk (sz32 V HVL.out)
  have HO := Aside0.mk (show (e8 (List.replicate 32 0)).size = (e8 V).size by rw [e8_size, e8_size, HVL.out]; rfl)
  have hii : (i : Int) ≤ 2000000 := by omega
  have HC := Aside0.mk (show (4 : Int) = ((4 : Nat) : Int) ∧ i < 18446744073709551616 ∧ 4 ≤ 8 ∧ (8 : Int) = ((8 : Nat) : Int) ∧ 8 ≤ 8 from ⟨rfl, by omega, by decide, rfl, by decide⟩)
  clear hs hV
  go_enter Tryd.func65, Tryd.ntmps65
  go_wp2_with (first
    | ((with_reducible refine at_alloc_ (d := some 6) ?_); (refine wpList_make_ (t := 24) ((e8 (List.replicate 32 0))) (fun g => .pointer (some ⟨g, 0, none⟩)) (by rfl) ?_ ?_); (first | (go_simp; done) | (unfold execOp; go_simp; done) | (simp only [Act.put]; go_simp; done) | (go_simp; constructor <;> rfl) | (go_simp; rfl) | rfl); intro g6 x1 hge_g6 B_g6 hbx1; replace B_g6 := Aside0.mk B_g6; have hz1 := Below.size hbx1; replace hbx1 := Aside0.mk hbx1)
    | (((with_reducible refine at_conv_ (d := some 9) ?_); refine wpList_conv_ms l (.tmp 8) rfl rfl rfl (by omega) ?_; intro A9 c9 W9 hM9 hb9; simp only [Act.put, List.setIfInBounds_toArray, List.set_cons_zero, List.set_cons_succ]); have L2_w := Aside0.mk (below_then hbx1.out (Below.size hbx1.out) hb9); have hz2 := Below.size hb9; replace hb9 := Aside0.mk hb9; have M9 := Aside0.mk (show Ms W9 x1.heap.size (.slice A9 l.length c9) l from hM9.out))
    | ((with_reducible refine at_row_ (d := some 10) ?_); (refine wpList_make_ (t := 5) (#[.int .u8 0]) (fun g => .slice (some ⟨g, 0, none⟩) 1 1) (by rfl) ?_ ?_); (first | exact exec_row1 _ _ _ rfl rfl _ | (go_simp; done) | (unfold execOp; go_simp; done) | (simp only [Act.put]; go_simp; done) | (go_simp; constructor <;> rfl) | (go_simp; rfl) | rfl); intro g10 x2 hge_g10 B_g10 hbx2; replace B_g10 := Aside0.mk B_g10; have L3_w := Aside0.mk (below_then L2_w.out (Below.size L2_w.out) hbx2); have L3_x1 := Aside0.mk (below_then hb9.out (Below.size hb9.out) hbx2); have hz3 := Below.size hbx2; replace hbx2 := Aside0.mk hbx2)
    | (at_builtin; refine app_ms (w0 := x1) x1.heap.size rfl (.tmp 9) (.tmp 10) rfl _ (l) ([0]) _ _ _ rfl rfl (Ms.below M9.out hbx2.out) (Bs.of_blk (base := x1.heap.size) (l := [0]) B_g10.out rfl (by omega) rfl (by decide)).read.1 L3_x1.out (Below.size L3_x1.out) (by omega) ?_; intro z11 A11 c11 x3 hzx3 hBx3 hbx3 hsx3 hgx3; have L4_w := Aside0.mk (Below.grown L3_w.out hgx3.out (Below.size L3_w.out) (fun k hk => Nat.le_trans (by omega) (Ms.ge (Ms.below M9.out hbx2.out) k hk))); have hz4 := hgx3.out.size; have M11 := Aside0.mk (show Ms x3 x1.heap.size (.slice A11 z11.length c11) z11 from hBx3.out))
    | (go_at_call 91; (with_reducible refine (bytes_calls i 4 _ _ rfl HC.out.1 HC.out.2.1 HC.out.2.2.1 x3).mono ?_); rintro e x4 ⟨A14, c14, rfl, hB14, hbx4⟩; have L5_w := Aside0.mk (below_then L4_w.out (Below.size L4_w.out) hbx4); have L5_x1 := Aside0.mk (below_then hbx3.out (Below.size hbx3.out) hbx4); have hz5 := Below.size hbx4; replace hbx4 := Aside0.mk hbx4; have B14 := Aside0.mk (show Kb.C x4 A14 4 (beN i 4) from (by have h := hB14.read.1; rwa [beN_len] at h)); rw [beN_len]; have HL11 := Aside0.mk (show z11.length = l.length + 1 by rw [hzx3.out, List.length_append]; rfl))
    | (at_builtin; refine app_ms (w0 := x1) x1.heap.size rfl (.tmp 11) (.tmp 14) rfl _ (z11) ((beN i 4)) _ _ _ rfl rfl (Ms.below M11.out hbx4.out) B14.out L5_x1.out (Below.size L5_x1.out) (by rw [HL11.out]; omega) ?_; intro z15 A15 c15 x5 hzx5 hBx5 hbx5 hsx5 hgx5; have L6_w := Aside0.mk (Below.grown L5_w.out hgx5.out (Below.size L5_w.out) (fun k hk => Nat.le_trans (by omega) (Ms.ge (Ms.below M11.out hbx4.out) k hk))); have hz6 := hgx5.out.size; have HT := Aside0.mk (show z15 = btext l i by rw [hzx5.out, hzx3.out]; rfl); rw [show z15.length = l.length + 5 by rw [HT.out, btext_len]] at hBx5 ⊢; have K15 := Aside0.mk (show Kb.C x5 A15 (l.length + 5) (btext l i) from (by have h := hBx5.out.read; rwa [HT.out, btext_len] at h)))
    | (go_at_call 91; (with_reducible refine (bytes_calls seed 8 _ _ rfl HC.out.2.2.2.1 HS.out HC.out.2.2.2.2 x5).mono ?_); rintro e x6 ⟨A17, c17, rfl, hB17, hbx6⟩; have L7_w := Aside0.mk (below_then L6_w.out (Below.size L6_w.out) hbx6); have L7_x1 := Aside0.mk (below_then hbx5.out (Below.size hbx5.out) hbx6); have hz7 := Below.size hbx6; replace hbx6 := Aside0.mk hbx6; have B17 := Aside0.mk (show Kb.C x6 A17 8 (beN seed 8) from (by have h := hB17.read.1; rwa [beN_len] at h)); rw [beN_len])
    | (go_at_call 92; (with_reducible refine (MacOf_calls A17 A15 c17 c15 8 (l.length + 5) (beN seed 8) (btext l i) V HV.out x6 (beN_len _ _) (btext_len _ _) B17.out (Kd.C_below K15.out hbx6.out) (by omega) (by omega)).mono ?_); rintro e x7 ⟨rfl, hbx7⟩; have L8_w := Aside0.mk (below_then L7_w.out (Below.size L7_w.out) hbx7); have L8_x1 := Aside0.mk (below_then L7_x1.out (Below.size L7_x1.out) hbx7); have L8_x5 := Aside0.mk (below_then hbx6.out (Below.size hbx6.out) hbx7); have hz8 := Below.size hbx7; replace hbx7 := Aside0.mk hbx7)
    | ((with_reducible refine at_store_ (x := .tmp 6) ?_); (refine wpList_store_row rfl 24 _ _ rfl g6 (e8 V) _ 24 rfl rfl (blk_below B_g6.out L8_x1.out) HZ.out HO.out (e8_one _) ?_); generalize hWx8 : World.setRow x7 _ _ = x8; have L9_w := Aside0.mk (show Below w.heap.size w x8 by rw [← hWx8]; exact below_setRow L8_w.out (by omega) _); have hzL9_w := Below.size L9_w.out; have B_g6_9 := Aside0.mk (show Blk x8 g6 24 (e8 V) by rw [← hWx8]; exact blk_setRow (blk_below B_g6.out L8_x1.out) _); clear hWx8))
  exact ret_row (p := 6) (ty := 24) g6 24 (e8 V) _ rfl rfl B_g6_9.out Tryd.underlying24 rfl HZ.out ⟨rfl, L9_w.out⟩
end Go.Proofs.YthmlidlnojdggaaDoor.Prg
