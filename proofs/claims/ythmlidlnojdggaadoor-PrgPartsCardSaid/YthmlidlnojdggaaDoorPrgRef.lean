/- The document's layer 7 by contracts: Label, Block. -/
import Derived.Test.YthmlidlnojdggaaDoorPrgWords
import Derived.Test.YthmlidlnojdggaaDoorMacRefOf
set_option linter.unusedVariables false
set_option linter.unusedSimpArgs false
namespace Go.Proofs.YthmlidlnojdggaaDoor.Prg
open Go.RowKit Go.Proofs.YthmlidlnojdggaaDoorW.PrintWords Go.Proofs.YthmlidlnojdggaaDoorW.PrintLast Go.Proofs.YthmlidlnojdggaaDoor.Sha Go.Proofs.YthmlidlnojdggaaDoor.Mac

set_option maxRecDepth 100000 in
set_option maxHeartbeats 4000000 in
theorem RefLabel_calls (l : List UInt8) (hl : l.length ≤ 300) (v : Bool) (hv : v = decide (Lab l)) (w : World) :
    Calls Tryd.prog 67 #[.string (strOf l)] w fun e w' => e = .returned (.bool v) ∧ w = w' := by
  have HV := Aside0.mk hv
  have hsz := str_size l
  obtain ⟨n, hn⟩ : ∃ n, n = l.length := ⟨_, rfl⟩
  rw [← hn] at hsz hl
  have HN := Aside0.mk hn
  clear hv hn
  go_enter Tryd.func67, Tryd.ntmps67
  go_wp2
  go_loop [3] (fun i => ∃ p : Nat, p ≤ n ∧ i = .int .i64 p ∧ Aside0 (LabTo l p)) (fun i => n - (intOf i).toNat)
  case atStart => exact ⟨0, Nat.zero_le _, rfl, ⟨fun i hi => absurd hi (Nat.not_lt_zero i)⟩⟩
  case round =>
    obtain ⟨p, hp, rfl, HP⟩ := hrel
    by_cases hlt : p < n
    · obtain ⟨x, hx⟩ : ∃ x, x = l.getD p 0 := ⟨_, rfl⟩
      have hpi : (p : Int) < (n : Int) := by omega
      have hix : ∀ w, (Instr.index 9 (.string (strOf l)) (.int .i64 (p : Int))).run Tryd.prog w = .ok (.int .u8 (x.toNat : Int)) w := fun w => str_index l .i64 p (by rw [← HN.out]; exact hlt) x hx _ rfl w
      by_cases hok : 32 ≤ x.toNat ∧ x.toNat ≤ 126
      · have i1 : (32 : Int) ≤ (x.toNat : Int) := by omega
        have i2 : (x.toNat : Int) ≤ 126 := by omega
        have HP2 := Aside0.mk (show LabTo l (p + 1) from fun i hi => by
          rcases Nat.lt_or_ge i p with h | h
          · exact HP.out i h
          · rw [show i = p by omega, ← hx]; exact hok)
        clear hx hok
        go_wp2
        go_round
        case rel => exact ⟨p + 1, hlt, by go_num, HP2⟩
        case measure => simp [intOf]; omega
      · have HV2 := Aside0.mk (show v = false by
          rw [HV.out]
          refine decide_eq_false (fun h => ?_)
          have := h.2 p (by rw [← HN.out]; exact hlt)
          rw [← hx] at this
          exact hok this)
        have hbad : (x.toNat : Int) < 32 ∨ (32 ≤ (x.toNat : Int) ∧ 126 < (x.toNat : Int)) := by omega
        clear hx hok
        rcases hbad with h1 | ⟨h0, h1⟩
        all_goals
          go_wp2
          go_ret
          exact ⟨by rw [HV2.out]; rfl, rfl⟩
    · obtain rfl : p = n := by omega
      have HV2 := Aside0.mk (show v = decide ((p : Int) ≤ 64) by
        rw [HV.out]
        by_cases h : p ≤ 64
        · rw [decide_eq_true (show Lab l from ⟨by rw [← HN.out]; exact h, by rw [← HN.out]; exact HP.out⟩), decide_eq_true (by omega)]
        · rw [decide_eq_false (fun hL => h (by rw [HN.out]; exact hL.1)), decide_eq_false (by omega)])
      clear hlt
      go_wp2
      go_ret
      exact ⟨by rw [HV2.out]; rfl, rfl⟩
theorem five_cells (i : Nat) (h : i ≤ 2000000) : #[Value.int .u8 0, .int .u8 ((i : Int) / 16777216), .int .u8 ((i : Int) / 65536 % 256), .int .u8 ((i : Int) / 256 % 256), .int .u8 ((i : Int) % 256)] = (((0 : UInt8) :: beN i 4).map fun b => Value.int .u8 (b.toNat : Int)).toArray := by
  have e3 : (i : Int) / 16777216 = ((UInt8.ofNat (i / 256 ^ 3)).toNat : Int) := by rw [← byte_pow i 3]; show _ = (i : Int) / 16777216 % 256; omega
  have e2 : (i : Int) / 65536 % 256 = ((UInt8.ofNat (i / 256 ^ 2)).toNat : Int) := by rw [← byte_pow i 2]; rfl
  have e1 : (i : Int) / 256 % 256 = ((UInt8.ofNat (i / 256 ^ 1)).toNat : Int) := by rw [← byte_pow i 1]; rfl
  have e0 : (i : Int) % 256 = ((UInt8.ofNat (i / 256 ^ 0)).toNat : Int) := by rw [← byte_pow i 0]; show _ = (i : Int) / 1 % 256; omega
  rw [e3, e2, e1, e0]
  rfl
theorem quo_n (s k p : Nat) (hk : k ≤ 7) (hp : p = 256 ^ 7 / 256 ^ k) (hs : s < 18446744073709551616) : (IntKind.u64.wrap ((s : Int) / (p : Int))).tmod 256 % 256 = ((UInt8.ofNat (s / 256 ^ (8 - 1 - k))).toNat : Int) := by
  have hp2 : p = 256 ^ (7 - k) := by rw [hp]; exact Nat.pow_div hk (by decide)
  have hw : ∀ z : Int, IntKind.u64.wrap z = z % 18446744073709551616 := fun z => rfl
  have hd := Nat.div_le_self s p
  rw [UInt8.toNat_ofNat', show 8 - 1 - k = 7 - k by omega, ← hp2, hw, ← Int.natCast_ediv]
  obtain ⟨q, hq⟩ : ∃ q, q = s / p := ⟨_, rfl⟩
  rw [← hq] at hd ⊢
  rw [Int.tmod_eq_emod_of_nonneg (by omega)]
  omega
theorem pw_next (k p : Nat) (hp : p = 256 ^ 7 / 256 ^ k) : p / 256 = 256 ^ 7 / 256 ^ (k + 1) := by rw [hp, Nat.div_div_eq_div_mul, ← Nat.pow_succ]
theorem pw_bd (k p : Nat) (hp : p = 256 ^ 7 / 256 ^ k) : p ≤ 72057594037927936 := by rw [hp]; exact Nat.div_le_self _ _
theorem pw_pos (k p : Nat) (hk : k ≤ 7) (hp : p = 256 ^ 7 / 256 ^ k) : 1 ≤ p := by
  rw [hp, Nat.pow_div hk (by decide)]
  exact Nat.one_le_pow _ _ (by decide)
set_option maxRecDepth 100000 in
set_option maxHeartbeats 4000000 in
theorem RefBlock_calls (seed i : Nat) (z k : Int) (hz : z = (seed : Int)) (hk : k = (i : Int)) (hs : seed < 18446744073709551616) (hi : i ≤ 2000000) (l : List UInt8) (hl : l.length ≤ 300) (V : List UInt8) (hV : V = blk seed l i) (w : World) :
    Calls Tryd.prog 68 #[.int .u64 z, .string (strOf l), .int .i64 k] w fun e w' => e = .returned (.agg (e8 V)) ∧ Below w.heap.size w w' := by
  subst hz hk
  have HS := Aside0.mk hs
  have HV := Aside0.mk (show V = macOf (beN seed 8) (btext l i) from hV)
  have HVL := Aside0.mk (show V.length = 32 by rw [hV]; exact blk_len _ _ _)
  have HZ := Aside0.mk (sz32 V HVL.out)
  have HO := Aside0.mk (show (e8 (List.replicate 32 0)).size = (e8 V).size by rw [e8_size, e8_size, HVL.out]; rfl)
  have hii : (i : Int) ≤ 2000000 := by omega
  have HL8 := Aside0.mk (beN_len seed 8)
  have HC5 := Aside0.mk (show ((0 : UInt8) :: beN i 4).length = 5 by rw [List.length_cons, beN_len])
  have HC6 := Aside0.mk (show 5 ≤ 9223372036854775807 by decide)
  clear hs hV
  go_enter Tryd.func68, Tryd.ntmps68
  go_wp2_with ((with_reducible refine at_alloc_ (d := some 6) ?_); (refine wpList_make_ (t := 24) ((e8 (List.replicate 32 0))) (fun g => .pointer (some ⟨g, 0, none⟩)) (by rfl) ?_ ?_); (first | (go_simp; done) | (unfold execOp; go_simp; done) | (simp only [Act.put]; go_simp; done) | (go_simp; constructor <;> rfl) | (go_simp; rfl) | rfl); intro g6 x1 hge_g6 B_g6 hbx1; replace B_g6 := Aside0.mk B_g6; have hz1 := Below.size hbx1; replace hbx1 := Aside0.mk hbx1)
  go_loopw [7, 8, 9] (fun o p i wr => ∃ (j q : Nat) (A3 : Option Addr) (c3 : Nat), j ≤ 8 ∧ i = .int .i64 j ∧ p = .int .u64 q ∧ o = .slice A3 j c3 ∧ Aside0 (q = 256 ^ 7 / 256 ^ j) ∧ Aside0 (Bs wr x1.heap.size (.slice A3 j c3) ((beN seed 8).take j)) ∧ Aside0 (Below x1.heap.size x1 wr)) (fun _ _ i _ => 8 - (intOf i).toNat)
  case atStart => exact ⟨0, 72057594037927936, none, 0, by decide, rfl, rfl, rfl, ⟨by decide⟩, ⟨Bs.nil _ _⟩, ⟨Below.refl _ _⟩⟩
  case round =>
    obtain ⟨j, q, A3, c3, hj, rfl, rfl, rfl, HQ, HB, HW⟩ := hrel
    by_cases hlt : j < 8
    · have hji : (j : Int) < 8 := by omega
      have hq1 := pw_pos j q (by omega) HQ.out
      have hq2 := pw_bd j q HQ.out
      have HY := Aside0.mk (quo_n seed j q (by omega) HQ.out HS.out)
      have HT := Aside0.mk (beN_take_succ seed 8 j hlt)
      have HJ := Aside0.mk (show ((beN seed 8).take j).length = j by rw [List.length_take, HL8.out]; omega)
      have HQ2 := Aside0.mk (pw_next j q HQ.out)
      have hq0 : ((q : Int) == 0) = false := beq_eq_false_iff_ne.2 (by omega)
      have hqz : ¬ (q : Int) = 0 := by omega
      go_wp2_with (at_builtin; refine app_bs (w0 := x1) x1.heap.size rfl (.tmp 15) (.tmp 21) rfl _ ((beN seed 8).take j) [UInt8.ofNat (seed / 256 ^ (8 - 1 - j))] _ _ _ rfl rfl (HB.out.alloc _) (Bs.read (Bs.one wr x1.heap.size _ rfl HW.out.size _ _ HY.out)).1 (HW.out.alloc HW.out.size _) (by simp; have := HW.out.size; omega) (by rw [HJ.out]; omega) ?_; intro z5 A5 c5 w5 hz5 hB5 hb5 hs5 hg5)
      rw [show z5.length = j + 1 by rw [hz5.out, List.length_append, HJ.out]; rfl] at hB5 ⊢
      go_roundw
      case rel => exact ⟨j + 1, q / 256, A5, c5, hlt, by go_num, by go_num, rfl, HQ2, ⟨by rw [HT.out, ← hz5.out]; exact hB5.out⟩, hb5⟩
      case measure => simp [intOf]; omega
    · obtain rfl : j = 8 := by omega
      clear hlt
      have L2_w := Aside0.mk (below_then hbx1.out (Below.size hbx1.out) HW.out)
      have hz2 := Below.size HW.out
      have HK := Aside0.mk (show Kb.C wr A3 8 (beN seed 8) by have h := HB.out.read.1; rwa [List.take_of_length_le (by rw [HL8.out]; decide)] at h)
      rw [show ((8 : Nat) : Int) = 8 from rfl]
      go_wp2_with (first
        | (((with_reducible refine at_conv_ (d := some 26) ?_); refine wpList_conv_ms l (.tmp 25) rfl rfl rfl (by omega) ?_; intro A9 c9 W9 hM9 hb9; simp only [Act.put, List.setIfInBounds_toArray, List.set_cons_zero, List.set_cons_succ]); have L3_w := Aside0.mk (below_then L2_w.out (Below.size L2_w.out) hb9); have L3_x1 := Aside0.mk (below_then HW.out (Below.size HW.out) hb9); have hz3 := Below.size hb9; replace hb9 := Aside0.mk hb9; have M9 := Aside0.mk (show Ms W9 wr.heap.size (.slice A9 l.length c9) l from hM9.out))
        | ((at_builtin; refine app_ms (w0 := wr) wr.heap.size rfl (.tmp 26) (.tmp 41) rfl _ l (0 :: beN i 4) _ _ _ rfl rfl (Ms.below hM9.out (below_new _)) (Bs.read (Bs.lit W9 wr.heap.size _ rfl (Below.size hb9.out) (0 :: beN i 4) 5 HC5.out _ (five_cells i hi) HC6.out)).1 (below_alloc hb9.out _) (Below.size (below_alloc hb9.out _)) (by omega) ?_; intro z15 A15 c15 W15 hz15 hB15 hb15 hs15 hg15); have HT := Aside0.mk (show z15 = btext l i by rw [hz15.out, btext, List.append_assoc]; rfl); rw [show z15.length = l.length + 5 by rw [HT.out, btext_len]] at hB15 ⊢; have K15 := Aside0.mk (show Kb.C W15 A15 (l.length + 5) (btext l i) by have h := hB15.out.read; rwa [HT.out, btext_len] at h); have K16 := Aside0.mk (Kd.C_below HK.out hb15.out))
        | ((go_at_call 93; (with_reducible refine (RefMacOf_calls A3 A15 c3 c15 8 (l.length + 5) (beN seed 8) (btext l i) V HV.out W15 (beN_len _ _) (btext_len _ _) K16.out K15.out (by omega) (by omega)).mono ?_); rintro e W17 ⟨rfl, hb17⟩; have HW17 := Aside0.mk (below_then (below_then HW.out HW.out.size hb15.out) (Nat.le_trans HW.out.size hb15.out.size) hb17); have HG17 := Aside0.mk (blk_below B_g6.out HW17.out)))
        | (((with_reducible refine at_store_ (x := .tmp 6) ?_); refine wpList_store_row rfl 24 _ _ rfl g6 (e8 V) _ 24 rfl rfl HG17.out HZ.out HO.out (e8_one _) ?_)))
      exact ret_row (p := 6) (ty := 24) g6 24 (e8 V) _ rfl rfl (blk_setRow HG17.out _) Tryd.underlying24 rfl HZ.out ⟨rfl, below_setRow (below_then hbx1.out (Below.size hbx1.out) HW17.out) (by omega) _⟩
end Go.Proofs.YthmlidlnojdggaaDoor.Prg
