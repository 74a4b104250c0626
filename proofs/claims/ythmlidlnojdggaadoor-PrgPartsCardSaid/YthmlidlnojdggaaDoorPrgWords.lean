/- Package prg by contracts: Words. -/
import Derived.Test.YthmlidlnojdggaaDoorPrgNum
import Derived.Test.YthmlidlnojdggaaDoorWord
set_option linter.unusedVariables false
set_option linter.unusedSimpArgs false
namespace Go.Proofs.YthmlidlnojdggaaDoor.Prg
open Go.RowKit Go.Proofs.YthmlidlnojdggaaDoorW.PrintWords Go.Proofs.YthmlidlnojdggaaDoorW.PrintLast Go.Proofs.YthmlidlnojdggaaDoor.Sha Go.Proofs.YthmlidlnojdggaaDoor.Mac

def okW (l : List UInt8) (a : Int) : Prop := Lab l ∧ 0 ≤ a ∧ a ≤ 32
instance (l : List UInt8) (a : Int) : Decidable (okW l a) := by unfold okW; infer_instance
def wv (seed : Nat) (l : List UInt8) (a : Int) : List W32 := if okW l a then words seed l a.toNat else []
def we (l : List UInt8) (a : Int) : Option Int := if okW l a then none else some 1
theorem C_part {W : World} {g : Nat} {b : List UInt8} (h : Kb.C W (some ⟨g, 0, none⟩) 32 b) (hb : b.length = 32) (k : Nat) (hk : k ≤ 7) : Kb.C W (some ⟨g, 4 * k, none⟩) 4 ((b.drop (4 * k)).take 4) := by
  have h0 := Kd.reads_of_C (d := (0 : UInt8)) h
  refine Kd.C_of_reads (d := (0 : UInt8)) ⟨by rw [List.length_take, List.length_drop, hb]; omega, by decide, fun hp => ?_⟩
  obtain ⟨ad, e, hc⟩ := h0.2.2 (by decide)
  injection e with e
  subst e
  refine ⟨_, rfl, fun j hj => ?_⟩
  have := hc (4 * k + j) (by omega)
  rw [add_plain] at this
  have e2 : (⟨g, 4 * k, none⟩ : Addr).add j = ⟨g, 4 * k + j, none⟩ := by unfold Addr.add; split <;> simp_all
  rw [e2, this]
  have h1 : 4 * k + j < b.length := by omega
  have e3 : ((b.drop (4 * k)).take 4).getD j 0 = b.getD (4 * k + j) 0 := by simp [List.getD, List.getElem?_take, List.getElem?_drop, hj]
  rw [e3]
theorem sliceAt_arr (g k : Nat) (hk : k ≤ 7) (w : World) : (Instr.sliceAt 24 (.pointer (some ⟨g, 0, none⟩)) (some (.int .i64 (4 * (k : Int)))) (some (.int .i64 (4 * (k : Int) + 4))) none).run Tryd.prog w = .ok (.slice (some ⟨g, 4 * k, none⟩) 4 (32 - 4 * k)) w := by
  have hl : Tryd.prog.arrayLen 24 = 32 := by kernel_rfl
  have h := run_sliceAt_array_lh (P := Tryd.prog) w 24 ⟨g, 0, none⟩ (by kernel_rfl) .i64 .i64 (4 * (k : Int)) (4 * (k : Int) + 4) (by omega) (by omega) (by rw [hl]; omega)
  have hs : (sizeOf (Tryd.prog.elem 24)).run Tryd.prog w = .ok 1 w := by kernel_rfl
  have e1 : (4 * (k : Int)).toNat = 4 * k := by omega
  have e2 : (4 * (k : Int) + 4).toNat = 4 * k + 4 := by omega
  rw [h, hs, hl, e1, e2]
  have e3 : (⟨g, 0, none⟩ : Addr).add (4 * k * 1) = ⟨g, 4 * k, none⟩ := by rw [Nat.mul_one, add_plain]
  simp only [Result.andThen_ok, slicedAt, e3]
  rw [if_neg (by omega), show 4 * k + 4 - 4 * k = 4 by omega]
theorem room_words (W : World) (cs : Array Value) (n : Nat) (hs : cs.size = n) (hc : n ≤ maxLen) : Ws (W.alloc (.cells cs 52)) W.heap.size (.slice (some ⟨W.heap.size, 0, none⟩) 0 n) [] :=
  Kd.R_of_own ⟨rfl, .inr ⟨W.heap.size, n, cs, rfl, Nat.le_refl _, blk_new W _, Nat.zero_le _, hc, by rw [hs, Nat.mul_one], by simp [encs]⟩⟩ (fun _ _ => trivial)
def mk0 (n : Nat) : Array Value := madeCells (Value.int .u32 0).cells n
theorem mk0_size (n : Nat) : (mk0 n).size = n := by simp [mk0, madeCells]
theorem make_words (n : Nat) (hn : n ≤ 32) (w : World) : (Instr.makeSlice 38 (.int .i64 0) (.int .i64 (n : Int))).run Tryd.prog w = .ok (.slice (some ⟨w.heap.size, 0, none⟩) 0 n) (w.alloc (.cells (mk0 n) 52)) := by
  obtain ⟨i0, hi, hz0, hz1, hz2⟩ := info_parts infoW
  have h := run_makeSlice (P := Tryd.prog) w 38 52 i0 (.int .u32 0) Tryd.underlying38 hi hz0 .i64 .i64 0 (n : Int) (Int.le_refl 0) (by omega) (by rw [hz1]; omega) (by rw [hz2]; omega) (by omega)
  rw [hz1] at h
  simpa [mk0] using h
theorem wd_val (b : List UInt8) (k q : Nat) (hq : q = num ((b.drop (4 * k)).take 4)) : (q : Int) % 4294967296 = ((wd b k).toNat : Int) := by
  rw [wd, ← hq, BitVec.toNat_ofNat]
  rfl
theorem num4 (b : List UInt8) (k : Nat) : num ((b.drop (4 * k)).take 4) < 4294967296 := by
  have h1 := num_lt ((b.drop (4 * k)).take 4)
  have h2 : 256 ^ ((b.drop (4 * k)).take 4).length ≤ 256 ^ 4 := Nat.pow_le_pow_right (by decide) (by rw [List.length_take]; omega)
  have h3 : (256 : Nat) ^ 4 = 4294967296 := by decide
  rw [← h3]
  exact Nat.lt_of_lt_of_le h1 h2
theorem word_at (seed : Nat) (l b : List UInt8) (i k : Nat) (hb : b = blk seed l i) (hk : k < 8) : word seed l (8 * i + k) = wd b k := by
  rw [word, show (8 * i + k) / 8 = i by omega, show (8 * i + k) % 8 = k by omega, ← hb]
set_option maxRecDepth 100000 in
set_option maxHeartbeats 4000000 in
theorem Words_calls (seed : Nat) (l : List UInt8) (a : Int) (hs : seed < 18446744073709551616) (hl : l.length ≤ 300) (V : List W32) (E : Option Int) (hV : V = wv seed l a) (hE : E = we l a) (w : World) :
    Calls Tryd.prog 22 #[.int .u64 (seed : Int), .string (strOf l), .int .i64 a] w fun e w' => ∃ A c, e = .returned (.tuple #[.slice A V.length c, errV E]) ∧ Ws w' w.heap.size (.slice A V.length c) V ∧ Below w.heap.size w w' := by
  have HS := Aside0.mk hs
  have hen := errV_none
  have hes := errV_some 1
  clear hs
  by_cases hok : okW l a
  · obtain ⟨hL, h0, h1⟩ := hok
    obtain ⟨n, rfl⟩ := Int.eq_ofNat_of_zero_le h0
    have HE := Aside0.mk (show E = none by rw [hE, we, if_pos ⟨hL, h0, h1⟩])
    have HV := Aside0.mk (show V = words seed l n by rw [hV, wv, if_pos ⟨hL, h0, h1⟩, Int.toNat_natCast])
    have HLb := Aside0.mk (show none = if Lab l then none else some (1 : Int) by rw [if_pos hL])
    have hmk := make_words n (by omega)
    have hn32 : n ≤ 32 := by omega
    clear hL hV hE
    go_enter Tryd.func22, Tryd.ntmps22
    go_wp2_with (go_at_call 64; (with_reducible refine (labelled_calls l (by omega) none HLb.out w).mono ?_); rintro e x1 ⟨rfl, hbx1⟩; have hz1 := Below.size hbx1; replace hbx1 := Aside0.mk hbx1)
    have HW0 := Aside0.mk (show Ws (x1.alloc (.cells (mk0 n) 52)) x1.heap.size (.slice (some ⟨x1.heap.size, 0, none⟩) 0 n) [] from room_words x1 _ n (mk0_size n) (by unfold maxLen; omega))
    clear hmk
    go_loopw [9, 10, 11, 12] (fun o i _ _ wr => ∃ (m j : Nat) (A3 : Option Addr) (c3 : Nat), m ≤ n ∧ i = .int .i64 j ∧ o = .slice A3 m c3 ∧ Aside0 (m = 8 * j ∨ (m = n ∧ n ≤ 8 * j)) ∧ Aside0 (Ws wr x1.heap.size (.slice A3 m c3) (words seed l m)) ∧ Aside0 (Below x1.heap.size x1 wr)) (fun _ i _ _ _ => 40 - (intOf i).toNat)
    case atStart => exact ⟨0, 0, _, n, Nat.zero_le _, rfl, rfl, ⟨.inl rfl⟩, HW0, ⟨below_new _⟩⟩
    case round =>
      obtain ⟨m, j, A3, c3, hm, rfl, rfl, HJ, HO, HW⟩ := hrel
      obtain ⟨wo, rfl⟩ : ∃ wo : World, wo = wr := ⟨_, rfl⟩
      by_cases hlt : m < n
      · have hmj : m = 8 * j := by rcases HJ.out with h | h <;> omega
        have HMJ := Aside0.mk hmj
        have hj : j ≤ 3 := by omega
        have hji : (j : Int) ≤ 3 := by omega
        obtain ⟨b, hb⟩ : ∃ b, b = blk seed l j := ⟨_, rfl⟩
        have HBL := Aside0.mk (show b.length = 32 by rw [hb]; exact blk_len _ _ _)
        have HB := Aside0.mk hb
        have HZ := Aside0.mk (sz32 b HBL.out)
        have HOO := Aside0.mk (show (e8 (List.replicate 32 0)).size = (e8 b).size by rw [e8_size, e8_size, HBL.out]; rfl)
        have hj2 : j ≤ 2000000 := by omega
        clear hb hmj
        have L2_w := Aside0.mk (below_then hbx1.out (Below.size hbx1.out) HW.out)
        have hz2 := Below.size HW.out
        go_wp2_with (first
          | (go_at_call 65; (with_reducible refine (block_calls seed j _ _ rfl rfl HS.out hj2 l hl b HB.out wo).mono ?_); rintro e x2 ⟨rfl, hbx2⟩; have L3_w := Aside0.mk (below_then L2_w.out (Below.size L2_w.out) hbx2); have L3_x1 := Aside0.mk (below_then HW.out (Below.size HW.out) hbx2); have hz3 := Below.size hbx2; replace hbx2 := Aside0.mk hbx2)
          | ((with_reducible refine at_alloc_ (d := some 11) ?_); (refine wpList_make_ (t := 24) ((e8 (List.replicate 32 0))) (fun g => .pointer (some ⟨g, 0, none⟩)) (by rfl) ?_ ?_); (first | (go_simp; done) | (unfold execOp; go_simp; done) | (simp only [Act.put]; go_simp; done) | (go_simp; constructor <;> rfl) | (go_simp; rfl) | rfl); intro g11 x3 hge_g11 B_g11 hbx3; replace B_g11 := Aside0.mk B_g11; have L4_w := Aside0.mk (below_then L3_w.out (Below.size L3_w.out) hbx3); have L4_x1 := Aside0.mk (below_then L3_x1.out (Below.size L3_x1.out) hbx3); have L4_wo := Aside0.mk (below_then hbx2.out (Below.size hbx2.out) hbx3); have hz4 := Below.size hbx3; replace hbx3 := Aside0.mk hbx3)
          | ((with_reducible refine at_store_ (x := .tmp 11) ?_); (refine wpList_store_row rfl 24 _ _ rfl g11 (e8 b) _ 24 rfl rfl B_g11.out HZ.out HOO.out (e8_one _) ?_); generalize hWx4 : World.setRow x3 _ _ = x4; have L5_w := Aside0.mk (show Below w.heap.size w x4 by rw [← hWx4]; exact below_setRow L4_w.out (by omega) _); have hzL5_w := Below.size L5_w.out; have L5_x1 := Aside0.mk (show Below x1.heap.size x1 x4 by rw [← hWx4]; exact below_setRow L4_x1.out (by omega) _); have hzL5_x1 := Below.size L5_x1.out; have L5_wo := Aside0.mk (show Below wo.heap.size wo x4 by rw [← hWx4]; exact below_setRow L4_wo.out (by omega) _); have hzL5_wo := Below.size L5_wo.out; have B_g11_5 := Aside0.mk (show Blk x4 g11 24 (e8 b) by rw [← hWx4]; exact blk_setRow B_g11.out _); clear hWx4))
        have HO4 := Aside0.mk (show Ws x4 x1.heap.size (.slice A3 m c3) (words seed l m) from (Ws.below HO.out L5_wo.out))
        have HG4 := Aside0.mk B_g11_5.out
        have HW4 := Aside0.mk L5_x1.out
        have hg11 := hge_g11
        go_loopw [9, 12] (fun o k wr => ∃ (p q : Nat) (A5 : Option Addr) (c5 : Nat), p ≤ n ∧ q ≤ 8 ∧ k = .int .i64 q ∧ o = .slice A5 p c5 ∧ Aside0 (p = 8 * j + q) ∧ Aside0 (Ws wr x1.heap.size (.slice A5 p c5) (words seed l p)) ∧ Aside0 (Blk wr g11 24 (e8 b)) ∧ Aside0 (Below x1.heap.size x1 wr)) (fun _ k _ => 8 - (intOf k).toNat)
        case atStart => exact ⟨m, 0, A3, c3, hm, by decide, rfl, rfl, ⟨by rw [HMJ.out]; rfl⟩, HO4, HG4, HW4⟩
        case round =>
          obtain ⟨p, q, A5, c5, hp, hq, rfl, rfl, HP, HO5, HG5, HW5⟩ := hrel
          by_cases hgo : q < 8 ∧ p < n
          · obtain ⟨hq8, hpn⟩ := hgo
            have hqi : (q : Int) < 8 := by omega
            obtain ⟨v, hv⟩ : ∃ v, v = num ((b.drop (4 * q)).take 4) := ⟨_, rfl⟩
            have HV4 := Aside0.mk hv
            have HVV := Aside0.mk (wd_val b q v hv)
            have HVL := Aside0.mk (show ((b.drop (4 * q)).take 4).length = 4 by rw [List.length_take, List.length_drop, HBL.out]; omega)
            have HWD := Aside0.mk (show words seed l (p + 1) = words seed l p ++ [wd b q] by rw [words_succ, HP.out, word_at seed l b j q HB.out hq8])
            have HC5 := Aside0.mk (C_part (blk_C8 HG5.out 32 HBL.out (by decide)) HBL.out q (by omega))
            have HPL := Aside0.mk (words_len seed l p)
            have HNE := Aside0.mk (show some g11 ≠ (Value.slice A5 p c5).ownBlock from Kd.R_ne HO5.out HG5.out (by decide))
            have hsl := sliceAt_arr g11 q (by omega)
            clear hv
            go_wp2_with (first
              | (go_at_call 66; (with_reducible refine (number_calls _ _ 4 ((b.drop (4 * q)).take 4) _ HVL.out HC5.out (by omega) v HV4.out).mono ?_); rintro e W9 ⟨rfl, rfl⟩)
              | (at_builtin; refine app_ws (w0 := x1) x1.heap.size rfl (.tmp 48) (.tmp 57) rfl _ (words seed l p) [wd b q] _ _ _ rfl rfl (HO5.out.alloc _) (Ws.read (Ws.one wr x1.heap.size _ rfl HW5.out.size _ _ HVV.out)).1 (HW5.out.alloc HW5.out.size _) (by simp; have := HW5.out.size; omega) (by rw [HPL.out]; omega) ?_; intro z7 A7 c7 w7 hz7 hB7 hb7 hs7 hg7; have HG7 := Aside0.mk (blk_grown (blk_alloc HG5.out _) hg7.out HNE.out)))
            have hzl : z7.length = p + 1 := by rw [hz7.out, List.length_append, HPL.out]; rfl
            rw [hzl] at hB7 ⊢
            go_roundw
            case rel => exact ⟨p + 1, q + 1, A7, c7, hpn, hq8, by go_num, rfl, ⟨by have := HP.out; omega⟩, ⟨by rw [HWD.out, ← hz7.out]; exact hB7.out⟩, HG7, hb7⟩
            case measure => simp [intOf]; omega
          · have HEND := Aside0.mk (show p = 8 * (j + 1) ∨ (p = n ∧ n ≤ 8 * (j + 1)) by have := HP.out; omega)
            by_cases hq8 : q < 8
            · have hqi : (q : Int) < 8 := by omega
              have hpn : ¬ p < n := by omega
              clear hgo
              go_wp2
              go_roundw
              case rel => exact ⟨p, j + 1, A5, c5, hp, by go_num, rfl, HEND, HO5, HW5⟩
              case measure => simp [intOf]; omega
            · obtain rfl : q = 8 := by omega
              clear hgo hq8
              rw [show ((8 : Nat) : Int) = 8 from rfl]
              go_wp2
              go_roundw
              case rel => exact ⟨p, j + 1, A5, c5, hp, by go_num, rfl, HEND, HO5, HW5⟩
              case measure => simp [intOf]; omega
      · obtain rfl : m = n := by omega
        clear hlt
        go_wp2
        go_ret2
        have HVL := Aside0.mk (show V.length = m by rw [HV.out]; exact words_len _ _ _)
        rw [HE.out, HVL.out, HV.out]
        exact ⟨A3, c3, rfl, HO.out.lower hz1, below_then hbx1.out (Below.size hbx1.out) HW.out⟩
  · have HE := Aside0.mk (show E = some 1 by rw [hE, we, if_neg hok])
    have HV := Aside0.mk (show V = [] by rw [hV, wv, if_neg hok])
    by_cases hL : Lab l
    · have HLb := Aside0.mk (show none = if Lab l then none else some (1 : Int) by rw [if_pos hL])
      have hbad : a < 0 ∨ (0 ≤ a ∧ 32 < a) := by
        by_cases h0 : a < 0
        · exact .inl h0
        · refine .inr ⟨by omega, ?_⟩
          by_cases h1 : 32 < a
          · exact h1
          · exact absurd ⟨hL, by omega, by omega⟩ hok
      clear hL hok hV hE
      rcases hbad with h0 | ⟨h0, h1⟩
      all_goals
        go_enter Tryd.func22, Tryd.ntmps22
        go_wp2_with (go_at_call 64; (with_reducible refine (labelled_calls l (by omega) none HLb.out w).mono ?_); rintro e w1 ⟨rfl, hb1⟩)
        go_ret2
        rw [HV.out, HE.out]
        exact ⟨none, 0, rfl, Ws.nil _ _, hb1⟩
    · have HLb := Aside0.mk (show some 1 = if Lab l then none else some (1 : Int) by rw [if_neg hL])
      clear hL hok hV hE
      go_enter Tryd.func22, Tryd.ntmps22
      go_wp2_with (go_at_call 64; (with_reducible refine (labelled_calls l (by omega) (some 1) HLb.out w).mono ?_); rintro e w1 ⟨rfl, hb1⟩)
      go_ret2
      rw [HV.out, HE.out]
      exact ⟨none, 0, rfl, Ws.nil _ _, hb1⟩
end Go.Proofs.YthmlidlnojdggaaDoor.Prg
