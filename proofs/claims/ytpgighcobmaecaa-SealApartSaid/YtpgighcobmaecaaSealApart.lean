/- The law SealApart by its walk. -/
import Derived.Test.YtpgighcobmaecaaSealTells
import Derived.Test.YtpgighcobmaecaaJoin
import Derived.Test.YtpgighcobmaecaaSealInj
set_option linter.unusedVariables false
set_option linter.unusedSimpArgs false
namespace Go.Proofs.Ytpgighcobmaecaa.Seal
open Go.RowKit Go.Proofs.YtpgighcobmaecaaW.PrintWords Go.Proofs.YtpgighcobmaecaaW.PrintLast Go.Proofs.Ytpgighcobmaecaa.Sha

def Fits (l : List (List UInt8)) : Prop := l.length ≤ 31 ∧ ∀ b ∈ l, b.length ≤ 300
def w2 (a b : V64) : Array Value := #[.int .u64 (a.toNat : Int), .int .u64 (b.toNat : Int)]
theorem List_x (X : List UInt8) (A : Option Addr) (c n : Nat) (l : List (List UInt8)) (hX : X = sum (listText l)) (w : World) (hn : l.length = n) (hr : Kr.C w A n l) (hf : Fits l) :
    Calls Try.prog 28 #[.slice A n c] w fun e w' => e = .returned (.tuple #[.agg (e8 X), .nilIface]) ∧ Below w.heap.size w w' := by
  subst hX
  exact List_calls A c n l w hn hr (by rw [← hn]; exact hf.1) hf.2
theorem fits_le (l : List (List UInt8)) (h : Fits l) : (listText l).length ≤ 10000 := by
  have h1 := ltext_le l h.2 l.length (Nat.le_refl _)
  have h2 := h.1
  rw [ltext_all] at h1
  omega
def Hit (TS : List (List UInt8)) (x y : Nat) : Prop := TS.getD x [] ≠ TS.getD y [] ∧ sum (TS.getD x []) = sum (TS.getD y [])
theorem rv_law {l0 l1 : List (List UInt8)} {P0 P1 P2 P3 X Y : List UInt8} {v : Bool} (hn : ¬ Hit [P0, P1, P2, P3] 1 0) (h0 : P0 = listText l0) (h1 : P1 = listText l1) (hX : X = sum (listText l0)) (hY : Y = sum (listText l1)) (f0 : Fits l0) (f1 : Fits l1)
    (hv : (v = true → l0 = l1) ∧ (v = false → l0 ≠ l1)) : (X == Y) = v := by
  rw [← h0] at hX
  rw [← h1] at hY
  cases v with
  | true =>
    have := hv.1 rfl
    rw [hX, hY, h0, h1, this]
    exact beq_self_eq_true _
  | false =>
    refine beq_eq_false_iff_ne.2 fun he => hn ⟨fun hp => hv.2 rfl (listText_inj f0.1 f1.1 f0.2 f1.2 ?_), ?_⟩
    · rw [← h0, ← h1]
      exact hp.symm
    · show sum P1 = sum P0
      rw [← hX, ← hY, he]
theorem qp_law {a0 a1 b0 b1 : V64} {P0 P1 P2 P3 S T : List UInt8} (hn : ¬ Hit [P0, P1, P2, P3] 3 2) (h2 : P2 = text a0 a1) (h3 : P3 = text b0 b1) (hS : S = sum (text a0 a1)) (hT : T = sum (text b0 b1)) : (S == T) = (([a0, a1] : List V64) == [b0, b1]) := by
  rw [← h2] at hS
  rw [← h3] at hT
  rw [Bool.eq_iff_iff, beq_iff_eq, beq_iff_eq]
  refine ⟨fun he => ?_, fun he => ?_⟩
  · refine Classical.byContradiction fun hne => hn ⟨fun hp => hne ?_, ?_⟩
    · have hp' : P3 = P2 := hp
      rw [h2, h3] at hp'
      obtain ⟨e1, e2⟩ := text_inj hp'
      rw [e1, e2]
    · show sum P3 = sum P2
      rw [← hS, ← hT, he]
  · injection he with e1 e2
    injection e2 with e2 _
    rw [hS, hT, h2, h3, e1, e2]
/-- Four texts in a row. -/
def Four (W : World) (g : Nat) (TS : List (List UInt8)) : Prop := ∀ i, i < 4 → ∃ A z c, W.cell? ⟨g, i, none⟩ = some (.slice A z c) ∧ Kb.C W A z (TS.getD i []) ∧ (TS.getD i []).length = z ∧ z ≤ 10000
theorem Four.below {W W' : World} {g : Nat} {TS : List (List UInt8)} (h : Four W g TS) (hb : Below W.heap.size W W') : Four W' g TS := fun i hi => by
  obtain ⟨A, z, c, h1, h2, h3, h4⟩ := h i hi
  exact ⟨A, z, c, pw_cell_below hb h1, Kd.C_below h2 hb, h3, h4⟩
theorem four_mk {W : World} {g : Nat} {t : TypeId} {A0 A1 A2 A3 : Option Addr} {z0 z1 c0 c1 c2 c3 : Nat} {P0 P1 P2 P3 : List UInt8} (h : Blk W g t #[.slice A0 z0 c0, .slice A1 z1 c1, .slice A2 17 c2, .slice A3 17 c3])
    (k0 : Kb.C W A0 z0 P0) (k1 : Kb.C W A1 z1 P1) (k2 : Kb.C W A2 17 P2) (k3 : Kb.C W A3 17 P3) (l0 : P0.length = z0) (l1 : P1.length = z1) (l2 : P2.length = 17) (l3 : P3.length = 17) (b0 : z0 ≤ 10000) (b1 : z1 ≤ 10000) : Four W g [P0, P1, P2, P3] := fun i hi => by
  rcases (show i = 0 ∨ i = 1 ∨ i = 2 ∨ i = 3 by omega) with rfl | rfl | rfl | rfl
  · exact ⟨A0, z0, c0, (blk_cell h 0).trans rfl, k0, l0, b0⟩
  · exact ⟨A1, z1, c1, (blk_cell h 1).trans rfl, k1, l1, b1⟩
  · exact ⟨A2, 17, c2, (blk_cell h 2).trans rfl, k2, l2, by decide⟩
  · exact ⟨A3, 17, c3, (blk_cell h 3).trans rfl, k3, l3, by decide⟩
theorem ListText_x (P : List UInt8) (z : Nat) (A : Option Addr) (c n : Nat) (l : List (List UInt8)) (hP : P = listText l) (hz : z = P.length) (w : World) (hn : l.length = n) (hr : Kr.C w A n l) (hf : Fits l) :
    Calls Try.prog 29 #[.slice A n c] w fun e w' => ∃ A' c', e = .returned (.tuple #[.slice A' z c', .bool true]) ∧ Kb.C w' A' z P ∧ Below w.heap.size w w' := by
  subst hP
  subst hz
  exact (ListText_calls A c n l w hn hr (by rw [← hn]; exact hf.1) hf.2).mono fun e w' ⟨A', c', he, hB, hb⟩ => ⟨A', c', he, hB.read.1, hb⟩
theorem RefText_x (P : List UInt8) (a b : V64) (hP : P = text a b) (w : World) : Calls Try.prog 34 #[.int .u64 (a.toNat : Int), .int .u64 (b.toNat : Int)] w fun e w' => ∃ A' c', e = .returned (.slice A' 17 c') ∧ Kb.C w' A' 17 P ∧ Below w.heap.size w w' := by
  subst hP
  exact (RefText_calls a b w).mono fun e w' ⟨A', c', he, hB, hb⟩ => by
    rw [text_len] at he hB
    exact ⟨A', c', he, hB.read.1, hb⟩
def f8_r11.T11 : Bool × List (List Nat × List Nat) := (true, [([], []), ([0], [0]), ([], []), ([2], [2]), ([1, 3], [1, 3]), ([], []), ([5], [5]), ([], []), ([7], [7]), ([6, 8, 4], [6, 8]), ([], []), ([], []), ([10, 4, 9, 0, 1, 2, 3, 4, 10, 11], [4, 10]), ([11, 9, 12, 0, 1, 2, 3, 4, 5, 6, 7, 8, 9, 10, 11, 12], [9, 11])])
def f8_r11.B11 : List Nat := [0, 1, 0, 4, 15, 0, 32, 0, 128, 511, 0, 0, 4095, 8191]
theorem f8_r11.tab11 : Go.Proofs.YtpgighcobmaecaaW.PrintLast.rtab .any (Go.Proofs.YtpgighcobmaecaaW.PrintLast.opsOf Try.f8 11) = f8_r11.T11 := by kernel_rfl
theorem f8_r11.bits11 : Go.Proofs.YtpgighcobmaecaaW.PrintLast.waitsOk f8_r11.T11.2 f8_r11.B11 = true := by kernel_rfl
def f8_r18.T18 : Bool × List (List Nat × List Nat) := (true, [([], []), ([0], [0]), ([], []), ([1, 2], [1, 2]), ([3], [3]), ([4], [4]), ([], []), ([6], [6]), ([], []), ([7, 8], [7, 8]), ([9], [9]), ([10], [10]), ([5, 11], [5, 11]), ([12, 0, 1, 2, 3, 4, 5, 6, 7, 8, 9, 10, 11, 12], [12])])
def f8_r18.B18 : List Nat := [0, 1, 0, 7, 15, 31, 0, 64, 0, 448, 960, 1984, 4095, 8191]
theorem f8_r18.tab18 : Go.Proofs.YtpgighcobmaecaaW.PrintLast.rtab .any (Go.Proofs.YtpgighcobmaecaaW.PrintLast.opsOf Try.f8 18) = f8_r18.T18 := by kernel_rfl
theorem f8_r18.bits18 : Go.Proofs.YtpgighcobmaecaaW.PrintLast.waitsOk f8_r18.T18.2 f8_r18.B18 = true := by kernel_rfl
def f8_r21.T21 : Bool × List (List Nat × List Nat) := (true, [([], []), ([], []), ([], []), ([2], [2]), ([], []), ([4], [4]), ([3, 5], [3, 5]), ([], []), ([7], [7]), ([], []), ([9], [9]), ([8, 10, 6], [8, 10]), ([0, 1, 6, 11], [0, 1, 6, 11]), ([12, 11, 0, 1, 2, 3, 4, 5, 6, 7, 8, 9, 10, 11, 12], [12])])
def f8_r21.B21 : List Nat := [0, 0, 0, 4, 0, 16, 60, 0, 128, 0, 512, 2044, 4095, 8191]
theorem f8_r21.tab21 : Go.Proofs.YtpgighcobmaecaaW.PrintLast.rtab .any (Go.Proofs.YtpgighcobmaecaaW.PrintLast.opsOf Try.f8 21) = f8_r21.T21 := by kernel_rfl
theorem f8_r21.bits21 : Go.Proofs.YtpgighcobmaecaaW.PrintLast.waitsOk f8_r21.T21.2 f8_r21.B21 = true := by kernel_rfl
def f8_r29.T29 : Bool × List (List Nat × List Nat) := (true, [([], []), ([0], [0]), ([1], [1]), ([1], [1]), ([2, 3, 1], [1, 2, 3]), ([4, 1], [1, 4]), ([5, 1], [1, 5]), ([1], [1]), ([1], [1]), ([7, 8, 1], [1, 7, 8]), ([9, 1], [1, 9]), ([10, 1], [1, 10]), ([6, 11, 1], [1, 6, 11]), ([12, 1, 1], [1, 12]), ([13], [13]), ([13], [13]), ([14, 15, 13], [13, 14, 15]), ([16, 13], [13, 16]), ([17, 13, 13], [13, 17]), ([13], [13]), ([13], [13]), ([19, 20, 13], [13, 19, 20]), ([21, 13], [13, 21]), ([22, 18, 13], [13, 22]), ([18, 23, 13], [13, 18, 23]), ([13, 24, 1], [1, 13, 24]), ([1, 25], [1, 25]), ([26, 23, 0, 1, 2, 3, 4, 5, 6, 7, 8, 9, 10, 11, 12, 13, 14, 15, 16, 17, 18, 19, 20, 21, 22, 23, 24, 25, 26], [0, 26])])
def f8_r29.B29 : List Nat := [0, 1, 3, 3, 15, 31, 63, 3, 3, 387, 899, 1923, 4095, 8191, 16383, 16383, 65535, 131071, 262143, 16383, 16383, 1589247, 3686399, 8388607, 16777215, 33554431, 67108863, 134217727]
theorem f8_r29.tab29 : Go.Proofs.YtpgighcobmaecaaW.PrintLast.rtab .any (Go.Proofs.YtpgighcobmaecaaW.PrintLast.opsOf Try.f8 29) = f8_r29.T29 := by kernel_rfl
theorem f8_r29.bits29 : Go.Proofs.YtpgighcobmaecaaW.PrintLast.waitsOk f8_r29.T29.2 f8_r29.B29 = true := by kernel_rfl
def f8_r30.T30 : Bool × List (List Nat × List Nat) := (true, [([], []), ([0], [0]), ([1], [1]), ([1], [1]), ([2, 3, 1], [1, 2, 3]), ([1], [1]), ([4, 5, 1], [1, 4, 5]), ([6, 1, 1], [1, 6]), ([7], [7]), ([7], [7]), ([8, 9, 7], [7, 8, 9]), ([7], [7]), ([7], [7]), ([11, 12, 7], [7, 11, 12]), ([10, 13, 7], [7, 10, 13]), ([7, 14, 1], [1, 7, 14]), ([1, 15], [1, 15]), ([16, 7], [16]), ([17, 17], [17]), ([17, 18], [17, 18]), ([19, 18, 0, 1, 2, 3, 4, 5, 6, 7, 8, 9, 10, 11, 12, 13, 14, 15, 16, 17, 18, 19], [19])])
def f8_r30.B30 : List Nat := [0, 1, 3, 3, 15, 3, 63, 127, 255, 255, 1023, 255, 255, 6399, 16383, 32767, 65535, 131071, 262143, 524287, 1048575]
theorem f8_r30.tab30 : Go.Proofs.YtpgighcobmaecaaW.PrintLast.rtab .any (Go.Proofs.YtpgighcobmaecaaW.PrintLast.opsOf Try.f8 30) = f8_r30.T30 := by kernel_rfl
theorem f8_r30.bits30 : Go.Proofs.YtpgighcobmaecaaW.PrintLast.waitsOk f8_r30.T30.2 f8_r30.B30 = true := by kernel_rfl
theorem eq2 (a0 a1 b0 b1 : V64) (w : World) : (Op.equalIn 10000 62 (.agg (w2 a0 a1)) (.agg (w2 b0 b1))).run Try.prog w = .ok (([a0, a1] : List V64) == [b0, b1]) w := by
  have h := run_eq_arr (ty := 62) Try.underlying62 Try.underlying50 Try.isAgg50 (by kernel_rfl) 9998 [(a0.toNat : Int), (a1.toNat : Int)] [(b0.toNat : Int), (b1.toNat : Int)] rfl rfl w
  refine Eq.trans h ?_
  congr 1
  rw [Bool.eq_iff_iff, beq_iff_eq, beq_iff_eq]
  refine ⟨fun h => ?_, fun h => ?_⟩
  · injection h with h1 h2
    injection h2 with h2 _
    rw [BitVec.eq_of_toNat_eq (by omega : a0.toNat = b0.toNat), BitVec.eq_of_toNat_eq (by omega : a1.toNat = b1.toNat)]
  · injection h with h1 h2
    injection h2 with h2 _
    rw [h1, h2]
set_option maxRecDepth 100000 in
set_option maxHeartbeats 8000000 in
theorem apart_calls (a0 a1 b0 b1 : V64) (A B : Option Addr) (n m c d : Nat) (l0 l1 : List (List UInt8)) (w : World) (hn : l0.length = n) (hm : l1.length = m) (hr0 : Kr.C w A n l0) (hr1 : Kr.C w B m l1) (hn2 : n ≤ 9223372036854775807) (hm2 : m ≤ 9223372036854775807) :
    Calls Try.prog 8 #[.agg (w2 a0 a1), .agg (w2 b0 b1), .agg #[.slice A n c, .slice B m d]] w fun e w' => e = .returned (.bool true) ∧ Below w.heap.size w w' := by
  have HR0 := Aside0.mk hr0
  have HN := Aside0.mk hn
  have HR1 := Aside0.mk hr1
  have HM := Aside0.mk hm
  clear hr0 hn hr1 hm
  go_enter Try.func8, Try.ntmps8
  go_wp2
  generalize hW0 : World.alloc (World.alloc (World.alloc w _) _) _ = W0
  have HA0 := Aside0.mk (show Blk W0 w.heap.size 62 (w2 a0 a1) by rw [← hW0]; exact blk_alloc (blk_alloc (blk_new w _) _) _)
  have HB0 := Aside0.mk (show Blk W0 (w.heap.size + 1) 62 (w2 b0 b1) by rw [← hW0]; exact blk_alloc (blk_new1 w _ _ _) _)
  have HL0 := Aside0.mk (show Blk W0 (w.heap.size + 2) 63 #[.slice A n c, .slice B m d] by rw [← hW0]; exact blk_new2 w _ _ _ _)
  have HW0 := Aside0.mk (show Below w.heap.size w W0 by rw [← hW0]; exact below_alloc (below_alloc (below_new _) _) _)
  have HZ0 := Aside0.mk (show w.heap.size + 3 ≤ W0.heap.size by rw [← hW0]; simp)
  clear hW0
  go_loop [7, 8] (fun i _ => ∃ k : Nat, k ≤ 2 ∧ i = .int .i64 k ∧ Aside0 ((0 < k → Fits l0) ∧ (1 < k → Fits l1))) (fun i _ => 2 - (intOf i).toNat)
  case atStart => exact ⟨0, by decide, rfl, ⟨fun h => absurd h (by decide), fun h => absurd h (by decide)⟩⟩
  case round =>
    obtain ⟨k, hk, rfl, HF⟩ := hrel
    by_cases hk2 : k < 2
    · obtain ⟨Ak, nk, ck, lk, cx, hC, hl, hw, hb⟩ : ∃ Ak nk ck lk, W0.cell? ⟨w.heap.size + 2, k, none⟩ = some (.slice Ak nk ck) ∧ Kr.C w Ak nk lk ∧ lk.length = nk ∧ ((0 < k + 1 → Fits lk → Fits l0) ∧ (1 < k + 1 → Fits lk → Fits l1)) ∧ nk ≤ 9223372036854775807 := by
        rcases Nat.lt_or_ge k 1 with h | h
        · obtain rfl : k = 0 := by omega
          exact ⟨A, n, c, l0, (blk_cell HL0.out 0).trans rfl, HR0.out, HN.out, ⟨fun _ h => h, fun h => absurd h (by decide)⟩, hn2⟩
        · obtain rfl : k = 1 := by omega
          exact ⟨B, m, d, l1, (blk_cell HL0.out 1).trans rfl, HR1.out, HM.out, ⟨fun _ _ => HF.out.1 (by decide), fun _ h => h⟩, hm2⟩
      have HC := Aside0.mk hC
      have HL := Aside0.mk hl
      have HWH := Aside0.mk hw
      have hk3 : (k : Int) < 2 := by omega
      clear hC hl hw
      go_wp2
      go_loop [8] (fun i => ∃ j : Nat, j ≤ nk ∧ j ≤ 31 ∧ i = .int .i64 j ∧ Aside0 (∀ q, q < j → (lk.getD q []).length ≤ 300)) (fun i => nk - (intOf i).toNat)
      case atStart => exact ⟨0, Nat.zero_le _, by decide, rfl, ⟨fun j hj => by omega⟩⟩
      case round =>
        obtain ⟨j, hj, hj31, rfl, HE⟩ := hrel
        by_cases hlt : j < nk
        · by_cases h30 : j ≤ 30
          · obtain ⟨x, hx⟩ : ∃ x, x = lk.getD j [] := ⟨_, rfl⟩
            obtain ⟨ad, A1, c1, rfl, cy, hK, hc1⟩ := at_r HC.out j hlt x hx
            replace cy := pw_cell_below HW0.out cy
            have hnk : (j : Int) < (nk : Int) := by omega
            by_cases h300 : x.length ≤ 300
            · have HE1 := Aside0.mk (show ∀ q, q < j + 1 → (lk.getD q []).length ≤ 300 from fun q hq => by
                rcases Nat.lt_or_ge q j with h | h
                · exact HE.out q h
                · rw [show q = j by omega, ← hx]; exact h300)
              clear hx hK
              go_wp2
              go_round
              case rel => exact ⟨j + 1, by omega, by omega, by go_num, HE1⟩
              case measure => simp [intOf]; omega
            · have h301 : 300 < x.length := by omega
              clear hx hK h300
              go_wp2_with (go_at_call 27; refine (sure_calls _).mono ?_; rintro e w1 ⟨rfl, hb1⟩)
              go_ret
              exact ⟨rfl, below_then HW0.out HW0.out.size hb1⟩
          · obtain rfl : j = 31 := by omega
            clear h30
            rw [show ((31 : Nat) : Int) = 31 from rfl]
            have hnk : (31 : Int) < (nk : Int) := by omega
            go_wp2_with (go_at_call 27; refine (sure_calls _).mono ?_; rintro e w1 ⟨rfl, hb1⟩)
            go_ret
            exact ⟨rfl, below_then HW0.out HW0.out.size hb1⟩
        · obtain rfl : j = nk := by omega
          clear hlt
          have HFk := Aside0.mk (show Fits lk from ⟨by rw [HL.out]; exact hj31, fun b hb => by
            obtain ⟨q, hq, rfl⟩ := List.getElem_of_mem hb
            have := HE.out q (by rw [← HL.out]; exact hq)
            simpa [List.getD, hq] using this⟩)
          go_wp2
          go_round
          case rel => exact ⟨k + 1, by omega, by go_num, ⟨fun h => HWH.out.1 h HFk.out, fun h => HWH.out.2 h HFk.out⟩⟩
          case measure => simp [intOf]; omega
    · obtain rfl : k = 2 := by omega
      clear hk2
      have HF0 := Aside0.mk (HF.out.1 (by decide))
      have HF1 := Aside0.mk (HF.out.2 (by decide))
      obtain ⟨X, hX⟩ : ∃ X, X = sum (listText l0) := ⟨_, rfl⟩
      obtain ⟨Y, hY⟩ : ∃ Y, Y = sum (listText l1) := ⟨_, rfl⟩
      have HXl := Aside0.mk (show X.length = 32 by rw [hX]; exact sum_len _)
      have HYl := Aside0.mk (show Y.length = 32 by rw [hY]; exact sum_len _)
      have HX := Aside0.mk hX
      have HY := Aside0.mk hY
      clear hX hY HF
      have c20 : W0.cell? ⟨w.heap.size + 2, 0, none⟩ = some (.slice A n c) := (blk_cell HL0.out 0).trans rfl
      have c21 : W0.cell? ⟨w.heap.size + 2, 1, none⟩ = some (.slice B m d) := (blk_cell HL0.out 1).trans rfl
      have HZX := Aside0.mk (sz32 X HXl.out)
      have HZY := Aside0.mk (sz32 Y HYl.out)
      rw [show ((2 : Nat) : Int) = 2 from rfl]
      go_wp2_with (first
        | (go_at_call 28; (with_reducible refine (List_x X A c n l0 HX.out W0 HN.out (Kd.C_below HR0.out HW0.out) HF0.out).mono ?_); rintro e w1 ⟨rfl, hb1⟩; have hz1 : W0.heap.size ≤ w1.heap.size := hb1.size; replace hb1 := Aside0.mk hb1)
        | ((with_reducible refine at_store_ (x := .tmp 9) ?_); (refine wpList_store_row rfl 51 _ _ rfl w1.heap.size (e8 X) _ 51 rfl rfl (blk_new w1 _) HZX.out (by rw [e8_size, HXl.out]; rfl) (e8_one _) ?_); (generalize hW2 : World.setRow (World.alloc w1 _) _ _ = W2; have HX2 := Aside0.mk (show Blk W2 w1.heap.size 51 (e8 X) by rw [← hW2]; exact blk_setRow (blk_new w1 _) _); have HW2 := Aside0.mk (show Below W0.heap.size W0 W2 by rw [← hW2]; exact below_setRow (below_alloc hb1.out _) hz1 _); have c21' := pw_cell_below HW2.out c21; clear hW2))
        | (go_at_call 28; (with_reducible refine (List_x Y B d m l1 HY.out W2 HM.out (Kd.C_below (Kd.C_below HR1.out HW0.out) HW2.out) HF1.out).mono ?_); rintro e w3 ⟨rfl, hb3⟩; have hz3 : W2.heap.size ≤ w3.heap.size := hb3.size; replace hb3 := Aside0.mk hb3)
        | ((with_reducible refine at_store_ (x := .tmp 11) ?_); (refine wpList_store_row rfl 51 _ _ rfl w3.heap.size (e8 Y) _ 51 rfl rfl (blk_new w3 _) HZY.out (by rw [e8_size, HYl.out]; rfl) (e8_one _) ?_); (generalize hW4 : World.setRow (World.alloc w3 _) _ _ = W4)))
      have HZ4 := Aside0.mk (show w3.heap.size < W4.heap.size by rw [← hW4]; simp)
      have HW3 := Aside0.mk (below_then HW2.out HW2.out.size hb3.out)
      have HY4 := Aside0.mk (show Blk W4 w3.heap.size 51 (e8 Y) by rw [← hW4]; exact blk_setRow (blk_new w3 _) _)
      have HW4 := Aside0.mk (show Below W0.heap.size W0 W4 by rw [← hW4]; exact below_setRow (below_alloc HW3.out _) (Nat.le_trans HW3.out.size (Nat.le_refl _)) _)
      have HX4 := Aside0.mk (show Blk W4 w1.heap.size 51 (e8 X) by rw [← hW4]; exact blk_setRow_far (blk_alloc (blk_below HX2.out hb3.out) _) (Nat.ne_of_lt (Nat.lt_of_lt_of_le (blk_lt HX2.out) hz3)) _)
      have hxy : w1.heap.size < w3.heap.size := Nat.lt_of_lt_of_le (blk_lt HX2.out) hz3
      have HA4 := Aside0.mk (blk_below HA0.out HW4.out)
      have HB4 := Aside0.mk (blk_below HB0.out HW4.out)
      have HL4 := Aside0.mk (blk_below HL0.out HW4.out)
      clear hW4 c20 c21 c21' hb1 hb3 HX2 HW2 HW3 hz1 hz3
      obtain ⟨S, hS⟩ : ∃ S, S = sum (text a0 a1) := ⟨_, rfl⟩
      obtain ⟨T, hT⟩ : ∃ T, T = sum (text b0 b1) := ⟨_, rfl⟩
      have HSl := Aside0.mk (show S.length = 32 by rw [hS]; exact sum_len _)
      have HTl := Aside0.mk (show T.length = 32 by rw [hT]; exact sum_len _)
      have HS := Aside0.mk hS
      have HT := Aside0.mk hT
      have HZS := Aside0.mk (sz32 S HSl.out)
      have HZT := Aside0.mk (sz32 T HTl.out)
      clear hS hT
      refine start_ (n := 14) (S := fun w' => w'.cell? ⟨w.heap.size, 0, none⟩ = some (.int .u64 (a0.toNat : Int)) ∧ w'.cell? ⟨w.heap.size, 1, none⟩ = some (.int .u64 (a1.toNat : Int)) ∧ w'.cell? ⟨w.heap.size + 1, 0, none⟩ = some (.int .u64 (b0.toNat : Int)) ∧ w'.cell? ⟨w.heap.size + 1, 1, none⟩ = some (.int .u64 (b1.toNat : Int)) ∧ Below W4.heap.size W4 w' ∧ True) (ds := [12, 13]) #[false, false, false, false, false, false, false, false, false, false, false, false, false, false] (by kernel_rfl) rfl rfl ⟨(blk_cell (blk_drew HA4.out) 0).trans rfl, (blk_cell (blk_drew HA4.out) 1).trans rfl, (blk_cell (blk_drew HB4.out) 0).trans rfl, (blk_cell (blk_drew HB4.out) 1).trans rfl, below_drew (Below.refl _ _), trivial⟩ (fun hHeld => ?_)
      refine with_tabW f8_r11.tab11 f8_r11.bits11 (fun HT_ HW_ => ?_)
      refine pure_ (i := 0) (N := some 62) (v := ?_) (a' := ?_) #[true, false, false, false, false, false, false, false, false, false, false, false, false, false] rfl rfl (any_of HT_.out (by kernel_rfl)) (fun _ _ _ h => h) (Or.inl ⟨by rfl, ?_⟩) ?_ ?_
      rotate_left
      · intro w'
        go_simp
        with_reducible rfl
      rotate_left
      · simp only [Act.put, List.setIfInBounds_toArray, List.set_cons_zero, List.set_cons_succ, i64_w, i32_w]
        rfl
      refine pure_ (i := 2) (N := some 64) (v := ?_) (a' := ?_) #[true, false, true, false, false, false, false, false, false, false, false, false, false, false] rfl rfl (any_of HT_.out (by kernel_rfl)) (fun _ _ _ h => h) (Or.inl ⟨by rfl, ?_⟩) ?_ ?_
      rotate_left
      · intro w'
        go_simp
        with_reducible rfl
      rotate_left
      · simp only [Act.put, List.setIfInBounds_toArray, List.set_cons_zero, List.set_cons_succ, i64_w, i32_w]
        rfl
      refine pure_ (i := 5) (N := some 67) (v := ?_) (a' := ?_) #[true, false, true, false, false, true, false, false, false, false, false, false, false, false] rfl rfl (any_of HT_.out (by kernel_rfl)) (fun _ _ _ h => h) (Or.inl ⟨by rfl, ?_⟩) ?_ ?_
      rotate_left
      · intro w'
        go_simp
        with_reducible rfl
      rotate_left
      · simp only [Act.put, List.setIfInBounds_toArray, List.set_cons_zero, List.set_cons_succ, i64_w, i32_w]
        rfl
      refine pure_ (i := 7) (N := some 69) (v := ?_) (a' := ?_) #[true, false, true, false, false, true, false, true, false, false, false, false, false, false] rfl rfl (any_of HT_.out (by kernel_rfl)) (fun _ _ _ h => h) (Or.inl ⟨by rfl, ?_⟩) ?_ ?_
      rotate_left
      · intro w'
        go_simp
        with_reducible rfl
      rotate_left
      · simp only [Act.put, List.setIfInBounds_toArray, List.set_cons_zero, List.set_cons_succ, i64_w, i32_w]
        rfl
      refine take_ (i := 1) (N := some 63) (v := ?_) (a' := ?_) #[true, true, true, false, false, true, false, true, false, false, false, false, false, false] rfl rfl (take_ofW HT_.out HW_.out (by kernel_rfl)) (fun _ _ _ h => h) (Or.inl ⟨by rfl, ?_⟩) hHeld ?_ ?_
      rotate_left
      · intro w' s0
        have e := s0.1
        go_simp
        with_reducible rfl
      rotate_left
      · simp only [Act.put, List.setIfInBounds_toArray, List.set_cons_zero, List.set_cons_succ, i64_w, i32_w]
        rfl
      refine take_ (i := 3) (N := some 65) (v := ?_) (a' := ?_) #[true, true, true, true, false, true, false, true, false, false, false, false, false, false] rfl rfl (take_ofW HT_.out HW_.out (by kernel_rfl)) (fun _ _ _ h => h) (Or.inl ⟨by rfl, ?_⟩) hHeld ?_ ?_
      rotate_left
      · intro w' s0
        have e := s0.2.1
        go_simp
        with_reducible rfl
      rotate_left
      · simp only [Act.put, List.setIfInBounds_toArray, List.set_cons_zero, List.set_cons_succ, i64_w, i32_w]
        rfl
      refine take_ (i := 6) (N := some 68) (v := ?_) (a' := ?_) #[true, true, true, true, false, true, true, true, false, false, false, false, false, false] rfl rfl (take_ofW HT_.out HW_.out (by kernel_rfl)) (fun _ _ _ h => h) (Or.inl ⟨by rfl, ?_⟩) hHeld ?_ ?_
      rotate_left
      · intro w' s0
        have e := s0.2.2.1
        go_simp
        with_reducible rfl
      rotate_left
      · simp only [Act.put, List.setIfInBounds_toArray, List.set_cons_zero, List.set_cons_succ, i64_w, i32_w]
        rfl
      refine take_ (i := 8) (N := some 70) (v := ?_) (a' := ?_) #[true, true, true, true, false, true, true, true, true, false, false, false, false, false] rfl rfl (take_ofW HT_.out HW_.out (by kernel_rfl)) (fun _ _ _ h => h) (Or.inl ⟨by rfl, ?_⟩) hHeld ?_ ?_
      rotate_left
      · intro w' s0
        have e := s0.2.2.2.1
        go_simp
        with_reducible rfl
      rotate_left
      · simp only [Act.put, List.setIfInBounds_toArray, List.set_cons_zero, List.set_cons_succ, i64_w, i32_w]
        rfl
      refine join_ (σ := Nat × Nat) 2 #[true, true, true, true, true, true, true, true, true, true, true, true, false, false] (fun s => [(66, .agg (e8 S)), (71, .agg (e8 T)), (13, .pointer (some ⟨s.1, 0, none⟩)), (14, .pointer (some ⟨s.2, 0, none⟩))]) (fun s w' => (w'.cell? ⟨w.heap.size, 0, none⟩ = some (.int .u64 (a0.toNat : Int)) ∧ w'.cell? ⟨w.heap.size, 1, none⟩ = some (.int .u64 (a1.toNat : Int)) ∧ w'.cell? ⟨w.heap.size + 1, 0, none⟩ = some (.int .u64 (b0.toNat : Int)) ∧ w'.cell? ⟨w.heap.size + 1, 1, none⟩ = some (.int .u64 (b1.toNat : Int)) ∧ Below W4.heap.size W4 w' ∧ True) ∧ (Blk w' s.1 51 (e8 (List.replicate 32 0)) ∧ W4.heap.size ≤ s.1 ∧ Blk w' s.2 51 (e8 (List.replicate 32 0)) ∧ W4.heap.size ≤ s.2 ∧ s.1 ≠ s.2 ∧ True)) (fun s w' hF => ?_) (fun hcont => ?_)
      rotate_left
      · skip
        refine three_ (i := 4) (j := 10) (k := 11) (Ni := some 66) (Nj := some 13) (Nk := some 14) #[true, true, true, true, true, true, true, true, true, false, false, false, false, false] #[true, true, true, true, false, true, true, true, true, false, true, false, false, false] #[true, true, true, true, false, true, true, true, true, false, false, true, false, false] rfl rfl rfl rfl rfl rfl (by kernel_rfl) (by decide) (by decide) (by decide) (fun K hK => ?_) (fun K hK => ?_) (fun K hK => ?_)
        · refine goes_ Try.func31 (by kernel_rfl) rfl #[.int .u64 (a0.toNat : Int), .int .u64 (a1.toNat : Int)] (by rfl) rfl rfl (by (try simp only [List.map_toArray, List.map_cons, List.map_nil]); first | done | rfl) ?_
          with_reducible refine (Of_w a0 a1 S HS.out _).mono ?_
          rintro e w5 ⟨rfl, hb⟩
          refine ⟨_, rfl, ?_⟩
          refine hK.out _ _ ⟨(pw_cell_below hb hHeld.1), (pw_cell_below hb hHeld.2.1), (pw_cell_below hb hHeld.2.2.1), (pw_cell_below hb hHeld.2.2.2.1), (below_then hHeld.2.2.2.2.1 (Below.size hHeld.2.2.2.2.1) hb), trivial⟩ (fun hHeld => ?_)
          clear hK K
          refine norm_ (a' := ?_) ?_ ?_
          rotate_left
          · show Act.put _ (some 66) _ = _
            simp only [Act.put, List.setIfInBounds_toArray, List.set_cons_zero, List.set_cons_succ, i64_w, i32_w]
            rfl
          refine three_ (i := 9) (j := 10) (k := 11) (Ni := some 71) (Nj := some 13) (Nk := some 14) #[true, true, true, true, true, true, true, true, true, true, false, false, false, false] #[true, true, true, true, true, true, true, true, true, false, true, false, false, false] #[true, true, true, true, true, true, true, true, true, false, false, true, false, false] rfl rfl rfl rfl rfl rfl (by kernel_rfl) (by decide) (by decide) (by decide) (fun K hK => ?_) (fun K hK => ?_) (fun K hK => ?_)
          · refine goes_ Try.func31 (by kernel_rfl) rfl #[.int .u64 (b0.toNat : Int), .int .u64 (b1.toNat : Int)] (by rfl) rfl rfl (by (try simp only [List.map_toArray, List.map_cons, List.map_nil]); first | done | rfl) ?_
            with_reducible refine (Of_w b0 b1 T HT.out _).mono ?_
            rintro e w6 ⟨rfl, hb⟩
            refine ⟨_, rfl, ?_⟩
            refine hK.out _ _ ⟨(pw_cell_below hb hHeld.1), (pw_cell_below hb hHeld.2.1), (pw_cell_below hb hHeld.2.2.1), (pw_cell_below hb hHeld.2.2.2.1), (below_then hHeld.2.2.2.2.1 (Below.size hHeld.2.2.2.2.1) hb), trivial⟩ (fun hHeld => ?_)
            clear hK K
            refine norm_ (a' := ?_) ?_ ?_
            rotate_left
            · show Act.put _ (some 71) _ = _
              simp only [Act.put, List.setIfInBounds_toArray, List.set_cons_zero, List.set_cons_succ, i64_w, i32_w]
              rfl
            refine two_ (i := 10) (j := 11) (Ni := some 13) (Nj := some 14) #[true, true, true, true, true, true, true, true, true, true, true, false, false, false] #[true, true, true, true, true, true, true, true, true, true, false, true, false, false] rfl rfl rfl rfl (by kernel_rfl) (by decide) (by decide) (fun K hK => ?_) (fun K hK => ?_)
            · refine alloc_ (t := 51) (e8 (List.replicate 32 0)) (by rfl) rfl ?_ (fun g13 wa10 hge_g13 hbk_g13 hb => ?_)
              · first | (go_simp; done) | (go_simp; constructor <;> rfl) | (go_simp; rfl) | rfl
              have hB_g13 := Aside0.mk hbk_g13
              have hlo_g13 := Nat.le_trans (Below.size hHeld.2.2.2.2.1) hge_g13
              refine hK.out _ _ ⟨(pw_cell_below hb hHeld.1), (pw_cell_below hb hHeld.2.1), (pw_cell_below hb hHeld.2.2.1), (pw_cell_below hb hHeld.2.2.2.1), (below_then hHeld.2.2.2.2.1 (Below.size hHeld.2.2.2.2.1) hb), trivial⟩ (fun hHeld => ?_)
              clear hK K
              refine norm_ (a' := ?_) ?_ ?_
              rotate_left
              · show Act.put _ (some 13) _ = _
                simp only [Act.put, List.setIfInBounds_toArray, List.set_cons_zero, List.set_cons_succ, i64_w, i32_w]
                rfl
              refine one_ (i := 11) (N := some 14) #[true, true, true, true, true, true, true, true, true, true, true, true, false, false] rfl rfl (one_of HT_.out (by kernel_rfl)) (by decide) (fun K hK => ?_)
              refine alloc_ (t := 51) (e8 (List.replicate 32 0)) (by rfl) rfl ?_ (fun g14 wa11 hge_g14 hbk_g14 hb => ?_)
              · first | (go_simp; done) | (go_simp; constructor <;> rfl) | (go_simp; rfl) | rfl
              have hB_g13_ := Aside0.mk (blk_below hB_g13.out hb)
              have hB_g14 := Aside0.mk hbk_g14
              have hlo_g14 := Nat.le_trans (Below.size hHeld.2.2.2.2.1) hge_g14
              refine hK.out _ _ ⟨(pw_cell_below hb hHeld.1), (pw_cell_below hb hHeld.2.1), (pw_cell_below hb hHeld.2.2.1), (pw_cell_below hb hHeld.2.2.2.1), (below_then hHeld.2.2.2.2.1 (Below.size hHeld.2.2.2.2.1) hb), trivial⟩ (fun hHeld => ?_)
              clear hK K
              refine norm_ (a' := ?_) ?_ ?_
              rotate_left
              · show Act.put _ (some 14) _ = _
                simp only [Act.put, List.setIfInBounds_toArray, List.set_cons_zero, List.set_cons_succ, i64_w, i32_w]
                rfl
              refine norm_ ?_ (hcont (g13, g14) _ ⟨hHeld, hB_g13_.out, hlo_g13, hB_g14.out, hlo_g14, (Nat.ne_of_lt (Nat.lt_of_lt_of_le (blk_lt hB_g13.out) hge_g14)), trivial⟩)
              simp only [putAll, Act.put, List.setIfInBounds_toArray, List.set_cons_zero, List.set_cons_succ, i64_w, i32_w]
            · refine alloc_ (t := 51) (e8 (List.replicate 32 0)) (by rfl) rfl ?_ (fun g14 wa11 hge_g14 hbk_g14 hb => ?_)
              · first | (go_simp; done) | (go_simp; constructor <;> rfl) | (go_simp; rfl) | rfl
              have hB_g14 := Aside0.mk hbk_g14
              have hlo_g14 := Nat.le_trans (Below.size hHeld.2.2.2.2.1) hge_g14
              refine hK.out _ _ ⟨(pw_cell_below hb hHeld.1), (pw_cell_below hb hHeld.2.1), (pw_cell_below hb hHeld.2.2.1), (pw_cell_below hb hHeld.2.2.2.1), (below_then hHeld.2.2.2.2.1 (Below.size hHeld.2.2.2.2.1) hb), trivial⟩ (fun hHeld => ?_)
              clear hK K
              refine norm_ (a' := ?_) ?_ ?_
              rotate_left
              · show Act.put _ (some 14) _ = _
                simp only [Act.put, List.setIfInBounds_toArray, List.set_cons_zero, List.set_cons_succ, i64_w, i32_w]
                rfl
              refine one_ (i := 10) (N := some 13) #[true, true, true, true, true, true, true, true, true, true, true, true, false, false] rfl rfl (one_of HT_.out (by kernel_rfl)) (by decide) (fun K hK => ?_)
              refine alloc_ (t := 51) (e8 (List.replicate 32 0)) (by rfl) rfl ?_ (fun g13 wa10 hge_g13 hbk_g13 hb => ?_)
              · first | (go_simp; done) | (go_simp; constructor <;> rfl) | (go_simp; rfl) | rfl
              have hB_g14_ := Aside0.mk (blk_below hB_g14.out hb)
              have hB_g13 := Aside0.mk hbk_g13
              have hlo_g13 := Nat.le_trans (Below.size hHeld.2.2.2.2.1) hge_g13
              refine hK.out _ _ ⟨(pw_cell_below hb hHeld.1), (pw_cell_below hb hHeld.2.1), (pw_cell_below hb hHeld.2.2.1), (pw_cell_below hb hHeld.2.2.2.1), (below_then hHeld.2.2.2.2.1 (Below.size hHeld.2.2.2.2.1) hb), trivial⟩ (fun hHeld => ?_)
              clear hK K
              refine norm_ (a' := ?_) ?_ ?_
              rotate_left
              · show Act.put _ (some 13) _ = _
                simp only [Act.put, List.setIfInBounds_toArray, List.set_cons_zero, List.set_cons_succ, i64_w, i32_w]
                rfl
              refine norm_ ?_ (hcont (g13, g14) _ ⟨hHeld, hB_g13.out, hlo_g13, hB_g14_.out, hlo_g14, (Nat.ne_of_gt (Nat.lt_of_lt_of_le (blk_lt hB_g14.out) hge_g13)), trivial⟩)
              simp only [putAll, Act.put, List.setIfInBounds_toArray, List.set_cons_zero, List.set_cons_succ, i64_w, i32_w]
          · refine alloc_ (t := 51) (e8 (List.replicate 32 0)) (by rfl) rfl ?_ (fun g13 wa10 hge_g13 hbk_g13 hb => ?_)
            · first | (go_simp; done) | (go_simp; constructor <;> rfl) | (go_simp; rfl) | rfl
            have hB_g13 := Aside0.mk hbk_g13
            have hlo_g13 := Nat.le_trans (Below.size hHeld.2.2.2.2.1) hge_g13
            refine hK.out _ _ ⟨(pw_cell_below hb hHeld.1), (pw_cell_below hb hHeld.2.1), (pw_cell_below hb hHeld.2.2.1), (pw_cell_below hb hHeld.2.2.2.1), (below_then hHeld.2.2.2.2.1 (Below.size hHeld.2.2.2.2.1) hb), trivial⟩ (fun hHeld => ?_)
            clear hK K
            refine norm_ (a' := ?_) ?_ ?_
            rotate_left
            · show Act.put _ (some 13) _ = _
              simp only [Act.put, List.setIfInBounds_toArray, List.set_cons_zero, List.set_cons_succ, i64_w, i32_w]
              rfl
            refine two_ (i := 9) (j := 11) (Ni := some 71) (Nj := some 14) #[true, true, true, true, true, true, true, true, true, true, true, false, false, false] #[true, true, true, true, true, true, true, true, true, false, true, true, false, false] rfl rfl rfl rfl (by kernel_rfl) (by decide) (by decide) (fun K hK => ?_) (fun K hK => ?_)
            · refine goes_ Try.func31 (by kernel_rfl) rfl #[.int .u64 (b0.toNat : Int), .int .u64 (b1.toNat : Int)] (by rfl) rfl rfl (by (try simp only [List.map_toArray, List.map_cons, List.map_nil]); first | done | rfl) ?_
              with_reducible refine (Of_w b0 b1 T HT.out _).mono ?_
              rintro e w6 ⟨rfl, hb⟩
              refine ⟨_, rfl, ?_⟩
              have hB_g13_ := Aside0.mk (blk_below hB_g13.out hb)
              refine hK.out _ _ ⟨(pw_cell_below hb hHeld.1), (pw_cell_below hb hHeld.2.1), (pw_cell_below hb hHeld.2.2.1), (pw_cell_below hb hHeld.2.2.2.1), (below_then hHeld.2.2.2.2.1 (Below.size hHeld.2.2.2.2.1) hb), trivial⟩ (fun hHeld => ?_)
              clear hK K
              refine norm_ (a' := ?_) ?_ ?_
              rotate_left
              · show Act.put _ (some 71) _ = _
                simp only [Act.put, List.setIfInBounds_toArray, List.set_cons_zero, List.set_cons_succ, i64_w, i32_w]
                rfl
              refine one_ (i := 11) (N := some 14) #[true, true, true, true, true, true, true, true, true, true, true, true, false, false] rfl rfl (one_of HT_.out (by kernel_rfl)) (by decide) (fun K hK => ?_)
              refine alloc_ (t := 51) (e8 (List.replicate 32 0)) (by rfl) rfl ?_ (fun g14 wa11 hge_g14 hbk_g14 hb => ?_)
              · first | (go_simp; done) | (go_simp; constructor <;> rfl) | (go_simp; rfl) | rfl
              have hB_g13__ := Aside0.mk (blk_below hB_g13_.out hb)
              have hB_g14 := Aside0.mk hbk_g14
              have hlo_g14 := Nat.le_trans (Below.size hHeld.2.2.2.2.1) hge_g14
              refine hK.out _ _ ⟨(pw_cell_below hb hHeld.1), (pw_cell_below hb hHeld.2.1), (pw_cell_below hb hHeld.2.2.1), (pw_cell_below hb hHeld.2.2.2.1), (below_then hHeld.2.2.2.2.1 (Below.size hHeld.2.2.2.2.1) hb), trivial⟩ (fun hHeld => ?_)
              clear hK K
              refine norm_ (a' := ?_) ?_ ?_
              rotate_left
              · show Act.put _ (some 14) _ = _
                simp only [Act.put, List.setIfInBounds_toArray, List.set_cons_zero, List.set_cons_succ, i64_w, i32_w]
                rfl
              refine norm_ ?_ (hcont (g13, g14) _ ⟨hHeld, hB_g13__.out, hlo_g13, hB_g14.out, hlo_g14, (Nat.ne_of_lt (Nat.lt_of_lt_of_le (blk_lt hB_g13_.out) hge_g14)), trivial⟩)
              simp only [putAll, Act.put, List.setIfInBounds_toArray, List.set_cons_zero, List.set_cons_succ, i64_w, i32_w]
            · refine alloc_ (t := 51) (e8 (List.replicate 32 0)) (by rfl) rfl ?_ (fun g14 wa11 hge_g14 hbk_g14 hb => ?_)
              · first | (go_simp; done) | (go_simp; constructor <;> rfl) | (go_simp; rfl) | rfl
              have hB_g13_ := Aside0.mk (blk_below hB_g13.out hb)
              have hB_g14 := Aside0.mk hbk_g14
              have hlo_g14 := Nat.le_trans (Below.size hHeld.2.2.2.2.1) hge_g14
              refine hK.out _ _ ⟨(pw_cell_below hb hHeld.1), (pw_cell_below hb hHeld.2.1), (pw_cell_below hb hHeld.2.2.1), (pw_cell_below hb hHeld.2.2.2.1), (below_then hHeld.2.2.2.2.1 (Below.size hHeld.2.2.2.2.1) hb), trivial⟩ (fun hHeld => ?_)
              clear hK K
              refine norm_ (a' := ?_) ?_ ?_
              rotate_left
              · show Act.put _ (some 14) _ = _
                simp only [Act.put, List.setIfInBounds_toArray, List.set_cons_zero, List.set_cons_succ, i64_w, i32_w]
                rfl
              refine one_ (i := 9) (N := some 71) #[true, true, true, true, true, true, true, true, true, true, true, true, false, false] rfl rfl (one_of HT_.out (by kernel_rfl)) (by decide) (fun K hK => ?_)
              refine goes_ Try.func31 (by kernel_rfl) rfl #[.int .u64 (b0.toNat : Int), .int .u64 (b1.toNat : Int)] (by rfl) rfl rfl (by (try simp only [List.map_toArray, List.map_cons, List.map_nil]); first | done | rfl) ?_
              with_reducible refine (Of_w b0 b1 T HT.out _).mono ?_
              rintro e w6 ⟨rfl, hb⟩
              refine ⟨_, rfl, ?_⟩
              have hB_g13__ := Aside0.mk (blk_below hB_g13_.out hb)
              have hB_g14_ := Aside0.mk (blk_below hB_g14.out hb)
              refine hK.out _ _ ⟨(pw_cell_below hb hHeld.1), (pw_cell_below hb hHeld.2.1), (pw_cell_below hb hHeld.2.2.1), (pw_cell_below hb hHeld.2.2.2.1), (below_then hHeld.2.2.2.2.1 (Below.size hHeld.2.2.2.2.1) hb), trivial⟩ (fun hHeld => ?_)
              clear hK K
              refine norm_ (a' := ?_) ?_ ?_
              rotate_left
              · show Act.put _ (some 71) _ = _
                simp only [Act.put, List.setIfInBounds_toArray, List.set_cons_zero, List.set_cons_succ, i64_w, i32_w]
                rfl
              refine norm_ ?_ (hcont (g13, g14) _ ⟨hHeld, hB_g13__.out, hlo_g13, hB_g14_.out, hlo_g14, (Nat.ne_of_lt (Nat.lt_of_lt_of_le (blk_lt hB_g13.out) hge_g14)), trivial⟩)
              simp only [putAll, Act.put, List.setIfInBounds_toArray, List.set_cons_zero, List.set_cons_succ, i64_w, i32_w]
          · refine alloc_ (t := 51) (e8 (List.replicate 32 0)) (by rfl) rfl ?_ (fun g14 wa11 hge_g14 hbk_g14 hb => ?_)
            · first | (go_simp; done) | (go_simp; constructor <;> rfl) | (go_simp; rfl) | rfl
            have hB_g14 := Aside0.mk hbk_g14
            have hlo_g14 := Nat.le_trans (Below.size hHeld.2.2.2.2.1) hge_g14
            refine hK.out _ _ ⟨(pw_cell_below hb hHeld.1), (pw_cell_below hb hHeld.2.1), (pw_cell_below hb hHeld.2.2.1), (pw_cell_below hb hHeld.2.2.2.1), (below_then hHeld.2.2.2.2.1 (Below.size hHeld.2.2.2.2.1) hb), trivial⟩ (fun hHeld => ?_)
            clear hK K
            refine norm_ (a' := ?_) ?_ ?_
            rotate_left
            · show Act.put _ (some 14) _ = _
              simp only [Act.put, List.setIfInBounds_toArray, List.set_cons_zero, List.set_cons_succ, i64_w, i32_w]
              rfl
            refine two_ (i := 9) (j := 10) (Ni := some 71) (Nj := some 13) #[true, true, true, true, true, true, true, true, true, true, false, true, false, false] #[true, true, true, true, true, true, true, true, true, false, true, true, false, false] rfl rfl rfl rfl (by kernel_rfl) (by decide) (by decide) (fun K hK => ?_) (fun K hK => ?_)
            · refine goes_ Try.func31 (by kernel_rfl) rfl #[.int .u64 (b0.toNat : Int), .int .u64 (b1.toNat : Int)] (by rfl) rfl rfl (by (try simp only [List.map_toArray, List.map_cons, List.map_nil]); first | done | rfl) ?_
              with_reducible refine (Of_w b0 b1 T HT.out _).mono ?_
              rintro e w6 ⟨rfl, hb⟩
              refine ⟨_, rfl, ?_⟩
              have hB_g14_ := Aside0.mk (blk_below hB_g14.out hb)
              refine hK.out _ _ ⟨(pw_cell_below hb hHeld.1), (pw_cell_below hb hHeld.2.1), (pw_cell_below hb hHeld.2.2.1), (pw_cell_below hb hHeld.2.2.2.1), (below_then hHeld.2.2.2.2.1 (Below.size hHeld.2.2.2.2.1) hb), trivial⟩ (fun hHeld => ?_)
              clear hK K
              refine norm_ (a' := ?_) ?_ ?_
              rotate_left
              · show Act.put _ (some 71) _ = _
                simp only [Act.put, List.setIfInBounds_toArray, List.set_cons_zero, List.set_cons_succ, i64_w, i32_w]
                rfl
              refine one_ (i := 10) (N := some 13) #[true, true, true, true, true, true, true, true, true, true, true, true, false, false] rfl rfl (one_of HT_.out (by kernel_rfl)) (by decide) (fun K hK => ?_)
              refine alloc_ (t := 51) (e8 (List.replicate 32 0)) (by rfl) rfl ?_ (fun g13 wa10 hge_g13 hbk_g13 hb => ?_)
              · first | (go_simp; done) | (go_simp; constructor <;> rfl) | (go_simp; rfl) | rfl
              have hB_g14__ := Aside0.mk (blk_below hB_g14_.out hb)
              have hB_g13 := Aside0.mk hbk_g13
              have hlo_g13 := Nat.le_trans (Below.size hHeld.2.2.2.2.1) hge_g13
              refine hK.out _ _ ⟨(pw_cell_below hb hHeld.1), (pw_cell_below hb hHeld.2.1), (pw_cell_below hb hHeld.2.2.1), (pw_cell_below hb hHeld.2.2.2.1), (below_then hHeld.2.2.2.2.1 (Below.size hHeld.2.2.2.2.1) hb), trivial⟩ (fun hHeld => ?_)
              clear hK K
              refine norm_ (a' := ?_) ?_ ?_
              rotate_left
              · show Act.put _ (some 13) _ = _
                simp only [Act.put, List.setIfInBounds_toArray, List.set_cons_zero, List.set_cons_succ, i64_w, i32_w]
                rfl
              refine norm_ ?_ (hcont (g13, g14) _ ⟨hHeld, hB_g13.out, hlo_g13, hB_g14__.out, hlo_g14, (Nat.ne_of_gt (Nat.lt_of_lt_of_le (blk_lt hB_g14_.out) hge_g13)), trivial⟩)
              simp only [putAll, Act.put, List.setIfInBounds_toArray, List.set_cons_zero, List.set_cons_succ, i64_w, i32_w]
            · refine alloc_ (t := 51) (e8 (List.replicate 32 0)) (by rfl) rfl ?_ (fun g13 wa10 hge_g13 hbk_g13 hb => ?_)
              · first | (go_simp; done) | (go_simp; constructor <;> rfl) | (go_simp; rfl) | rfl
              have hB_g14_ := Aside0.mk (blk_below hB_g14.out hb)
              have hB_g13 := Aside0.mk hbk_g13
              have hlo_g13 := Nat.le_trans (Below.size hHeld.2.2.2.2.1) hge_g13
              refine hK.out _ _ ⟨(pw_cell_below hb hHeld.1), (pw_cell_below hb hHeld.2.1), (pw_cell_below hb hHeld.2.2.1), (pw_cell_below hb hHeld.2.2.2.1), (below_then hHeld.2.2.2.2.1 (Below.size hHeld.2.2.2.2.1) hb), trivial⟩ (fun hHeld => ?_)
              clear hK K
              refine norm_ (a' := ?_) ?_ ?_
              rotate_left
              · show Act.put _ (some 13) _ = _
                simp only [Act.put, List.setIfInBounds_toArray, List.set_cons_zero, List.set_cons_succ, i64_w, i32_w]
                rfl
              refine one_ (i := 9) (N := some 71) #[true, true, true, true, true, true, true, true, true, true, true, true, false, false] rfl rfl (one_of HT_.out (by kernel_rfl)) (by decide) (fun K hK => ?_)
              refine goes_ Try.func31 (by kernel_rfl) rfl #[.int .u64 (b0.toNat : Int), .int .u64 (b1.toNat : Int)] (by rfl) rfl rfl (by (try simp only [List.map_toArray, List.map_cons, List.map_nil]); first | done | rfl) ?_
              with_reducible refine (Of_w b0 b1 T HT.out _).mono ?_
              rintro e w6 ⟨rfl, hb⟩
              refine ⟨_, rfl, ?_⟩
              have hB_g14__ := Aside0.mk (blk_below hB_g14_.out hb)
              have hB_g13_ := Aside0.mk (blk_below hB_g13.out hb)
              refine hK.out _ _ ⟨(pw_cell_below hb hHeld.1), (pw_cell_below hb hHeld.2.1), (pw_cell_below hb hHeld.2.2.1), (pw_cell_below hb hHeld.2.2.2.1), (below_then hHeld.2.2.2.2.1 (Below.size hHeld.2.2.2.2.1) hb), trivial⟩ (fun hHeld => ?_)
              clear hK K
              refine norm_ (a' := ?_) ?_ ?_
              rotate_left
              · show Act.put _ (some 71) _ = _
                simp only [Act.put, List.setIfInBounds_toArray, List.set_cons_zero, List.set_cons_succ, i64_w, i32_w]
                rfl
              refine norm_ ?_ (hcont (g13, g14) _ ⟨hHeld, hB_g13_.out, hlo_g13, hB_g14__.out, hlo_g14, (Nat.ne_of_gt (Nat.lt_of_lt_of_le (blk_lt hB_g14.out) hge_g13)), trivial⟩)
              simp only [putAll, Act.put, List.setIfInBounds_toArray, List.set_cons_zero, List.set_cons_succ, i64_w, i32_w]
        · refine alloc_ (t := 51) (e8 (List.replicate 32 0)) (by rfl) rfl ?_ (fun g13 wa10 hge_g13 hbk_g13 hb => ?_)
          · first | (go_simp; done) | (go_simp; constructor <;> rfl) | (go_simp; rfl) | rfl
          have hB_g13 := Aside0.mk hbk_g13
          have hlo_g13 := Nat.le_trans (Below.size hHeld.2.2.2.2.1) hge_g13
          refine hK.out _ _ ⟨(pw_cell_below hb hHeld.1), (pw_cell_below hb hHeld.2.1), (pw_cell_below hb hHeld.2.2.1), (pw_cell_below hb hHeld.2.2.2.1), (below_then hHeld.2.2.2.2.1 (Below.size hHeld.2.2.2.2.1) hb), trivial⟩ (fun hHeld => ?_)
          clear hK K
          refine norm_ (a' := ?_) ?_ ?_
          rotate_left
          · show Act.put _ (some 13) _ = _
            simp only [Act.put, List.setIfInBounds_toArray, List.set_cons_zero, List.set_cons_succ, i64_w, i32_w]
            rfl
          refine two_ (i := 4) (j := 11) (Ni := some 66) (Nj := some 14) #[true, true, true, true, true, true, true, true, true, false, true, false, false, false] #[true, true, true, true, false, true, true, true, true, false, true, true, false, false] rfl rfl rfl rfl (by kernel_rfl) (by decide) (by decide) (fun K hK => ?_) (fun K hK => ?_)
          · refine goes_ Try.func31 (by kernel_rfl) rfl #[.int .u64 (a0.toNat : Int), .int .u64 (a1.toNat : Int)] (by rfl) rfl rfl (by (try simp only [List.map_toArray, List.map_cons, List.map_nil]); first | done | rfl) ?_
            with_reducible refine (Of_w a0 a1 S HS.out _).mono ?_
            rintro e w5 ⟨rfl, hb⟩
            refine ⟨_, rfl, ?_⟩
            have hB_g13_ := Aside0.mk (blk_below hB_g13.out hb)
            refine hK.out _ _ ⟨(pw_cell_below hb hHeld.1), (pw_cell_below hb hHeld.2.1), (pw_cell_below hb hHeld.2.2.1), (pw_cell_below hb hHeld.2.2.2.1), (below_then hHeld.2.2.2.2.1 (Below.size hHeld.2.2.2.2.1) hb), trivial⟩ (fun hHeld => ?_)
            clear hK K
            refine norm_ (a' := ?_) ?_ ?_
            rotate_left
            · show Act.put _ (some 66) _ = _
              simp only [Act.put, List.setIfInBounds_toArray, List.set_cons_zero, List.set_cons_succ, i64_w, i32_w]
              rfl
            refine two_ (i := 9) (j := 11) (Ni := some 71) (Nj := some 14) #[true, true, true, true, true, true, true, true, true, true, true, false, false, false] #[true, true, true, true, true, true, true, true, true, false, true, true, false, false] rfl rfl rfl rfl (by kernel_rfl) (by decide) (by decide) (fun K hK => ?_) (fun K hK => ?_)
            · refine goes_ Try.func31 (by kernel_rfl) rfl #[.int .u64 (b0.toNat : Int), .int .u64 (b1.toNat : Int)] (by rfl) rfl rfl (by (try simp only [List.map_toArray, List.map_cons, List.map_nil]); first | done | rfl) ?_
              with_reducible refine (Of_w b0 b1 T HT.out _).mono ?_
              rintro e w6 ⟨rfl, hb⟩
              refine ⟨_, rfl, ?_⟩
              have hB_g13__ := Aside0.mk (blk_below hB_g13_.out hb)
              refine hK.out _ _ ⟨(pw_cell_below hb hHeld.1), (pw_cell_below hb hHeld.2.1), (pw_cell_below hb hHeld.2.2.1), (pw_cell_below hb hHeld.2.2.2.1), (below_then hHeld.2.2.2.2.1 (Below.size hHeld.2.2.2.2.1) hb), trivial⟩ (fun hHeld => ?_)
              clear hK K
              refine norm_ (a' := ?_) ?_ ?_
              rotate_left
              · show Act.put _ (some 71) _ = _
                simp only [Act.put, List.setIfInBounds_toArray, List.set_cons_zero, List.set_cons_succ, i64_w, i32_w]
                rfl
              refine one_ (i := 11) (N := some 14) #[true, true, true, true, true, true, true, true, true, true, true, true, false, false] rfl rfl (one_of HT_.out (by kernel_rfl)) (by decide) (fun K hK => ?_)
              refine alloc_ (t := 51) (e8 (List.replicate 32 0)) (by rfl) rfl ?_ (fun g14 wa11 hge_g14 hbk_g14 hb => ?_)
              · first | (go_simp; done) | (go_simp; constructor <;> rfl) | (go_simp; rfl) | rfl
              have hB_g13___ := Aside0.mk (blk_below hB_g13__.out hb)
              have hB_g14 := Aside0.mk hbk_g14
              have hlo_g14 := Nat.le_trans (Below.size hHeld.2.2.2.2.1) hge_g14
              refine hK.out _ _ ⟨(pw_cell_below hb hHeld.1), (pw_cell_below hb hHeld.2.1), (pw_cell_below hb hHeld.2.2.1), (pw_cell_below hb hHeld.2.2.2.1), (below_then hHeld.2.2.2.2.1 (Below.size hHeld.2.2.2.2.1) hb), trivial⟩ (fun hHeld => ?_)
              clear hK K
              refine norm_ (a' := ?_) ?_ ?_
              rotate_left
              · show Act.put _ (some 14) _ = _
                simp only [Act.put, List.setIfInBounds_toArray, List.set_cons_zero, List.set_cons_succ, i64_w, i32_w]
                rfl
              refine norm_ ?_ (hcont (g13, g14) _ ⟨hHeld, hB_g13___.out, hlo_g13, hB_g14.out, hlo_g14, (Nat.ne_of_lt (Nat.lt_of_lt_of_le (blk_lt hB_g13__.out) hge_g14)), trivial⟩)
              simp only [putAll, Act.put, List.setIfInBounds_toArray, List.set_cons_zero, List.set_cons_succ, i64_w, i32_w]
            · refine alloc_ (t := 51) (e8 (List.replicate 32 0)) (by rfl) rfl ?_ (fun g14 wa11 hge_g14 hbk_g14 hb => ?_)
              · first | (go_simp; done) | (go_simp; constructor <;> rfl) | (go_simp; rfl) | rfl
              have hB_g13__ := Aside0.mk (blk_below hB_g13_.out hb)
              have hB_g14 := Aside0.mk hbk_g14
              have hlo_g14 := Nat.le_trans (Below.size hHeld.2.2.2.2.1) hge_g14
              refine hK.out _ _ ⟨(pw_cell_below hb hHeld.1), (pw_cell_below hb hHeld.2.1), (pw_cell_below hb hHeld.2.2.1), (pw_cell_below hb hHeld.2.2.2.1), (below_then hHeld.2.2.2.2.1 (Below.size hHeld.2.2.2.2.1) hb), trivial⟩ (fun hHeld => ?_)
              clear hK K
              refine norm_ (a' := ?_) ?_ ?_
              rotate_left
              · show Act.put _ (some 14) _ = _
                simp only [Act.put, List.setIfInBounds_toArray, List.set_cons_zero, List.set_cons_succ, i64_w, i32_w]
                rfl
              refine one_ (i := 9) (N := some 71) #[true, true, true, true, true, true, true, true, true, true, true, true, false, false] rfl rfl (one_of HT_.out (by kernel_rfl)) (by decide) (fun K hK => ?_)
              refine goes_ Try.func31 (by kernel_rfl) rfl #[.int .u64 (b0.toNat : Int), .int .u64 (b1.toNat : Int)] (by rfl) rfl rfl (by (try simp only [List.map_toArray, List.map_cons, List.map_nil]); first | done | rfl) ?_
              with_reducible refine (Of_w b0 b1 T HT.out _).mono ?_
              rintro e w6 ⟨rfl, hb⟩
              refine ⟨_, rfl, ?_⟩
              have hB_g13___ := Aside0.mk (blk_below hB_g13__.out hb)
              have hB_g14_ := Aside0.mk (blk_below hB_g14.out hb)
              refine hK.out _ _ ⟨(pw_cell_below hb hHeld.1), (pw_cell_below hb hHeld.2.1), (pw_cell_below hb hHeld.2.2.1), (pw_cell_below hb hHeld.2.2.2.1), (below_then hHeld.2.2.2.2.1 (Below.size hHeld.2.2.2.2.1) hb), trivial⟩ (fun hHeld => ?_)
              clear hK K
              refine norm_ (a' := ?_) ?_ ?_
              rotate_left
              · show Act.put _ (some 71) _ = _
                simp only [Act.put, List.setIfInBounds_toArray, List.set_cons_zero, List.set_cons_succ, i64_w, i32_w]
                rfl
              refine norm_ ?_ (hcont (g13, g14) _ ⟨hHeld, hB_g13___.out, hlo_g13, hB_g14_.out, hlo_g14, (Nat.ne_of_lt (Nat.lt_of_lt_of_le (blk_lt hB_g13_.out) hge_g14)), trivial⟩)
              simp only [putAll, Act.put, List.setIfInBounds_toArray, List.set_cons_zero, List.set_cons_succ, i64_w, i32_w]
          · refine alloc_ (t := 51) (e8 (List.replicate 32 0)) (by rfl) rfl ?_ (fun g14 wa11 hge_g14 hbk_g14 hb => ?_)
            · first | (go_simp; done) | (go_simp; constructor <;> rfl) | (go_simp; rfl) | rfl
            have hB_g13_ := Aside0.mk (blk_below hB_g13.out hb)
            have hB_g14 := Aside0.mk hbk_g14
            have hlo_g14 := Nat.le_trans (Below.size hHeld.2.2.2.2.1) hge_g14
            refine hK.out _ _ ⟨(pw_cell_below hb hHeld.1), (pw_cell_below hb hHeld.2.1), (pw_cell_below hb hHeld.2.2.1), (pw_cell_below hb hHeld.2.2.2.1), (below_then hHeld.2.2.2.2.1 (Below.size hHeld.2.2.2.2.1) hb), trivial⟩ (fun hHeld => ?_)
            clear hK K
            refine norm_ (a' := ?_) ?_ ?_
            rotate_left
            · show Act.put _ (some 14) _ = _
              simp only [Act.put, List.setIfInBounds_toArray, List.set_cons_zero, List.set_cons_succ, i64_w, i32_w]
              rfl
            refine one_ (i := 4) (N := some 66) #[true, true, true, true, true, true, true, true, true, false, true, true, false, false] rfl rfl (one_of HT_.out (by kernel_rfl)) (by decide) (fun K hK => ?_)
            refine goes_ Try.func31 (by kernel_rfl) rfl #[.int .u64 (a0.toNat : Int), .int .u64 (a1.toNat : Int)] (by rfl) rfl rfl (by (try simp only [List.map_toArray, List.map_cons, List.map_nil]); first | done | rfl) ?_
            with_reducible refine (Of_w a0 a1 S HS.out _).mono ?_
            rintro e w5 ⟨rfl, hb⟩
            refine ⟨_, rfl, ?_⟩
            have hB_g13__ := Aside0.mk (blk_below hB_g13_.out hb)
            have hB_g14_ := Aside0.mk (blk_below hB_g14.out hb)
            refine hK.out _ _ ⟨(pw_cell_below hb hHeld.1), (pw_cell_below hb hHeld.2.1), (pw_cell_below hb hHeld.2.2.1), (pw_cell_below hb hHeld.2.2.2.1), (below_then hHeld.2.2.2.2.1 (Below.size hHeld.2.2.2.2.1) hb), trivial⟩ (fun hHeld => ?_)
            clear hK K
            refine norm_ (a' := ?_) ?_ ?_
            rotate_left
            · show Act.put _ (some 66) _ = _
              simp only [Act.put, List.setIfInBounds_toArray, List.set_cons_zero, List.set_cons_succ, i64_w, i32_w]
              rfl
            refine one_ (i := 9) (N := some 71) #[true, true, true, true, true, true, true, true, true, true, true, true, false, false] rfl rfl (one_of HT_.out (by kernel_rfl)) (by decide) (fun K hK => ?_)
            refine goes_ Try.func31 (by kernel_rfl) rfl #[.int .u64 (b0.toNat : Int), .int .u64 (b1.toNat : Int)] (by rfl) rfl rfl (by (try simp only [List.map_toArray, List.map_cons, List.map_nil]); first | done | rfl) ?_
            with_reducible refine (Of_w b0 b1 T HT.out _).mono ?_
            rintro e w6 ⟨rfl, hb⟩
            refine ⟨_, rfl, ?_⟩
            have hB_g13___ := Aside0.mk (blk_below hB_g13__.out hb)
            have hB_g14__ := Aside0.mk (blk_below hB_g14_.out hb)
            refine hK.out _ _ ⟨(pw_cell_below hb hHeld.1), (pw_cell_below hb hHeld.2.1), (pw_cell_below hb hHeld.2.2.1), (pw_cell_below hb hHeld.2.2.2.1), (below_then hHeld.2.2.2.2.1 (Below.size hHeld.2.2.2.2.1) hb), trivial⟩ (fun hHeld => ?_)
            clear hK K
            refine norm_ (a' := ?_) ?_ ?_
            rotate_left
            · show Act.put _ (some 71) _ = _
              simp only [Act.put, List.setIfInBounds_toArray, List.set_cons_zero, List.set_cons_succ, i64_w, i32_w]
              rfl
            refine norm_ ?_ (hcont (g13, g14) _ ⟨hHeld, hB_g13___.out, hlo_g13, hB_g14__.out, hlo_g14, (Nat.ne_of_lt (Nat.lt_of_lt_of_le (blk_lt hB_g13.out) hge_g14)), trivial⟩)
            simp only [putAll, Act.put, List.setIfInBounds_toArray, List.set_cons_zero, List.set_cons_succ, i64_w, i32_w]
        · refine alloc_ (t := 51) (e8 (List.replicate 32 0)) (by rfl) rfl ?_ (fun g14 wa11 hge_g14 hbk_g14 hb => ?_)
          · first | (go_simp; done) | (go_simp; constructor <;> rfl) | (go_simp; rfl) | rfl
          have hB_g14 := Aside0.mk hbk_g14
          have hlo_g14 := Nat.le_trans (Below.size hHeld.2.2.2.2.1) hge_g14
          refine hK.out _ _ ⟨(pw_cell_below hb hHeld.1), (pw_cell_below hb hHeld.2.1), (pw_cell_below hb hHeld.2.2.1), (pw_cell_below hb hHeld.2.2.2.1), (below_then hHeld.2.2.2.2.1 (Below.size hHeld.2.2.2.2.1) hb), trivial⟩ (fun hHeld => ?_)
          clear hK K
          refine norm_ (a' := ?_) ?_ ?_
          rotate_left
          · show Act.put _ (some 14) _ = _
            simp only [Act.put, List.setIfInBounds_toArray, List.set_cons_zero, List.set_cons_succ, i64_w, i32_w]
            rfl
          refine two_ (i := 4) (j := 10) (Ni := some 66) (Nj := some 13) #[true, true, true, true, true, true, true, true, true, false, false, true, false, false] #[true, true, true, true, false, true, true, true, true, false, true, true, false, false] rfl rfl rfl rfl (by kernel_rfl) (by decide) (by decide) (fun K hK => ?_) (fun K hK => ?_)
          · refine goes_ Try.func31 (by kernel_rfl) rfl #[.int .u64 (a0.toNat : Int), .int .u64 (a1.toNat : Int)] (by rfl) rfl rfl (by (try simp only [List.map_toArray, List.map_cons, List.map_nil]); first | done | rfl) ?_
            with_reducible refine (Of_w a0 a1 S HS.out _).mono ?_
            rintro e w5 ⟨rfl, hb⟩
            refine ⟨_, rfl, ?_⟩
            have hB_g14_ := Aside0.mk (blk_below hB_g14.out hb)
            refine hK.out _ _ ⟨(pw_cell_below hb hHeld.1), (pw_cell_below hb hHeld.2.1), (pw_cell_below hb hHeld.2.2.1), (pw_cell_below hb hHeld.2.2.2.1), (below_then hHeld.2.2.2.2.1 (Below.size hHeld.2.2.2.2.1) hb), trivial⟩ (fun hHeld => ?_)
            clear hK K
            refine norm_ (a' := ?_) ?_ ?_
            rotate_left
            · show Act.put _ (some 66) _ = _
              simp only [Act.put, List.setIfInBounds_toArray, List.set_cons_zero, List.set_cons_succ, i64_w, i32_w]
              rfl
            refine two_ (i := 9) (j := 10) (Ni := some 71) (Nj := some 13) #[true, true, true, true, true, true, true, true, true, true, false, true, false, false] #[true, true, true, true, true, true, true, true, true, false, true, true, false, false] rfl rfl rfl rfl (by kernel_rfl) (by decide) (by decide) (fun K hK => ?_) (fun K hK => ?_)
            · refine goes_ Try.func31 (by kernel_rfl) rfl #[.int .u64 (b0.toNat : Int), .int .u64 (b1.toNat : Int)] (by rfl) rfl rfl (by (try simp only [List.map_toArray, List.map_cons, List.map_nil]); first | done | rfl) ?_
              with_reducible refine (Of_w b0 b1 T HT.out _).mono ?_
              rintro e w6 ⟨rfl, hb⟩
              refine ⟨_, rfl, ?_⟩
              have hB_g14__ := Aside0.mk (blk_below hB_g14_.out hb)
              refine hK.out _ _ ⟨(pw_cell_below hb hHeld.1), (pw_cell_below hb hHeld.2.1), (pw_cell_below hb hHeld.2.2.1), (pw_cell_below hb hHeld.2.2.2.1), (below_then hHeld.2.2.2.2.1 (Below.size hHeld.2.2.2.2.1) hb), trivial⟩ (fun hHeld => ?_)
              clear hK K
              refine norm_ (a' := ?_) ?_ ?_
              rotate_left
              · show Act.put _ (some 71) _ = _
                simp only [Act.put, List.setIfInBounds_toArray, List.set_cons_zero, List.set_cons_succ, i64_w, i32_w]
                rfl
              refine one_ (i := 10) (N := some 13) #[true, true, true, true, true, true, true, true, true, true, true, true, false, false] rfl rfl (one_of HT_.out (by kernel_rfl)) (by decide) (fun K hK => ?_)
              refine alloc_ (t := 51) (e8 (List.replicate 32 0)) (by rfl) rfl ?_ (fun g13 wa10 hge_g13 hbk_g13 hb => ?_)
              · first | (go_simp; done) | (go_simp; constructor <;> rfl) | (go_simp; rfl) | rfl
              have hB_g14___ := Aside0.mk (blk_below hB_g14__.out hb)
              have hB_g13 := Aside0.mk hbk_g13
              have hlo_g13 := Nat.le_trans (Below.size hHeld.2.2.2.2.1) hge_g13
              refine hK.out _ _ ⟨(pw_cell_below hb hHeld.1), (pw_cell_below hb hHeld.2.1), (pw_cell_below hb hHeld.2.2.1), (pw_cell_below hb hHeld.2.2.2.1), (below_then hHeld.2.2.2.2.1 (Below.size hHeld.2.2.2.2.1) hb), trivial⟩ (fun hHeld => ?_)
              clear hK K
              refine norm_ (a' := ?_) ?_ ?_
              rotate_left
              · show Act.put _ (some 13) _ = _
                simp only [Act.put, List.setIfInBounds_toArray, List.set_cons_zero, List.set_cons_succ, i64_w, i32_w]
                rfl
              refine norm_ ?_ (hcont (g13, g14) _ ⟨hHeld, hB_g13.out, hlo_g13, hB_g14___.out, hlo_g14, (Nat.ne_of_gt (Nat.lt_of_lt_of_le (blk_lt hB_g14__.out) hge_g13)), trivial⟩)
              simp only [putAll, Act.put, List.setIfInBounds_toArray, List.set_cons_zero, List.set_cons_succ, i64_w, i32_w]
            · refine alloc_ (t := 51) (e8 (List.replicate 32 0)) (by rfl) rfl ?_ (fun g13 wa10 hge_g13 hbk_g13 hb => ?_)
              · first | (go_simp; done) | (go_simp; constructor <;> rfl) | (go_simp; rfl) | rfl
              have hB_g14__ := Aside0.mk (blk_below hB_g14_.out hb)
              have hB_g13 := Aside0.mk hbk_g13
              have hlo_g13 := Nat.le_trans (Below.size hHeld.2.2.2.2.1) hge_g13
              refine hK.out _ _ ⟨(pw_cell_below hb hHeld.1), (pw_cell_below hb hHeld.2.1), (pw_cell_below hb hHeld.2.2.1), (pw_cell_below hb hHeld.2.2.2.1), (below_then hHeld.2.2.2.2.1 (Below.size hHeld.2.2.2.2.1) hb), trivial⟩ (fun hHeld => ?_)
              clear hK K
              refine norm_ (a' := ?_) ?_ ?_
              rotate_left
              · show Act.put _ (some 13) _ = _
                simp only [Act.put, List.setIfInBounds_toArray, List.set_cons_zero, List.set_cons_succ, i64_w, i32_w]
                rfl
              refine one_ (i := 9) (N := some 71) #[true, true, true, true, true, true, true, true, true, true, true, true, false, false] rfl rfl (one_of HT_.out (by kernel_rfl)) (by decide) (fun K hK => ?_)
              refine goes_ Try.func31 (by kernel_rfl) rfl #[.int .u64 (b0.toNat : Int), .int .u64 (b1.toNat : Int)] (by rfl) rfl rfl (by (try simp only [List.map_toArray, List.map_cons, List.map_nil]); first | done | rfl) ?_
              with_reducible refine (Of_w b0 b1 T HT.out _).mono ?_
              rintro e w6 ⟨rfl, hb⟩
              refine ⟨_, rfl, ?_⟩
              have hB_g14___ := Aside0.mk (blk_below hB_g14__.out hb)
              have hB_g13_ := Aside0.mk (blk_below hB_g13.out hb)
              refine hK.out _ _ ⟨(pw_cell_below hb hHeld.1), (pw_cell_below hb hHeld.2.1), (pw_cell_below hb hHeld.2.2.1), (pw_cell_below hb hHeld.2.2.2.1), (below_then hHeld.2.2.2.2.1 (Below.size hHeld.2.2.2.2.1) hb), trivial⟩ (fun hHeld => ?_)
              clear hK K
              refine norm_ (a' := ?_) ?_ ?_
              rotate_left
              · show Act.put _ (some 71) _ = _
                simp only [Act.put, List.setIfInBounds_toArray, List.set_cons_zero, List.set_cons_succ, i64_w, i32_w]
                rfl
              refine norm_ ?_ (hcont (g13, g14) _ ⟨hHeld, hB_g13_.out, hlo_g13, hB_g14___.out, hlo_g14, (Nat.ne_of_gt (Nat.lt_of_lt_of_le (blk_lt hB_g14_.out) hge_g13)), trivial⟩)
              simp only [putAll, Act.put, List.setIfInBounds_toArray, List.set_cons_zero, List.set_cons_succ, i64_w, i32_w]
          · refine alloc_ (t := 51) (e8 (List.replicate 32 0)) (by rfl) rfl ?_ (fun g13 wa10 hge_g13 hbk_g13 hb => ?_)
            · first | (go_simp; done) | (go_simp; constructor <;> rfl) | (go_simp; rfl) | rfl
            have hB_g14_ := Aside0.mk (blk_below hB_g14.out hb)
            have hB_g13 := Aside0.mk hbk_g13
            have hlo_g13 := Nat.le_trans (Below.size hHeld.2.2.2.2.1) hge_g13
            refine hK.out _ _ ⟨(pw_cell_below hb hHeld.1), (pw_cell_below hb hHeld.2.1), (pw_cell_below hb hHeld.2.2.1), (pw_cell_below hb hHeld.2.2.2.1), (below_then hHeld.2.2.2.2.1 (Below.size hHeld.2.2.2.2.1) hb), trivial⟩ (fun hHeld => ?_)
            clear hK K
            refine norm_ (a' := ?_) ?_ ?_
            rotate_left
            · show Act.put _ (some 13) _ = _
              simp only [Act.put, List.setIfInBounds_toArray, List.set_cons_zero, List.set_cons_succ, i64_w, i32_w]
              rfl
            refine one_ (i := 4) (N := some 66) #[true, true, true, true, true, true, true, true, true, false, true, true, false, false] rfl rfl (one_of HT_.out (by kernel_rfl)) (by decide) (fun K hK => ?_)
            refine goes_ Try.func31 (by kernel_rfl) rfl #[.int .u64 (a0.toNat : Int), .int .u64 (a1.toNat : Int)] (by rfl) rfl rfl (by (try simp only [List.map_toArray, List.map_cons, List.map_nil]); first | done | rfl) ?_
            with_reducible refine (Of_w a0 a1 S HS.out _).mono ?_
            rintro e w5 ⟨rfl, hb⟩
            refine ⟨_, rfl, ?_⟩
            have hB_g14__ := Aside0.mk (blk_below hB_g14_.out hb)
            have hB_g13_ := Aside0.mk (blk_below hB_g13.out hb)
            refine hK.out _ _ ⟨(pw_cell_below hb hHeld.1), (pw_cell_below hb hHeld.2.1), (pw_cell_below hb hHeld.2.2.1), (pw_cell_below hb hHeld.2.2.2.1), (below_then hHeld.2.2.2.2.1 (Below.size hHeld.2.2.2.2.1) hb), trivial⟩ (fun hHeld => ?_)
            clear hK K
            refine norm_ (a' := ?_) ?_ ?_
            rotate_left
            · show Act.put _ (some 66) _ = _
              simp only [Act.put, List.setIfInBounds_toArray, List.set_cons_zero, List.set_cons_succ, i64_w, i32_w]
              rfl
            refine one_ (i := 9) (N := some 71) #[true, true, true, true, true, true, true, true, true, true, true, true, false, false] rfl rfl (one_of HT_.out (by kernel_rfl)) (by decide) (fun K hK => ?_)
            refine goes_ Try.func31 (by kernel_rfl) rfl #[.int .u64 (b0.toNat : Int), .int .u64 (b1.toNat : Int)] (by rfl) rfl rfl (by (try simp only [List.map_toArray, List.map_cons, List.map_nil]); first | done | rfl) ?_
            with_reducible refine (Of_w b0 b1 T HT.out _).mono ?_
            rintro e w6 ⟨rfl, hb⟩
            refine ⟨_, rfl, ?_⟩
            have hB_g14___ := Aside0.mk (blk_below hB_g14__.out hb)
            have hB_g13__ := Aside0.mk (blk_below hB_g13_.out hb)
            refine hK.out _ _ ⟨(pw_cell_below hb hHeld.1), (pw_cell_below hb hHeld.2.1), (pw_cell_below hb hHeld.2.2.1), (pw_cell_below hb hHeld.2.2.2.1), (below_then hHeld.2.2.2.2.1 (Below.size hHeld.2.2.2.2.1) hb), trivial⟩ (fun hHeld => ?_)
            clear hK K
            refine norm_ (a' := ?_) ?_ ?_
            rotate_left
            · show Act.put _ (some 71) _ = _
              simp only [Act.put, List.setIfInBounds_toArray, List.set_cons_zero, List.set_cons_succ, i64_w, i32_w]
              rfl
            refine norm_ ?_ (hcont (g13, g14) _ ⟨hHeld, hB_g13__.out, hlo_g13, hB_g14___.out, hlo_g14, (Nat.ne_of_gt (Nat.lt_of_lt_of_le (blk_lt hB_g14.out) hge_g13)), trivial⟩)
            simp only [putAll, Act.put, List.setIfInBounds_toArray, List.set_cons_zero, List.set_cons_succ, i64_w, i32_w]
      obtain ⟨g13, g14⟩ := s
      have hHeld := hF.1
      refine norm_ (a' := ?_) ?_ ?_
      rotate_left
      · simp only [putAll, Act.put, List.setIfInBounds_toArray, List.set_cons_zero, List.set_cons_succ, i64_w, i32_w]
        rfl
      have hj0 : Blk w' g13 51 (e8 (List.replicate 32 0)) := hF.2.1
      have hj1 : W4.heap.size ≤ g13 := hF.2.2.1
      have hj2 : Blk w' g14 51 (e8 (List.replicate 32 0)) := hF.2.2.2.1
      have hj3 : W4.heap.size ≤ g14 := hF.2.2.2.2.1
      have hj4 : g13 ≠ g14 := hF.2.2.2.2.2.1
      clear hF
      refine last_ (i := 12) (N := none) #[true, true, true, true, true, true, true, true, true, true, true, true, true, false] rfl rfl (one_of HT_.out (by kernel_rfl)) (by decide) (fun K hK => ?_)
      refine skip_ (w1 := World.setRow w' g13 (e8 S)) (by rfl) rfl ?_ ?_
      · refine Eq.trans (exec_store_row 51 (.tmp 13) (.tmp 66) (by rfl) g13 51 (e8 S) (e8 (List.replicate 32 0)) (by rfl) (by rfl) hj0 HZS.out (by rw [e8_size, e8_size, HSl.out]; rfl) (e8_one _)) ?_
        rfl
      refine hK.out _ _ ?_
      clear hK K
      refine last_ (i := 13) (N := none) #[true, true, true, true, true, true, true, true, true, true, true, true, true, true] rfl rfl (one_of HT_.out (by kernel_rfl)) (by decide) (fun K hK => ?_)
      refine skip_ (w1 := World.setRow (World.setRow w' g13 (e8 S)) g14 (e8 T)) (by rfl) rfl ?_ ?_
      · refine Eq.trans (exec_store_row 51 (.tmp 14) (.tmp 71) (by rfl) g14 51 (e8 T) (e8 (List.replicate 32 0)) (by rfl) (by rfl) (blk_setRow_far hj2 (Ne.symm hj4) _) HZT.out (by rw [e8_size, e8_size, HTl.out]; rfl) (e8_one _)) ?_
        rfl
      refine hK.out _ _ ?_
      clear hK K
      refine done_ (done_of HT_.out (by kernel_rfl)) ?_
      obtain ⟨W6, hW6⟩ : ∃ W6, W6 = World.setRow (World.setRow w' g13 (e8 S)) g14 (e8 T) := ⟨_, rfl⟩
      rw [← hW6]
      have HS6 := Aside0.mk (show Blk W6 g13 51 (e8 S) by rw [hW6]; exact blk_setRow_far (blk_setRow hj0 _) hj4 _)
      have HT6 := Aside0.mk (show Blk W6 g14 51 (e8 T) by rw [hW6]; exact blk_setRow (blk_setRow_far hj2 (Ne.symm hj4) _) _)
      have HW6 := Aside0.mk (show Below W4.heap.size W4 W6 by rw [hW6]; exact below_setRow (below_setRow hHeld.2.2.2.2.1 hj1 _) hj3 _)
      have HX6 := Aside0.mk (blk_below HX4.out HW6.out)
      have HY6 := Aside0.mk (blk_below HY4.out HW6.out)
      have HA6 := Aside0.mk (blk_below HA4.out HW6.out)
      have HB6 := Aside0.mk (blk_below HB4.out HW6.out)
      have HL6 := Aside0.mk (blk_below HL4.out HW6.out)
      have HG6 := Aside0.mk (show Below w.heap.size w W6 from below_then (below_then HW0.out HW0.out.size HW4.out) (Nat.le_trans HW0.out.size HW4.out.size) HW6.out)
      clear hW6 hHeld hj0 hj1 hj2 hj3 hj4
      obtain ⟨p, hp⟩ : ∃ p : Bool, p = (([a0, a1] : List V64) == [b0, b1]) := ⟨_, rfl⟩
      obtain ⟨q, hq⟩ : ∃ q : Bool, q = (S == T) := ⟨_, rfl⟩
      obtain ⟨r, hr⟩ : ∃ r : Bool, r = (X == Y) := ⟨_, rfl⟩
      have heqP := fun w => (eq2 a0 a1 b0 b1 w).trans (by rw [← hp])
      have heqQ := fun w => (eq32 S T HSl.out HTl.out w).trans (by rw [← hq])
      have heqR := fun w => (eq32 X Y HXl.out HYl.out w).trans (by rw [← hr])
      have HP := Aside0.mk hp
      have HQ := Aside0.mk hq
      have HR := Aside0.mk hr
      have HPQ := Aside0.mk (show p = true → q = true from fun h => by
        rw [HP.out, beq_iff_eq] at h
        injection h with h1 h2
        injection h2 with h2 _
        rw [HQ.out, HS.out, HT.out, h1, h2, beq_self_eq_true])
      clear hp hq hr
      have c20 : W6.cell? ⟨w.heap.size + 2, 0, none⟩ = some (.slice A n c) := (blk_cell HL6.out 0).trans rfl
      have c21 : W6.cell? ⟨w.heap.size + 2, 1, none⟩ = some (.slice B m d) := (blk_cell HL6.out 1).trans rfl
      go_wp2_with (first
        | ((with_reducible refine at_load_ (x := .tmp 3) ?_); refine wpList_value (by rfl) (exec_load_row 62 (.tmp 3) (by rfl) w.heap.size 62 (w2 a0 a1) _ (by rfl) HA6.out Try.underlying62 rfl (by kernel_rfl)) ?_)
        | ((with_reducible refine at_load_ (x := .tmp 4) ?_); refine wpList_value (by rfl) (exec_load_row 62 (.tmp 4) (by rfl) (w.heap.size + 1) 62 (w2 b0 b1) _ (by rfl) HB6.out Try.underlying62 rfl (by kernel_rfl)) ?_)
        | ((with_reducible refine at_load_ (x := .tmp 13) ?_); refine wpList_maybe p (.agg (e8 S)) (want_p p) (fun _ => exec_load_row 51 (.tmp 13) (by rfl) g13 51 (e8 S) _ (by rfl) HS6.out Try.underlying51 rfl HZS.out) ?_; intro x83 hx83; replace hx83 := Aside0.mk hx83)
        | ((with_reducible refine at_load_ (x := .tmp 14) ?_); refine wpList_maybe p (.agg (e8 T)) (want_p p) (fun _ => exec_load_row 51 (.tmp 14) (by rfl) g14 51 (e8 T) _ (by rfl) HT6.out Try.underlying51 rfl HZT.out) ?_; intro x84 hx84; replace hx84 := Aside0.mk hx84)
        | ((with_reducible refine at_bin_ (x := .tmp 83) ?_); refine wpList_maybe p (.bool (!q)) (want_p p) (fun hp => by simp only [Act.put]; rw [hx83.out hp, hx84.out hp]; go_simp) ?_; intro x85 hx85; have hif : (if p = true then x85 else Value.bool false) = Value.bool false := (by cases p with | true => exact (if_pos rfl).trans ((hx85 rfl).trans (by rw [HPQ.out rfl]; rfl)) | false => rfl); replace hx85 := Aside0.mk hx85))
      clear c20 c21
      go_loopw [15, 16] (fun s i wr => ∃ (k : Nat) (v : Bool), k ≤ n ∧ i = .int .i64 k ∧ s = .bool v ∧ Aside0 (v = true → n = m ∧ ∀ j, j < k → l0.getD j [] = l1.getD j []) ∧ Aside0 (v = false → l0 ≠ l1) ∧ Aside0 (Below W6.heap.size W6 wr)) (fun _ i _ => n - (intOf i).toNat)
      case atStart => exact ⟨0, decide (n = m), Nat.zero_le _, rfl, by congr 1; rw [Bool.eq_iff_iff, beq_iff_eq, decide_eq_true_iff]; omega, ⟨fun h => ⟨of_decide_eq_true h, fun j hj => by omega⟩⟩, ⟨fun h e => of_decide_eq_false h (by rw [← HN.out, ← HM.out, e])⟩, ⟨Below.refl _ _⟩⟩
      case round =>
        obtain ⟨k, v, hk, rfl, rfl, HV, HNV, HWr⟩ := hrel
        obtain ⟨wo, rfl⟩ : ∃ wo : World, wo = wr := ⟨_, rfl⟩
        have HLo := Aside0.mk (blk_below HL6.out HWr.out)
        have HGo := Aside0.mk (below_then HG6.out HG6.out.size HWr.out)
        have c20 : wo.cell? ⟨w.heap.size + 2, 0, none⟩ = some (.slice A n c) := (blk_cell HLo.out 0).trans rfl
        have c21 : wo.cell? ⟨w.heap.size + 2, 1, none⟩ = some (.slice B m d) := (blk_cell HLo.out 1).trans rfl
        by_cases hgo : k < n ∧ v = true
        · obtain ⟨hlt, rfl⟩ := hgo
          obtain ⟨hnm, HE⟩ := HV.out rfl
          replace HE := Aside0.mk HE
          have hkm : k < m := by omega
          have HNM := Aside0.mk hnm
          clear hnm
          obtain ⟨x, hx⟩ : ∃ x, x = l0.getD k [] := ⟨_, rfl⟩
          obtain ⟨y, hy⟩ : ∃ y, y = l1.getD k [] := ⟨_, rfl⟩
          obtain ⟨ad, A1, c1, rfl, cx, hKx, hc1⟩ := at_r HR0.out k hlt x hx
          obtain ⟨bd, B1, d1, rfl, cy, hKy, hd1⟩ := at_r HR1.out k hkm y hy
          replace cx := pw_cell_below HGo.out cx
          replace cy := pw_cell_below HGo.out cy
          have HKx := Aside0.mk (Kd.C_below hKx HGo.out)
          have HKy := Aside0.mk (Kd.C_below hKy HGo.out)
          obtain ⟨e, he⟩ : ∃ e : Bool, ((strOf x).toList == (strOf y).toList) = e := ⟨_, rfl⟩
          have HEE := Aside0.mk (show (e = true → x = y) ∧ (e = false → x ≠ y) from ⟨fun h => Classical.byContradiction fun hne => by rw [← he, seq_false hne] at h; exact absurd h (by decide), fun h hxy => by rw [← he, seq_true hxy] at h; exact absurd h (by decide)⟩)
          have HX1 := Aside0.mk hx
          have HY1 := Aside0.mk hy
          have hkn : (k : Int) < (n : Int) := by omega
          have hkm2 : (k : Int) < (m : Int) := by omega
          clear hx hy hKx hKy
          go_wp2
          refine start_ (n := 14) (S := fun w' => w'.cell? ⟨w.heap.size + 2, 0, none⟩ = some (.slice (some ad) n c) ∧ w'.cell? ⟨w.heap.size + 2, 1, none⟩ = some (.slice (some bd) m d) ∧ w'.cell? (ad.add k) = some (.slice A1 x.length c1) ∧ w'.cell? (bd.add k) = some (.slice B1 y.length d1) ∧ Kb.C w' A1 x.length x ∧ Kb.C w' B1 y.length y ∧ True) (ds := []) #[false, false, false, false, false, false, false, false, false, false, false, false, false, false] (by kernel_rfl) rfl rfl ⟨c20, c21, cx, cy, HKx.out, HKy.out, trivial⟩ (fun hHeld => ?_)
          refine with_tabW f8_r18.tab18 f8_r18.bits18 (fun HT_ HW_ => ?_)
          generalize hdr : wo.drew = w7 at hHeld ⊢; have HWd := Aside0.mk (show Below W6.heap.size W6 w7 by rw [← hdr]; exact below_drew HWr.out); clear hdr
          refine pure_ (i := 0) (N := some 105) (v := ?_) (a' := ?_) #[true, false, false, false, false, false, false, false, false, false, false, false, false, false] rfl rfl (any_of HT_.out (by kernel_rfl)) (fun _ _ _ h => h) (Or.inl ⟨by rfl, ?_⟩) ?_ ?_
          rotate_left
          · intro w'
            go_simp
            with_reducible rfl
          rotate_left
          · simp only [Act.put, List.setIfInBounds_toArray, List.set_cons_zero, List.set_cons_succ, i64_w, i32_w]
            rfl
          refine pure_ (i := 2) (N := some 107) (v := ?_) (a' := ?_) #[true, false, true, false, false, false, false, false, false, false, false, false, false, false] rfl rfl (any_of HT_.out (by kernel_rfl)) (fun _ _ _ h => h) (Or.inl ⟨by rfl, ?_⟩) ?_ ?_
          rotate_left
          · intro w'
            go_simp
            with_reducible rfl
          rotate_left
          · simp only [Act.put, List.setIfInBounds_toArray, List.set_cons_zero, List.set_cons_succ, i64_w, i32_w]
            rfl
          refine pure_ (i := 6) (N := some 111) (v := ?_) (a' := ?_) #[true, false, true, false, false, false, true, false, false, false, false, false, false, false] rfl rfl (any_of HT_.out (by kernel_rfl)) (fun _ _ _ h => h) (Or.inl ⟨by rfl, ?_⟩) ?_ ?_
          rotate_left
          · intro w'
            go_simp
            with_reducible rfl
          rotate_left
          · simp only [Act.put, List.setIfInBounds_toArray, List.set_cons_zero, List.set_cons_succ, i64_w, i32_w]
            rfl
          refine pure_ (i := 8) (N := some 113) (v := ?_) (a' := ?_) #[true, false, true, false, false, false, true, false, true, false, false, false, false, false] rfl rfl (any_of HT_.out (by kernel_rfl)) (fun _ _ _ h => h) (Or.inl ⟨by rfl, ?_⟩) ?_ ?_
          rotate_left
          · intro w'
            go_simp
            with_reducible rfl
          rotate_left
          · simp only [Act.put, List.setIfInBounds_toArray, List.set_cons_zero, List.set_cons_succ, i64_w, i32_w]
            rfl
          refine take_ (i := 1) (N := some 106) (v := ?_) (a' := ?_) #[true, true, true, false, false, false, true, false, true, false, false, false, false, false] rfl rfl (take_ofW HT_.out HW_.out (by kernel_rfl)) (fun _ _ _ h => h) (Or.inl ⟨by rfl, ?_⟩) hHeld ?_ ?_
          rotate_left
          · intro w' s0
            have e := s0.1
            go_simp
            with_reducible rfl
          rotate_left
          · simp only [Act.put, List.setIfInBounds_toArray, List.set_cons_zero, List.set_cons_succ, i64_w, i32_w]
            rfl
          refine pure_ (i := 3) (N := some 108) (v := ?_) (a' := ?_) #[true, true, true, true, false, false, true, false, true, false, false, false, false, false] rfl rfl (any_of HT_.out (by kernel_rfl)) (fun _ _ _ h => h) (Or.inl ⟨by rfl, ?_⟩) ?_ ?_
          rotate_left
          · intro w'
            go_simp
            with_reducible rfl
          rotate_left
          · simp only [Act.put, List.setIfInBounds_toArray, List.set_cons_zero, List.set_cons_succ, i64_w, i32_w]
            rfl
          refine take_ (i := 4) (N := some 109) (v := ?_) (a' := ?_) #[true, true, true, true, true, false, true, false, true, false, false, false, false, false] rfl rfl (take_ofW HT_.out HW_.out (by kernel_rfl)) (fun _ _ _ h => h) (Or.inl ⟨by rfl, ?_⟩) hHeld ?_ ?_
          rotate_left
          · intro w' s0
            have e := s0.2.2.1
            go_simp
            with_reducible rfl
          rotate_left
          · simp only [Act.put, List.setIfInBounds_toArray, List.set_cons_zero, List.set_cons_succ, i64_w, i32_w]
            rfl
          refine take_ (i := 5) (N := some 110) (v := ?_) (a' := ?_) #[true, true, true, true, true, true, true, false, true, false, false, false, false, false] rfl rfl (take_ofW HT_.out HW_.out (by kernel_rfl)) (fun _ _ _ h => h) (Or.inl ⟨by rfl, ?_⟩) hHeld ?_ ?_
          rotate_left
          · intro w' s0
            have e := str_of (c := c1) s0.2.2.2.2.1
            go_simp
            with_reducible rfl
          rotate_left
          · simp only [Act.put, List.setIfInBounds_toArray, List.set_cons_zero, List.set_cons_succ, i64_w, i32_w]
            rfl
          refine take_ (i := 7) (N := some 112) (v := ?_) (a' := ?_) #[true, true, true, true, true, true, true, true, true, false, false, false, false, false] rfl rfl (take_ofW HT_.out HW_.out (by kernel_rfl)) (fun _ _ _ h => h) (Or.inl ⟨by rfl, ?_⟩) hHeld ?_ ?_
          rotate_left
          · intro w' s0
            have e := s0.2.1
            go_simp
            with_reducible rfl
          rotate_left
          · simp only [Act.put, List.setIfInBounds_toArray, List.set_cons_zero, List.set_cons_succ, i64_w, i32_w]
            rfl
          refine pure_ (i := 9) (N := some 114) (v := ?_) (a' := ?_) #[true, true, true, true, true, true, true, true, true, true, false, false, false, false] rfl rfl (any_of HT_.out (by kernel_rfl)) (fun _ _ _ h => h) (Or.inl ⟨by rfl, ?_⟩) ?_ ?_
          rotate_left
          · intro w'
            go_simp
            with_reducible rfl
          rotate_left
          · simp only [Act.put, List.setIfInBounds_toArray, List.set_cons_zero, List.set_cons_succ, i64_w, i32_w]
            rfl
          refine take_ (i := 10) (N := some 115) (v := ?_) (a' := ?_) #[true, true, true, true, true, true, true, true, true, true, true, false, false, false] rfl rfl (take_ofW HT_.out HW_.out (by kernel_rfl)) (fun _ _ _ h => h) (Or.inl ⟨by rfl, ?_⟩) hHeld ?_ ?_
          rotate_left
          · intro w' s0
            have e := s0.2.2.2.1
            go_simp
            with_reducible rfl
          rotate_left
          · simp only [Act.put, List.setIfInBounds_toArray, List.set_cons_zero, List.set_cons_succ, i64_w, i32_w]
            rfl
          refine take_ (i := 11) (N := some 116) (v := ?_) (a' := ?_) #[true, true, true, true, true, true, true, true, true, true, true, true, false, false] rfl rfl (take_ofW HT_.out HW_.out (by kernel_rfl)) (fun _ _ _ h => h) (Or.inl ⟨by rfl, ?_⟩) hHeld ?_ ?_
          rotate_left
          · intro w' s0
            have e := str_of (c := d1) s0.2.2.2.2.2.1
            go_simp
            with_reducible rfl
          rotate_left
          · simp only [Act.put, List.setIfInBounds_toArray, List.set_cons_zero, List.set_cons_succ, i64_w, i32_w]
            rfl
          refine pure_ (i := 12) (N := some 117) (v := ?_) (a' := ?_) #[true, true, true, true, true, true, true, true, true, true, true, true, true, false] rfl rfl (any_of HT_.out (by kernel_rfl)) (fun _ _ _ h => h) (Or.inl ⟨by rfl, ?_⟩) ?_ ?_
          rotate_left
          · intro w'
            go_simp
            with_reducible rfl
          rotate_left
          · simp only [Act.put, List.setIfInBounds_toArray, List.set_cons_zero, List.set_cons_succ, i64_w, i32_w]
            rfl
          refine pure_ (i := 13) (N := some 15) (v := ?_) (a' := ?_) #[true, true, true, true, true, true, true, true, true, true, true, true, true, true] rfl rfl (any_of HT_.out (by kernel_rfl)) (fun _ _ _ h => h) (Or.inl ⟨by rfl, ?_⟩) ?_ ?_
          rotate_left
          · intro w'
            go_simp
            with_reducible rfl
          rotate_left
          · simp only [Act.put, List.setIfInBounds_toArray, List.set_cons_zero, List.set_cons_succ, i64_w, i32_w]
            rfl
          refine done_ (done_of HT_.out (by kernel_rfl)) ?_
          clear hHeld
          go_wp2
          go_roundw
          case rel => exact ⟨k + 1, e, by omega, by go_num, rfl, ⟨fun h => ⟨HNM.out, fun j hj => by
            rcases Nat.lt_or_ge j k with h1 | h1
            · exact HE.out j h1
            · rw [show j = k by omega, ← HX1.out, ← HY1.out]; exact HEE.out.1 h⟩⟩, ⟨fun h heq => HEE.out.2 h (by rw [HX1.out, HY1.out, heq])⟩, HWd⟩
          case measure => simp [intOf]; omega
        · have HSAME := Aside0.mk (show (v = true → l0 = l1) ∧ (v = false → l0 ≠ l1) from ⟨fun h => by
            obtain ⟨h1, h2⟩ := HV.out h
            have hkn : k = n := by
              refine Classical.byContradiction fun hne => hgo ⟨by omega, h⟩
            apply List.ext_getElem
            · rw [HN.out, HM.out, h1]
            · intro i hi1 hi2
              have := h2 i (by rw [hkn, ← HN.out]; exact hi1)
              simpa [List.getD, hi1, hi2] using this, HNV.out⟩)
          have hcase : (k < n ∧ v = false) ∨ k = n := by
            rcases Nat.lt_or_ge k n with h | h
            · refine .inl ⟨h, ?_⟩
              cases v with
              | true => exact absurd ⟨h, rfl⟩ hgo
              | false => rfl
            · exact .inr (by omega)
          clear hgo HV HNV
          obtain ⟨P0, hP0⟩ : ∃ P0, P0 = listText l0 := ⟨_, rfl⟩
          obtain ⟨P1, hP1⟩ : ∃ P1, P1 = listText l1 := ⟨_, rfl⟩
          obtain ⟨z0, hz0⟩ : ∃ z0, z0 = P0.length := ⟨_, rfl⟩
          obtain ⟨z1, hz1⟩ : ∃ z1, z1 = P1.length := ⟨_, rfl⟩
          have HP0 := Aside0.mk hP0
          have HP1 := Aside0.mk hP1
          have HZ0' := Aside0.mk hz0
          have HZ1' := Aside0.mk hz1
          clear hP0 hP1 hz0 hz1
          rcases hcase with ⟨hlt, hv⟩ | hkn
          all_goals
            go_wp2_with (first
              | (go_at_call 29; (with_reducible refine (ListText_x P0 z0 A c n l0 HP0.out HZ0'.out wo HN.out (Kd.C_below HR0.out HGo.out) HF0.out).mono ?_); rintro e w8 ⟨A3, c3, rfl, hB8, hb8⟩; have c21' := pw_cell_below hb8 c21; replace hB8 := Aside0.mk hB8; replace hb8 := Aside0.mk hb8)
              | (go_at_call 29; (with_reducible refine (ListText_x P1 z1 B d m l1 HP1.out HZ1'.out w8 HM.out (Kd.C_below (Kd.C_below HR1.out HGo.out) hb8.out) HF1.out).mono ?_); rintro e w9 ⟨A4, c4, rfl, hB9, hb9⟩; replace hB9 := Aside0.mk hB9; replace hb9 := Aside0.mk hb9))
          all_goals
            have H9 := Aside0.mk (below_then HWr.out HWr.out.size (below_then hb8.out hb8.out.size hb9.out))
            have HA9 := Aside0.mk (blk_below HA6.out H9.out)
            have HB9' := Aside0.mk (blk_below HB6.out H9.out)
            have HS9 := Aside0.mk (blk_below HS6.out H9.out)
            have HT9 := Aside0.mk (blk_below HT6.out H9.out)
            have HX9 := Aside0.mk (blk_below HX6.out H9.out)
            have HY9 := Aside0.mk (blk_below HY6.out H9.out)
            have HG9 := Aside0.mk (below_then HG6.out HG6.out.size H9.out)
            have HC0 := Aside0.mk (Kd.C_below hB8.out hb9.out)
            have HZ0b := Aside0.mk (fits_le l0 HF0.out)
            have HZ1b := Aside0.mk (fits_le l1 HF1.out)
            rw [← HP0.out, ← HZ0'.out] at HZ0b
            rw [← HP1.out, ← HZ1'.out] at HZ1b
            obtain ⟨P2, hP2⟩ : ∃ P2, P2 = text a0 a1 := ⟨_, rfl⟩
            obtain ⟨P3, hP3⟩ : ∃ P3, P3 = text b0 b1 := ⟨_, rfl⟩
            have HP2 := Aside0.mk hP2
            have HP3 := Aside0.mk hP3
            clear hP2 hP3 c20 c21 c21' hb8
            refine start_ (n := 14) (S := fun w' => w'.cell? ⟨w.heap.size, 0, none⟩ = some (.int .u64 (a0.toNat : Int)) ∧ w'.cell? ⟨w.heap.size, 1, none⟩ = some (.int .u64 (a1.toNat : Int)) ∧ w'.cell? ⟨w.heap.size + 1, 0, none⟩ = some (.int .u64 (b0.toNat : Int)) ∧ w'.cell? ⟨w.heap.size + 1, 1, none⟩ = some (.int .u64 (b1.toNat : Int)) ∧ Kb.C w' A3 z0 P0 ∧ Kb.C w' A4 z1 P1 ∧ Below w9.heap.size w9 w' ∧ True) (ds := []) #[false, false, false, false, false, false, false, false, false, false, false, false, false, false] (by kernel_rfl) rfl rfl ⟨(blk_cell (blk_drew HA9.out) 0).trans rfl, (blk_cell (blk_drew HA9.out) 1).trans rfl, (blk_cell (blk_drew HB9'.out) 0).trans rfl, (blk_cell (blk_drew HB9'.out) 1).trans rfl, Kd.C_below HC0.out (below_drew (Below.refl _ _)), Kd.C_below hB9.out (below_drew (Below.refl _ _)), below_drew (Below.refl _ _), trivial⟩ (fun hHeld => ?_)
            refine with_tabW f8_r21.tab21 f8_r21.bits21 (fun HT_ HW_ => ?_)
            refine pure_ (i := 0) (N := some 130) (v := ?_) (a' := ?_) #[true, false, false, false, false, false, false, false, false, false, false, false, false, false] rfl rfl (any_of HT_.out (by kernel_rfl)) (fun _ _ _ h => h) (Or.inl ⟨by rfl, ?_⟩) ?_ ?_
            rotate_left
            · intro w'
              go_simp
              with_reducible rfl
            rotate_left
            · simp only [Act.put, List.setIfInBounds_toArray, List.set_cons_zero, List.set_cons_succ, i64_w, i32_w]
              rfl
            refine pure_ (i := 1) (N := some 131) (v := ?_) (a' := ?_) #[true, true, false, false, false, false, false, false, false, false, false, false, false, false] rfl rfl (any_of HT_.out (by kernel_rfl)) (fun _ _ _ h => h) (Or.inl ⟨by rfl, ?_⟩) ?_ ?_
            rotate_left
            · intro w'
              go_simp
              with_reducible rfl
            rotate_left
            · simp only [Act.put, List.setIfInBounds_toArray, List.set_cons_zero, List.set_cons_succ, i64_w, i32_w]
              rfl
            refine pure_ (i := 2) (N := some 132) (v := ?_) (a' := ?_) #[true, true, true, false, false, false, false, false, false, false, false, false, false, false] rfl rfl (any_of HT_.out (by kernel_rfl)) (fun _ _ _ h => h) (Or.inl ⟨by rfl, ?_⟩) ?_ ?_
            rotate_left
            · intro w'
              go_simp
              with_reducible rfl
            rotate_left
            · simp only [Act.put, List.setIfInBounds_toArray, List.set_cons_zero, List.set_cons_succ, i64_w, i32_w]
              rfl
            refine pure_ (i := 4) (N := some 134) (v := ?_) (a' := ?_) #[true, true, true, false, true, false, false, false, false, false, false, false, false, false] rfl rfl (any_of HT_.out (by kernel_rfl)) (fun _ _ _ h => h) (Or.inl ⟨by rfl, ?_⟩) ?_ ?_
            rotate_left
            · intro w'
              go_simp
              with_reducible rfl
            rotate_left
            · simp only [Act.put, List.setIfInBounds_toArray, List.set_cons_zero, List.set_cons_succ, i64_w, i32_w]
              rfl
            refine pure_ (i := 7) (N := some 137) (v := ?_) (a' := ?_) #[true, true, true, false, true, false, false, true, false, false, false, false, false, false] rfl rfl (any_of HT_.out (by kernel_rfl)) (fun _ _ _ h => h) (Or.inl ⟨by rfl, ?_⟩) ?_ ?_
            rotate_left
            · intro w'
              go_simp
              with_reducible rfl
            rotate_left
            · simp only [Act.put, List.setIfInBounds_toArray, List.set_cons_zero, List.set_cons_succ, i64_w, i32_w]
              rfl
            refine pure_ (i := 9) (N := some 139) (v := ?_) (a' := ?_) #[true, true, true, false, true, false, false, true, false, true, false, false, false, false] rfl rfl (any_of HT_.out (by kernel_rfl)) (fun _ _ _ h => h) (Or.inl ⟨by rfl, ?_⟩) ?_ ?_
            rotate_left
            · intro w'
              go_simp
              with_reducible rfl
            rotate_left
            · simp only [Act.put, List.setIfInBounds_toArray, List.set_cons_zero, List.set_cons_succ, i64_w, i32_w]
              rfl
            refine take_ (i := 3) (N := some 133) (v := ?_) (a' := ?_) #[true, true, true, true, true, false, false, true, false, true, false, false, false, false] rfl rfl (take_ofW HT_.out HW_.out (by kernel_rfl)) (fun _ _ _ h => h) (Or.inl ⟨by rfl, ?_⟩) hHeld ?_ ?_
            rotate_left
            · intro w' s0
              have e := s0.1
              go_simp
              with_reducible rfl
            rotate_left
            · simp only [Act.put, List.setIfInBounds_toArray, List.set_cons_zero, List.set_cons_succ, i64_w, i32_w]
              rfl
            refine take_ (i := 5) (N := some 135) (v := ?_) (a' := ?_) #[true, true, true, true, true, true, false, true, false, true, false, false, false, false] rfl rfl (take_ofW HT_.out HW_.out (by kernel_rfl)) (fun _ _ _ h => h) (Or.inl ⟨by rfl, ?_⟩) hHeld ?_ ?_
            rotate_left
            · intro w' s0
              have e := s0.2.1
              go_simp
              with_reducible rfl
            rotate_left
            · simp only [Act.put, List.setIfInBounds_toArray, List.set_cons_zero, List.set_cons_succ, i64_w, i32_w]
              rfl
            refine take_ (i := 8) (N := some 138) (v := ?_) (a' := ?_) #[true, true, true, true, true, true, false, true, true, true, false, false, false, false] rfl rfl (take_ofW HT_.out HW_.out (by kernel_rfl)) (fun _ _ _ h => h) (Or.inl ⟨by rfl, ?_⟩) hHeld ?_ ?_
            rotate_left
            · intro w' s0
              have e := s0.2.2.1
              go_simp
              with_reducible rfl
            rotate_left
            · simp only [Act.put, List.setIfInBounds_toArray, List.set_cons_zero, List.set_cons_succ, i64_w, i32_w]
              rfl
            refine take_ (i := 10) (N := some 140) (v := ?_) (a' := ?_) #[true, true, true, true, true, true, false, true, true, true, true, false, false, false] rfl rfl (take_ofW HT_.out HW_.out (by kernel_rfl)) (fun _ _ _ h => h) (Or.inl ⟨by rfl, ?_⟩) hHeld ?_ ?_
            rotate_left
            · intro w' s0
              have e := s0.2.2.2.1
              go_simp
              with_reducible rfl
            rotate_left
            · simp only [Act.put, List.setIfInBounds_toArray, List.set_cons_zero, List.set_cons_succ, i64_w, i32_w]
              rfl
            refine one_ (i := 6) (N := some 136) #[true, true, true, true, true, true, true, true, true, true, true, false, false, false] rfl rfl (one_of HT_.out (by kernel_rfl)) (by decide) (fun K hK => ?_)
            refine goes_ Try.func34 (by kernel_rfl) rfl #[.int .u64 (a0.toNat : Int), .int .u64 (a1.toNat : Int)] (by rfl) rfl rfl (by (try simp only [List.map_toArray, List.map_cons, List.map_nil]); first | done | rfl) ?_
            with_reducible refine (RefText_x P2 a0 a1 HP2.out _).mono ?_
            rintro e w10 ⟨A5, c5, rfl, hC5, hb⟩
            refine ⟨_, rfl, ?_⟩
            refine hK.out _ _ ⟨(pw_cell_below hb hHeld.1), (pw_cell_below hb hHeld.2.1), (pw_cell_below hb hHeld.2.2.1), (pw_cell_below hb hHeld.2.2.2.1), (Kd.C_below hHeld.2.2.2.2.1 hb), (Kd.C_below hHeld.2.2.2.2.2.1 hb), (below_then hHeld.2.2.2.2.2.2.1 (Below.size hHeld.2.2.2.2.2.2.1) hb), trivial⟩ (fun hHeld => ?_)
            clear hK K
            refine norm_ (a' := ?_) ?_ ?_
            rotate_left
            · show Act.put _ (some 136) _ = _
              simp only [Act.put, List.setIfInBounds_toArray, List.set_cons_zero, List.set_cons_succ, i64_w, i32_w]
              rfl
            refine more_ (S' := fun w' => w'.cell? ⟨w.heap.size, 0, none⟩ = some (.int .u64 (a0.toNat : Int)) ∧ w'.cell? ⟨w.heap.size, 1, none⟩ = some (.int .u64 (a1.toNat : Int)) ∧ w'.cell? ⟨w.heap.size + 1, 0, none⟩ = some (.int .u64 (b0.toNat : Int)) ∧ w'.cell? ⟨w.heap.size + 1, 1, none⟩ = some (.int .u64 (b1.toNat : Int)) ∧ Kb.C w' A3 z0 P0 ∧ Kb.C w' A4 z1 P1 ∧ Below w9.heap.size w9 w' ∧ Kb.C w' A5 17 P2 ∧ True) ⟨hHeld.1, hHeld.2.1, hHeld.2.2.1, hHeld.2.2.2.1, hHeld.2.2.2.2.1, hHeld.2.2.2.2.2.1, hHeld.2.2.2.2.2.2.1, hC5, trivial⟩ (fun _ h => ⟨h.1, h.2.1, h.2.2.1, h.2.2.2.1, h.2.2.2.2.1, h.2.2.2.2.2.1, h.2.2.2.2.2.2.1, trivial⟩) (fun hHeld => ?_)
            refine one_ (i := 11) (N := some 141) #[true, true, true, true, true, true, true, true, true, true, true, true, false, false] rfl rfl (one_of HT_.out (by kernel_rfl)) (by decide) (fun K hK => ?_)
            refine goes_ Try.func34 (by kernel_rfl) rfl #[.int .u64 (b0.toNat : Int), .int .u64 (b1.toNat : Int)] (by rfl) rfl rfl (by (try simp only [List.map_toArray, List.map_cons, List.map_nil]); first | done | rfl) ?_
            with_reducible refine (RefText_x P3 b0 b1 HP3.out _).mono ?_
            rintro e w11 ⟨A6, c6, rfl, hC6, hb⟩
            refine ⟨_, rfl, ?_⟩
            refine hK.out _ _ ⟨(pw_cell_below hb hHeld.1), (pw_cell_below hb hHeld.2.1), (pw_cell_below hb hHeld.2.2.1), (pw_cell_below hb hHeld.2.2.2.1), (Kd.C_below hHeld.2.2.2.2.1 hb), (Kd.C_below hHeld.2.2.2.2.2.1 hb), (below_then hHeld.2.2.2.2.2.2.1 (Below.size hHeld.2.2.2.2.2.2.1) hb), (Kd.C_below hHeld.2.2.2.2.2.2.2.1 hb), trivial⟩ (fun hHeld => ?_)
            clear hK K
            refine norm_ (a' := ?_) ?_ ?_
            rotate_left
            · show Act.put _ (some 141) _ = _
              simp only [Act.put, List.setIfInBounds_toArray, List.set_cons_zero, List.set_cons_succ, i64_w, i32_w]
              rfl
            refine more_ (S' := fun w' => w'.cell? ⟨w.heap.size, 0, none⟩ = some (.int .u64 (a0.toNat : Int)) ∧ w'.cell? ⟨w.heap.size, 1, none⟩ = some (.int .u64 (a1.toNat : Int)) ∧ w'.cell? ⟨w.heap.size + 1, 0, none⟩ = some (.int .u64 (b0.toNat : Int)) ∧ w'.cell? ⟨w.heap.size + 1, 1, none⟩ = some (.int .u64 (b1.toNat : Int)) ∧ Kb.C w' A3 z0 P0 ∧ Kb.C w' A4 z1 P1 ∧ Below w9.heap.size w9 w' ∧ Kb.C w' A5 17 P2 ∧ Kb.C w' A6 17 P3 ∧ True) ⟨hHeld.1, hHeld.2.1, hHeld.2.2.1, hHeld.2.2.2.1, hHeld.2.2.2.2.1, hHeld.2.2.2.2.2.1, hHeld.2.2.2.2.2.2.1, hHeld.2.2.2.2.2.2.2.1, hC6, trivial⟩ (fun _ h => ⟨h.1, h.2.1, h.2.2.1, h.2.2.2.1, h.2.2.2.2.1, h.2.2.2.2.2.1, h.2.2.2.2.2.2.1, h.2.2.2.2.2.2.2.1, trivial⟩) (fun hHeld => ?_)
            refine one_ (i := 12) (N := some 142) #[true, true, true, true, true, true, true, true, true, true, true, true, true, false] rfl rfl (one_of HT_.out (by kernel_rfl)) (by decide) (fun K hK => ?_)
            refine make_ (t := 22) #[.slice A3 z0 c3, .slice A4 z1 c4, .slice A5 17 c5, .slice A6 17 c6] (fun g => .slice (some ⟨g, 0, none⟩) 4 4) (by rfl) rfl ?_ (fun g21 w12 hge21 hbk21 hb => ?_)
            · first | (go_simp; done) | (go_simp; constructor <;> rfl) | (go_simp; rfl) | rfl
            refine hK.out _ _ ⟨(pw_cell_below hb hHeld.1), (pw_cell_below hb hHeld.2.1), (pw_cell_below hb hHeld.2.2.1), (pw_cell_below hb hHeld.2.2.2.1), (Kd.C_below hHeld.2.2.2.2.1 hb), (Kd.C_below hHeld.2.2.2.2.2.1 hb), (below_then hHeld.2.2.2.2.2.2.1 (Below.size hHeld.2.2.2.2.2.2.1) hb), (Kd.C_below hHeld.2.2.2.2.2.2.2.1 hb), (Kd.C_below hHeld.2.2.2.2.2.2.2.2.1 hb), trivial⟩ (fun hHeld => ?_)
            clear hK K
            refine norm_ (a' := ?_) ?_ ?_
            rotate_left
            · show Act.put _ (some 142) _ = _
              simp only [Act.put, List.setIfInBounds_toArray, List.set_cons_zero, List.set_cons_succ, i64_w, i32_w]
              rfl
            refine more_ (S' := fun w' => w'.cell? ⟨w.heap.size, 0, none⟩ = some (.int .u64 (a0.toNat : Int)) ∧ w'.cell? ⟨w.heap.size, 1, none⟩ = some (.int .u64 (a1.toNat : Int)) ∧ w'.cell? ⟨w.heap.size + 1, 0, none⟩ = some (.int .u64 (b0.toNat : Int)) ∧ w'.cell? ⟨w.heap.size + 1, 1, none⟩ = some (.int .u64 (b1.toNat : Int)) ∧ Kb.C w' A3 z0 P0 ∧ Kb.C w' A4 z1 P1 ∧ Below w9.heap.size w9 w' ∧ Kb.C w' A5 17 P2 ∧ Kb.C w' A6 17 P3 ∧ Blk w' g21 22 #[.slice A3 z0 c3, .slice A4 z1 c4, .slice A5 17 c5, .slice A6 17 c6] ∧ True) ⟨hHeld.1, hHeld.2.1, hHeld.2.2.1, hHeld.2.2.2.1, hHeld.2.2.2.2.1, hHeld.2.2.2.2.2.1, hHeld.2.2.2.2.2.2.1, hHeld.2.2.2.2.2.2.2.1, hHeld.2.2.2.2.2.2.2.2.1, hbk21, trivial⟩ (fun _ h => ⟨h.1, h.2.1, h.2.2.1, h.2.2.2.1, h.2.2.2.2.1, h.2.2.2.2.2.1, h.2.2.2.2.2.2.1, h.2.2.2.2.2.2.2.1, h.2.2.2.2.2.2.2.2.1, trivial⟩) (fun hHeld => ?_)
            refine pure_ (i := 13) (N := some 21) (v := ?_) (a' := ?_) #[true, true, true, true, true, true, true, true, true, true, true, true, true, true] rfl rfl (any_of HT_.out (by kernel_rfl)) (fun _ _ _ h => h) (Or.inl ⟨by rfl, ?_⟩) ?_ ?_
            rotate_left
            · intro w'
              go_simp
              with_reducible rfl
            rotate_left
            · simp only [Act.put, List.setIfInBounds_toArray, List.set_cons_zero, List.set_cons_succ, i64_w, i32_w]
              rfl
            refine done_ (done_of HT_.out (by kernel_rfl)) ?_
            obtain ⟨TS, hTS⟩ : ∃ TS, TS = [P0, P1, P2, P3] := ⟨_, rfl⟩
            have HF4 := Aside0.mk (show Four w12 g21 TS by
              obtain ⟨_, _, _, _, k0, k1, _, k2, k3, kb, _⟩ := hHeld
              rw [hTS]
              exact four_mk kb k0 k1 k2 k3 HZ0'.out.symm HZ1'.out.symm (by rw [HP2.out]; exact text_len _ _) (by rw [HP3.out]; exact text_len _ _) HZ0b.out HZ1b.out)
            have H12 := Aside0.mk (below_then H9.out H9.out.size hHeld.2.2.2.2.2.2.1)
            have HTS := Aside0.mk hTS
            clear hTS hHeld HC0 hB9 hB8 hb9
            go_wp2
            go_loopw [22, 23, 24] (fun v i _ wr => ∃ (j : Nat) (b : Bool), j ≤ 4 ∧ i = .int .i64 j ∧ v = .bool b ∧ Aside0 (b = false → ∀ x y, y < x → x < j → ¬ Hit TS x y) ∧ Aside0 (Below w12.heap.size w12 wr)) (fun _ i _ _ => 4 - (intOf i).toNat)
            case atStart => exact ⟨0, false, by decide, rfl, rfl, ⟨fun _ x y _ h => by omega⟩, ⟨Below.refl _ _⟩⟩
            case round =>
              obtain ⟨j, b, hj, rfl, rfl, HNH, HWj⟩ := hrel
              obtain ⟨w13, rfl⟩ : ∃ w13 : World, w13 = wr := ⟨_, rfl⟩
              by_cases hj4 : j < 4
              · have hji : (j : Int) < 4 := by omega
                go_wp2
                go_loopw [22, 24] (fun v i wr => ∃ (k' : Nat) (b : Bool), k' ≤ j ∧ i = .int .i64 k' ∧ v = .bool b ∧ Aside0 (b = false → (∀ x y, y < x → x < j → ¬ Hit TS x y) ∧ ∀ y, y < k' → ¬ Hit TS j y) ∧ Aside0 (Below w12.heap.size w12 wr)) (fun _ i _ => j - (intOf i).toNat)
                case atStart => exact ⟨0, b, Nat.zero_le _, rfl, rfl, ⟨fun h => ⟨HNH.out h, fun y hy => by omega⟩⟩, HWj⟩
                case round =>
                  clear HNH HWj
                  obtain ⟨k', b, hk', rfl, rfl, HNH, HWk⟩ := hrel
                  obtain ⟨w14, rfl⟩ : ∃ w14 : World, w14 = wr := ⟨_, rfl⟩
                  by_cases hkj : k' < j
                  · have hki : (k' : Int) < (j : Int) := by omega
                    have hk4 : (k' : Int) < 4 := by omega
                    obtain ⟨A7, z7, c7, cx7, hC7, hl7, hz7⟩ := HF4.out j hj4
                    obtain ⟨A8, z8, c8, cx8, hC8, hl8, hz8⟩ := HF4.out k' (by omega)
                    obtain ⟨T7, hT7⟩ : ∃ T7, T7 = TS.getD j [] := ⟨_, rfl⟩
                    obtain ⟨T8, hT8⟩ : ∃ T8, T8 = TS.getD k' [] := ⟨_, rfl⟩
                    rw [← hT7] at hC7 hl7
                    rw [← hT8] at hC8 hl8
                    obtain ⟨Z7, hZ7⟩ : ∃ Z7, Z7 = sum T7 := ⟨_, rfl⟩
                    obtain ⟨Z8, hZ8⟩ : ∃ Z8, Z8 = sum T8 := ⟨_, rfl⟩
                    obtain ⟨q2, hq2⟩ : ∃ q2 : Bool, q2 = (Z7 == Z8) := ⟨_, rfl⟩
                    have heq78 := fun w => (eq32 Z7 Z8 (by rw [hZ7]; exact sum_len _) (by rw [hZ8]; exact sum_len _) w).trans (by rw [← hq2])
                    have HT7 := Aside0.mk hT7
                    have HT8 := Aside0.mk hT8
                    have HZ7 := Aside0.mk hZ7
                    have HZ8 := Aside0.mk hZ8
                    have HQ2 := Aside0.mk hq2
                    have HX7 := Aside0.mk (pw_cell_below HWk.out cx7)
                    have HX8 := Aside0.mk (pw_cell_below HWk.out cx8)
                    have HC7 := Aside0.mk (Kd.C_below hC7 HWk.out)
                    have HC8 := Aside0.mk (Kd.C_below hC8 HWk.out)
                    have HL7 := Aside0.mk hl7
                    have HL8 := Aside0.mk hl8
                    clear hT7 hT8 hZ7 hZ8 hq2 cx7 cx8 hC7 hC8 hl7 hl8
                    cases b with
                    | true =>
                      go_wp2
                      refine start_ (n := 28) (S := fun w' => True) (ds := []) #[false, false, false, false, false, false, false, false, false, false, false, false, false, false, false, false, false, false, false, false, false, false, false, false, false, false, false, false] (by kernel_rfl) rfl rfl trivial (fun hHeld => ?_)
                      refine with_tabW f8_r29.tab29 f8_r29.bits29 (fun HT_ HW_ => ?_)
                      generalize hdr : w14.drew = w15; have HWd := Aside0.mk (show Below w12.heap.size w12 w15 by rw [← hdr]; exact below_drew HWk.out); clear hdr
                      refine pure_ (i := 0) (N := some 152) (v := ?_) (a' := ?_) #[true, false, false, false, false, false, false, false, false, false, false, false, false, false, false, false, false, false, false, false, false, false, false, false, false, false, false, false] rfl rfl (any_of HT_.out (by kernel_rfl)) (fun _ _ _ h => h) (Or.inl ⟨by rfl, ?_⟩) ?_ ?_
                      rotate_left
                      · intro w'
                        go_simp
                        with_reducible rfl
                      rotate_left
                      · simp only [Act.put, List.setIfInBounds_toArray, List.set_cons_zero, List.set_cons_succ, i64_w, i32_w]
                        rfl
                      refine pure_ (i := 1) (N := some 153) (v := ?_) (a' := ?_) #[true, true, false, false, false, false, false, false, false, false, false, false, false, false, false, false, false, false, false, false, false, false, false, false, false, false, false, false] rfl rfl (any_of HT_.out (by kernel_rfl)) (fun _ _ _ h => h) (Or.inl ⟨by rfl, ?_⟩) ?_ ?_
                      rotate_left
                      · intro w'
                        go_simp
                        with_reducible rfl
                      rotate_left
                      · simp only [Act.put, List.setIfInBounds_toArray, List.set_cons_zero, List.set_cons_succ, i64_w, i32_w]
                        rfl
                      refine pure_ (i := 2) (N := some 154) (v := undef) (a' := ?_) #[true, true, true, false, false, false, false, false, false, false, false, false, false, false, false, false, false, false, false, false, false, false, false, false, false, false, false, false] rfl rfl (any_of HT_.out (by kernel_rfl)) (fun _ _ _ h => h) (Or.inr ⟨by rfl, rfl⟩) ?_ ?_
                      rotate_left
                      · simp only [Act.put, List.setIfInBounds_toArray, List.set_cons_zero, List.set_cons_succ, i64_w, i32_w]
                        rfl
                      refine pure_ (i := 3) (N := some 155) (v := undef) (a' := ?_) #[true, true, true, true, false, false, false, false, false, false, false, false, false, false, false, false, false, false, false, false, false, false, false, false, false, false, false, false] rfl rfl (any_of HT_.out (by kernel_rfl)) (fun _ _ _ h => h) (Or.inr ⟨by rfl, rfl⟩) ?_ ?_
                      rotate_left
                      · simp only [Act.put, List.setIfInBounds_toArray, List.set_cons_zero, List.set_cons_succ, i64_w, i32_w]
                        rfl
                      refine pure_ (i := 4) (N := some 156) (v := undef) (a' := ?_) #[true, true, true, true, true, false, false, false, false, false, false, false, false, false, false, false, false, false, false, false, false, false, false, false, false, false, false, false] rfl rfl (any_of HT_.out (by kernel_rfl)) (fun _ _ _ h => h) (Or.inr ⟨by rfl, rfl⟩) ?_ ?_
                      rotate_left
                      · simp only [Act.put, List.setIfInBounds_toArray, List.set_cons_zero, List.set_cons_succ, i64_w, i32_w]
                        rfl
                      refine pure_ (i := 5) (N := some 157) (v := undef) (a' := ?_) #[true, true, true, true, true, true, false, false, false, false, false, false, false, false, false, false, false, false, false, false, false, false, false, false, false, false, false, false] rfl rfl (any_of HT_.out (by kernel_rfl)) (fun _ _ _ h => h) (Or.inr ⟨by rfl, rfl⟩) ?_ ?_
                      rotate_left
                      · simp only [Act.put, List.setIfInBounds_toArray, List.set_cons_zero, List.set_cons_succ, i64_w, i32_w]
                        rfl
                      refine pure_ (i := 6) (N := some 158) (v := undef) (a' := ?_) #[true, true, true, true, true, true, true, false, false, false, false, false, false, false, false, false, false, false, false, false, false, false, false, false, false, false, false, false] rfl rfl (any_of HT_.out (by kernel_rfl)) (fun _ _ _ h => h) (Or.inr ⟨by rfl, rfl⟩) ?_ ?_
                      rotate_left
                      · simp only [Act.put, List.setIfInBounds_toArray, List.set_cons_zero, List.set_cons_succ, i64_w, i32_w]
                        rfl
                      refine pure_ (i := 7) (N := some 159) (v := undef) (a' := ?_) #[true, true, true, true, true, true, true, true, false, false, false, false, false, false, false, false, false, false, false, false, false, false, false, false, false, false, false, false] rfl rfl (any_of HT_.out (by kernel_rfl)) (fun _ _ _ h => h) (Or.inr ⟨by rfl, rfl⟩) ?_ ?_
                      rotate_left
                      · simp only [Act.put, List.setIfInBounds_toArray, List.set_cons_zero, List.set_cons_succ, i64_w, i32_w]
                        rfl
                      refine pure_ (i := 8) (N := some 160) (v := undef) (a' := ?_) #[true, true, true, true, true, true, true, true, true, false, false, false, false, false, false, false, false, false, false, false, false, false, false, false, false, false, false, false] rfl rfl (any_of HT_.out (by kernel_rfl)) (fun _ _ _ h => h) (Or.inr ⟨by rfl, rfl⟩) ?_ ?_
                      rotate_left
                      · simp only [Act.put, List.setIfInBounds_toArray, List.set_cons_zero, List.set_cons_succ, i64_w, i32_w]
                        rfl
                      refine pure_ (i := 9) (N := some 161) (v := undef) (a' := ?_) #[true, true, true, true, true, true, true, true, true, true, false, false, false, false, false, false, false, false, false, false, false, false, false, false, false, false, false, false] rfl rfl (any_of HT_.out (by kernel_rfl)) (fun _ _ _ h => h) (Or.inr ⟨by rfl, rfl⟩) ?_ ?_
                      rotate_left
                      · simp only [Act.put, List.setIfInBounds_toArray, List.set_cons_zero, List.set_cons_succ, i64_w, i32_w]
                        rfl
                      refine pure_ (i := 10) (N := some 162) (v := undef) (a' := ?_) #[true, true, true, true, true, true, true, true, true, true, true, false, false, false, false, false, false, false, false, false, false, false, false, false, false, false, false, false] rfl rfl (any_of HT_.out (by kernel_rfl)) (fun _ _ _ h => h) (Or.inr ⟨by rfl, rfl⟩) ?_ ?_
                      rotate_left
                      · simp only [Act.put, List.setIfInBounds_toArray, List.set_cons_zero, List.set_cons_succ, i64_w, i32_w]
                        rfl
                      refine pure_ (i := 11) (N := some 163) (v := undef) (a' := ?_) #[true, true, true, true, true, true, true, true, true, true, true, true, false, false, false, false, false, false, false, false, false, false, false, false, false, false, false, false] rfl rfl (any_of HT_.out (by kernel_rfl)) (fun _ _ _ h => h) (Or.inr ⟨by rfl, rfl⟩) ?_ ?_
                      rotate_left
                      · simp only [Act.put, List.setIfInBounds_toArray, List.set_cons_zero, List.set_cons_succ, i64_w, i32_w]
                        rfl
                      refine pure_ (i := 12) (N := some 164) (v := undef) (a' := ?_) #[true, true, true, true, true, true, true, true, true, true, true, true, true, false, false, false, false, false, false, false, false, false, false, false, false, false, false, false] rfl rfl (any_of HT_.out (by kernel_rfl)) (fun _ _ _ h => h) (Or.inr ⟨by rfl, rfl⟩) ?_ ?_
                      rotate_left
                      · simp only [Act.put, List.setIfInBounds_toArray, List.set_cons_zero, List.set_cons_succ, i64_w, i32_w]
                        rfl
                      refine pure_ (i := 13) (N := some 165) (v := undef) (a' := ?_) #[true, true, true, true, true, true, true, true, true, true, true, true, true, true, false, false, false, false, false, false, false, false, false, false, false, false, false, false] rfl rfl (any_of HT_.out (by kernel_rfl)) (fun _ _ _ h => h) (Or.inr ⟨by rfl, rfl⟩) ?_ ?_
                      rotate_left
                      · simp only [Act.put, List.setIfInBounds_toArray, List.set_cons_zero, List.set_cons_succ, i64_w, i32_w]
                        rfl
                      refine pure_ (i := 14) (N := some 166) (v := undef) (a' := ?_) #[true, true, true, true, true, true, true, true, true, true, true, true, true, true, true, false, false, false, false, false, false, false, false, false, false, false, false, false] rfl rfl (any_of HT_.out (by kernel_rfl)) (fun _ _ _ h => h) (Or.inr ⟨by rfl, rfl⟩) ?_ ?_
                      rotate_left
                      · simp only [Act.put, List.setIfInBounds_toArray, List.set_cons_zero, List.set_cons_succ, i64_w, i32_w]
                        rfl
                      refine pure_ (i := 15) (N := some 167) (v := undef) (a' := ?_) #[true, true, true, true, true, true, true, true, true, true, true, true, true, true, true, true, false, false, false, false, false, false, false, false, false, false, false, false] rfl rfl (any_of HT_.out (by kernel_rfl)) (fun _ _ _ h => h) (Or.inr ⟨by rfl, rfl⟩) ?_ ?_
                      rotate_left
                      · simp only [Act.put, List.setIfInBounds_toArray, List.set_cons_zero, List.set_cons_succ, i64_w, i32_w]
                        rfl
                      refine pure_ (i := 16) (N := some 168) (v := undef) (a' := ?_) #[true, true, true, true, true, true, true, true, true, true, true, true, true, true, true, true, true, false, false, false, false, false, false, false, false, false, false, false] rfl rfl (any_of HT_.out (by kernel_rfl)) (fun _ _ _ h => h) (Or.inr ⟨by rfl, rfl⟩) ?_ ?_
                      rotate_left
                      · simp only [Act.put, List.setIfInBounds_toArray, List.set_cons_zero, List.set_cons_succ, i64_w, i32_w]
                        rfl
                      refine pure_ (i := 17) (N := some 169) (v := undef) (a' := ?_) #[true, true, true, true, true, true, true, true, true, true, true, true, true, true, true, true, true, true, false, false, false, false, false, false, false, false, false, false] rfl rfl (any_of HT_.out (by kernel_rfl)) (fun _ _ _ h => h) (Or.inr ⟨by rfl, rfl⟩) ?_ ?_
                      rotate_left
                      · simp only [Act.put, List.setIfInBounds_toArray, List.set_cons_zero, List.set_cons_succ, i64_w, i32_w]
                        rfl
                      refine pure_ (i := 18) (N := some 170) (v := undef) (a' := ?_) #[true, true, true, true, true, true, true, true, true, true, true, true, true, true, true, true, true, true, true, false, false, false, false, false, false, false, false, false] rfl rfl (any_of HT_.out (by kernel_rfl)) (fun _ _ _ h => h) (Or.inr ⟨by rfl, rfl⟩) ?_ ?_
                      rotate_left
                      · simp only [Act.put, List.setIfInBounds_toArray, List.set_cons_zero, List.set_cons_succ, i64_w, i32_w]
                        rfl
                      refine pure_ (i := 19) (N := some 171) (v := undef) (a' := ?_) #[true, true, true, true, true, true, true, true, true, true, true, true, true, true, true, true, true, true, true, true, false, false, false, false, false, false, false, false] rfl rfl (any_of HT_.out (by kernel_rfl)) (fun _ _ _ h => h) (Or.inr ⟨by rfl, rfl⟩) ?_ ?_
                      rotate_left
                      · simp only [Act.put, List.setIfInBounds_toArray, List.set_cons_zero, List.set_cons_succ, i64_w, i32_w]
                        rfl
                      refine pure_ (i := 20) (N := some 172) (v := undef) (a' := ?_) #[true, true, true, true, true, true, true, true, true, true, true, true, true, true, true, true, true, true, true, true, true, false, false, false, false, false, false, false] rfl rfl (any_of HT_.out (by kernel_rfl)) (fun _ _ _ h => h) (Or.inr ⟨by rfl, rfl⟩) ?_ ?_
                      rotate_left
                      · simp only [Act.put, List.setIfInBounds_toArray, List.set_cons_zero, List.set_cons_succ, i64_w, i32_w]
                        rfl
                      refine pure_ (i := 21) (N := some 173) (v := undef) (a' := ?_) #[true, true, true, true, true, true, true, true, true, true, true, true, true, true, true, true, true, true, true, true, true, true, false, false, false, false, false, false] rfl rfl (any_of HT_.out (by kernel_rfl)) (fun _ _ _ h => h) (Or.inr ⟨by rfl, rfl⟩) ?_ ?_
                      rotate_left
                      · simp only [Act.put, List.setIfInBounds_toArray, List.set_cons_zero, List.set_cons_succ, i64_w, i32_w]
                        rfl
                      refine pure_ (i := 22) (N := some 174) (v := undef) (a' := ?_) #[true, true, true, true, true, true, true, true, true, true, true, true, true, true, true, true, true, true, true, true, true, true, true, false, false, false, false, false] rfl rfl (any_of HT_.out (by kernel_rfl)) (fun _ _ _ h => h) (Or.inr ⟨by rfl, rfl⟩) ?_ ?_
                      rotate_left
                      · simp only [Act.put, List.setIfInBounds_toArray, List.set_cons_zero, List.set_cons_succ, i64_w, i32_w]
                        rfl
                      refine pure_ (i := 23) (N := some 175) (v := undef) (a' := ?_) #[true, true, true, true, true, true, true, true, true, true, true, true, true, true, true, true, true, true, true, true, true, true, true, true, false, false, false, false] rfl rfl (any_of HT_.out (by kernel_rfl)) (fun _ _ _ h => h) (Or.inr ⟨by rfl, rfl⟩) ?_ ?_
                      rotate_left
                      · simp only [Act.put, List.setIfInBounds_toArray, List.set_cons_zero, List.set_cons_succ, i64_w, i32_w]
                        rfl
                      refine pure_ (i := 24) (N := some 176) (v := undef) (a' := ?_) #[true, true, true, true, true, true, true, true, true, true, true, true, true, true, true, true, true, true, true, true, true, true, true, true, true, false, false, false] rfl rfl (any_of HT_.out (by kernel_rfl)) (fun _ _ _ h => h) (Or.inr ⟨by rfl, rfl⟩) ?_ ?_
                      rotate_left
                      · simp only [Act.put, List.setIfInBounds_toArray, List.set_cons_zero, List.set_cons_succ, i64_w, i32_w]
                        rfl
                      refine pure_ (i := 25) (N := some 177) (v := undef) (a' := ?_) #[true, true, true, true, true, true, true, true, true, true, true, true, true, true, true, true, true, true, true, true, true, true, true, true, true, true, false, false] rfl rfl (any_of HT_.out (by kernel_rfl)) (fun _ _ _ h => h) (Or.inr ⟨by rfl, rfl⟩) ?_ ?_
                      rotate_left
                      · simp only [Act.put, List.setIfInBounds_toArray, List.set_cons_zero, List.set_cons_succ, i64_w, i32_w]
                        rfl
                      refine pure_ (i := 26) (N := some 178) (v := ?_) (a' := ?_) #[true, true, true, true, true, true, true, true, true, true, true, true, true, true, true, true, true, true, true, true, true, true, true, true, true, true, true, false] rfl rfl (any_of HT_.out (by kernel_rfl)) (fun _ _ _ h => h) (Or.inl ⟨by rfl, ?_⟩) ?_ ?_
                      rotate_left
                      · intro w'
                        go_simp
                        with_reducible rfl
                      rotate_left
                      · simp only [Act.put, List.setIfInBounds_toArray, List.set_cons_zero, List.set_cons_succ, i64_w, i32_w]
                        rfl
                      refine pure_ (i := 27) (N := some 22) (v := ?_) (a' := ?_) #[true, true, true, true, true, true, true, true, true, true, true, true, true, true, true, true, true, true, true, true, true, true, true, true, true, true, true, true] rfl rfl (any_of HT_.out (by kernel_rfl)) (fun _ _ _ h => h) (Or.inl ⟨by rfl, ?_⟩) ?_ ?_
                      rotate_left
                      · intro w'
                        go_simp
                        with_reducible rfl
                      rotate_left
                      · simp only [Act.put, List.setIfInBounds_toArray, List.set_cons_zero, List.set_cons_succ, i64_w, i32_w]
                        rfl
                      refine done_ (done_of HT_.out (by kernel_rfl)) ?_
                      clear hHeld
                      go_wp2
                      go_roundw
                      case rel => exact ⟨k' + 1, true, by omega, by go_num, rfl, ⟨fun h => by cases h⟩, HWd⟩
                      case measure => simp [intOf]; omega
                    | false =>
                      obtain ⟨e, he⟩ : ∃ e : Bool, ((strOf T7).toList == (strOf T8).toList) = e := ⟨_, rfl⟩
                      have HEE := Aside0.mk (show (e = true → T7 = T8) ∧ (e = false → T7 ≠ T8) from ⟨fun h => Classical.byContradiction fun hne => by rw [← he, seq_false hne] at h; exact absurd h (by decide), fun h hxy => by rw [← he, seq_true hxy] at h; exact absurd h (by decide)⟩)
                      obtain ⟨HN1, HN2⟩ := HNH.out rfl
                      replace HN1 := Aside0.mk HN1
                      replace HN2 := Aside0.mk HN2
                      cases e with
                      | true =>
                        go_wp2
                        refine start_ (n := 28) (S := fun w' => w'.cell? ⟨g21, j, none⟩ = some (.slice A7 z7 c7) ∧ w'.cell? ⟨g21, k', none⟩ = some (.slice A8 z8 c8) ∧ Kb.C w' A7 z7 T7 ∧ Kb.C w' A8 z8 T8 ∧ True) (ds := []) #[false, false, false, false, false, false, false, false, false, false, false, false, false, false, false, false, false, false, false, false, false, false, false, false, false, false, false, false] (by kernel_rfl) rfl rfl ⟨HX7.out, HX8.out, HC7.out, HC8.out, trivial⟩ (fun hHeld => ?_)
                        refine with_tabW f8_r29.tab29 f8_r29.bits29 (fun HT_ HW_ => ?_)
                        generalize hdr : w14.drew = w15 at hHeld ⊢; have HWd := Aside0.mk (show Below w12.heap.size w12 w15 by rw [← hdr]; exact below_drew HWk.out); clear hdr
                        refine pure_ (i := 0) (N := some 152) (v := ?_) (a' := ?_) #[true, false, false, false, false, false, false, false, false, false, false, false, false, false, false, false, false, false, false, false, false, false, false, false, false, false, false, false] rfl rfl (any_of HT_.out (by kernel_rfl)) (fun _ _ _ h => h) (Or.inl ⟨by rfl, ?_⟩) ?_ ?_
                        rotate_left
                        · intro w'
                          go_simp
                          with_reducible rfl
                        rotate_left
                        · simp only [Act.put, List.setIfInBounds_toArray, List.set_cons_zero, List.set_cons_succ, i64_w, i32_w]
                          rfl
                        refine pure_ (i := 1) (N := some 153) (v := ?_) (a' := ?_) #[true, true, false, false, false, false, false, false, false, false, false, false, false, false, false, false, false, false, false, false, false, false, false, false, false, false, false, false] rfl rfl (any_of HT_.out (by kernel_rfl)) (fun _ _ _ h => h) (Or.inl ⟨by rfl, ?_⟩) ?_ ?_
                        rotate_left
                        · intro w'
                          go_simp
                          with_reducible rfl
                        rotate_left
                        · simp only [Act.put, List.setIfInBounds_toArray, List.set_cons_zero, List.set_cons_succ, i64_w, i32_w]
                          rfl
                        refine pure_ (i := 2) (N := some 154) (v := ?_) (a' := ?_) #[true, true, true, false, false, false, false, false, false, false, false, false, false, false, false, false, false, false, false, false, false, false, false, false, false, false, false, false] rfl rfl (any_of HT_.out (by kernel_rfl)) (fun _ _ _ h => h) (Or.inl ⟨by rfl, ?_⟩) ?_ ?_
                        rotate_left
                        · intro w'
                          go_simp
                          with_reducible rfl
                        rotate_left
                        · simp only [Act.put, List.setIfInBounds_toArray, List.set_cons_zero, List.set_cons_succ, i64_w, i32_w]
                          rfl
                        refine pure_ (i := 3) (N := some 155) (v := ?_) (a' := ?_) #[true, true, true, true, false, false, false, false, false, false, false, false, false, false, false, false, false, false, false, false, false, false, false, false, false, false, false, false] rfl rfl (any_of HT_.out (by kernel_rfl)) (fun _ _ _ h => h) (Or.inl ⟨by rfl, ?_⟩) ?_ ?_
                        rotate_left
                        · intro w'
                          go_simp
                          with_reducible rfl
                        rotate_left
                        · simp only [Act.put, List.setIfInBounds_toArray, List.set_cons_zero, List.set_cons_succ, i64_w, i32_w]
                          rfl
                        refine pure_ (i := 4) (N := some 156) (v := ?_) (a' := ?_) #[true, true, true, true, true, false, false, false, false, false, false, false, false, false, false, false, false, false, false, false, false, false, false, false, false, false, false, false] rfl rfl (any_of HT_.out (by kernel_rfl)) (fun _ _ _ h => h) (Or.inl ⟨by rfl, ?_⟩) ?_ ?_
                        rotate_left
                        · intro w'
                          go_simp
                          with_reducible rfl
                        rotate_left
                        · simp only [Act.put, List.setIfInBounds_toArray, List.set_cons_zero, List.set_cons_succ, i64_w, i32_w]
                          rfl
                        refine pure_ (i := 7) (N := some 159) (v := ?_) (a' := ?_) #[true, true, true, true, true, false, false, true, false, false, false, false, false, false, false, false, false, false, false, false, false, false, false, false, false, false, false, false] rfl rfl (any_of HT_.out (by kernel_rfl)) (fun _ _ _ h => h) (Or.inl ⟨by rfl, ?_⟩) ?_ ?_
                        rotate_left
                        · intro w'
                          go_simp
                          with_reducible rfl
                        rotate_left
                        · simp only [Act.put, List.setIfInBounds_toArray, List.set_cons_zero, List.set_cons_succ, i64_w, i32_w]
                          rfl
                        refine pure_ (i := 8) (N := some 160) (v := ?_) (a' := ?_) #[true, true, true, true, true, false, false, true, true, false, false, false, false, false, false, false, false, false, false, false, false, false, false, false, false, false, false, false] rfl rfl (any_of HT_.out (by kernel_rfl)) (fun _ _ _ h => h) (Or.inl ⟨by rfl, ?_⟩) ?_ ?_
                        rotate_left
                        · intro w'
                          go_simp
                          with_reducible rfl
                        rotate_left
                        · simp only [Act.put, List.setIfInBounds_toArray, List.set_cons_zero, List.set_cons_succ, i64_w, i32_w]
                          rfl
                        refine pure_ (i := 9) (N := some 161) (v := ?_) (a' := ?_) #[true, true, true, true, true, false, false, true, true, true, false, false, false, false, false, false, false, false, false, false, false, false, false, false, false, false, false, false] rfl rfl (any_of HT_.out (by kernel_rfl)) (fun _ _ _ h => h) (Or.inl ⟨by rfl, ?_⟩) ?_ ?_
                        rotate_left
                        · intro w'
                          go_simp
                          with_reducible rfl
                        rotate_left
                        · simp only [Act.put, List.setIfInBounds_toArray, List.set_cons_zero, List.set_cons_succ, i64_w, i32_w]
                          rfl
                        refine take_ (i := 5) (N := some 157) (v := ?_) (a' := ?_) #[true, true, true, true, true, true, false, true, true, true, false, false, false, false, false, false, false, false, false, false, false, false, false, false, false, false, false, false] rfl rfl (take_ofW HT_.out HW_.out (by kernel_rfl)) (fun _ _ _ h => h) (Or.inl ⟨by rfl, ?_⟩) hHeld ?_ ?_
                        rotate_left
                        · intro w' s0
                          have e := s0.1
                          go_simp
                          with_reducible rfl
                        rotate_left
                        · simp only [Act.put, List.setIfInBounds_toArray, List.set_cons_zero, List.set_cons_succ, i64_w, i32_w]
                          rfl
                        refine take_ (i := 6) (N := some 158) (v := ?_) (a' := ?_) #[true, true, true, true, true, true, true, true, true, true, false, false, false, false, false, false, false, false, false, false, false, false, false, false, false, false, false, false] rfl rfl (take_ofW HT_.out HW_.out (by kernel_rfl)) (fun _ _ _ h => h) (Or.inl ⟨by rfl, ?_⟩) hHeld ?_ ?_
                        rotate_left
                        · intro w' s0
                          have e := str_of (c := c7) s0.2.2.1
                          go_simp
                          with_reducible rfl
                        rotate_left
                        · simp only [Act.put, List.setIfInBounds_toArray, List.set_cons_zero, List.set_cons_succ, i64_w, i32_w]
                          rfl
                        refine take_ (i := 10) (N := some 162) (v := ?_) (a' := ?_) #[true, true, true, true, true, true, true, true, true, true, true, false, false, false, false, false, false, false, false, false, false, false, false, false, false, false, false, false] rfl rfl (take_ofW HT_.out HW_.out (by kernel_rfl)) (fun _ _ _ h => h) (Or.inl ⟨by rfl, ?_⟩) hHeld ?_ ?_
                        rotate_left
                        · intro w' s0
                          have e := s0.2.1
                          go_simp
                          with_reducible rfl
                        rotate_left
                        · simp only [Act.put, List.setIfInBounds_toArray, List.set_cons_zero, List.set_cons_succ, i64_w, i32_w]
                          rfl
                        refine take_ (i := 11) (N := some 163) (v := ?_) (a' := ?_) #[true, true, true, true, true, true, true, true, true, true, true, true, false, false, false, false, false, false, false, false, false, false, false, false, false, false, false, false] rfl rfl (take_ofW HT_.out HW_.out (by kernel_rfl)) (fun _ _ _ h => h) (Or.inl ⟨by rfl, ?_⟩) hHeld ?_ ?_
                        rotate_left
                        · intro w' s0
                          have e := str_of (c := c8) s0.2.2.2.1
                          go_simp
                          with_reducible rfl
                        rotate_left
                        · simp only [Act.put, List.setIfInBounds_toArray, List.set_cons_zero, List.set_cons_succ, i64_w, i32_w]
                          rfl
                        refine pure_ (i := 12) (N := some 164) (v := ?_) (a' := ?_) #[true, true, true, true, true, true, true, true, true, true, true, true, true, false, false, false, false, false, false, false, false, false, false, false, false, false, false, false] rfl rfl (any_of HT_.out (by kernel_rfl)) (fun _ _ _ h => h) (Or.inl ⟨by rfl, ?_⟩) ?_ ?_
                        rotate_left
                        · intro w'
                          go_simp
                          with_reducible rfl
                        rotate_left
                        · simp only [Act.put, List.setIfInBounds_toArray, List.set_cons_zero, List.set_cons_succ, i64_w, i32_w]
                          rfl
                        refine pure_ (i := 13) (N := some 165) (v := ?_) (a' := ?_) #[true, true, true, true, true, true, true, true, true, true, true, true, true, true, false, false, false, false, false, false, false, false, false, false, false, false, false, false] rfl rfl (any_of HT_.out (by kernel_rfl)) (fun _ _ _ h => h) (Or.inl ⟨by rfl, ?_⟩) ?_ ?_
                        rotate_left
                        · intro w'
                          go_simp
                          with_reducible rfl
                        rotate_left
                        · simp only [Act.put, List.setIfInBounds_toArray, List.set_cons_zero, List.set_cons_succ, i64_w, i32_w]
                          rfl
                        refine pure_ (i := 14) (N := some 166) (v := undef) (a' := ?_) #[true, true, true, true, true, true, true, true, true, true, true, true, true, true, true, false, false, false, false, false, false, false, false, false, false, false, false, false] rfl rfl (any_of HT_.out (by kernel_rfl)) (fun _ _ _ h => h) (Or.inr ⟨by rfl, rfl⟩) ?_ ?_
                        rotate_left
                        · simp only [Act.put, List.setIfInBounds_toArray, List.set_cons_zero, List.set_cons_succ, i64_w, i32_w]
                          rfl
                        refine pure_ (i := 15) (N := some 167) (v := undef) (a' := ?_) #[true, true, true, true, true, true, true, true, true, true, true, true, true, true, true, true, false, false, false, false, false, false, false, false, false, false, false, false] rfl rfl (any_of HT_.out (by kernel_rfl)) (fun _ _ _ h => h) (Or.inr ⟨by rfl, rfl⟩) ?_ ?_
                        rotate_left
                        · simp only [Act.put, List.setIfInBounds_toArray, List.set_cons_zero, List.set_cons_succ, i64_w, i32_w]
                          rfl
                        refine pure_ (i := 16) (N := some 168) (v := undef) (a' := ?_) #[true, true, true, true, true, true, true, true, true, true, true, true, true, true, true, true, true, false, false, false, false, false, false, false, false, false, false, false] rfl rfl (any_of HT_.out (by kernel_rfl)) (fun _ _ _ h => h) (Or.inr ⟨by rfl, rfl⟩) ?_ ?_
                        rotate_left
                        · simp only [Act.put, List.setIfInBounds_toArray, List.set_cons_zero, List.set_cons_succ, i64_w, i32_w]
                          rfl
                        refine pure_ (i := 17) (N := some 169) (v := undef) (a' := ?_) #[true, true, true, true, true, true, true, true, true, true, true, true, true, true, true, true, true, true, false, false, false, false, false, false, false, false, false, false] rfl rfl (any_of HT_.out (by kernel_rfl)) (fun _ _ _ h => h) (Or.inr ⟨by rfl, rfl⟩) ?_ ?_
                        rotate_left
                        · simp only [Act.put, List.setIfInBounds_toArray, List.set_cons_zero, List.set_cons_succ, i64_w, i32_w]
                          rfl
                        refine pure_ (i := 18) (N := some 170) (v := undef) (a' := ?_) #[true, true, true, true, true, true, true, true, true, true, true, true, true, true, true, true, true, true, true, false, false, false, false, false, false, false, false, false] rfl rfl (any_of HT_.out (by kernel_rfl)) (fun _ _ _ h => h) (Or.inr ⟨by rfl, rfl⟩) ?_ ?_
                        rotate_left
                        · simp only [Act.put, List.setIfInBounds_toArray, List.set_cons_zero, List.set_cons_succ, i64_w, i32_w]
                          rfl
                        refine pure_ (i := 19) (N := some 171) (v := undef) (a' := ?_) #[true, true, true, true, true, true, true, true, true, true, true, true, true, true, true, true, true, true, true, true, false, false, false, false, false, false, false, false] rfl rfl (any_of HT_.out (by kernel_rfl)) (fun _ _ _ h => h) (Or.inr ⟨by rfl, rfl⟩) ?_ ?_
                        rotate_left
                        · simp only [Act.put, List.setIfInBounds_toArray, List.set_cons_zero, List.set_cons_succ, i64_w, i32_w]
                          rfl
                        refine pure_ (i := 20) (N := some 172) (v := undef) (a' := ?_) #[true, true, true, true, true, true, true, true, true, true, true, true, true, true, true, true, true, true, true, true, true, false, false, false, false, false, false, false] rfl rfl (any_of HT_.out (by kernel_rfl)) (fun _ _ _ h => h) (Or.inr ⟨by rfl, rfl⟩) ?_ ?_
                        rotate_left
                        · simp only [Act.put, List.setIfInBounds_toArray, List.set_cons_zero, List.set_cons_succ, i64_w, i32_w]
                          rfl
                        refine pure_ (i := 21) (N := some 173) (v := undef) (a' := ?_) #[true, true, true, true, true, true, true, true, true, true, true, true, true, true, true, true, true, true, true, true, true, true, false, false, false, false, false, false] rfl rfl (any_of HT_.out (by kernel_rfl)) (fun _ _ _ h => h) (Or.inr ⟨by rfl, rfl⟩) ?_ ?_
                        rotate_left
                        · simp only [Act.put, List.setIfInBounds_toArray, List.set_cons_zero, List.set_cons_succ, i64_w, i32_w]
                          rfl
                        refine pure_ (i := 22) (N := some 174) (v := undef) (a' := ?_) #[true, true, true, true, true, true, true, true, true, true, true, true, true, true, true, true, true, true, true, true, true, true, true, false, false, false, false, false] rfl rfl (any_of HT_.out (by kernel_rfl)) (fun _ _ _ h => h) (Or.inr ⟨by rfl, rfl⟩) ?_ ?_
                        rotate_left
                        · simp only [Act.put, List.setIfInBounds_toArray, List.set_cons_zero, List.set_cons_succ, i64_w, i32_w]
                          rfl
                        refine pure_ (i := 23) (N := some 175) (v := undef) (a' := ?_) #[true, true, true, true, true, true, true, true, true, true, true, true, true, true, true, true, true, true, true, true, true, true, true, true, false, false, false, false] rfl rfl (any_of HT_.out (by kernel_rfl)) (fun _ _ _ h => h) (Or.inr ⟨by rfl, rfl⟩) ?_ ?_
                        rotate_left
                        · simp only [Act.put, List.setIfInBounds_toArray, List.set_cons_zero, List.set_cons_succ, i64_w, i32_w]
                          rfl
                        refine pure_ (i := 24) (N := some 176) (v := undef) (a' := ?_) #[true, true, true, true, true, true, true, true, true, true, true, true, true, true, true, true, true, true, true, true, true, true, true, true, true, false, false, false] rfl rfl (any_of HT_.out (by kernel_rfl)) (fun _ _ _ h => h) (Or.inr ⟨by rfl, rfl⟩) ?_ ?_
                        rotate_left
                        · simp only [Act.put, List.setIfInBounds_toArray, List.set_cons_zero, List.set_cons_succ, i64_w, i32_w]
                          rfl
                        refine pure_ (i := 25) (N := some 177) (v := ?_) (a' := ?_) #[true, true, true, true, true, true, true, true, true, true, true, true, true, true, true, true, true, true, true, true, true, true, true, true, true, true, false, false] rfl rfl (any_of HT_.out (by kernel_rfl)) (fun _ _ _ h => h) (Or.inl ⟨by rfl, ?_⟩) ?_ ?_
                        rotate_left
                        · intro w'
                          go_simp
                          with_reducible rfl
                        rotate_left
                        · simp only [Act.put, List.setIfInBounds_toArray, List.set_cons_zero, List.set_cons_succ, i64_w, i32_w]
                          rfl
                        refine pure_ (i := 26) (N := some 178) (v := ?_) (a' := ?_) #[true, true, true, true, true, true, true, true, true, true, true, true, true, true, true, true, true, true, true, true, true, true, true, true, true, true, true, false] rfl rfl (any_of HT_.out (by kernel_rfl)) (fun _ _ _ h => h) (Or.inl ⟨by rfl, ?_⟩) ?_ ?_
                        rotate_left
                        · intro w'
                          go_simp
                          with_reducible rfl
                        rotate_left
                        · simp only [Act.put, List.setIfInBounds_toArray, List.set_cons_zero, List.set_cons_succ, i64_w, i32_w]
                          rfl
                        refine pure_ (i := 27) (N := some 22) (v := ?_) (a' := ?_) #[true, true, true, true, true, true, true, true, true, true, true, true, true, true, true, true, true, true, true, true, true, true, true, true, true, true, true, true] rfl rfl (any_of HT_.out (by kernel_rfl)) (fun _ _ _ h => h) (Or.inl ⟨by rfl, ?_⟩) ?_ ?_
                        rotate_left
                        · intro w'
                          go_simp
                          with_reducible rfl
                        rotate_left
                        · simp only [Act.put, List.setIfInBounds_toArray, List.set_cons_zero, List.set_cons_succ, i64_w, i32_w]
                          rfl
                        refine done_ (done_of HT_.out (by kernel_rfl)) ?_
                        clear hHeld
                        go_wp2
                        go_roundw
                        case rel => exact ⟨k' + 1, false, by omega, by go_num, rfl, ⟨fun _ => ⟨HN1.out, fun y hy => by
                          rcases Nat.lt_or_ge y k' with h | h
                          · exact HN2.out y h
                          · rw [show y = k' by omega]; exact fun hh => hh.1 (by rw [← HT7.out, ← HT8.out]; exact HEE.out.1 (by trivial))⟩⟩, HWd⟩
                        case measure => simp [intOf]; omega
                      | false =>
                        go_wp2
                        refine start_ (n := 28) (S := fun w' => w'.cell? ⟨g21, j, none⟩ = some (.slice A7 z7 c7) ∧ w'.cell? ⟨g21, k', none⟩ = some (.slice A8 z8 c8) ∧ Kb.C w' A7 z7 T7 ∧ Kb.C w' A8 z8 T8 ∧ Below w12.heap.size w12 w' ∧ True) (ds := []) #[false, false, false, false, false, false, false, false, false, false, false, false, false, false, false, false, false, false, false, false, false, false, false, false, false, false, false, false] (by kernel_rfl) rfl rfl ⟨HX7.out, HX8.out, HC7.out, HC8.out, below_drew HWk.out, trivial⟩ (fun hHeld => ?_)
                        refine with_tabW f8_r29.tab29 f8_r29.bits29 (fun HT_ HW_ => ?_)
                        refine pure_ (i := 0) (N := some 152) (v := ?_) (a' := ?_) #[true, false, false, false, false, false, false, false, false, false, false, false, false, false, false, false, false, false, false, false, false, false, false, false, false, false, false, false] rfl rfl (any_of HT_.out (by kernel_rfl)) (fun _ _ _ h => h) (Or.inl ⟨by rfl, ?_⟩) ?_ ?_
                        rotate_left
                        · intro w'
                          go_simp
                          with_reducible rfl
                        rotate_left
                        · simp only [Act.put, List.setIfInBounds_toArray, List.set_cons_zero, List.set_cons_succ, i64_w, i32_w]
                          rfl
                        refine pure_ (i := 1) (N := some 153) (v := ?_) (a' := ?_) #[true, true, false, false, false, false, false, false, false, false, false, false, false, false, false, false, false, false, false, false, false, false, false, false, false, false, false, false] rfl rfl (any_of HT_.out (by kernel_rfl)) (fun _ _ _ h => h) (Or.inl ⟨by rfl, ?_⟩) ?_ ?_
                        rotate_left
                        · intro w'
                          go_simp
                          with_reducible rfl
                        rotate_left
                        · simp only [Act.put, List.setIfInBounds_toArray, List.set_cons_zero, List.set_cons_succ, i64_w, i32_w]
                          rfl
                        refine pure_ (i := 2) (N := some 154) (v := ?_) (a' := ?_) #[true, true, true, false, false, false, false, false, false, false, false, false, false, false, false, false, false, false, false, false, false, false, false, false, false, false, false, false] rfl rfl (any_of HT_.out (by kernel_rfl)) (fun _ _ _ h => h) (Or.inl ⟨by rfl, ?_⟩) ?_ ?_
                        rotate_left
                        · intro w'
                          go_simp
                          with_reducible rfl
                        rotate_left
                        · simp only [Act.put, List.setIfInBounds_toArray, List.set_cons_zero, List.set_cons_succ, i64_w, i32_w]
                          rfl
                        refine pure_ (i := 3) (N := some 155) (v := ?_) (a' := ?_) #[true, true, true, true, false, false, false, false, false, false, false, false, false, false, false, false, false, false, false, false, false, false, false, false, false, false, false, false] rfl rfl (any_of HT_.out (by kernel_rfl)) (fun _ _ _ h => h) (Or.inl ⟨by rfl, ?_⟩) ?_ ?_
                        rotate_left
                        · intro w'
                          go_simp
                          with_reducible rfl
                        rotate_left
                        · simp only [Act.put, List.setIfInBounds_toArray, List.set_cons_zero, List.set_cons_succ, i64_w, i32_w]
                          rfl
                        refine pure_ (i := 4) (N := some 156) (v := ?_) (a' := ?_) #[true, true, true, true, true, false, false, false, false, false, false, false, false, false, false, false, false, false, false, false, false, false, false, false, false, false, false, false] rfl rfl (any_of HT_.out (by kernel_rfl)) (fun _ _ _ h => h) (Or.inl ⟨by rfl, ?_⟩) ?_ ?_
                        rotate_left
                        · intro w'
                          go_simp
                          with_reducible rfl
                        rotate_left
                        · simp only [Act.put, List.setIfInBounds_toArray, List.set_cons_zero, List.set_cons_succ, i64_w, i32_w]
                          rfl
                        refine pure_ (i := 7) (N := some 159) (v := ?_) (a' := ?_) #[true, true, true, true, true, false, false, true, false, false, false, false, false, false, false, false, false, false, false, false, false, false, false, false, false, false, false, false] rfl rfl (any_of HT_.out (by kernel_rfl)) (fun _ _ _ h => h) (Or.inl ⟨by rfl, ?_⟩) ?_ ?_
                        rotate_left
                        · intro w'
                          go_simp
                          with_reducible rfl
                        rotate_left
                        · simp only [Act.put, List.setIfInBounds_toArray, List.set_cons_zero, List.set_cons_succ, i64_w, i32_w]
                          rfl
                        refine pure_ (i := 8) (N := some 160) (v := ?_) (a' := ?_) #[true, true, true, true, true, false, false, true, true, false, false, false, false, false, false, false, false, false, false, false, false, false, false, false, false, false, false, false] rfl rfl (any_of HT_.out (by kernel_rfl)) (fun _ _ _ h => h) (Or.inl ⟨by rfl, ?_⟩) ?_ ?_
                        rotate_left
                        · intro w'
                          go_simp
                          with_reducible rfl
                        rotate_left
                        · simp only [Act.put, List.setIfInBounds_toArray, List.set_cons_zero, List.set_cons_succ, i64_w, i32_w]
                          rfl
                        refine pure_ (i := 9) (N := some 161) (v := ?_) (a' := ?_) #[true, true, true, true, true, false, false, true, true, true, false, false, false, false, false, false, false, false, false, false, false, false, false, false, false, false, false, false] rfl rfl (any_of HT_.out (by kernel_rfl)) (fun _ _ _ h => h) (Or.inl ⟨by rfl, ?_⟩) ?_ ?_
                        rotate_left
                        · intro w'
                          go_simp
                          with_reducible rfl
                        rotate_left
                        · simp only [Act.put, List.setIfInBounds_toArray, List.set_cons_zero, List.set_cons_succ, i64_w, i32_w]
                          rfl
                        refine take_ (i := 5) (N := some 157) (v := ?_) (a' := ?_) #[true, true, true, true, true, true, false, true, true, true, false, false, false, false, false, false, false, false, false, false, false, false, false, false, false, false, false, false] rfl rfl (take_ofW HT_.out HW_.out (by kernel_rfl)) (fun _ _ _ h => h) (Or.inl ⟨by rfl, ?_⟩) hHeld ?_ ?_
                        rotate_left
                        · intro w' s0
                          have e := s0.1
                          go_simp
                          with_reducible rfl
                        rotate_left
                        · simp only [Act.put, List.setIfInBounds_toArray, List.set_cons_zero, List.set_cons_succ, i64_w, i32_w]
                          rfl
                        refine take_ (i := 6) (N := some 158) (v := ?_) (a' := ?_) #[true, true, true, true, true, true, true, true, true, true, false, false, false, false, false, false, false, false, false, false, false, false, false, false, false, false, false, false] rfl rfl (take_ofW HT_.out HW_.out (by kernel_rfl)) (fun _ _ _ h => h) (Or.inl ⟨by rfl, ?_⟩) hHeld ?_ ?_
                        rotate_left
                        · intro w' s0
                          have e := str_of (c := c7) s0.2.2.1
                          go_simp
                          with_reducible rfl
                        rotate_left
                        · simp only [Act.put, List.setIfInBounds_toArray, List.set_cons_zero, List.set_cons_succ, i64_w, i32_w]
                          rfl
                        refine take_ (i := 10) (N := some 162) (v := ?_) (a' := ?_) #[true, true, true, true, true, true, true, true, true, true, true, false, false, false, false, false, false, false, false, false, false, false, false, false, false, false, false, false] rfl rfl (take_ofW HT_.out HW_.out (by kernel_rfl)) (fun _ _ _ h => h) (Or.inl ⟨by rfl, ?_⟩) hHeld ?_ ?_
                        rotate_left
                        · intro w' s0
                          have e := s0.2.1
                          go_simp
                          with_reducible rfl
                        rotate_left
                        · simp only [Act.put, List.setIfInBounds_toArray, List.set_cons_zero, List.set_cons_succ, i64_w, i32_w]
                          rfl
                        refine take_ (i := 11) (N := some 163) (v := ?_) (a' := ?_) #[true, true, true, true, true, true, true, true, true, true, true, true, false, false, false, false, false, false, false, false, false, false, false, false, false, false, false, false] rfl rfl (take_ofW HT_.out HW_.out (by kernel_rfl)) (fun _ _ _ h => h) (Or.inl ⟨by rfl, ?_⟩) hHeld ?_ ?_
                        rotate_left
                        · intro w' s0
                          have e := str_of (c := c8) s0.2.2.2.1
                          go_simp
                          with_reducible rfl
                        rotate_left
                        · simp only [Act.put, List.setIfInBounds_toArray, List.set_cons_zero, List.set_cons_succ, i64_w, i32_w]
                          rfl
                        refine pure_ (i := 12) (N := some 164) (v := ?_) (a' := ?_) #[true, true, true, true, true, true, true, true, true, true, true, true, true, false, false, false, false, false, false, false, false, false, false, false, false, false, false, false] rfl rfl (any_of HT_.out (by kernel_rfl)) (fun _ _ _ h => h) (Or.inl ⟨by rfl, ?_⟩) ?_ ?_
                        rotate_left
                        · intro w'
                          go_simp
                          with_reducible rfl
                        rotate_left
                        · simp only [Act.put, List.setIfInBounds_toArray, List.set_cons_zero, List.set_cons_succ, i64_w, i32_w]
                          rfl
                        refine pure_ (i := 13) (N := some 165) (v := ?_) (a' := ?_) #[true, true, true, true, true, true, true, true, true, true, true, true, true, true, false, false, false, false, false, false, false, false, false, false, false, false, false, false] rfl rfl (any_of HT_.out (by kernel_rfl)) (fun _ _ _ h => h) (Or.inl ⟨by rfl, ?_⟩) ?_ ?_
                        rotate_left
                        · intro w'
                          go_simp
                          with_reducible rfl
                        rotate_left
                        · simp only [Act.put, List.setIfInBounds_toArray, List.set_cons_zero, List.set_cons_succ, i64_w, i32_w]
                          rfl
                        refine pure_ (i := 14) (N := some 166) (v := ?_) (a' := ?_) #[true, true, true, true, true, true, true, true, true, true, true, true, true, true, true, false, false, false, false, false, false, false, false, false, false, false, false, false] rfl rfl (any_of HT_.out (by kernel_rfl)) (fun _ _ _ h => h) (Or.inl ⟨by rfl, ?_⟩) ?_ ?_
                        rotate_left
                        · intro w'
                          go_simp
                          with_reducible rfl
                        rotate_left
                        · simp only [Act.put, List.setIfInBounds_toArray, List.set_cons_zero, List.set_cons_succ, i64_w, i32_w]
                          rfl
                        refine pure_ (i := 15) (N := some 167) (v := ?_) (a' := ?_) #[true, true, true, true, true, true, true, true, true, true, true, true, true, true, true, true, false, false, false, false, false, false, false, false, false, false, false, false] rfl rfl (any_of HT_.out (by kernel_rfl)) (fun _ _ _ h => h) (Or.inl ⟨by rfl, ?_⟩) ?_ ?_
                        rotate_left
                        · intro w'
                          go_simp
                          with_reducible rfl
                        rotate_left
                        · simp only [Act.put, List.setIfInBounds_toArray, List.set_cons_zero, List.set_cons_succ, i64_w, i32_w]
                          rfl
                        refine pure_ (i := 16) (N := some 168) (v := ?_) (a' := ?_) #[true, true, true, true, true, true, true, true, true, true, true, true, true, true, true, true, true, false, false, false, false, false, false, false, false, false, false, false] rfl rfl (any_of HT_.out (by kernel_rfl)) (fun _ _ _ h => h) (Or.inl ⟨by rfl, ?_⟩) ?_ ?_
                        rotate_left
                        · intro w'
                          go_simp
                          with_reducible rfl
                        rotate_left
                        · simp only [Act.put, List.setIfInBounds_toArray, List.set_cons_zero, List.set_cons_succ, i64_w, i32_w]
                          rfl
                        refine pure_ (i := 19) (N := some 171) (v := ?_) (a' := ?_) #[true, true, true, true, true, true, true, true, true, true, true, true, true, true, true, true, true, false, false, true, false, false, false, false, false, false, false, false] rfl rfl (any_of HT_.out (by kernel_rfl)) (fun _ _ _ h => h) (Or.inl ⟨by rfl, ?_⟩) ?_ ?_
                        rotate_left
                        · intro w'
                          go_simp
                          with_reducible rfl
                        rotate_left
                        · simp only [Act.put, List.setIfInBounds_toArray, List.set_cons_zero, List.set_cons_succ, i64_w, i32_w]
                          rfl
                        refine pure_ (i := 20) (N := some 172) (v := ?_) (a' := ?_) #[true, true, true, true, true, true, true, true, true, true, true, true, true, true, true, true, true, false, false, true, true, false, false, false, false, false, false, false] rfl rfl (any_of HT_.out (by kernel_rfl)) (fun _ _ _ h => h) (Or.inl ⟨by rfl, ?_⟩) ?_ ?_
                        rotate_left
                        · intro w'
                          go_simp
                          with_reducible rfl
                        rotate_left
                        · simp only [Act.put, List.setIfInBounds_toArray, List.set_cons_zero, List.set_cons_succ, i64_w, i32_w]
                          rfl
                        refine pure_ (i := 21) (N := some 173) (v := ?_) (a' := ?_) #[true, true, true, true, true, true, true, true, true, true, true, true, true, true, true, true, true, false, false, true, true, true, false, false, false, false, false, false] rfl rfl (any_of HT_.out (by kernel_rfl)) (fun _ _ _ h => h) (Or.inl ⟨by rfl, ?_⟩) ?_ ?_
                        rotate_left
                        · intro w'
                          go_simp
                          with_reducible rfl
                        rotate_left
                        · simp only [Act.put, List.setIfInBounds_toArray, List.set_cons_zero, List.set_cons_succ, i64_w, i32_w]
                          rfl
                        refine take_ (i := 17) (N := some 169) (v := ?_) (a' := ?_) #[true, true, true, true, true, true, true, true, true, true, true, true, true, true, true, true, true, true, false, true, true, true, false, false, false, false, false, false] rfl rfl (take_ofW HT_.out HW_.out (by kernel_rfl)) (fun _ _ _ h => h) (Or.inl ⟨by rfl, ?_⟩) hHeld ?_ ?_
                        rotate_left
                        · intro w' s0
                          have e := s0.1
                          go_simp
                          with_reducible rfl
                        rotate_left
                        · simp only [Act.put, List.setIfInBounds_toArray, List.set_cons_zero, List.set_cons_succ, i64_w, i32_w]
                          rfl
                        refine take_ (i := 22) (N := some 174) (v := ?_) (a' := ?_) #[true, true, true, true, true, true, true, true, true, true, true, true, true, true, true, true, true, true, false, true, true, true, true, false, false, false, false, false] rfl rfl (take_ofW HT_.out HW_.out (by kernel_rfl)) (fun _ _ _ h => h) (Or.inl ⟨by rfl, ?_⟩) hHeld ?_ ?_
                        rotate_left
                        · intro w' s0
                          have e := s0.2.1
                          go_simp
                          with_reducible rfl
                        rotate_left
                        · simp only [Act.put, List.setIfInBounds_toArray, List.set_cons_zero, List.set_cons_succ, i64_w, i32_w]
                          rfl
                        refine one_ (i := 18) (N := some 170) #[true, true, true, true, true, true, true, true, true, true, true, true, true, true, true, true, true, true, true, true, true, true, true, false, false, false, false, false] rfl rfl (one_of HT_.out (by kernel_rfl)) (by decide) (fun K hK => ?_)
                        refine goes_ Try.func33 (by kernel_rfl) rfl #[.slice A7 z7 c7] (by rfl) rfl rfl (by (try simp only [List.map_toArray, List.map_cons, List.map_nil]); first | done | rfl) ?_
                        with_reducible refine (RefOf_z A7 c7 z7 T7 Z7 HZ7.out _ HL7.out hHeld.2.2.1 (by omega)).mono ?_
                        rintro e w16 ⟨rfl, hb⟩
                        refine ⟨_, rfl, ?_⟩
                        refine hK.out _ _ ⟨(pw_cell_below hb hHeld.1), (pw_cell_below hb hHeld.2.1), (Kd.C_below hHeld.2.2.1 hb), (Kd.C_below hHeld.2.2.2.1 hb), (below_then hHeld.2.2.2.2.1 (Below.size hHeld.2.2.2.2.1) hb), trivial⟩ (fun hHeld => ?_)
                        clear hK K
                        refine norm_ (a' := ?_) ?_ ?_
                        rotate_left
                        · show Act.put _ (some 170) _ = _
                          simp only [Act.put, List.setIfInBounds_toArray, List.set_cons_zero, List.set_cons_succ, i64_w, i32_w]
                          rfl
                        refine one_ (i := 23) (N := some 175) #[true, true, true, true, true, true, true, true, true, true, true, true, true, true, true, true, true, true, true, true, true, true, true, true, false, false, false, false] rfl rfl (one_of HT_.out (by kernel_rfl)) (by decide) (fun K hK => ?_)
                        refine goes_ Try.func33 (by kernel_rfl) rfl #[.slice A8 z8 c8] (by rfl) rfl rfl (by (try simp only [List.map_toArray, List.map_cons, List.map_nil]); first | done | rfl) ?_
                        with_reducible refine (RefOf_z A8 c8 z8 T8 Z8 HZ8.out _ HL8.out hHeld.2.2.2.1 (by omega)).mono ?_
                        rintro e w17 ⟨rfl, hb⟩
                        refine ⟨_, rfl, ?_⟩
                        refine hK.out _ _ ⟨(pw_cell_below hb hHeld.1), (pw_cell_below hb hHeld.2.1), (Kd.C_below hHeld.2.2.1 hb), (Kd.C_below hHeld.2.2.2.1 hb), (below_then hHeld.2.2.2.2.1 (Below.size hHeld.2.2.2.2.1) hb), trivial⟩ (fun hHeld => ?_)
                        clear hK K
                        refine norm_ (a' := ?_) ?_ ?_
                        rotate_left
                        · show Act.put _ (some 175) _ = _
                          simp only [Act.put, List.setIfInBounds_toArray, List.set_cons_zero, List.set_cons_succ, i64_w, i32_w]
                          rfl
                        refine pure_ (i := 24) (N := some 176) (v := ?_) (a' := ?_) #[true, true, true, true, true, true, true, true, true, true, true, true, true, true, true, true, true, true, true, true, true, true, true, true, true, false, false, false] rfl rfl (any_of HT_.out (by kernel_rfl)) (fun _ _ _ h => h) (Or.inl ⟨by rfl, ?_⟩) ?_ ?_
                        rotate_left
                        · intro w'
                          go_simp
                          with_reducible rfl
                        rotate_left
                        · simp only [Act.put, List.setIfInBounds_toArray, List.set_cons_zero, List.set_cons_succ, i64_w, i32_w]
                          rfl
                        refine pure_ (i := 25) (N := some 177) (v := ?_) (a' := ?_) #[true, true, true, true, true, true, true, true, true, true, true, true, true, true, true, true, true, true, true, true, true, true, true, true, true, true, false, false] rfl rfl (any_of HT_.out (by kernel_rfl)) (fun _ _ _ h => h) (Or.inl ⟨by rfl, ?_⟩) ?_ ?_
                        rotate_left
                        · intro w'
                          go_simp
                          with_reducible rfl
                        rotate_left
                        · simp only [Act.put, List.setIfInBounds_toArray, List.set_cons_zero, List.set_cons_succ, i64_w, i32_w]
                          rfl
                        refine pure_ (i := 26) (N := some 178) (v := ?_) (a' := ?_) #[true, true, true, true, true, true, true, true, true, true, true, true, true, true, true, true, true, true, true, true, true, true, true, true, true, true, true, false] rfl rfl (any_of HT_.out (by kernel_rfl)) (fun _ _ _ h => h) (Or.inl ⟨by rfl, ?_⟩) ?_ ?_
                        rotate_left
                        · intro w'
                          go_simp
                          with_reducible rfl
                        rotate_left
                        · simp only [Act.put, List.setIfInBounds_toArray, List.set_cons_zero, List.set_cons_succ, i64_w, i32_w]
                          rfl
                        refine pure_ (i := 27) (N := some 22) (v := ?_) (a' := ?_) #[true, true, true, true, true, true, true, true, true, true, true, true, true, true, true, true, true, true, true, true, true, true, true, true, true, true, true, true] rfl rfl (any_of HT_.out (by kernel_rfl)) (fun _ _ _ h => h) (Or.inl ⟨by rfl, ?_⟩) ?_ ?_
                        rotate_left
                        · intro w'
                          go_simp
                          with_reducible rfl
                        rotate_left
                        · simp only [Act.put, List.setIfInBounds_toArray, List.set_cons_zero, List.set_cons_succ, i64_w, i32_w]
                          rfl
                        refine done_ (done_of HT_.out (by kernel_rfl)) ?_
                        have HWd := Aside0.mk hHeld.2.2.2.2.1
                        clear hHeld
                        go_wp2
                        go_roundw
                        case rel => exact ⟨k' + 1, q2, by omega, by go_num, rfl, ⟨fun h => ⟨HN1.out, fun y hy => by
                          rcases Nat.lt_or_ge y k' with h1 | h1
                          · exact HN2.out y h1
                          · rw [show y = k' by omega]
                            exact fun hh => by
                              have h2 := hh.2
                              rw [← HT7.out, ← HT8.out, ← HZ7.out, ← HZ8.out] at h2
                              rw [HQ2.out, h2, beq_self_eq_true] at h
                              cases h⟩⟩, HWd⟩
                        case measure => simp [intOf]; omega
                  · obtain rfl : k' = j := by omega
                    clear hkj
                    go_wp2
                    go_roundw
                    case rel => exact ⟨k' + 1, b, by omega, by go_num, rfl, ⟨fun h x y hy hx => by
                      rcases Nat.lt_or_ge x k' with h1 | h1
                      · exact (HNH.out h).1 x y hy h1
                      · have hxx : x = k' := by omega
                        subst hxx
                        exact (HNH.out h).2 y hy⟩, HWk⟩
                    case measure => simp [intOf]; omega
              · obtain rfl : j = 4 := by omega
                clear hj4
                rw [show ((4 : Nat) : Int) = 4 from rfl]
                have HG13 := Aside0.mk (below_then HG6.out HG6.out.size (below_then H12.out H12.out.size HWj.out))
                have HW13 := Aside0.mk (below_then H12.out H12.out.size HWj.out)
                have HA13 := Aside0.mk (blk_below HA6.out HW13.out)
                have HB13 := Aside0.mk (blk_below HB6.out HW13.out)
                have HS13 := Aside0.mk (blk_below HS6.out HW13.out)
                have HT13 := Aside0.mk (blk_below HT6.out HW13.out)
                have HX13 := Aside0.mk (blk_below HX6.out HW13.out)
                have HY13 := Aside0.mk (blk_below HY6.out HW13.out)
                cases b with
                | true =>
                  go_wp2
                  refine start_ (n := 21) (S := fun w' => Below w.heap.size w w' ∧ True) (ds := []) #[false, false, false, false, false, false, false, false, false, false, false, false, false, false, false, false, false, false, false, false, false] (by kernel_rfl) rfl rfl ⟨below_drew HG13.out, trivial⟩ (fun hHeld => ?_)
                  refine with_tabW f8_r30.tab30 f8_r30.bits30 (fun HT_ HW_ => ?_)
                  refine pure_ (i := 0) (N := some 179) (v := ?_) (a' := ?_) #[true, false, false, false, false, false, false, false, false, false, false, false, false, false, false, false, false, false, false, false, false] rfl rfl (any_of HT_.out (by kernel_rfl)) (fun _ _ _ h => h) (Or.inl ⟨by rfl, ?_⟩) ?_ ?_
                  rotate_left
                  · intro w'
                    go_simp
                    with_reducible rfl
                  rotate_left
                  · simp only [Act.put, List.setIfInBounds_toArray, List.set_cons_zero, List.set_cons_succ, i64_w, i32_w]
                    rfl
                  refine pure_ (i := 1) (N := some 180) (v := ?_) (a' := ?_) #[true, true, false, false, false, false, false, false, false, false, false, false, false, false, false, false, false, false, false, false, false] rfl rfl (any_of HT_.out (by kernel_rfl)) (fun _ _ _ h => h) (Or.inl ⟨by rfl, ?_⟩) ?_ ?_
                  rotate_left
                  · intro w'
                    go_simp
                    with_reducible rfl
                  rotate_left
                  · simp only [Act.put, List.setIfInBounds_toArray, List.set_cons_zero, List.set_cons_succ, i64_w, i32_w]
                    rfl
                  refine pure_ (i := 2) (N := some 181) (v := undef) (a' := ?_) #[true, true, true, false, false, false, false, false, false, false, false, false, false, false, false, false, false, false, false, false, false] rfl rfl (any_of HT_.out (by kernel_rfl)) (fun _ _ _ h => h) (Or.inr ⟨by rfl, rfl⟩) ?_ ?_
                  rotate_left
                  · simp only [Act.put, List.setIfInBounds_toArray, List.set_cons_zero, List.set_cons_succ, i64_w, i32_w]
                    rfl
                  refine pure_ (i := 3) (N := some 182) (v := undef) (a' := ?_) #[true, true, true, true, false, false, false, false, false, false, false, false, false, false, false, false, false, false, false, false, false] rfl rfl (any_of HT_.out (by kernel_rfl)) (fun _ _ _ h => h) (Or.inr ⟨by rfl, rfl⟩) ?_ ?_
                  rotate_left
                  · simp only [Act.put, List.setIfInBounds_toArray, List.set_cons_zero, List.set_cons_succ, i64_w, i32_w]
                    rfl
                  refine pure_ (i := 4) (N := some 183) (v := undef) (a' := ?_) #[true, true, true, true, true, false, false, false, false, false, false, false, false, false, false, false, false, false, false, false, false] rfl rfl (any_of HT_.out (by kernel_rfl)) (fun _ _ _ h => h) (Or.inr ⟨by rfl, rfl⟩) ?_ ?_
                  rotate_left
                  · simp only [Act.put, List.setIfInBounds_toArray, List.set_cons_zero, List.set_cons_succ, i64_w, i32_w]
                    rfl
                  refine pure_ (i := 5) (N := some 184) (v := undef) (a' := ?_) #[true, true, true, true, true, true, false, false, false, false, false, false, false, false, false, false, false, false, false, false, false] rfl rfl (any_of HT_.out (by kernel_rfl)) (fun _ _ _ h => h) (Or.inr ⟨by rfl, rfl⟩) ?_ ?_
                  rotate_left
                  · simp only [Act.put, List.setIfInBounds_toArray, List.set_cons_zero, List.set_cons_succ, i64_w, i32_w]
                    rfl
                  refine pure_ (i := 6) (N := some 185) (v := undef) (a' := ?_) #[true, true, true, true, true, true, true, false, false, false, false, false, false, false, false, false, false, false, false, false, false] rfl rfl (any_of HT_.out (by kernel_rfl)) (fun _ _ _ h => h) (Or.inr ⟨by rfl, rfl⟩) ?_ ?_
                  rotate_left
                  · simp only [Act.put, List.setIfInBounds_toArray, List.set_cons_zero, List.set_cons_succ, i64_w, i32_w]
                    rfl
                  refine pure_ (i := 7) (N := some 186) (v := undef) (a' := ?_) #[true, true, true, true, true, true, true, true, false, false, false, false, false, false, false, false, false, false, false, false, false] rfl rfl (any_of HT_.out (by kernel_rfl)) (fun _ _ _ h => h) (Or.inr ⟨by rfl, rfl⟩) ?_ ?_
                  rotate_left
                  · simp only [Act.put, List.setIfInBounds_toArray, List.set_cons_zero, List.set_cons_succ, i64_w, i32_w]
                    rfl
                  refine pure_ (i := 8) (N := some 187) (v := undef) (a' := ?_) #[true, true, true, true, true, true, true, true, true, false, false, false, false, false, false, false, false, false, false, false, false] rfl rfl (any_of HT_.out (by kernel_rfl)) (fun _ _ _ h => h) (Or.inr ⟨by rfl, rfl⟩) ?_ ?_
                  rotate_left
                  · simp only [Act.put, List.setIfInBounds_toArray, List.set_cons_zero, List.set_cons_succ, i64_w, i32_w]
                    rfl
                  refine pure_ (i := 9) (N := some 188) (v := undef) (a' := ?_) #[true, true, true, true, true, true, true, true, true, true, false, false, false, false, false, false, false, false, false, false, false] rfl rfl (any_of HT_.out (by kernel_rfl)) (fun _ _ _ h => h) (Or.inr ⟨by rfl, rfl⟩) ?_ ?_
                  rotate_left
                  · simp only [Act.put, List.setIfInBounds_toArray, List.set_cons_zero, List.set_cons_succ, i64_w, i32_w]
                    rfl
                  refine pure_ (i := 10) (N := some 189) (v := undef) (a' := ?_) #[true, true, true, true, true, true, true, true, true, true, true, false, false, false, false, false, false, false, false, false, false] rfl rfl (any_of HT_.out (by kernel_rfl)) (fun _ _ _ h => h) (Or.inr ⟨by rfl, rfl⟩) ?_ ?_
                  rotate_left
                  · simp only [Act.put, List.setIfInBounds_toArray, List.set_cons_zero, List.set_cons_succ, i64_w, i32_w]
                    rfl
                  refine pure_ (i := 11) (N := some 190) (v := undef) (a' := ?_) #[true, true, true, true, true, true, true, true, true, true, true, true, false, false, false, false, false, false, false, false, false] rfl rfl (any_of HT_.out (by kernel_rfl)) (fun _ _ _ h => h) (Or.inr ⟨by rfl, rfl⟩) ?_ ?_
                  rotate_left
                  · simp only [Act.put, List.setIfInBounds_toArray, List.set_cons_zero, List.set_cons_succ, i64_w, i32_w]
                    rfl
                  refine pure_ (i := 12) (N := some 191) (v := undef) (a' := ?_) #[true, true, true, true, true, true, true, true, true, true, true, true, true, false, false, false, false, false, false, false, false] rfl rfl (any_of HT_.out (by kernel_rfl)) (fun _ _ _ h => h) (Or.inr ⟨by rfl, rfl⟩) ?_ ?_
                  rotate_left
                  · simp only [Act.put, List.setIfInBounds_toArray, List.set_cons_zero, List.set_cons_succ, i64_w, i32_w]
                    rfl
                  refine pure_ (i := 13) (N := some 192) (v := undef) (a' := ?_) #[true, true, true, true, true, true, true, true, true, true, true, true, true, true, false, false, false, false, false, false, false] rfl rfl (any_of HT_.out (by kernel_rfl)) (fun _ _ _ h => h) (Or.inr ⟨by rfl, rfl⟩) ?_ ?_
                  rotate_left
                  · simp only [Act.put, List.setIfInBounds_toArray, List.set_cons_zero, List.set_cons_succ, i64_w, i32_w]
                    rfl
                  refine pure_ (i := 14) (N := some 193) (v := undef) (a' := ?_) #[true, true, true, true, true, true, true, true, true, true, true, true, true, true, true, false, false, false, false, false, false] rfl rfl (any_of HT_.out (by kernel_rfl)) (fun _ _ _ h => h) (Or.inr ⟨by rfl, rfl⟩) ?_ ?_
                  rotate_left
                  · simp only [Act.put, List.setIfInBounds_toArray, List.set_cons_zero, List.set_cons_succ, i64_w, i32_w]
                    rfl
                  refine pure_ (i := 15) (N := some 194) (v := undef) (a' := ?_) #[true, true, true, true, true, true, true, true, true, true, true, true, true, true, true, true, false, false, false, false, false] rfl rfl (any_of HT_.out (by kernel_rfl)) (fun _ _ _ h => h) (Or.inr ⟨by rfl, rfl⟩) ?_ ?_
                  rotate_left
                  · simp only [Act.put, List.setIfInBounds_toArray, List.set_cons_zero, List.set_cons_succ, i64_w, i32_w]
                    rfl
                  refine pure_ (i := 16) (N := some 195) (v := ?_) (a' := ?_) #[true, true, true, true, true, true, true, true, true, true, true, true, true, true, true, true, true, false, false, false, false] rfl rfl (any_of HT_.out (by kernel_rfl)) (fun _ _ _ h => h) (Or.inl ⟨by rfl, ?_⟩) ?_ ?_
                  rotate_left
                  · intro w'
                    go_simp
                    with_reducible rfl
                  rotate_left
                  · simp only [Act.put, List.setIfInBounds_toArray, List.set_cons_zero, List.set_cons_succ, i64_w, i32_w]
                    rfl
                  refine pure_ (i := 17) (N := some 196) (v := ?_) (a' := ?_) #[true, true, true, true, true, true, true, true, true, true, true, true, true, true, true, true, true, true, false, false, false] rfl rfl (any_of HT_.out (by kernel_rfl)) (fun _ _ _ h => h) (Or.inl ⟨by rfl, ?_⟩) ?_ ?_
                  rotate_left
                  · intro w'
                    go_simp
                    with_reducible rfl
                  rotate_left
                  · simp only [Act.put, List.setIfInBounds_toArray, List.set_cons_zero, List.set_cons_succ, i64_w, i32_w]
                    rfl
                  refine one_ (i := 18) (N := some 197) #[true, true, true, true, true, true, true, true, true, true, true, true, true, true, true, true, true, true, true, false, false] rfl rfl (one_of HT_.out (by kernel_rfl)) (by decide) (fun K hK => ?_)
                  refine goes_ Try.func27 (by kernel_rfl) rfl #[] (by rfl) rfl rfl (by (try simp only [List.map_toArray, List.map_cons, List.map_nil]); first | done | rfl) ?_
                  with_reducible refine (sure_calls _).mono ?_
                  rintro e w18 ⟨rfl, hb⟩
                  refine ⟨_, rfl, ?_⟩
                  refine hK.out _ _ ⟨(below_then hHeld.1 (Below.size hHeld.1) hb), trivial⟩ (fun hHeld => ?_)
                  clear hK K
                  refine norm_ (a' := ?_) ?_ ?_
                  rotate_left
                  · show Act.put _ (some 197) _ = _
                    simp only [Act.put, List.setIfInBounds_toArray, List.set_cons_zero, List.set_cons_succ, i64_w, i32_w]
                    rfl
                  refine pure_ (i := 19) (N := some 198) (v := ?_) (a' := ?_) #[true, true, true, true, true, true, true, true, true, true, true, true, true, true, true, true, true, true, true, true, false] rfl rfl (any_of HT_.out (by kernel_rfl)) (fun _ _ _ h => h) (Or.inl ⟨by rfl, ?_⟩) ?_ ?_
                  rotate_left
                  · intro w'
                    go_simp
                    with_reducible rfl
                  rotate_left
                  · simp only [Act.put, List.setIfInBounds_toArray, List.set_cons_zero, List.set_cons_succ, i64_w, i32_w]
                    rfl
                  refine pure_ (i := 20) (N := some 6) (v := ?_) (a' := ?_) #[true, true, true, true, true, true, true, true, true, true, true, true, true, true, true, true, true, true, true, true, true] rfl rfl (any_of HT_.out (by kernel_rfl)) (fun _ _ _ h => h) (Or.inl ⟨by rfl, ?_⟩) ?_ ?_
                  rotate_left
                  · intro w'
                    go_simp
                    with_reducible rfl
                  rotate_left
                  · simp only [Act.put, List.setIfInBounds_toArray, List.set_cons_zero, List.set_cons_succ, i64_w, i32_w]
                    rfl
                  refine done_ (done_of HT_.out (by kernel_rfl)) ?_
                  have HE9 := Aside0.mk hHeld.1
                  clear hHeld
                  go_wp2
                  go_ret
                  exact ⟨rfl, HE9.out⟩
                | false =>
                  have hrv : r = v := by
                    rw [HR.out]
                    exact rv_law (by rw [HTS.out] at HNH; exact HNH.out rfl 1 0 (by decide) (by decide)) HP0.out HP1.out HX.out HY.out HF0.out HF1.out HSAME.out
                  have hqp : q = p := by
                    rw [HQ.out, HP.out]
                    exact qp_law (by rw [HTS.out] at HNH; exact HNH.out rfl 3 2 (by decide) (by decide)) HP2.out HP3.out HS.out HT.out
                  clear HR HQ HP HPQ HSAME
                  subst hqp
                  subst hrv
                  go_wp2
                  refine start_ (n := 21) (S := fun w' => Blk w' w1.heap.size 51 (e8 X) ∧ Blk w' w3.heap.size 51 (e8 Y) ∧ Blk w' g13 51 (e8 S) ∧ Blk w' g14 51 (e8 T) ∧ Blk w' w.heap.size 62 (w2 a0 a1) ∧ Blk w' (w.heap.size + 1) 62 (w2 b0 b1) ∧ Below w.heap.size w w' ∧ True) (ds := []) #[false, false, false, false, false, false, false, false, false, false, false, false, false, false, false, false, false, false, false, false, false] (by kernel_rfl) rfl rfl ⟨blk_drew HX13.out, blk_drew HY13.out, blk_drew HS13.out, blk_drew HT13.out, blk_drew HA13.out, blk_drew HB13.out, below_drew HG13.out, trivial⟩ (fun hHeld => ?_)
                  refine with_tabW f8_r30.tab30 f8_r30.bits30 (fun HT_ HW_ => ?_)
                  refine pure_ (i := 0) (N := some 179) (v := ?_) (a' := ?_) #[true, false, false, false, false, false, false, false, false, false, false, false, false, false, false, false, false, false, false, false, false] rfl rfl (any_of HT_.out (by kernel_rfl)) (fun _ _ _ h => h) (Or.inl ⟨by rfl, ?_⟩) ?_ ?_
                  rotate_left
                  · intro w'
                    go_simp
                    with_reducible rfl
                  rotate_left
                  · simp only [Act.put, List.setIfInBounds_toArray, List.set_cons_zero, List.set_cons_succ, i64_w, i32_w]
                    rfl
                  refine pure_ (i := 1) (N := some 180) (v := ?_) (a' := ?_) #[true, true, false, false, false, false, false, false, false, false, false, false, false, false, false, false, false, false, false, false, false] rfl rfl (any_of HT_.out (by kernel_rfl)) (fun _ _ _ h => h) (Or.inl ⟨by rfl, ?_⟩) ?_ ?_
                  rotate_left
                  · intro w'
                    go_simp
                    with_reducible rfl
                  rotate_left
                  · simp only [Act.put, List.setIfInBounds_toArray, List.set_cons_zero, List.set_cons_succ, i64_w, i32_w]
                    rfl
                  refine pure_ (i := 5) (N := some 184) (v := ?_) (a' := ?_) #[true, true, false, false, false, true, false, false, false, false, false, false, false, false, false, false, false, false, false, false, false] rfl rfl (any_of HT_.out (by kernel_rfl)) (fun _ _ _ h => h) (Or.inl ⟨by rfl, ?_⟩) ?_ ?_
                  rotate_left
                  · intro w'
                    go_simp
                    with_reducible rfl
                  rotate_left
                  · simp only [Act.put, List.setIfInBounds_toArray, List.set_cons_zero, List.set_cons_succ, i64_w, i32_w]
                    rfl
                  refine take_ (i := 2) (N := some 181) (v := ?_) (a' := ?_) #[true, true, true, false, false, true, false, false, false, false, false, false, false, false, false, false, false, false, false, false, false] rfl rfl (take_ofW HT_.out HW_.out (by kernel_rfl)) (fun _ _ _ h => h) (Or.inl ⟨by rfl, ?_⟩) hHeld ?_ ?_
                  rotate_left
                  · intro w' s0
                    refine Eq.trans (exec_load_row 51 (.tmp 9) (by rfl) (w1.heap.size) 51 (e8 X) _ (by rfl) s0.1 Try.underlying51 rfl HZX.out) ?_
                    with_reducible rfl
                  rotate_left
                  · simp only [Act.put, List.setIfInBounds_toArray, List.set_cons_zero, List.set_cons_succ, i64_w, i32_w]
                    rfl
                  refine take_ (i := 3) (N := some 182) (v := ?_) (a' := ?_) #[true, true, true, true, false, true, false, false, false, false, false, false, false, false, false, false, false, false, false, false, false] rfl rfl (take_ofW HT_.out HW_.out (by kernel_rfl)) (fun _ _ _ h => h) (Or.inl ⟨by rfl, ?_⟩) hHeld ?_ ?_
                  rotate_left
                  · intro w' s0
                    refine Eq.trans (exec_load_row 51 (.tmp 11) (by rfl) (w3.heap.size) 51 (e8 Y) _ (by rfl) s0.2.1 Try.underlying51 rfl HZY.out) ?_
                    with_reducible rfl
                  rotate_left
                  · simp only [Act.put, List.setIfInBounds_toArray, List.set_cons_zero, List.set_cons_succ, i64_w, i32_w]
                    rfl
                  refine pure_ (i := 4) (N := some 183) (v := ?_) (a' := ?_) #[true, true, true, true, true, true, false, false, false, false, false, false, false, false, false, false, false, false, false, false, false] rfl rfl (any_of HT_.out (by kernel_rfl)) (fun _ _ _ h => h) (Or.inl ⟨by rfl, ?_⟩) ?_ ?_
                  rotate_left
                  · intro w'
                    go_simp
                    with_reducible rfl
                  rotate_left
                  · simp only [Act.put, List.setIfInBounds_toArray, List.set_cons_zero, List.set_cons_succ, i64_w, i32_w]
                    rfl
                  refine pure_ (i := 6) (N := some 185) (v := ?_) (a' := ?_) #[true, true, true, true, true, true, true, false, false, false, false, false, false, false, false, false, false, false, false, false, false] rfl rfl (any_of HT_.out (by kernel_rfl)) (fun _ _ _ h => h) (Or.inl ⟨by rfl, ?_⟩) ?_ ?_
                  rotate_left
                  · intro w'
                    go_simp
                    with_reducible rfl
                  rotate_left
                  · simp only [Act.put, List.setIfInBounds_toArray, List.set_cons_zero, List.set_cons_succ, i64_w, i32_w]
                    rfl
                  refine pure_ (i := 7) (N := some 186) (v := ?_) (a' := ?_) #[true, true, true, true, true, true, true, true, false, false, false, false, false, false, false, false, false, false, false, false, false] rfl rfl (any_of HT_.out (by kernel_rfl)) (fun _ _ _ h => h) (Or.inl ⟨by rfl, ?_⟩) ?_ ?_
                  rotate_left
                  · intro w'
                    go_simp
                    with_reducible rfl
                  rotate_left
                  · simp only [Act.put, List.setIfInBounds_toArray, List.set_cons_zero, List.set_cons_succ, i64_w, i32_w]
                    rfl
                  refine take_ (i := 8) (N := some 187) (v := ?_) (a' := ?_) #[true, true, true, true, true, true, true, true, true, false, false, false, false, false, false, false, false, false, false, false, false] rfl rfl (take_ofW HT_.out HW_.out (by kernel_rfl)) (fun _ _ _ h => h) (Or.inl ⟨by rfl, ?_⟩) hHeld ?_ ?_
                  rotate_left
                  · intro w' s0
                    refine Eq.trans (exec_load_row 51 (.tmp 13) (by rfl) (g13) 51 (e8 S) _ (by rfl) s0.2.2.1 Try.underlying51 rfl HZS.out) ?_
                    with_reducible rfl
                  rotate_left
                  · simp only [Act.put, List.setIfInBounds_toArray, List.set_cons_zero, List.set_cons_succ, i64_w, i32_w]
                    rfl
                  refine take_ (i := 9) (N := some 188) (v := ?_) (a' := ?_) #[true, true, true, true, true, true, true, true, true, true, false, false, false, false, false, false, false, false, false, false, false] rfl rfl (take_ofW HT_.out HW_.out (by kernel_rfl)) (fun _ _ _ h => h) (Or.inl ⟨by rfl, ?_⟩) hHeld ?_ ?_
                  rotate_left
                  · intro w' s0
                    refine Eq.trans (exec_load_row 51 (.tmp 14) (by rfl) (g14) 51 (e8 T) _ (by rfl) s0.2.2.2.1 Try.underlying51 rfl HZT.out) ?_
                    with_reducible rfl
                  rotate_left
                  · simp only [Act.put, List.setIfInBounds_toArray, List.set_cons_zero, List.set_cons_succ, i64_w, i32_w]
                    rfl
                  refine pure_ (i := 10) (N := some 189) (v := ?_) (a' := ?_) #[true, true, true, true, true, true, true, true, true, true, true, false, false, false, false, false, false, false, false, false, false] rfl rfl (any_of HT_.out (by kernel_rfl)) (fun _ _ _ h => h) (Or.inl ⟨by rfl, ?_⟩) ?_ ?_
                  rotate_left
                  · intro w'
                    go_simp
                    with_reducible rfl
                  rotate_left
                  · simp only [Act.put, List.setIfInBounds_toArray, List.set_cons_zero, List.set_cons_succ, i64_w, i32_w]
                    rfl
                  refine take_ (i := 11) (N := some 190) (v := ?_) (a' := ?_) #[true, true, true, true, true, true, true, true, true, true, true, true, false, false, false, false, false, false, false, false, false] rfl rfl (take_ofW HT_.out HW_.out (by kernel_rfl)) (fun _ _ _ h => h) (Or.inl ⟨by rfl, ?_⟩) hHeld ?_ ?_
                  rotate_left
                  · intro w' s0
                    refine Eq.trans (exec_load_row 62 (.tmp 3) (by rfl) (w.heap.size) 62 (w2 a0 a1) _ (by rfl) s0.2.2.2.2.1 Try.underlying62 rfl (by kernel_rfl)) ?_
                    with_reducible rfl
                  rotate_left
                  · simp only [Act.put, List.setIfInBounds_toArray, List.set_cons_zero, List.set_cons_succ, i64_w, i32_w]
                    rfl
                  refine take_ (i := 12) (N := some 191) (v := ?_) (a' := ?_) #[true, true, true, true, true, true, true, true, true, true, true, true, true, false, false, false, false, false, false, false, false] rfl rfl (take_ofW HT_.out HW_.out (by kernel_rfl)) (fun _ _ _ h => h) (Or.inl ⟨by rfl, ?_⟩) hHeld ?_ ?_
                  rotate_left
                  · intro w' s0
                    refine Eq.trans (exec_load_row 62 (.tmp 4) (by rfl) (w.heap.size + 1) 62 (w2 b0 b1) _ (by rfl) s0.2.2.2.2.2.1 Try.underlying62 rfl (by kernel_rfl)) ?_
                    with_reducible rfl
                  rotate_left
                  · simp only [Act.put, List.setIfInBounds_toArray, List.set_cons_zero, List.set_cons_succ, i64_w, i32_w]
                    rfl
                  refine pure_ (i := 13) (N := some 192) (v := ?_) (a' := ?_) #[true, true, true, true, true, true, true, true, true, true, true, true, true, true, false, false, false, false, false, false, false] rfl rfl (any_of HT_.out (by kernel_rfl)) (fun _ _ _ h => h) (Or.inl ⟨by rfl, ?_⟩) ?_ ?_
                  rotate_left
                  · intro w'
                    go_simp
                    with_reducible rfl
                  rotate_left
                  · simp only [Act.put, List.setIfInBounds_toArray, List.set_cons_zero, List.set_cons_succ, i64_w, i32_w]
                    rfl
                  refine pure_ (i := 14) (N := some 193) (v := ?_) (a' := ?_) #[true, true, true, true, true, true, true, true, true, true, true, true, true, true, true, false, false, false, false, false, false] rfl rfl (any_of HT_.out (by kernel_rfl)) (fun _ _ _ h => h) (Or.inl ⟨by rfl, ?_⟩) ?_ ?_
                  rotate_left
                  · intro w'
                    go_simp
                    with_reducible rfl
                  rotate_left
                  · simp only [Act.put, List.setIfInBounds_toArray, List.set_cons_zero, List.set_cons_succ, i64_w, i32_w]
                    rfl
                  refine pure_ (i := 15) (N := some 194) (v := ?_) (a' := ?_) #[true, true, true, true, true, true, true, true, true, true, true, true, true, true, true, true, false, false, false, false, false] rfl rfl (any_of HT_.out (by kernel_rfl)) (fun _ _ _ h => h) (Or.inl ⟨by rfl, ?_⟩) ?_ ?_
                  rotate_left
                  · intro w'
                    go_simp
                    with_reducible rfl
                  rotate_left
                  · simp only [Act.put, List.setIfInBounds_toArray, List.set_cons_zero, List.set_cons_succ, i64_w, i32_w]
                    rfl
                  refine pure_ (i := 16) (N := some 195) (v := ?_) (a' := ?_) #[true, true, true, true, true, true, true, true, true, true, true, true, true, true, true, true, true, false, false, false, false] rfl rfl (any_of HT_.out (by kernel_rfl)) (fun _ _ _ h => h) (Or.inl ⟨by rfl, ?_⟩) ?_ ?_
                  rotate_left
                  · intro w'
                    go_simp
                    with_reducible rfl
                  rotate_left
                  · simp only [Act.put, List.setIfInBounds_toArray, List.set_cons_zero, List.set_cons_succ, i64_w, i32_w]
                    rfl
                  refine pure_ (i := 17) (N := some 196) (v := ?_) (a' := ?_) #[true, true, true, true, true, true, true, true, true, true, true, true, true, true, true, true, true, true, false, false, false] rfl rfl (any_of HT_.out (by kernel_rfl)) (fun _ _ _ h => h) (Or.inl ⟨by rfl, ?_⟩) ?_ ?_
                  rotate_left
                  · intro w'
                    go_simp
                    with_reducible rfl
                  rotate_left
                  · simp only [Act.put, List.setIfInBounds_toArray, List.set_cons_zero, List.set_cons_succ, i64_w, i32_w]
                    rfl
                  refine one_ (i := 18) (N := some 197) #[true, true, true, true, true, true, true, true, true, true, true, true, true, true, true, true, true, true, true, false, false] rfl rfl (one_of HT_.out (by kernel_rfl)) (by decide) (fun K hK => ?_)
                  refine goes_ Try.func27 (by kernel_rfl) rfl #[] (by rfl) rfl rfl (by (try simp only [List.map_toArray, List.map_cons, List.map_nil]); first | done | rfl) ?_
                  with_reducible refine (sure_calls _).mono ?_
                  rintro e w18 ⟨rfl, hb⟩
                  refine ⟨_, rfl, ?_⟩
                  refine hK.out _ _ ⟨(blk_below hHeld.1 hb), (blk_below hHeld.2.1 hb), (blk_below hHeld.2.2.1 hb), (blk_below hHeld.2.2.2.1 hb), (blk_below hHeld.2.2.2.2.1 hb), (blk_below hHeld.2.2.2.2.2.1 hb), (below_then hHeld.2.2.2.2.2.2.1 (Below.size hHeld.2.2.2.2.2.2.1) hb), trivial⟩ (fun hHeld => ?_)
                  clear hK K
                  refine norm_ (a' := ?_) ?_ ?_
                  rotate_left
                  · show Act.put _ (some 197) _ = _
                    simp only [Act.put, List.setIfInBounds_toArray, List.set_cons_zero, List.set_cons_succ, i64_w, i32_w]
                    rfl
                  refine pure_ (i := 19) (N := some 198) (v := ?_) (a' := ?_) #[true, true, true, true, true, true, true, true, true, true, true, true, true, true, true, true, true, true, true, true, false] rfl rfl (any_of HT_.out (by kernel_rfl)) (fun _ _ _ h => h) (Or.inl ⟨by rfl, ?_⟩) ?_ ?_
                  rotate_left
                  · intro w'
                    go_simp
                    with_reducible rfl
                  rotate_left
                  · simp only [Act.put, List.setIfInBounds_toArray, List.set_cons_zero, List.set_cons_succ, i64_w, i32_w]
                    rfl
                  refine pure_ (i := 20) (N := some 6) (v := ?_) (a' := ?_) #[true, true, true, true, true, true, true, true, true, true, true, true, true, true, true, true, true, true, true, true, true] rfl rfl (any_of HT_.out (by kernel_rfl)) (fun _ _ _ h => h) (Or.inl ⟨by rfl, ?_⟩) ?_ ?_
                  rotate_left
                  · intro w'
                    go_simp
                    with_reducible rfl
                  rotate_left
                  · simp only [Act.put, List.setIfInBounds_toArray, List.set_cons_zero, List.set_cons_succ, i64_w, i32_w]
                    rfl
                  refine done_ (done_of HT_.out (by kernel_rfl)) ?_
                  have HE9 := Aside0.mk hHeld.2.2.2.2.2.2.1
                  clear hHeld
                  go_wp2
                  go_ret
                  exact ⟨rfl, HE9.out⟩
end Go.Proofs.Ytpgighcobmaecaa.Seal
