/- The functions of package crc by contracts: what each answers, as a plain Lean function of the bytes. -/
import Derived.Test.YtpgighcobmaecaaBase
import Derived.Test.YtpgighcobmaecaaCrcSpec
set_option linter.unusedVariables false
set_option linter.unusedSimpArgs false
namespace Go.Proofs.Ytpgighcobmaecaa.Crc
open Go.RowKit Go.Proofs.YtpgighcobmaecaaW.PrintWords

theorem top_msb (a : BitVec 32) : (bits .and .u32 (a.toNat : Int) 2147483648 != 0) = a.msb := by
  have e : (2147483648 : Int) = ((2147483648#32).toNat : Int) := by decide
  rw [e, ba32]
  have h : a &&& 2147483648#32 = if a.msb then 2147483648#32 else 0#32 := by
    rw [show 2147483648#32 = BitVec.twoPow 32 31 by decide, BitVec.and_twoPow, BitVec.msb_eq_getLsbD_last]
  rw [h]
  cases a.msb <;> decide
theorem put_int (v : BitVec 32) (x : UInt8) : bits .xor .u32 (v.toNat : Int) ((x.toNat : Int) % 4294967296 * 16777216 % 4294967296) = ((put v x).toNat : Int) := by
  have := x.toNat_lt
  rw [show (x.toNat : Int) % 4294967296 = x.toNat by omega, ← c32_toNat, shl32 (c32 x) 24 16777216 rfl, bx32]
  rfl
theorem sh_top (a : BitVec 32) : bits .xor .u32 ((a.toNat : Int) * 2 % 4294967296) 79764919 = ((a <<< 1 ^^^ poly).toNat : Int) := by
  rw [shl32 a 1 2 rfl, show (79764919 : Int) = (poly.toNat : Int) by decide, bx32]
theorem shifted_calls (a : BitVec 32) (w : World) :
    Calls Try.prog 42 #[.int .u32 (a.toNat : Int)] w fun e w' => e = .returned (.int .u32 ((sh a).toNat : Int)) ∧ w = w' := by
  have ht := top_msb a
  unfold sh
  by_cases c2 : a.msb = true
  · rw [if_pos c2]
    rw [c2] at ht
    clear c2
    go_enter Try.func42, Try.ntmps42
    go_wp2
    go_ret
    exact ⟨ret_val (int_val (sh_top a)), rfl⟩
  · have c2 := Bool.eq_false_iff.2 c2
    rw [if_neg (by rw [c2]; simp)]
    rw [c2] at ht
    clear c2
    go_enter Try.func42, Try.ntmps42
    go_wp2
    go_ret
    exact ⟨ret_val (int_val (shl32 a 1 2 rfl)), rfl⟩

set_option maxHeartbeats 2000000 in
theorem More_calls (a : BitVec 32) (A : Option Addr) (c : Nat) (l : List UInt8) (w : World) (hr : Kb.C w A l.length l) (hl : l.length ≤ 140737488355328) :
    Calls Try.prog 14 #[.int .u32 (a.toNat : Int), .slice A l.length c] w fun e w' => e = .returned (.int .u32 ((more a l).toNat : Int)) ∧ w = w' := by
  have HR := Aside0.mk hr
  clear hr
  obtain ⟨na, hna⟩ : ∃ na, na = ~~~ a := ⟨_, rfl⟩
  have hn := Aside0.mk (not32 a)
  rw [← hna] at hn
  replace hna := Aside0.mk hna
  have hst := Aside0.mk (fun k h => foldl_take step na l 0 k h)
  go_enter Try.func14, Try.ntmps14
  go_wp2
  rw [hn.out]
  go_loop [5, 7, 12] (fun v _ i => ∃ k : Nat, k ≤ l.length ∧ i = .int .i64 k ∧ ∃ x : BitVec 32, v = .int .u32 (x.toNat : Int) ∧ Aside0 (x = (l.take k).foldl step na)) (fun _ _ i => l.length - (intOf i).toNat)
  case atStart => exact ⟨0, Nat.zero_le _, rfl, _, rfl, ⟨rfl⟩⟩
  case round =>
    obtain ⟨k, hk, rfl, v, rfl, HV⟩ := hrel
    by_cases hlt : k < l.length
    · obtain ⟨ad, rfl, hx⟩ := at_b HR.out k hlt
      obtain ⟨x, hx0⟩ : ∃ x, x = l.getD k 0 := ⟨_, rfl⟩
      rw [← hx0] at hx
      have HX := Aside0.mk hx0
      clear hx0
      go_wp2
      rw [put_int v x]
      obtain ⟨b, hb⟩ : ∃ b, b = put v x := ⟨_, rfl⟩
      rw [← hb]
      have HB := Aside0.mk hb
      clear hb
      go_loop [5, 21] (fun v i => ∃ k : Nat, k ≤ 8 ∧ i = .int .i64 k ∧ ∃ x : BitVec 32, v = .int .u32 (x.toNat : Int) ∧ Aside0 (x = shn k b)) (fun _ i => 8 - (intOf i).toNat)
      case atStart => exact ⟨0, Nat.zero_le _, rfl, _, rfl, ⟨rfl⟩⟩
      case round =>
        obtain ⟨j, hj, rfl, y, rfl, HY⟩ := hrel
        by_cases hlt2 : j < 8
        · go_wp2_with (go_at_call 42; refine (shifted_calls _ _).mono ?_; rintro e w' ⟨rfl, rfl⟩)
          go_round
          case rel => exact ⟨j + 1, by omega, by go_num, _, rfl, ⟨by rw [HY.out]; rfl⟩⟩
          case measure => simp [intOf]; omega
        · go_wp2
          go_round
          case rel => exact ⟨k + 1, by omega, by go_num, _, rfl, ⟨by rw [hst.out k hlt, HY.out, HB.out, HX.out, HV.out, show j = 8 by omega]; rfl⟩⟩
          case measure => simp [intOf]; omega
    · go_wp2
      go_ret
      exact ⟨ret_val (int_val (by rw [HV.out, foldl_all _ _ _ _ hlt, hna.out]; exact not32 _)), rfl⟩

theorem or_int (v : BitVec 32) (x : UInt8) : bits .or .u32 ((v.toNat : Int) * 256 % 4294967296) ((x.toNat : Int) % 4294967296) = (((v <<< 8) ||| c32 x).toNat : Int) := by
  have := x.toNat_lt
  rw [show (x.toNat : Int) % 4294967296 = x.toNat by omega, ← c32_toNat, shl32 v 8 256 rfl, bo32]
theorem eq_bool32 (a b : BitVec 32) : Value.bool ((a.toNat : Int) == (b.toNat : Int)) = .bool (a == b) := by
  congr 1
  rw [Bool.eq_iff_iff, beq_iff_eq, beq_iff_eq]
  exact ⟨fun h => BitVec.eq_of_toNat_eq (by omega), fun h => by rw [h]⟩
theorem Sum_calls (A : Option Addr) (c : Nat) (l : List UInt8) (w : World) (hr : Kb.C w A l.length l) (hl : l.length ≤ 140737488355328) :
    Calls Try.prog 13 #[.slice A l.length c] w fun e w' => e = .returned (.int .u32 ((more 0#32 l).toNat : Int)) ∧ w = w' := by
  have h := More_calls 0#32 A c l w hr hl
  rw [show (((0#32).toNat : Nat) : Int) = 0 by decide] at h
  have H := Aside0.mk h
  clear h hr
  go_enter Try.func13, Try.ntmps13
  go_wp2_with (go_at_call 14; refine H.out.mono ?_; rintro e w' ⟨rfl, rfl⟩)
  go_ret
  exact ⟨rfl, rfl⟩

set_option maxHeartbeats 2000000 in
theorem Fits_calls (A : Option Addr) (c : Nat) (l : List UInt8) (w : World) (hr : Kb.C w A l.length l) (hl : l.length ≤ 140737488355328) (hc : l.length ≤ c) :
    Calls Try.prog 15 #[.slice A l.length c] w fun e w' => e = .returned (.bool (fits l)) ∧ w = w' := by
  by_cases h4 : 4 ≤ l.length
  · obtain ⟨n, hn⟩ : ∃ n, l.length = n + 4 := ⟨l.length - 4, by omega⟩
    obtain ⟨A1, hcut1, hA1⟩ := cut_lo A c hn n (by omega) (by omega)
    obtain ⟨hcut2, hA2⟩ := cut_hi A c hn n (by omega) (by omega)
    rw [hn] at hr ⊢
    have H1 := Aside0.mk (hA1 w hr)
    have H2 := Aside0.mk (hA2 w hr)
    rw [show n + 4 - n = 4 by omega] at hcut1 H1
    have hl1 := Aside0.mk (show (l.drop n).length = 4 by rw [List.length_drop]; omega)
    have hl2 := Aside0.mk (show (l.take n).length = n by rw [List.length_take]; omega)
    have hs := Aside0.mk (Sum_calls A c (l.take n) w (by rw [hl2.out]; exact H2.out) (by rw [hl2.out]; omega))
    rw [hl2.out] at hs
    obtain ⟨q, hq⟩ : ∃ q, q = l.drop n := ⟨_, rfl⟩
    rw [← hq] at H1 hl1
    have hfin : fits l = (more 0#32 (l.take n) == num q) := by
      unfold fits
      rw [decide_eq_true h4, Bool.true_and, hq, show l.length - 4 = n by omega]
    replace hfin := Aside0.mk hfin
    have hnb : n ≤ 140737488355328 := by omega
    clear hn hr hA1 hA2 hq h4
    have hst := Aside0.mk (fun k h => foldl_take (fun (v : BitVec 32) c => (v <<< 8) ||| c32 c) 0#32 q 0 k h)
    go_enter Try.func15, Try.ntmps15
    go_wp2
    go_loop [4, 6, 16] (fun v _ i => ∃ k : Nat, k ≤ 4 ∧ i = .int .i64 k ∧ ∃ x : BitVec 32, v = .int .u32 (x.toNat : Int) ∧ Aside0 (x = (q.take k).foldl (fun (v : BitVec 32) c => (v <<< 8) ||| c32 c) 0#32)) (fun _ _ i => 4 - (intOf i).toNat)
    case atStart => exact ⟨0, Nat.zero_le _, rfl, 0#32, rfl, ⟨rfl⟩⟩
    case round =>
      obtain ⟨k, hk, rfl, v, rfl, HV⟩ := hrel
      by_cases hlt : k < 4
      · obtain ⟨ad, rfl, hx⟩ := at_b (by rw [hl1.out]; exact H1.out) k (by rw [hl1.out]; exact hlt)
        obtain ⟨x, hx0⟩ : ∃ x, x = q.getD k 0 := ⟨_, rfl⟩
        rw [← hx0] at hx
        have HX := Aside0.mk hx0
        clear hx0
        go_wp2
        go_round
        case rel => exact ⟨k + 1, by omega, by go_num, _, int_val (or_int v x), ⟨by rw [hst.out k (by rw [hl1.out]; exact hlt), HX.out, HV.out]⟩⟩
        case measure => simp [intOf]; omega
      · go_wp2_with (go_at_call 13; refine hs.out.mono ?_; rintro e w' ⟨rfl, rfl⟩)
        go_ret
        exact ⟨(ret_val (eq_bool32 (more 0#32 (l.take n)) v)).trans (by rw [hfin.out, HV.out, foldl_all _ _ _ _ (by rw [hl1.out]; exact hlt)]; rfl), rfl⟩
  · have e : fits l = false := by unfold fits; rw [decide_eq_false h4]; rfl
    rw [e]
    clear e
    go_enter Try.func15, Try.ntmps15
    go_wp2
    go_ret
    exact ⟨rfl, rfl⟩
end Go.Proofs.Ytpgighcobmaecaa.Crc
