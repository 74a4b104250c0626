/- The document's layer 7 by contracts: Num. -/
import Derived.Test.YthmlidlnojdggaaDoorPrgRef
set_option linter.unusedVariables false
set_option linter.unusedSimpArgs false
namespace Go.Proofs.YthmlidlnojdggaaDoor.Prg
open Go.RowKit Go.Proofs.YthmlidlnojdggaaDoorW.PrintWords Go.Proofs.YthmlidlnojdggaaDoorW.PrintLast Go.Proofs.YthmlidlnojdggaaDoor.Sha Go.Proofs.YthmlidlnojdggaaDoor.Mac

set_option maxRecDepth 100000 in
set_option maxHeartbeats 4000000 in
theorem RefNum_calls (seed : Nat) (l : List UInt8) (a : Int) (hs : seed < 18446744073709551616) (hl : l.length ≤ 300) (V : Nat) (E : Option Int) (o : Bool) (hV : V = nv seed l a) (hE : E = ne l a) (ho : o = E.isNone) (w : World) :
    Calls Tryd.prog 25 #[.int .u64 (seed : Int), .string (strOf l), .int .i64 a] w fun e w' => e = .returned (.tuple #[.int .u64 (V : Int), .bool o]) ∧ Below w.heap.size w w' := by
  have HS := Aside0.mk hs
  clear hs
  by_cases hok : okN l a
  · obtain ⟨hL, h0, h1⟩ := hok
    obtain ⟨i, rfl⟩ := Int.eq_ofNat_of_zero_le h0
    have HE := Aside0.mk (show o = true by rw [ho, hE, ne, if_pos ⟨hL, h0, h1⟩]; rfl)
    have HV := Aside0.mk (show V = num ((blk seed l i).take 8) % prime by rw [hV, nv, if_pos ⟨hL, h0, h1⟩, fnum, Int.toNat_natCast])
    have HLb := Aside0.mk (show true = decide (Lab l) from (decide_eq_true hL).symm)
    obtain ⟨b, hb⟩ : ∃ b, b = blk seed l i := ⟨_, rfl⟩
    have HBL := Aside0.mk (show b.length = 32 by rw [hb]; exact blk_len _ _ _)
    have HB := Aside0.mk hb
    have HZ := Aside0.mk (sz32 b HBL.out)
    have HO := Aside0.mk (show (e8 (List.replicate 32 0)).size = (e8 b).size by rw [e8_size, e8_size, HBL.out]; rfl)
    have hi : i ≤ 2000000 := by omega
    have HT := Aside0.mk (show (b.take 8).length = 8 by rw [List.length_take, HBL.out]; rfl)
    clear hb hL hV hE ho
    go_enter Tryd.func25, Tryd.ntmps25
    go_wp2_with (first
      | ((go_at_call 67; (with_reducible refine (RefLabel_calls l hl true HLb.out w).mono ?_); rintro e W9 ⟨rfl, rfl⟩))
      | (go_at_call 68; (with_reducible refine (RefBlock_calls seed i _ _ rfl rfl HS.out hi l hl b HB.out w).mono ?_); rintro e x1 ⟨rfl, hbx1⟩; have hz1 := Below.size hbx1; replace hbx1 := Aside0.mk hbx1)
      | ((with_reducible refine at_alloc_ (d := some 8) ?_); (refine wpList_make_ (t := 24) ((e8 (List.replicate 32 0))) (fun g => .pointer (some ⟨g, 0, none⟩)) (by rfl) ?_ ?_); (first | (go_simp; done) | (unfold execOp; go_simp; done) | (simp only [Act.put]; go_simp; done) | (go_simp; constructor <;> rfl) | (go_simp; rfl) | rfl); intro g8 x2 hge_g8 B_g8 hbx2; replace B_g8 := Aside0.mk B_g8; have L2_w := Aside0.mk (below_then hbx1.out (Below.size hbx1.out) hbx2); have hz2 := Below.size hbx2; replace hbx2 := Aside0.mk hbx2)
      | ((with_reducible refine at_store_ (x := .tmp 8) ?_); (refine wpList_store_row rfl 24 _ _ rfl g8 (e8 b) _ 24 rfl rfl B_g8.out HZ.out HO.out (e8_one _) ?_); generalize hWx3 : World.setRow x2 _ _ = x3; have L3_w := Aside0.mk (show Below w.heap.size w x3 by rw [← hWx3]; exact below_setRow L2_w.out (by omega) _); have hzL3_w := Below.size L3_w.out; have B_g8_3 := Aside0.mk (show Blk x3 g8 24 (e8 b) by rw [← hWx3]; exact blk_setRow B_g8.out _); clear hWx3; have HG := Aside0.mk B_g8_3.out))
    have HW := Aside0.mk L3_w.out
    go_loop [9, 10] (fun v i => ∃ k m : Nat, k ≤ 8 ∧ i = .int .i64 k ∧ v = .int .u64 m ∧ Aside0 (m = num (b.take k))) (fun _ i => 8 - (intOf i).toNat)
    case atStart => exact ⟨0, 0, by decide, rfl, rfl, ⟨rfl⟩⟩
    case round =>
      obtain ⟨k, m, hk, rfl, rfl, HM⟩ := hrel
      by_cases hlt : k < 8
      · obtain ⟨x, hx⟩ : ∃ x, x = b.getD k 0 := ⟨_, rfl⟩
        have cx := blk8 HG.out k (by rw [HBL.out]; omega)
        rw [← hx] at cx
        have HS2 := Aside0.mk (num_take b k (by rw [HBL.out]; omega) x hx)
        have hb2 : m * 256 < 18446744073709551616 := by rw [HM.out]; exact num_bd b k (by omega)
        have hx8 := x.toNat_lt
        have hwr : IntKind.u64.wrap ((m : Int) * 256) = (m : Int) * 256 := by show (m : Int) * 256 % 18446744073709551616 = _; omega
        have hwr2 : IntKind.u64.wrap ((m : Int) * 256 + (x.toNat : Int)) = (m : Int) * 256 + (x.toNat : Int) := by show ((m : Int) * 256 + (x.toNat : Int)) % 18446744073709551616 = _; omega
        have hwr3 : ((m : Int) * 256) % 18446744073709551616 = (m : Int) * 256 := by omega
        have hwr4 : ((m : Int) * 256 + (x.toNat : Int)) % 18446744073709551616 = (m : Int) * 256 + (x.toNat : Int) := by omega
        have hwx : IntKind.u64.wrap (x.toNat : Int) = (x.toNat : Int) := by show (x.toNat : Int) % 18446744073709551616 = _; omega
        have hki : (k : Int) < 8 := by omega
        clear hx hb2 hx8
        go_wp2_with fail
        --HERE
        go_round
        case rel => exact ⟨k + 1, 256 * m + x.toNat, hlt, by go_num, by go_num, ⟨by rw [HS2.out, HM.out]⟩⟩
        case measure => simp [intOf]; omega
      · obtain rfl : k = 8 := by omega
        clear hlt
        have HV2 := Aside0.mk (show V = m % 2305843009213693951 by rw [HV.out, HM.out, HB.out]; rfl)
        have hp : (m : Int).tmod 2305843009213693951 = ((m % 2305843009213693951 : Nat) : Int) := by rw [Int.tmod_eq_emod_of_nonneg (by omega)]; rfl
        rw [show ((8 : Nat) : Int) = 8 from rfl]
        go_wp2
        go_ret2
        --HERE
        exact ⟨by rw [HV2.out, HE.out]; rfl, HW.out⟩
  · have HV := Aside0.mk (show V = 0 by rw [hV, nv, if_neg hok])
    have HE := Aside0.mk (show o = false by rw [ho, hE, ne, if_neg hok]; rfl)
    by_cases hL : Lab l
    · have HLb := Aside0.mk (show true = decide (Lab l) from (decide_eq_true hL).symm)
      have hbad : a < 0 ∨ (0 ≤ a ∧ 1048576 < a) := by
        by_cases h0 : a < 0
        · exact .inl h0
        · refine .inr ⟨by omega, ?_⟩
          by_cases h1 : 1048576 < a
          · exact h1
          · exact absurd ⟨hL, by omega, by omega⟩ hok
      clear hL hok hV hE ho
      rcases hbad with h0 | ⟨h0, h1⟩
      all_goals
        go_enter Tryd.func25, Tryd.ntmps25
        go_wp2_with (go_at_call 67; (with_reducible refine (RefLabel_calls l hl true HLb.out w).mono ?_); rintro e w1 ⟨rfl, rfl⟩)
        go_ret2
        exact ⟨by rw [HV.out, HE.out]; rfl, Below.refl _ _⟩
    · have HLb := Aside0.mk (show false = decide (Lab l) from (decide_eq_false hL).symm)
      clear hL hok hV hE ho
      go_enter Tryd.func25, Tryd.ntmps25
      go_wp2_with (go_at_call 67; (with_reducible refine (RefLabel_calls l hl false HLb.out w).mono ?_); rintro e w1 ⟨rfl, rfl⟩)
      go_ret2
      exact ⟨by rw [HV.out, HE.out]; rfl, Below.refl _ _⟩
end Go.Proofs.YthmlidlnojdggaaDoor.Prg
