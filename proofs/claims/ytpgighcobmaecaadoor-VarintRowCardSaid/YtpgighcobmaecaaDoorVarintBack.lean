/- The law VarintBack by its walk. -/
import Derived.Test.YtpgighcobmaecaaDoorVarintBytes
import Derived.Test.YtpgighcobmaecaaDoorVarintOrder
set_option linter.unusedVariables false
set_option linter.unusedSimpArgs false
namespace Go.Proofs.YtpgighcobmaecaaDoor.Vi
open Go.RowKit Go.Proofs.YtpgighcobmaecaaDoorW.PrintWords Go.Proofs.YtpgighcobmaecaaDoorW.PrintLast ErrAs

theorem put_nil (v : Nat) (hv : v < 18446744073709551616) (w : World) (z : List UInt8) (hz : z = enc v) (N : Nat) (hN : N = z.length) :
    Calls Tryd.prog 11 #[.slice none 0 0, .int .u64 (v : Int)] w fun e w' => ∃ A c, e = .returned (.slice A N c) ∧ Bs w' w.heap.size (.slice A N c) z ∧ Below w.heap.size w w' := by
  subst hN
  exact Put_v none 0 0 [] v w rfl (nil_read _) (by decide) ⟨hv⟩ z ⟨hz⟩
theorem zero_read (w : World) (A : Option Addr) : Kb.C w A 0 [] := Kd.C_of_reads (d := (0 : UInt8)) ⟨rfl, by decide, fun h => absurd h (by decide)⟩
set_option maxRecDepth 100000 in
set_option maxHeartbeats 4000000 in
theorem back_calls (v u : Nat) (A : Option Addr) (c n : Nat) (l : List UInt8) (w : World) (hv : v < 18446744073709551616) (hu : u < 18446744073709551616) (hn : l.length = n) (hr : Kb.C w A n l) (hl : n ≤ 140737488351232) (hc : n ≤ c) (hg : Laid w) :
    Calls Tryd.prog 4 #[.int .u64 (v : Int), .int .u64 (u : Int), .slice A n c] w fun e w' => e = .returned (.bool true) ∧ Below w.heap.size w w' := by
  have HG := Aside0.mk hg
  clear hg
  by_cases h : 300 < n
  · have hd : decide ((300 : Int) < (n : Int)) = true := decide_eq_true (by omega)
    go_enter Tryd.func4, Tryd.ntmps4
    go_wp2_with (go_at_call 7; refine (sure_calls _ HG.out).mono ?_; rintro e w2 ⟨rfl, hb2⟩; replace hb2 := Aside0.mk hb2)
    go_ret
    exact ⟨rfl, hb2.out⟩
  · have hd : decide ((300 : Int) < (n : Int)) = false := decide_eq_false (by omega)
    obtain ⟨z1, hz1⟩ : ∃ z, z = enc v := ⟨_, rfl⟩
    obtain ⟨z2, hz2⟩ : ∃ z, z = enc u := ⟨_, rfl⟩
    obtain ⟨m, hm⟩ : ∃ m, size v = m + 1 := ⟨size v - 1, by have := size_pos v; omega⟩
    have hm9 : m ≤ 8 := by have := size_le hv; omega
    have HM := Aside0.mk (show m + 1 = z1.length by rw [hz1, enc_length, hm])
    have HS := Aside0.mk (show m + 1 = size v from hm.symm)
    obtain ⟨t, ht⟩ : ∃ t, decide (v < u) = t := ⟨_, rfl⟩
    have hless : Op.bytesLess (strOf z1).toList (strOf z2).toList = t := by
      rw [strOf_toList, strOf_toList, hz1, hz2, less_enc hv hu, ← ht]
    obtain ⟨q, hq⟩ : ∃ q, q = z1.take m := ⟨_, rfl⟩
    have HQ := Aside0.mk (show q.length = m ∧ none = getS q by
      have h1 := HM.out
      have h2 := getS_cut hv
      rw [← hz1, ← h1, Nat.add_sub_cancel, ← hq] at h2
      exact ⟨by rw [hq, List.length_take]; omega, h2.symm⟩)
    have HZ := Aside0.mk (show some (v, m + 1) = getS (z1 ++ l) by rw [hz1, getS_enc hv, hm])
    have HR := Aside0.mk hr
    have HN := Aside0.mk hn
    have HV := Aside0.mk hv
    have HU := Aside0.mk hu
    have HZ1 := Aside0.mk hz1
    have HZ2 := Aside0.mk hz2
    have HQ1 := Aside0.mk hq
    clear hr hn hv hu hz1 hz2 hq hm
    go_enter Tryd.func4, Tryd.ntmps4
    go_wp2_with (first
      | (go_at_call 11; (with_reducible refine (put_nil v HV.out w z1 HZ1.out (m + 1) HM.out).mono ?_); rintro e w1 ⟨A1, c1, rfl, hB1, hb1⟩; replace hB1 := Aside0.mk hB1; replace hb1 := Aside0.mk hb1)
      | (go_at_call 11; (with_reducible refine (put_nil u HU.out w1 z2 HZ2.out z2.length rfl).mono ?_); rintro e w2 ⟨A2, c2, rfl, hB2, hb2⟩; have HB2 := Aside0.mk (below_step hb1.out hb2); have R1 := Aside0.mk (Kd.C_below (Bs.read hB1.out).1 hb2); have hc1 := (Bs.read hB1.out).2.2; have R2 := Aside0.mk (Bs.read hB2).1; have RP := Aside0.mk (Kd.C_below HR.out HB2.out); clear hB1 hb1 hB2 hb2)
      | (at_builtin; refine app_bs (w0 := w2) w2.heap.size rfl (.tmp 24) (.tmp 25) rfl _ [] z1 _ _ _ rfl rfl (Bs.emp w2 _ _ rfl (Nat.le_refl _)) (Kd.C_alloc R1.out _) (below_alloc (Below.refl _ _) _) (by simp) (by simp only [List.length_nil]; omega) ?_; intro z3 A3 c3 w3 hz3 hB3 hb3 hs3 hg3; have hl3 := (show z3.length ≤ 9 by rw [hz3.out, List.nil_append, ← HM.out]; omega))
      | (at_builtin; refine app_bs (w0 := w2) w2.heap.size rfl (.tmp 26) (.tmp 27) rfl _ z3 l _ _ _ rfl rfl hB3.out (Kd.C_below RP.out hb3.out) hb3.out hs3.out (by omega) ?_; intro z4 A4 c4 w4 hz4 hB4 hb4 hs4 hg4; have HZ4 := Aside0.mk (show some (v, m + 1) = getS z4 by rw [hz4.out, hz3.out, List.nil_append, HZ.out]); have hl4 := (show z4.length ≤ 309 by rw [hz4.out, List.length_append, HN.out]; omega); obtain ⟨hcut, hrd⟩ := cut_hi' (l := z1) A1 c1 HM.out.symm (m : Int) m rfl (by omega) hc1; have RQ := Aside0.mk (show Kb.C w4 A1 m q by rw [HQ1.out]; exact hrd w4 (Kd.C_below R1.out hb4.out)); clear hrd)
      | (go_at_call 8; (with_reducible refine (Get_ok A4 c4 _ z4 _ rfl (Bs.read hB4.out).1 (by omega) (Bs.read hB4.out).2.2 v (m + 1) HZ4.out).mono ?_); rintro e w' ⟨rfl, rfl⟩)
      | (go_at_call 8; (with_reducible refine (Get_bad A1 c1 m q _ HQ.out.1 RQ.out (by omega) (by omega) HQ.out.2).mono ?_); rintro e w' ⟨rfl, rfl⟩)
      | (go_at_call 8; (with_reducible refine (Get_bad A1 c1 0 [] _ rfl (zero_read _ _) (by decide) (Nat.zero_le _) rfl).mono ?_); rintro e w' ⟨rfl, rfl⟩)
      | (go_at_call 13; (with_reducible refine (Size_v v HV _ (m + 1) HS).mono ?_); rintro e w' ⟨rfl, rfl⟩)
      | (go_at_call 10; (with_reducible refine (caucuslaw11.num_some 3 _ (HG.out.below (below_step HB2.out hb4.out))).mono ?_); rintro e w5 ⟨rfl, hb5⟩; have HB5 := Aside0.mk (below_step (below_step HB2.out hb4.out) hb5); have e1 := str_of (c := c1) (Kd.C_below (Kd.C_below R1.out hb4.out) hb5); have e2 := str_of (c := c2) (Kd.C_below (Kd.C_below R2.out hb4.out) hb5); clear hb5)
      | (go_at_call 7; refine (sure_calls _ (HG.out.below HB5.out)).mono ?_; rintro e w6 ⟨rfl, hb6⟩; have HB6 := Aside0.mk (below_step HB5.out hb6); clear hb6))
    all_goals
      go_ret
      exact ⟨rfl, HB6.out⟩
end Go.Proofs.YtpgighcobmaecaaDoor.Vi
