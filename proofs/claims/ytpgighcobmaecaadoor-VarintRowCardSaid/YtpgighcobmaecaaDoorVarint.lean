/- The functions of package varint by contracts. -/
import Derived.Test.YtpgighcobmaecaaDoorNum
import Derived.Test.YtpgighcobmaecaaDoorVarintSpec
set_option linter.unusedVariables false
set_option linter.unusedSimpArgs false
namespace Go.Proofs.YtpgighcobmaecaaDoor.Vi
open Go.RowKit Go.Proofs.YtpgighcobmaecaaDoorW.PrintWords Go.Proofs.YtpgighcobmaecaaDoorW.PrintLast

set_option maxHeartbeats 1000000 in
theorem need_v (v : Nat) (hv : Aside0 (v < 18446744073709551616)) (w : World) (r : Nat) (hr : Aside0 (r = 1 + need0 (v / 256))) :
    Calls Tryd.prog 22 #[.int .u64 (v : Int)] w fun e w' => e = .returned (.int .i64 (r : Int)) ∧ w = w' := by
  have hr8 : r ≤ 9 := by
    have := hv.out
    have := need0_le (v := v / 256) (by omega)
    have := hr.out
    omega
  go_enter Tryd.func22, Tryd.ntmps22
  go_wp2
  go_loop [0, 3] (fun x n => ∃ (u k : Nat), x = .int .u64 (u : Int) ∧ n = .int .i64 (k : Int) ∧ k ≤ 9 ∧ Aside0 (r = k + need0 u)) (fun x _ => (intOf x).toNat)
  case atStart => exact ⟨v / 256, 1, by go_num, by go_num, by omega, hr⟩
  case round =>
    obtain ⟨u, k, rfl, rfl, hk, HK⟩ := hrel
    by_cases hu : 0 < u
    · have hk2 : k + 1 ≤ 9 := by
        have h1 := HK.out
        rw [need0_pos hu] at h1
        omega
      go_wp2
      go_round
      case rel => exact ⟨u / 256, k + 1, by go_num, by go_num, hk2, ⟨by rw [HK.out, need0_pos hu]; omega⟩⟩
      case measure => simp [intOf]; omega
    · go_wp2
      go_ret
      obtain rfl : u = 0 := by omega
      exact ⟨ret_val (int_val (by rw [HK.out, need0_zero]; rfl)), rfl⟩

set_option maxRecDepth 100000 in
theorem Size_v (v : Nat) (hv : Aside0 (v < 18446744073709551616)) (w : World) (r : Nat) (hr : Aside0 (r = size v)) :
    Calls Tryd.prog 13 #[.int .u64 (v : Int)] w fun e w' => e = .returned (.int .i64 (r : Int)) ∧ w = w' := by
  by_cases h : v < 248
  · obtain rfl : r = 1 := by rw [hr.out]; unfold size; rw [if_pos h]
    go_enter Tryd.func13, Tryd.ntmps13
    go_wp2
    go_ret
    exact ⟨rfl, rfl⟩
  · obtain ⟨m, hm⟩ : ∃ m, m = 1 + need0 (v / 256) := ⟨_, rfl⟩
    have hm8 : m ≤ 9 := by
      have := hv.out
      have := need0_le (v := v / 256) (by omega)
      omega
    have HM := Aside0.mk hm
    have HR : Aside0 (r = 1 + m) := ⟨by rw [hr.out, hm]; unfold size; rw [if_neg h, need0_pos (by omega)]⟩
    clear hm hr
    go_enter Tryd.func13, Tryd.ntmps13
    go_wp2_with (go_at_call 22; refine (need_v v hv _ m HM).mono ?_; rintro e w' ⟨rfl, rfl⟩)
    go_ret
    exact ⟨ret_val (int_val (by rw [HR.out]; rfl)), rfl⟩

/-- One byte of a number. -/
theorem byte_at (v j : Nat) : ((UInt8.ofNat (v / 256 ^ j)).toNat : Int) = (v : Int) / 2 ^ (8 * j) % 256 := by
  rw [UInt8.toNat_ofNat', ← pow_cast, ← Int.natCast_ediv, Nat.pow_mul]
  rfl
set_option maxRecDepth 100000 in
set_option maxHeartbeats 2000000 in
theorem Put_v (A : Option Addr) (c n : Nat) (l : List UInt8) (v : Nat) (w : World) (hn : l.length = n) (hr : Kb.C w A n l) (hl : n ≤ 140737488000000) (hv : Aside0 (v < 18446744073709551616)) (z : List UInt8) (hz : Aside0 (z = l ++ enc v)) :
    Calls Tryd.prog 11 #[.slice A n c, .int .u64 (v : Int)] w (RetBs w z) := by
  have HC := Aside0.mk (Clone_v A c n l w hn hr (by omega) l rfl)
  by_cases h : v < 248
  · have hz2 := Aside0.mk (show z = l ++ [UInt8.ofNat v] by rw [hz.out]; unfold enc; rw [if_pos h])
    have hb := Aside0.mk (show (v : Int) = ((UInt8.ofNat v).toNat : Int) by rw [UInt8.toNat_ofNat']; omega)
    subst hn
    clear hr hz
    go_enter Tryd.func11, Tryd.ntmps11
    go_wp2_with (first
      | (go_at_call 21; refine HC.out.mono ?_; rintro e w1 ⟨A1, c1, rfl, hB1, hb1⟩; replace hB1 := Aside0.mk hB1; replace hb1 := Aside0.mk hb1)
      | (at_builtin; refine app_bs (w0 := w) w.heap.size rfl (.tmp 12) (.tmp 15) rfl _ l [UInt8.ofNat v] _ _ _ rfl rfl (hB1.out.alloc _) (Bs.read (Bs.one w1 w.heap.size _ rfl hb1.out.size _ _ hb.out)).1 (hb1.out.alloc hb1.out.size _) (by simp; have := hb1.out.size; omega) (by omega) ?_; intro z2 A2 c2 w2 hz3 hB2 hb2 hs2 hg2))
    go_ret
    obtain rfl : z2 = z := by rw [hz3.out, hz2.out]
    exact ⟨A2, c2, rfl, hB2.out, hb2.out⟩
  · obtain ⟨m, hm⟩ : ∃ m, m = need0 v := ⟨_, rfl⟩
    have hm8 : m ≤ 8 := by
      rw [hm]
      exact need0_le hv.out
    have HN := Aside0.mk (show m = 1 + need0 (v / 256) by rw [hm, need0_pos (by omega)])
    have hz2 := Aside0.mk (show z = (l ++ [UInt8.ofNat (247 + m)]) ++ be v m by rw [hz.out]; unfold enc; rw [if_neg h, ← hm]; simp)
    have hb := Aside0.mk (show (247 : Int) + (m : Int) = ((UInt8.ofNat (247 + m)).toNat : Int) by rw [UInt8.toNat_ofNat']; omega)
    subst hn
    clear hr hz hm
    go_enter Tryd.func11, Tryd.ntmps11
    go_wp2_with (first
      | (go_at_call 21; refine HC.out.mono ?_; rintro e w1 ⟨A1, c1, rfl, hB1, hb1⟩; replace hB1 := Aside0.mk hB1; replace hb1 := Aside0.mk hb1)
      | (go_at_call 22; refine (need_v v hv _ m HN).mono ?_; rintro e w' ⟨rfl, rfl⟩)
      | (at_builtin; refine app_bs (w0 := w) w.heap.size rfl (.tmp 19) (.tmp 23) rfl _ l [UInt8.ofNat (247 + m)] _ _ _ rfl rfl (hB1.out.alloc _) (Bs.read (Bs.one w1 w.heap.size _ rfl hb1.out.size _ _ hb.out)).1 (hb1.out.alloc hb1.out.size _) (by simp; have := hb1.out.size; omega) (by omega) ?_; intro z2 A2 c2 w2 hz3 hB2 hb2 hs2 hg2))
    clear hB1 hb1
    have hlz := Aside0.mk (show z2.length ≤ 140737488000001 by rw [hz3.out]; simp; omega)
    go_loopw [5, 7] (fun o i wr => ∃ (k : Nat) (u : List UInt8) (A3 : Option Addr) (c3 : Nat), k ≤ 8 ∧ i = .int .i64 ((k : Int) - 1) ∧ o = .slice A3 u.length c3 ∧ Aside0 (u.length + k ≤ 140737488100000) ∧ Aside0 (z = u ++ be v k) ∧ Aside0 (Bs wr w.heap.size (.slice A3 u.length c3) u) ∧ Aside0 (Below w.heap.size w wr)) (fun _ i _ => (intOf i + 1).toNat)
    case atStart => exact ⟨m, z2, A2, c2, hm8, by go_num, rfl, ⟨by have := hlz.out; omega⟩, ⟨by rw [hz2.out, hz3.out]⟩, hB2, hb2⟩
    case round =>
      obtain ⟨k, u, A3, c3, hk8, rfl, rfl, hlu, hzu, hB, hBel⟩ := hrel
      by_cases hk : 0 < k
      · obtain ⟨k, rfl⟩ : ∃ k', k = k' + 1 := ⟨k - 1, by omega⟩
        have hby := Aside0.mk (byte_at v k)
        have hle := Aside0.mk (show u.length + 1 ≤ 140737488100000 by have := hlu.out; omega)
        go_wp2_with (at_builtin; refine app_bs (w0 := w) w.heap.size rfl (.tmp 31) (.tmp 38) rfl _ u [UInt8.ofNat (v / 256 ^ k)] _ _ _ rfl rfl (hB.out.alloc _) (Bs.read (Bs.one wr w.heap.size _ rfl hBel.out.size _ _ hby.out.symm)).1 (hBel.out.alloc hBel.out.size _) (by simp; have := hBel.out.size; omega) (by have := hle.out; omega) ?_; intro z5 A5 c5 w5 hz5 hB5 hb5 hs5 hg5)
        go_roundw
        case rel => exact ⟨k, z5, A5, c5, by omega, by go_num, rfl, ⟨by rw [hz5.out]; simp only [List.length_append, List.length_singleton]; have := hlu.out; omega⟩, ⟨by rw [hzu.out, hz5.out]; simp [be]⟩, hB5, hb5⟩
        case measure => simp [intOf]
      · obtain rfl : k = 0 := by omega
        go_wp2
        go_ret
        obtain rfl : z = u := by rw [hzu.out]; simp [be]
        exact ⟨A3, c3, rfl, hB.out, hBel.out⟩

abbrev GotV (o : Option (Nat × Nat)) : Value := .tuple #[.int .u64 (gv o : Int), .int .i64 (gn o : Int), errV (ge o)]
set_option maxRecDepth 100000 in
set_option maxHeartbeats 2000000 in
theorem Get_v (A : Option Addr) (c n : Nat) (l : List UInt8) (w : World) (hn : l.length = n) (hr : Kb.C w A n l) (hl : n ≤ 140737488355328) (hc : n ≤ c) (o : Option (Nat × Nat)) (ho : Aside0 (o = getS l)) :
    Calls Tryd.prog 8 #[.slice A n c] w fun e w' => e = .returned (GotV o) ∧ w = w' := by
  match l, hn with
  | [], hn =>
    subst hn
    obtain rfl : o = none := by rw [ho.out]; rfl
    go_enter Tryd.func8, Tryd.ntmps8
    go_wp2
    go_ret3
    exact ⟨rfl, rfl⟩
  | b :: r, hn =>
    have hb := b.toNat_lt
    obtain ⟨m, hm⟩ : ∃ m, n = m + 1 := ⟨r.length, by rw [← hn]; rfl⟩
    subst hm
    have hrl := Aside0.mk (show r.length = m by simpa using hn)
    obtain ⟨ad, rfl, hx0⟩ := at_b0 hr (by omega)
    have hx0 : w.cell? ad = some (.int .u8 (b.toNat : Int)) := hx0
    have hne : ((m : Int) + 1 == 0) = false := by rw [beq_eq_false_iff_ne]; omega
    by_cases h1 : b.toNat < 248
    · obtain rfl : o = some (b.toNat, 1) := by rw [ho.out, getS_small b r h1]
      clear hn hr ho
      go_enter Tryd.func8, Tryd.ntmps8
      go_wp2
      go_ret3
      exact ⟨ret_val rfl, rfl⟩
    · obtain ⟨k, hk⟩ : ∃ k, k = b.toNat - 247 := ⟨_, rfl⟩
      have hk8 : k ≤ 8 := by omega
      have hk1 : 1 ≤ k := by omega
      have hbk : ((b.toNat : Int) - 247) = (k : Int) := by omega
      by_cases h2 : m < k
      · obtain rfl : o = none := by rw [ho.out, getS_bad b r h1 (.inl (by rw [hrl.out, ← hk]; exact h2))]
        have hd : decide ((m : Int) + 1 < 1 + (k : Int)) = true := decide_eq_true (by omega)
        clear hn hr ho
        go_enter Tryd.func8, Tryd.ntmps8
        go_wp2
        go_ret3
        exact ⟨ret_val rfl, rfl⟩
      · obtain ⟨d, hd0⟩ : ∃ d, d = r.getD 0 0 := ⟨_, rfl⟩
        have hx1 : w.cell? ⟨ad.block, ad.off + 1, none⟩ = some (.int .u8 (d.toNat : Int)) := by
          obtain ⟨ad', e, h⟩ := at_bc hr 1 (by omega) (by omega)
          cases e
          rw [h, hd0]
          rfl
        have hdl : decide ((m : Int) + 1 < 1 + (k : Int)) = false := decide_eq_false (by omega)
        have hm1 : (1 : Int) < (m : Int) + 1 := by omega
        have hd256 := d.toNat_lt
        by_cases h3 : d = 0
        · obtain rfl : o = none := by rw [ho.out, getS_bad b r h1 (.inr (.inl (by rw [← hd0, h3])))]
          have hz : ((d.toNat : Int) == 0) = true := by rw [h3]; rfl
          clear hn hr ho hd0 h3
          go_enter Tryd.func8, Tryd.ntmps8
          go_wp2
          go_ret3
          exact ⟨ret_val rfl, rfl⟩
        · have hz : ((d.toNat : Int) == 0) = false := by
            rw [beq_eq_false_iff_ne]
            intro e
            exact h3 (UInt8.toNat_inj.1 (by simpa using e))
          obtain ⟨A', hcut, hrd⟩ := cut_mid (some ad) c hn 1 (1 + (k : Int)) 1 (1 + k) rfl (by omega) (by omega) (by omega) hc
          have HQ := Aside0.mk (hrd w hr)
          rw [Nat.add_sub_cancel_left] at hcut HQ
          obtain ⟨q, hq⟩ : ∃ q, q = r.take k := ⟨_, rfl⟩
          have hq2 : ((b :: r).take (1 + k)).drop 1 = q := by rw [Nat.add_comm, List.take_succ_cons, hq]; rfl
          rw [hq2] at HQ
          have hql : q.length = k := by rw [hq, List.length_take, hrl.out]; omega
          have HQL := Aside0.mk hql
          have HV := Aside0.mk (val_lt64 q (by omega))
          have hst := Aside0.mk (fun j h => foldl_take (fun (v : Nat) (c : UInt8) => v * 256 + c.toNat) 0 q 0 j h)
          have HO : Aside0 (o = if val q < 248 then none else some (val q, 1 + k)) := ⟨by
            rw [ho.out]
            by_cases h5 : val q < 248
            · rw [if_pos h5, getS_bad b r h1 (.inr (.inr (by rw [← hk, ← hq]; exact h5)))]
            · rw [if_neg h5, getS_ok b r h1 (by rw [← hk, ← hq, ← hd0, hrl.out]; rintro (h | h | h) <;> first | omega | exact h3 h), ← hk, ← hq]⟩
          clear hn hr ho hd0 h3 hq hq2 hql hrd hk
          go_enter Tryd.func8, Tryd.ntmps8
          go_wp2
          go_loop [6, 8, 43] (fun x _ i => ∃ (j v : Nat), j ≤ k ∧ i = .int .i64 (j : Int) ∧ x = .int .u64 (v : Int) ∧ Aside0 (v = val (q.take j))) (fun _ _ i => k - (intOf i).toNat)
          case atStart => exact ⟨0, 0, by omega, rfl, rfl, ⟨rfl⟩⟩
          case round =>
            obtain ⟨j, v, hj, rfl, rfl, HVJ⟩ := hrel
            by_cases hjk : j < k
            · obtain ⟨ad2, rfl, hx2⟩ := at_bn HQ.out j hjk
              obtain ⟨x, hx3⟩ : ∃ x, x = q.getD j 0 := ⟨_, rfl⟩
              rw [← hx3] at hx2
              replace hx3 := Aside0.mk hx3
              have hor := Aside0.mk (or64 v x (by
                have h5 := val_lt (q.take j)
                rw [List.length_take, HQL.out, Nat.min_eq_left (by omega), ← HVJ.out] at h5
                have h6 := Nat.pow_le_pow_right (n := 256) (by decide) (show j ≤ 7 by omega)
                have e : (256 : Nat) ^ 7 = 72057594037927936 := by decide
                omega))
              go_wp2
              go_round
              case rel => exact ⟨j + 1, v * 256 + x.toNat, by omega, by go_num, int_val hor.out, ⟨by rw [HVJ.out, hx3.out]; exact (hst.out j (by rw [HQL.out]; exact hjk)).symm⟩⟩
              case measure => simp [intOf]; omega
            · have hvv := Aside0.mk (show v = val q by rw [HVJ.out, List.take_of_length_le (by rw [HQL.out]; omega)])
              by_cases h5 : v < 248
              · obtain rfl : o = none := by rw [HO.out, if_pos (by rw [← hvv.out]; exact h5)]
                go_wp2
                go_ret3
                exact ⟨ret_val rfl, rfl⟩
              · obtain rfl : o = some (v, 1 + k) := by rw [HO.out, if_neg (by rw [← hvv.out]; exact h5), ← hvv.out]
                go_wp2
                go_ret3
                exact ⟨ret_val rfl, rfl⟩
end Go.Proofs.YtpgighcobmaecaaDoor.Vi
