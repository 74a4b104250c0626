/- The law SenderOrder by its walk. -/
import Derived.Test.YtpgighcobmaecaaSenderSure
set_option linter.unusedVariables false
set_option linter.unusedSimpArgs false
namespace Go.Proofs.Ytpgighcobmaecaa.Sn
open Go.RowKit Go.Proofs.YtpgighcobmaecaaW.PrintWords Go.Proofs.YtpgighcobmaecaaW.PrintLast

theorem at_q {w : World} {A : Option Addr} {n : Nat} {l : List (List UInt8)} (h : Kq.C w A n l) (i : Nat) (hi : i < n) (b : List UInt8) (hb : b = l.getD i []) :
    ∃ ad A1 c1, A = some ad ∧ w.cell? (ad.add i) = some (.slice A1 b.length c1) ∧ Kb.C w A1 b.length b ∧ b.length ≤ c1 := by
  obtain ⟨ad, cs, rfl, hl, ⟨A1, c1, rfl, hc1, hK⟩, hcell⟩ := Kd.C_get h [] (i : Int) (by omega) (by omega)
  rw [Int.toNat_natCast] at hc1 hK hcell
  rw [← hb] at hc1 hK hcell
  refine ⟨ad, A1, c1, rfl, ?_, hK, hc1⟩
  have := hcell 0 _ rfl
  rwa [show i * Kd.sz Kq + 0 = i by show i * 1 + 0 = i; omega] at this
theorem take_snoc {α : Type} (l : List α) (d : α) (k : Nat) (hk : k < l.length) : l.take (k + 1) = l.take k ++ [l.getD k d] := by
  rw [List.take_succ_eq_append_getElem hk, List.getD_eq_getElem?_getD, List.getElem?_eq_getElem hk]
  rfl
theorem drop_cons {α : Type} (l : List α) (d : α) (k : Nat) (hk : k < l.length) : l.drop k = l.getD k d :: l.drop (k + 1) := by
  rw [List.drop_eq_getElem_cons hk, List.getD_eq_getElem?_getD, List.getElem?_eq_getElem hk]
  rfl
theorem Out_any (w : World) (p ep sq st lf : Nat) (v : Value) (b : List UInt8) (r : List (List UInt8)) (h : So w p ep sq st lf v (b :: r)) (hst : st ≤ 3) (hlf : lf ≤ 24) (hb : b.length ≤ 8192) :
    Calls Try.prog 21 #[.pointer (some ⟨p, 0, none⟩)] w fun e w' => ∃ (x : Int) (A : Option Addr) (m c : Nat) (is : Bool) (st' lf' : Nat), e = .returned (.tuple #[.int .i64 x, .slice A m c, .bool is]) ∧ So w' p ep sq st' lf' v (b :: r) ∧ st' ≤ 3 ∧ lf' ≤ 24 ∧ Below p w w' ∧ ((is = true ∧ x = (sq : Int) ∧ m = b.length ∧ Kb.C w' A m b) ∨ (is = false ∧ lf' = lf ∧ st' = st ∧ 0 < lf ∧ w' = w)) := by
  rcases Nat.eq_zero_or_pos lf with rfl | h0
  · refine (Out_yes w p ep sq st v b r h hst hb).mono ?_
    rintro e w' ⟨A, c, rfl, hR, hS, hB, _⟩
    refine ⟨_, A, _, c, true, _, _, rfl, hS, by omega, ?_, hB, .inl ⟨rfl, rfl, rfl, (Bs.read hR).1⟩⟩
    unfold wait
    rcases (show st = 0 ∨ st = 1 ∨ st = 2 ∨ st = 3 by omega) with rfl | rfl | rfl | rfl <;> decide
  · refine (Out_no w p ep sq st lf v _ h (.inr h0)).mono ?_
    rintro e w' ⟨rfl, rfl⟩
    exact ⟨0, none, 0, 0, false, st, lf, rfl, h, hst, hlf, Below.refl _ _, .inr ⟨rfl, rfl, rfl, h0, rfl⟩⟩
def f5_r26.T26 : Bool × List (List Nat × List Nat) := (true, [([], []), ([0], [0]), ([1], [1]), ([2], [2]), ([2], [2]), ([4, 2], [2, 4]), ([3, 5, 2], [2, 3, 5]), ([2, 6], [2, 6]), ([7, 2], [7]), ([8], [8]), ([9, 8], [8, 9]), ([8], [8]), ([8], [8]), ([11, 12, 8], [8, 11, 12]), ([13, 8], [8, 13]), ([14, 8], [8, 14]), ([10, 15, 8], [8, 10, 15]), ([8, 16], [8, 16])])
def f5_r26.B26 : List Nat := [0, 1, 3, 7, 7, 23, 63, 127, 255, 511, 1023, 511, 511, 6655, 14847, 31231, 65535, 131071]
theorem f5_r26.tab26 : Go.Proofs.YtpgighcobmaecaaW.PrintLast.rtab .any (Go.Proofs.YtpgighcobmaecaaW.PrintLast.opsOf Try.f5 26) = f5_r26.T26 := by kernel_rfl
theorem f5_r26.bits26 : Go.Proofs.YtpgighcobmaecaaW.PrintLast.waitsOk f5_r26.T26.2 f5_r26.B26 = true := by kernel_rfl
set_option maxRecDepth 100000 in
set_option maxHeartbeats 8000000 in
theorem order_calls (A : Option Addr) (c n : Nat) (l : List (List UInt8)) (T : Option Addr) (tc tn : Nat) (ts : List UInt8) (w : World) (hn : l.length = n) (hr : Kq.C w A n l) (hc : n ≤ c) (htn : ts.length = tn) (hrt : Kb.C w T tn ts) :
    Calls Try.prog 5 #[.slice A n c, .slice T tn tc] w fun e w' => e = .returned (.bool true) ∧ Below w.heap.size w w' := by
  have HR := Aside0.mk hr
  have HN := Aside0.mk hn
  have HRT := Aside0.mk hrt
  have HTN := Aside0.mk htn
  have hm := hr.2.1
  have htm := hrt.2.1
  clear hr hn hrt htn
  by_cases h : 30 < n
  · have hd : decide ((30 : Int) < (n : Int)) = true := decide_eq_true (by omega)
    go_enter Try.func5, Try.ntmps5
    go_wp2_with (first
      | (go_at_call 18; (with_reducible refine (New_n 1 1 rfl (by decide) (by decide) w).mono ?_); rintro e w1 ⟨rfl, hS1, hb1⟩; have HB1 := Aside0.mk hb1; clear hS1 hb1)
      | (go_at_call 19; refine (sure_calls _).mono ?_; rintro e w2 ⟨rfl, hb2⟩; have HB2 := Aside0.mk (below_step HB1.out hb2); clear hb2))
    go_ret
    exact ⟨rfl, HB2.out⟩
  · have hd : decide ((30 : Int) < (n : Int)) = false := decide_eq_false (by omega)
    go_enter Try.func5, Try.ntmps5
    go_wp2_with (go_at_call 18; (with_reducible refine (New_n 1 1 rfl (by decide) (by decide) w).mono ?_); rintro e w1 ⟨rfl, hS1, hb1⟩; have HB1 := Aside0.mk hb1; have S1 := Aside0.mk hS1; clear hS1 hb1)
    obtain ⟨p, hp⟩ : ∃ p, p = w.heap.size := ⟨_, rfl⟩
    rw [← hp] at S1 ⊢
    have HP := Aside0.mk hp
    clear hp
    go_loopw [7] (fun i wr => ∃ (k : Nat) (v : Value), i = .int .i64 (k : Int) ∧ k ≤ n ∧ Aside0 (So wr p 1 1 0 0 v (l.take k)) ∧ Aside0 (Below w.heap.size w wr) ∧ Aside0 (∀ i, i < k → (l.getD i []).length ≤ 300)) (fun i _ => n - (intOf i).toNat)
    case atStart => exact ⟨0, _, rfl, by omega, S1, ⟨by exact HB1.out⟩, ⟨fun i hi => by omega⟩⟩
    case round =>
      obtain ⟨k, v, rfl, hk, S, HB, HL⟩ := hrel
      by_cases hkn : k < n
      · obtain ⟨b, hb⟩ : ∃ b, b = l.getD k [] := ⟨_, rfl⟩
        obtain ⟨ad, A1, c1, rfl, hcell, hK, hc1⟩ := at_q (Kd.C_below HR.out HB.out) k hkn b hb
        have HBB := Aside0.mk hb
        have HK := Aside0.mk hK
        clear hb hK
        by_cases h3 : 300 < b.length
        · have hd3 : decide (300 < b.length) = true := decide_eq_true h3
          go_wp2_with (go_at_call 19; refine (sure_calls _).mono ?_; rintro e w2 ⟨rfl, hb2⟩; have HB2 := Aside0.mk (below_step HB.out hb2); clear hb2)
          go_ret
          exact ⟨rfl, HB2.out⟩
        · have hd3 : decide (300 < b.length) = false := decide_eq_false h3
          have hlt := Aside0.mk (show (l.take k).length = k by rw [List.length_take, HN.out]; omega)
          go_wp2_with (go_at_call 20; (with_reducible refine (Put_v wr p 1 1 0 0 v (l.take k) S.out A1 c1 b.length b rfl HK.out (by omega) (by rw [hlt.out]; omega) (by rw [hlt.out]; omega)).mono ?_); rintro e w2 ⟨rfl, ⟨v2, hS2⟩, hb2⟩; have S2 := Aside0.mk hS2; have HB2 := Aside0.mk (show Below w.heap.size w w2 from HB.out.trans (HP.out ▸ hb2)); clear hS2 hb2)
          go_roundw
          case rel => exact ⟨k + 1, v2, by go_num, by omega, ⟨by rw [take_snoc l [] k (by rw [HN.out]; exact hkn), ← HBB.out]; exact S2.out⟩, HB2, ⟨fun i hi => by
            rcases Nat.lt_succ_iff_lt_or_eq.1 hi with h | h
            · exact HL.out i h
            · rw [h, ← HBB.out]; omega⟩⟩
          case measure => simp [intOf]; omega
      · obtain rfl : k = n := by omega
        have S3 := Aside0.mk (show So wr p 1 1 0 0 v l by
          have := S.out
          rwa [List.take_of_length_le (Nat.le_of_eq HN.out)] at this)
        have HL2 := HL
        clear S HL
        obtain ⟨wb, hwb⟩ : ∃ x, x = wr := ⟨_, rfl⟩
        subst hwb
        go_wp2
        go_loopw [8] (fun i wr => ∃ (j : Nat) (v : Value), i = .int .i64 (j : Int) ∧ j ≤ k ∧ Aside0 (So wr p 1 (j + 1) 0 0 v (l.drop j)) ∧ Aside0 (Below w.heap.size w wr)) (fun i _ => k - (intOf i).toNat)
        case atStart => exact ⟨0, v, rfl, by omega, S3, HB⟩
        case round =>
          obtain ⟨j, v2, rfl, hj, S4, HB4⟩ := hrel
          by_cases hjk : j < k
          · obtain ⟨b, hb⟩ : ∃ b, b = l.getD j [] := ⟨_, rfl⟩
            obtain ⟨ad, _, _, rfl, _, _, _⟩ := at_q (Kd.C_below HR.out HB4.out) j hjk b hb
            have hb3 : b.length ≤ 300 := by rw [hb]; exact HL2.out j hjk
            obtain ⟨r, hrr⟩ : ∃ r, r = l.drop (j + 1) := ⟨_, rfl⟩
            have S5 := Aside0.mk (show So wr p 1 (j + 1) 0 0 v2 (b :: r) by
              have := S4.out
              rwa [drop_cons l [] j (by rw [HN.out]; exact hjk), ← hb, ← hrr] at this)
            have hrl : r.length + j + 1 = k := by rw [hrr, List.length_drop, HN.out]; omega
            have hwt : ((r.length : Int) == (k : Int) - (j : Int) - 1) = true := by rw [beq_iff_eq]; omega
            have HBB := Aside0.mk hb
            have HRR := Aside0.mk hrr
            clear hb hrr S4
            by_cases ht : 0 < tn
            · have hdt0 : decide (0 < tn) = true := decide_eq_true ht
              obtain ⟨q, hq⟩ : ∃ q, q = j % tn := ⟨_, rfl⟩
              have hql : q < tn := by rw [hq]; exact Nat.mod_lt _ ht
              have htm : (j : Int).tmod (tn : Int) = (q : Int) := by rw [hq, Int.tmod_eq_emod_of_nonneg (by omega), ← Int.natCast_emod]
              obtain ⟨at1, rfl, hcq⟩ := at_bn (Kd.C_below HRT.out HB4.out) q hql
              obtain ⟨x, hx⟩ : ∃ x, x = ts.getD q 0 := ⟨_, rfl⟩
              rw [← hx] at hcq
              obtain ⟨M, hM⟩ : ∃ M, M = x.toNat % 5 + 1 := ⟨_, rfl⟩
              have hx5 : (x.toNat : Int).tmod 5 = ((M : Int) - 1) := by rw [hM, Int.tmod_eq_emod_of_nonneg (by omega)]; omega
              have hM1 : 1 ≤ M := by omega
              have hM5 : M ≤ 5 := by omega
              clear hq hx hM
              go_wp2
              rw [show (1 : Int) + ((M : Int) - 1) = (M : Int) by omega]
              go_loopw [10] (fun i wr => ∃ (m st lf : Nat), i = .int .i64 (m : Int) ∧ m ≤ M ∧ st ≤ 3 ∧ lf ≤ 24 ∧ Aside0 (So wr p 1 (j + 1) st lf v2 (b :: r)) ∧ Aside0 (Below w.heap.size w wr)) (fun i _ => M - (intOf i).toNat)
              case atStart => exact ⟨0, 0, 0, rfl, by omega, by omega, by omega, S5, HB4⟩
              case round =>
                obtain ⟨m, st, lf, rfl, hmM, hst, hlf, S6, HB6⟩ := hrel
                by_cases hmM2 : m < M
                · have hdm : decide (m < M) = true := decide_eq_true hmM2
                  go_wp2_with (go_at_call 21; (with_reducible refine (Out_any wr p 1 (j + 1) st lf v2 b r S6.out hst hlf (by omega)).mono ?_); rintro e w7 ⟨x7, A7, m7, c7, is7, st7, lf7, rfl, hS7, hst7, hlf7, hb7, hor7⟩; have S7 := Aside0.mk hS7; have HB7 := Aside0.mk (show Below w.heap.size w w7 from HB6.out.trans (HP.out ▸ hb7)); have OR7 := Aside0.mk hor7; clear hS7 hb7 hor7)
                  go_loopw [11, 12, 13, 14] (fun n b' i t wr => ∃ (x : Int) (A8 : Option Addr) (m8 c8 : Nat) (is : Bool) (t8 st8 lf8 : Nat), n = .int .i64 x ∧ b' = .slice A8 m8 c8 ∧ i = .bool is ∧ t = .int .i64 (t8 : Int) ∧ t8 ≤ 24 ∧ st8 ≤ 3 ∧ lf8 ≤ 24 ∧ Aside0 (So wr p 1 (j + 1) st8 lf8 v2 (b :: r)) ∧ Aside0 (Below w.heap.size w wr) ∧ Aside0 ((is = true ∧ x = (j : Int) + 1 ∧ m8 = b.length ∧ Kb.C wr A8 m8 b) ∨ (is = false ∧ 0 < lf8 ∧ lf8 + t8 ≤ 24))) (fun _ _ _ t _ => 24 - (intOf t).toNat)
                  case atStart => exact ⟨x7, A7, m7, c7, is7, 0, st7, lf7, rfl, rfl, rfl, rfl, by omega, hst7, hlf7, S7, HB7, ⟨by
                    rcases OR7.out with ⟨h1, h2, h3, h4⟩ | ⟨h1, h2, h3, h4, h5⟩
                    · exact .inl ⟨h1, by rw [h2]; omega, h3, h4⟩
                    · exact .inr ⟨h1, by omega, by omega⟩⟩⟩
                  case round =>
                    obtain ⟨x8, A8, m8, c8, is8, t8, st8, lf8, rfl, rfl, rfl, rfl, ht8, hst8, hlf8, S8, HB8, OR8⟩ := hrel
                    cases is8 with
                    | false =>
                      have h9 : 0 < lf8 ∧ lf8 + t8 ≤ 24 := by
                        rcases OR8.out with ⟨h1, _⟩ | ⟨_, h2, h3⟩
                        · cases h1
                        · exact ⟨h2, h3⟩
                      have hdt : decide (t8 < 24) = true := decide_eq_true (by omega)
                      go_wp2_with (first
                        | (go_at_call 22; (with_reducible refine (Tick_v wr p 1 (j + 1) st8 lf8 v2 (b :: r) S8.out hlf8).mono ?_); rintro e w9 ⟨rfl, hS9, hb9, _⟩; have S9 := Aside0.mk hS9; have HB9 := Aside0.mk (show Below w.heap.size w w9 from HB8.out.trans (HP.out ▸ hb9)); clear hS9 hb9)
                        | (go_at_call 21; (with_reducible refine (Out_any w9 p 1 (j + 1) st8 (lf8 - 1) v2 b r S9.out hst8 (by omega) (by omega)).mono ?_); rintro e w10 ⟨x10, A10, m10, c10, is10, st10, lf10, rfl, hS10, hst10, hlf10, hb10, hor10⟩; have S10 := Aside0.mk hS10; have HB10 := Aside0.mk (show Below w.heap.size w w10 from HB9.out.trans (HP.out ▸ hb10)); have OR10 := Aside0.mk hor10; clear hS10 hb10 hor10))
                      go_roundw
                      case rel => exact ⟨x10, A10, m10, c10, is10, t8 + 1, st10, lf10, rfl, rfl, rfl, by go_num, by omega, hst10, hlf10, S10, HB10, ⟨by
                        rcases OR10.out with ⟨h1, h2, h3, h4⟩ | ⟨h1, h2, h3, h4, h5⟩
                        · exact .inl ⟨h1, by rw [h2]; omega, h3, h4⟩
                        · exact .inr ⟨h1, by omega, by omega⟩⟩⟩
                      case measure => simp [intOf]; omega
                    | true =>
                      obtain ⟨hx8, hm8, hK8⟩ : x8 = (j : Int) + 1 ∧ m8 = b.length ∧ Kb.C wr A8 m8 b := by
                        rcases OR8.out with ⟨_, h2, h3, h4⟩ | ⟨h1, _⟩
                        · exact ⟨h2, h3, h4⟩
                        · cases h1
                      subst hx8 hm8
                      have HB11 := Aside0.mk (Below.drew HB8.out)
                      obtain ⟨ad', A9, c9, ea, hcell9, hK9, _⟩ := at_q (Kd.C_below HR.out HB11.out) j hjk b HBB.out
                      injection ea with ea
                      subst ea
                      have HK8 := Aside0.mk (show Kb.C wr.drew A8 b.length b from hK8)
                      have HK9 := Aside0.mk hK9
                      have HC9 := Aside0.mk hcell9
                      have S11 := Aside0.mk (S8.out.below (Below.drew (Below.refl _ _)))
                      clear hK8 hK9 hcell9
                      have hw1 : wrap64 ((j : Int) + 1) = (j : Int) + 1 := by unfold wrap64; omega
                      go_wp2
                      all_goals
                        refine start_ (n := 18) (S := fun w' => w'.cell? (ad.add j) = some (.slice A9 b.length c9) ∧ Kb.C w' A8 b.length b ∧ Kb.C w' A9 b.length b ∧ True) (ds := []) #[false, false, false, false, false, false, false, false, false, false, false, false, false, false, false, false, false, false] (by kernel_rfl) rfl rfl ⟨HC9.out, HK8.out, HK9.out, trivial⟩ (fun hHeld => ?_)
                        refine with_tabW f5_r26.tab26 f5_r26.bits26 (fun HT_ HW_ => ?_)
                        generalize wr.drew = w11 at S11 HB11 hHeld HC9 HK8 HK9 ⊢
                        refine pure_ (i := 0) (N := some 108) (v := ?_) (a' := ?_) #[true, false, false, false, false, false, false, false, false, false, false, false, false, false, false, false, false, false] rfl rfl (any_of HT_.out (by kernel_rfl)) (fun _ _ _ h => h) (Or.inl ⟨by rfl, ?_⟩) ?_ ?_
                        rotate_left
                        · intro w'
                          go_simp
                          with_reducible rfl
                        rotate_left
                        · simp only [Act.put, List.setIfInBounds_toArray, List.set_cons_zero, List.set_cons_succ, i64_w, i32_w]
                          rfl
                        refine pure_ (i := 1) (N := some 109) (v := ?_) (a' := ?_) #[true, true, false, false, false, false, false, false, false, false, false, false, false, false, false, false, false, false] rfl rfl (any_of HT_.out (by kernel_rfl)) (fun _ _ _ h => h) (Or.inl ⟨by rfl, ?_⟩) ?_ ?_
                        rotate_left
                        · intro w'
                          go_simp
                          with_reducible rfl
                        rotate_left
                        · simp only [Act.put, List.setIfInBounds_toArray, List.set_cons_zero, List.set_cons_succ, i64_w, i32_w]
                          rfl
                        refine pure_ (i := 2) (N := some 110) (v := ?_) (a' := ?_) #[true, true, true, false, false, false, false, false, false, false, false, false, false, false, false, false, false, false] rfl rfl (any_of HT_.out (by kernel_rfl)) (fun _ _ _ h => h) (Or.inl ⟨by rfl, ?_⟩) ?_ ?_
                        rotate_left
                        · intro w'
                          go_simp
                          with_reducible rfl
                        rotate_left
                        · simp only [Act.put, List.setIfInBounds_toArray, List.set_cons_zero, List.set_cons_succ, i64_w, i32_w]
                          rfl
                        refine pure_ (i := 3) (N := some 111) (v := ?_) (a' := ?_) #[true, true, true, true, false, false, false, false, false, false, false, false, false, false, false, false, false, false] rfl rfl (any_of HT_.out (by kernel_rfl)) (fun _ _ _ h => h) (Or.inl ⟨by rfl, ?_⟩) ?_ ?_
                        rotate_left
                        · intro w'
                          go_simp
                          with_reducible rfl
                        rotate_left
                        · simp only [Act.put, List.setIfInBounds_toArray, List.set_cons_zero, List.set_cons_succ, i64_w, i32_w]
                          rfl
                        refine pure_ (i := 4) (N := some 112) (v := ?_) (a' := ?_) #[true, true, true, true, true, false, false, false, false, false, false, false, false, false, false, false, false, false] rfl rfl (any_of HT_.out (by kernel_rfl)) (fun _ _ _ h => h) (Or.inl ⟨by rfl, ?_⟩) ?_ ?_
                        rotate_left
                        · intro w'
                          go_simp
                          with_reducible rfl
                        rotate_left
                        · simp only [Act.put, List.setIfInBounds_toArray, List.set_cons_zero, List.set_cons_succ, i64_w, i32_w]
                          rfl
                        refine pure_ (i := 5) (N := some 113) (v := ?_) (a' := ?_) #[true, true, true, true, true, true, false, false, false, false, false, false, false, false, false, false, false, false] rfl rfl (any_of HT_.out (by kernel_rfl)) (fun _ _ _ h => h) (Or.inl ⟨by rfl, ?_⟩) ?_ ?_
                        rotate_left
                        · intro w'
                          go_simp
                          with_reducible rfl
                        rotate_left
                        · simp only [Act.put, List.setIfInBounds_toArray, List.set_cons_zero, List.set_cons_succ, i64_w, i32_w]
                          rfl
                        refine pure_ (i := 6) (N := some 114) (v := ?_) (a' := ?_) #[true, true, true, true, true, true, true, false, false, false, false, false, false, false, false, false, false, false] rfl rfl (any_of HT_.out (by kernel_rfl)) (fun _ _ _ h => h) (Or.inl ⟨by rfl, ?_⟩) ?_ ?_
                        rotate_left
                        · intro w'
                          go_simp
                          with_reducible rfl
                        rotate_left
                        · simp only [Act.put, List.setIfInBounds_toArray, List.set_cons_zero, List.set_cons_succ, i64_w, i32_w]
                          rfl
                        refine pure_ (i := 7) (N := some 115) (v := ?_) (a' := ?_) #[true, true, true, true, true, true, true, true, false, false, false, false, false, false, false, false, false, false] rfl rfl (any_of HT_.out (by kernel_rfl)) (fun _ _ _ h => h) (Or.inl ⟨by rfl, ?_⟩) ?_ ?_
                        rotate_left
                        · intro w'
                          go_simp
                          with_reducible rfl
                        rotate_left
                        · simp only [Act.put, List.setIfInBounds_toArray, List.set_cons_zero, List.set_cons_succ, i64_w, i32_w]
                          rfl
                        refine pure_ (i := 8) (N := some 116) (v := ?_) (a' := ?_) #[true, true, true, true, true, true, true, true, true, false, false, false, false, false, false, false, false, false] rfl rfl (any_of HT_.out (by kernel_rfl)) (fun _ _ _ h => h) (Or.inl ⟨by rfl, ?_⟩) ?_ ?_
                        rotate_left
                        · intro w'
                          go_simp
                          with_reducible rfl
                        rotate_left
                        · simp only [Act.put, List.setIfInBounds_toArray, List.set_cons_zero, List.set_cons_succ, i64_w, i32_w]
                          rfl
                        refine pure_ (i := 9) (N := some 117) (v := ?_) (a' := ?_) #[true, true, true, true, true, true, true, true, true, true, false, false, false, false, false, false, false, false] rfl rfl (any_of HT_.out (by kernel_rfl)) (fun _ _ _ h => h) (Or.inl ⟨by rfl, ?_⟩) ?_ ?_
                        rotate_left
                        · intro w'
                          go_simp
                          with_reducible rfl
                        rotate_left
                        · simp only [Act.put, List.setIfInBounds_toArray, List.set_cons_zero, List.set_cons_succ, i64_w, i32_w]
                          rfl
                        refine pure_ (i := 11) (N := some 119) (v := ?_) (a' := ?_) #[true, true, true, true, true, true, true, true, true, true, false, true, false, false, false, false, false, false] rfl rfl (any_of HT_.out (by kernel_rfl)) (fun _ _ _ h => h) (Or.inl ⟨by rfl, ?_⟩) ?_ ?_
                        rotate_left
                        · intro w'
                          go_simp
                          with_reducible rfl
                        rotate_left
                        · simp only [Act.put, List.setIfInBounds_toArray, List.set_cons_zero, List.set_cons_succ, i64_w, i32_w]
                          rfl
                        refine pure_ (i := 12) (N := some 120) (v := ?_) (a' := ?_) #[true, true, true, true, true, true, true, true, true, true, false, true, true, false, false, false, false, false] rfl rfl (any_of HT_.out (by kernel_rfl)) (fun _ _ _ h => h) (Or.inl ⟨by rfl, ?_⟩) ?_ ?_
                        rotate_left
                        · intro w'
                          go_simp
                          with_reducible rfl
                        rotate_left
                        · simp only [Act.put, List.setIfInBounds_toArray, List.set_cons_zero, List.set_cons_succ, i64_w, i32_w]
                          rfl
                        refine pure_ (i := 13) (N := some 121) (v := ?_) (a' := ?_) #[true, true, true, true, true, true, true, true, true, true, false, true, true, true, false, false, false, false] rfl rfl (any_of HT_.out (by kernel_rfl)) (fun _ _ _ h => h) (Or.inl ⟨by rfl, ?_⟩) ?_ ?_
                        rotate_left
                        · intro w'
                          go_simp
                          with_reducible rfl
                        rotate_left
                        · simp only [Act.put, List.setIfInBounds_toArray, List.set_cons_zero, List.set_cons_succ, i64_w, i32_w]
                          rfl
                        refine take_ (i := 10) (N := some 118) (v := ?_) (a' := ?_) #[true, true, true, true, true, true, true, true, true, true, true, true, true, true, false, false, false, false] rfl rfl (take_ofW HT_.out HW_.out (by kernel_rfl)) (fun _ _ _ h => h) (Or.inl ⟨by rfl, ?_⟩) hHeld ?_ ?_
                        rotate_left
                        · intro w' s0
                          have e := str_of (c := c8) s0.2.1
                          go_simp
                          with_reducible rfl
                        rotate_left
                        · simp only [Act.put, List.setIfInBounds_toArray, List.set_cons_zero, List.set_cons_succ, i64_w, i32_w]
                          rfl
                        refine take_ (i := 14) (N := some 122) (v := ?_) (a' := ?_) #[true, true, true, true, true, true, true, true, true, true, true, true, true, true, true, false, false, false] rfl rfl (take_ofW HT_.out HW_.out (by kernel_rfl)) (fun _ _ _ h => h) (Or.inl ⟨by rfl, ?_⟩) hHeld ?_ ?_
                        rotate_left
                        · intro w' s0
                          have e := s0.1
                          go_simp
                          with_reducible rfl
                        rotate_left
                        · simp only [Act.put, List.setIfInBounds_toArray, List.set_cons_zero, List.set_cons_succ, i64_w, i32_w]
                          rfl
                        refine take_ (i := 15) (N := some 123) (v := ?_) (a' := ?_) #[true, true, true, true, true, true, true, true, true, true, true, true, true, true, true, true, false, false] rfl rfl (take_ofW HT_.out HW_.out (by kernel_rfl)) (fun _ _ _ h => h) (Or.inl ⟨by rfl, ?_⟩) hHeld ?_ ?_
                        rotate_left
                        · intro w' s0
                          have e := str_of (c := c9) s0.2.2.1
                          go_simp
                          with_reducible rfl
                        rotate_left
                        · simp only [Act.put, List.setIfInBounds_toArray, List.set_cons_zero, List.set_cons_succ, i64_w, i32_w]
                          rfl
                        refine pure_ (i := 16) (N := some 124) (v := ?_) (a' := ?_) #[true, true, true, true, true, true, true, true, true, true, true, true, true, true, true, true, true, false] rfl rfl (any_of HT_.out (by kernel_rfl)) (fun _ _ _ h => h) (Or.inl ⟨by rfl, ?_⟩) ?_ ?_
                        rotate_left
                        · intro w'
                          go_simp
                          with_reducible rfl
                        rotate_left
                        · simp only [Act.put, List.setIfInBounds_toArray, List.set_cons_zero, List.set_cons_succ, i64_w, i32_w]
                          rfl
                        refine pure_ (i := 17) (N := some 125) (v := ?_) (a' := ?_) #[true, true, true, true, true, true, true, true, true, true, true, true, true, true, true, true, true, true] rfl rfl (any_of HT_.out (by kernel_rfl)) (fun _ _ _ h => h) (Or.inl ⟨by rfl, ?_⟩) ?_ ?_
                        rotate_left
                        · intro w'
                          go_simp
                          with_reducible rfl
                        rotate_left
                        · simp only [Act.put, List.setIfInBounds_toArray, List.set_cons_zero, List.set_cons_succ, i64_w, i32_w]
                          rfl
                        refine done_ (done_of HT_.out (by kernel_rfl)) ?_
                        clear hHeld
                        go_wp2
                        go_roundw
                        case rel => exact ⟨m + 1, st8, lf8, by go_num, by omega, hst8, hlf8, S11, HB11⟩
                        case measure => simp [intOf]; omega
                · have hdm : decide (m < M) = false := decide_eq_false hmM2
                  have e1 := Aside0.mk (Heard_no wr p 1 (j + 1) st lf v2 (b :: r) S6.out 1 (j : Int) (.inr (.inl (by omega))))
                  have e2 := Aside0.mk (Heard_no wr p 1 (j + 1) st lf v2 (b :: r) S6.out 1 ((j : Int) + 2) (.inr (.inl (by omega))))
                  go_wp2_with (first
                    | (go_at_call 23; (with_reducible refine e1.out.mono ?_); rintro e w' ⟨rfl, rfl⟩)
                    | (go_at_call 23; (with_reducible refine e2.out.mono ?_); rintro e w' ⟨rfl, rfl⟩)
                    | (go_at_call 23; (with_reducible refine (Heard_yes wr p 1 (j + 1) st lf v2 b r S6.out 1 ((j : Int) + 1) (by omega) (by omega) (by omega)).mono ?_); rintro e w12 ⟨rfl, ⟨v12, hS12, _⟩, hb12, _⟩; have S12 := Aside0.mk hS12; have HB12 := Aside0.mk (show Below w.heap.size w w12 from HB6.out.trans (HP.out ▸ hb12)); clear hS12 hb12)
                    | (go_at_call 24; (with_reducible refine (Waits_v w12 p 1 (j + 1 + 1) 0 0 v12 r S12.out).mono ?_); rintro e w' ⟨rfl, rfl⟩))
                  go_roundw
                  case rel => exact ⟨j + 1, v12, by go_num, by omega, ⟨by rw [← HRR.out]; exact S12.out⟩, HB12⟩
                  case measure => simp [intOf]; omega
            · have hdt0 : decide (0 < tn) = false := decide_eq_false ht
              go_wp2
              go_loopw [10] (fun i wr => ∃ (m st lf : Nat), i = .int .i64 (m : Int) ∧ m ≤ 1 ∧ st ≤ 3 ∧ lf ≤ 24 ∧ Aside0 (So wr p 1 (j + 1) st lf v2 (b :: r)) ∧ Aside0 (Below w.heap.size w wr)) (fun i _ => 1 - (intOf i).toNat)
              case atStart => exact ⟨0, 0, 0, rfl, by omega, by omega, by omega, S5, HB4⟩
              case round =>
                obtain ⟨m, st, lf, rfl, hmM, hst, hlf, S6, HB6⟩ := hrel
                by_cases hmM2 : m < 1
                · have hdm : decide (m < 1) = true := decide_eq_true hmM2
                  go_wp2_with (go_at_call 21; (with_reducible refine (Out_any wr p 1 (j + 1) st lf v2 b r S6.out hst hlf (by omega)).mono ?_); rintro e w7 ⟨x7, A7, m7, c7, is7, st7, lf7, rfl, hS7, hst7, hlf7, hb7, hor7⟩; have S7 := Aside0.mk hS7; have HB7 := Aside0.mk (show Below w.heap.size w w7 from HB6.out.trans (HP.out ▸ hb7)); have OR7 := Aside0.mk hor7; clear hS7 hb7 hor7)
                  go_loopw [11, 12, 13, 14] (fun n b' i t wr => ∃ (x : Int) (A8 : Option Addr) (m8 c8 : Nat) (is : Bool) (t8 st8 lf8 : Nat), n = .int .i64 x ∧ b' = .slice A8 m8 c8 ∧ i = .bool is ∧ t = .int .i64 (t8 : Int) ∧ t8 ≤ 24 ∧ st8 ≤ 3 ∧ lf8 ≤ 24 ∧ Aside0 (So wr p 1 (j + 1) st8 lf8 v2 (b :: r)) ∧ Aside0 (Below w.heap.size w wr) ∧ Aside0 ((is = true ∧ x = (j : Int) + 1 ∧ m8 = b.length ∧ Kb.C wr A8 m8 b) ∨ (is = false ∧ 0 < lf8 ∧ lf8 + t8 ≤ 24))) (fun _ _ _ t _ => 24 - (intOf t).toNat)
                  case atStart => exact ⟨x7, A7, m7, c7, is7, 0, st7, lf7, rfl, rfl, rfl, rfl, by omega, hst7, hlf7, S7, HB7, ⟨by
                    rcases OR7.out with ⟨h1, h2, h3, h4⟩ | ⟨h1, h2, h3, h4, h5⟩
                    · exact .inl ⟨h1, by rw [h2]; omega, h3, h4⟩
                    · exact .inr ⟨h1, by omega, by omega⟩⟩⟩
                  case round =>
                    obtain ⟨x8, A8, m8, c8, is8, t8, st8, lf8, rfl, rfl, rfl, rfl, ht8, hst8, hlf8, S8, HB8, OR8⟩ := hrel
                    cases is8 with
                    | false =>
                      have h9 : 0 < lf8 ∧ lf8 + t8 ≤ 24 := by
                        rcases OR8.out with ⟨h1, _⟩ | ⟨_, h2, h3⟩
                        · cases h1
                        · exact ⟨h2, h3⟩
                      have hdt : decide (t8 < 24) = true := decide_eq_true (by omega)
                      go_wp2_with (first
                        | (go_at_call 22; (with_reducible refine (Tick_v wr p 1 (j + 1) st8 lf8 v2 (b :: r) S8.out hlf8).mono ?_); rintro e w9 ⟨rfl, hS9, hb9, _⟩; have S9 := Aside0.mk hS9; have HB9 := Aside0.mk (show Below w.heap.size w w9 from HB8.out.trans (HP.out ▸ hb9)); clear hS9 hb9)
                        | (go_at_call 21; (with_reducible refine (Out_any w9 p 1 (j + 1) st8 (lf8 - 1) v2 b r S9.out hst8 (by omega) (by omega)).mono ?_); rintro e w10 ⟨x10, A10, m10, c10, is10, st10, lf10, rfl, hS10, hst10, hlf10, hb10, hor10⟩; have S10 := Aside0.mk hS10; have HB10 := Aside0.mk (show Below w.heap.size w w10 from HB9.out.trans (HP.out ▸ hb10)); have OR10 := Aside0.mk hor10; clear hS10 hb10 hor10))
                      go_roundw
                      case rel => exact ⟨x10, A10, m10, c10, is10, t8 + 1, st10, lf10, rfl, rfl, rfl, by go_num, by omega, hst10, hlf10, S10, HB10, ⟨by
                        rcases OR10.out with ⟨h1, h2, h3, h4⟩ | ⟨h1, h2, h3, h4, h5⟩
                        · exact .inl ⟨h1, by rw [h2]; omega, h3, h4⟩
                        · exact .inr ⟨h1, by omega, by omega⟩⟩⟩
                      case measure => simp [intOf]; omega
                    | true =>
                      obtain ⟨hx8, hm8, hK8⟩ : x8 = (j : Int) + 1 ∧ m8 = b.length ∧ Kb.C wr A8 m8 b := by
                        rcases OR8.out with ⟨_, h2, h3, h4⟩ | ⟨h1, _⟩
                        · exact ⟨h2, h3, h4⟩
                        · cases h1
                      subst hx8 hm8
                      have HB11 := Aside0.mk (Below.drew HB8.out)
                      obtain ⟨ad', A9, c9, ea, hcell9, hK9, _⟩ := at_q (Kd.C_below HR.out HB11.out) j hjk b HBB.out
                      injection ea with ea
                      subst ea
                      have HK8 := Aside0.mk (show Kb.C wr.drew A8 b.length b from hK8)
                      have HK9 := Aside0.mk hK9
                      have HC9 := Aside0.mk hcell9
                      have S11 := Aside0.mk (S8.out.below (Below.drew (Below.refl _ _)))
                      clear hK8 hK9 hcell9
                      have hw1 : wrap64 ((j : Int) + 1) = (j : Int) + 1 := by unfold wrap64; omega
                      go_wp2
                      all_goals
                        refine start_ (n := 18) (S := fun w' => w'.cell? (ad.add j) = some (.slice A9 b.length c9) ∧ Kb.C w' A8 b.length b ∧ Kb.C w' A9 b.length b ∧ True) (ds := []) #[false, false, false, false, false, false, false, false, false, false, false, false, false, false, false, false, false, false] (by kernel_rfl) rfl rfl ⟨HC9.out, HK8.out, HK9.out, trivial⟩ (fun hHeld => ?_)
                        refine with_tabW f5_r26.tab26 f5_r26.bits26 (fun HT_ HW_ => ?_)
                        generalize wr.drew = w11 at S11 HB11 hHeld HC9 HK8 HK9 ⊢
                        refine pure_ (i := 0) (N := some 108) (v := ?_) (a' := ?_) #[true, false, false, false, false, false, false, false, false, false, false, false, false, false, false, false, false, false] rfl rfl (any_of HT_.out (by kernel_rfl)) (fun _ _ _ h => h) (Or.inl ⟨by rfl, ?_⟩) ?_ ?_
                        rotate_left
                        · intro w'
                          go_simp
                          with_reducible rfl
                        rotate_left
                        · simp only [Act.put, List.setIfInBounds_toArray, List.set_cons_zero, List.set_cons_succ, i64_w, i32_w]
                          rfl
                        refine pure_ (i := 1) (N := some 109) (v := ?_) (a' := ?_) #[true, true, false, false, false, false, false, false, false, false, false, false, false, false, false, false, false, false] rfl rfl (any_of HT_.out (by kernel_rfl)) (fun _ _ _ h => h) (Or.inl ⟨by rfl, ?_⟩) ?_ ?_
                        rotate_left
                        · intro w'
                          go_simp
                          with_reducible rfl
                        rotate_left
                        · simp only [Act.put, List.setIfInBounds_toArray, List.set_cons_zero, List.set_cons_succ, i64_w, i32_w]
                          rfl
                        refine pure_ (i := 2) (N := some 110) (v := ?_) (a' := ?_) #[true, true, true, false, false, false, false, false, false, false, false, false, false, false, false, false, false, false] rfl rfl (any_of HT_.out (by kernel_rfl)) (fun _ _ _ h => h) (Or.inl ⟨by rfl, ?_⟩) ?_ ?_
                        rotate_left
                        · intro w'
                          go_simp
                          with_reducible rfl
                        rotate_left
                        · simp only [Act.put, List.setIfInBounds_toArray, List.set_cons_zero, List.set_cons_succ, i64_w, i32_w]
                          rfl
                        refine pure_ (i := 3) (N := some 111) (v := ?_) (a' := ?_) #[true, true, true, true, false, false, false, false, false, false, false, false, false, false, false, false, false, false] rfl rfl (any_of HT_.out (by kernel_rfl)) (fun _ _ _ h => h) (Or.inl ⟨by rfl, ?_⟩) ?_ ?_
                        rotate_left
                        · intro w'
                          go_simp
                          with_reducible rfl
                        rotate_left
                        · simp only [Act.put, List.setIfInBounds_toArray, List.set_cons_zero, List.set_cons_succ, i64_w, i32_w]
                          rfl
                        refine pure_ (i := 4) (N := some 112) (v := ?_) (a' := ?_) #[true, true, true, true, true, false, false, false, false, false, false, false, false, false, false, false, false, false] rfl rfl (any_of HT_.out (by kernel_rfl)) (fun _ _ _ h => h) (Or.inl ⟨by rfl, ?_⟩) ?_ ?_
                        rotate_left
                        · intro w'
                          go_simp
                          with_reducible rfl
                        rotate_left
                        · simp only [Act.put, List.setIfInBounds_toArray, List.set_cons_zero, List.set_cons_succ, i64_w, i32_w]
                          rfl
                        refine pure_ (i := 5) (N := some 113) (v := ?_) (a' := ?_) #[true, true, true, true, true, true, false, false, false, false, false, false, false, false, false, false, false, false] rfl rfl (any_of HT_.out (by kernel_rfl)) (fun _ _ _ h => h) (Or.inl ⟨by rfl, ?_⟩) ?_ ?_
                        rotate_left
                        · intro w'
                          go_simp
                          with_reducible rfl
                        rotate_left
                        · simp only [Act.put, List.setIfInBounds_toArray, List.set_cons_zero, List.set_cons_succ, i64_w, i32_w]
                          rfl
                        refine pure_ (i := 6) (N := some 114) (v := ?_) (a' := ?_) #[true, true, true, true, true, true, true, false, false, false, false, false, false, false, false, false, false, false] rfl rfl (any_of HT_.out (by kernel_rfl)) (fun _ _ _ h => h) (Or.inl ⟨by rfl, ?_⟩) ?_ ?_
                        rotate_left
                        · intro w'
                          go_simp
                          with_reducible rfl
                        rotate_left
                        · simp only [Act.put, List.setIfInBounds_toArray, List.set_cons_zero, List.set_cons_succ, i64_w, i32_w]
                          rfl
                        refine pure_ (i := 7) (N := some 115) (v := ?_) (a' := ?_) #[true, true, true, true, true, true, true, true, false, false, false, false, false, false, false, false, false, false] rfl rfl (any_of HT_.out (by kernel_rfl)) (fun _ _ _ h => h) (Or.inl ⟨by rfl, ?_⟩) ?_ ?_
                        rotate_left
                        · intro w'
                          go_simp
                          with_reducible rfl
                        rotate_left
                        · simp only [Act.put, List.setIfInBounds_toArray, List.set_cons_zero, List.set_cons_succ, i64_w, i32_w]
                          rfl
                        refine pure_ (i := 8) (N := some 116) (v := ?_) (a' := ?_) #[true, true, true, true, true, true, true, true, true, false, false, false, false, false, false, false, false, false] rfl rfl (any_of HT_.out (by kernel_rfl)) (fun _ _ _ h => h) (Or.inl ⟨by rfl, ?_⟩) ?_ ?_
                        rotate_left
                        · intro w'
                          go_simp
                          with_reducible rfl
                        rotate_left
                        · simp only [Act.put, List.setIfInBounds_toArray, List.set_cons_zero, List.set_cons_succ, i64_w, i32_w]
                          rfl
                        refine pure_ (i := 9) (N := some 117) (v := ?_) (a' := ?_) #[true, true, true, true, true, true, true, true, true, true, false, false, false, false, false, false, false, false] rfl rfl (any_of HT_.out (by kernel_rfl)) (fun _ _ _ h => h) (Or.inl ⟨by rfl, ?_⟩) ?_ ?_
                        rotate_left
                        · intro w'
                          go_simp
                          with_reducible rfl
                        rotate_left
                        · simp only [Act.put, List.setIfInBounds_toArray, List.set_cons_zero, List.set_cons_succ, i64_w, i32_w]
                          rfl
                        refine pure_ (i := 11) (N := some 119) (v := ?_) (a' := ?_) #[true, true, true, true, true, true, true, true, true, true, false, true, false, false, false, false, false, false] rfl rfl (any_of HT_.out (by kernel_rfl)) (fun _ _ _ h => h) (Or.inl ⟨by rfl, ?_⟩) ?_ ?_
                        rotate_left
                        · intro w'
                          go_simp
                          with_reducible rfl
                        rotate_left
                        · simp only [Act.put, List.setIfInBounds_toArray, List.set_cons_zero, List.set_cons_succ, i64_w, i32_w]
                          rfl
                        refine pure_ (i := 12) (N := some 120) (v := ?_) (a' := ?_) #[true, true, true, true, true, true, true, true, true, true, false, true, true, false, false, false, false, false] rfl rfl (any_of HT_.out (by kernel_rfl)) (fun _ _ _ h => h) (Or.inl ⟨by rfl, ?_⟩) ?_ ?_
                        rotate_left
                        · intro w'
                          go_simp
                          with_reducible rfl
                        rotate_left
                        · simp only [Act.put, List.setIfInBounds_toArray, List.set_cons_zero, List.set_cons_succ, i64_w, i32_w]
                          rfl
                        refine pure_ (i := 13) (N := some 121) (v := ?_) (a' := ?_) #[true, true, true, true, true, true, true, true, true, true, false, true, true, true, false, false, false, false] rfl rfl (any_of HT_.out (by kernel_rfl)) (fun _ _ _ h => h) (Or.inl ⟨by rfl, ?_⟩) ?_ ?_
                        rotate_left
                        · intro w'
                          go_simp
                          with_reducible rfl
                        rotate_left
                        · simp only [Act.put, List.setIfInBounds_toArray, List.set_cons_zero, List.set_cons_succ, i64_w, i32_w]
                          rfl
                        refine take_ (i := 10) (N := some 118) (v := ?_) (a' := ?_) #[true, true, true, true, true, true, true, true, true, true, true, true, true, true, false, false, false, false] rfl rfl (take_ofW HT_.out HW_.out (by kernel_rfl)) (fun _ _ _ h => h) (Or.inl ⟨by rfl, ?_⟩) hHeld ?_ ?_
                        rotate_left
                        · intro w' s0
                          have e := str_of (c := c8) s0.2.1
                          go_simp
                          with_reducible rfl
                        rotate_left
                        · simp only [Act.put, List.setIfInBounds_toArray, List.set_cons_zero, List.set_cons_succ, i64_w, i32_w]
                          rfl
                        refine take_ (i := 14) (N := some 122) (v := ?_) (a' := ?_) #[true, true, true, true, true, true, true, true, true, true, true, true, true, true, true, false, false, false] rfl rfl (take_ofW HT_.out HW_.out (by kernel_rfl)) (fun _ _ _ h => h) (Or.inl ⟨by rfl, ?_⟩) hHeld ?_ ?_
                        rotate_left
                        · intro w' s0
                          have e := s0.1
                          go_simp
                          with_reducible rfl
                        rotate_left
                        · simp only [Act.put, List.setIfInBounds_toArray, List.set_cons_zero, List.set_cons_succ, i64_w, i32_w]
                          rfl
                        refine take_ (i := 15) (N := some 123) (v := ?_) (a' := ?_) #[true, true, true, true, true, true, true, true, true, true, true, true, true, true, true, true, false, false] rfl rfl (take_ofW HT_.out HW_.out (by kernel_rfl)) (fun _ _ _ h => h) (Or.inl ⟨by rfl, ?_⟩) hHeld ?_ ?_
                        rotate_left
                        · intro w' s0
                          have e := str_of (c := c9) s0.2.2.1
                          go_simp
                          with_reducible rfl
                        rotate_left
                        · simp only [Act.put, List.setIfInBounds_toArray, List.set_cons_zero, List.set_cons_succ, i64_w, i32_w]
                          rfl
                        refine pure_ (i := 16) (N := some 124) (v := ?_) (a' := ?_) #[true, true, true, true, true, true, true, true, true, true, true, true, true, true, true, true, true, false] rfl rfl (any_of HT_.out (by kernel_rfl)) (fun _ _ _ h => h) (Or.inl ⟨by rfl, ?_⟩) ?_ ?_
                        rotate_left
                        · intro w'
                          go_simp
                          with_reducible rfl
                        rotate_left
                        · simp only [Act.put, List.setIfInBounds_toArray, List.set_cons_zero, List.set_cons_succ, i64_w, i32_w]
                          rfl
                        refine pure_ (i := 17) (N := some 125) (v := ?_) (a' := ?_) #[true, true, true, true, true, true, true, true, true, true, true, true, true, true, true, true, true, true] rfl rfl (any_of HT_.out (by kernel_rfl)) (fun _ _ _ h => h) (Or.inl ⟨by rfl, ?_⟩) ?_ ?_
                        rotate_left
                        · intro w'
                          go_simp
                          with_reducible rfl
                        rotate_left
                        · simp only [Act.put, List.setIfInBounds_toArray, List.set_cons_zero, List.set_cons_succ, i64_w, i32_w]
                          rfl
                        refine done_ (done_of HT_.out (by kernel_rfl)) ?_
                        clear hHeld
                        go_wp2
                        go_roundw
                        case rel => exact ⟨m + 1, st8, lf8, by go_num, by omega, hst8, hlf8, S11, HB11⟩
                        case measure => simp [intOf]; omega
                · have hdm : decide (m < 1) = false := decide_eq_false hmM2
                  have e1 := Aside0.mk (Heard_no wr p 1 (j + 1) st lf v2 (b :: r) S6.out 1 (j : Int) (.inr (.inl (by omega))))
                  have e2 := Aside0.mk (Heard_no wr p 1 (j + 1) st lf v2 (b :: r) S6.out 1 ((j : Int) + 2) (.inr (.inl (by omega))))
                  go_wp2_with (first
                    | (go_at_call 23; (with_reducible refine e1.out.mono ?_); rintro e w' ⟨rfl, rfl⟩)
                    | (go_at_call 23; (with_reducible refine e2.out.mono ?_); rintro e w' ⟨rfl, rfl⟩)
                    | (go_at_call 23; (with_reducible refine (Heard_yes wr p 1 (j + 1) st lf v2 b r S6.out 1 ((j : Int) + 1) (by omega) (by omega) (by omega)).mono ?_); rintro e w12 ⟨rfl, ⟨v12, hS12, _⟩, hb12, _⟩; have S12 := Aside0.mk hS12; have HB12 := Aside0.mk (show Below w.heap.size w w12 from HB6.out.trans (HP.out ▸ hb12)); clear hS12 hb12)
                    | (go_at_call 24; (with_reducible refine (Waits_v w12 p 1 (j + 1 + 1) 0 0 v12 r S12.out).mono ?_); rintro e w' ⟨rfl, rfl⟩))
                  go_roundw
                  case rel => exact ⟨j + 1, v12, by go_num, by omega, ⟨by rw [← HRR.out]; exact S12.out⟩, HB12⟩
                  case measure => simp [intOf]; omega
          · obtain rfl : j = k := by omega
            have S6 := Aside0.mk (show So wr p 1 (j + 1) 0 0 v2 [] by
              have := S4.out
              rwa [List.drop_of_length_le (Nat.le_of_eq HN.out)] at this)
            go_wp2_with (first
              | (go_at_call 21; (with_reducible refine (Out_no wr p 1 (j + 1) 0 0 v2 [] S6.out (.inl rfl)).mono ?_); rintro e w' ⟨rfl, rfl⟩)
              | (go_at_call 19; refine (sure_calls _).mono ?_; rintro e w2 ⟨rfl, hb2⟩; have HB2 := Aside0.mk (below_step HB4.out hb2); clear hb2))
            go_ret
            exact ⟨rfl, HB2.out⟩
end Go.Proofs.Ytpgighcobmaecaa.Sn
