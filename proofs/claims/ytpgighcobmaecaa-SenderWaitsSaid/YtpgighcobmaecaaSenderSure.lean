/- What the laws of layer 17 hold first: their 'sure'. -/
import Derived.Test.YtpgighcobmaecaaSenderHeard
set_option linter.unusedVariables false
set_option linter.unusedSimpArgs false
namespace Go.Proofs.Ytpgighcobmaecaa.Sn
open Go.RowKit Go.Proofs.YtpgighcobmaecaaW.PrintWords Go.Proofs.YtpgighcobmaecaaW.PrintLast

theorem New_n (E : Int) (e : Nat) (hE : E = (e : Int)) (h1 : 1 ≤ e) (h2 : e ≤ 1073741824) (w : World) : Calls Try.prog 18 #[.int .i64 E] w fun r w' => r = .returned (.tuple #[.pointer (some ⟨w.heap.size, 0, none⟩), .nilIface]) ∧ So w' w.heap.size e 1 0 0 (.slice none 0 0) [] ∧ Below w.heap.size w w' := by
  subst hE
  exact New_v e h1 h2 w
theorem Put_lit (w w0 : World) (p ep sq st lf : Nat) (v : Value) (l : List (List UInt8)) (h : So w p ep sq st lf v l) (x : UInt8) (cs : Array Value) (hcs : cs = #[.int .u8 (x.toNat : Int)]) (fr : Nat × Nat) (b : Nat) (hb : b = w.heap.size) (hB : Below p w0 w) (hl : l.length < 64) (hs : sq + l.length ≤ 1073741824) :
    Calls Try.prog 20 #[.pointer (some ⟨p, 0, none⟩), .slice (some ⟨b, 0, none⟩) 1 1] (w.alloc (.cells cs 5 fr)) fun e w' => e = .returned .nilIface ∧ (∃ v', So w' p ep sq st lf v' (l ++ [[x]])) ∧ Below p w0 w' := by
  subst hb
  refine (Put_v _ p ep sq st lf v l (h.below (below_alloc (Below.refl _ _) _)) _ 1 1 [x] rfl (lit_read w _ _ [x] (by rw [hcs]; rfl) (by simp)) (by decide) hl hs).mono ?_
  rintro e w2 ⟨h1, h2, h3⟩
  exact ⟨h1, h2, (hB.alloc (Nat.le_of_lt h.lt) _).trans h3⟩
set_option maxRecDepth 100000 in
set_option maxHeartbeats 4000000 in
theorem sure_calls (w : World) : Calls Try.prog 19 #[] w fun e w' => e = .returned (.bool true) ∧ Below w.heap.size w w' := by
  have kc := kconst
  have ks := strOf_toList
  go_enter Try.func19, Try.ntmps19
  go_wp2_with (first
    | (go_at_call 18; (with_reducible refine (New_n 5 5 rfl (by decide) (by decide) w).mono ?_); rintro e w1 ⟨rfl, hS1, hb1⟩; have S1 := Aside0.mk hS1; have HB1 := Aside0.mk hb1; clear hS1 hb1)
    | (go_at_call 20; (with_reducible refine (Put_lit w1 w w.heap.size 5 1 0 0 _ [] S1.out 97 _ (by simp) _ _ rfl HB1.out (by decide) (by decide)).mono ?_); rintro e w2 ⟨rfl, ⟨v2, hS2⟩, hb2⟩; have S2 : Aside0 (So w2 w.heap.size 5 1 0 0 v2 [[97]]) := Aside0.mk hS2; have HB2 := Aside0.mk hb2; clear hS2 hb2)
    | (go_at_call 20; (with_reducible refine (Put_lit w2 w w.heap.size 5 1 0 0 v2 [[97]] S2.out 98 _ (by simp) _ _ rfl HB2.out (by decide) (by decide)).mono ?_); rintro e w3 ⟨rfl, ⟨v3, hS3⟩, hb3⟩; have S3 : Aside0 (So w3 w.heap.size 5 1 0 0 v3 [[97], [98]]) := Aside0.mk hS3; have HB3 := Aside0.mk hb3; clear hS3 hb3)
    | (go_at_call 21; (with_reducible refine (Out_0 w3 w.heap.size 5 1 v3 [97] [[98]] S3.out (by decide)).mono ?_); rintro e w4 ⟨A4, c4, rfl, hR4, hS4, hb4, hk4⟩; have R4 := Aside0.mk hR4; have S4 := Aside0.mk hS4; have HB4 := Aside0.mk (HB3.out.trans hb4); clear hR4 hS4 hb4 hk4)
    | (go_at_call 21; (with_reducible refine (Out_no w4 w.heap.size 5 1 1 3 v3 _ S4.out (.inr (by decide))).mono ?_); rintro e w' ⟨rfl, rfl⟩))
  have hN := Aside0.mk (show w.heap.size < w3.heap.size ∧ (∀ g, v3.ownBlock = some g → g < w3.heap.size) from ⟨S3.out.lt, Kd.R_lt S3.out.row⟩)
  go_loopw [11] (fun i wr => ∃ (k : Nat), i = .int .i64 (k : Int) ∧ k ≤ 3 ∧ Aside0 (So wr w.heap.size 5 1 1 (3 - k) v3 [[97], [98]]) ∧ Aside0 (Below w.heap.size w wr) ∧ Aside0 (Bs wr w3.heap.size (.slice A4 1 c4) [97])) (fun i _ => 3 - (intOf i).toNat)
  case atStart => exact ⟨0, rfl, by omega, S4, HB4, R4⟩
  case round =>
    obtain ⟨k, rfl, hk, S5, HB5, R5⟩ := hrel
    by_cases hk3 : k < 3
    · have d1 : decide (k < 3) = true := decide_eq_true hk3
      go_wp2_with (go_at_call 22; (with_reducible refine (Tick_v wr w.heap.size 5 1 1 (3 - k) v3 _ S5.out (by omega)).mono ?_); rintro e w6 ⟨rfl, hS6, hb6, hk6⟩; have S6 := Aside0.mk hS6; have HB6 := Aside0.mk (HB5.out.trans hb6); have R6 := Aside0.mk (Bs.kept R5.out hk6 hN.out.1 hN.out.2); clear hS6 hb6 hk6)
      go_roundw
      case rel => exact ⟨k + 1, by go_num, by omega, ⟨by rw [show 3 - (k + 1) = 3 - k - 1 by omega]; exact S6.out⟩, HB6, R6⟩
      case measure => simp [intOf]; omega
    · obtain rfl : k = 3 := by omega
      go_wp2_with (first
        | (go_at_call 21; (with_reducible refine (Out_1 wr w.heap.size 5 1 v3 [97] [[98]] S5.out (by decide)).mono ?_); rintro e w6 ⟨A6, c6, rfl, hR6, hS6, hb6, hk6⟩; have S6 := Aside0.mk hS6; have HB6 := Aside0.mk (HB5.out.trans hb6); have R6 := Aside0.mk (Bs.kept R5.out hk6 hN.out.1 hN.out.2); clear hR6 hS6 hb6 hk6)
        | (go_at_call 23; (with_reducible refine (Heard_yes w6 w.heap.size 5 1 2 6 v3 [97] [[98]] S6.out 5 1 rfl rfl (by decide)).mono ?_); rintro e w7 ⟨rfl, ⟨v7, hS7, ho7⟩, hb7, hk7⟩; have S7 := Aside0.mk hS7; have HB7 := Aside0.mk (HB6.out.trans hb7); have R7 := Aside0.mk (Bs.kept R6.out hk7 hN.out.1 hN.out.2); have HO7 := Aside0.mk ho7; clear hS7 hb7 hk7 ho7)
        | (go_at_call 21; (with_reducible refine (Out_0 w7 w.heap.size 5 2 v7 [98] [] S7.out (by decide)).mono ?_); rintro e w8 ⟨A8, c8, rfl, hR8, hS8, hb8, hk8⟩; have S8 := Aside0.mk hS8; have HB8 := Aside0.mk (HB7.out.trans hb8); have R8 := Aside0.mk (Bs.kept R7.out hk8 hN.out.1 (by rw [HO7.out]; exact hN.out.2)); have e1 := str_of (n := 1) (c := c4) (Bs.read R8.out).1; have e2 := str_of (n := 1) (c := c8) (Bs.read hR8).1; clear hR8 hS8 hb8 hk8)
        | (go_at_call 24; (with_reducible refine (Waits_v w8 w.heap.size 5 2 1 3 v7 _ S8.out).mono ?_); rintro e w' ⟨rfl, rfl⟩)
        | (go_at_call 23; (with_reducible refine (Heard_no w8 w.heap.size 5 2 1 3 v7 _ S8.out 4 2 (.inl (by decide))).mono ?_); rintro e w' ⟨rfl, rfl⟩))
      go_ret
      exact ⟨rfl, HB8.out⟩
end Go.Proofs.Ytpgighcobmaecaa.Sn
