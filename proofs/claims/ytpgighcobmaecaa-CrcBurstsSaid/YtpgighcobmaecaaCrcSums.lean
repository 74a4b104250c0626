/- The statement CrcSums. -/
import Derived.Test.YtpgighcobmaecaaCrcRef
set_option linter.unusedVariables false
set_option linter.unusedSimpArgs false
namespace Go.Proofs.Ytpgighcobmaecaa.Crc
open Go.RowKit Go.Proofs.YtpgighcobmaecaaW.PrintWords Go.Proofs.YtpgighcobmaecaaW.PrintLast

theorem lit_sum (l : List UInt8) (n : Nat) (hn : l.length = n) (cs : Array Value) (hcs : cs = (l.map fun b => Value.int .u8 (b.toNat : Int)).toArray) (v : Int) (hv : ((more 0#32 l).toNat : Int) = v) (hl : n ≤ 140737488355328) (w : World) (fr : Nat × Nat) (b : Nat) (hb : b = w.heap.size) :
    Calls Try.prog 13 #[.slice (some ⟨b, 0, none⟩) n n] (w.alloc (.cells cs 5 fr)) fun e w' => e = .returned (.int .u32 v) ∧ w.alloc (.cells cs 5 fr) = w' := by
  subst hb
  subst hn
  subst hv
  exact Sum_calls _ _ l _ (lit_read w _ _ l hcs (by omega)) hl
theorem lit_fits (l : List UInt8) (n : Nat) (hn : l.length = n) (cs : Array Value) (hcs : cs = (l.map fun b => Value.int .u8 (b.toNat : Int)).toArray) (v : Bool) (hv : fits l = v) (hl : n ≤ 140737488355328) (w : World) (fr : Nat × Nat) (b : Nat) (hb : b = w.heap.size) :
    Calls Try.prog 15 #[.slice (some ⟨b, 0, none⟩) n n] (w.alloc (.cells cs 5 fr)) fun e w' => e = .returned (.bool v) ∧ w.alloc (.cells cs 5 fr) = w' := by
  subst hb
  subst hn
  subst hv
  exact Fits_calls _ _ l _ (lit_read w _ _ l hcs (by omega)) hl (Nat.le_refl _)
theorem lit_more (a : BitVec 32) (l : List UInt8) (n : Nat) (hn : l.length = n) (cs : Array Value) (hcs : cs = (l.map fun b => Value.int .u8 (b.toNat : Int)).toArray) (u v : Int) (hu : (a.toNat : Int) = u) (hv : ((more a l).toNat : Int) = v) (hl : n ≤ 140737488355328) (w : World) (fr : Nat × Nat) (b : Nat) (hb : b = w.heap.size) :
    Calls Try.prog 14 #[.int .u32 u, .slice (some ⟨b, 0, none⟩) n n] (w.alloc (.cells cs 5 fr)) fun e w' => e = .returned (.int .u32 v) ∧ w.alloc (.cells cs 5 fr) = w' := by
  subst hb
  subst hn
  subst hv
  subst hu
  exact More_calls a _ _ l _ (lit_read w _ _ l hcs (by omega)) hl
theorem ev1 : ((more 0#32 [49, 50, 51, 52, 53, 54, 55, 56, 57]).toNat : Int) = 4236843288 := by decide +kernel
theorem ev3 : ((more (more 0#32 [49, 50, 51, 52]) [53, 54, 55, 56, 57]).toNat : Int) = 4236843288 := by decide +kernel
theorem ev4 : fits [0, 0, 0, 0] = true := by decide +kernel
theorem ev5 : fits [1, 0, 0, 0, 0] = false := by decide +kernel
set_option maxRecDepth 100000 in
set_option maxHeartbeats 1000000 in
theorem sure_calls (w : World) :
    Calls Try.prog 11 #[] w fun e w' => e = .returned (.bool true) ∧ Below w.heap.size w w' := by
  obtain ⟨c2, hc2⟩ : ∃ c, c = (more 0#32 [49, 50, 51, 52]) := ⟨_, rfl⟩
  have e2 : ((more 0#32 [49, 50, 51, 52]).toNat : Int) = (c2.toNat : Int) := by rw [hc2]
  have e3 := ev3
  rw [← hc2] at e3
  have E2 := Aside0.mk e2
  have E3 := Aside0.mk e3
  clear e2 e3 hc2
  have kc := kconst
  go_enter Try.func11, Try.ntmps11
  go_wp2_with (first
    | (go_at_call 13; with_reducible refine (lit_sum [49, 50, 51, 52, 53, 54, 55, 56, 57] 9 rfl _ (by simp) _ ev1 (by decide) _ _ _ (by simp)).mono ?_; rintro e w' ⟨rfl, rfl⟩)
    | (go_at_call 13; with_reducible refine (lit_sum [49, 50, 51, 52] 4 rfl _ (by simp) _ E2.out (by decide) _ _ _ (by simp)).mono ?_; rintro e w' ⟨rfl, rfl⟩)
    | (go_at_call 14; with_reducible refine (lit_more c2 [53, 54, 55, 56, 57] 5 rfl _ (by simp) _ _ rfl E3.out (by decide) _ _ _ (by simp)).mono ?_; rintro e w' ⟨rfl, rfl⟩)
    | (go_at_call 15; with_reducible refine (lit_fits [0, 0, 0, 0] 4 rfl _ (by simp) _ ev4 (by decide) _ _ _ (by simp)).mono ?_; rintro e w' ⟨rfl, rfl⟩)
    | (go_at_call 15; with_reducible refine (lit_fits [1, 0, 0, 0, 0] 5 rfl _ (by simp) _ ev5 (by decide) _ _ _ (by simp)).mono ?_; rintro e w' ⟨rfl, rfl⟩))
  go_ret
  exact ⟨rfl, by repeat (first | exact Below.refl _ _ | apply below_alloc)⟩

set_option maxRecDepth 100000 in
set_option maxHeartbeats 1000000 in
theorem law_calls (A0 : Option Addr) (c0 : Nat) (l0 : List UInt8) (A1 : Option Addr) (c1 : Nat) (l1 : List UInt8) (w : World)
    (hr0 : Kb.C w A0 l0.length l0) (hl0 : l0.length ≤ 140737488351232) (hc0 : l0.length ≤ c0) (hr1 : Kb.C w A1 l1.length l1) (hl1 : l1.length ≤ 140737488351232) (hc1 : l1.length ≤ c1) :
    Calls Try.prog 3 #[.slice A0 l0.length c0, .slice A1 l1.length c1] w fun e w' => e = .returned (.bool true) ∧ Below w.heap.size w w' := by
  by_cases hb : 600 < l0.length + l1.length
  · have hd : decide ((600 : Int) < (l0.length : Int) + (l1.length : Int)) = true := decide_eq_true (by omega)
    clear hr0 hr1
    go_enter Try.func3, Try.ntmps3
    go_wp2_with (go_at_call 11; refine (sure_calls _).mono ?_; rintro e w' ⟨rfl, HB⟩; replace HB := Aside0.mk HB)
    go_ret
    exact ⟨rfl, HB.out⟩
  · have hd : decide ((600 : Int) < (l0.length : Int) + (l1.length : Int)) = false := decide_eq_false (by omega)
    have HR0 := Aside0.mk hr0
    have HR1 := Aside0.mk hr1
    clear hr0 hr1
    go_enter Try.func3, Try.ntmps3
    obtain ⟨s0, hs0⟩ : ∃ s, s = more 0#32 l0 := ⟨_, rfl⟩
    obtain ⟨s1, hs1⟩ : ∃ s, s = more s0 l1 := ⟨_, rfl⟩
    obtain ⟨f1, hf1⟩ : ∃ f, f = fits l1 := ⟨_, rfl⟩
    have HF1 := Aside0.mk hf1
    have HS1 := Aside0.mk hs1
    have HS := Aside0.mk hs0
    have HS2 := Aside0.mk (show s1 = more 0#32 (l0 ++ l1) by rw [hs1, hs0, more_append])
    clear hs0 hs1 hf1
    go_wp2_with (first
      | (at_builtin; refine app_bs (w0 := w) w.heap.size rfl (.tmp 14) (.tmp 15) rfl _ [] l0 _ _ _ rfl rfl (Bs.lit w _ _ rfl (Nat.le_refl _) [] 0 rfl _ rfl (by decide)) (Kd.C_alloc HR0.out _) (below_alloc (Below.refl _ _) _) (by simp) (by simp only [List.length_nil]; omega) ?_; intro z1 A2 c2 w1 hz1 hB1 hb1 hs1 hg1)
      | (at_builtin; refine app_bs (w0 := w) w.heap.size rfl (.tmp 16) (.tmp 17) rfl _ z1 l1 _ _ _ rfl rfl hB1.out (Kd.C_below HR1.out hb1.out) hb1.out hs1.out (by rw [hz1.out]; simp only [List.nil_append]; omega) ?_; intro z2 A3 c3 w2 hz2 hB2 hb2 hs2 hg2; have hL := (show z2.length ≤ 600 by rw [hz2.out, hz1.out]; simp; omega); have HZ := Aside0.mk (show s1 = more 0#32 z2 by rw [HS2.out, hz2.out, hz1.out]; rfl); have HA1 := Aside0.mk (Kd.C_below HR1.out hb2.out); have HA0 := Aside0.mk (Kd.C_below HR0.out hb2.out); have HR2 := Aside0.mk (Bs.read hB2.out).1; have hc3 := (Bs.read hB2.out).2.2)
      | (go_at_call 12; with_reducible refine (rMore_v A0 c0 _ l0 _ rfl HA0.out (by omega) 0#32 0 (by decide) s0 HS.out).mono ?_; rintro e w' ⟨rfl, rfl⟩)
      | (go_at_call 12; with_reducible refine (rMore_v A3 c3 _ z2 _ rfl HR2.out (by omega) 0#32 0 (by decide) s1 HZ.out).mono ?_; rintro e w' ⟨rfl, rfl⟩)
      | (go_at_call 12; with_reducible refine (rMore_v A3 c3 _ z2 _ rfl HR3.out (by omega) 0#32 0 (by decide) s1 HZ.out).mono ?_; rintro e w' ⟨rfl, rfl⟩)
      | (go_at_call 13; with_reducible refine (Sum_v A0 c0 _ l0 _ rfl HA0.out (by omega) s0 HS.out).mono ?_; rintro e w' ⟨rfl, rfl⟩)
      | (go_at_call 14; with_reducible refine (More_v A1 c1 _ l1 _ rfl HA1.out (by omega) s0 _ rfl s1 HS1.out).mono ?_; rintro e w' ⟨rfl, rfl⟩)
      | (go_at_call 15; with_reducible refine (Fits_v A1 c1 _ l1 _ rfl HA1.out (by omega) (by omega) f1 HF1.out).mono ?_; rintro e w' ⟨rfl, rfl⟩)
      | (go_at_call 16; with_reducible refine (rFits_v A1 c1 _ l1 _ rfl HA1.out (by omega) (by omega) f1 HF1.out).mono ?_; rintro e w3 ⟨rfl, hb3⟩; have HR3 := Aside0.mk (Kd.C_below HR2.out hb3); have HB3 := Aside0.mk (below_step hb2.out hb3); have HO3 := Aside0.mk (Kd.R_below hB2.out hb3); clear hb3)
      | (go_at_call 17; refine (Tail_calls s1 _).mono ?_; rintro e w' ⟨rfl, rfl⟩)
      | (at_builtin; refine gate_guard (by rfl) ?_; refine app_bs (w0 := w) w.heap.size rfl (.tmp 41) (.tmp 44) rfl _ z2 (tail s1) _ _ _ rfl rfl (Kd.R_alloc HO3.out _) (tail_read s1 _) (below_alloc HB3.out _) (below_size (below_alloc HB3.out _)) (by omega) ?_; intro z4 A4 c4 w4 hz4 hB4 hb4 hs4 hg4; have HR4 := Aside0.mk (Bs.read hB4.out).1; have hc4 := (Bs.read hB4.out).2.2; have hL4 := (show z4.length ≤ 604 by rw [hz4.out]; simp [tail]; omega); have HF4 := Aside0.mk (show true = fits z4 by rw [hz4.out, HZ.out, fits_tail]))
      | (go_at_call 15; with_reducible refine (Fits_v A4 c4 _ z4 _ rfl HR4.out (by omega) (by omega) true HF4.out).mono ?_; rintro e w' ⟨rfl, rfl⟩)
      | (go_at_call 11; refine (sure_calls _).mono ?_; rintro e w5 ⟨rfl, hb5⟩; have HB5 := Aside0.mk (below_step hb4.out hb5); clear hb5))
    go_ret
    exact ⟨rfl, HB5.out⟩
end Go.Proofs.Ytpgighcobmaecaa.Crc
