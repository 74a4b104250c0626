/- What must come whatever the input is, of layer 6. -/
import Derived.Test.YtpgighcobmaecaaMacRefOf
import Derived.Test.YtpgighcobmaecaaShaText
set_option linter.unusedVariables false
set_option linter.unusedSimpArgs false
namespace Go.Proofs.Ytpgighcobmaecaa.Mac
open Go.RowKit Go.Proofs.YtpgighcobmaecaaW.PrintWords Go.Proofs.YtpgighcobmaecaaW.PrintLast Go.Proofs.Ytpgighcobmaecaa.Sha Go.Proofs.Ytpgighcobmaecaa.Seal

def key0 : List UInt8 := [74, 101, 102, 101]
def txt0 : List UInt8 := [119, 104, 97, 116, 32, 100, 111, 32, 121, 97, 32, 119, 97, 110, 116, 32, 102, 111, 114, 32, 110, 111, 116, 104, 105, 110, 103, 63]
def V0 : List UInt8 := macOf key0 txt0
theorem V0_len : V0.length = 32 := sum_len _
theorem hex0 : hexOf V0 = [53, 98, 100, 99, 99, 49, 52, 54, 98, 102, 54, 48, 55, 53, 52, 101, 54, 97, 48, 52, 50, 52, 50, 54, 48, 56, 57, 53, 55, 53, 99, 55, 53, 97, 48, 48, 51, 102, 48, 56, 57, 100, 50, 55, 51, 57, 56, 51, 57, 100, 101, 99, 53, 56, 98, 57, 54, 52, 101, 99, 51, 56, 52, 51] := by decide +kernel
def VN : List UInt8 := macOf [] []
theorem VN_not : (VN == List.replicate 32 0) = false := by decide +kernel
theorem lit_readb (w : World) (t : TypeId) (fr : Nat × Nat) (b : Nat) (hb : b = w.heap.size) (l : List UInt8) (cs : Array Value) (hcs : cs = (l.map fun b => Value.int .u8 (b.toNat : Int)).toArray) (hl : l.length ≤ 9223372036854775807) : Kb.C (w.alloc (.cells cs t fr)) (some ⟨b, 0, none⟩) l.length l := by
  subst hb
  exact lit_read w t fr l hcs hl
theorem Text0 (w : World) : Calls Try.prog 52 #[.agg (e8 V0)] w fun e w' => e = .returned (.string ⟨#[53, 98, 100, 99, 99, 49, 52, 54, 98, 102, 54, 48, 55, 53, 52, 101, 54, 97, 48, 52, 50, 52, 50, 54, 48, 56, 57, 53, 55, 53, 99, 55, 53, 97, 48, 48, 51, 102, 48, 56, 57, 100, 50, 55, 51, 57, 56, 51, 57, 100, 101, 99, 53, 56, 98, 57, 54, 52, 101, 99, 51, 56, 52, 51]⟩) ∧ Below w.heap.size w w' :=
  (Text_calls V0 V0_len w).mono fun e w' ⟨he, hb⟩ => ⟨by rw [he, hex0]; rfl, hb⟩
theorem Of0 (a b : Nat) (w : World) (hr : Kb.C w (some ⟨a, 0, none⟩) 4 key0) (hs : Kb.C w (some ⟨b, 0, none⟩) 28 txt0) :
    Calls Try.prog 39 #[.slice (some ⟨a, 0, none⟩) 4 4, .slice (some ⟨b, 0, none⟩) 28 28] w fun e w' => e = .returned (.agg (e8 V0)) ∧ Below w.heap.size w w' :=
  MacOf_calls _ _ 4 28 4 28 key0 txt0 V0 rfl w rfl rfl hr hs (by decide) (by decide)
theorem Check0 (a b : Nat) (w : World) (hr : Kb.C w (some ⟨a, 0, none⟩) 4 key0) (hs : Kb.C w (some ⟨b, 0, none⟩) 28 txt0) :
    Calls Try.prog 40 #[.slice (some ⟨a, 0, none⟩) 4 4, .slice (some ⟨b, 0, none⟩) 28 28, .agg (e8 V0)] w fun e w' => e = .returned (.bool true) ∧ Below w.heap.size w w' :=
  Check_calls _ _ 4 28 4 28 key0 txt0 V0 V0 rfl true (beq_self_eq_true _).symm V0_len w rfl rfl hr hs (by decide) (by decide)
theorem CheckN (w : World) :
    Calls Try.prog 40 #[.slice none 0 0, .slice none 0 0, .agg #[.int .u8 0, .int .u8 0, .int .u8 0, .int .u8 0, .int .u8 0, .int .u8 0, .int .u8 0, .int .u8 0, .int .u8 0, .int .u8 0, .int .u8 0, .int .u8 0, .int .u8 0, .int .u8 0, .int .u8 0, .int .u8 0, .int .u8 0, .int .u8 0, .int .u8 0, .int .u8 0, .int .u8 0, .int .u8 0, .int .u8 0, .int .u8 0, .int .u8 0, .int .u8 0, .int .u8 0, .int .u8 0, .int .u8 0, .int .u8 0, .int .u8 0, .int .u8 0]] w fun e w' => e = .returned (.bool false) ∧ Below w.heap.size w w' :=
  Check_calls none none 0 0 0 0 [] [] (List.replicate 32 0) VN rfl false VN_not.symm rfl w rfl rfl (Kd.C_nil _ _) (Kd.C_nil _ _) (by decide) (by decide)
set_option maxRecDepth 100000 in
set_option maxHeartbeats 4000000 in
theorem sure_calls (w : World) : Calls Try.prog 35 #[] w fun e w' => e = .returned (.bool true) ∧ Below w.heap.size w w' := by
  have HZ := Aside0.mk (sz32 V0 V0_len)
  have kc := fun (w : World) (C : Array Value) (n c : Nat) => kconst w C n c _ rfl
  have kc1 := fun (w : World) (o : Obj) (C : Array Value) (n c : Nat) => kconst (w.alloc o) C n c (w.heap.size + 1) (by simp)
  go_enter Try.func35, Try.ntmps35
  go_wp2_with (first
    | (go_at_call 39; refine (Of0 _ _ _ (Kd.C_below (lit_readb w _ _ _ rfl key0 _ rfl (by decide)) (below_new _)) (lit_readb _ _ _ _ (by simp) txt0 _ rfl (by decide))).mono ?_; rintro e w1 ⟨rfl, hb1⟩; replace hb1 := Aside0.mk (below_then (below_alloc (below_new _) _) (by simp; omega) hb1))
    | ((with_reducible refine at_store_ (x := .tmp 1) ?_); (refine wpList_store_row rfl 51 _ _ rfl w1.heap.size (e8 V0) _ 51 rfl rfl (blk_new w1 _) HZ.out (by rw [e8_size, V0_len]; rfl) (e8_one _) ?_); (generalize hW2 : World.setRow (World.alloc w1 _) _ _ = W2; have HV2 := Aside0.mk (show Blk W2 w1.heap.size 51 (e8 V0) by rw [← hW2]; exact blk_setRow (blk_new w1 _) _); have HW2 := Aside0.mk (show Below w.heap.size w W2 by rw [← hW2]; exact below_setRow (below_alloc hb1.out _) hb1.out.size _); clear hW2))
    | ((with_reducible refine at_load_ (x := .tmp 1) ?_); (refine wpList_load_row rfl 51 _ rfl w1.heap.size rfl 51 (e8 V0) (0, 0) _ HV2.out Try.underlying51 rfl HZ.out ?_))
    | (go_at_call 52; refine (Text0 _).mono ?_; rintro e w3 ⟨rfl, hb3⟩; have HV3 := Aside0.mk (blk_below HV2.out hb3); replace hb3 := Aside0.mk (below_then HW2.out HW2.out.size hb3))
    | ((with_reducible refine at_load_ (x := .tmp 1) ?_); (refine wpList_value (by rfl) (exec_load_row 51 (.tmp 1) rfl w1.heap.size 51 (e8 V0) _ rfl (blk_alloc (blk_alloc HV3.out _) _) Try.underlying51 rfl HZ.out) ?_))
    | (go_at_call 40; (with_reducible refine (Check0 _ _ _ (Kd.C_below (lit_readb w3 _ _ _ rfl key0 _ rfl (by decide)) (below_new _)) (lit_readb _ _ _ _ (by simp) txt0 _ rfl (by decide))).mono ?_); rintro e w4 ⟨rfl, hb4⟩; replace hb4 := Aside0.mk (below_then (below_alloc (below_alloc hb3.out _) _) (by have := hb3.out.size; simp; omega) hb4))
    | (go_at_call 40; (with_reducible refine (CheckN _).mono ?_); rintro e w5 ⟨rfl, hb5⟩; replace hb5 := Aside0.mk (below_then hb4.out hb4.out.size hb5)))
  go_ret
  exact ⟨rfl, hb5.out⟩
end Go.Proofs.Ytpgighcobmaecaa.Mac
