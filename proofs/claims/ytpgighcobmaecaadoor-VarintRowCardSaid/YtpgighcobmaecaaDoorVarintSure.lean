/- What the laws of layer 11 hold first: their 'sure'. -/
import Derived.Test.YtpgighcobmaecaaDoorVarintRef
set_option linter.unusedVariables false
set_option linter.unusedSimpArgs false
namespace Go.Proofs.YtpgighcobmaecaaDoor.Vi
open Go.RowKit Go.Proofs.YtpgighcobmaecaaDoorW.PrintWords Go.Proofs.YtpgighcobmaecaaDoorW.PrintLast ErrAs

theorem get_a : (some (256, 3) : Option (Nat × Nat)) = getS [249, 1, 0, 7] := by decide
theorem get_b : (none : Option (Nat × Nat)) = getS [248, 5] := by decide
theorem need_248 : need0 248 = 1 := need0_eq (n := 0) (by decide) (by decide)
theorem put_a : ([247] : List UInt8) = [] ++ enc 247 := by unfold enc; rw [if_pos (by decide)]; rfl
theorem put_b : ([1, 248, 248] : List UInt8) = [1] ++ enc 248 := by unfold enc; rw [if_neg (by decide), need_248]; rfl
theorem size_a : 9 = size 18446744073709551615 := by
  unfold size
  rw [if_neg (by decide), need0_eq (n := 7) (by decide) (by decide)]
theorem lit_ok (l : List UInt8) (n : Nat) (hn : l.length = n) (cs : Array Value) (hcs : cs = (l.map fun b => Value.int .u8 (b.toNat : Int)).toArray) (v k : Nat) (V K : Int) (hV : V = (v : Int)) (hK : K = (k : Int)) (ho : some (v, k) = getS l) (hl : n ≤ 140737488000000) (w : World) (fr : Nat × Nat) (b : Nat) (hb : b = w.heap.size) :
    Calls Tryd.prog 8 #[.slice (some ⟨b, 0, none⟩) n n] (w.alloc (.cells cs 5 fr)) fun e w' => e = .returned (.tuple #[.int .u64 V, .int .i64 K, .nilIface]) ∧ w.alloc (.cells cs 5 fr) = w' := by
  subst hb hn hV hK
  exact Get_ok _ _ _ l _ rfl (lit_read w _ _ l hcs (by omega)) hl (Nat.le_refl _) v k ho
theorem lit_bad (l : List UInt8) (n : Nat) (hn : l.length = n) (cs : Array Value) (hcs : cs = (l.map fun b => Value.int .u8 (b.toNat : Int)).toArray) (ho : none = getS l) (hl : n ≤ 140737488000000) (w : World) (fr : Nat × Nat) (b : Nat) (hb : b = w.heap.size) :
    Calls Tryd.prog 8 #[.slice (some ⟨b, 0, none⟩) n n] (w.alloc (.cells cs 5 fr)) fun e w' => e = .returned (.tuple #[.int .u64 0, .int .i64 0, .iface 49 (.int .i64 3)]) ∧ w.alloc (.cells cs 5 fr) = w' := by
  subst hb hn
  exact Get_bad _ _ _ l _ rfl (lit_read w _ _ l hcs (by omega)) hl (Nat.le_refl _) ho
theorem put_at (A : Option Addr) (c n : Nat) (l : List UInt8) (w : World) (hn : l.length = n) (hr : Kb.C w A n l) (hl : n ≤ 140737488000000) (v : Nat) (V : Int) (hV : V = (v : Int)) (hv : v < 18446744073709551616) (z : List UInt8) (hz : z = l ++ enc v) :
    Calls Tryd.prog 11 #[.slice A n c, .int .u64 V] w (RetBs w z) := by
  subst hV
  exact Put_v A c n l v w hn hr hl ⟨hv⟩ z ⟨hz⟩
theorem size_at (v : Nat) (V : Int) (hV : V = (v : Int)) (hv : v < 18446744073709551616) (w : World) (r : Nat) (R : Int) (hR : R = (r : Int)) (hr : r = size v) :
    Calls Tryd.prog 13 #[.int .u64 V] w fun e w' => e = .returned (.int .i64 R) ∧ w = w' := by
  subst hV hR
  exact Size_v v ⟨hv⟩ w r ⟨hr⟩
set_option maxRecDepth 100000 in
set_option maxHeartbeats 2000000 in
theorem sure_calls (w : World) (hg : Laid w) :
    Calls Tryd.prog 7 #[] w fun e w' => e = .returned (.bool true) ∧ Below w.heap.size w w' := by
  have HG := Aside0.mk hg
  clear hg
  have kc := kconst
  have ks := strOf_toList
  go_enter Tryd.func7, Tryd.ntmps7
  go_wp2_with (first
    | (go_at_call 8; with_reducible refine (lit_ok [249, 1, 0, 7] 4 rfl _ (by simp) 256 3 _ _ rfl rfl get_a (by decide) _ _ _ (by simp)).mono ?_; rintro e w' ⟨rfl, rfl⟩)
    | (go_at_call 8; with_reducible refine (lit_bad [248, 5] 2 rfl _ (by simp) get_b (by decide) _ _ _ (by simp)).mono ?_; rintro e w' ⟨rfl, rfl⟩)
    | (go_at_call 10; with_reducible refine (caucuslaw11.num_some 3 _ (HG.out.below (by repeat (first | exact Below.refl _ _ | apply below_alloc)))).mono ?_; rintro e w2 ⟨rfl, hb2⟩; have HB2 := Aside0.mk (below_step (w := w) (by repeat (first | exact Below.refl _ _ | apply below_alloc)) hb2); clear hb2)
    | (go_at_call 11; (with_reducible refine (put_at none 0 0 [] w2 rfl (nil_read _) (by decide) 247 247 rfl (by decide) [247] put_a).mono ?_); rintro e w3 ⟨A3, c3, rfl, hB3, hb3⟩; have HB3 := Aside0.mk (below_step HB2.out hb3); have hc3 := str_of (n := 1) (c := c3) (Bs.read hB3).1; replace hB3 := Aside0.mk hB3; clear hb3)
    | (go_at_call 11; (with_reducible refine (put_at _ _ 1 [1] _ rfl (lit_read w3 _ _ [1] (by simp) (by decide)) (by decide) 248 248 rfl (by decide) [1, 248, 248] put_b).mono ?_); rintro e w4 ⟨A4, c4, rfl, hB4, hb4⟩; have HB4 := Aside0.mk (below_step (below_alloc HB3.out _) hb4); have hc4 := str_of (n := 3) (c := c4) (Bs.read hB4).1; replace hB4 := Aside0.mk hB4; clear hb4)
    | (go_at_call 13; with_reducible refine (size_at 18446744073709551615 18446744073709551615 rfl (by decide) _ 9 9 rfl size_a).mono ?_; rintro e w' ⟨rfl, rfl⟩))
  go_ret
  exact ⟨rfl, HB4.out⟩
end Go.Proofs.YtpgighcobmaecaaDoor.Vi
