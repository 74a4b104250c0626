/- What must come whatever the input is, of layer 5; the law ShaSums: the walk. -/
import Derived.Test.YthmlidlnojdggaaDoorShaParse
import Derived.Test.YthmlidlnojdggaaDoorShaRefText
import Derived.Test.YthmlidlnojdggaaDoorShaOf
import Derived.Test.YthmlidlnojdggaaDoorShaRefOf
set_option linter.unusedVariables false
set_option linter.unusedSimpArgs false
namespace Go.Proofs.YthmlidlnojdggaaDoor.Sha
open Go.RowKit Go.Proofs.YthmlidlnojdggaaDoorW.PrintWords Go.Proofs.YthmlidlnojdggaaDoorW.PrintLast

theorem Of_x (l Z : List UInt8) (hZ : Z = sum l) (A : Option Addr) (c n : Nat) (w : World) (hn : l.length = n) (hr : Kb.C w A n l) (hl : n ≤ 140737488000000) : Calls Tryd.prog 14 #[.slice A n c] w fun e w' => e = .returned (.agg (e8 Z)) ∧ Below w.heap.size w w' := by
  subst hZ
  exact Of_calls A c n l w hn hr hl
theorem RefOf_y (l Z : List UInt8) (hZ : Z = sum l) (A : Option Addr) (c n : Nat) (w : World) (hn : l.length = n) (hr : Kb.C w A n l) (hl : n ≤ 140737488000000) : Calls Tryd.prog 15 #[.slice A n c] w fun e w' => e = .returned (.agg (e8 Z)) ∧ Below w.heap.size w w' := by
  subst hZ
  exact RefOf_calls A c n l w hn hr hl
def S0 : List UInt8 := sum [97, 98, 99]
theorem S0_len : S0.length = 32 := sum_len _
theorem hexS0 : hexOf S0 = [98, 97, 55, 56, 49, 54, 98, 102, 56, 102, 48, 49, 99, 102, 101, 97, 52, 49, 52, 49, 52, 48, 100, 101, 53, 100, 97, 101, 50, 50, 50, 51, 98, 48, 48, 51, 54, 49, 97, 51, 57, 54, 49, 55, 55, 97, 57, 99, 98, 52, 49, 48, 102, 102, 54, 49, 102, 50, 48, 48, 49, 53, 97, 100] := by decide +kernel
theorem TextS0 (w : World) : Calls Tryd.prog 18 #[.agg (e8 S0)] w fun e w' => e = .returned (.string ⟨#[98, 97, 55, 56, 49, 54, 98, 102, 56, 102, 48, 49, 99, 102, 101, 97, 52, 49, 52, 49, 52, 48, 100, 101, 53, 100, 97, 101, 50, 50, 50, 51, 98, 48, 48, 51, 54, 49, 97, 51, 57, 54, 49, 55, 55, 97, 57, 99, 98, 52, 49, 48, 102, 102, 54, 49, 102, 50, 48, 48, 49, 53, 97, 100]⟩) ∧ Below w.heap.size w w' :=
  (Text_calls S0 S0_len w).mono fun e w' ⟨he, hb⟩ => ⟨by rw [he, hexS0]; rfl, hb⟩
theorem ParseS0 (w : World) : Calls Tryd.prog 16 #[.string ⟨#[98, 97, 55, 56, 49, 54, 98, 102, 56, 102, 48, 49, 99, 102, 101, 97, 52, 49, 52, 49, 52, 48, 100, 101, 53, 100, 97, 101, 50, 50, 50, 51, 98, 48, 48, 51, 54, 49, 97, 51, 57, 54, 49, 55, 55, 97, 57, 99, 98, 52, 49, 48, 102, 102, 54, 49, 102, 50, 48, 48, 49, 53, 97, 100]⟩] w fun e w' => e = .returned (.tuple #[.agg (e8 S0), .nilIface]) ∧ Below w.heap.size w w' := by
  have h := Parse_calls (hexOf S0) w
  rw [pv_hex S0 S0_len, pe_hex S0 S0_len, hexS0] at h
  exact h
theorem bad48 : ¬ Good [48] := fun h => absurd h.1 (by decide)
theorem Parse48 (w : World) : Calls Tryd.prog 16 #[.string ⟨#[48]⟩] w fun e w' => e = .returned (.tuple #[.agg (e8 (List.replicate 32 0)), errV (some 3)]) ∧ Below w.heap.size w w' := by
  have h := Parse_calls [48] w
  rw [pv, pe, if_neg bad48, if_neg bad48] at h
  exact h
theorem lit_readc (w : World) (t : TypeId) (fr : Nat × Nat) (b : Nat) (hb : b = w.heap.size) (l : List UInt8) (cs : Array Value) (hcs : cs = (l.map fun b => Value.int .u8 (b.toNat : Int)).toArray) (hl : l.length ≤ 9223372036854775807) : Kb.C (w.alloc (.cells cs t fr)) (some ⟨b, 0, none⟩) l.length l := by
  subst hb
  exact lit_read w t fr l hcs hl
theorem z0_len : (List.replicate 32 (0 : UInt8)).length = 32 := rfl
set_option maxRecDepth 100000 in
set_option maxHeartbeats 4000000 in
theorem sure_calls (w : World) (hL : ErrAs.Laid w) : Calls Tryd.prog 13 #[] w fun e w' => e = .returned (.bool true) ∧ Below w.heap.size w w' := by
  have HZ := Aside0.mk (sz32 S0 S0_len)
  have HZ0 := Aside0.mk (sz32 (List.replicate 32 0) rfl)
  have heq := fun w => (eq32 S0 S0 S0_len S0_len w).trans (by rw [beq_self_eq_true])
  have kc := fun (w : World) (C : Array Value) (n c : Nat) => kconst w C n c _ rfl
  have HL := Aside0.mk hL
  have HO := Aside0.mk (show (e8 (List.replicate 32 0)).size = (e8 S0).size by rw [e8_size, e8_size, S0_len]; rfl)
  clear hL
  go_enter Tryd.func13, Tryd.ntmps13
  go_wp2_with (first
    | ((go_at_call 14; (refine (Of_x [97, 98, 99] S0 rfl _ _ _ _ rfl (lit_readc w _ _ _ rfl [97, 98, 99] _ rfl (by decide)) (by decide)).mono ?_); rintro e W0 ⟨rfl, hb0⟩; replace hb0 := below_then (below_new _) (by simp) hb0); have hz1 := Below.size hb0; replace hb0 := Aside0.mk hb0)
    | ((with_reducible refine at_alloc_ (d := some 1) ?_); (refine wpList_make_ (t := 24) ((e8 (List.replicate 32 0))) (fun g => .pointer (some ⟨g, 0, none⟩)) (by rfl) ?_ ?_); (first | (go_simp; done) | (unfold execOp; go_simp; done) | (go_simp; constructor <;> rfl) | (go_simp; rfl) | rfl); intro g1 x1 hge_g1 B_g1 hbx1; replace B_g1 := Aside0.mk B_g1; have L2_w := Aside0.mk (below_then hb0.out (Below.size hb0.out) hbx1); have hz2 := Below.size hbx1; replace hbx1 := Aside0.mk hbx1)
    | ((with_reducible refine at_store_ (x := .tmp 1) ?_); (refine wpList_store_row rfl 24 _ _ rfl g1 (e8 S0) _ 24 rfl rfl B_g1.out HZ.out HO.out (e8_one _) ?_); generalize hWx2 : World.setRow x1 _ _ = x2; have L3_w := Aside0.mk (show Below w.heap.size w x2 by rw [← hWx2]; exact below_setRow L2_w.out (by omega) _); have hzL3_w := Below.size L3_w.out; have B_g1_3 := Aside0.mk (show Blk x2 g1 24 (e8 S0) by rw [← hWx2]; exact blk_setRow B_g1.out _); clear hWx2)
    | ((with_reducible refine at_load_ (x := .tmp 1) ?_); (refine wpList_value (by rfl) (exec_load_row 24 (.tmp 1) rfl g1 24 (e8 S0) _ rfl B_g1_3.out Tryd.underlying24 rfl HZ.out) ?_))
    | (go_at_call 18; (with_reducible refine (TextS0 x2).mono ?_); rintro e x3 ⟨rfl, hbx3⟩; have L4_w := Aside0.mk (below_then L3_w.out (Below.size L3_w.out) hbx3); have hz4 := Below.size hbx3; replace hbx3 := Aside0.mk hbx3)
    | (go_at_call 16; (with_reducible refine (ParseS0 x3).mono ?_); rintro e x4 ⟨rfl, hbx4⟩; have L5_w := Aside0.mk (below_then L4_w.out (Below.size L4_w.out) hbx4); have L5_x2 := Aside0.mk (below_then hbx3.out (Below.size hbx3.out) hbx4); have hz5 := Below.size hbx4; replace hbx4 := Aside0.mk hbx4)
    | ((with_reducible refine at_alloc_ (d := some 3) ?_); (refine wpList_make_ (t := 24) ((e8 (List.replicate 32 0))) (fun g => .pointer (some ⟨g, 0, none⟩)) (by rfl) ?_ ?_); (first | (go_simp; done) | (unfold execOp; go_simp; done) | (go_simp; constructor <;> rfl) | (go_simp; rfl) | rfl); intro g3 x5 hge_g3 B_g3 hbx5; replace B_g3 := Aside0.mk B_g3; have L6_w := Aside0.mk (below_then L5_w.out (Below.size L5_w.out) hbx5); have L6_x2 := Aside0.mk (below_then L5_x2.out (Below.size L5_x2.out) hbx5); have hz6 := Below.size hbx5; replace hbx5 := Aside0.mk hbx5)
    | ((with_reducible refine at_store_ (x := .tmp 3) ?_); (refine wpList_store_row rfl 24 _ _ rfl g3 (e8 S0) _ 24 rfl rfl B_g3.out HZ.out HO.out (e8_one _) ?_); generalize hWx6 : World.setRow x5 _ _ = x6; have L7_w := Aside0.mk (show Below w.heap.size w x6 by rw [← hWx6]; exact below_setRow L6_w.out (by omega) _); have hzL7_w := Below.size L7_w.out; have L7_x2 := Aside0.mk (show Below x2.heap.size x2 x6 by rw [← hWx6]; exact below_setRow L6_x2.out (by omega) _); have hzL7_x2 := Below.size L7_x2.out; have B_g3_7 := Aside0.mk (show Blk x6 g3 24 (e8 S0) by rw [← hWx6]; exact blk_setRow B_g3.out _); clear hWx6)
    | (go_at_call 16; (with_reducible refine (Parse48 x6).mono ?_); rintro e x7 ⟨rfl, hbx7⟩; have L8_w := Aside0.mk (below_then L7_w.out (Below.size L7_w.out) hbx7); have L8_x2 := Aside0.mk (below_then L7_x2.out (Below.size L7_x2.out) hbx7); have hz8 := Below.size hbx7; replace hbx7 := Aside0.mk hbx7)
    | ((with_reducible refine at_alloc_ (d := some 5) ?_); (refine wpList_make_ (t := 24) ((e8 (List.replicate 32 0))) (fun g => .pointer (some ⟨g, 0, none⟩)) (by rfl) ?_ ?_); (first | (go_simp; done) | (unfold execOp; go_simp; done) | (go_simp; constructor <;> rfl) | (go_simp; rfl) | rfl); intro g5 x8 hge_g5 B_g5 hbx8; replace B_g5 := Aside0.mk B_g5; have L9_w := Aside0.mk (below_then L8_w.out (Below.size L8_w.out) hbx8); have L9_x2 := Aside0.mk (below_then L8_x2.out (Below.size L8_x2.out) hbx8); have L9_x6 := Aside0.mk (below_then hbx7.out (Below.size hbx7.out) hbx8); have hz9 := Below.size hbx8; replace hbx8 := Aside0.mk hbx8)
    | ((with_reducible refine at_store_ (x := .tmp 5) ?_); (refine wpList_store_row rfl 24 _ _ rfl g5 (e8 (List.replicate 32 0)) _ 24 rfl rfl B_g5.out HZ0.out rfl (e8_one _) ?_); generalize hWx9 : World.setRow x8 _ _ = x9; have L10_w := Aside0.mk (show Below w.heap.size w x9 by rw [← hWx9]; exact below_setRow L9_w.out (by omega) _); have hzL10_w := Below.size L10_w.out; have L10_x2 := Aside0.mk (show Below x2.heap.size x2 x9 by rw [← hWx9]; exact below_setRow L9_x2.out (by omega) _); have hzL10_x2 := Below.size L10_x2.out; have L10_x6 := Aside0.mk (show Below x6.heap.size x6 x9 by rw [← hWx9]; exact below_setRow L9_x6.out (by omega) _); have hzL10_x6 := Below.size L10_x6.out; have B_g5_10 := Aside0.mk (show Blk x9 g5 24 (e8 (List.replicate 32 0)) by rw [← hWx9]; exact blk_setRow B_g5.out _); clear hWx9)
    | ((with_reducible refine at_load_ (x := .tmp 3) ?_); (refine wpList_value (by rfl) (exec_load_row 24 (.tmp 3) rfl g3 24 (e8 S0) _ rfl (blk_below B_g3_7.out L10_x6.out) Tryd.underlying24 rfl HZ.out) ?_))
    | ((with_reducible refine at_load_ (x := .tmp 1) ?_); (refine wpList_value (by rfl) (exec_load_row 24 (.tmp 1) rfl g1 24 (e8 S0) _ rfl (blk_below B_g1_3.out L10_x2.out) Tryd.underlying24 rfl HZ.out) ?_))
    | (go_at_call 19; (with_reducible refine (caucuslaw05.num_calls (some 3) x9 (ErrAs.Laid.below HL.out L10_w.out)).mono ?_); rintro e x10 ⟨rfl, hbx10⟩; have L11_w := Aside0.mk (below_then L10_w.out (Below.size L10_w.out) hbx10); have L11_x2 := Aside0.mk (below_then L10_x2.out (Below.size L10_x2.out) hbx10); have L11_x6 := Aside0.mk (below_then L10_x6.out (Below.size L10_x6.out) hbx10); have hz11 := Below.size hbx10; replace hbx10 := Aside0.mk hbx10))
  go_ret
  exact ⟨rfl, L11_w.out⟩
set_option maxRecDepth 100000 in
set_option maxHeartbeats 4000000 in
theorem sums_calls (A : Option Addr) (c n : Nat) (l : List UInt8) (w : World) (hn : l.length = n) (hr : Kb.C w A n l) (hL : ErrAs.Laid w) :
    Calls Tryd.prog 3 #[.slice A n c] w fun e w' => e = .returned (.bool true) ∧ Below w.heap.size w w' := by
  have HN := Aside0.mk hn
  have HR := Aside0.mk hr
  have HL := Aside0.mk hL
  clear hn hr hL
  by_cases h1 : n ≤ 600
  · have i1 : (n : Int) ≤ 600 := by omega
    obtain ⟨Z, hZ⟩ : ∃ Z, Z = sum l := ⟨_, rfl⟩
    have hZl : Z.length = 32 := by rw [hZ]; exact sum_len _
    have heq := fun w => (eq32 Z Z hZl hZl w).trans (by rw [beq_self_eq_true])
    have hss := seq_true (a := l) rfl
    have HZ := Aside0.mk hZ
    clear hZ hZl
    go_enter Tryd.func3, Tryd.ntmps3
    go_wp2_with (first
      | ((with_reducible refine at_row_ (d := some 8) ?_); (refine wpList_make_ (t := 5) (#[]) (fun g => .slice (some ⟨g, 0, none⟩) 0 0) (by rfl) ?_ ?_); (first | exact exec_row0 _ rfl _ | (go_simp; done) | (unfold execOp; go_simp; done) | (go_simp; constructor <;> rfl) | (go_simp; rfl) | rfl); intro g8 y1 hge_g8 B_g8 hby1; replace B_g8 := Aside0.mk B_g8; have hz12 := Below.size hby1; replace hby1 := Aside0.mk hby1; have H8 := Aside0.mk (show Bs y1 w.heap.size (.slice (some ⟨g8, 0, none⟩) 0 0) [] from Bs.of_blk B_g8.out rfl hge_g8 rfl (by decide)))
      | (at_builtin; refine app_bs (w0 := w) w.heap.size rfl (.tmp 8) (.tmp 9) rfl _ ([]) (l) _ _ _ rfl rfl H8.out (Kd.C_below HR.out hby1.out) hby1.out (Below.size hby1.out) (by show 0 + n ≤ _; omega) ?_; intro z5 A5 c5 y2 hzy2 hBy2 hby2 hsy2 hgy2; have hz13 := hgy2.out.size; have HZ5 := Aside0.mk (show z5 = l from hzy2.out.trans (List.nil_append _)); rw [show z5.length = n by rw [HZ5.out, HN.out]] at hBy2 ⊢; have K5 := Aside0.mk (show Kb.C y2 A5 n l from (by rw [← HZ5.out]; exact hBy2.out.read.1)))
      | (go_at_call 14; (with_reducible refine (Of_x l Z HZ.out A5 c5 n y2 HN.out K5.out (by omega)).mono ?_); rintro e y3 ⟨rfl, hby3⟩; have L14_w := Aside0.mk (below_then hby2.out (Below.size hby2.out) hby3); have hz14 := Below.size hby3; replace hby3 := Aside0.mk hby3)
      | (go_at_call 15; (with_reducible refine (RefOf_y l Z HZ.out A c n y3 HN.out (Kd.C_below HR.out L14_w.out) (by omega)).mono ?_); rintro e y4 ⟨rfl, hby4⟩; have L15_w := Aside0.mk (below_then L14_w.out (Below.size L14_w.out) hby4); have L15_y2 := Aside0.mk (below_then hby3.out (Below.size hby3.out) hby4); have hz15 := Below.size hby4; replace hby4 := Aside0.mk hby4; have hc1 := str_of (c := c5) (Kd.C_below K5.out L15_y2.out); have hc2 := str_of (c := c) (Kd.C_below HR.out L15_w.out))
      | (go_at_call 13; (with_reducible refine (sure_calls y4 (ErrAs.Laid.below HL.out L15_w.out)).mono ?_); rintro e y5 ⟨rfl, hby5⟩; have L16_w := Aside0.mk (below_then L15_w.out (Below.size L15_w.out) hby5); have L16_y2 := Aside0.mk (below_then L15_y2.out (Below.size L15_y2.out) hby5); have hz16 := Below.size hby5; replace hby5 := Aside0.mk hby5))
    go_ret
    exact ⟨rfl, L16_w.out⟩
  · have i1 : 600 < (n : Int) := by omega
    go_enter Tryd.func3, Tryd.ntmps3
    go_wp2_with (go_at_call 13; (with_reducible refine (sure_calls w HL.out).mono ?_); rintro e y6 ⟨rfl, hby6⟩; have hz17 := Below.size hby6; replace hby6 := Aside0.mk hby6)
    go_ret
    exact ⟨rfl, hby6.out⟩
end Go.Proofs.YthmlidlnojdggaaDoor.Sha
