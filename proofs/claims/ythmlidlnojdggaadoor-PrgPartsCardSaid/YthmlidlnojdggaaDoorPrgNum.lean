/- Package prg by contracts: Num, Child. -/
import Derived.Test.YthmlidlnojdggaaDoorPrg2
set_option linter.unusedVariables false
set_option linter.unusedSimpArgs false
namespace Go.Proofs.YthmlidlnojdggaaDoor.Prg
open Go.RowKit Go.Proofs.YthmlidlnojdggaaDoorW.PrintWords Go.Proofs.YthmlidlnojdggaaDoorW.PrintLast Go.Proofs.YthmlidlnojdggaaDoor.Sha Go.Proofs.YthmlidlnojdggaaDoor.Mac

def okN (l : List UInt8) (at_ : Int) : Prop := Lab l ∧ 0 ≤ at_ ∧ at_ ≤ 1048576
instance (l : List UInt8) (a : Int) : Decidable (okN l a) := by unfold okN; infer_instance
def nv (seed : Nat) (l : List UInt8) (a : Int) : Nat := if okN l a then fnum seed l a.toNat else 0
def ne (l : List UInt8) (a : Int) : Option Int := if okN l a then none else some 1
theorem num8 (b : List UInt8) : num (b.take 8) < 18446744073709551616 := by
  have h1 := num_lt (b.take 8)
  have h2 : 256 ^ (b.take 8).length ≤ 256 ^ 8 := Nat.pow_le_pow_right (by decide) (by rw [List.length_take]; omega)
  have h3 : (256 : Nat) ^ 8 = 18446744073709551616 := by decide
  rw [← h3]
  exact Nat.lt_of_lt_of_le h1 h2
set_option maxRecDepth 100000 in
set_option maxHeartbeats 4000000 in
theorem Num_calls (seed : Nat) (l : List UInt8) (a : Int) (hs : seed < 18446744073709551616) (hl : l.length ≤ 300) (V : Nat) (E : Option Int) (hV : V = nv seed l a) (hE : E = ne l a) (w : World) :
    Calls Tryd.prog 24 #[.int .u64 (seed : Int), .string (strOf l), .int .i64 a] w fun e w' => e = .returned (.tuple #[.int .u64 (V : Int), errV E]) ∧ Below w.heap.size w w' := by
  have HS := Aside0.mk hs
  have hen := errV_none
  have hes := errV_some 1
  clear hs
  by_cases hok : okN l a
  · obtain ⟨hL, h0, h1⟩ := hok
    obtain ⟨i, rfl⟩ := Int.eq_ofNat_of_zero_le h0
    have HE := Aside0.mk (show E = none by rw [hE, ne, if_pos ⟨hL, h0, h1⟩])
    have HV := Aside0.mk (show V = num ((blk seed l i).take 8) % prime by rw [hV, nv, if_pos ⟨hL, h0, h1⟩, fnum, Int.toNat_natCast])
    have HLb := Aside0.mk (show none = if Lab l then none else some (1 : Int) by rw [if_pos hL])
    obtain ⟨b, hb⟩ : ∃ b, b = blk seed l i := ⟨_, rfl⟩
    have HBL := Aside0.mk (show b.length = 32 by rw [hb]; exact blk_len _ _ _)
    have HB := Aside0.mk hb
    have HZ := Aside0.mk (sz32 b HBL.out)
    have HO := Aside0.mk (show (e8 (List.replicate 32 0)).size = (e8 b).size by rw [e8_size, e8_size, HBL.out]; rfl)
    have hi : i ≤ 2000000 := by omega
    obtain ⟨q, hq⟩ : ∃ q, q = num (b.take 8) := ⟨_, rfl⟩
    have HQ := Aside0.mk hq
    have HQ8 := Aside0.mk (show q < 18446744073709551616 by rw [hq]; exact num8 b)
    have HT := Aside0.mk (show (b.take 8).length = 8 by rw [List.length_take, HBL.out]; rfl)
    clear hb hL hV hE hq
    go_enter Tryd.func24, Tryd.ntmps24
    go_wp2_with (first
      | (go_at_call 64; (with_reducible refine (labelled_calls l (by omega) none HLb.out w).mono ?_); rintro e x1 ⟨rfl, hbx1⟩; have hz1 := Below.size hbx1; replace hbx1 := Aside0.mk hbx1)
      | (go_at_call 65; (with_reducible refine (block_calls seed i _ _ rfl rfl HS.out hi l hl b HB.out x1).mono ?_); rintro e x2 ⟨rfl, hbx2⟩; have L2_w := Aside0.mk (below_then hbx1.out (Below.size hbx1.out) hbx2); have hz2 := Below.size hbx2; replace hbx2 := Aside0.mk hbx2)
      | ((with_reducible refine at_alloc_ (d := some 9) ?_); (refine wpList_make_ (t := 24) ((e8 (List.replicate 32 0))) (fun g => .pointer (some ⟨g, 0, none⟩)) (by rfl) ?_ ?_); (first | (go_simp; done) | (unfold execOp; go_simp; done) | (simp only [Act.put]; go_simp; done) | (go_simp; constructor <;> rfl) | (go_simp; rfl) | rfl); intro g9 x3 hge_g9 B_g9 hbx3; replace B_g9 := Aside0.mk B_g9; have L3_w := Aside0.mk (below_then L2_w.out (Below.size L2_w.out) hbx3); have hz3 := Below.size hbx3; replace hbx3 := Aside0.mk hbx3)
      | ((with_reducible refine at_store_ (x := .tmp 9) ?_); (refine wpList_store_row rfl 24 _ _ rfl g9 (e8 b) _ 24 rfl rfl B_g9.out HZ.out HO.out (e8_one _) ?_); generalize hWx4 : World.setRow x3 _ _ = x4; have L4_w := Aside0.mk (show Below w.heap.size w x4 by rw [← hWx4]; exact below_setRow L3_w.out (by omega) _); have hzL4_w := Below.size L4_w.out; have B_g9_4 := Aside0.mk (show Blk x4 g9 24 (e8 b) by rw [← hWx4]; exact blk_setRow B_g9.out _); clear hWx4; have HK := Aside0.mk (show Kb.C x4 (some ⟨g9, 0, none⟩) 8 (b.take 8) by have h := blk_C8 B_g9_4.out 32 HBL.out (by decide); have := (cut_hi (some ⟨g9, 0, none⟩) 32 HBL.out 8 (by decide) (by decide)).2 _ h; exact this))
      | ((go_at_call 66; (with_reducible refine (number_calls _ _ 8 (b.take 8) _ HT.out HK.out (by omega) q HQ.out).mono ?_); rintro e W9 ⟨rfl, rfl⟩))
      | ((go_at_call 69; (with_reducible refine (fpOf_calls q _ rfl HQ8.out _).mono ?_); rintro e W9 ⟨rfl, rfl⟩)))
    go_ret2
    exact ⟨by rw [HV.out, HE.out, ← HB.out, ← HQ.out]; rfl, L4_w.out⟩
  · have HE := Aside0.mk (show E = some 1 by rw [hE, ne, if_neg hok])
    have HV := Aside0.mk (show V = 0 by rw [hV, nv, if_neg hok])
    by_cases hL : Lab l
    · have HLb := Aside0.mk (show none = if Lab l then none else some (1 : Int) by rw [if_pos hL])
      have hbad : a < 0 ∨ (0 ≤ a ∧ 1048576 < a) := by
        by_cases h0 : a < 0
        · exact .inl h0
        · refine .inr ⟨by omega, ?_⟩
          by_cases h1 : 1048576 < a
          · exact h1
          · exact absurd ⟨hL, by omega, by omega⟩ hok
      clear hL hok hV hE
      rcases hbad with h0 | ⟨h0, h1⟩
      all_goals
        go_enter Tryd.func24, Tryd.ntmps24
        go_wp2_with (go_at_call 64; (with_reducible refine (labelled_calls l (by omega) none HLb.out w).mono ?_); rintro e w1 ⟨rfl, hb1⟩)
        go_ret2
        exact ⟨by rw [HV.out, HE.out]; rfl, hb1⟩
    · have HLb := Aside0.mk (show some 1 = if Lab l then none else some (1 : Int) by rw [if_neg hL])
      clear hL hok hV hE
      go_enter Tryd.func24, Tryd.ntmps24
      go_wp2_with (go_at_call 64; (with_reducible refine (labelled_calls l (by omega) (some 1) HLb.out w).mono ?_); rintro e w1 ⟨rfl, hb1⟩)
      go_ret2
      exact ⟨by rw [HV.out, HE.out]; rfl, hb1⟩
theorem Child_calls (seed : Nat) (l : List UInt8) (hs : seed < 18446744073709551616) (hl : l.length ≤ 300) (V : Nat) (E : Option Int) (hV : V = nv seed l 0) (hE : E = ne l 0) (w : World) :
    Calls Tryd.prog 26 #[.int .u64 (seed : Int), .string (strOf l)] w fun e w' => e = .returned (.tuple #[.int .u64 (V : Int), errV E]) ∧ Below w.heap.size w w' := by
  have HS := Aside0.mk hs
  have HV := Aside0.mk hV
  have HE := Aside0.mk hE
  clear hs hV hE
  go_enter Tryd.func26, Tryd.ntmps26
  go_wp2_with (go_at_call 24; (with_reducible refine (Num_calls seed l 0 HS.out hl V E HV.out HE.out w).mono ?_); rintro e w1 ⟨rfl, hb1⟩)
  go_ret2
  exact ⟨rfl, hb1⟩
end Go.Proofs.YthmlidlnojdggaaDoor.Prg
