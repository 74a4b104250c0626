/- slices.Delete of one element of a row of the call's own, at elements of one cell. -/
import Derived.Test.YtpgighcobmaecaaBase
import Derived.Lib.SliceRun
import Derived.Lib.SlicesDelete
import Derived.Shelf.RegionOpenPlain
import Derived.Deep.RegionLaw
set_option linter.unusedVariables false
set_option linter.unusedSimpArgs false
namespace Go.Proofs.Ytpgighcobmaecaa
open Go.RowKit Go.Proofs.YtpgighcobmaecaaW.PrintWords Go.Proofs.YtpgighcobmaecaaW.PrintLast

/-- What is written behind a row's elements, in its own block, leaves the row as it is. -/
theorem R_beyond {α : Type} {d : Kd α} {e : Nat} {W : World} {base : Nat} {ok : Nat → Prop} {g n c : Nat} {xs : List α} (h : d.R e W base ok (.slice (some ⟨g, 0, none⟩) n c) xs) (i : Nat) (hi : n * d.sz ≤ i) (u : Value) :
    d.R e (W.setCell ⟨g, i, none⟩ u) base ok (.slice (some ⟨g, 0, none⟩) n c) xs := by
  obtain ⟨hok, inner, hown, hr⟩ := h
  rcases hown with ⟨hl, ⟨hv, _⟩ | ⟨g', cap', cur, hv, hb, hh, hnc, hcm, hcs, htake⟩⟩
  · cases hv
  · injection hv with ha hn hc
    injection ha with ha
    injection ha with hg
    subst hg hc
    refine ⟨hok, inner, ⟨hl, .inr ⟨g, c, cur.setIfInBounds i u, by rw [hn], hb, blk_set hh i u, hnc, hcm, by rw [Array.size_setIfInBounds, hcs], ?_⟩⟩, ?_⟩
    · rw [← htake, Array.toList_setIfInBounds, List.take_set_of_le (by rw [← hn]; exact hi)]
    · exact hr.imp_ (fun p q hp => d.M_move (fun k hk => Below.heap_setCell W ⟨g, i, none⟩ u k (fun e => hk.2 (by rw [e]; rfl))) hp)
theorem R_room {α : Type} {d : Kd α} {e : Nat} {W : World} {base : Nat} {ok : Nat → Prop} {g n c : Nat} {xs : List α} (h : d.R e W base ok (.slice (some ⟨g, 0, none⟩) n c) xs) (i : Nat) (hi : i < c * d.sz) : (W.cell? ⟨g, i, none⟩).isSome = true ∧ W.frozen? ⟨g, i, none⟩ = false := by
  obtain ⟨hok, inner, hown, hr⟩ := h
  rcases hown with ⟨hl, ⟨hv, _⟩ | ⟨g', cap', cur, hv, hb, hh, hnc, hcm, hcs, htake⟩⟩
  · cases hv
  · injection hv with ha hn hc
    injection ha with ha
    injection ha with hg
    subst hg hc
    rw [blk_cell hh i]
    exact ⟨by simp [hcs, hi], blk_frozen hh i⟩
theorem grown_set (w : World) (g i : Nat) (u : Value) : w.grownBy (w.setCell ⟨g, i, none⟩ u) (some g) := ⟨rfl, rfl, rfl, by simp [World.setCell], fun k _ hk => Below.heap_setCell w ⟨g, i, none⟩ u k (fun e => hk (by rw [e]))⟩
theorem grown_drew (w : World) (row : Option Nat) : w.grownBy w.drew row := ⟨rfl, rfl, rfl, Nat.le_refl _, fun _ _ _ => rfl⟩
/-- Bodies: rows of bytes in a row. -/
abbrev Kq : Kd (List UInt8) := Kd.slice 5 Kb
theorem infoQ : (Try.prog.info? 22).map (fun i => (i.zero, i.size, i.bytes)) = some (some (.slice none 0 0), 1, 24) := by kernel_rfl
theorem zeroQ (w : World) : (zeroValue 22).run Try.prog w = .ok (.slice none 0 0) w := by kernel_rfl
set_option maxHeartbeats 4000000 in
set_option maxRecDepth 100000 in
/-- slices.Delete(s, k, k+1): N + 1 elements before. -/
theorem Delete_q (W : World) (base g N c k : Nat) (i j : Int) (xs : List (List UInt8)) (hi : i = (k : Int)) (hj : j = ((k + 1 : Nat) : Int)) (h : Kq.R 22 W base (fun _ => True) (.slice (some ⟨g, 0, none⟩) (N + 1) c) xs) (hk : k ≤ N) (hc : N + 1 ≤ c) (hb : base ≤ W.heap.size) :
    Calls Try.prog 44 #[.slice (some ⟨g, 0, none⟩) (N + 1) c, .int .i64 i, .int .i64 j] W fun e w' => e = .returned (.slice (some ⟨g, 0, none⟩) N c) ∧ Kq.R 22 w' base (fun _ => True) (.slice (some ⟨g, 0, none⟩) N c) (xs.eraseIdx k) ∧ W.grownBy w' (some g) := by
  subst hi hj
  have HR := Aside0.mk h
  clear h
  have mixed : Try.prog.follows Departure.mixedOrders = true := by kernel_rfl
  have e1 : (k : Int) ≤ (k : Int) + 1 := by omega
  have e0 : (0 : Int) ≤ (k : Int) + 1 := by omega
  have e2 : k ≤ c := by omega
  have e3 : k + 1 ≤ c := by omega
  have hk2 : k < N + 1 := by omega
  have hcN : ¬ c = N := by omega
  by_cases hck : c = k + 1
  · obtain rfl : N = k := by omega
    subst hck
    have hl := (Kd.R_reads' HR.out).1
    have HT := Aside0.mk (show Kq.R 22 W.drew base (fun _ => True) (.slice (some ⟨g, 0, none⟩) N (N + 1)) (xs.eraseIdx N) by
      have e : xs.eraseIdx N = xs.take N := by rw [List.eraseIdx_eq_take_drop_succ, List.drop_eq_nil_of_le (by omega), List.append_nil]
      rw [e]
      exact Kd.R_drew (Kd.R_take HR.out (by omega)))
    have hcl : ∀ ty, (Builtin.clear_ #[33] ty #[.slice (some ⟨g, N, none⟩) 1 1]).run Try.prog W.drew = .ok (.tuple #[]) (W.drew.setCell ⟨g, N, none⟩ (.slice none 0 0)) := fun ty =>
      Lib.run_clear_slice W.drew _ _ ty _ Try.underlying33 zeroQ rfl rfl g N 1 _ (by decide) (fun j hj => (R_room (Kd.R_drew HR.out) _ (by show N + j < (N + 1) * 1; omega)).1) (fun j hj => (R_room (Kd.R_drew HR.out) _ (by show N + j < (N + 1) * 1; omega)).2)
    clear hl
    go_enter Try.func44, Try.ntmps44
    go_wp2_with fail
    go_region_law_o fail
    go_wp2
    go_ret
    exact ⟨rfl, R_beyond HT.out N (by show N * 1 ≤ N; omega) _, (grown_drew W _).trans (grown_set _ _ _ _)⟩
  · have HA := Aside0.mk (show (some ⟨g, k + 1, none⟩ : Option Addr) = if c = k + 1 then some ⟨g, 0, none⟩ else (some (⟨g, 0, none⟩ : Addr)).map (·.add ((k + 1) * Kq.sz)) by rw [if_neg hck]; show _ = some (Addr.add _ ((k + 1) * 1)); rw [Nat.mul_one, add_pos _ _ (by omega)]; simp)
    go_enter Try.func44, Try.ntmps44
    go_wp2_with fail
    go_region_law_o (refine Kd.R_delete_step Kq (w0 := W) (n := N + 1) base rfl (.tmp 22) (.tmp 25) 33 22 rfl Try.underlying33 (by kernel_rfl) (A := some ⟨g, k + 1, none⟩) (m := N - k) (c2 := c - (k + 1)) (by simp [Act.eval, Act.put]; done) (by simp [Act.eval, Act.put]; done) HA.out (by omega) (Kd.R_drew HR.out) hk2 (Below.drew (Below.refl _ _)) hb ?_; intro w1 hR1 hB1 hg1)
    have hcl : ∀ ty, (Builtin.clear_ #[33] ty #[.slice (some ⟨g, N, none⟩) 1 (c - N)]).run Try.prog w1 = .ok (.tuple #[]) (w1.setCell ⟨g, N, none⟩ (.slice none 0 0)) := fun ty =>
      Lib.run_clear_slice w1 _ _ ty _ Try.underlying33 zeroQ rfl rfl g N 1 _ (by decide) (fun j hj => (R_room hR1 _ (by show N + j < c * 1; omega)).1) (fun j hj => (R_room hR1 _ (by show N + j < c * 1; omega)).2)
    have HR1 := Aside0.mk hR1
    have HG1 := Aside0.mk hg1
    clear hR1 hB1 hg1
    go_wp2
    go_ret
    exact ⟨rfl, R_beyond HR1.out N (by show (N + 1 - 1) * 1 ≤ N; omega) _, ((grown_drew W _).trans HG1.out).trans (grown_set _ _ _ _)⟩
end Go.Proofs.Ytpgighcobmaecaa
