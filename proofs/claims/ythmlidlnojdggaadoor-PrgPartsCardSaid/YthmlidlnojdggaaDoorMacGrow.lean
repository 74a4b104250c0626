/- slices.Grow of nothing: room for n bytes. -/
import Derived.Test.YthmlidlnojdggaaDoorBase
import Derived.Lib.AppendZeros
set_option linter.unusedVariables false
set_option linter.unusedSimpArgs false
namespace Go.Proofs.YthmlidlnojdggaaDoor.Mac
open Go.RowKit Go.Proofs.YthmlidlnojdggaaDoorW.PrintWords

/-- A row of nothing with room. -/
theorem room_row (W : World) (cs : Array Value) (cap : Nat) (hs : cs.size = cap) (hc : cap ≤ maxLen) : Bs (W.alloc (.cells cs 5)) W.heap.size (.slice (some ⟨W.heap.size, 0, none⟩) 0 cap) [] :=
  Kd.R_of_own ⟨rfl, .inr ⟨W.heap.size, cap, cs, rfl, Nat.le_refl _, blk_new W _, Nat.zero_le _, hc, by rw [hs, Nat.mul_one], by simp [encs]⟩⟩ (fun _ _ => trivial)
theorem zeros_size (n : Nat) : (Builtin.zeroCells #[.int .u8 0] n).size = n := by
  simp [Builtin.zeroCells]
set_option maxRecDepth 100000 in
set_option maxHeartbeats 1000000 in
theorem Grow_calls (n : Nat) (h0 : 0 < n) (hn : n ≤ 1000000) (w : World) : Calls Tryd.prog 113 #[.slice none 0 0, .int .i64 (n : Int)] w fun e w' => ∃ A c, e = .returned (.slice A 0 c) ∧ Bs w' w.heap.size (.slice A 0 c) [] ∧ Below w.heap.size w w' := by
  obtain ⟨i0, hi, hz, hsz, hb⟩ := info_parts infoB
  have hrun := Lib.run_append_nil_zeros (P := Tryd.prog) w 22 3 22 5 i0 (.int .u8 0) .i64 .i64 Tryd.underlying22 Tryd.underlying3 hi hz n h0 (by rw [hsz]; decide) (by omega) (by rw [hb]; omega)
  have hcap := grownCap_ge w n 0 5
  have hcap2 := grownCap_le_maxLen w n 0 5 (by unfold maxLen; omega)
  obtain ⟨c, hc⟩ : ∃ c, c = grownCap w n 0 5 := ⟨_, rfl⟩
  rw [← hc] at hrun hcap hcap2
  have HR := Aside0.mk (room_row w.drew (Builtin.zeroCells #[.int .u8 0] n ++ Builtin.zeroCells #[.int .u8 0] (c - n)) c (by rw [Array.size_append, zeros_size, zeros_size]; omega) hcap2)
  have hrun := Aside0.mk hrun
  have hn1 : (0 : Int) < (n : Int) := by omega
  clear hc
  go_enter Tryd.func113, Tryd.ntmps113
  go_wp2_with (at_builtin; refine Lib.wpList_append_run _ rfl _ _ _ _ rfl _ _ rfl rfl _ _ hrun.out ?_)
  go_ret
  exact ⟨_, c, rfl, HR.out, below_alloc (below_drew (Below.refl _ _)) _⟩
end Go.Proofs.YthmlidlnojdggaaDoor.Mac
