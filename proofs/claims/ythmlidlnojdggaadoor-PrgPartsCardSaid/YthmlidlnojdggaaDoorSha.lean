/- The functions of package sha by contracts. -/
import Derived.Test.YthmlidlnojdggaaDoorArr
import Derived.Test.YthmlidlnojdggaaDoorShaSpec
set_option linter.unusedVariables false
set_option linter.unusedSimpArgs false
namespace Go.Proofs.YthmlidlnojdggaaDoor.Sha
open Go.RowKit Go.Proofs.YthmlidlnojdggaaDoorW.PrintWords Go.Proofs.YthmlidlnojdggaaDoorW.PrintLast

theorem turn_int (x : Wd) (m : Nat) : bits .or .u32 ((x.toNat : Int) / 2 ^ m) ((x.toNat : Int) * 2 ^ (32 - m) % 4294967296) = ((turn x m).toNat : Int) := by
  rw [shr32 x m _ rfl, shl32 x (32 - m) _ rfl, bo32]
  rfl
theorem turn_calls (x : Wd) (n : Int) (m : Nat) (hn : n = (m : Int)) (h1 : 1 ≤ m) (h2 : m ≤ 31) (w : World) :
    Calls Tryd.prog 99 #[.int .u32 (x.toNat : Int), .int .u64 n] w fun e w' => e = .returned (.int .u32 ((turn x m).toNat : Int)) ∧ w = w' := by
  subst hn
  go_enter Tryd.func99, Tryd.ntmps99
  go_wp2
  go_ret
  exact ⟨ret_val (int_val (turn_int x m)), rfl⟩
theorem c32_int (c : UInt8) : (c.toNat : Int) % 4294967296 = ((c32 c).toNat : Int) := by
  have := c.toNat_lt
  rw [c32_toNat]
  omega
theorem word_calls (A : Option Addr) (c n : Nat) (l : List UInt8) (w : World) (hr : Kb.C w A n l) (hn : l.length = n) (h4 : 4 ≤ n) :
    Calls Tryd.prog 98 #[.slice A n c] w fun e w' => e = .returned (.int .u32 ((word l).toNat : Int)) ∧ ∃ d, w' = w.drewN d := by
  obtain ⟨ad, rfl, h0⟩ := at_b0 hr (by omega)
  obtain ⟨ad', e1, h1⟩ := at_bc hr 1 (by omega) (by decide)
  injection e1 with e1
  subst e1
  obtain ⟨ad', e1, h2⟩ := at_bc hr 2 (by omega) (by decide)
  injection e1 with e1
  subst e1
  obtain ⟨ad', e1, h3⟩ := at_bc hr 3 (by omega) (by decide)
  injection e1 with e1
  subst e1
  have b1 : (1 : Int) < (n : Int) := by omega
  have b2 : (2 : Int) < (n : Int) := by omega
  have b3 : (3 : Int) < (n : Int) := by omega
  have b0 : (0 : Int) < (n : Int) := by omega
  clear hr
  go_enter Tryd.func98, Tryd.ntmps98
  go_wp2
  go_quiet (fail)
  go_wp2
  go_ret
  refine ⟨ret_val (int_val ?_), _, rfl⟩
  rw [c32_int, c32_int, c32_int, c32_int, shl32 _ 24 16777216 rfl, shl32 _ 16 65536 rfl, shl32 _ 8 256 rfl, bo32, bo32, bo32]
  rfl
theorem st0_e : e32 st0.list = #[.int .u32 1779033703, .int .u32 3144134277, .int .u32 1013904242, .int .u32 2773480762, .int .u32 1359893119, .int .u32 2600822924, .int .u32 528734635, .int .u32 1541459225] := rfl
theorem begun_calls (w : World) : Calls Tryd.prog 49 #[] w fun e w' => e = .returned (.agg (e32 st0.list)) ∧ Below w.heap.size w w' := by
  rw [st0_e]
  go_enter Tryd.func49, Tryd.ntmps49
  go_wp2
  refine ret_row w.heap.size _ _ _ rfl rfl (blk_new _ _) Tryd.underlying90 rfl (by kernel_rfl) ⟨rfl, below_new _⟩
set_option maxRecDepth 100000 in
set_option maxHeartbeats 4000000 in
theorem numbers_calls (w : World) : Calls Tryd.prog 50 #[] w fun e w' => e = .returned (.agg (e32 kt)) ∧ Below w.heap.size w w' := by
  go_enter Tryd.func50, Tryd.ntmps50
  go_wp2_with (first | (refine wpList_build rfl 92 _ rfl (by kernel_rfl) ?_) | (refine wpList_store_row rfl 92 _ _ rfl w.heap.size (e32 kt) _ 92 rfl (by kernel_rfl) (blk_new _ _) (by kernel_rfl) (by kernel_rfl) (by kernel_rfl) ?_))
  refine ret_row w.heap.size _ _ _ rfl rfl (blk_setRow (blk_new _ _) _) Tryd.underlying92 rfl (by kernel_rfl) ⟨rfl, below_setRow (below_new _) (Nat.le_refl _) _⟩
theorem ad32 (a b : BitVec 32) : ((a.toNat : Int) + (b.toNat : Int)) % 4294967296 = ((a + b).toNat : Int) := by
  rw [BitVec.toNat_add]
  omega
set_option maxHeartbeats 400000 in
theorem round_calls (a b c d e f g h k x : Wd) (w : World) : Calls Tryd.prog 84 #[.agg #[.int .u32 (a.toNat : Int), .int .u32 (b.toNat : Int), .int .u32 (c.toNat : Int), .int .u32 (d.toNat : Int), .int .u32 (e.toNat : Int), .int .u32 (f.toNat : Int), .int .u32 (g.toNat : Int), .int .u32 (h.toNat : Int)], .int .u32 (k.toNat : Int), .int .u32 (x.toNat : Int)] w
    fun r w' => r = .returned (.agg (e32 (rnd ⟨a, b, c, d, e, f, g, h⟩ k x).list)) ∧ Below w.heap.size w w' := by
  have hs : IntKind.u32.signed = false := rfl
  go_enter Tryd.func84, Tryd.ntmps84
  go_wp2
  go_quiet (fail)
  go_wp2_with (go_at_call 99; refine (turn_calls _ _ _ rfl (by decide) (by decide) _).mono ?_; rintro e w' ⟨rfl, rfl⟩)
  refine ret_row (p := 6) (ty := 90) (w.heap.size + 1) 90 _ _ rfl rfl (blk_set (blk_set (blk_set (blk_set (blk_set (blk_set (blk_set (blk_set (blk_drewN (blk_new1 _ _ _ _) _) 0 _) 1 _) 2 _) 3 _) 4 _) 5 _) 6 _) 7 _) Tryd.underlying90 rfl (by kernel_rfl) ⟨?_, ?_⟩
  · simp only [List.setIfInBounds_toArray, List.set_cons_zero, List.set_cons_succ]
    rw [not32]
    simp only [bx32, ba32]
    refine ret_val (congrArg Value.agg ?_)
    unfold e32 rnd St.list
    simp only [List.map_cons, List.map_nil, BitVec.toNat_add]
    refine congrArg List.toArray ?_
    refine congr (congrArg List.cons (int_val ?_)) (congr (congrArg List.cons rfl) (congr (congrArg List.cons rfl) (congr (congrArg List.cons rfl) (congr (congrArg List.cons (int_val ?_)) rfl))))
    · omega
    · omega
  · exact (((((((((pw_below_drewN (below_alloc (below_new _) _) _).setCell (Nat.le_succ _) _).setCell (Nat.le_succ _) _).setCell (Nat.le_succ _) _).setCell (Nat.le_succ _) _).setCell (Nat.le_succ _) _).setCell (Nat.le_succ _) _).setCell (Nat.le_succ _) _).setCell (Nat.le_succ _) _)
end Go.Proofs.YthmlidlnojdggaaDoor.Sha
