/- The laws' own 'num': an error's number. -/
import Derived.Test.YthmlidlnojdggaaDoorErrAs
import Derived.Test.YthmlidlnojdggaaDoorBase
set_option linter.unusedVariables false
set_option linter.unusedSimpArgs false
namespace Go.Proofs.YthmlidlnojdggaaDoor
open Go.RowKit Go.Proofs.YthmlidlnojdggaaDoorW.PrintWords ErrAs

/-- An error as the program makes them: nil, or a number of package api. -/
def errV : Option Int → Value
  | none => .nilIface
  | some c => .iface 103 (.int .i64 c)
def errN : Option Int → Int
  | none => 0
  | some c => c
theorem errV_none : errV none = .nilIface := rfl
theorem errV_some (c : Int) : errV (some c) = .iface 103 (.int .i64 c) := rfl

namespace caucuslaw05
theorem num_nil (w : World) :
    Calls Tryd.prog 19 #[.nilIface] w fun e w' => e = .returned (.int .i64 0) ∧ w.alloc (.cells #[.int .i64 0] 103) = w' := by
  go_enter Tryd.func19, Tryd.ntmps19
  go_wp2
  go_ret
  exact ⟨rfl, rfl⟩
set_option maxHeartbeats 1000000 in
theorem num_some (c : Int) (w : World) (hg : Laid w) :
    Calls Tryd.prog 19 #[.iface 103 (.int .i64 c)] w fun e w' => e = .returned (.int .i64 c) ∧ Below w.heap.size w w' := by
  have h := as_hit c ⟨w.heap.size, 0, none⟩ (.int .i64 0) (w.alloc (.cells #[.int .i64 0] 103)) (hg.below (below_alloc (Below.refl _ _) _)) (by simp) (by simp)
  have H := Aside0.mk h
  clear h
  have HG := Aside0.mk hg
  clear hg
  go_enter Tryd.func19, Tryd.ntmps19
  go_wp2_with (go_at_call 63; refine H.out.mono ?_; rintro e w' ⟨rfl, rfl⟩)
  go_ret
  exact ⟨rfl, by repeat (first | exact Below.refl _ _ | apply below_alloc | refine Below.setCell ?_ (Nat.le_refl _) _)⟩
theorem num_calls (e : Option Int) (w : World) (hg : Laid w) :
    Calls Tryd.prog 19 #[errV e] w fun r w' => r = .returned (.int .i64 (errN e)) ∧ Below w.heap.size w w' := by
  cases e with
  | none => exact (num_nil w).mono fun e w' ⟨h, k⟩ => ⟨h, k ▸ below_alloc (Below.refl _ _) _⟩
  | some c => exact num_some c w hg
end caucuslaw05

namespace caucuslaw07
theorem num_nil (w : World) :
    Calls Tryd.prog 28 #[.nilIface] w fun e w' => e = .returned (.int .i64 0) ∧ w.alloc (.cells #[.int .i64 0] 103) = w' := by
  go_enter Tryd.func28, Tryd.ntmps28
  go_wp2
  go_ret
  exact ⟨rfl, rfl⟩
set_option maxHeartbeats 1000000 in
theorem num_some (c : Int) (w : World) (hg : Laid w) :
    Calls Tryd.prog 28 #[.iface 103 (.int .i64 c)] w fun e w' => e = .returned (.int .i64 c) ∧ Below w.heap.size w w' := by
  have h := as_hit c ⟨w.heap.size, 0, none⟩ (.int .i64 0) (w.alloc (.cells #[.int .i64 0] 103)) (hg.below (below_alloc (Below.refl _ _) _)) (by simp) (by simp)
  have H := Aside0.mk h
  clear h
  have HG := Aside0.mk hg
  clear hg
  go_enter Tryd.func28, Tryd.ntmps28
  go_wp2_with (go_at_call 63; refine H.out.mono ?_; rintro e w' ⟨rfl, rfl⟩)
  go_ret
  exact ⟨rfl, by repeat (first | exact Below.refl _ _ | apply below_alloc | refine Below.setCell ?_ (Nat.le_refl _) _)⟩
theorem num_calls (e : Option Int) (w : World) (hg : Laid w) :
    Calls Tryd.prog 28 #[errV e] w fun r w' => r = .returned (.int .i64 (errN e)) ∧ Below w.heap.size w w' := by
  cases e with
  | none => exact (num_nil w).mono fun e w' ⟨h, k⟩ => ⟨h, k ▸ below_alloc (Below.refl _ _) _⟩
  | some c => exact num_some c w hg
end caucuslaw07

namespace caucuslaw09
theorem num_nil (w : World) :
    Calls Tryd.prog 39 #[.nilIface] w fun e w' => e = .returned (.int .i64 0) ∧ w.alloc (.cells #[.int .i64 0] 103) = w' := by
  go_enter Tryd.func39, Tryd.ntmps39
  go_wp2
  go_ret
  exact ⟨rfl, rfl⟩
set_option maxHeartbeats 1000000 in
theorem num_some (c : Int) (w : World) (hg : Laid w) :
    Calls Tryd.prog 39 #[.iface 103 (.int .i64 c)] w fun e w' => e = .returned (.int .i64 c) ∧ Below w.heap.size w w' := by
  have h := as_hit c ⟨w.heap.size, 0, none⟩ (.int .i64 0) (w.alloc (.cells #[.int .i64 0] 103)) (hg.below (below_alloc (Below.refl _ _) _)) (by simp) (by simp)
  have H := Aside0.mk h
  clear h
  have HG := Aside0.mk hg
  clear hg
  go_enter Tryd.func39, Tryd.ntmps39
  go_wp2_with (go_at_call 63; refine H.out.mono ?_; rintro e w' ⟨rfl, rfl⟩)
  go_ret
  exact ⟨rfl, by repeat (first | exact Below.refl _ _ | apply below_alloc | refine Below.setCell ?_ (Nat.le_refl _) _)⟩
theorem num_calls (e : Option Int) (w : World) (hg : Laid w) :
    Calls Tryd.prog 39 #[errV e] w fun r w' => r = .returned (.int .i64 (errN e)) ∧ Below w.heap.size w w' := by
  cases e with
  | none => exact (num_nil w).mono fun e w' ⟨h, k⟩ => ⟨h, k ▸ below_alloc (Below.refl _ _) _⟩
  | some c => exact num_some c w hg
end caucuslaw09

namespace caucuslaw24
theorem num_nil (w : World) :
    Calls Tryd.prog 46 #[.nilIface] w fun e w' => e = .returned (.int .i64 0) ∧ w.alloc (.cells #[.int .i64 0] 103) = w' := by
  go_enter Tryd.func46, Tryd.ntmps46
  go_wp2
  go_ret
  exact ⟨rfl, rfl⟩
set_option maxHeartbeats 1000000 in
theorem num_some (c : Int) (w : World) (hg : Laid w) :
    Calls Tryd.prog 46 #[.iface 103 (.int .i64 c)] w fun e w' => e = .returned (.int .i64 c) ∧ Below w.heap.size w w' := by
  have h := as_hit c ⟨w.heap.size, 0, none⟩ (.int .i64 0) (w.alloc (.cells #[.int .i64 0] 103)) (hg.below (below_alloc (Below.refl _ _) _)) (by simp) (by simp)
  have H := Aside0.mk h
  clear h
  have HG := Aside0.mk hg
  clear hg
  go_enter Tryd.func46, Tryd.ntmps46
  go_wp2_with (go_at_call 63; refine H.out.mono ?_; rintro e w' ⟨rfl, rfl⟩)
  go_ret
  exact ⟨rfl, by repeat (first | exact Below.refl _ _ | apply below_alloc | refine Below.setCell ?_ (Nat.le_refl _) _)⟩
theorem num_calls (e : Option Int) (w : World) (hg : Laid w) :
    Calls Tryd.prog 46 #[errV e] w fun r w' => r = .returned (.int .i64 (errN e)) ∧ Below w.heap.size w w' := by
  cases e with
  | none => exact (num_nil w).mono fun e w' ⟨h, k⟩ => ⟨h, k ▸ below_alloc (Below.refl _ _) _⟩
  | some c => exact num_some c w hg
end caucuslaw24
end Go.Proofs.YthmlidlnojdggaaDoor
