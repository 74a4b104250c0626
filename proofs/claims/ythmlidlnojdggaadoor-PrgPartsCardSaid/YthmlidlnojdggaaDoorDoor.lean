/- The rows that list errors.errorType: what the condition gives a walk; a start that meets it. -/
import Derived.Test.YthmlidlnojdggaaDoorRow
import Derived.Test.YthmlidlnojdggaaDoorErrAs
import Derived.Test.YthmlidlnojdggaaDoorTie
import Derived.Test.YthmlidlnojdggaaDoorCards
import Derived.SevenTiedAt
import Derived.ChangeSame
import Derived.ChangeVars
import Derived.JoinedOf
import Derived.LaidLaws
import Derived.LaidHandle
import Derived.Stop.Joined
set_option linter.unusedVariables false
set_option linter.unusedSimpArgs false
namespace Go.Proofs.YthmlidlnojdggaaDoor
open Go.ChangeShapes Go.WideShapes Go.ChangeAt Go.RowKit

abbrev doorList : List (String × DataW Unit) := [("errors.errorType", Rows.laid_errors_errorType)]
theorem door_et : Tryd.prog.globalNamed "errors.errorType" = some 0 := by kernel_rfl
theorem door_rt : (Tryd.prog.cutTypes.find? (·.1 == "internal/reflectlite.rtype")).map (·.2) = some 147 := by kernel_rfl
theorem door_row : ((List.range Tryd.prog.types.size).filter fun t => Tryd.prog.rowNamed t [101, 114, 114, 111, 114]) = [28] := by kernel_rfl
theorem laid_of {W : World} (h : laidMetH Tryd.prog doorList W) : ErrAs.Laid W := by
  have h' : laidMet Tryd.prog [] W ∧ handlesMet Tryd.prog doorList W := h
  obtain ⟨name, u, ty, e1, e2, e3, e4, e5⟩ := h'.2 _ (List.mem_singleton.2 rfl)
  have en : name = [101, 114, 114, 111, 114] := (Option.some.inj e1).symm
  subst en
  obtain rfl := Option.some.inj (door_rt.symm.trans e2)
  have hm : ty ∈ (List.range Tryd.prog.types.size).filter fun t => Tryd.prog.rowNamed t [101, 114, 114, 111, 114] := List.mem_filter.2 ⟨List.mem_range.2 e3, e4⟩
  rw [door_row] at hm
  obtain rfl := List.mem_singleton.1 hm
  have hh : typeHandle Tryd.prog 28 = .pointer (some ⟨5, 28, none⟩) := by kernel_rfl
  rw [hh] at e5
  simpa using World.var?_cell door_et e5 0
/-- A world that meets the condition: the settled one, the variable's cell laid. -/
noncomputable def doorWorld (os : Os) : World :=
  let w0 := World.holding Tryd.prog os ⟨#[], #[], []⟩
  { w0 with heap := w0.heap.modify 0 fun
      | .cells _ t frozen => .cells #[.iface 147 (.agg #[.pointer (some ⟨5, 28, none⟩)])] t frozen
      | o => o }
theorem doorWorld_met (os : Os) (args : Array Value) : laidMetH Tryd.prog doorList ((doorWorld os).forCall (fun _ _ => 0) ⟨#[], args, []⟩).memory :=
  laidMetH_of_parts (laidMet_nil _ _) (by kernel_rfl)
theorem door_stand {f : Func} (h : (f.params.all fun t => !Tryd.prog.wantsStandIn t) = true) {j : Nat} {t : TypeId} (ht : f.params[j]? = some t) : Tryd.prog.wantsStandIn t = false := by
  obtain ⟨hj, rfl⟩ := Array.getElem?_eq_some_iff.1 ht
  have h1 := Array.all_eq_true.1 h j hj
  simpa using h1
end Go.Proofs.YthmlidlnojdggaaDoor
