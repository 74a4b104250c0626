/- An array of bytes as an argument. -/
import Derived.Test.YthmlidlnojdggaaDoorRow
import Derived.Test.YthmlidlnojdggaaDoorArr
set_option linter.unusedVariables false
namespace Go.Proofs.YthmlidlnojdggaaDoor
open Go.ChangeShapes Go.WideShapes Go.ChangeAt Go.RowKit Go.Proofs.YthmlidlnojdggaaDoorW.PrintWords
theorem bytes_of_ints : ∀ (xs : List Int), (∀ x ∈ xs, (Lit.int .u8 x).wf = true) → ∃ l : List UInt8, xs = l.map fun b => (b.toNat : Int)
  | [], _ => ⟨[], rfl⟩
  | x :: xs, h => by
    obtain ⟨b, rfl⟩ := wf_u8' (h x List.mem_cons_self)
    obtain ⟨l, rfl⟩ := bytes_of_ints xs fun y hy => h y (List.mem_cons_of_mem _ hy)
    exact ⟨b :: l, rfl⟩
theorem arr8_of {xs : List Int} (hw : ∀ x ∈ xs, (Lit.int .u8 x).wf = true) : ∃ l : List UInt8, l.length = xs.length ∧ (xs.map (Value.int .u8)).toArray = e8 l := by
  obtain ⟨l, rfl⟩ := bytes_of_ints xs hw
  exact ⟨l, by simp, by simp [e8]⟩
end Go.Proofs.YthmlidlnojdggaaDoor
