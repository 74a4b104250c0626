/- Sums as arrays of 32 bytes. -/
import Derived.Test.YthmlidlnojdggaaDoorArr
set_option linter.unusedVariables false
namespace Go.Proofs.YthmlidlnojdggaaDoor.Sha
open Go.RowKit Go.Proofs.YthmlidlnojdggaaDoorW.PrintWords
theorem sz32 (l : List UInt8) (h : l.length = 32) : (Tryd.prog.info? 24).map (·.size) = some (e8 l).size := by rw [e8_size, h]; kernel_rfl
/-- Two sums are equal or not. -/
theorem eq32 (xs ys : List UInt8) (hx : xs.length = 32) (hy : ys.length = 32) (w : World) : (Op.equalIn 10000 24 (.agg (e8 xs)) (.agg (e8 ys))).run Tryd.prog w = .ok (xs == ys) w :=
  run_eq_e8 Tryd.underlying24 Tryd.underlying5 Tryd.isAgg5 (by kernel_rfl) xs ys hx hy w
end Go.Proofs.YthmlidlnojdggaaDoor.Sha
