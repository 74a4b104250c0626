/- append of bytes in a region that draws its order. -/
import Derived.Test.YthmlidlnojdggaaDoorArr
set_option linter.unusedVariables false
set_option linter.unusedSimpArgs false
namespace Go.Proofs.YthmlidlnojdggaaDoor
open Go.RowKit Go.Proofs.YthmlidlnojdggaaDoorW.PrintWords
section
variable {ops : Array Oper} {o : Oper} {a : Act} {Q : Exit → Act → World → Prop} {Kc : Act → World → Prop}
/-- append(v, ys...) in a region that draws its order: bytes. -/
theorem app_bs_step {w0 W : World} (base : Nat) (hw : Region.wanted o (yielded ops a.tmps) = true) (s x : Operand)
    (ho : o.op = .call { callee := .builtin .append, args := #[s, x], argTypes := #[22, 22] })
    (v : Value) (xs ys : List UInt8) (A : Option Addr) (m c : Nat) (hs : a.eval s = v) (hx : a.eval x = .slice A m c)
    (HO : Bs W base v xs) (HR : Kb.C W A m ys) (HB : Below base w0 W) (hbase : base ≤ W.heap.size) (hl : xs.length + m ≤ 35184372088832)
    (h : ∀ (zs : List UInt8) (A1 : Option Addr) (c1 : Nat) (w1 : World), Aside0 (zs = xs ++ ys) → Aside0 (Bs w1 base (.slice A1 zs.length c1) zs) → Aside0 (Below base w0 w1) → Aside0 (base ≤ w1.heap.size) → Aside0 (W.grownBy w1 v.ownBlock) → Kc (a.put o.dst (.slice A1 zs.length c1)) w1) :
    if Region.wanted o (yielded ops a.tmps) = true then Oper.wp Tryd.prog o a W Kc Q else Kc (a.put o.dst undef) W := by
  refine Kd.R_append_rows_step (w0 := w0) Kb base hw s x 22 5 (.int .u8 0) 1 ho Tryd.underlying22 infoB rfl (by decide) (by decide) v xs ys A m c (fun _ => True) (fun _ => False) hs hx HO HR (fun _ _ h => h) (fun _ h => h.elim) (fun _ _ => trivial) HB hbase (by omega) ?_
  intro v1 w1 h1 h2 h3 _
  obtain ⟨A1, c1, rfl⟩ := Kd.R_slice h1
  exact h _ A1 c1 w1 ⟨rfl⟩ ⟨h1⟩ ⟨h2⟩ ⟨Nat.le_trans hbase h3.size⟩ ⟨h3⟩
end
end Go.Proofs.YthmlidlnojdggaaDoor
