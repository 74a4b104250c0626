/- Steps of a region that goes by the text: a block that is made, by letters. -/
import Derived.Test.YthmlidlnojdggaaDoorJoin
set_option linter.unusedVariables false
namespace Go.Proofs.YthmlidlnojdggaaDoor
open Go.RowKit Go.Proofs.YthmlidlnojdggaaDoorW.PrintWords Go.Proofs.YthmlidlnojdggaaDoorW.PrintLast
section
variable {P : Program} {ops : Array Oper} {Q : Exit → Act → World → Prop}
theorem at_alloc_ {rest : List Oper} {a : Act} {w : World} {d : Option Tmp} {ty t2 : TypeId} {p : String} {af : Array Edge} {g : Option (Nat × Bool)} (h : wpList P ops Q ({ dst := d, op := .alloc ty, type := t2, pos := p, after := af, guard := g } :: rest) a w) : wpList P ops Q ({ dst := d, op := .alloc ty, type := t2, pos := p, after := af, guard := g } :: rest) a w := h
theorem at_box_ {rest : List Oper} {a : Act} {w : World} {d : Option Tmp} {ty t2 : TypeId} {x : Operand} {p : String} {af : Array Edge} {g : Option (Nat × Bool)} (h : wpList P ops Q ({ dst := d, op := .box ty x, type := t2, pos := p, after := af, guard := g } :: rest) a w) : wpList P ops Q ({ dst := d, op := .box ty x, type := t2, pos := p, after := af, guard := g } :: rest) a w := h
theorem at_row_ {rest : List Oper} {a : Act} {w : World} {d : Option Tmp} {ty t2 : TypeId} {n : Nat} {x : Array (Nat × Operand)} {p : String} {af : Array Edge} {g : Option (Nat × Bool)} (h : wpList P ops Q ({ dst := d, op := .buildSlice ty n x, type := t2, pos := p, after := af, guard := g } :: rest) a w) : wpList P ops Q ({ dst := d, op := .buildSlice ty n x, type := t2, pos := p, after := af, guard := g } :: rest) a w := h
/-- Whatever is made in a block of its own, by letters. -/
theorem wpList_make_ {rest : List Oper} {o : Oper} {a : Act} {w : World} {t : TypeId} (cs : Array Value) (v : Nat → Value) (hw : Region.wanted o (yielded ops a.tmps) = true)
    (hrun : (execOp a.eval o).run P w = .ok (.value (v w.heap.size)) (w.alloc (.cells cs t)))
    (h : ∀ (g : Nat) (W : World), w.heap.size ≤ g → Blk W g t cs → Below w.heap.size w W → wpList P ops Q rest (a.put o.dst (v g)) W) : wpList P ops Q (o :: rest) a w :=
  wpList_step fun K hK => by
    rw [if_pos hw]
    unfold Oper.wp
    rw [hrun]
    exact hK _ _ (h _ _ (Nat.le_refl _) (blk_new w _) (below_new _))
end
end Go.Proofs.YthmlidlnojdggaaDoor
