/- A block that is made in a region where several operations may come up. -/
import Derived.Test.YthmlidlnojdggaaDoorArr
set_option linter.unusedVariables false
namespace Go.Proofs.YthmlidlnojdggaaDoor
open Go.RowKit Go.Proofs.YthmlidlnojdggaaDoorW.PrintWords Go.Proofs.YthmlidlnojdggaaDoorW.PrintLast
section
variable {P : Program} {ops : Array Oper} {Q : Exit → Act → World → Prop}
/-- A block that is made, by letters. -/
theorem alloc_ {oi : Oper} {N : Option Tmp} {a : Act} {w : World} {K : Act → World → Prop} {t : TypeId} (cs : Array Value) (hw : Region.wanted oi (yielded ops a.tmps) = true) (hN : oi.dst = N)
    (hrun : (execOp a.eval oi).run P w = .ok (.value (.pointer (some ⟨w.heap.size, 0, none⟩))) (w.alloc (.cells cs t)))
    (h : ∀ (g : Nat) (W : World), w.heap.size ≤ g → Blk W g t cs → Below w.heap.size w W → K (a.put N (.pointer (some ⟨g, 0, none⟩))) W) : if Region.wanted oi (yielded ops a.tmps) = true then Oper.wp P oi a w K Q else K (a.put N undef) w :=
  value_ hw hN hrun (h _ _ (Nat.le_refl _) (blk_new w _) (below_new _))
/-- An operation that yields a value and leaves the world. -/
theorem wpList_value {rest : List Oper} {o : Oper} {a : Act} {w : World} {v : Value} (hw : Region.wanted o (yielded ops a.tmps) = true) (hrun : (execOp a.eval o).run P w = .ok (.value v) w)
    (h : wpList P ops Q rest (a.put o.dst v) w) : wpList P ops Q (o :: rest) a w :=
  wpList_step fun K hK => by
    rw [if_pos hw]
    unfold Oper.wp
    rw [hrun]
    exact hK _ _ h
/-- Anything that is made in a block of its own, by letters. -/
theorem make_ {oi : Oper} {N : Option Tmp} {a : Act} {w : World} {K : Act → World → Prop} {t : TypeId} (cs : Array Value) (v : Nat → Value) (hw : Region.wanted oi (yielded ops a.tmps) = true) (hN : oi.dst = N)
    (hrun : (execOp a.eval oi).run P w = .ok (.value (v w.heap.size)) (w.alloc (.cells cs t)))
    (h : ∀ (g : Nat) (W : World), w.heap.size ≤ g → Blk W g t cs → Below w.heap.size w W → K (a.put N (v g)) W) : if Region.wanted oi (yielded ops a.tmps) = true then Oper.wp P oi a w K Q else K (a.put N undef) w :=
  value_ hw hN hrun (h _ _ (Nat.le_refl _) (blk_new w _) (below_new _))
theorem want_p (p : Bool) : (some p == some true) = p := by cases p <;> rfl
/-- One that is carried out or not: what it leaves is a letter. -/
theorem wpList_maybe {rest : List Oper} {o : Oper} {a : Act} {w : World} (p : Bool) (v : Value) (hw : Region.wanted o (yielded ops a.tmps) = p) (hrun : p = true → (execOp a.eval o).run P w = .ok (.value v) w)
    (h : ∀ x, (p = true → x = v) → wpList P ops Q rest (a.put o.dst x) w) : wpList P ops Q (o :: rest) a w := by
  cases p with
  | true => exact wpList_value hw (hrun rfl) (h v fun _ => rfl)
  | false => exact wpList_step fun K hK => by rw [if_neg (by rw [hw]; decide)]; exact hK _ _ (h undef fun h => by cases h)
theorem exec_pick {o : Oper} {a : Act} {w : World} (c x y : Operand) (ho : o.op = .pick c x y) (p : Bool) (v : Value) (hc : a.eval c = .bool p) (h1 : p = true → a.eval x = v) (h2 : p = false → a.eval y = v) : (execOp a.eval o).run P w = .ok (.value v) w := by
  unfold execOp
  simp only [ho, hc]
  cases p with
  | true => simp [asBool, h1 rfl]
  | false => simp [asBool, h2 rfl]
/-- Guards for a comparison and a choice, by their first operand. -/
theorem at_bin_ {rest : List Oper} {a : Act} {w : World} {d : Option Tmp} {b : BinOp} {t t1 t2 : TypeId} {x y : Operand} {p : String} {af : Array Edge} {g : Option (Nat × Bool)} (h : wpList P ops Q ({ dst := d, op := .binOp b t x y t1, type := t2, pos := p, after := af, guard := g } :: rest) a w) : wpList P ops Q ({ dst := d, op := .binOp b t x y t1, type := t2, pos := p, after := af, guard := g } :: rest) a w := h
theorem at_pick_ {rest : List Oper} {a : Act} {w : World} {d : Option Tmp} {t2 : TypeId} {c x y : Operand} {p : String} {af : Array Edge} {g : Option (Nat × Bool)} (h : wpList P ops Q ({ dst := d, op := .pick c x y, type := t2, pos := p, after := af, guard := g } :: rest) a w) : wpList P ops Q ({ dst := d, op := .pick c x y, type := t2, pos := p, after := af, guard := g } :: rest) a w := h
theorem at_move_ {rest : List Oper} {a : Act} {w : World} {d : Option Tmp} {t2 : TypeId} {x : Operand} {p : String} {af : Array Edge} {g : Option (Nat × Bool)} (h : wpList P ops Q ({ dst := d, op := .move x, type := t2, pos := p, after := af, guard := g } :: rest) a w) : wpList P ops Q ({ dst := d, op := .move x, type := t2, pos := p, after := af, guard := g } :: rest) a w := h
end
end Go.Proofs.YthmlidlnojdggaaDoor
