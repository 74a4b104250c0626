/- Two rows that grow side by side. -/
import Derived.Test.YthmlidlnojdggaaDoorByteStep
import Derived.Test.YthmlidlnojdggaaDoorWZeros
set_option linter.unusedVariables false
set_option linter.unusedSimpArgs false
namespace Go.Proofs.YthmlidlnojdggaaDoor
open Go.RowKit Go.Proofs.YthmlidlnojdggaaDoorW.PrintWords

/-- Two slices lie in two blocks. -/
def Apart (u v : Value) : Prop := ∀ k, u.ownBlock = some k → v.ownBlock = some k → False
theorem Apart.symm {u v : Value} (h : Apart u v) : Apart v u := fun k a b => h k b a
theorem Apart.nil_l (v : Value) (n c : Nat) : Apart (.slice none n c) v := fun k h => by cases h
theorem Apart.nil_r (v : Value) (n c : Nat) : Apart v (.slice none n c) := fun k _ h => by cases h
theorem own_len (A : Option Addr) (n m c d : Nat) : (Value.slice A n c).ownBlock = (Value.slice A m d).ownBlock := by cases A <;> rfl
/-- Behind an append to v the other one lies apart from what came. -/
theorem Apart.grown {u v v1 : Value} {N : Nat} (h : Apart u v) (hu : ∀ k, u.ownBlock = some k → k < N) (hat : v1.ownBlock = v.ownBlock ∨ ∃ b, v1.ownBlock = some b ∧ N ≤ b) : Apart u v1 := fun k a b => by
  rcases hat with e | ⟨b', e, hb⟩
  · exact h k a (e ▸ b)
  · have := hu k a
    rw [e] at b
    injection b with b
    omega
theorem Kd.sc_ok {α : Type} {enc : α → Value} {h1 : ∀ x, (enc x).oneCell' = true} {e : Nat} {w : World} {base : Nat} {ok ok' : Nat → Prop} {v : Value} {xs : List α} (h : (Kd.scalar enc h1).R e w base ok v xs) (h0 : ∀ k, v.ownBlock = some k → ok' k) : (Kd.scalar enc h1).R e w base ok' v xs := Kd.R_of_own (Kd.own_of_R h) h0
/-- A row of plain values stands where another one grew. -/
theorem Kd.sc_other {α : Type} {enc : α → Value} {h1 : ∀ x, (enc x).oneCell' = true} {e : Nat} {w w1 : World} {base : Nat} {u v : Value} {xs : List α} (h : (Kd.scalar enc h1).R e w base (fun _ => True) u xs) (hg : w.grownBy w1 v.ownBlock) (ha : Apart u v) : (Kd.scalar enc h1).R e w1 base (fun _ => True) u xs :=
  Kd.R_mono (Kd.R_grown (Kd.sc_ok h (ok' := fun k => some k ≠ v.ownBlock) (fun k hk e => ha k hk e.symm)) hg (fun k hk => hk)) (fun _ _ => trivial)
section
variable {ops : Array Oper} {rest : List Oper} {o : Oper} {a : Act} {Q : Exit → Act → World → Prop}
/-- append(v, ys...): bytes; where what came lies is told too. -/
theorem app_bs2 {w0 W : World} (base : Nat) (hgd : o.guard = none) (s x : Operand)
    (ho : o.op = .call { callee := .builtin .append, args := #[s, x], argTypes := #[22, 22] })
    (v : Value) (xs ys : List UInt8) (A : Option Addr) (m c : Nat) (hs : a.eval s = v) (hx : a.eval x = .slice A m c)
    (HO : Bs W base v xs) (HR : Kb.C W A m ys) (HB : Below base w0 W) (hbase : base ≤ W.heap.size) (hl : xs.length + m ≤ 140737488355328)
    (h : ∀ (zs : List UInt8) (A1 : Option Addr) (c1 : Nat) (w1 : World), Aside0 (zs = xs ++ ys) → Aside0 (Bs w1 base (.slice A1 zs.length c1) zs) → Aside0 (Below base w0 w1) → Aside0 (base ≤ w1.heap.size) → Aside0 (W.grownBy w1 v.ownBlock) → Aside0 ((Value.slice A1 zs.length c1).ownBlock = v.ownBlock ∨ ∃ b, (Value.slice A1 zs.length c1).ownBlock = some b ∧ W.heap.size ≤ b) → wpList Tryd.prog ops Q rest (a.put o.dst (.slice A1 zs.length c1)) w1) :
    wpList Tryd.prog ops Q (o :: rest) a W := by
  refine Kd.R_append_row (w0 := w0) (fun b : UInt8 => Value.int .u8 (b.toNat : Int)) 0 base hgd s x 22 5 (.int .u8 0) 1 ho Tryd.underlying22 infoB rfl (by decide) v xs ys A m c (fun _ => True) hs hx (fun _ _ => trivial) HO HR HB hbase (by omega) ?_
  intro v1 w1 h1 h2 h3 h4
  obtain ⟨A1, c1, rfl⟩ := Kd.R_slice h1
  exact h _ A1 c1 w1 ⟨rfl⟩ ⟨h1⟩ ⟨h2⟩ ⟨Nat.le_trans hbase h3.size⟩ ⟨h3⟩ ⟨h4⟩
end
theorem exec_row0 {o : Oper} (a : Act) (ho : o.op = .buildSlice 22 0 #[]) (w : World) : (execOp a.eval o).run Tryd.prog w = .ok (.value (.slice (some ⟨w.heap.size, 0, none⟩) 0 0)) (w.alloc (.cells #[] 5)) := by
  unfold execOp
  rw [ho]
  go_simp
theorem exec_row1 {o : Oper} (ev : Operand → Value) (x : Operand) (z : Int) (ho : o.op = .buildSlice 22 1 #[(0, x)]) (hx : ev x = .int .u8 z) (w : World) : (execOp ev o).run Tryd.prog w = .ok (.value (.slice (some ⟨w.heap.size, 0, none⟩) 1 1)) (w.alloc (.cells #[.int .u8 z] 5)) := by
  unfold execOp
  rw [ho]
  go_simp
/-- A block that holds just these bytes is a row of the call's own. -/
theorem Bs.of_blk {W : World} {base g n : Nat} {l : List UInt8} {cs : Array Value} (h : Blk W g 5 cs) (hcs : cs = e8 l) (hb : base ≤ g) (hn : l.length = n) (hl : n ≤ 9223372036854775807) : Bs W base (.slice (some ⟨g, 0, none⟩) n n) l := by
  subst hn hcs
  exact Kd.R_of_own ⟨by simp [encs], .inr ⟨g, l.length, e8 l, rfl, hb, h, Nat.le_refl _, hl, by simp [e8], by simp [e8, encs, List.take_of_length_le]⟩⟩ (fun _ _ => trivial)
section
variable {ops : Array Oper} {o : Oper} {a : Act} {Q : Exit → Act → World → Prop} {Kc : Act → World → Prop}
/-- append(v, make([]byte, k)...) in a region that draws its order. -/
theorem app_zs_step {w0 W : World} (base : Nat) (hw : Region.wanted o (yielded ops a.tmps) = true) (s x : Operand)
    (ho : o.op = .call { callee := .builtin .append, args := #[s, x], argTypes := #[22, 3] })
    (v : Value) (xs : List UInt8) (k : Nat) (z : Int) (hs : a.eval s = v) (hx : a.eval x = .int .i64 z) (hz : z = (k : Int))
    (HO : Bs W base v xs) (HB : Below base w0 W) (hbase : base ≤ W.heap.size) (hl : xs.length + k ≤ 140737488355328)
    (h : ∀ (zs : List UInt8) (A1 : Option Addr) (c1 : Nat) (w1 : World), Aside0 (zs = xs ++ List.replicate k 0) → Aside0 (Bs w1 base (.slice A1 zs.length c1) zs) → Aside0 (Below base w0 w1) → Aside0 (base ≤ w1.heap.size) → Aside0 (W.grownBy w1 v.ownBlock) → Kc (a.put o.dst (.slice A1 zs.length c1)) w1) :
    if Region.wanted o (yielded ops a.tmps) = true then Oper.wp Tryd.prog o a W Kc Q else Kc (a.put o.dst undef) W := by
  subst hz
  refine Kd.R_append_zeros_step Kb (w0 := w0) base hw s x 22 3 5 (.int .u8 0) 1 ho Tryd.underlying22 Tryd.underlying3 infoB rfl (by decide) (by decide) v xs 0 (k : Int) (fun _ => True) hs hx rfl (fun _ _ => trivial) HO (by omega) HB hbase (by simpa using hl) ?_
  intro v1 w1 h1 h2 h3 _
  obtain ⟨A1, c1, rfl⟩ := Kd.R_slice h1
  exact h _ A1 c1 w1 ⟨rfl⟩ ⟨h1⟩ ⟨h2⟩ ⟨Nat.le_trans hbase h3.size⟩ ⟨h3⟩
end
end Go.Proofs.YthmlidlnojdggaaDoor
