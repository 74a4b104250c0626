/- Rows of words of 32 bits: what XBase has of bytes. -/
import Derived.Test.YthmlidlnojdggaaDoorByteStep
set_option linter.unusedVariables false
set_option linter.unusedSimpArgs false
namespace Go.Proofs.YthmlidlnojdggaaDoor
open Go.RowKit Go.Proofs.YthmlidlnojdggaaDoorW.PrintWords
/-- A word. -/
abbrev W32 := BitVec 32
theorem infoW : (Tryd.prog.info? 52).map (fun i => (i.zero, i.size, i.bytes)) = some (some (.int .u32 0), 1, 4) := by kernel_rfl
abbrev Ws (W : World) (base : Nat) (v : Value) (l : List W32) : Prop := K32.R 52 W base (fun _ => True) v l
theorem lit_readw (w : World) (t : TypeId) (fr : Nat × Nat) (l : List W32) {cs : Array Value} (hcs : cs = (l.map fun b => Value.int .u32 (b.toNat : Int)).toArray) (hl : l.length ≤ 9223372036854775807) : K32.C (w.alloc (.cells cs t fr)) (some ⟨w.heap.size, 0, none⟩) l.length l := by
  refine Kd.C_of_reads (d := (0 : W32)) ⟨rfl, hl, fun _ => ⟨_, rfl, fun j hj => ?_⟩⟩
  subst hcs
  rw [add_plain, World.cell?_alloc_mark]
  simp [hj]
theorem at_w0 {xs : List W32} {w : World} {A : Option Addr} {n : Nat} (h : K32.C w A n xs) (hi : 0 < n) : ∃ ad, A = some ad ∧ w.cell? ad = some (.int .u32 ((xs.getD 0 0).toNat : Int)) := by
  obtain ⟨ad, e, hc⟩ := (Kd.reads_of_C (d := (0 : W32)) h).2.2 hi
  exact ⟨ad, e, by simpa [Addr.add] using hc 0 hi⟩
theorem at_wn {xs : List W32} {w : World} {A : Option Addr} {n : Nat} (h : K32.C w A n xs) (i : Nat) (hi : i < n) : ∃ ad, A = some ad ∧ w.cell? (ad.add i) = some (.int .u32 ((xs.getD i 0).toNat : Int)) := by
  obtain ⟨ad, e, hc⟩ := (Kd.reads_of_C (d := (0 : W32)) h).2.2 (by omega)
  exact ⟨ad, e, hc i hi⟩
theorem at_wc {xs : List W32} {w : World} {A : Option Addr} {n : Nat} (h : K32.C w A n xs) (i : Nat) (hi : i < n) (h0 : 0 < i) : ∃ ad, A = some ad ∧ w.cell? ⟨ad.block, ad.off + i, none⟩ = some (.int .u32 ((xs.getD i 0).toNat : Int)) := by
  obtain ⟨ad, e, hc⟩ := at_wn h i hi
  exact ⟨ad, e, by rw [← add_pos ad i h0]; exact hc⟩
theorem Ws.read {W : World} {base n c : Nat} {A : Option Addr} {l : List W32} (h : Ws W base (.slice A n c) l) : K32.C W A n l ∧ n = l.length ∧ n ≤ c := by
  obtain ⟨A', c', he, hl, hr⟩ := Kd.R_reads h
  injection he with h1 h2 h3
  subst h1
  subst h2
  subst h3
  exact ⟨hr, rfl, hl⟩
theorem Ws.lit (W : World) (base b : Nat) (hB : b = W.heap.size) (hb : base ≤ W.heap.size) (l : List W32) (n : Nat) (hn : l.length = n) (cs : Array Value) (hcs : cs = (l.map fun b => Value.int .u32 (b.toNat : Int)).toArray) (hl : n ≤ 9223372036854775807) : Ws (W.alloc (.cells cs 52)) base (.slice (some ⟨b, 0, none⟩) n n) l := by
  subst hB
  subst hn
  subst hcs
  exact Kd.R_of_own (own_lit_of (enc := fun b : W32 => Value.int .u32 (b.toNat : Int)) W base 52 l hb hl) (fun _ _ => trivial)
theorem Ws.cell {W : World} {base g n cap : Nat} {l : List W32} (h : Ws W base (.slice (some ⟨g, 0, none⟩) n cap) l) (i : Nat) (hi : i < n) : W.cell? ⟨g, i, none⟩ = some (.int .u32 ((l.getD i 0).toNat : Int)) ∧ W.frozen? ⟨g, i, none⟩ = false := by
  have := Kd.R_celln (0 : W32) h (i : Int) (by omega) (by omega)
  simpa [rdOf] using this
theorem Ws.put {W : World} {base g n cap : Nat} {l : List W32} (h : Ws W base (.slice (some ⟨g, 0, none⟩) n cap) l) (i : Nat) (x : W32) : Ws (W.setCell ⟨g, i, none⟩ (.int .u32 (x.toNat : Int))) base (.slice (some ⟨g, 0, none⟩) n cap) (l.set i x) := by
  have := Kd.R_putn h (i : Int) x
  simpa using this
theorem Ws.form {W : World} {base n c : Nat} {A : Option Addr} {l : List W32} (h : Ws W base (.slice A n c) l) (hp : 0 < n) : ∃ g, A = some ⟨g, 0, none⟩ ∧ base ≤ g ∧ g < W.heap.size := by
  obtain ⟨_, hn, _⟩ := h.read
  obtain ⟨g, cap, he, hb, hg, _⟩ := Kd.R_form h (by omega)
  injection he with h1 h2 h3
  exact ⟨g, h1, hb, hg⟩
theorem Ws.nil (W : World) (base : Nat) : Ws W base (.slice none 0 0) [] := Kd.R_nil _ _ _ _ _
section
variable {ops : Array Oper} {rest : List Oper} {o : Oper} {a : Act} {Q : Exit → Act → World → Prop}
theorem app_ws {w0 W : World} (base : Nat) (hgd : o.guard = none) (s x : Operand)
    (ho : o.op = .call { callee := .builtin .append, args := #[s, x], argTypes := #[38, 38] })
    (v : Value) (xs ys : List W32) (A : Option Addr) (m c : Nat) (hs : a.eval s = v) (hx : a.eval x = .slice A m c)
    (HO : Ws W base v xs) (HR : K32.C W A m ys) (HB : Below base w0 W) (hbase : base ≤ W.heap.size) (hl : xs.length + m ≤ 35184372088832)
    (h : ∀ (zs : List W32) (A1 : Option Addr) (c1 : Nat) (w1 : World), Aside0 (zs = xs ++ ys) → Aside0 (Ws w1 base (.slice A1 zs.length c1) zs) → Aside0 (Below base w0 w1) → Aside0 (base ≤ w1.heap.size) → Aside0 (W.grownBy w1 v.ownBlock) → wpList Tryd.prog ops Q rest (a.put o.dst (.slice A1 zs.length c1)) w1) :
    wpList Tryd.prog ops Q (o :: rest) a W := by
  refine Kd.R_append_row (w0 := w0) (fun b : W32 => Value.int .u32 (b.toNat : Int)) 0 base hgd s x 38 52 (.int .u32 0) 4 ho Tryd.underlying38 infoW rfl (by decide) v xs ys A m c (fun _ => True) hs hx (fun _ _ => trivial) HO HR HB hbase (by omega) ?_
  intro v1 w1 h1 h2 h3 _
  obtain ⟨A1, c1, rfl⟩ := Kd.R_slice h1
  exact h _ A1 c1 w1 ⟨rfl⟩ ⟨h1⟩ ⟨h2⟩ ⟨Nat.le_trans hbase h3.size⟩ ⟨h3⟩
end
abbrev RetWs (w : World) (l : List W32) (e : Ending) (w' : World) : Prop :=
  ∃ A c, e = .returned (.slice A l.length c) ∧ Ws w' w.heap.size (.slice A l.length c) l ∧ Below w.heap.size w w'
theorem Ws.lower {W : World} {b base : Nat} {v : Value} {l : List W32} (h : Ws W b v l) (hb : base ≤ b) : Ws W base v l := Kd.R_lower h hb
theorem Ws.below {W w1 : World} {base : Nat} {v : Value} {l : List W32} (h : Ws W base v l) (hb : Below W.heap.size W w1) : Ws w1 base v l := Kd.R_below h hb
theorem Ws.alloc {W : World} {base : Nat} {v : Value} {l : List W32} (h : Ws W base v l) (o : Obj) : Ws (W.alloc o) base v l := Kd.R_alloc h o
theorem Ws.grown {W w1 : World} {base : Nat} {v : Value} {l : List W32} (h : Ws W base v l) {row : Option Nat} (hg : W.grownBy w1 row) (hr : ∀ k, row = some k → k < base) : Ws w1 base v l :=
  Kd.R_mono (Kd.R_grown (Kd.R_bound h) hg (fun k hk e => by have := hr k e.symm; have := hk.2.1; omega)) (fun _ _ => trivial)
theorem Ws.own_lt {W : World} {base : Nat} {v : Value} {l : List W32} (h : Ws W base v l) (k : Nat) (hk : v.ownBlock = some k) : k < W.heap.size := by
  obtain ⟨inner, ho⟩ := Kd.R_own h
  exact Go.Proofs.YthmlidlnojdggaaDoorW.PrintWords.own_lt ho k hk
theorem Ws.own_ge {W : World} {base : Nat} {v : Value} {l : List W32} (h : Ws W base v l) (k : Nat) (hk : v.ownBlock = some k) : base ≤ k := by
  obtain ⟨inner, ho⟩ := Kd.R_own h
  exact own_base ho k hk
theorem Ws.emp (W : World) (base b : Nat) (hB : b = W.heap.size) (hb : base ≤ W.heap.size) : Ws (W.alloc (.cells #[] 52)) base (.slice (some ⟨b, 0, none⟩) 0 0) [] := Ws.lit W base b hB hb [] 0 rfl _ rfl (by decide)
theorem Ws.one (W : World) (base b : Nat) (hB : b = W.heap.size) (hb : base ≤ W.heap.size) (x : W32) (z : Int) (hz : z = (x.toNat : Int)) : Ws (W.alloc (.cells #[.int .u32 z] 52)) base (.slice (some ⟨b, 0, none⟩) 1 1) [x] := Ws.lit W base b hB hb [x] 1 rfl _ (by rw [hz]; rfl) (by decide)
section
variable {ops : Array Oper} {o : Oper} {a : Act} {Q : Exit → Act → World → Prop} {Kc : Act → World → Prop}
/-- append(v, ys...) in a region that draws its order: words. -/
theorem app_ws_step {w0 W : World} (base : Nat) (hw : Region.wanted o (yielded ops a.tmps) = true) (s x : Operand)
    (ho : o.op = .call { callee := .builtin .append, args := #[s, x], argTypes := #[38, 38] })
    (v : Value) (xs ys : List W32) (A : Option Addr) (m c : Nat) (hs : a.eval s = v) (hx : a.eval x = .slice A m c)
    (HO : Ws W base v xs) (HR : K32.C W A m ys) (HB : Below base w0 W) (hbase : base ≤ W.heap.size) (hl : xs.length + m ≤ 35184372088832)
    (h : ∀ (zs : List W32) (A1 : Option Addr) (c1 : Nat) (w1 : World), Aside0 (zs = xs ++ ys) → Aside0 (Ws w1 base (.slice A1 zs.length c1) zs) → Aside0 (Below base w0 w1) → Aside0 (base ≤ w1.heap.size) → Aside0 (W.grownBy w1 v.ownBlock) → Kc (a.put o.dst (.slice A1 zs.length c1)) w1) :
    if Region.wanted o (yielded ops a.tmps) = true then Oper.wp Tryd.prog o a W Kc Q else Kc (a.put o.dst undef) W := by
  refine Kd.R_append_rows_step (w0 := w0) K32 base hw s x 38 52 (.int .u32 0) 4 ho Tryd.underlying38 infoW rfl (by decide) (by decide) v xs ys A m c (fun _ => True) (fun _ => False) hs hx HO HR (fun _ _ h => h) (fun _ h => h.elim) (fun _ _ => trivial) HB hbase (by omega) ?_
  intro v1 w1 h1 h2 h3 _
  obtain ⟨A1, c1, rfl⟩ := Kd.R_slice h1
  exact h _ A1 c1 w1 ⟨rfl⟩ ⟨h1⟩ ⟨h2⟩ ⟨Nat.le_trans hbase h3.size⟩ ⟨h3⟩
end

end Go.Proofs.YthmlidlnojdggaaDoor
