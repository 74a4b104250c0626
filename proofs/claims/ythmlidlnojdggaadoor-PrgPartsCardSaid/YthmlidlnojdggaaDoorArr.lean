/- Arrays of words and of bytes, as blocks known whole. -/
import Derived.Test.YthmlidlnojdggaaDoorBase
import Derived.Laws.Tables
import Derived.Laws.CopyOwn
import Derived.ChangeKeysEq
set_option linter.unusedVariables false
set_option linter.unusedSimpArgs false
namespace Go.Proofs.YthmlidlnojdggaaDoor
open Go.RowKit Go.Proofs.YthmlidlnojdggaaDoorW.PrintWords

/-- Words of 32 bits as cells. -/
def e32 (l : List (BitVec 32)) : Array Value := (l.map fun x => Value.int .u32 (x.toNat : Int)).toArray
/-- Bytes as cells. -/
def e8 (l : List UInt8) : Array Value := (l.map fun x => Value.int .u8 (x.toNat : Int)).toArray
theorem e32_size (l : List (BitVec 32)) : (e32 l).size = l.length := by simp [e32]
theorem e8_size (l : List UInt8) : (e8 l).size = l.length := by simp [e8]
theorem e32_one (l : List (BitVec 32)) : (e32 l).all (·.oneCell') = true := by simp [e32, Value.oneCell']
theorem e8_one (l : List UInt8) : (e8 l).all (·.oneCell') = true := by simp [e8, Value.oneCell']
theorem e32_get (l : List (BitVec 32)) (i : Nat) (hi : i < l.length) : (e32 l)[i]? = some (.int .u32 ((l.getD i 0).toNat : Int)) := by simp [e32, List.getD, hi]
theorem e8_get (l : List UInt8) (i : Nat) (hi : i < l.length) : (e8 l)[i]? = some (.int .u8 ((l.getD i 0).toNat : Int)) := by simp [e8, List.getD, hi]
theorem e32_set (l : List (BitVec 32)) (i : Nat) (x : BitVec 32) : (e32 l).setIfInBounds i (.int .u32 (x.toNat : Int)) = e32 (l.set i x) := by simp [e32, List.map_set]
theorem e8_set (l : List UInt8) (i : Nat) (x : UInt8) : (e8 l).setIfInBounds i (.int .u8 (x.toNat : Int)) = e8 (l.set i x) := by simp [e8, List.map_set]
theorem e32_inj {a b : List (BitVec 32)} (h : e32 a = e32 b) : a = b := by
  unfold e32 at h
  refine (List.map_inj_right ?_).1 (List.toArray_inj h)
  intro x y hxy
  injection hxy with _ h
  exact BitVec.eq_of_toNat_eq (by omega)
theorem e8_inj {a b : List UInt8} (h : e8 a = e8 b) : a = b := by
  unfold e8 at h
  refine (List.map_inj_right ?_).1 (List.toArray_inj h)
  intro x y hxy
  injection hxy with _ h
  exact UInt8.toNat_inj.1 (by omega)
/-- A block g of W holds just these cells. -/
abbrev Blk (W : World) (g : Nat) (t : TypeId) (cs : Array Value) : Prop := W.heap[g]? = some (.cells cs t (0, 0))
theorem blk32 {W : World} {g : Nat} {t : TypeId} {l : List (BitVec 32)} (h : Blk W g t (e32 l)) (i : Nat) (hi : i < l.length) : W.cell? ⟨g, i, none⟩ = some (.int .u32 ((l.getD i 0).toNat : Int)) := by rw [blk_cell h i, e32_get l i hi]
theorem blk8 {W : World} {g : Nat} {t : TypeId} {l : List UInt8} (h : Blk W g t (e8 l)) (i : Nat) (hi : i < l.length) : W.cell? ⟨g, i, none⟩ = some (.int .u8 ((l.getD i 0).toNat : Int)) := by rw [blk_cell h i, e8_get l i hi]
theorem blk32_set {W : World} {g : Nat} {t : TypeId} {l : List (BitVec 32)} (h : Blk W g t (e32 l)) (i : Nat) (x : BitVec 32) (z : Int) (hz : z = (x.toNat : Int)) : Blk (W.setCell ⟨g, i, none⟩ (.int .u32 z)) g t (e32 (l.set i x)) := by
  subst hz
  rw [← e32_set]
  exact blk_set h i _
theorem blk8_set {W : World} {g : Nat} {t : TypeId} {l : List UInt8} (h : Blk W g t (e8 l)) (i : Nat) (x : UInt8) (z : Int) (hz : z = (x.toNat : Int)) : Blk (W.setCell ⟨g, i, none⟩ (.int .u8 z)) g t (e8 (l.set i x)) := by
  subst hz
  rw [← e8_set]
  exact blk_set h i _
/-- The list is another one in a cell: what it is there. -/
theorem set_at {α : Type} (l : List α) (x z : α) (t n : Nat) (r : List α) (hl : l.length = t) : (l ++ (z :: r)).set t x = (l ++ [x]) ++ r := by
  subst hl
  rw [List.set_append_right _ _ (Nat.le_refl _), Nat.sub_self, List.set_cons_zero, List.append_assoc]
  rfl
theorem set_pad {α : Type} (l : List α) (x z : α) (t n : Nat) (hl : l.length = t) (h : t < n) : (l ++ List.replicate (n - t) z).set t x = (l ++ [x]) ++ List.replicate (n - (t + 1)) z := by
  obtain ⟨m, hm⟩ : ∃ m, n - t = m + 1 := ⟨n - t - 1, by omega⟩
  rw [hm, List.replicate_succ, set_at l x z t n _ hl, show n - (t + 1) = m by omega]

theorem blk_setRow {W : World} {g : Nat} {t : TypeId} {old : Array Value} (h : Blk W g t old) (cs : Array Value) : Blk (W.setRow g cs) g t cs := setRow_heap W g old cs t (0, 0) h
theorem blk_setRow_far {W : World} {g k : Nat} {o : Obj} (h : W.heap[k]? = some o) (hk : k ≠ g) (cs : Array Value) : (W.setRow g cs).heap[k]? = some o := (setRow_other W g k cs hk).trans h
section
variable {P : Program}
/-- Guards: the first operation is a load, a store, a build, an index (they fail at once elsewhere). -/
theorem at_load_ {ops : Array Oper} {rest : List Oper} {a : Act} {w : World} {Q : Exit → Act → World → Prop} {d : Option Tmp} {ty ty' : TypeId} {x : Operand} {p : String} {af : Array Edge} {g : Option (Nat × Bool)} (h : wpList P ops Q ({ dst := d, op := .load ty x, type := ty', pos := p, after := af, guard := g } :: rest) a w) : wpList P ops Q ({ dst := d, op := .load ty x, type := ty', pos := p, after := af, guard := g } :: rest) a w := h
theorem at_store_ {ops : Array Oper} {rest : List Oper} {a : Act} {w : World} {Q : Exit → Act → World → Prop} {d : Option Tmp} {ty ty' : TypeId} {x y : Operand} {p : String} {af : Array Edge} {g : Option (Nat × Bool)} (h : wpList P ops Q ({ dst := d, op := .store ty x y, type := ty', pos := p, after := af, guard := g } :: rest) a w) : wpList P ops Q ({ dst := d, op := .store ty x y, type := ty', pos := p, after := af, guard := g } :: rest) a w := h
theorem at_build_ {ops : Array Oper} {rest : List Oper} {a : Act} {w : World} {Q : Exit → Act → World → Prop} {d : Option Tmp} {ty ty' : TypeId} {x : Array (Nat × Operand)} {p : String} {af : Array Edge} {g : Option (Nat × Bool)} (h : wpList P ops Q ({ dst := d, op := .build ty x, type := ty', pos := p, after := af, guard := g } :: rest) a w) : wpList P ops Q ({ dst := d, op := .build ty x, type := ty', pos := p, after := af, guard := g } :: rest) a w := h
/-- A load of a whole array, and a store, as equations that the walk rewrites by. -/
theorem run_load_row {w : World} {g : Nat} {ty t : TypeId} {cs : Array Value} {d : TypeDesc} (hg : Blk w g t cs) (hu : P.underlying ty = some d) (hd : (match d with | .struct _ | .array _ _ => true | _ => false) = true) (hi : (P.info? ty).map (·.size) = some cs.size) :
    (Instr.loadAt ty (.pointer (some ⟨g, 0, none⟩))).run P w = .ok (.agg cs) w := by
  simp only [Instr.loadAt, Instr.sureAddr, Sem.run_bind, Sem.run_pure, Result.andThen]
  exact run_loadVar_row w g t ty cs (0, 0) d hg hu hd hi
theorem run_store_row {w : World} {g : Nat} {ty t : TypeId} {cs old : Array Value} (hg : Blk w g t old) (hi : (P.info? ty).map (·.size) = some cs.size) (ho : old.size = cs.size) (h1 : cs.all (·.oneCell') = true) :
    (Instr.storeAt ty (.pointer (some ⟨g, 0, none⟩)) (.agg cs)).run P w = .ok () (w.setRow g cs) := by
  simp only [Instr.storeAt, Instr.sureAddr, Sem.run_bind, Sem.run_pure, Result.andThen]
  exact run_storeVar_row w g t ty old cs hg hi ho h1
/-- A store of a whole array. -/
theorem wpList_store_row {ops : Array Oper} {rest : List Oper} {o : Oper} {a : Act} {w : World} {Q : Exit → Act → World → Prop} (hgd : o.guard = none) (ty : TypeId) (x y : Operand) (ho : o.op = .store ty x y)
    (g : Nat) (cells old : Array Value) (t : TypeId) (hx : a.eval x = .pointer (some ⟨g, 0, none⟩)) (hy : a.eval y = .agg cells) (hg : Blk w g t old)
    (hi : (P.info? ty).map (·.size) = some cells.size) (hold : old.size = cells.size) (h1 : cells.all (·.oneCell') = true)
    (h : wpList P ops Q rest (a.put o.dst undef) (w.setRow g cells)) : wpList P ops Q (o :: rest) a w :=
  wpList_plain hgd fun _ hK => by
    unfold Oper.wp execOp
    simp only [ho, hx, hy, Instr.storeAt, Instr.sureAddr, Sem.run_bind, Sem.run_pure, Result.andThen_ok, run_storeVar_row w g t ty old cells hg hi hold h1]
    exact hK _ _ h
theorem exec_load_row {o : Oper} {a : Act} {w : World} (ty : TypeId) (x : Operand) (ho : o.op = .load ty x) (g : Nat) (t : TypeId) (cs : Array Value) (d : TypeDesc) (hx : a.eval x = .pointer (some ⟨g, 0, none⟩)) (hg : Blk w g t cs)
    (hu : P.underlying ty = some d) (hd : (match d with | .struct _ | .array _ _ => true | _ => false) = true) (hi : (P.info? ty).map (·.size) = some cs.size) : (execOp a.eval o).run P w = .ok (.value (.agg cs)) w := by
  unfold execOp
  simp only [ho, hx, Sem.run_bind, Sem.run_pure, Result.andThen_ok, run_load_row hg hu hd hi]
theorem exec_store_row {o : Oper} {a : Act} {w : World} (ty : TypeId) (x y : Operand) (ho : o.op = .store ty x y) (g : Nat) (t : TypeId) (cs old : Array Value) (hx : a.eval x = .pointer (some ⟨g, 0, none⟩)) (hy : a.eval y = .agg cs) (hg : Blk w g t old)
    (hi : (P.info? ty).map (·.size) = some cs.size) (hold : old.size = cs.size) (h1 : cs.all (·.oneCell') = true) : (execOp a.eval o).run P w = .ok .skip (w.setRow g cs) := by
  unfold execOp
  simp only [ho, hx, hy, Sem.run_bind, Sem.run_pure, Result.andThen_ok, run_store_row hg hi hold h1]
/-- A place of an array that is a value. -/
theorem run_index_row {ty e : TypeId} {n : Nat} (hu : P.underlying ty = some (.array n e)) (ha : ∀ w, (isAgg e).run P w = .ok false w) (hs : ∀ w, (sizeOf e).run P w = .ok 1 w) (cs : Array Value) (k : IntKind) (i : Nat) (v : Value) (hi : i < n) (hv : cs[i]? = some v) (w : World) :
    (Instr.index ty (.agg cs) (.int k (i : Int))).run P w = .ok v w := by
  have h1 : (0 : Int) ≤ (i : Int) ∧ (i : Int) < (n : Int) := by omega
  have h2 : ¬ n ≤ i := by omega
  simp [Instr.index, asIntOf, run_underlying hu, h2, hs, part, ha, hv]
theorem eqItems_row {e : TypeId} {k : IntKind} (he : P.underlying e = some (.int k)) (ha : ∀ w, (isAgg e).run P w = .ok false w) (d : Nat) (xs ys : List Int) (w : World) : ∀ (m s : Nat), s + m = xs.length → s + m = ys.length →
    (Op.eqItems (d + 1) e 1 (xs.map (Value.int k)).toArray (ys.map (Value.int k)).toArray (List.range' s m)).run P w = .ok (xs.drop s == ys.drop s) w
  | 0, s, hx, hy => by
    rw [List.drop_eq_nil_of_le (by omega), List.drop_eq_nil_of_le (by omega)]
    simp [Op.eqItems]
  | m + 1, s, hx, hy => by
    have h1 : s < xs.length := by omega
    have h2 : s < ys.length := by omega
    have p1 : (part e (xs.map (Value.int k)).toArray (s * 1)).run P w = .ok (.int k xs[s]) w := by simp [part, ha, h1]
    have p2 : (part e (ys.map (Value.int k)).toArray (s * 1)).run P w = .ok (.int k ys[s]) w := by simp [part, ha, h2]
    rw [List.range'_succ]
    simp only [Op.eqItems, Sem.run_bind, p1, p2, Result.andThen_ok, run_equalIn_int w d e k k _ _ he]
    rw [List.drop_eq_getElem_cons h1, List.drop_eq_getElem_cons h2, List.cons_beq_cons]
    by_cases hb : xs[s] = ys[s]
    · rw [hb, beq_self_eq_true, Bool.true_and]
      simpa using eqItems_row he ha d xs ys w m (s + 1) (by omega) (by omega)
    · rw [beq_eq_false_iff_ne.2 hb, Bool.false_and]
      simp
theorem run_eq_arr {ty e : TypeId} {n : Nat} {k : IntKind} (hu : P.underlying ty = some (.array n e)) (he : P.underlying e = some (.int k)) (ha : ∀ w, (isAgg e).run P w = .ok false w) (hs : P.cellsOf e = 1) (d : Nat) (xs ys : List Int) (hx : xs.length = n) (hy : ys.length = n) (w : World) :
    (Op.equalIn (d + 2) ty (.agg (xs.map (Value.int k)).toArray) (.agg (ys.map (Value.int k)).toArray)).run P w = .ok (xs == ys) w := by
  obtain ⟨i, hi⟩ := info_of_underlying he
  rw [run_equalIn_array w (d + 1) _ _ hu hi, hs, List.range_eq_range', eqItems_row he ha d xs ys w n 0 (by omega) (by omega)]
  rfl
theorem run_eq_e8 {ty e : TypeId} {n : Nat} (hu : P.underlying ty = some (.array n e)) (he : P.underlying e = some (.int .u8)) (ha : ∀ w, (isAgg e).run P w = .ok false w) (hs : P.cellsOf e = 1) (xs ys : List UInt8) (hx : xs.length = n) (hy : ys.length = n) (w : World) :
    (Op.equalIn 10000 ty (.agg (e8 xs)) (.agg (e8 ys))).run P w = .ok (xs == ys) w := by
  have h := run_eq_arr hu he ha hs 9998 (xs.map fun x => (x.toNat : Int)) (ys.map fun x => (x.toNat : Int)) (by simpa using hx) (by simpa using hy) w
  rw [List.map_map, List.map_map] at h
  refine Eq.trans h ?_
  congr 1
  rw [Bool.eq_iff_iff, beq_iff_eq, beq_iff_eq]
  exact ⟨fun h => (List.map_inj_right (fun x y hxy => UInt8.toNat_inj.1 (by omega))).1 h, fun h => by rw [h]⟩
/-- A function hands back an array that lies in a block of its own. -/
theorem ret_row {fn : Func} {p : Tmp} {ty : TypeId} {post : Ending → World → Prop} {tmps : Array Value} {w : World} (g : Nat) (t : TypeId) (cs : Array Value) (d : TypeDesc) (h : fn.results = #[.cell p ty])
    (hp : tmps.getD p undef = .pointer (some ⟨g, 0, none⟩)) (hg : Blk w g t cs) (hu : P.underlying ty = some d) (hd : (match d with | .struct _ | .array _ _ => true | _ => false) = true) (hi : (P.info? ty).map (·.size) = some cs.size)
    (hq : post (.returned (.agg cs)) w) : bodyPost P fn post .ret { tmps := tmps, defers := [] } w :=
  bodyPost_ret (results_cell_row h tmps w g t cs (0, 0) d hp hg hu hd hi) rfl hq
end
theorem blk_new1 (w : World) (A : Obj) (cs : Array Value) (t : TypeId) : Blk ((w.alloc A).alloc (.cells cs t)) (w.heap.size + 1) t cs := heap_alloc2_new w A _
theorem blk_new2 (w : World) (A B : Obj) (cs : Array Value) (t : TypeId) : Blk (((w.alloc A).alloc B).alloc (.cells cs t)) (w.heap.size + 2) t cs := by
  have := heap_alloc2_new (w.alloc A) B (.cells cs t)
  rwa [show (w.alloc A).heap.size + 1 = w.heap.size + 2 by simp] at this
theorem blk_new3 (w : World) (A B C : Obj) (cs : Array Value) (t : TypeId) : Blk ((((w.alloc A).alloc B).alloc C).alloc (.cells cs t)) (w.heap.size + 3) t cs := by
  have := blk_new2 (w.alloc A) B C cs t
  rwa [show (w.alloc A).heap.size + 2 = w.heap.size + 3 by simp] at this
/-- Two arrays are one just if what they hold is. -/
theorem below_new {w : World} (o : Obj) : Below w.heap.size w (w.alloc o) := below_alloc (Below.refl _ _) o
end Go.Proofs.YthmlidlnojdggaaDoor
