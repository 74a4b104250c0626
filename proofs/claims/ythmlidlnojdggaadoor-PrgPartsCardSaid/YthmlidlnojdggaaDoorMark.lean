/- Rows of bytes made of a string ([]byte(s)): a mark stands behind their cells; append to them. -/
import Derived.Test.YthmlidlnojdggaaDoorRows2
import Derived.Test.YthmlidlnojdggaaDoorStep
import Derived.Laws.IdiomStrings
import Derived.Lib.FrozenHead2
set_option linter.unusedVariables false
set_option linter.unusedSimpArgs false
namespace Go.Proofs.YthmlidlnojdggaaDoor
open Go.RowKit Go.Proofs.YthmlidlnojdggaaDoorW.PrintWords

/-- A row of bytes of the call's own; a mark may stand behind its cells. -/
def Ms (w : World) (base : Nat) (v : Value) (l : List UInt8) : Prop :=
  (v = .slice none 0 0 ∧ l = []) ∨ ∃ g cap cur fz, v = .slice (some ⟨g, 0, none⟩) l.length cap ∧ base ≤ g ∧ w.heap[g]? = some (.cells cur 5 fz) ∧ (fz = (0, 0) ∨ cur.size ≤ fz.1) ∧ l.length ≤ cap ∧ cap ≤ maxLen ∧ cur.size = cap ∧ cur.toList.take l.length = encs (fun b : UInt8 => Value.int .u8 (b.toNat : Int)) l
theorem encs_len (l : List UInt8) : (encs (fun b : UInt8 => Value.int .u8 (b.toNat : Int)) l).length = l.length := by simp [encs]
theorem Ms.of_Bs {w : World} {base : Nat} {v : Value} {l : List UInt8} (h : Bs w base v l) : Ms w base v l := by
  obtain ⟨hl, h2⟩ := Kd.own_of_R h
  rcases h2 with ⟨rfl, h0⟩ | ⟨g, cap, cur, rfl, hg, hh, h1, h3, h4, h5⟩
  · exact .inl ⟨rfl, List.eq_nil_of_length_eq_zero h0⟩
  · exact .inr ⟨g, cap, cur, (0, 0), rfl, hg, hh, .inl rfl, h1, h3, by simpa using h4, by simpa using h5⟩
theorem Ms.slice {w : World} {base : Nat} {v : Value} {l : List UInt8} (h : Ms w base v l) : ∃ A c, v = .slice A l.length c ∧ l.length ≤ c := by
  rcases h with ⟨rfl, rfl⟩ | ⟨g, cap, cur, fz, rfl, _, _, _, h1, _⟩
  · exact ⟨none, 0, rfl, Nat.le_refl _⟩
  · exact ⟨_, cap, rfl, h1⟩
theorem Ms.read {w : World} {base n c : Nat} {A : Option Addr} {l : List UInt8} (h : Ms w base (.slice A n c) l) : Kb.C w A l.length l := by
  rcases h with ⟨hv, rfl⟩ | ⟨g, cap, cur, fz, hv, _, hh, hm, h1, h2, h3, h4⟩
  · injection hv with h1 h2 h3
    subst h1
    exact Kd.C_nil _ _
  · injection hv with h5 h6 h7
    subst h5
    refine Kd.C_of_reads (d := (0 : UInt8)) ⟨rfl, by unfold maxLen at h2; omega, fun _ => ⟨_, rfl, fun j hj => ?_⟩⟩
    rw [add_plain]
    have hc : j < cur.size := by omega
    have e : cur[j]? = some (.int .u8 ((l.getD j 0).toNat : Int)) := by
      have := congrArg (fun x => x[j]?) h4
      simp only [List.getElem?_take, hj, if_true] at this
      rw [← Array.getElem?_toList, this]
      simp [encs, List.getD, hj]
    simp only [World.cell?, hh]
    simpa using e
theorem Ms.below {w w1 : World} {base : Nat} {v : Value} {l : List UInt8} (h : Ms w base v l) (hb : Below w.heap.size w w1) : Ms w1 base v l := by
  rcases h with h | ⟨g, cap, cur, fz, hv, hg, hh, r⟩
  · exact .inl h
  · exact .inr ⟨g, cap, cur, fz, hv, hg, (hb.block g (blk_lt hh)).trans hh, r⟩
theorem Ms.ge {w : World} {base : Nat} {v : Value} {l : List UInt8} (h : Ms w base v l) (k : Nat) (hk : v.ownBlock = some k) : base ≤ k := by
  rcases h with ⟨rfl, _⟩ | ⟨g, cap, cur, fz, rfl, hg, _⟩
  · cases hk
  · have : g = k := by simpa [Value.ownBlock] using hk
    omega
theorem Ms.lower {w : World} {b base : Nat} {v : Value} {l : List UInt8} (h : Ms w b v l) (hb : base ≤ b) : Ms w base v l := by
  rcases h with h | ⟨g, cap, cur, fz, hv, hg, r⟩
  · exact .inl h
  · exact .inr ⟨g, cap, cur, fz, hv, by omega, r⟩
section
variable {P : Program}
theorem run_storeCells_atM (g o : Nat) (t : TypeId) (fz : Nat × Nat) : ∀ (vs : List Value) (i : Nat) (cur : Array Value) (w : World), w.heap[g]? = some (.cells cur t fz) → (fz = (0, 0) ∨ cur.size ≤ fz.1) → o + i + vs.length ≤ cur.size → (∀ v ∈ vs, v.oneCell' = true) →
    (storeCells ⟨g, o, none⟩ vs i).run P w = .ok () (w.setRow g (cur.toList.take (o + i) ++ vs ++ cur.toList.drop (o + i + vs.length)).toArray)
  | [], i, cur, w, hg, _, _, _ => by
    simp only [storeCells, List.append_nil, List.length_nil, Nat.add_zero, List.take_append_drop, Array.toArray_toList]
    rw [setRow_self w g cur t fz hg]
    rfl
  | v :: rest, i, cur, w, hg, hfz, hl, h1 => by
    have hi : o + i < cur.size := by simp at hl; omega
    have hadd : (⟨g, o, none⟩ : Addr).add i = ⟨g, o + i, none⟩ := by unfold Addr.add; split <;> simp_all
    have hcell : w.cell? ⟨g, o + i, none⟩ = some cur[o + i] := by simp [World.cell?, hg, hi]
    have hfro : w.frozen? ⟨g, o + i, none⟩ = false := by
      obtain ⟨lo, hi'⟩ := fz
      simp only [World.frozen?, hg, Bool.and_eq_false_iff, decide_eq_false_iff_not]
      rcases hfz with hfz | hfz
      · injection hfz with h2 h3
        right
        omega
      · left
        simp only at hfz
        omega
    have hst : (store ((⟨g, o, none⟩ : Addr).add i) v).run P w = .ok () (w.setRow g (cur.setIfInBounds (o + i) v)) := by
      rw [hadd, run_store P w _ v _ (h1 v (by simp)), hcell]
      simp [hfro, setCell_eq_setRow w g (o + i) cur t fz v hg]
    have ih := run_storeCells_atM g o t fz rest (i + 1) (cur.setIfInBounds (o + i) v) (w.setRow g (cur.setIfInBounds (o + i) v)) (setRow_heap w g cur _ t _ hg) (by simpa using hfz) (by simp at hl ⊢; omega) (fun x hx => h1 x (by simp [hx]))
    simp only [storeCells, Sem.run_bind, hst, Result.andThen_ok, ih, setRow_setRow]
    congr 3
    have e := list_seg_step cur.toList (o + i) v rest (by simp at hl ⊢; omega)
    simpa [Array.toList_setIfInBounds, Nat.add_assoc] using e
end
set_option maxRecDepth 100000 in
/-- append(v, ys...): the run. -/
theorem run_app_ms {w : World} (base : Nat) (ty : TypeId) (v : Value) (xs ys : List UInt8) (A : Option Addr) (m c : Nat) (h : Ms w base v xs) (HR : Kb.C w A m ys) (hbase : base ≤ w.heap.size) (hl : xs.length + m ≤ 140737488355328) :
    ∃ v' w', (Builtin.append_ #[22, 22] ty #[v, .slice A m c]).run Tryd.prog w = .ok v' w' ∧ Ms w' base v' (xs ++ ys) ∧ w.grownBy w' v.ownBlock ∧ (v'.ownBlock = v.ownBlock ∨ ∃ b, v'.ownBlock = some b ∧ w.heap.size ≤ b) := by
  have hy : ys.length = m := Kd.C_len HR
  obtain ⟨i0, hi, hz0, hz1, hz2⟩ := info_parts infoB
  by_cases hm : m = 0
  · subst hm
    obtain rfl : ys = [] := List.eq_nil_of_length_eq_zero hy
    rw [List.append_nil]
    obtain ⟨A0, c0, rfl, hc0⟩ := h.slice
    refine ⟨_, w, ?_, h, ⟨rfl, rfl, rfl, Nat.le_refl _, fun _ _ _ => rfl⟩, .inl rfl⟩
    have hf0 : (Builtin.firstCells 1 0 (.slice A 0 c)).run Tryd.prog w = .ok #[] w := by
      rcases A with _ | ad
      · simp [Builtin.firstCells]
      · exact run_firstCells_some (P := Tryd.prog) w 1 0 ad 0 c [] rfl (fun j v hv => by cases hv)
    rcases A0 with _ | a0 <;> simp [Builtin.append_, run_underlying Tryd.underlying22, sizeOf, typeInfo, hi, Builtin.lenOf, hf0, storeCells, hz1, hc0]
  · obtain ⟨ad, had, _⟩ := at_bn HR 0 (by omega)
    subst had
    have hnews : ∀ j u, (encs (fun b : UInt8 => Value.int .u8 (b.toNat : Int)) ys)[j]? = some u → w.cell? (ad.add j) = some u := fun j u hu => by
      have hj : j < ys.length := by have := (List.getElem?_eq_some_iff.1 hu).1; rwa [encs_len] at this
      obtain ⟨ad', e, hc⟩ := at_bn HR j (by omega)
      injection e with e
      subst e
      rw [hc, ← hu]
      simp [encs, List.getD, hj]
    have h1 : ∀ u ∈ encs (fun b : UInt8 => Value.int .u8 (b.toNat : Int)) ys, u.oneCell' = true := fun u hu => by
      obtain ⟨b, _, rfl⟩ := List.mem_map.1 hu
      rfl
    rcases h with ⟨rfl, rfl⟩ | ⟨g, cap, cur, fz, rfl, hg, hh, hf, hc, hcm, hs, ht⟩
    · obtain ⟨v', w', r1, r2, r3, r4⟩ := run_append_own (P := Tryd.prog) w w.heap.size 22 ty 5 i0 (.int .u8 0) 1 1 Tryd.underlying22 hi hz0 hz1 hz2 rfl (by decide) (.slice none 0 0) 0 [] ⟨rfl, .inl ⟨rfl, rfl⟩⟩ ad m c (encs (fun b : UInt8 => Value.int .u8 (b.toNat : Int)) ys) (by rw [encs_len, hy, Nat.mul_one]) hnews h1 (by unfold maxLen; omega) (by simpa using hl) (Nat.le_refl _)
      have hB : Bs w' w.heap.size v' ys := Kd.R_of_own (by rw [hy]; simpa using r2) (fun _ _ => trivial)
      refine ⟨v', w', r1, (Ms.of_Bs hB).lower hbase, r3, ?_⟩
      rcases hv : v'.ownBlock with _ | k
      · exact .inl rfl
      · exact .inr ⟨k, rfl, Bs.own_ge hB k hv⟩
    · have hlen : (encs (fun b : UInt8 => Value.int .u8 (b.toNat : Int)) (xs ++ ys)).length = xs.length + m := by rw [encs_len, List.length_append, hy]
      by_cases hroom : xs.length + m ≤ cap
      · have hst := run_storeCells_atM (P := Tryd.prog) g xs.length 5 fz (encs (fun b : UInt8 => Value.int .u8 (b.toNat : Int)) ys) 0 cur w hh hf (by rw [encs_len, hy]; omega) h1
        have hfc := run_firstCells_some (P := Tryd.prog) w 1 m ad m c (encs (fun b : UInt8 => Value.int .u8 (b.toNat : Int)) ys) (by rw [encs_len, hy, Nat.mul_one]) hnews
        simp only [Nat.add_zero] at hst
        refine ⟨.slice (some ⟨g, 0, none⟩) (xs.length + m) cap, w.setRow g (cur.toList.take xs.length ++ encs (fun b : UInt8 => Value.int .u8 (b.toNat : Int)) ys ++ cur.toList.drop (xs.length + (encs (fun b : UInt8 => Value.int .u8 (b.toNat : Int)) ys).length)).toArray, ?_, .inr ⟨g, cap, _, fz, by rw [List.length_append, hy], hg, setRow_heap w g cur _ _ _ hh, ?_, by rw [List.length_append, hy]; exact hroom, hcm, ?_, ?_⟩, ⟨rfl, rfl, rfl, by simp, fun k _ hk => setRow_other w g k _ (fun e => hk (by simp [Value.ownBlock, e]))⟩, .inl rfl⟩
        · simp [Builtin.append_, run_underlying Tryd.underlying22, sizeOf, typeInfo, hi, hz1, Builtin.lenOf, hroom, hfc, Addr.add_lit, hst]
        · rcases hf with hf | hf
          · exact .inl hf
          · right
            simp only [List.size_toArray, List.length_append, List.length_take, List.length_drop, Array.length_toList, encs_len]
            omega
        · simp only [List.size_toArray, List.length_append, List.length_take, List.length_drop, Array.length_toList, encs_len]
          omega
        · rw [ht, List.length_append, hy, ← hlen, show encs (fun b : UInt8 => Value.int .u8 (b.toNat : Int)) (xs ++ ys) = encs (fun b : UInt8 => Value.int .u8 (b.toNat : Int)) xs ++ encs (fun b : UInt8 => Value.int .u8 (b.toNat : Int)) ys by simp [encs]]
          exact List.take_left
      · have holds : ∀ j u, (encs (fun b : UInt8 => Value.int .u8 (b.toNat : Int)) xs)[j]? = some u → w.cell? ((⟨g, 0, none⟩ : Addr).add j) = some u := fun j u hu => by
          rw [← ht, List.getElem?_take] at hu
          split at hu
          · rw [add_plain]
            simp only [World.cell?, hh]
            simpa using hu
          · cases hu
        have hr := run_append_grow (P := Tryd.prog) w 22 ty 5 i0 (.int .u8 0) Tryd.underlying22 hi hz0 ⟨g, 0, none⟩ xs.length cap (encs (fun b : UInt8 => Value.int .u8 (b.toNat : Int)) xs) (by rw [encs_len, hz1, Nat.mul_one]) holds ad m c (encs (fun b : UInt8 => Value.int .u8 (b.toNat : Int)) ys) (by rw [encs_len, hy, hz1, Nat.mul_one]) hnews (by omega) (by omega) (growslice_fits (by omega) (by rw [hz2]; simpa using hl))
        have hge := grownCap_ge w (xs.length + m) cap 5
        have hcm2 : grownCap w (xs.length + m) cap 5 ≤ maxLen := grownCap_le_maxLen w (xs.length + m) cap 5 (by unfold maxLen; omega)
        have he2 : encs (fun b : UInt8 => Value.int .u8 (b.toNat : Int)) (xs ++ ys) = encs (fun b : UInt8 => Value.int .u8 (b.toNat : Int)) xs ++ encs (fun b : UInt8 => Value.int .u8 (b.toNat : Int)) ys := by simp [encs]
        refine ⟨_, _, hr, .inr ⟨w.heap.size, _, _, (0, 0), by rw [List.length_append, hy], hbase, heap_alloc_new w.drew _, .inl rfl, by rw [List.length_append, hy]; exact hge, hcm2, ?_, ?_⟩, ⟨rfl, rfl, rfl, by simp, fun k hk _ => Below.heap_alloc w.drew _ k hk⟩, .inr ⟨w.heap.size, rfl, Nat.le_refl _⟩⟩
        · simp only [Array.size_append, List.size_toArray, size_zeroCells, encs_len, hy]
          show xs.length + m + (grownCap w (xs.length + m) cap 5 - (xs.length + m)) * 1 = _
          omega
        · rw [he2, List.length_append, hy]
          simp only [Array.toList_append, List.append_assoc]
          rw [← List.append_assoc, ← hlen, he2]
          exact List.take_left
theorem Ms.grown_other {w w1 : World} {base : Nat} {v : Value} {l : List UInt8} {row : Option Nat} (h : Ms w base v l) (hg : w.grownBy w1 row) (ha : ∀ k, v.ownBlock = some k → row ≠ some k) : Ms w1 base v l := by
  rcases h with h | ⟨g, cap, cur, fz, rfl, hb, hh, r⟩
  · exact .inl h
  · exact .inr ⟨g, cap, cur, fz, rfl, hb, (hg.block g (blk_lt hh) (fun e => ha g (by simp [Value.ownBlock]) e.symm)).trans hh, r⟩
set_option maxRecDepth 100000 in
theorem run_conv_ms (w : World) (l : List UInt8) (hl : l.length ≤ 140737488355328) : ∃ c W1, (convert 9 22 (.string (strOf l))).run Tryd.prog w = .ok (.slice (some ⟨w.heap.size, 0, none⟩) l.length c) W1 ∧ Ms W1 w.heap.size (.slice (some ⟨w.heap.size, 0, none⟩) l.length c) l ∧ Below w.heap.size w W1 := by
  have hr := run_bytes_of_string (P := Tryd.prog) w 9 22 5 (strOf l) Tryd.underlying9 Tryd.underlying22 Tryd.underlying5
  have hs : (strOf l).size = l.length := by simp [strOf, ByteArray.size]
  have hge := grownCap_ge w l.length 0 5
  have hcm : grownCap w l.length 0 5 ≤ maxLen := grownCap_le_maxLen w l.length 0 5 (by unfold maxLen; omega)
  rw [hs] at hr
  have hsz : (bytesRow (strOf l) (grownCap w l.length 0 5)).size = grownCap w l.length 0 5 := by
    have hd : (strOf l).data.size = l.length := by simp [strOf]
    rw [bytesRow, Array.size_append, Array.size_map, Array.size_replicate, hs, hd]
    omega
  refine ⟨_, _, hr, .inr ⟨w.heap.size, _, _, _, rfl, Nat.le_refl _, heap_alloc_new w.drew _, .inr ?_, hge, hcm, hsz, ?_⟩, below_alloc (below_drew (Below.refl _ _)) _⟩
  · exact Nat.le_refl _
  · simp [bytesRow, strOf, encs]
section
variable {ops : Array Oper} {rest : List Oper} {o : Oper} {a : Act} {Q : Exit → Act → World → Prop} {Kc : Act → World → Prop}
theorem at_conv_ {P : Program} {rest : List Oper} {a : Act} {w : World} {d : Option Tmp} {s t t2 : TypeId} {x : Operand} {p : String} {af : Array Edge} {g : Option (Nat × Bool)} (h : wpList P ops Q ({ dst := d, op := .convert s t x, type := t2, pos := p, after := af, guard := g } :: rest) a w) : wpList P ops Q ({ dst := d, op := .convert s t x, type := t2, pos := p, after := af, guard := g } :: rest) a w := h
/-- []byte(s) where the region goes by the text. -/
theorem wpList_conv_ms {w : World} (l : List UInt8) (x : Operand) (hgd : o.guard = none) (ho : o.op = .convert 9 22 x) (hx : a.eval x = .string (strOf l)) (hl : l.length ≤ 140737488355328)
    (h : ∀ (A : Option Addr) (c : Nat) (W1 : World), Aside0 (Ms W1 w.heap.size (.slice A l.length c) l) → Below w.heap.size w W1 → wpList Tryd.prog ops Q rest (a.put o.dst (.slice A l.length c)) W1) : wpList Tryd.prog ops Q (o :: rest) a w := by
  obtain ⟨c, W1, hr, hM, hb⟩ := run_conv_ms w l hl
  refine wpList_plain hgd fun K hK => ?_
  unfold Oper.wp execOp
  simp only [ho, hx, Sem.run_bind, Sem.run_pure, Result.andThen_ok, hr]
  exact hK _ _ (h _ c W1 ⟨hM⟩ hb)
theorem conv_ms_step {w : World} (l : List UInt8) (x : Operand) (hw : Region.wanted o (yielded ops a.tmps) = true) (ho : o.op = .convert 9 22 x) (hx : a.eval x = .string (strOf l)) (hl : l.length ≤ 140737488355328)
    (h : ∀ (A : Option Addr) (c : Nat) (W1 : World), Aside0 (Ms W1 w.heap.size (.slice A l.length c) l) → Below w.heap.size w W1 → Kc (a.put o.dst (.slice A l.length c)) W1) : if Region.wanted o (yielded ops a.tmps) = true then Oper.wp Tryd.prog o a w Kc Q else Kc (a.put o.dst undef) w := by
  obtain ⟨c, W1, hr, hM, hb⟩ := run_conv_ms w l hl
  rw [if_pos hw]
  unfold Oper.wp execOp
  simp only [ho, hx, Sem.run_bind, Sem.run_pure, Result.andThen_ok, hr]
  exact h _ c W1 ⟨hM⟩ hb
/-- append(v, ys...) onto such a row. -/
theorem app_ms {w0 W : World} (base : Nat) (hgd : o.guard = none) (s x : Operand)
    (ho : o.op = .call { callee := .builtin .append, args := #[s, x], argTypes := #[22, 22] })
    (v : Value) (xs ys : List UInt8) (A : Option Addr) (m c : Nat) (hs : a.eval s = v) (hx : a.eval x = .slice A m c)
    (HO : Ms W base v xs) (HR : Kb.C W A m ys) (HB : Below base w0 W) (hbase : base ≤ W.heap.size) (hl : xs.length + m ≤ 140737488355328)
    (h : ∀ (zs : List UInt8) (A1 : Option Addr) (c1 : Nat) (w1 : World), Aside0 (zs = xs ++ ys) → Aside0 (Ms w1 base (.slice A1 zs.length c1) zs) → Aside0 (Below base w0 w1) → Aside0 (base ≤ w1.heap.size) → Aside0 (W.grownBy w1 v.ownBlock) → wpList Tryd.prog ops Q rest (a.put o.dst (.slice A1 zs.length c1)) w1) :
    wpList Tryd.prog ops Q (o :: rest) a W := by
  obtain ⟨v', w', hr, hM, hg, _⟩ := run_app_ms base o.type v xs ys A m c HO HR hbase hl
  obtain ⟨A1, c1, rfl, _⟩ := hM.slice
  refine wpList_plain hgd fun K hK => ?_
  unfold Oper.wp execOp
  simp only [ho, resolve, invoke, builtin, Sem.run_bind, Sem.run_pure, Result.andThen_ok, List.map_toArray, List.map_cons, List.map_nil, hs, hx, hr]
  exact hK _ _ (h _ A1 c1 w' ⟨rfl⟩ ⟨hM⟩ ⟨HB.grown hg hbase (fun k hk => HO.ge k hk)⟩ ⟨Nat.le_trans hbase hg.size⟩ ⟨hg⟩)
theorem app_ms_step {w0 W : World} (base : Nat) (hw : Region.wanted o (yielded ops a.tmps) = true) (s x : Operand)
    (ho : o.op = .call { callee := .builtin .append, args := #[s, x], argTypes := #[22, 22] })
    (v : Value) (xs ys : List UInt8) (A : Option Addr) (m c : Nat) (hs : a.eval s = v) (hx : a.eval x = .slice A m c)
    (HO : Ms W base v xs) (HR : Kb.C W A m ys) (HB : Below base w0 W) (hbase : base ≤ W.heap.size) (hl : xs.length + m ≤ 140737488355328)
    (h : ∀ (zs : List UInt8) (A1 : Option Addr) (c1 : Nat) (w1 : World), Aside0 (zs = xs ++ ys) → Aside0 (Ms w1 base (.slice A1 zs.length c1) zs) → Aside0 (Below base w0 w1) → Aside0 (base ≤ w1.heap.size) → Aside0 (W.grownBy w1 v.ownBlock) → Kc (a.put o.dst (.slice A1 zs.length c1)) w1) :
    if Region.wanted o (yielded ops a.tmps) = true then Oper.wp Tryd.prog o a W Kc Q else Kc (a.put o.dst undef) W := by
  obtain ⟨v', w', hr, hM, hg, _⟩ := run_app_ms base o.type v xs ys A m c HO HR hbase hl
  obtain ⟨A1, c1, rfl, _⟩ := hM.slice
  rw [if_pos hw]
  unfold Oper.wp execOp
  simp only [ho, resolve, invoke, builtin, Sem.run_bind, Sem.run_pure, Result.andThen_ok, List.map_toArray, List.map_cons, List.map_nil, hs, hx, hr]
  exact h _ A1 c1 w' ⟨rfl⟩ ⟨hM⟩ ⟨HB.grown hg hbase (fun k hk => HO.ge k hk)⟩ ⟨Nat.le_trans hbase hg.size⟩ ⟨hg⟩
end
end Go.Proofs.YthmlidlnojdggaaDoor
