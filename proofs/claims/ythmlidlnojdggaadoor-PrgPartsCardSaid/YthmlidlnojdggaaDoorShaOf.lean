/- slices.Chunk's iterator, and sha.Of, by contracts. -/
import Derived.RangeFuncNested
import Derived.RangeFuncBound
import Derived.RangeFuncCalls
import Derived.RangeFuncLeaves
import Derived.RangeFuncBox
import Derived.RangeFuncFrom
import Derived.Shelf.Abstract
import Derived.WalkKit
import Derived.OwnWalkIn
import Derived.TacticsInMore
import Derived.LoopNIn
import Derived.LoopIn
import Derived.Sort.QuietIn
import Derived.Deep.MidRow
import Derived.Test.YthmlidlnojdggaaDoorShaPadded
set_option linter.unusedVariables false
set_option linter.unusedSimpArgs false
namespace Go.Proofs.YthmlidlnojdggaaDoor.Sha
open Go.RowKit Go.Proofs.YthmlidlnojdggaaDoorW.PrintWords Go.Proofs.YthmlidlnojdggaaDoorW.PrintLast
attribute [local go_sem] Oper.semAt_some

section
variable {P : Program} {F : Fence} {n : Nat} {ops : Array Oper} {rest : List Oper} {a : Act} {w : World} {Q : Exit → Act → World → Prop}
theorem ati_load_ {d : Option Tmp} {ty ty' : TypeId} {x : Operand} {p : String} {af : Array Edge} {g : Option (Nat × Bool)} (h : wpListIn F n P ops Q ({ dst := d, op := .load ty x, type := ty', pos := p, after := af, guard := g } :: rest) a w) : wpListIn F n P ops Q ({ dst := d, op := .load ty x, type := ty', pos := p, after := af, guard := g } :: rest) a w := h
theorem ati_store_ {d : Option Tmp} {ty ty' : TypeId} {x y : Operand} {p : String} {af : Array Edge} {g : Option (Nat × Bool)} (h : wpListIn F n P ops Q ({ dst := d, op := .store ty x y, type := ty', pos := p, after := af, guard := g } :: rest) a w) : wpListIn F n P ops Q ({ dst := d, op := .store ty x y, type := ty', pos := p, after := af, guard := g } :: rest) a w := h
theorem wpListIn_load_row {o : Oper} (hgd : o.guard = none) (ty : TypeId) (x : Operand) (ho : o.op = .load ty x) (g : Nat) (hx : a.eval x = .pointer (some ⟨g, 0, none⟩)) (t : TypeId) (cs : Array Value) (d : TypeDesc) (hg : Blk w g t cs)
    (hu : P.underlying ty = some d) (hd : (match d with | .struct _ | .array _ _ => true | _ => false) = true) (hi : (P.info? ty).map (·.size) = some cs.size)
    (h : wpListIn F n P ops Q rest (a.put o.dst (.agg cs)) w) : wpListIn F n P ops Q (o :: rest) a w := by
  refine wpListIn_plain hgd fun K hK => ?_
  unfold Oper.wpIn
  refine ⟨by simp [Oper.about, ho], ?_⟩
  rw [Oper.semAt_plain F _ _ (by rw [ho]; intro c hc; cases hc)]
  rw [exec_load_row ty x ho g t cs d hx hg hu hd hi]
  exact hK _ _ h
theorem wpListIn_store_row {o : Oper} (hgd : o.guard = none) (ty : TypeId) (x y : Operand) (ho : o.op = .store ty x y) (g : Nat) (cs old : Array Value) (t : TypeId) (hx : a.eval x = .pointer (some ⟨g, 0, none⟩)) (hy : a.eval y = .agg cs) (hg : Blk w g t old)
    (hi : (P.info? ty).map (·.size) = some cs.size) (hold : old.size = cs.size) (h1 : cs.all (·.oneCell') = true)
    (h : wpListIn F n P ops Q rest (a.put o.dst undef) (w.setRow g cs)) : wpListIn F n P ops Q (o :: rest) a w := by
  refine wpListIn_plain hgd fun K hK => ?_
  unfold Oper.wpIn
  refine ⟨by simp [Oper.about, ho], ?_⟩
  rw [Oper.semAt_plain F _ _ (by rw [ho]; intro c hc; cases hc)]
  rw [exec_store_row ty x y ho g t cs old hx hy hg hi hold h1]
  exact hK _ _ h
end
/-- Every block below D stands as it stood, but b. -/
def Stay (D b : Nat) (A B : World) : Prop := ∀ k, k < D → k ≠ b → B.heap[k]? = A.heap[k]?
theorem Stay.refl (D b : Nat) (A : World) : Stay D b A A := fun _ _ _ => rfl
theorem Stay.trans {D b : Nat} {A B C : World} (h : Stay D b A B) (k : Stay D b B C) : Stay D b A C := fun i h1 h2 => (k i h1 h2).trans (h i h1 h2)
theorem Stay.cell {D b : Nat} {A B : World} (h : Stay D b A B) (g i : Nat) (hg : g < D) (hb : g ≠ b) : B.cell? ⟨g, i, none⟩ = A.cell? ⟨g, i, none⟩ := by simp [World.cell?, h g hg hb]
theorem Stay.of_below {D b : Nat} {A B : World} (h : Below A.heap.size A B) (hD : D ≤ A.heap.size) : Stay D b A B := fun k hk _ => h.block k (by omega)
/-- The numbers ahead of k. -/
def ups (K k : Nat) : List (Fin K) := (List.ofFn (fun i : Fin K => i)).take k
theorem ups_succ (K k : Nat) (h : k < K) : ups K (k + 1) = ups K k ++ [⟨k, h⟩] := by
  unfold ups
  rw [List.take_succ_eq_append_getElem (by simpa using h), List.getElem_ofFn]
theorem ups_len (K k : Nat) (h : k ≤ K) : (ups K k).length = k := by
  unfold ups
  rw [List.length_take, List.length_ofFn]
  omega
set_option maxRecDepth 100000 in
set_option maxHeartbeats 4000000 in
theorem chunk1_in (n : Nat) (hn : 1 ≤ n) (l Bs Bn D b g K N cap : Nat) (hN : N = 64 * K) (hc : N ≤ cap) (hm : N ≤ 9223372036854775807) (hBs : Bs < D) (hBsb : Bs ≠ b) (hBn : Bn < D) (hBnb : Bn ≠ b) (J Jx : List (Fin K) → World → Prop) (B0 : Nat) (hJ : AbidesFrom B0 J)
    (hY : ∀ pre x W, J pre W → pre.length < K → YieldAt Fence.wide (n - 1) Tryd.prog l #[.slice (some ⟨g, 64 * x.val, none⟩) 64 64] W fun e W' =>
      (e = .returned (.bool true) ∧ J (pre ++ [x]) W' ∧ Stay D b W W') ∨ (e = .returned (.bool false) ∧ Jx (pre ++ [x]) W'))
    (W : World) (h1 : W.cell? ⟨Bs, 0, none⟩ = some (.slice (some ⟨g, 0, none⟩) N cap)) (h2 : W.cell? ⟨Bn, 0, none⟩ = some (.int .i64 64)) (h0 : J [] W) :
    CallsIn Fence.wide n Tryd.prog 81 #[.func (.yield l) #[] #[], .pointer (some ⟨Bs, 0, none⟩), .pointer (some ⟨Bn, 0, none⟩)] W fun e W' => (∃ v, e = .returned v) ∧
      ((∃ ys, ys = ups K K ∧ J ys W') ∨ (∃ pre, (∃ k, k ≤ K ∧ pre = ups K k) ∧ Jx pre W')) := by
  have HN := Aside0.mk hN
  have H2 := Aside0.mk h2
  clear hN
  refine callsIn_of_wp Tryd.func81 rfl trivial ?_ rfl
  simp only [Tryd.ntmps81, List.size_toArray, List.length_cons, List.length_nil, Nat.reduceAdd, Nat.reduceSub, Array.replicate_succ, Array.replicate_zero, List.push_toArray, List.append_toArray, List.nil_append, List.cons_append]
  gi_wp2
  gi_loopw [4, 5] (fun i _ wr => ∃ k m : Nat, k ≤ K ∧ Aside0 (m = 64 * k) ∧ i = .int .i64 m ∧ J (ups K k) wr ∧ Stay D b W wr) (fun i _ _ => N - (intOf i).toNat)
  case atStart => exact ⟨0, 0, Nat.zero_le _, ⟨rfl⟩, rfl, h0, Stay.refl _ _ _⟩
  case round =>
    obtain ⟨k, m, hk, HM, rfl, hJs, hS⟩ := hrel
    have c1 := (hS.cell Bs 0 hBs hBsb).trans h1
    have c2 := (hS.cell Bn 0 hBn hBnb).trans h2
    by_cases hlt : k < K
    · have e1 : m + 64 ≤ N := by have := HN.out; have := HM.out; omega
      have e2 : (m : Int) < (N : Int) := by omega
      have e3 : (m : Int) ≤ (N : Int) := by omega
      have e4 : ¬ cap = m := by omega
      have e6 : (m : Int) + 64 ≤ (cap : Int) := by omega
      have e7 : (m : Int) + 64 ≤ 9223372036854775807 := by omega
      have e5 : (0 : Int) ≤ (m : Int) := by omega
      have HJ := Aside0.mk hJs
      have HS := Aside0.mk hS
      have HA := Aside0.mk hJ
      have HY := Aside0.mk hY
      clear hJs hS h1 h2 hJ hY
      gi_wp2
      gi_quiet (fail)
      have hJq : J (ups K k) (wr.drewN nq) := HA.out _ _ _ none HJ.out ⟨rfl, rfl, rfl, Nat.le_refl _, fun _ _ _ => rfl⟩ (fun r e => by cases e)
      obtain ⟨fn, tmps, assign, body, hy, hR⟩ := HY.out _ ⟨k, hlt⟩ (wr.drewN nq) hJq (by rw [ups_len _ _ hk]; exact hlt)
      rw [show 64 * (⟨k, hlt⟩ : Fin K).val = m from HM.out.symm] at hy
      have HR := Aside0.mk hR
      clear hR hJq
      gi_wp2
      refine HR.out.mono ?_
      rintro e W3 (⟨rfl, hJ3, hk3⟩ | ⟨rfl, hJx3⟩)
      · have hS3 : Stay D b W W3 := (show Stay D b W (wr.drewN nq) from HS.out).trans hk3
        have c3 := (hS3.cell Bn 0 hBn hBnb).trans H2.out
        have HS3 := Aside0.mk hS3
        have HJ3 := Aside0.mk hJ3
        clear hS3 hk3 hJ3 hy c1 c2
        gi_wp2
        go_roundw
        case rel => exact ⟨k + 1, m + 64, by omega, ⟨by have := HM.out; omega⟩, by go_num, by rw [ups_succ _ _ hlt]; exact HJ3.out, HS3.out⟩
        case measure => simp [intOf]; omega
      · gi_wp2
        refine bodyPost_ret (results_none rfl _ _ _) rfl ?_
        exact ⟨⟨_, rfl⟩, .inr ⟨_, ⟨k + 1, by omega, (ups_succ _ _ hlt).symm⟩, hJx3⟩⟩
    · obtain rfl : k = K := by omega
      obtain rfl : m = N := by have := HN.out; have := HM.out; omega
      have HJ := Aside0.mk hJs
      clear hJs hS h1 h2 hJ hY hlt
      gi_wp2
      go_end0
      exact ⟨⟨_, rfl⟩, .inl ⟨_, rfl, HJ.out⟩⟩
/-- slices.Chunk(s, 64): the slice and the number are boxed. -/
theorem chunk_in (A : Option Addr) (N cap : Nat) (w : World) :
    Calls Tryd.prog 51 #[.slice A N cap, .int .i64 64] w fun e w' => e = .returned (.func (.func 81) #[] #[.pointer (some ⟨w.heap.size, 0, none⟩), .pointer (some ⟨w.heap.size + 1, 0, none⟩)]) ∧ w' = (w.alloc (.cells #[.slice A N cap] 22)).alloc (.cells #[.int .i64 64] 3) := by
  go_enter Tryd.func51, Tryd.ntmps51
  go_wp2
  go_ret
  exact ⟨rfl, rfl⟩
theorem chunk_stops (n : Nat) (hn : 1 ≤ n) (Bs Bn D b g K N cap : Nat) (hN : N = 64 * K) (hc : N ≤ cap) (hm : N ≤ 9223372036854775807) (hBs : Bs < D) (hBsb : Bs ≠ b) (hBn : Bn < D) (hBnb : Bn ≠ b) (w : World) (hD : D ≤ w.heap.size)
    (h1 : w.cell? ⟨Bs, 0, none⟩ = some (.slice (some ⟨g, 0, none⟩) N cap)) (h2 : w.cell? ⟨Bn, 0, none⟩ = some (.int .i64 64)) :
    SeqStopsK Fence.wide n Tryd.prog 81 #[.pointer (some ⟨Bs, 0, none⟩), .pointer (some ⟨Bn, 0, none⟩)] (fun x : Fin K => #[.slice (some ⟨g, 64 * x.val, none⟩) 64 64]) (Stay D b) (fun ys => ys = ups K K) (fun pre => ∃ k, k ≤ K ∧ pre = ups K k) K w := fun l J Jx W hW hJ _ hY h0 =>
  chunk1_in n hn l Bs Bn D b g K N cap hN hc hm hBs hBsb hBn hBnb J Jx W.heap.size hJ hY W ((hW.cell (p := ⟨Bs, 0, none⟩) (by show Bs < _; omega)).trans h1) ((hW.cell (p := ⟨Bn, 0, none⟩) (by show Bn < _; omega)).trans h2) h0
/-- The state behind k blocks. -/
def blocks (s : St) (l : List UInt8) : Nat → St
  | 0 => s
  | k + 1 => behind (blocks s l k) ((l.drop (64 * k)).take 64)
theorem blocks_drop (l : List UInt8) : ∀ (k : Nat) (s : St), blocks (behind s (l.take 64)) (l.drop 64) k = blocks s l (k + 1)
  | 0, s => rfl
  | k + 1, s => by
    rw [blocks, blocks_drop l k s, List.drop_drop, show 64 + 64 * k = 64 * (k + 1) by omega]
    rfl
theorem run_blocks : ∀ (k : Nat) (s : St) (l : List UInt8), run k s l = blocks s l k
  | 0, _, _ => rfl
  | k + 1, s, l => by rw [run, run_blocks k, blocks_drop]
theorem ownFrom_st {β : Type} {b B0 : Nat} {w w4 : World} {f : β → List Wd} {T : TypeId} (hb : b < w4.heap.size) (hB : B0 = w.heap.size ∧ B0 ≤ w4.heap.size) :
    OwnFrom w4.heap.size (fun pre W => Blk W b T (e32 (f pre)) ∧ Stay w4.heap.size b w4 W ∧ Below w.heap.size w W) := fun s W W' row ⟨h1, h2, h3⟩ hg hr => by
  have hne : ∀ k, k < w4.heap.size → some k ≠ row := fun k hk e => by have := (hr k e.symm).1; omega
  refine ⟨(hg.block b (blk_lt h1) (hne b hb)).trans h1, fun k hk hkb => ?_, pw_below_grown h3 row h3.size hg (fun k e => by have := (hr k e).1; omega)⟩
  have h4 := h2 k hk hkb
  have hlt : k < W.heap.size := by
    rcases Nat.lt_or_ge k W.heap.size with h | h
    · exact h
    · rw [Array.getElem?_eq_none h, Array.getElem?_eq_getElem hk] at h4
      cases h4
  exact (hg.block k hlt (hne k hk)).trans h4
def folded (l : List UInt8) (K : Nat) (pre : List (Fin K)) : St := pre.foldl (fun s x => behind s ((l.drop (64 * x.val)).take 64)) st0
theorem folded_ups (l : List UInt8) (K : Nat) : ∀ k, k ≤ K → folded l K (ups K k) = blocks st0 l k
  | 0, _ => rfl
  | k + 1, h => by
    have := folded_ups l K k (by omega)
    unfold folded at this ⊢
    rw [ups_succ K k h, List.foldl_append, this]
    rfl
theorem stay_size {D b : Nat} {A W : World} (h : Stay D b A W) (hD : D ≤ A.heap.size) (hb : b + 1 < D) : D ≤ W.heap.size := by
  have h4 := h (D - 1) (by omega) (by omega)
  rcases Nat.lt_or_ge (D - 1) W.heap.size with h' | h'
  · omega
  · rw [Array.getElem?_eq_none h', Array.getElem?_eq_getElem (by omega)] at h4
    cases h4
def outs (q : St) (t : Nat) : List UInt8 := q.bytes.take (4 * t) ++ List.replicate (32 - 4 * t) 0
theorem outs_len (q : St) (t : Nat) (h : t ≤ 8) : (outs q t).length = 32 := by
  rw [outs, List.length_append, List.length_take, List.length_replicate, bytes_len]
  omega
theorem outs_set (q : St) (t : Nat) (h : t < 8) : ((((outs q t).set (4 * t) (byte (q.list.getD t 0).toNat 24)).set (4 * t + 1) (byte (q.list.getD t 0).toNat 16)).set (4 * t + 2) (byte (q.list.getD t 0).toNat 8)).set (4 * t + 3) (byte (q.list.getD t 0).toNat 0) = outs q (t + 1) := by
  rcases (show t = 0 ∨ t = 1 ∨ t = 2 ∨ t = 3 ∨ t = 4 ∨ t = 5 ∨ t = 6 ∨ t = 7 by omega) with rfl | rfl | rfl | rfl | rfl | rfl | rfl | rfl <;> rfl
theorem b24 (x : Wd) : (x.toNat : Int) / 16777216 = ((byte x.toNat 24).toNat : Int) := by
  have h := byte_int x.toNat 24
  have := x.isLt
  rw [h]
  show _ = (x.toNat : Int) / 16777216 % 256
  omega
theorem b16 (x : Wd) : (x.toNat : Int) / 65536 % 256 = ((byte x.toNat 16).toNat : Int) := (byte_int x.toNat 16).symm
theorem b8 (x : Wd) : (x.toNat : Int) / 256 % 256 = ((byte x.toNat 8).toNat : Int) := (byte_int x.toNat 8).symm
theorem b0 (x : Wd) : (x.toNat : Int) % 256 = ((byte x.toNat 0).toNat : Int) := by rw [byte_int, Int.pow_zero, Int.ediv_one]
theorem st_len (s : St) : s.list.length = 8 := rfl
theorem chunk_C {W : World} {g N : Nat} {l : List UInt8} {k : Nat} (h : Kb.C W (some ⟨g, 0, none⟩) N l) (hk : 64 * k + 64 ≤ N) (hl : l.length = N) : Kb.C W (some ⟨g, 64 * k, none⟩) 64 ((l.drop (64 * k)).take 64) := by
  have h0 := Kd.reads_of_C (d := (0 : UInt8)) h
  refine Kd.C_of_reads (d := (0 : UInt8)) ⟨by rw [List.length_take, List.length_drop]; omega, by omega, fun _ => ⟨_, rfl, fun j hj => ?_⟩⟩
  obtain ⟨ad, e, h⟩ := h0.2.2 (by omega)
  injection e with e
  subst e
  have := h (64 * k + j) (by omega)
  rw [add_plain] at this
  rw [Addr.add_mid, this]
  simp only [List.getD_eq_getElem?_getD, List.getElem?_take, List.getElem?_drop]
  rw [if_pos hj]
set_option maxRecDepth 100000 in
set_option maxHeartbeats 4000000 in
theorem Of_calls (A : Option Addr) (c n : Nat) (l : List UInt8) (w : World) (hn : l.length = n) (hr : Kb.C w A n l) (hl : n ≤ 140737488000000) :
    Calls Tryd.prog 14 #[.slice A n c] w fun e w' => e = .returned (.agg (e8 (sum l))) ∧ Below w.heap.size w w' := by
  have HR := Aside0.mk hr
  have HN := Aside0.mk hn
  clear hr hn
  refine (callsIn_wide (n := 5)).1 ?_
  refine callsIn_of_wp_marks Tryd.func14 rfl trivial ?_ rfl
  simp only [Tryd.ntmps14, List.size_toArray, List.length_cons, List.length_nil, Nat.reduceAdd, Nat.reduceSub, Array.replicate_succ, Array.replicate_zero, List.push_toArray, List.append_toArray, List.nil_append, List.cons_append]
  gi_wp2_with (first
    | (refine ⟨trivial, ?_⟩; gi_at_call 49; refine (callsIn_wide.2 (begun_calls _)).mono ?_; rintro e w1 ⟨rfl, hb1⟩; have hz1 : w.heap.size + 1 ≤ w1.heap.size := (by have := hb1.size; simpa using this); have HO1 := Aside0.mk (blk_below (blk_new w _) hb1); replace hb1 := Aside0.mk (below_then (below_new _) (by simp) hb1))
    | (refine ⟨trivial, ?_⟩; gi_at_call 50; refine (callsIn_wide.2 (numbers_calls _)).mono ?_; rintro e w2 ⟨rfl, hb2⟩; have hz2 : w.heap.size + 1 ≤ w2.heap.size := (by have := hb2.size; omega); have HO2 := Aside0.mk (blk_below HO1.out hb2); replace hb2 := Aside0.mk (below_then hb1.out (by omega) hb2))
    | ((with_reducible refine ati_store_ (x := .tmp 3) ?_); (refine wpListIn_store_row rfl 90 _ _ rfl w2.heap.size (e32 st0.list) _ 90 rfl rfl (blk_alloc (blk_new _ _) _) (sz8 _) (by rw [e32_size]; rfl) (e32_one _) ?_))
    | ((with_reducible refine ati_store_ (x := .tmp 4) ?_); (refine wpListIn_store_row rfl 92 _ _ rfl (w2.heap.size + 1) (e32 kt) _ 92 rfl rfl (blk_setRow_far (blk_new1 _ _ _ _) (by omega) _) (by rw [e32_size]; kernel_rfl) (by rw [e32_size]; rfl) (e32_one _) ?_))
    | (refine ⟨trivial, ?_⟩; gi_at_call 52; refine (callsIn_wide.2 (padded_calls A c n l _ HN.out (Kd.C_below HR.out (below_setRow (below_setRow (below_alloc (below_alloc hb2.out _) _) (by omega) _) (by omega) _)) hl)).mono ?_; rintro e w3 ⟨A3, c3, rfl, hB3, hb3⟩; replace hB3 := Aside0.mk hB3; replace hb3 := Aside0.mk hb3))
  obtain ⟨N, hN⟩ : ∃ N, N = (padded l).length := ⟨_, rfl⟩
  obtain ⟨K, hK1, hK2⟩ := padded_len l
  have hNb : N ≤ 140737488000200 ∧ 0 < N := by have := noughts_lt l.length; have := HN.out; omega
  have hNK : N = 64 * K := by omega
  rw [← hN] at hB3 ⊢
  obtain ⟨g, hA3, hg1, hg2⟩ := hB3.out.form hNb.2
  subst hA3
  have hg1 : w2.heap.size + 2 ≤ g := by simpa using hg1
  have hz3 : w2.heap.size + 2 ≤ w3.heap.size := by have := hb3.out.size; simpa using this
  obtain ⟨HC3, -, hcap⟩ := hB3.out.read
  have HS3 := Aside0.mk (blk_below (blk_setRow_far (blk_setRow (blk_alloc (blk_new w2 _) _) _) (by omega) _) hb3.out)
  have HK3 := Aside0.mk (blk_below (blk_setRow (blk_setRow_far (blk_new1 w2 _ _ _) (by omega) _) _) hb3.out)
  refine ⟨trivial, (callsIn_wide.2 (chunk_in _ _ _ _)).mono ?_⟩
  rintro e w4 ⟨rfl, hw4⟩
  have hz4 : w4.heap.size = w3.heap.size + 2 := by rw [hw4]; simp
  have HS4 : Blk w4 w2.heap.size 90 (e32 st0.list) := by rw [hw4]; exact blk_alloc (blk_alloc HS3.out _) _
  have HK4 : Blk w4 (w2.heap.size + 1) 92 (e32 kt) := by rw [hw4]; exact blk_alloc (blk_alloc HK3.out _) _
  have HC4 : Kb.C w4 (some ⟨g, 0, none⟩) N (padded l) := by rw [hw4]; exact Kd.C_alloc (Kd.C_alloc HC3 _) _
  have HO4 : Blk w4 w.heap.size 24 (e8 (List.replicate 32 0)) := by
    rw [hw4]
    exact blk_alloc (blk_alloc (blk_below (blk_setRow_far (blk_setRow_far (blk_alloc (blk_alloc HO2.out _) _) (by omega) _) (by omega) _) hb3.out) _) _
  have HW4 : Below w.heap.size w w4 := by
    rw [hw4]
    exact below_alloc (below_alloc (below_then (below_setRow (below_setRow (below_alloc (below_alloc hb2.out _) _) (by omega) _) (by omega) _) (by simp; omega) hb3.out) _) _
  have c1 : w4.cell? ⟨w3.heap.size, 0, none⟩ = some (.slice (some ⟨g, 0, none⟩) N c3) := by rw [hw4]; exact blk_cell (blk_alloc (blk_new w3 _) _) 0
  have c2 : w4.cell? ⟨w3.heap.size + 1, 0, none⟩ = some (.int .i64 64) := by rw [hw4]; exact blk_cell (blk_new1 w3 _ _ _) 0
  have HF := Aside0.mk (⟨HS4, HK4, HC4, HO4, HW4⟩ : Blk w4 w2.heap.size 90 (e32 st0.list) ∧ Blk w4 (w2.heap.size + 1) 92 (e32 kt) ∧ Kb.C w4 (some ⟨g, 0, none⟩) N (padded l) ∧ Blk w4 w.heap.size 24 (e8 (List.replicate 32 0)) ∧ Below w.heap.size w w4)
  have HC := Aside0.mk (And.intro c1 c2)
  have HZ4 := Aside0.mk hz4
  have HNN := Aside0.mk hN
  have HNK := Aside0.mk hNK
  have hzz : w3.heap.size + 2 ≤ w4.heap.size := by omega
  clear HS4 HK4 HC4 HO4 HW4 c1 c2 hw4 hz4 hN hNK hK1 hK2 HS3 HK3 HC3 HO2 hb1 hb2 hb3 hB3
  gi_wp2
  refine wpIn_rangeFunc_ownF rfl (by omega) (gf := 81) (lb := #[.pointer (some ⟨w3.heap.size, 0, none⟩), .pointer (some ⟨w3.heap.size + 1, 0, none⟩)]) rfl trivial (enters_of Tryd.func81 (by kernel_rfl) rfl)
    (chunk_stops _ (by omega) w3.heap.size (w3.heap.size + 1) w4.heap.size w2.heap.size g K N c3 HNK.out hcap (by omega) (by omega) (by omega) (by omega) (by omega) w4 (Nat.le_refl _) HC.out.1 HC.out.2)
    Stay.trans (fun W l o o' hl h _ _ k hk _ => World.putObj_heap_other (by omega)) (Below.refl _ _) (fun _ => rfl)
    (fun pre W => Blk W w2.heap.size 90 (e32 (folded (padded l) K pre).list) ∧ Stay w4.heap.size w2.heap.size w4 W ∧ Below w.heap.size w W)
    (fun _ _ _ => False) (ownFrom_st (B0 := w.heap.size) (by omega) ⟨rfl, by omega⟩) (fun _ _ _ _ _ hs _ _ => hs) ⟨HF.out.1, Stay.refl _ _ _, HF.out.2.2.2.2⟩
    (fun x => { tmps := #[.slice A n c, undef, .pointer (some ⟨w.heap.size, 0, none⟩), .pointer (some ⟨w2.heap.size, 0, none⟩), .pointer (some ⟨w2.heap.size + 1, 0, none⟩), .slice (some ⟨g, 64 * x.val, none⟩) 64 64, undef, undef, undef, .agg (e32 st0.list), .agg (e32 kt), .slice A n c, .slice (some ⟨g, 0, none⟩) N c3, .func (.func 81) #[] #[.pointer (some ⟨w3.heap.size, 0, none⟩), .pointer (some ⟨w3.heap.size + 1, 0, none⟩)], .slice (some ⟨g, 64 * x.val, none⟩) 64 64, undef, undef, undef, undef, undef, undef, undef, undef, undef, undef, undef, undef, undef, undef, undef, undef, undef, undef, undef, undef, undef, undef, undef, undef, undef, undef, undef, undef, undef, undef, undef, undef, undef, undef, undef, undef, undef], defers := [] }) ?assign ?body ?done ?stop
  case assign =>
    intro l x W K hK
    gi_wp2
    exact hK
  case stop =>
    rintro D c pre W _ _ h _
    exact h.elim
  case body =>
    rintro lb pre x W ⟨hS, hT, hB⟩ hlen
    have hK : Blk W (w2.heap.size + 1) 92 (e32 kt) := (hT _ (by omega) (by omega)).trans HF.out.2.1
    have hC : Kb.C W (some ⟨g, 64 * x.val, none⟩) 64 (((padded l).drop (64 * x.val)).take 64) := by
      have h1 : Kb.C W (some ⟨g, 0, none⟩) N (padded l) := by
        have h0 := Kd.reads_of_C (d := (0 : UInt8)) HF.out.2.2.1
        refine Kd.C_of_reads (d := (0 : UInt8)) ⟨h0.1, h0.2.1, fun hp => ?_⟩
        obtain ⟨ad, e, h⟩ := h0.2.2 hp
        injection e with e
        subst e
        refine ⟨_, rfl, fun j hj => ?_⟩
        rw [add_plain, hT.cell g j (by omega) (by omega), ← add_plain]
        exact h j hj
      exact chunk_C h1 (by have := x.isLt; have := HNK.out; omega) (HNN.out.symm)
    have hl64 : (((padded l).drop (64 * x.val)).take 64).length = 64 := by
      rw [List.length_take, List.length_drop, ← HNN.out]
      have := x.isLt
      have := HNK.out
      omega
    obtain ⟨q, hq⟩ : ∃ q, q = folded (padded l) K pre := ⟨_, rfl⟩
    rw [← hq] at hS
    have HB := Aside0.mk (behind_calls q (some ⟨g, 64 * x.val, none⟩) 64 _ W hC hl64 (Nat.le_refl _))
    have HQ := Aside0.mk (show folded (padded l) K (pre ++ [x]) = behind q (((padded l).drop (64 * x.val)).take 64) by rw [hq]; simp [folded])
    have HS := Aside0.mk hS
    have HK := Aside0.mk hK
    have HT := Aside0.mk hT
    have HBW := Aside0.mk hB
    have HBS := Aside0.mk (stay_size hT (Nat.le_refl _) (by omega))
    clear hS hK hT hB hC hl64 hq
    gi_wp2_with (first
      | ((with_reducible refine ati_load_ (x := .tmp 3) ?_); (refine wpListIn_load_row rfl 90 _ rfl w2.heap.size rfl 90 (e32 q.list) _ HS.out Tryd.underlying90 rfl (sz8 _) ?_))
      | ((with_reducible refine ati_load_ (x := .tmp 4) ?_); (refine wpListIn_load_row rfl 92 _ rfl (w2.heap.size + 1) rfl 92 (e32 kt) _ HK.out Tryd.underlying92 rfl (by rw [e32_size]; kernel_rfl) ?_))
      | (refine ⟨trivial, ?_⟩; gi_at_call 53; refine (CallsIn.inRound lb (callsIn_wide.2 HB.out)).mono ?_; rintro e W2 ⟨rfl, hb⟩; replace hb := Aside0.mk hb)
      | ((with_reducible refine ati_store_ (x := .tmp 3) ?_); (refine wpListIn_store_row rfl 90 _ _ rfl w2.heap.size (e32 (behind q (((padded l).drop (64 * x.val)).take 64)).list) _ 90 rfl rfl (blk_below HS.out hb.out) (sz8 _) (by rw [e32_size, e32_size, st_len, st_len]) (e32_one _) ?_)))
    have hsz := hb.out.size
    refine ⟨(KeepsOthers.of_grownBy (grown_of_below hb.out none) (fun j o e => by cases e)).trans (KeepsOthers.of_grownBy (row := some w2.heap.size) ⟨rfl, rfl, rfl, by simp, fun k _ hk => setRow_other _ _ _ _ (fun e => hk (by rw [e]))⟩ (fun j o e ho => ?_)), ?_, ?_, ?_, ?_⟩
    · injection e with e
      subst e
      rw [blk_below HS.out hb.out] at ho
      injection ho with ho
      subst ho
      rfl
    · intro k hk hkb
      exact (setRow_other _ _ _ _ hkb).trans (hb.out.block k (by have := blk_lt HK.out; have := HBS.out; omega))
    · rw [HQ.out]
      exact blk_setRow (blk_below HS.out hb.out) _
    · intro k hk hkb
      exact ((setRow_other _ _ _ _ hkb).trans (hb.out.block k (by have := HBS.out; omega))).trans (HT.out k hk hkb)
    · exact below_setRow (below_then HBW.out HBW.out.size hb.out) (by omega) _
  case done =>
    rintro D ys W hD rfl ⟨hS, hT, hB⟩ hK
    have HBS := Aside0.mk (stay_size hT (Nat.le_refl _) (by omega))
    have HO := Aside0.mk ((hT _ (by omega) (by omega)).trans HF.out.2.2.2.1)
    rw [folded_ups _ K K (Nat.le_refl _)] at hS
    obtain ⟨q, hq⟩ : ∃ q, q = blocks st0 (padded l) K := ⟨_, rfl⟩
    rw [← hq] at hS
    have HQ := Aside0.mk (show sum l = q.bytes by rw [sum, ← HNN.out, HNK.out, Nat.mul_div_cancel_left _ (by decide), run_blocks, hq])
    have HS := Aside0.mk hS
    have HB := Aside0.mk hB
    have HK := Aside0.mk hK
    have hDW : D < W.heap.size := blk_lt hK
    have hbW : w2.heap.size < W.heap.size := blk_lt hS
    have hwW : w.heap.size < W.heap.size := by omega
    clear hS hT hB hK hq
    gi_wp2_with ((with_reducible refine ati_load_ (x := .tmp 3) ?_); (refine wpListIn_load_row rfl 90 _ rfl w2.heap.size rfl 90 (e32 q.list) _ (blk_alloc HS.out _) Tryd.underlying90 rfl (sz8 _) ?_))
    gi_loopw [7, 8, 20] (fun _ _ i wr => ∃ t : Nat, t ≤ 8 ∧ i = .int .i64 t ∧ Aside0 (Blk wr W.heap.size 24 (e8 (outs q t))) ∧ Aside0 (Blk wr w.heap.size 24 (e8 (List.replicate 32 0))) ∧ Aside0 (wr.heap[D]? = some (.deferred (some []))) ∧ Aside0 (Below w.heap.size w wr)) (fun _ _ i _ => 8 - (intOf i).toNat)
    case atStart => exact ⟨0, Nat.zero_le _, rfl, ⟨blk_new _ _⟩, ⟨blk_alloc HO.out _⟩, ⟨(Below.heap_alloc _ _ _ hDW).trans HK.out⟩, ⟨below_alloc HB.out _⟩⟩
    case round =>
      obtain ⟨t, ht, rfl, HU, HO, HK, HB⟩ := hrel
      by_cases hlt : t < 8
      · obtain ⟨x, hx⟩ : ∃ x, x = q.list.getD t 0 := ⟨_, rfl⟩
        have hix := run_index_row (P := Tryd.prog) Tryd.underlying90 Tryd.isAgg52 Tryd.sizeOf52 (e32 q.list) .i64 t (.int .u32 (x.toNat : Int)) hlt (by rw [e32_get _ _ (by rw [st_len]; exact hlt), hx])
        have HX := Aside0.mk (show _ = outs q (t + 1) from hx ▸ outs_set q t hlt)
        have hl : (outs q t).length = 32 := outs_len q t ht
        have u0 := blk8 HU.out (4 * t) (by omega)
        have u1 := blk8 HU.out (4 * t + 1) (by omega)
        have u2 := blk8 HU.out (4 * t + 2) (by omega)
        have u3 := blk8 HU.out (4 * t + 3) (by omega)
        have v0 := blk_frozen HU.out (4 * t)
        have v1 := blk_frozen HU.out (4 * t + 1)
        have v2 := blk_frozen HU.out (4 * t + 2)
        have v3 := blk_frozen HU.out (4 * t + 3)
        have h8 : (t : Int) < 8 := by omega
        have b3 : 4 * (t : Int) + 3 < 32 := by omega
        clear hl hx
        gi_wp2
        go_roundw
        case rel => 
          refine ⟨t + 1, by omega, by go_num, ⟨?_⟩, ⟨?_⟩, ⟨?_⟩, ⟨?_⟩⟩
          · have := blk8_set (blk8_set (blk8_set (blk8_set HU.out (4 * t) _ _ (b24 x)) (4 * t + 1) _ _ (b16 x)) (4 * t + 2) _ _ (b8 x)) (4 * t + 3) _ _ (b0 x)
            rw [HX.out] at this
            exact this
          · exact blk_far (blk_far (blk_far (blk_far HO.out (by show w.heap.size ≠ W.heap.size; omega) _) (by show w.heap.size ≠ W.heap.size; omega) _) (by show w.heap.size ≠ W.heap.size; omega) _) (by show w.heap.size ≠ W.heap.size; omega) _
          · exact (Below.heap_setCell _ ⟨W.heap.size, _, none⟩ _ D (by show D ≠ W.heap.size; omega)).trans ((Below.heap_setCell _ ⟨W.heap.size, _, none⟩ _ D (by show D ≠ W.heap.size; omega)).trans ((Below.heap_setCell _ ⟨W.heap.size, _, none⟩ _ D (by show D ≠ W.heap.size; omega)).trans ((Below.heap_setCell _ ⟨W.heap.size, _, none⟩ _ D (by show D ≠ W.heap.size; omega)).trans HK.out)))
          · exact (((HB.out.setCell (by show w.heap.size ≤ W.heap.size; omega) _).setCell (by show w.heap.size ≤ W.heap.size; omega) _).setCell (by show w.heap.size ≤ W.heap.size; omega) _).setCell (by show w.heap.size ≤ W.heap.size; omega) _
        case measure => simp [intOf]; omega
      · obtain rfl : t = 8 := by omega
        clear hlt
        have HU' := Aside0.mk (show Blk _ W.heap.size 24 (e8 (sum l)) by rw [HQ.out]; exact HU.out)
        have HZ := Aside0.mk (show (Tryd.prog.info? 24).map (·.size) = some (e8 (sum l)).size by rw [e8_size, sum_len]; kernel_rfl)
        gi_wp2_with (first
          | ((with_reducible refine ati_load_ (x := .tmp 6) ?_); (refine wpListIn_load_row rfl 24 _ rfl W.heap.size rfl 24 (e8 (sum l)) _ HU'.out Tryd.underlying24 rfl HZ.out ?_))
          | ((with_reducible refine ati_store_ (x := .tmp 2) ?_); (refine wpListIn_store_row rfl 24 _ _ rfl w.heap.size (e8 (sum l)) _ 24 rfl rfl HO.out HZ.out (by rw [e8_size, e8_size, sum_len]; rfl) (e8_one _) ?_)))
        have HD := Aside0.mk ((setRow_other _ w.heap.size D (e8 (sum l)) (by omega)).trans HK.out)
        refine ⟨by simp, .inl ⟨_, _, rfl, run_takeDeferred HD.out, ?_⟩⟩
        refine ⟨_, results_cell_row (p := 2) (ty := 24) rfl _ _ w.heap.size 24 (e8 (sum l)) (0, 0) _ rfl ?_ Tryd.underlying24 rfl HZ.out, rfl, ?_⟩
        · exact (World.putObj_heap_other (by omega)).trans (blk_setRow HO.out _)
        · exact (below_setRow HB.out (Nat.le_refl _) _).trans (belowK_b (w := w) (Nat.le_refl _) _ D _ _ (by omega) HD.out rfl rfl)
end Go.Proofs.YthmlidlnojdggaaDoor.Sha
