/- The document's Of by a contract. -/
import Derived.Test.YthmlidlnojdggaaDoorShaRefPad
import Derived.Deep.RegionHeld3
set_option linter.unusedVariables false
set_option linter.unusedSimpArgs false
namespace Go.Proofs.YthmlidlnojdggaaDoor.Sha
open Go.RowKit Go.Proofs.YthmlidlnojdggaaDoorW.PrintWords Go.Proofs.YthmlidlnojdggaaDoorW.PrintLast

theorem sums_cons (x : Wd) (l : List Wd) : sums (x :: l) = x.toNat + sums l := by
  suffices h : ∀ (l : List Wd) (n : Nat), l.foldl (fun n x => n + x.toNat) n = n + l.foldl (fun n x => n + x.toNat) 0 by
    unfold sums
    rw [List.foldl_cons, h l (0 + x.toNat), Nat.zero_add]
  intro l
  induction l with
  | nil => intro n; simp
  | cons y l ih =>
    intro n
    rw [List.foldl_cons, List.foldl_cons, ih (n + y.toNat), ih (0 + y.toNat)]
    omega
theorem addW_cons (x : Wd) (l : List Wd) : addW (x :: l) = x + addW l := by
  apply BitVec.eq_of_toNat_eq
  rw [addW, addW, sums_cons, BitVec.toNat_add, BitVec.toNat_ofNat, BitVec.toNat_ofNat]
  omega
theorem addW_one (x : Wd) : addW [x] = x := by
  rw [addW_cons]
  exact BitVec.add_zero x
theorem addW2 (a b : Wd) : addW [a, b] = a + b := by rw [addW_cons, addW_one]
theorem addW4 (a b c d : Wd) : addW [a, b, c, d] = a + b + c + d := by rw [addW_cons, addW_cons, addW2, BitVec.add_assoc, BitVec.add_assoc]
theorem addW5 (a b c d e : Wd) : addW [a, b, c, d, e] = a + b + c + d + e := by rw [addW_cons, addW4, ← BitVec.add_assoc, ← BitVec.add_assoc, ← BitVec.add_assoc]
theorem rotr_b (x : Wd) (n : Int) (m : Nat) (hn : n = (m : Int)) (h1 : 1 ≤ m) (h2 : m ≤ 31) (w : World) :
    Calls Tryd.prog 57 #[.int .u32 (x.toNat : Int), .int .i64 n] w fun e w' => e = .returned (.int .u32 ((turn x m).toNat : Int)) ∧ Below w.heap.size w w' :=
  (rotr_v x n m hn h1 h2 w).mono fun e w' ⟨he, d, hd⟩ => ⟨he, by rw [hd]; exact pw_below_drewN (Below.refl _ _) d⟩
theorem blk_C32 {W : World} {g : Nat} {t : TypeId} {l : List Wd} (h : Blk W g t (e32 l)) (n : Nat) (hn : l.length = n) (hb : n ≤ 9223372036854775807) : K32.C W (some ⟨g, 0, none⟩) n l := by
  subst hn
  refine Kd.C_of_reads (d := (0 : Wd)) ⟨rfl, hb, fun _ => ⟨_, rfl, fun j hj => ?_⟩⟩
  rw [add_plain]
  exact blk32 h j hj
theorem st_cells {W : World} {b : Nat} {r : St} (h : K32.C W (some ⟨b, 0, none⟩) 8 r.list) : W.cell? ⟨b, 0, none⟩ = some (.int .u32 (r.a.toNat : Int)) ∧ W.cell? ⟨b, 1, none⟩ = some (.int .u32 (r.b.toNat : Int)) ∧ W.cell? ⟨b, 2, none⟩ = some (.int .u32 (r.c.toNat : Int)) ∧ W.cell? ⟨b, 3, none⟩ = some (.int .u32 (r.d.toNat : Int)) ∧
    W.cell? ⟨b, 4, none⟩ = some (.int .u32 (r.e.toNat : Int)) ∧ W.cell? ⟨b, 5, none⟩ = some (.int .u32 (r.f.toNat : Int)) ∧ W.cell? ⟨b, 6, none⟩ = some (.int .u32 (r.g.toNat : Int)) ∧ W.cell? ⟨b, 7, none⟩ = some (.int .u32 (r.h.toNat : Int)) := by
  have key : ∀ j, j < 8 → W.cell? ⟨b, j, none⟩ = some (.int .u32 ((r.list.getD j 0).toNat : Int)) := fun j hj => by
    obtain ⟨ad, e, hc⟩ := at_wn h j hj
    injection e with e
    subst e
    rwa [add_plain] at hc
  exact ⟨key 0 (by decide), key 1 (by decide), key 2 (by decide), key 3 (by decide), key 4 (by decide), key 5 (by decide), key 6 (by decide), key 7 (by decide)⟩
/-- A row in a block that lay ahead. -/
theorem Ws.far {W W1 : World} {base g7 n c B : Nat} {l : List W32} (h : Ws W base (.slice (some ⟨g7, 0, none⟩) n c) l) (hg : W.grownBy W1 (some B)) (hB : g7 ≠ B) : K32.C W1 (some ⟨g7, 0, none⟩) n l :=
  (Ws.read (Kd.R_mono (Kd.R_grown (ok := fun k => k ≠ B) ⟨fun k hk => by cases hk; exact hB, h.2⟩ hg (fun k hk e => hk (Option.some.inj e))) (fun _ _ => trivial))).1
theorem or_xor (e f g : Wd) : (e &&& f) ||| (~~~ e &&& g) = e &&& f ^^^ ~~~ e &&& g := by
  apply BitVec.eq_of_getLsbD_eq
  intro i hi
  simp only [BitVec.getLsbD_or, BitVec.getLsbD_xor, BitVec.getLsbD_and, BitVec.getLsbD_not]
  cases e.getLsbD i <;> cases f.getLsbD i <;> cases g.getLsbD i <;> simp [hi]
theorem maj_or (a b c : Wd) : (a &&& b) ||| (a &&& c) ||| (b &&& c) = a &&& b ^^^ a &&& c ^^^ b &&& c := by
  apply BitVec.eq_of_getLsbD_eq
  intro i hi
  simp only [BitVec.getLsbD_or, BitVec.getLsbD_xor, BitVec.getLsbD_and]
  cases a.getLsbD i <;> cases b.getLsbD i <;> cases c.getLsbD i <;> rfl
theorem ch_int (e f g : Wd) : bits .or .u32 (bits .and .u32 (e.toNat : Int) (f.toNat : Int)) (bits .and .u32 (4294967295 - (e.toNat : Int)) (g.toNat : Int)) = ((e &&& f ^^^ ~~~ e &&& g).toNat : Int) := by
  have hn : 4294967295 - (e.toNat : Int) = ((~~~ e).toNat : Int) := by
    have := e.isLt
    rw [BitVec.toNat_not]
    omega
  rw [hn, ba32, ba32, bo32, or_xor]
theorem maj_int (a b c : Wd) : bits .or .u32 (bits .or .u32 (bits .and .u32 (a.toNat : Int) (b.toNat : Int)) (bits .and .u32 (a.toNat : Int) (c.toNat : Int))) (bits .and .u32 (b.toNat : Int) (c.toNat : Int)) = ((a &&& b ^^^ a &&& c ^^^ b &&& c).toNat : Int) := by
  rw [ba32, ba32, ba32, bo32, bo32, maj_or]
theorem t1_cells (h e ch k x : Wd) : #[.int .u32 (h.toNat : Int), .int .u32 (bits .xor .u32 (bits .xor .u32 ((turn e 6).toNat : Int) ((turn e 11).toNat : Int)) ((turn e 25).toNat : Int)), .int .u32 (ch.toNat : Int), .int .u32 (k.toNat : Int), .int .u32 (x.toNat : Int)] = (([h, turn e 6 ^^^ turn e 11 ^^^ turn e 25, ch, k, x] : List W32).map fun b => Value.int .u32 (b.toNat : Int)).toArray := by
  rw [bx32, bx32]
  rfl
theorem t2_cells (a mj : Wd) : #[.int .u32 (bits .xor .u32 (bits .xor .u32 ((turn a 2).toNat : Int) ((turn a 13).toNat : Int)) ((turn a 22).toNat : Int)), .int .u32 (mj.toNat : Int)] = (([turn a 2 ^^^ turn a 13 ^^^ turn a 22, mj] : List W32).map fun b => Value.int .u32 (b.toNat : Int)).toArray := by
  rw [bx32, bx32]
  rfl
theorem pairC0 (W : World) (a b : Wd) : K32.C (W.alloc (.cells #[.int .u32 (a.toNat : Int), .int .u32 (b.toNat : Int)] 52)).drew (some ⟨W.heap.size, 0, none⟩) 2 [a, b] := blk_C32 (l := [a, b]) (blk_drew (blk_new _ _)) 2 rfl (by decide)
theorem pairC1 (W : World) (O : Obj) (a b : Wd) : K32.C ((W.alloc (.cells #[.int .u32 (a.toNat : Int), .int .u32 (b.toNat : Int)] 52)).alloc O).drew (some ⟨W.heap.size, 0, none⟩) 2 [a, b] := blk_C32 (l := [a, b]) (blk_drew (blk_alloc (blk_new _ _) _)) 2 rfl (by decide)
theorem pairC2 (W : World) (O : Obj) (a b : Wd) : K32.C ((W.alloc O).alloc (.cells #[.int .u32 (a.toNat : Int), .int .u32 (b.toNat : Int)] 52)).drew (some ⟨W.heap.size + 1, 0, none⟩) 2 [a, b] := blk_C32 (l := [a, b]) (blk_drew (blk_new1 _ _ _ _)) 2 rfl (by decide)
theorem keep5 {W W1 : World} {a1 a2 a3 a4 a5 : Addr} {x1 x2 x3 x4 x5 : Value} (hb : Below W.heap.size W W1) (h1 : W.cell? a1 = some x1) (h2 : W.cell? a2 = some x2) (h3 : W.cell? a3 = some x3) (h4 : W.cell? a4 = some x4) (h5 : W.cell? a5 = some x5) :
    W1.cell? a1 = some x1 ∧ W1.cell? a2 = some x2 ∧ W1.cell? a3 = some x3 ∧ W1.cell? a4 = some x4 ∧ W1.cell? a5 = some x5 := ⟨pw_cell_below hb h1, pw_cell_below hb h2, pw_cell_below hb h3, pw_cell_below hb h4, pw_cell_below hb h5⟩
theorem C_far {W : World} {g n : Nat} {l : List UInt8} (h : Kb.C W (some ⟨g, 0, none⟩) n l) {b i : Nat} (u : Value) (hb : g ≠ b) : Kb.C (W.setCell ⟨b, i, none⟩ u) (some ⟨g, 0, none⟩) n l := by
  have h0 := Kd.reads_of_C (d := (0 : UInt8)) h
  refine Kd.C_of_reads (d := (0 : UInt8)) ⟨h0.1, h0.2.1, fun hp => ?_⟩
  obtain ⟨ad, e, hc⟩ := h0.2.2 hp
  injection e with e
  subst e
  refine ⟨_, rfl, fun j hj => ?_⟩
  have := hc j hj
  rw [add_plain] at this ⊢
  rw [← this]
  simp only [World.cell?, Below.heap_setCell W ⟨b, i, none⟩ u g hb]
theorem C_farw {W : World} {g n : Nat} {l : List Wd} (h : K32.C W (some ⟨g, 0, none⟩) n l) {b i : Nat} (u : Value) (hb : g ≠ b) : K32.C (W.setCell ⟨b, i, none⟩ u) (some ⟨g, 0, none⟩) n l := by
  have h0 := Kd.reads_of_C (d := (0 : Wd)) h
  refine Kd.C_of_reads (d := (0 : Wd)) ⟨h0.1, h0.2.1, fun hp => ?_⟩
  obtain ⟨ad, e, hc⟩ := h0.2.2 hp
  injection e with e
  subst e
  refine ⟨_, rfl, fun j hj => ?_⟩
  have := hc j hj
  rw [add_plain] at this ⊢
  rw [← this]
  simp only [World.cell?, Below.heap_setCell W ⟨b, i, none⟩ u g hb]
/-- What stands all along: the numbers, the state, the array at last, the bytes. -/
structure RefF (w wr : World) (s : List Wd) (g N : Nat) (pl : List UInt8) : Prop where
  k : Blk wr (w.heap.size + 1) 52 (e32 kt)
  h : Blk wr (w.heap.size + 2) 52 (e32 s)
  o : Blk wr w.heap.size 24 (e8 (List.replicate 32 0))
  p : Kb.C wr (some ⟨g, 0, none⟩) N pl
  b : Below w.heap.size w wr
  hg : w.heap.size + 3 ≤ g
theorem RefF.below {w wr w' : World} {s : List Wd} {g N : Nat} {pl : List UInt8} (h : RefF w wr s g N pl) (hb : Below wr.heap.size wr w') : RefF w w' s g N pl :=
  ⟨blk_below h.k hb, blk_below h.h hb, blk_below h.o hb, Kd.C_below h.p hb, below_then h.b h.b.size hb, h.hg⟩
theorem RefF.set {w wr : World} {s : List Wd} {g N : Nat} {pl : List UInt8} (h : RefF w wr s g N pl) (i : Nat) (x : Wd) : RefF w (wr.setCell ⟨w.heap.size + 2, i, none⟩ (.int .u32 (x.toNat : Int))) (s.set i x) g N pl :=
  ⟨blk_far h.k (by show w.heap.size + 1 ≠ w.heap.size + 2; omega) _, blk32_set h.h i x _ rfl, blk_far h.o (by show w.heap.size ≠ w.heap.size + 2; omega) _, C_far h.p _ (by have := h.hg; omega), h.b.setCell (by show w.heap.size ≤ w.heap.size + 2; omega) _, h.hg⟩
theorem rnd_cells (r : St) (kk x ch mj t1 t2 : Wd) (hch : ch = (r.e &&& r.f ^^^ ~~~ r.e &&& r.g)) (hmj : mj = (r.a &&& r.b ^^^ r.a &&& r.c ^^^ r.b &&& r.c)) (ht1 : t1 = r.h + (turn r.e 6 ^^^ turn r.e 11 ^^^ turn r.e 25) + ch + kk + x) (ht2 : t2 = (turn r.a 2 ^^^ turn r.a 13 ^^^ turn r.a 22) + mj) :
    (rnd r kk x).list = [addW [t1, t2], r.a, r.b, r.c, addW [r.d, t1], r.e, r.f, r.g] := by
  rw [addW2, addW2, ht2, ht1, hch, hmj, ← BitVec.add_assoc]
  rfl
/-- The first i words are sums: the reference's order. -/
def mixh (r s : St) (i : Nat) : List Wd := (plus r s).list.take i ++ s.list.drop i
theorem mixh_len (r s : St) (i : Nat) (h : i ≤ 8) : (mixh r s i).length = 8 := by
  rw [mixh, List.length_append, List.length_take, List.length_drop]
  show min i 8 + (8 - i) = 8
  omega
theorem mixh_at (r s : St) (i : Nat) (h : i < 8) : (mixh r s i).getD i 0 = s.list.getD i 0 ∧ (mixh r s i).set i (addW [s.list.getD i 0, r.list.getD i 0]) = mixh r s (i + 1) := by
  rw [addW2, BitVec.add_comm]
  rcases (show i = 0 ∨ i = 1 ∨ i = 2 ∨ i = 3 ∨ i = 4 ∨ i = 5 ∨ i = 6 ∨ i = 7 by omega) with rfl | rfl | rfl | rfl | rfl | rfl | rfl | rfl <;> exact ⟨rfl, rfl⟩
theorem sched_cells (y b x d : Wd) : #[.int .u32 (bits .xor .u32 (bits .xor .u32 ((turn y 17).toNat : Int) ((turn y 19).toNat : Int)) (IntKind.u32.wrap ((y.toNat : Int) / 1024))), .int .u32 (b.toNat : Int), .int .u32 (bits .xor .u32 (bits .xor .u32 ((turn x 7).toNat : Int) ((turn x 18).toNat : Int)) (IntKind.u32.wrap ((x.toNat : Int) / 8))), .int .u32 (d.toNat : Int)] = (([s1 y, b, s0 x, d] : List W32).map fun b => Value.int .u32 (b.toNat : Int)).toArray := by
  have hx := x.isLt
  have hy := y.isLt
  rw [wr32, wr32, show (y.toNat : Int) / 1024 % 4294967296 = (y.toNat : Int) / 1024 by omega, show (x.toNat : Int) / 8 % 4294967296 = (x.toNat : Int) / 8 by omega, s1_int, s0_int]
  rfl
def f15_r12.T12 : Bool × List (List Nat × List Nat) := (true, [([], []), ([], []), ([1], [1]), ([], []), ([3, 2], [3]), ([2, 4], [2, 4]), ([], []), ([6], [6]), ([5, 7], [5, 7]), ([], []), ([], []), ([10], [10]), ([9, 11], [9, 11]), ([12], [12]), ([], []), ([14, 4], [14]), ([], []), ([16, 15], [16]), ([15, 17], [15, 17]), ([], []), ([19], [19]), ([18, 20], [18, 20]), ([], []), ([], []), ([23], [23]), ([22, 24], [22, 24]), ([25], [25]), ([8, 13, 21, 26], [8, 13, 21, 26]), ([27, 17], [27]), ([28], [28]), ([0, 29, 28], [0, 29]), ([30, 30, 0, 1, 2, 3, 4, 5, 6, 7, 8, 9, 10, 11, 12, 13, 14, 15, 16, 17, 18, 19, 20, 21, 22, 23, 24, 25, 26, 27, 28, 29, 30], [0, 9, 22, 30])])
def f15_r12.B12 : List Nat := [0, 0, 2, 0, 14, 30, 0, 64, 254, 0, 0, 1024, 3584, 7680, 0, 16414, 0, 114718, 245790, 0, 524288, 2080798, 0, 0, 8388608, 29360128, 62914560, 134217726, 268435454, 536870910, 1073741823, 2147483647]
theorem f15_r12.tab12 : Go.Proofs.YthmlidlnojdggaaDoorW.PrintLast.rtab .any (Go.Proofs.YthmlidlnojdggaaDoorW.PrintLast.opsOf Tryd.f15 12) = f15_r12.T12 := by kernel_rfl
theorem f15_r12.bits12 : Go.Proofs.YthmlidlnojdggaaDoorW.PrintLast.waitsOk f15_r12.T12.2 f15_r12.B12 = true := by kernel_rfl
def f15_r20.T20 : Bool × List (List Nat × List Nat) := (true, [([], []), ([0], [0]), ([1], [1]), ([], []), ([3], [3]), ([], []), ([5, 4], [5]), ([4, 6], [4, 6]), ([], []), ([8, 6], [8]), ([7, 9], [7, 9]), ([], []), ([], []), ([], []), ([12, 13], [12, 13]), ([14], [14]), ([], []), ([], []), ([16, 17], [16, 17]), ([18], [18]), ([2, 10, 11, 15, 19], [2, 10, 11, 15, 19]), ([20, 9], [20]), ([21, 21, 0, 1, 2, 3, 4, 5, 6, 7, 8, 9, 10, 11, 12, 13, 14, 15, 16, 17, 18, 19, 20, 21], [21])])
def f15_r20.B20 : List Nat := [0, 1, 3, 0, 8, 0, 56, 120, 0, 376, 1016, 0, 0, 0, 12288, 28672, 0, 0, 196608, 458752, 1048575, 2097151, 4194303]
theorem f15_r20.tab20 : Go.Proofs.YthmlidlnojdggaaDoorW.PrintLast.rtab .any (Go.Proofs.YthmlidlnojdggaaDoorW.PrintLast.opsOf Tryd.f15 20) = f15_r20.T20 := by kernel_rfl
theorem f15_r20.bits20 : Go.Proofs.YthmlidlnojdggaaDoorW.PrintLast.waitsOk f15_r20.T20.2 f15_r20.B20 = true := by kernel_rfl
def f15_r26.T26 : Bool × List (List Nat × List Nat) := (true, [([], []), ([], []), ([], []), ([], []), ([2, 3], [2, 3]), ([4], [4]), ([], []), ([], []), ([6, 7], [6, 7]), ([8], [8]), ([5, 9], [5, 9]), ([10], [10]), ([0, 1, 0, 1, 2, 3, 4, 5, 6, 7, 8, 9, 10, 11], [0, 1]), ([12, 11, 11, 0, 1, 2, 3, 4, 5, 6, 7, 8, 9, 10, 11], [11, 12])])
def f15_r26.B26 : List Nat := [0, 0, 0, 0, 12, 28, 0, 0, 192, 448, 1020, 2044, 4095, 8191]
theorem f15_r26.tab26 : Go.Proofs.YthmlidlnojdggaaDoorW.PrintLast.rtab .any (Go.Proofs.YthmlidlnojdggaaDoorW.PrintLast.opsOf Tryd.f15 26) = f15_r26.T26 := by kernel_rfl
theorem f15_r26.bits26 : Go.Proofs.YthmlidlnojdggaaDoorW.PrintLast.waitsOk f15_r26.T26.2 f15_r26.B26 = true := by kernel_rfl
set_option maxRecDepth 100000 in
set_option maxHeartbeats 8000000 in
theorem RefOf_calls (A : Option Addr) (c n : Nat) (l : List UInt8) (w : World) (hn : l.length = n) (hr : Kb.C w A n l) (hl : n ≤ 140737488000000) :
    Calls Tryd.prog 15 #[.slice A n c] w fun e w' => e = .returned (.agg (e8 (sum l))) ∧ Below w.heap.size w w' := by
  have HR := Aside0.mk hr
  have HN := Aside0.mk hn
  clear hr hn
  go_enter Tryd.func15, Tryd.ntmps15
  go_wp2_with (go_at_call 54; refine (Padded_v A c n l _ HN.out (Kd.C_below HR.out (below_alloc (below_alloc (below_new _) _) _)) hl).mono ?_; rintro e w3 ⟨A3, c3, rfl, hB3, hb3⟩; replace hB3 := Aside0.mk hB3; replace hb3 := Aside0.mk hb3)
  obtain ⟨N, hN⟩ : ∃ N, N = (padded l).length := ⟨_, rfl⟩
  obtain ⟨K, hK1, hK2⟩ := padded_len l
  have hNb : N ≤ 140737488000200 ∧ 0 < N := by have := noughts_lt l.length; have := HN.out; omega
  have hNK : N = 64 * K := by omega
  rw [← hN] at hB3 ⊢
  obtain ⟨g, hA3, hg1, hg2⟩ := hB3.out.form hNb.2
  subst hA3
  obtain ⟨HC3, -, hcap⟩ := hB3.out.read
  have HF := Aside0.mk (show RefF w w3 st0.list g N (padded l) from ⟨blk_below (blk_alloc (blk_new1 _ _ _ _) _) hb3.out, blk_below (blk_new2 _ _ _ _ _) hb3.out, blk_below (blk_alloc (blk_alloc (blk_new _ _) _) _) hb3.out, HC3, below_then (below_alloc (below_alloc (below_new _) _) _) (by simp; omega) hb3.out, by simpa using hg1⟩)
  have HNN := Aside0.mk hN
  have HNK := Aside0.mk hNK
  have hNb1 := hNb.1
  clear hB3 hb3 hN hK1 hK2 hNK HC3 hg1 hg2 hNb
  go_loopw [6] (fun i wr => ∃ j m : Nat, j ≤ K ∧ Aside0 (m = 64 * j) ∧ i = .int .i64 m ∧ Aside0 (RefF w wr (blocks st0 (padded l) j).list g N (padded l))) (fun i _ => N - (intOf i).toNat)
  case atStart => exact ⟨0, 0, Nat.zero_le _, ⟨rfl⟩, rfl, HF⟩
  case round =>
    clear HF
    obtain ⟨j, m, hj, HM, rfl, HF⟩ := hrel
    obtain ⟨wo, rfl⟩ : ∃ wo : World, wo = wr := ⟨_, rfl⟩
    by_cases hlt : j < K
    · have hm64 : m + 64 ≤ N := by have := HM.out; have := HNK.out; omega
      obtain ⟨A7, hcut, hA7⟩ := cut_mid (some ⟨g, 0, none⟩) c3 (l := padded l) (n := N) HNN.out.symm (m : Int) ((m : Int) + 64) m (m + 64) rfl (by omega) (by omega) hm64 hcap
      rw [show m + 64 - m = 64 by omega] at hcut hA7
      obtain ⟨blk, hblk⟩ : ∃ b, b = ((padded l).take (m + 64)).drop m := ⟨_, rfl⟩
      rw [← hblk] at hA7
      have hbl : blk.length = 64 := by rw [hblk, List.length_drop, List.length_take, ← HNN.out]; omega
      have HBK := Aside0.mk (show ((padded l).drop (64 * j)).take 64 = blk by rw [hblk, List.drop_take, HM.out, show 64 * j + 64 - 64 * j = 64 by omega])
      obtain ⟨s, hs⟩ : ∃ s, s = blocks st0 (padded l) j := ⟨_, rfl⟩
      rw [← hs] at HF
      have HS := Aside0.mk (show blocks st0 (padded l) (j + 1) = behind s blk by rw [blocks, HBK.out, hs])
      have HWV := Aside0.mk (words_v A7 (c3 - m) blk wo hbl (hA7 _ HF.out.p))
      have hlt2 : (m : Int) < (N : Int) := by omega
      clear hblk hbl hs hA7 hlt
      go_wp2_with (go_at_call 55; refine HWV.out.mono ?_; rintro e w4 ⟨A8, c8, rfl, hB4, hb4⟩; replace hB4 := Aside0.mk hB4; replace hb4 := Aside0.mk hb4)
      have HWC := Aside0.mk (show Below wo.heap.size wo w4 from hb4.out)
      clear HWV hb4
      go_loopw [7, 8, 9, 10] (fun v i _ _ wr => ∃ (k q : Nat) (A8 : Option Addr) (c8 : Nat), k ≤ 48 ∧ Aside0 (q = 16 + k) ∧ i = .int .i64 q ∧ v = .slice A8 q c8 ∧ Aside0 (Ws wr wo.heap.size (.slice A8 q c8) (grow blk k)) ∧ Aside0 (Below wo.heap.size wo wr)) (fun _ i _ _ _ => 64 - (intOf i).toNat)
      case atStart => exact ⟨0, 16, A8, c8, Nat.zero_le _, ⟨rfl⟩, rfl, rfl, hB4, HWC⟩
      case round =>
        clear hB4 HWC
        obtain ⟨k, q, A8, c8, hk, HQ, rfl, rfl, HO, HW⟩ := hrel
        by_cases hlt : k < 48
        ·
          have hq : q = 16 + k := HQ.out
          have hq1 : 16 ≤ q := by omega
          have hq2 : q < 64 := by omega
          obtain ⟨g7, hA8, hg71, hg72⟩ := HO.out.form (by omega)
          subst hA8
          have hlen : (grow blk k).length = q := by rw [grow_len, hq]
          have c15 := (HO.out.cell (q - 15) (by omega)).1
          have c2 := (HO.out.cell (q - 2) (by omega)).1
          have c7 := (HO.out.cell (q - 7) (by omega)).1
          have c16 := (HO.out.cell (q - 16) (by omega)).1
          obtain ⟨x15, h15⟩ : ∃ x, x = (grow blk k).getD (q - 15) 0 := ⟨_, rfl⟩
          obtain ⟨x2, h2⟩ : ∃ x, x = (grow blk k).getD (q - 2) 0 := ⟨_, rfl⟩
          obtain ⟨x7, h7⟩ : ∃ x, x = (grow blk k).getD (q - 7) 0 := ⟨_, rfl⟩
          obtain ⟨x16, h16⟩ : ∃ x, x = (grow blk k).getD (q - 16) 0 := ⟨_, rfl⟩
          rw [← h15] at c15
          rw [← h2] at c2
          rw [← h7] at c7
          rw [← h16] at c16
          have HX := Aside0.mk (show grow blk (k + 1) = grow blk k ++ [addW [s1 x2, x7, s0 x15, x16]] by rw [addW4, grow, ← hq, h15, h2, h7, h16]; rfl)
          have HLEN := Aside0.mk hlen
          clear h15 h2 h7 h16 hlen hq
          have i1 : (0 : Int) ≤ (q : Int) - 15 := by omega
          have i64 : (q : Int) < 64 := by omega
          have i2 : (0 : Int) ≤ (q : Int) - 2 := by omega
          have w15 : wrap64 ((q : Int) - 15) = (q : Int) - 15 := by unfold wrap64; omega
          have w2 : wrap64 ((q : Int) - 2) = (q : Int) - 2 := by unfold wrap64; omega
          have w7 : wrap64 ((q : Int) - 7) = (q : Int) - 7 := by unfold wrap64; omega
          have w16 : wrap64 ((q : Int) - 16) = (q : Int) - 16 := by unfold wrap64; omega
          have v15 : ((q : Int) - 15).toNat = q - 15 := by omega
          have v2 : ((q : Int) - 2).toNat = q - 2 := by omega
          have v7 : ((q : Int) - 7).toNat = q - 7 := by omega
          have v16 : ((q : Int) - 16).toNat = q - 16 := by omega
          have l15 : (15 : Int) ≤ (q : Int) := by omega
          have l2 : (2 : Int) ≤ (q : Int) := by omega
          have l7 : (7 : Int) ≤ (q : Int) := by omega
          have l16 : (16 : Int) ≤ (q : Int) := by omega
          have m7 : (q : Int) - 7 < (q : Int) := by omega
          have m16 : (q : Int) - 16 < (q : Int) := by omega
          have m2 : (q : Int) - 2 < (q : Int) := by omega
          have m15 : (q : Int) - 15 < (q : Int) := by omega
          go_wp2
          go_quiet (fail)
          go_wp2
          have HO1 := Aside0.mk (show Ws (wr.drewN nq).drew wo.heap.size (.slice (some ⟨g7, 0, none⟩) q c8) (grow blk k) from HO.out.below (below_drew (pw_below_drewN (Below.refl _ _) _)))
          have HW1 := Aside0.mk (show Below wo.heap.size wo (wr.drewN nq).drew from below_drew (pw_below_drewN HW.out _))
          refine start_ (n := 32) (S := fun w' => Ws w' wo.heap.size (.slice (some ⟨g7, 0, none⟩) q c8) (grow blk k) ∧ Below wo.heap.size wo w' ∧ w'.cell? ⟨g7, q - 7, none⟩ = some (.int .u32 (x7.toNat : Int)) ∧ w'.cell? ⟨g7, q - 16, none⟩ = some (.int .u32 (x16.toNat : Int)) ∧ True) (ds := [30]) #[false, false, false, false, false, false, false, false, false, false, false, false, false, false, false, false, false, false, false, false, false, false, false, false, false, false, false, false, false, false, false, false] (by kernel_rfl) rfl rfl ⟨HO1.out, HW1.out, c7, c16, trivial⟩ (fun hHeld => ?_)
          refine with_tabW f15_r12.tab12 f15_r12.bits12 (fun HT_ HW_ => ?_)
          generalize (wr.drewN nq).drew = wq1 at HO1 HW1 hHeld ⊢
          refine pure_ (i := 0) (N := some 53) (v := ?_) (a' := ?_) #[true, false, false, false, false, false, false, false, false, false, false, false, false, false, false, false, false, false, false, false, false, false, false, false, false, false, false, false, false, false, false, false] rfl rfl (any_of HT_.out (by kernel_rfl)) (fun _ _ _ h => h) (Or.inl ⟨by rfl, ?_⟩) ?_ ?_
          rotate_left
          · intro w'
            go_simp
            with_reducible rfl
          rotate_left
          · simp only [Act.put, List.setIfInBounds_toArray, List.set_cons_zero, List.set_cons_succ, i64_w, i32_w]
            rfl
          refine pure_ (i := 1) (N := some 54) (v := ?_) (a' := ?_) #[true, true, false, false, false, false, false, false, false, false, false, false, false, false, false, false, false, false, false, false, false, false, false, false, false, false, false, false, false, false, false, false] rfl rfl (any_of HT_.out (by kernel_rfl)) (fun _ _ _ h => h) (Or.inl ⟨by rfl, ?_⟩) ?_ ?_
          rotate_left
          · intro w'
            go_simp
            with_reducible rfl
          rotate_left
          · simp only [Act.put, List.setIfInBounds_toArray, List.set_cons_zero, List.set_cons_succ, i64_w, i32_w]
            rfl
          refine pure_ (i := 3) (N := some 56) (v := ?_) (a' := ?_) #[true, true, false, true, false, false, false, false, false, false, false, false, false, false, false, false, false, false, false, false, false, false, false, false, false, false, false, false, false, false, false, false] rfl rfl (any_of HT_.out (by kernel_rfl)) (fun _ _ _ h => h) (Or.inl ⟨by rfl, ?_⟩) ?_ ?_
          rotate_left
          · intro w'
            go_simp
            with_reducible rfl
          rotate_left
          · simp only [Act.put, List.setIfInBounds_toArray, List.set_cons_zero, List.set_cons_succ, i64_w, i32_w]
            rfl
          refine pure_ (i := 6) (N := some 59) (v := ?_) (a' := ?_) #[true, true, false, true, false, false, true, false, false, false, false, false, false, false, false, false, false, false, false, false, false, false, false, false, false, false, false, false, false, false, false, false] rfl rfl (any_of HT_.out (by kernel_rfl)) (fun _ _ _ h => h) (Or.inl ⟨by rfl, ?_⟩) ?_ ?_
          rotate_left
          · intro w'
            go_simp
            with_reducible rfl
          rotate_left
          · simp only [Act.put, List.setIfInBounds_toArray, List.set_cons_zero, List.set_cons_succ, i64_w, i32_w]
            rfl
          refine pure_ (i := 7) (N := some 60) (v := ?_) (a' := ?_) #[true, true, false, true, false, false, true, true, false, false, false, false, false, false, false, false, false, false, false, false, false, false, false, false, false, false, false, false, false, false, false, false] rfl rfl (any_of HT_.out (by kernel_rfl)) (fun _ _ _ h => h) (Or.inl ⟨by rfl, ?_⟩) ?_ ?_
          rotate_left
          · intro w'
            go_simp
            with_reducible rfl
          rotate_left
          · simp only [Act.put, List.setIfInBounds_toArray, List.set_cons_zero, List.set_cons_succ, i64_w, i32_w]
            rfl
          refine pure_ (i := 9) (N := some 62) (v := ?_) (a' := ?_) #[true, true, false, true, false, false, true, true, false, true, false, false, false, false, false, false, false, false, false, false, false, false, false, false, false, false, false, false, false, false, false, false] rfl rfl (any_of HT_.out (by kernel_rfl)) (fun _ _ _ h => h) (Or.inl ⟨by rfl, ?_⟩) ?_ ?_
          rotate_left
          · intro w'
            go_simp
            with_reducible rfl
          rotate_left
          · simp only [Act.put, List.setIfInBounds_toArray, List.set_cons_zero, List.set_cons_succ, i64_w, i32_w]
            rfl
          refine pure_ (i := 10) (N := some 63) (v := ?_) (a' := ?_) #[true, true, false, true, false, false, true, true, false, true, true, false, false, false, false, false, false, false, false, false, false, false, false, false, false, false, false, false, false, false, false, false] rfl rfl (any_of HT_.out (by kernel_rfl)) (fun _ _ _ h => h) (Or.inl ⟨by rfl, ?_⟩) ?_ ?_
          rotate_left
          · intro w'
            go_simp
            with_reducible rfl
          rotate_left
          · simp only [Act.put, List.setIfInBounds_toArray, List.set_cons_zero, List.set_cons_succ, i64_w, i32_w]
            rfl
          refine pure_ (i := 11) (N := some 64) (v := ?_) (a' := ?_) #[true, true, false, true, false, false, true, true, false, true, true, true, false, false, false, false, false, false, false, false, false, false, false, false, false, false, false, false, false, false, false, false] rfl rfl (any_of HT_.out (by kernel_rfl)) (fun _ _ _ h => h) (Or.inl ⟨by rfl, ?_⟩) ?_ ?_
          rotate_left
          · intro w'
            go_simp
            with_reducible rfl
          rotate_left
          · simp only [Act.put, List.setIfInBounds_toArray, List.set_cons_zero, List.set_cons_succ, i64_w, i32_w]
            rfl
          refine pure_ (i := 12) (N := some 65) (v := ?_) (a' := ?_) #[true, true, false, true, false, false, true, true, false, true, true, true, true, false, false, false, false, false, false, false, false, false, false, false, false, false, false, false, false, false, false, false] rfl rfl (any_of HT_.out (by kernel_rfl)) (fun _ _ _ h => h) (Or.inl ⟨by rfl, ?_⟩) ?_ ?_
          rotate_left
          · intro w'
            go_simp
            with_reducible rfl
          rotate_left
          · simp only [Act.put, List.setIfInBounds_toArray, List.set_cons_zero, List.set_cons_succ, i64_w, i32_w]
            rfl
          refine pure_ (i := 14) (N := some 67) (v := ?_) (a' := ?_) #[true, true, false, true, false, false, true, true, false, true, true, true, true, false, true, false, false, false, false, false, false, false, false, false, false, false, false, false, false, false, false, false] rfl rfl (any_of HT_.out (by kernel_rfl)) (fun _ _ _ h => h) (Or.inl ⟨by rfl, ?_⟩) ?_ ?_
          rotate_left
          · intro w'
            go_simp
            with_reducible rfl
          rotate_left
          · simp only [Act.put, List.setIfInBounds_toArray, List.set_cons_zero, List.set_cons_succ, i64_w, i32_w]
            rfl
          refine pure_ (i := 16) (N := some 69) (v := ?_) (a' := ?_) #[true, true, false, true, false, false, true, true, false, true, true, true, true, false, true, false, true, false, false, false, false, false, false, false, false, false, false, false, false, false, false, false] rfl rfl (any_of HT_.out (by kernel_rfl)) (fun _ _ _ h => h) (Or.inl ⟨by rfl, ?_⟩) ?_ ?_
          rotate_left
          · intro w'
            go_simp
            with_reducible rfl
          rotate_left
          · simp only [Act.put, List.setIfInBounds_toArray, List.set_cons_zero, List.set_cons_succ, i64_w, i32_w]
            rfl
          refine pure_ (i := 19) (N := some 72) (v := ?_) (a' := ?_) #[true, true, false, true, false, false, true, true, false, true, true, true, true, false, true, false, true, false, false, true, false, false, false, false, false, false, false, false, false, false, false, false] rfl rfl (any_of HT_.out (by kernel_rfl)) (fun _ _ _ h => h) (Or.inl ⟨by rfl, ?_⟩) ?_ ?_
          rotate_left
          · intro w'
            go_simp
            with_reducible rfl
          rotate_left
          · simp only [Act.put, List.setIfInBounds_toArray, List.set_cons_zero, List.set_cons_succ, i64_w, i32_w]
            rfl
          refine pure_ (i := 20) (N := some 73) (v := ?_) (a' := ?_) #[true, true, false, true, false, false, true, true, false, true, true, true, true, false, true, false, true, false, false, true, true, false, false, false, false, false, false, false, false, false, false, false] rfl rfl (any_of HT_.out (by kernel_rfl)) (fun _ _ _ h => h) (Or.inl ⟨by rfl, ?_⟩) ?_ ?_
          rotate_left
          · intro w'
            go_simp
            with_reducible rfl
          rotate_left
          · simp only [Act.put, List.setIfInBounds_toArray, List.set_cons_zero, List.set_cons_succ, i64_w, i32_w]
            rfl
          refine pure_ (i := 22) (N := some 75) (v := ?_) (a' := ?_) #[true, true, false, true, false, false, true, true, false, true, true, true, true, false, true, false, true, false, false, true, true, false, true, false, false, false, false, false, false, false, false, false] rfl rfl (any_of HT_.out (by kernel_rfl)) (fun _ _ _ h => h) (Or.inl ⟨by rfl, ?_⟩) ?_ ?_
          rotate_left
          · intro w'
            go_simp
            with_reducible rfl
          rotate_left
          · simp only [Act.put, List.setIfInBounds_toArray, List.set_cons_zero, List.set_cons_succ, i64_w, i32_w]
            rfl
          refine pure_ (i := 23) (N := some 76) (v := ?_) (a' := ?_) #[true, true, false, true, false, false, true, true, false, true, true, true, true, false, true, false, true, false, false, true, true, false, true, true, false, false, false, false, false, false, false, false] rfl rfl (any_of HT_.out (by kernel_rfl)) (fun _ _ _ h => h) (Or.inl ⟨by rfl, ?_⟩) ?_ ?_
          rotate_left
          · intro w'
            go_simp
            with_reducible rfl
          rotate_left
          · simp only [Act.put, List.setIfInBounds_toArray, List.set_cons_zero, List.set_cons_succ, i64_w, i32_w]
            rfl
          refine pure_ (i := 24) (N := some 77) (v := ?_) (a' := ?_) #[true, true, false, true, false, false, true, true, false, true, true, true, true, false, true, false, true, false, false, true, true, false, true, true, true, false, false, false, false, false, false, false] rfl rfl (any_of HT_.out (by kernel_rfl)) (fun _ _ _ h => h) (Or.inl ⟨by rfl, ?_⟩) ?_ ?_
          rotate_left
          · intro w'
            go_simp
            with_reducible rfl
          rotate_left
          · simp only [Act.put, List.setIfInBounds_toArray, List.set_cons_zero, List.set_cons_succ, i64_w, i32_w]
            rfl
          refine pure_ (i := 25) (N := some 78) (v := ?_) (a' := ?_) #[true, true, false, true, false, false, true, true, false, true, true, true, true, false, true, false, true, false, false, true, true, false, true, true, true, true, false, false, false, false, false, false] rfl rfl (any_of HT_.out (by kernel_rfl)) (fun _ _ _ h => h) (Or.inl ⟨by rfl, ?_⟩) ?_ ?_
          rotate_left
          · intro w'
            go_simp
            with_reducible rfl
          rotate_left
          · simp only [Act.put, List.setIfInBounds_toArray, List.set_cons_zero, List.set_cons_succ, i64_w, i32_w]
            rfl
          refine take_ (i := 13) (N := some 66) (v := ?_) (a' := ?_) #[true, true, false, true, false, false, true, true, false, true, true, true, true, true, true, false, true, false, false, true, true, false, true, true, true, true, false, false, false, false, false, false] rfl rfl (take_ofW HT_.out HW_.out (by kernel_rfl)) (fun _ _ _ h => h) (Or.inl ⟨by rfl, ?_⟩) hHeld ?_ ?_
          rotate_left
          · intro w' s0
            have e := s0.2.2.1
            go_simp
            with_reducible rfl
          rotate_left
          · simp only [Act.put, List.setIfInBounds_toArray, List.set_cons_zero, List.set_cons_succ, i64_w, i32_w]
            rfl
          refine take_ (i := 26) (N := some 79) (v := ?_) (a' := ?_) #[true, true, false, true, false, false, true, true, false, true, true, true, true, true, true, false, true, false, false, true, true, false, true, true, true, true, true, false, false, false, false, false] rfl rfl (take_ofW HT_.out HW_.out (by kernel_rfl)) (fun _ _ _ h => h) (Or.inl ⟨by rfl, ?_⟩) hHeld ?_ ?_
          rotate_left
          · intro w' s0
            have e := s0.2.2.2.1
            go_simp
            with_reducible rfl
          rotate_left
          · simp only [Act.put, List.setIfInBounds_toArray, List.set_cons_zero, List.set_cons_succ, i64_w, i32_w]
            rfl
          refine one_ (i := 2) (N := some 55) #[true, true, true, true, false, false, true, true, false, true, true, true, true, true, true, false, true, false, false, true, true, false, true, true, true, true, true, false, false, false, false, false] rfl rfl (one_of HT_.out (by kernel_rfl)) (by decide) (fun K hK => ?_)
          refine goes_ Tryd.func57 (by kernel_rfl) rfl #[.int .u32 (x2.toNat : Int), .int .i64 17] (by rfl) rfl rfl (by (try simp only [List.map_toArray, List.map_cons, List.map_nil]); first | done | rfl) ?_
          with_reducible refine (rotr_b x2 17 17 rfl (by decide) (by decide) _).mono ?_
          rintro e w5 ⟨rfl, hb⟩
          refine ⟨_, rfl, ?_⟩
          refine hK.out _ _ ⟨(Ws.below hHeld.1 hb), (below_then hHeld.2.1 (Below.size hHeld.2.1) hb), (pw_cell_below hb hHeld.2.2.1), (pw_cell_below hb hHeld.2.2.2.1), trivial⟩ (fun hHeld => ?_)
          clear hK K
          refine norm_ (a' := ?_) ?_ ?_
          rotate_left
          · show Act.put _ (some 55) _ = _
            simp only [Act.put, List.setIfInBounds_toArray, List.set_cons_zero, List.set_cons_succ, i64_w, i32_w]
            rfl
          refine one_ (i := 4) (N := some 57) #[true, true, true, true, true, false, true, true, false, true, true, true, true, true, true, false, true, false, false, true, true, false, true, true, true, true, true, false, false, false, false, false] rfl rfl (one_of HT_.out (by kernel_rfl)) (by decide) (fun K hK => ?_)
          refine goes_ Tryd.func57 (by kernel_rfl) rfl #[.int .u32 (x2.toNat : Int), .int .i64 19] (by rfl) rfl rfl (by (try simp only [List.map_toArray, List.map_cons, List.map_nil]); first | done | rfl) ?_
          with_reducible refine (rotr_b x2 19 19 rfl (by decide) (by decide) _).mono ?_
          rintro e w6 ⟨rfl, hb⟩
          refine ⟨_, rfl, ?_⟩
          refine hK.out _ _ ⟨(Ws.below hHeld.1 hb), (below_then hHeld.2.1 (Below.size hHeld.2.1) hb), (pw_cell_below hb hHeld.2.2.1), (pw_cell_below hb hHeld.2.2.2.1), trivial⟩ (fun hHeld => ?_)
          clear hK K
          refine norm_ (a' := ?_) ?_ ?_
          rotate_left
          · show Act.put _ (some 57) _ = _
            simp only [Act.put, List.setIfInBounds_toArray, List.set_cons_zero, List.set_cons_succ, i64_w, i32_w]
            rfl
          refine pure_ (i := 5) (N := some 58) (v := ?_) (a' := ?_) #[true, true, true, true, true, true, true, true, false, true, true, true, true, true, true, false, true, false, false, true, true, false, true, true, true, true, true, false, false, false, false, false] rfl rfl (any_of HT_.out (by kernel_rfl)) (fun _ _ _ h => h) (Or.inl ⟨by rfl, ?_⟩) ?_ ?_
          rotate_left
          · intro w'
            go_simp
            with_reducible rfl
          rotate_left
          · simp only [Act.put, List.setIfInBounds_toArray, List.set_cons_zero, List.set_cons_succ, i64_w, i32_w]
            rfl
          refine pure_ (i := 8) (N := some 61) (v := ?_) (a' := ?_) #[true, true, true, true, true, true, true, true, true, true, true, true, true, true, true, false, true, false, false, true, true, false, true, true, true, true, true, false, false, false, false, false] rfl rfl (any_of HT_.out (by kernel_rfl)) (fun _ _ _ h => h) (Or.inl ⟨by rfl, ?_⟩) ?_ ?_
          rotate_left
          · intro w'
            go_simp
            with_reducible rfl
          rotate_left
          · simp only [Act.put, List.setIfInBounds_toArray, List.set_cons_zero, List.set_cons_succ, i64_w, i32_w]
            rfl
          refine one_ (i := 15) (N := some 68) #[true, true, true, true, true, true, true, true, true, true, true, true, true, true, true, true, true, false, false, true, true, false, true, true, true, true, true, false, false, false, false, false] rfl rfl (one_of HT_.out (by kernel_rfl)) (by decide) (fun K hK => ?_)
          refine goes_ Tryd.func57 (by kernel_rfl) rfl #[.int .u32 (x15.toNat : Int), .int .i64 7] (by rfl) rfl rfl (by (try simp only [List.map_toArray, List.map_cons, List.map_nil]); first | done | rfl) ?_
          with_reducible refine (rotr_b x15 7 7 rfl (by decide) (by decide) _).mono ?_
          rintro e w7 ⟨rfl, hb⟩
          refine ⟨_, rfl, ?_⟩
          refine hK.out _ _ ⟨(Ws.below hHeld.1 hb), (below_then hHeld.2.1 (Below.size hHeld.2.1) hb), (pw_cell_below hb hHeld.2.2.1), (pw_cell_below hb hHeld.2.2.2.1), trivial⟩ (fun hHeld => ?_)
          clear hK K
          refine norm_ (a' := ?_) ?_ ?_
          rotate_left
          · show Act.put _ (some 68) _ = _
            simp only [Act.put, List.setIfInBounds_toArray, List.set_cons_zero, List.set_cons_succ, i64_w, i32_w]
            rfl
          refine one_ (i := 17) (N := some 70) #[true, true, true, true, true, true, true, true, true, true, true, true, true, true, true, true, true, true, false, true, true, false, true, true, true, true, true, false, false, false, false, false] rfl rfl (one_of HT_.out (by kernel_rfl)) (by decide) (fun K hK => ?_)
          refine goes_ Tryd.func57 (by kernel_rfl) rfl #[.int .u32 (x15.toNat : Int), .int .i64 18] (by rfl) rfl rfl (by (try simp only [List.map_toArray, List.map_cons, List.map_nil]); first | done | rfl) ?_
          with_reducible refine (rotr_b x15 18 18 rfl (by decide) (by decide) _).mono ?_
          rintro e w8 ⟨rfl, hb⟩
          refine ⟨_, rfl, ?_⟩
          have HWs := Aside0.mk (show Below wo.heap.size wo w8 from below_then hHeld.2.1 (Below.size hHeld.2.1) hb)
          refine hK.out _ _ ⟨(Ws.below hHeld.1 hb), (below_then hHeld.2.1 (Below.size hHeld.2.1) hb), (pw_cell_below hb hHeld.2.2.1), (pw_cell_below hb hHeld.2.2.2.1), trivial⟩ (fun hHeld => ?_)
          clear hK K
          refine norm_ (a' := ?_) ?_ ?_
          rotate_left
          · show Act.put _ (some 70) _ = _
            simp only [Act.put, List.setIfInBounds_toArray, List.set_cons_zero, List.set_cons_succ, i64_w, i32_w]
            rfl
          refine pure_ (i := 18) (N := some 71) (v := ?_) (a' := ?_) #[true, true, true, true, true, true, true, true, true, true, true, true, true, true, true, true, true, true, true, true, true, false, true, true, true, true, true, false, false, false, false, false] rfl rfl (any_of HT_.out (by kernel_rfl)) (fun _ _ _ h => h) (Or.inl ⟨by rfl, ?_⟩) ?_ ?_
          rotate_left
          · intro w'
            go_simp
            with_reducible rfl
          rotate_left
          · simp only [Act.put, List.setIfInBounds_toArray, List.set_cons_zero, List.set_cons_succ, i64_w, i32_w]
            rfl
          refine pure_ (i := 21) (N := some 74) (v := ?_) (a' := ?_) #[true, true, true, true, true, true, true, true, true, true, true, true, true, true, true, true, true, true, true, true, true, true, true, true, true, true, true, false, false, false, false, false] rfl rfl (any_of HT_.out (by kernel_rfl)) (fun _ _ _ h => h) (Or.inl ⟨by rfl, ?_⟩) ?_ ?_
          rotate_left
          · intro w'
            go_simp
            with_reducible rfl
          rotate_left
          · simp only [Act.put, List.setIfInBounds_toArray, List.set_cons_zero, List.set_cons_succ, i64_w, i32_w]
            rfl
          refine one_ (i := 27) (N := some 80) #[true, true, true, true, true, true, true, true, true, true, true, true, true, true, true, true, true, true, true, true, true, true, true, true, true, true, true, true, false, false, false, false] rfl rfl (one_of HT_.out (by kernel_rfl)) (by decide) (fun K hK => ?_)
          refine value_ (w1 := ?_) (v := ?_) (by rfl) rfl ?_ ?_
          rotate_left 2
          · go_simp
            constructor
            · rfl
            · rfl
          refine hK.out _ _ ⟨(Ws.below hHeld.1 (below_new _)), (below_then hHeld.2.1 (Below.size hHeld.2.1) (below_new _)), (pw_cell_below (below_new _) hHeld.2.2.1), (pw_cell_below (below_new _) hHeld.2.2.2.1), trivial⟩ (fun hHeld => ?_)
          clear hK K
          refine norm_ (a' := ?_) ?_ ?_
          rotate_left
          · show Act.put _ (some 80) _ = _
            simp only [Act.put, List.setIfInBounds_toArray, List.set_cons_zero, List.set_cons_succ, i64_w, i32_w]
            rfl
          refine one_ (i := 28) (N := some 81) #[true, true, true, true, true, true, true, true, true, true, true, true, true, true, true, true, true, true, true, true, true, true, true, true, true, true, true, true, true, false, false, false] rfl rfl (one_of HT_.out (by kernel_rfl)) (by decide) (fun K hK => ?_)
          refine goes_ Tryd.func56 (by kernel_rfl) rfl #[.slice (some ⟨w8.heap.size, 0, none⟩) 4 4] (by rfl) rfl rfl (by (try simp only [List.map_toArray, List.map_cons, List.map_nil]); first | done | rfl) ?_
          with_reducible refine (add_v _ 4 4 [s1 x2, x7, s0 x15, x16] _ rfl (Ws.read (Ws.lit w8 wo.heap.size _ rfl HWs.out.size [s1 x2, x7, s0 x15, x16] 4 rfl _ (sched_cells x2 x7 x15 x16) (by decide))).1 (by decide)).mono ?_
          rintro e w9 ⟨rfl, rfl⟩
          refine ⟨_, rfl, ?_⟩
          refine hK.out _ _ ⟨(Ws.below hHeld.1 (Below.refl _ _)), (below_then hHeld.2.1 (Below.size hHeld.2.1) (Below.refl _ _)), (pw_cell_below (Below.refl _ _) hHeld.2.2.1), (pw_cell_below (Below.refl _ _) hHeld.2.2.2.1), trivial⟩ (fun hHeld => ?_)
          clear hK K
          refine norm_ (a' := ?_) ?_ ?_
          rotate_left
          · show Act.put _ (some 81) _ = _
            simp only [Act.put, List.setIfInBounds_toArray, List.set_cons_zero, List.set_cons_succ, i64_w, i32_w]
            rfl
          refine one_ (i := 29) (N := some 82) #[true, true, true, true, true, true, true, true, true, true, true, true, true, true, true, true, true, true, true, true, true, true, true, true, true, true, true, true, true, true, false, false] rfl rfl (one_of HT_.out (by kernel_rfl)) (by decide) (fun K hK => ?_)
          refine value_ (w1 := ?_) (v := ?_) (by rfl) rfl ?_ ?_
          rotate_left 2
          · go_simp
            constructor
            · rfl
            · rfl
          refine hK.out _ _ ⟨(Ws.below hHeld.1 (below_new _)), (below_then hHeld.2.1 (Below.size hHeld.2.1) (below_new _)), (pw_cell_below (below_new _) hHeld.2.2.1), (pw_cell_below (below_new _) hHeld.2.2.2.1), trivial⟩ (fun hHeld => ?_)
          clear hK K
          refine norm_ (a' := ?_) ?_ ?_
          rotate_left
          · show Act.put _ (some 82) _ = _
            simp only [Act.put, List.setIfInBounds_toArray, List.set_cons_zero, List.set_cons_succ, i64_w, i32_w]
            rfl
          refine last_ (i := 30) (N := some 83) #[true, true, true, true, true, true, true, true, true, true, true, true, true, true, true, true, true, true, true, true, true, true, true, true, true, true, true, true, true, true, true, false] rfl rfl (one_of HT_.out (by kernel_rfl)) (by decide) (fun K hK => ?_)
          refine app_ws_step (w0 := wo) wo.heap.size (by rfl) (.tmp 53) (.tmp 82) (by rfl) _ (grow blk k) [addW [s1 x2, x7, s0 x15, x16]] _ _ _ (by rfl) (by rfl) hHeld.1 (Ws.read (Ws.one _ wo.heap.size (w8.heap.size + 1) (by simp) (by have := HWs.out.size; simp; omega) _ _ rfl)).1 hHeld.2.1 (Below.size hHeld.2.1) (by rw [HLEN.out]; omega) ?_
          intro zz A10 c10 w10 hz10 hB10 hb10 hs10 hg10
          refine hK.out _ _ ?_
          clear hK K
          refine norm_ (a' := ?_) ?_ ?_
          rotate_left
          · show Act.put _ (some 83) _ = _
            simp only [Act.put, List.setIfInBounds_toArray, List.set_cons_zero, List.set_cons_succ, i64_w, i32_w]
            rfl
          refine pure_ (i := 31) (N := some 7) (v := ?_) (a' := ?_) #[true, true, true, true, true, true, true, true, true, true, true, true, true, true, true, true, true, true, true, true, true, true, true, true, true, true, true, true, true, true, true, true] rfl rfl (any_of HT_.out (by kernel_rfl)) (fun _ _ _ h => h) (Or.inl ⟨by rfl, ?_⟩) ?_ ?_
          rotate_left
          · intro w'
            go_simp
            with_reducible rfl
          rotate_left
          · simp only [Act.put, List.setIfInBounds_toArray, List.set_cons_zero, List.set_cons_succ, i64_w, i32_w]
            rfl
          refine done_ (done_of HT_.out (by kernel_rfl)) ?_
          go_wp2
          go_roundw
          case rel => exact ⟨k + 1, _, A10, c10, by omega, ⟨by rw [hz10.out, List.length_append, HLEN.out, HQ.out]; rfl⟩, by rw [hz10.out, List.length_append, HLEN.out]; go_num, rfl, ⟨by rw [HX.out, ← hz10.out]; exact hB10.out⟩, hb10⟩
          case measure => simp [intOf]; omega
        · obtain rfl : k = 48 := by omega
          obtain rfl : q = 64 := HQ.out
          clear hlt
          obtain ⟨g7, hA8, hg71, hg72⟩ := HO.out.form (by decide)
          subst hA8
          have HF1 := Aside0.mk (HF.out.below HW.out)
          have HCW := Aside0.mk (HO.out.read.1)
          rw [show ((64 : Nat) : Int) = 64 from rfl]
          go_wp2_with (at_builtin; refine app_ws (w0 := wo) wo.heap.size rfl (.tmp 84) (.tmp 85) rfl _ [] s.list _ 8 8 rfl rfl (Ws.emp _ wo.heap.size _ rfl HW.out.size) (Kd.C_alloc (blk_C32 HF1.out.h 8 rfl (by decide)) _) (HW.out.alloc HW.out.size _) (by have := HW.out.size; simp; omega) (by decide) ?_; intro zz A11 c11 w11 hz11 hB11 hb11 hs11 hg11)
          obtain rfl : zz = s.list := hz11.out
          rw [st_len] at hB11 ⊢
          obtain ⟨vb, hA11, hvb1, hvb2⟩ := hB11.out.form (by decide)
          subst hA11
          have HV := Aside0.mk hB11.out.read.1
          have HVB := Aside0.mk (show w.heap.size + 3 ≤ vb by have := blk_lt HF.out.h; omega)
          have HF2 := Aside0.mk (HF.out.below hb11.out)
          have HCW2 := Aside0.mk (show K32.C w11 (some ⟨g7, 0, none⟩) 64 (spread blk) from Ws.far (HO.out.alloc _) hg11.out (by show g7 ≠ wr.heap.size; omega))
          go_loopw [11, 12, 13, 14, 15, 16, 17, 18] (fun v i _ _ _ _ _ _ wr => ∃ (t vb vc : Nat), t ≤ 64 ∧ w.heap.size + 3 ≤ vb ∧ i = .int .i64 t ∧ v = .slice (some ⟨vb, 0, none⟩) 8 vc ∧ Aside0 (K32.C wr (some ⟨vb, 0, none⟩) 8 (rnds blk s t).list) ∧ Aside0 (K32.C wr (some ⟨g7, 0, none⟩) 64 (spread blk)) ∧ Aside0 (RefF w wr s.list g N (padded l))) (fun _ i _ _ _ _ _ _ _ => 64 - (intOf i).toNat)
          case atStart => exact ⟨0, vb, c11, Nat.zero_le _, HVB.out, rfl, rfl, HV, HCW2, HF2⟩
          case round =>
            clear HV HF2 HCW2 hB11 hb11 hg11 hs11
            obtain ⟨t, vb, vc, ht, hvb, rfl, rfl, HV, HC7, HF2⟩ := hrel
            by_cases hlt : t < 64
            ·
              obtain ⟨r, hr⟩ : ∃ r, r = rnds blk s t := ⟨_, rfl⟩
              rw [← hr] at HV
              obtain ⟨x, hx⟩ : ∃ x, x = (spread blk).getD t 0 := ⟨_, rfl⟩
              obtain ⟨kk, hkk⟩ : ∃ x, x = kt.getD t 0 := ⟨_, rfl⟩
              have HN := Aside0.mk (show rnds blk s (t + 1) = rnd r kk x by rw [hr, hx, hkk]; rfl)
              obtain ⟨ad, e1, cx⟩ := at_wn HC7.out t hlt
              injection e1 with e1
              subst e1
              rw [add_plain, ← hx] at cx
              have ck := blk32 HF2.out.k t (by rw [kt_len]; exact hlt)
              rw [← hkk] at ck
              obtain ⟨v0, v1, v2, v3, v4, v5, v6, v7⟩ := st_cells HV.out
              have hb4 : (r.e.toNat : Int) ≤ 4294967295 := by have := r.e.isLt; omega
              have i64 : (t : Int) < 64 := by omega
              clear hr hx hkk
              go_wp2
              go_quiet (fail)
              go_wp2
              go_quiet (fail)
              go_wp2
              go_quiet (fail)
              go_wp2
              rw [ch_int, maj_int]
              obtain ⟨ch, hch⟩ : ∃ x, x = (r.e &&& r.f ^^^ ~~~ r.e &&& r.g) := ⟨_, rfl⟩
              obtain ⟨mj, hmj⟩ : ∃ x, x = (r.a &&& r.b ^^^ r.a &&& r.c ^^^ r.b &&& r.c) := ⟨_, rfl⟩
              rw [← hch, ← hmj]
              have HCH := Aside0.mk hch
              have HMJ := Aside0.mk hmj
              clear hch hmj
              refine start_ (n := 23) (S := fun w' => K32.C w' (some ⟨vb, 0, none⟩) 8 r.list ∧ K32.C w' (some ⟨g7, 0, none⟩) 64 (spread blk) ∧ RefF w w' s.list g N (padded l) ∧ w'.cell? ⟨vb, 7, none⟩ = some (.int .u32 (r.h.toNat : Int)) ∧ w'.cell? ⟨w.heap.size + 1, t, none⟩ = some (.int .u32 (kk.toNat : Int)) ∧ w'.cell? ⟨g7, t, none⟩ = some (.int .u32 (x.toNat : Int)) ∧ True) (ds := []) #[false, false, false, false, false, false, false, false, false, false, false, false, false, false, false, false, false, false, false, false, false, false, false] (by kernel_rfl) rfl rfl ⟨Kd.C_below HV.out (below_drew (pw_below_drewN (pw_below_drewN (pw_below_drewN (Below.refl _ _) _) _) _)), Kd.C_below HC7.out (below_drew (pw_below_drewN (pw_below_drewN (pw_below_drewN (Below.refl _ _) _) _) _)), HF2.out.below (below_drew (pw_below_drewN (pw_below_drewN (pw_below_drewN (Below.refl _ _) _) _) _)), v7, ck, cx, trivial⟩ (fun hHeld => ?_)
              refine with_tabW f15_r20.tab20 f15_r20.bits20 (fun HT_ HW_ => ?_)
              clear v0 v1 v2 v3 v4 v5 v6 v7 ck cx HV HC7 HF2
              refine pure_ (i := 0) (N := some 128) (v := ?_) (a' := ?_) #[true, false, false, false, false, false, false, false, false, false, false, false, false, false, false, false, false, false, false, false, false, false, false] rfl rfl (any_of HT_.out (by kernel_rfl)) (fun _ _ _ h => h) (Or.inl ⟨by rfl, ?_⟩) ?_ ?_
              rotate_left
              · intro w'
                go_simp
                with_reducible rfl
              rotate_left
              · simp only [Act.put, List.setIfInBounds_toArray, List.set_cons_zero, List.set_cons_succ, i64_w, i32_w]
                rfl
              refine pure_ (i := 1) (N := some 129) (v := ?_) (a' := ?_) #[true, true, false, false, false, false, false, false, false, false, false, false, false, false, false, false, false, false, false, false, false, false, false] rfl rfl (any_of HT_.out (by kernel_rfl)) (fun _ _ _ h => h) (Or.inl ⟨by rfl, ?_⟩) ?_ ?_
              rotate_left
              · intro w'
                go_simp
                with_reducible rfl
              rotate_left
              · simp only [Act.put, List.setIfInBounds_toArray, List.set_cons_zero, List.set_cons_succ, i64_w, i32_w]
                rfl
              refine pure_ (i := 3) (N := some 131) (v := ?_) (a' := ?_) #[true, true, false, true, false, false, false, false, false, false, false, false, false, false, false, false, false, false, false, false, false, false, false] rfl rfl (any_of HT_.out (by kernel_rfl)) (fun _ _ _ h => h) (Or.inl ⟨by rfl, ?_⟩) ?_ ?_
              rotate_left
              · intro w'
                go_simp
                with_reducible rfl
              rotate_left
              · simp only [Act.put, List.setIfInBounds_toArray, List.set_cons_zero, List.set_cons_succ, i64_w, i32_w]
                rfl
              refine pure_ (i := 5) (N := some 133) (v := ?_) (a' := ?_) #[true, true, false, true, false, true, false, false, false, false, false, false, false, false, false, false, false, false, false, false, false, false, false] rfl rfl (any_of HT_.out (by kernel_rfl)) (fun _ _ _ h => h) (Or.inl ⟨by rfl, ?_⟩) ?_ ?_
              rotate_left
              · intro w'
                go_simp
                with_reducible rfl
              rotate_left
              · simp only [Act.put, List.setIfInBounds_toArray, List.set_cons_zero, List.set_cons_succ, i64_w, i32_w]
                rfl
              refine pure_ (i := 8) (N := some 136) (v := ?_) (a' := ?_) #[true, true, false, true, false, true, false, false, true, false, false, false, false, false, false, false, false, false, false, false, false, false, false] rfl rfl (any_of HT_.out (by kernel_rfl)) (fun _ _ _ h => h) (Or.inl ⟨by rfl, ?_⟩) ?_ ?_
              rotate_left
              · intro w'
                go_simp
                with_reducible rfl
              rotate_left
              · simp only [Act.put, List.setIfInBounds_toArray, List.set_cons_zero, List.set_cons_succ, i64_w, i32_w]
                rfl
              refine pure_ (i := 11) (N := some 139) (v := ?_) (a' := ?_) #[true, true, false, true, false, true, false, false, true, false, false, true, false, false, false, false, false, false, false, false, false, false, false] rfl rfl (any_of HT_.out (by kernel_rfl)) (fun _ _ _ h => h) (Or.inl ⟨by rfl, ?_⟩) ?_ ?_
              rotate_left
              · intro w'
                go_simp
                with_reducible rfl
              rotate_left
              · simp only [Act.put, List.setIfInBounds_toArray, List.set_cons_zero, List.set_cons_succ, i64_w, i32_w]
                rfl
              refine pure_ (i := 12) (N := some 140) (v := ?_) (a' := ?_) #[true, true, false, true, false, true, false, false, true, false, false, true, true, false, false, false, false, false, false, false, false, false, false] rfl rfl (any_of HT_.out (by kernel_rfl)) (fun _ _ _ h => h) (Or.inl ⟨by rfl, ?_⟩) ?_ ?_
              rotate_left
              · intro w'
                go_simp
                with_reducible rfl
              rotate_left
              · simp only [Act.put, List.setIfInBounds_toArray, List.set_cons_zero, List.set_cons_succ, i64_w, i32_w]
                rfl
              refine pure_ (i := 13) (N := some 141) (v := ?_) (a' := ?_) #[true, true, false, true, false, true, false, false, true, false, false, true, true, true, false, false, false, false, false, false, false, false, false] rfl rfl (any_of HT_.out (by kernel_rfl)) (fun _ _ _ h => h) (Or.inl ⟨by rfl, ?_⟩) ?_ ?_
              rotate_left
              · intro w'
                go_simp
                with_reducible rfl
              rotate_left
              · simp only [Act.put, List.setIfInBounds_toArray, List.set_cons_zero, List.set_cons_succ, i64_w, i32_w]
                rfl
              refine pure_ (i := 14) (N := some 142) (v := ?_) (a' := ?_) #[true, true, false, true, false, true, false, false, true, false, false, true, true, true, true, false, false, false, false, false, false, false, false] rfl rfl (any_of HT_.out (by kernel_rfl)) (fun _ _ _ h => h) (Or.inl ⟨by rfl, ?_⟩) ?_ ?_
              rotate_left
              · intro w'
                go_simp
                with_reducible rfl
              rotate_left
              · simp only [Act.put, List.setIfInBounds_toArray, List.set_cons_zero, List.set_cons_succ, i64_w, i32_w]
                rfl
              refine pure_ (i := 16) (N := some 144) (v := ?_) (a' := ?_) #[true, true, false, true, false, true, false, false, true, false, false, true, true, true, true, false, true, false, false, false, false, false, false] rfl rfl (any_of HT_.out (by kernel_rfl)) (fun _ _ _ h => h) (Or.inl ⟨by rfl, ?_⟩) ?_ ?_
              rotate_left
              · intro w'
                go_simp
                with_reducible rfl
              rotate_left
              · simp only [Act.put, List.setIfInBounds_toArray, List.set_cons_zero, List.set_cons_succ, i64_w, i32_w]
                rfl
              refine pure_ (i := 17) (N := some 145) (v := ?_) (a' := ?_) #[true, true, false, true, false, true, false, false, true, false, false, true, true, true, true, false, true, true, false, false, false, false, false] rfl rfl (any_of HT_.out (by kernel_rfl)) (fun _ _ _ h => h) (Or.inl ⟨by rfl, ?_⟩) ?_ ?_
              rotate_left
              · intro w'
                go_simp
                with_reducible rfl
              rotate_left
              · simp only [Act.put, List.setIfInBounds_toArray, List.set_cons_zero, List.set_cons_succ, i64_w, i32_w]
                rfl
              refine pure_ (i := 18) (N := some 146) (v := ?_) (a' := ?_) #[true, true, false, true, false, true, false, false, true, false, false, true, true, true, true, false, true, true, true, false, false, false, false] rfl rfl (any_of HT_.out (by kernel_rfl)) (fun _ _ _ h => h) (Or.inl ⟨by rfl, ?_⟩) ?_ ?_
              rotate_left
              · intro w'
                go_simp
                with_reducible rfl
              rotate_left
              · simp only [Act.put, List.setIfInBounds_toArray, List.set_cons_zero, List.set_cons_succ, i64_w, i32_w]
                rfl
              refine take_ (i := 2) (N := some 130) (v := ?_) (a' := ?_) #[true, true, true, true, false, true, false, false, true, false, false, true, true, true, true, false, true, true, true, false, false, false, false] rfl rfl (take_ofW HT_.out HW_.out (by kernel_rfl)) (fun _ _ _ h => h) (Or.inl ⟨by rfl, ?_⟩) hHeld ?_ ?_
              rotate_left
              · intro w' s0
                have e := s0.2.2.2.1
                go_simp
                with_reducible rfl
              rotate_left
              · simp only [Act.put, List.setIfInBounds_toArray, List.set_cons_zero, List.set_cons_succ, i64_w, i32_w]
                rfl
              refine take_ (i := 15) (N := some 143) (v := ?_) (a' := ?_) #[true, true, true, true, false, true, false, false, true, false, false, true, true, true, true, true, true, true, true, false, false, false, false] rfl rfl (take_ofW HT_.out HW_.out (by kernel_rfl)) (fun _ _ _ h => h) (Or.inl ⟨by rfl, ?_⟩) hHeld ?_ ?_
              rotate_left
              · intro w' s0
                have e := s0.2.2.2.2.1
                go_simp
                with_reducible rfl
              rotate_left
              · simp only [Act.put, List.setIfInBounds_toArray, List.set_cons_zero, List.set_cons_succ, i64_w, i32_w]
                rfl
              refine take_ (i := 19) (N := some 147) (v := ?_) (a' := ?_) #[true, true, true, true, false, true, false, false, true, false, false, true, true, true, true, true, true, true, true, true, false, false, false] rfl rfl (take_ofW HT_.out HW_.out (by kernel_rfl)) (fun _ _ _ h => h) (Or.inl ⟨by rfl, ?_⟩) hHeld ?_ ?_
              rotate_left
              · intro w' s0
                have e := s0.2.2.2.2.2.1
                go_simp
                with_reducible rfl
              rotate_left
              · simp only [Act.put, List.setIfInBounds_toArray, List.set_cons_zero, List.set_cons_succ, i64_w, i32_w]
                rfl
              refine one_ (i := 4) (N := some 132) #[true, true, true, true, true, true, false, false, true, false, false, true, true, true, true, true, true, true, true, true, false, false, false] rfl rfl (one_of HT_.out (by kernel_rfl)) (by decide) (fun K hK => ?_)
              refine goes_ Tryd.func57 (by kernel_rfl) rfl #[.int .u32 (r.e.toNat : Int), .int .i64 6] (by rfl) rfl rfl (by (try simp only [List.map_toArray, List.map_cons, List.map_nil]); first | done | rfl) ?_
              with_reducible refine (rotr_b r.e 6 6 rfl (by decide) (by decide) _).mono ?_
              rintro e w5 ⟨rfl, hb⟩
              refine ⟨_, rfl, ?_⟩
              refine hK.out _ _ ⟨(Kd.C_below hHeld.1 hb), (Kd.C_below hHeld.2.1 hb), (RefF.below hHeld.2.2.1 hb), (pw_cell_below hb hHeld.2.2.2.1), (pw_cell_below hb hHeld.2.2.2.2.1), (pw_cell_below hb hHeld.2.2.2.2.2.1), trivial⟩ (fun hHeld => ?_)
              clear hK K
              refine norm_ (a' := ?_) ?_ ?_
              rotate_left
              · show Act.put _ (some 132) _ = _
                simp only [Act.put, List.setIfInBounds_toArray, List.set_cons_zero, List.set_cons_succ, i64_w, i32_w]
                rfl
              refine one_ (i := 6) (N := some 134) #[true, true, true, true, true, true, true, false, true, false, false, true, true, true, true, true, true, true, true, true, false, false, false] rfl rfl (one_of HT_.out (by kernel_rfl)) (by decide) (fun K hK => ?_)
              refine goes_ Tryd.func57 (by kernel_rfl) rfl #[.int .u32 (r.e.toNat : Int), .int .i64 11] (by rfl) rfl rfl (by (try simp only [List.map_toArray, List.map_cons, List.map_nil]); first | done | rfl) ?_
              with_reducible refine (rotr_b r.e 11 11 rfl (by decide) (by decide) _).mono ?_
              rintro e w6 ⟨rfl, hb⟩
              refine ⟨_, rfl, ?_⟩
              refine hK.out _ _ ⟨(Kd.C_below hHeld.1 hb), (Kd.C_below hHeld.2.1 hb), (RefF.below hHeld.2.2.1 hb), (pw_cell_below hb hHeld.2.2.2.1), (pw_cell_below hb hHeld.2.2.2.2.1), (pw_cell_below hb hHeld.2.2.2.2.2.1), trivial⟩ (fun hHeld => ?_)
              clear hK K
              refine norm_ (a' := ?_) ?_ ?_
              rotate_left
              · show Act.put _ (some 134) _ = _
                simp only [Act.put, List.setIfInBounds_toArray, List.set_cons_zero, List.set_cons_succ, i64_w, i32_w]
                rfl
              refine pure_ (i := 7) (N := some 135) (v := ?_) (a' := ?_) #[true, true, true, true, true, true, true, true, true, false, false, true, true, true, true, true, true, true, true, true, false, false, false] rfl rfl (any_of HT_.out (by kernel_rfl)) (fun _ _ _ h => h) (Or.inl ⟨by rfl, ?_⟩) ?_ ?_
              rotate_left
              · intro w'
                go_simp
                with_reducible rfl
              rotate_left
              · simp only [Act.put, List.setIfInBounds_toArray, List.set_cons_zero, List.set_cons_succ, i64_w, i32_w]
                rfl
              refine one_ (i := 9) (N := some 137) #[true, true, true, true, true, true, true, true, true, true, false, true, true, true, true, true, true, true, true, true, false, false, false] rfl rfl (one_of HT_.out (by kernel_rfl)) (by decide) (fun K hK => ?_)
              refine goes_ Tryd.func57 (by kernel_rfl) rfl #[.int .u32 (r.e.toNat : Int), .int .i64 25] (by rfl) rfl rfl (by (try simp only [List.map_toArray, List.map_cons, List.map_nil]); first | done | rfl) ?_
              with_reducible refine (rotr_b r.e 25 25 rfl (by decide) (by decide) _).mono ?_
              rintro e w7 ⟨rfl, hb⟩
              refine ⟨_, rfl, ?_⟩
              refine hK.out _ _ ⟨(Kd.C_below hHeld.1 hb), (Kd.C_below hHeld.2.1 hb), (RefF.below hHeld.2.2.1 hb), (pw_cell_below hb hHeld.2.2.2.1), (pw_cell_below hb hHeld.2.2.2.2.1), (pw_cell_below hb hHeld.2.2.2.2.2.1), trivial⟩ (fun hHeld => ?_)
              clear hK K
              refine norm_ (a' := ?_) ?_ ?_
              rotate_left
              · show Act.put _ (some 137) _ = _
                simp only [Act.put, List.setIfInBounds_toArray, List.set_cons_zero, List.set_cons_succ, i64_w, i32_w]
                rfl
              refine pure_ (i := 10) (N := some 138) (v := ?_) (a' := ?_) #[true, true, true, true, true, true, true, true, true, true, true, true, true, true, true, true, true, true, true, true, false, false, false] rfl rfl (any_of HT_.out (by kernel_rfl)) (fun _ _ _ h => h) (Or.inl ⟨by rfl, ?_⟩) ?_ ?_
              rotate_left
              · intro w'
                go_simp
                with_reducible rfl
              rotate_left
              · simp only [Act.put, List.setIfInBounds_toArray, List.set_cons_zero, List.set_cons_succ, i64_w, i32_w]
                rfl
              refine one_ (i := 20) (N := some 148) #[true, true, true, true, true, true, true, true, true, true, true, true, true, true, true, true, true, true, true, true, true, false, false] rfl rfl (one_of HT_.out (by kernel_rfl)) (by decide) (fun K hK => ?_)
              refine value_ (w1 := ?_) (v := ?_) (by rfl) rfl ?_ ?_
              rotate_left 2
              · go_simp
                constructor
                · rfl
                · rfl
              refine hK.out _ _ ⟨(Kd.C_below hHeld.1 (below_new _)), (Kd.C_below hHeld.2.1 (below_new _)), (RefF.below hHeld.2.2.1 (below_new _)), (pw_cell_below (below_new _) hHeld.2.2.2.1), (pw_cell_below (below_new _) hHeld.2.2.2.2.1), (pw_cell_below (below_new _) hHeld.2.2.2.2.2.1), trivial⟩ (fun hHeld => ?_)
              clear hK K
              refine norm_ (a' := ?_) ?_ ?_
              rotate_left
              · show Act.put _ (some 148) _ = _
                simp only [Act.put, List.setIfInBounds_toArray, List.set_cons_zero, List.set_cons_succ, i64_w, i32_w]
                rfl
              refine one_ (i := 21) (N := some 149) #[true, true, true, true, true, true, true, true, true, true, true, true, true, true, true, true, true, true, true, true, true, true, false] rfl rfl (one_of HT_.out (by kernel_rfl)) (by decide) (fun K hK => ?_)
              refine goes_ Tryd.func56 (by kernel_rfl) rfl #[.slice (some ⟨w7.heap.size, 0, none⟩) 5 5] (by rfl) rfl rfl (by (try simp only [List.map_toArray, List.map_cons, List.map_nil]); first | done | rfl) ?_
              with_reducible refine (add_v _ 5 5 [r.h, turn r.e 6 ^^^ turn r.e 11 ^^^ turn r.e 25, ch, kk, x] _ rfl (Ws.read (Ws.lit w7 0 _ rfl (Nat.zero_le _) [r.h, turn r.e 6 ^^^ turn r.e 11 ^^^ turn r.e 25, ch, kk, x] 5 rfl _ (t1_cells _ _ _ _ _) (by decide))).1 (by decide)).mono ?_
              rintro e w9 ⟨rfl, rfl⟩
              refine ⟨_, rfl, ?_⟩
              refine hK.out _ _ ⟨(Kd.C_below hHeld.1 (Below.refl _ _)), (Kd.C_below hHeld.2.1 (Below.refl _ _)), (RefF.below hHeld.2.2.1 (Below.refl _ _)), (pw_cell_below (Below.refl _ _) hHeld.2.2.2.1), (pw_cell_below (Below.refl _ _) hHeld.2.2.2.2.1), (pw_cell_below (Below.refl _ _) hHeld.2.2.2.2.2.1), trivial⟩ (fun hHeld => ?_)
              clear hK K
              refine norm_ (a' := ?_) ?_ ?_
              rotate_left
              · show Act.put _ (some 149) _ = _
                simp only [Act.put, List.setIfInBounds_toArray, List.set_cons_zero, List.set_cons_succ, i64_w, i32_w]
                rfl
              refine pure_ (i := 22) (N := some 17) (v := ?_) (a' := ?_) #[true, true, true, true, true, true, true, true, true, true, true, true, true, true, true, true, true, true, true, true, true, true, true] rfl rfl (any_of HT_.out (by kernel_rfl)) (fun _ _ _ h => h) (Or.inl ⟨by rfl, ?_⟩) ?_ ?_
              rotate_left
              · intro w'
                go_simp
                with_reducible rfl
              rotate_left
              · simp only [Act.put, List.setIfInBounds_toArray, List.set_cons_zero, List.set_cons_succ, i64_w, i32_w]
                rfl
              refine done_ (done_of HT_.out (by kernel_rfl)) ?_
              rw [addW5]
              obtain ⟨t1, ht1⟩ : ∃ a, a = r.h + (turn r.e 6 ^^^ turn r.e 11 ^^^ turn r.e 25) + ch + kk + x := ⟨_, rfl⟩
              rw [← ht1]
              have HT1 := Aside0.mk ht1
              obtain ⟨v0, v1, v2, v3, v4, v5, v6, v7⟩ := st_cells hHeld.1
              have HV := Aside0.mk hHeld.1
              have HC7 := Aside0.mk hHeld.2.1
              have HF2 := Aside0.mk hHeld.2.2.1
              clear ht1 hHeld
              generalize w7.alloc _ = wz at v0 v1 v2 v3 v4 v5 v6 v7 HV HC7 HF2 ⊢
              go_wp2_with (first
                | (go_at_call 57; refine (rotr_v r.a _ _ rfl (by decide) (by decide) _).mono ?_; rintro e w' ⟨rfl, d, rfl⟩)
                | (go_at_call 56; refine (add_v _ 2 2 [turn r.a 2 ^^^ turn r.a 13 ^^^ turn r.a 22, mj] _ rfl (Ws.read (Ws.lit _ 0 _ rfl (Nat.zero_le _) [turn r.a 2 ^^^ turn r.a 13 ^^^ turn r.a 22, mj] 2 rfl _ (t2_cells _ _) (by decide))).1 (by decide)).mono ?_; rintro e w' ⟨rfl, rfl⟩))
              rw [addW2]
              obtain ⟨t2, ht2⟩ : ∃ a, a = (turn r.a 2 ^^^ turn r.a 13 ^^^ turn r.a 22) + mj := ⟨_, rfl⟩
              rw [show (turn r.a 2 ^^^ turn r.a 13 ^^^ turn r.a 22) + mj = t2 from ht2.symm]
              have HT2 := Aside0.mk ht2
              generalize hwy : World.alloc (World.drewN wz _) _ = wy
              have HWY := Aside0.mk (show w.heap.size + 3 ≤ wy.heap.size by rw [← hwy]; have := blk_lt HF2.out.h; simp; omega)
              have hbz : Below wz.heap.size wz wy := by rw [← hwy]; exact below_alloc (pw_below_drewN (Below.refl wz.heap.size wz) _) _
              replace v1 := pw_cell_below hbz v1
              replace v2 := pw_cell_below hbz v2
              replace v3 := pw_cell_below hbz v3
              replace v5 := pw_cell_below hbz v5
              replace v6 := pw_cell_below hbz v6
              have HC8 := Aside0.mk (Kd.C_below HC7.out hbz)
              have HF3 := Aside0.mk (HF2.out.below hbz)
              clear v0 v4 v7 HV HC7 HF2 hbz hwy ht2
              go_region_held3 (fun w' => w'.cell? ⟨vb, 1, none⟩ = some (.int .u32 (r.b.toNat : Int)) ∧ w'.cell? ⟨vb, 2, none⟩ = some (.int .u32 (r.c.toNat : Int)) ∧ w'.cell? ⟨vb, 3, none⟩ = some (.int .u32 (r.d.toNat : Int)) ∧ w'.cell? ⟨vb, 5, none⟩ = some (.int .u32 (r.f.toNat : Int)) ∧ w'.cell? ⟨vb, 6, none⟩ = some (.int .u32 (r.g.toNat : Int))) (first | exact keep5 (below_drew (Below.refl _ _)) v1 v2 v3 v5 v6 | exact keep5 (below_drew (below_new _)) v1 v2 v3 v5 v6 | exact keep5 (below_drew (below_alloc (below_new _) _)) v1 v2 v3 v5 v6 | exact keep5 (below_drew (below_alloc (below_alloc (below_new _) _) _)) v1 v2 v3 v5 v6) ((go_at_call 56; first | ((with_reducible refine (add_v _ 2 2 [t1, t2] _ rfl (pairC0 _ _ _) (by decide)).mono ?_); rintro e w' ⟨rfl, rfl⟩) | ((with_reducible refine (add_v _ 2 2 [t1, t2] _ rfl (pairC1 _ _ _ _) (by decide)).mono ?_); rintro e w' ⟨rfl, rfl⟩) | ((with_reducible refine (add_v _ 2 2 [t1, t2] _ rfl (pairC2 _ _ _ _) (by decide)).mono ?_); rintro e w' ⟨rfl, rfl⟩) | ((with_reducible refine (add_v _ 2 2 [r.d, t1] _ rfl (pairC0 _ _ _) (by decide)).mono ?_); rintro e w' ⟨rfl, rfl⟩) | ((with_reducible refine (add_v _ 2 2 [r.d, t1] _ rfl (pairC1 _ _ _ _) (by decide)).mono ?_); rintro e w' ⟨rfl, rfl⟩) | ((with_reducible refine (add_v _ 2 2 [r.d, t1] _ rfl (pairC2 _ _ _ _) (by decide)).mono ?_); rintro e w' ⟨rfl, rfl⟩)))
              all_goals
                go_wp2
                go_roundw
                case rel => exact ⟨t + 1, wy.heap.size + 2, 8, by omega, by have := HWY.out; omega, by go_num, rfl, ⟨by rw [HN.out, rnd_cells r kk x ch mj t1 t2 HCH.out HMJ.out HT1.out HT2.out]; exact blk_C32 (blk_drew (blk_new2 _ _ _ _ _)) 8 rfl (by decide)⟩, ⟨Kd.C_below HC8.out (below_drew (below_alloc (below_alloc (below_new _) _) _))⟩, ⟨HF3.out.below (below_drew (below_alloc (below_alloc (below_new _) _) _))⟩⟩
                case measure => simp [intOf]; omega
            · obtain rfl : t = 64 := by omega
              clear hlt HC7
              obtain ⟨r, hr⟩ : ∃ r, r = rnds blk s 64 := ⟨_, rfl⟩
              rw [← hr] at HV
              have HP := Aside0.mk (show behind s blk = plus r s by rw [hr]; rfl)
              rw [show ((64 : Nat) : Int) = 64 from rfl]
              clear hr
              go_wp2
              go_loopw [19] (fun i wr => ∃ t : Nat, t ≤ 8 ∧ i = .int .i64 t ∧ Aside0 (K32.C wr (some ⟨vb, 0, none⟩) 8 r.list) ∧ Aside0 (RefF w wr (mixh r s t) g N (padded l))) (fun i _ => 8 - (intOf i).toNat)
              case atStart => exact ⟨0, Nat.zero_le _, rfl, HV, HF2⟩
              case round =>
                clear HV HF2
                obtain ⟨t, ht, rfl, HV, HF2⟩ := hrel
                by_cases hlt : t < 8
                · have hm := mixh_at r s t hlt
                  have c1 := blk32 HF2.out.h t (by rw [mixh_len _ _ _ ht]; exact hlt)
                  have f1 := blk_frozen HF2.out.h t
                  obtain ⟨ad, e1, c2⟩ := at_wn HV.out t hlt
                  injection e1 with e1
                  subst e1
                  rw [add_plain] at c2
                  rw [hm.1] at c1
                  obtain ⟨x, hx⟩ : ∃ x, x = s.list.getD t 0 := ⟨_, rfl⟩
                  obtain ⟨y, hy⟩ : ∃ x, x = r.list.getD t 0 := ⟨_, rfl⟩
                  rw [← hx] at c1
                  rw [← hy] at c2
                  have HM := Aside0.mk (show (mixh r s t).set t (addW [x, y]) = mixh r s (t + 1) by rw [hx, hy]; exact hm.2)
                  have h8 : (t : Int) < 8 := by omega
                  have HB1 := Aside0.mk (fun (o : Obj) => below_drew (below_new (w := wr) o))
                  clear hx hy hm
                  go_wp2
                  refine start_ (n := 14) (S := fun w' => w'.cell? ⟨w.heap.size + 2, t, none⟩ = some (.int .u32 (x.toNat : Int)) ∧ w'.cell? ⟨vb, t, none⟩ = some (.int .u32 (y.toNat : Int)) ∧ True) (ds := [13]) #[false, false, false, false, false, false, false, false, false, false, false, false, false, false] (by kernel_rfl) rfl rfl ⟨c1, c2, trivial⟩ (fun hHeld => ?_)
                  refine with_tabW f15_r26.tab26 f15_r26.bits26 (fun HT_ HW_ => ?_)
                  refine pure_ (i := 0) (N := some 190) (v := ?_) (a' := ?_) #[true, false, false, false, false, false, false, false, false, false, false, false, false, false] rfl rfl (any_of HT_.out (by kernel_rfl)) (fun _ _ _ h => h) (Or.inl ⟨by rfl, ?_⟩) ?_ ?_
                  rotate_left
                  · intro w'
                    go_simp
                    with_reducible rfl
                  rotate_left
                  · simp only [Act.put, List.setIfInBounds_toArray, List.set_cons_zero, List.set_cons_succ, i64_w, i32_w]
                    rfl
                  refine pure_ (i := 1) (N := some 191) (v := ?_) (a' := ?_) #[true, true, false, false, false, false, false, false, false, false, false, false, false, false] rfl rfl (any_of HT_.out (by kernel_rfl)) (fun _ _ _ h => h) (Or.inl ⟨by rfl, ?_⟩) ?_ ?_
                  rotate_left
                  · intro w'
                    go_simp
                    with_reducible rfl
                  rotate_left
                  · simp only [Act.put, List.setIfInBounds_toArray, List.set_cons_zero, List.set_cons_succ, i64_w, i32_w]
                    rfl
                  refine pure_ (i := 2) (N := some 192) (v := ?_) (a' := ?_) #[true, true, true, false, false, false, false, false, false, false, false, false, false, false] rfl rfl (any_of HT_.out (by kernel_rfl)) (fun _ _ _ h => h) (Or.inl ⟨by rfl, ?_⟩) ?_ ?_
                  rotate_left
                  · intro w'
                    go_simp
                    with_reducible rfl
                  rotate_left
                  · simp only [Act.put, List.setIfInBounds_toArray, List.set_cons_zero, List.set_cons_succ, i64_w, i32_w]
                    rfl
                  refine pure_ (i := 3) (N := some 193) (v := ?_) (a' := ?_) #[true, true, true, true, false, false, false, false, false, false, false, false, false, false] rfl rfl (any_of HT_.out (by kernel_rfl)) (fun _ _ _ h => h) (Or.inl ⟨by rfl, ?_⟩) ?_ ?_
                  rotate_left
                  · intro w'
                    go_simp
                    with_reducible rfl
                  rotate_left
                  · simp only [Act.put, List.setIfInBounds_toArray, List.set_cons_zero, List.set_cons_succ, i64_w, i32_w]
                    rfl
                  refine pure_ (i := 4) (N := some 194) (v := ?_) (a' := ?_) #[true, true, true, true, true, false, false, false, false, false, false, false, false, false] rfl rfl (any_of HT_.out (by kernel_rfl)) (fun _ _ _ h => h) (Or.inl ⟨by rfl, ?_⟩) ?_ ?_
                  rotate_left
                  · intro w'
                    go_simp
                    with_reducible rfl
                  rotate_left
                  · simp only [Act.put, List.setIfInBounds_toArray, List.set_cons_zero, List.set_cons_succ, i64_w, i32_w]
                    rfl
                  refine pure_ (i := 6) (N := some 196) (v := ?_) (a' := ?_) #[true, true, true, true, true, false, true, false, false, false, false, false, false, false] rfl rfl (any_of HT_.out (by kernel_rfl)) (fun _ _ _ h => h) (Or.inl ⟨by rfl, ?_⟩) ?_ ?_
                  rotate_left
                  · intro w'
                    go_simp
                    with_reducible rfl
                  rotate_left
                  · simp only [Act.put, List.setIfInBounds_toArray, List.set_cons_zero, List.set_cons_succ, i64_w, i32_w]
                    rfl
                  refine pure_ (i := 7) (N := some 197) (v := ?_) (a' := ?_) #[true, true, true, true, true, false, true, true, false, false, false, false, false, false] rfl rfl (any_of HT_.out (by kernel_rfl)) (fun _ _ _ h => h) (Or.inl ⟨by rfl, ?_⟩) ?_ ?_
                  rotate_left
                  · intro w'
                    go_simp
                    with_reducible rfl
                  rotate_left
                  · simp only [Act.put, List.setIfInBounds_toArray, List.set_cons_zero, List.set_cons_succ, i64_w, i32_w]
                    rfl
                  refine pure_ (i := 8) (N := some 198) (v := ?_) (a' := ?_) #[true, true, true, true, true, false, true, true, true, false, false, false, false, false] rfl rfl (any_of HT_.out (by kernel_rfl)) (fun _ _ _ h => h) (Or.inl ⟨by rfl, ?_⟩) ?_ ?_
                  rotate_left
                  · intro w'
                    go_simp
                    with_reducible rfl
                  rotate_left
                  · simp only [Act.put, List.setIfInBounds_toArray, List.set_cons_zero, List.set_cons_succ, i64_w, i32_w]
                    rfl
                  refine take_ (i := 5) (N := some 195) (v := ?_) (a' := ?_) #[true, true, true, true, true, true, true, true, true, false, false, false, false, false] rfl rfl (take_ofW HT_.out HW_.out (by kernel_rfl)) (fun _ _ _ h => h) (Or.inl ⟨by rfl, ?_⟩) hHeld ?_ ?_
                  rotate_left
                  · intro w' s0
                    have e := s0.1
                    go_simp
                    with_reducible rfl
                  rotate_left
                  · simp only [Act.put, List.setIfInBounds_toArray, List.set_cons_zero, List.set_cons_succ, i64_w, i32_w]
                    rfl
                  refine take_ (i := 9) (N := some 199) (v := ?_) (a' := ?_) #[true, true, true, true, true, true, true, true, true, true, false, false, false, false] rfl rfl (take_ofW HT_.out HW_.out (by kernel_rfl)) (fun _ _ _ h => h) (Or.inl ⟨by rfl, ?_⟩) hHeld ?_ ?_
                  rotate_left
                  · intro w' s0
                    have e := s0.2.1
                    go_simp
                    with_reducible rfl
                  rotate_left
                  · simp only [Act.put, List.setIfInBounds_toArray, List.set_cons_zero, List.set_cons_succ, i64_w, i32_w]
                    rfl
                  refine one_ (i := 10) (N := some 200) #[true, true, true, true, true, true, true, true, true, true, true, false, false, false] rfl rfl (one_of HT_.out (by kernel_rfl)) (by decide) (fun K hK => ?_)
                  refine value_ (w1 := ?_) (v := ?_) (by rfl) rfl ?_ ?_
                  rotate_left 2
                  · go_simp
                    constructor
                    · rfl
                    · rfl
                  refine hK.out _ _ ⟨(pw_cell_below (below_new _) hHeld.1), (pw_cell_below (below_new _) hHeld.2.1), trivial⟩ (fun hHeld => ?_)
                  clear hK K
                  refine norm_ (a' := ?_) ?_ ?_
                  rotate_left
                  · show Act.put _ (some 200) _ = _
                    simp only [Act.put, List.setIfInBounds_toArray, List.set_cons_zero, List.set_cons_succ, i64_w, i32_w]
                    rfl
                  refine one_ (i := 11) (N := some 201) #[true, true, true, true, true, true, true, true, true, true, true, true, false, false] rfl rfl (one_of HT_.out (by kernel_rfl)) (by decide) (fun K hK => ?_)
                  refine goes_ Tryd.func56 (by kernel_rfl) rfl #[.slice (some ⟨wr.heap.size, 0, none⟩) 2 2] (by rfl) rfl rfl (by (try simp only [List.map_toArray, List.map_cons, List.map_nil]); first | done | rfl) ?_
                  with_reducible refine (add_v _ 2 2 [x, y] _ rfl (pairC0 wr x y) (by decide)).mono ?_
                  rintro e w9 ⟨rfl, rfl⟩
                  refine ⟨_, rfl, ?_⟩
                  have e5 := hHeld.1
                  have f5 : (wr.alloc (.cells #[.int .u32 (x.toNat : Int), .int .u32 (y.toNat : Int)] 52)).drew.frozen? ⟨w.heap.size + 2, t, none⟩ = false := blk_frozen (blk_below HF2.out.h (HB1.out _)) t
                  refine hK.out _ _ ⟨(pw_cell_below (Below.refl _ _) hHeld.1), (pw_cell_below (Below.refl _ _) hHeld.2.1), trivial⟩ (fun hHeld => ?_)
                  clear hK K
                  refine norm_ (a' := ?_) ?_ ?_
                  rotate_left
                  · show Act.put _ (some 201) _ = _
                    simp only [Act.put, List.setIfInBounds_toArray, List.set_cons_zero, List.set_cons_succ, i64_w, i32_w]
                    rfl
                  refine pure_ (i := 12) (N := some 202) (v := ?_) (a' := ?_) #[true, true, true, true, true, true, true, true, true, true, true, true, true, false] rfl rfl (any_of HT_.out (by kernel_rfl)) (fun _ _ _ h => h) (Or.inl ⟨by rfl, ?_⟩) ?_ ?_
                  rotate_left
                  · intro w'
                    go_simp
                    with_reducible rfl
                  rotate_left
                  · simp only [Act.put, List.setIfInBounds_toArray, List.set_cons_zero, List.set_cons_succ, i64_w, i32_w]
                    rfl
                  refine last_ (i := 13) (N := none) #[true, true, true, true, true, true, true, true, true, true, true, true, true, true] rfl rfl (one_of HT_.out (by kernel_rfl)) (by decide) (fun K hK => ?_)
                  refine skip_ (w1 := ?_) (by rfl) rfl ?_ ?_
                  rotate_left
                  · go_simp
                    rfl
                  refine hK.out _ _ ?_
                  clear hK K
                  refine done_ (done_of HT_.out (by kernel_rfl)) ?_
                  go_wp2
                  go_roundw
                  case rel => exact ⟨t + 1, by omega, by go_num, ⟨C_farw (Kd.C_below HV.out (HB1.out _)) _ (by show vb ≠ w.heap.size + 2; omega)⟩, ⟨by rw [← HM.out]; exact (HF2.out.below (HB1.out _)).set t _⟩⟩
                  case measure => simp [intOf]; omega
                · obtain rfl : t = 8 := by omega
                  clear hlt
                  have HE := Aside0.mk (show mixh r s 8 = (blocks st0 (padded l) (j + 1)).list by rw [HS.out, HP.out]; rfl)
                  go_wp2
                  go_roundw
                  case rel => exact ⟨j + 1, m + 64, by have := HM.out; have := HNK.out; omega, ⟨by have := HM.out; omega⟩, by go_num, ⟨by rw [← HE.out]; exact HF2.out⟩⟩
                  case measure => simp [intOf]; omega
    · obtain rfl : j = K := by omega
      obtain rfl : m = N := by have := HM.out; have := HNK.out; omega
      clear hlt HM
      obtain ⟨q, hq⟩ : ∃ q, q = blocks st0 (padded l) j := ⟨_, rfl⟩
      rw [← hq] at HF
      have HQ := Aside0.mk (show sum l = q.list.flatMap w4 by rw [sum, ← HNN.out, HNK.out, Nat.mul_div_cancel_left _ (by decide), run_blocks, hq]; rfl)
      have HBY := Aside0.mk (bytes_v (some ⟨w.heap.size + 2, 0, none⟩) 8 8 q.list (wo.alloc (.cells (e8 (List.replicate 32 0)) 24)) rfl (Kd.C_below (blk_C32 HF.out.h 8 rfl (by decide)) (below_new _)) (by decide) (sum l) HQ.out)
      have hzero : Value.agg #[.int .u8 0, .int .u8 0, .int .u8 0, .int .u8 0, .int .u8 0, .int .u8 0, .int .u8 0, .int .u8 0, .int .u8 0, .int .u8 0, .int .u8 0, .int .u8 0, .int .u8 0, .int .u8 0, .int .u8 0, .int .u8 0, .int .u8 0, .int .u8 0, .int .u8 0, .int .u8 0, .int .u8 0, .int .u8 0, .int .u8 0, .int .u8 0, .int .u8 0, .int .u8 0, .int .u8 0, .int .u8 0, .int .u8 0, .int .u8 0, .int .u8 0, .int .u8 0] = .agg (e8 (List.replicate 32 0)) := rfl
      clear hq hzero
      go_wp2_with fail
      refine (HBY.out).mono ?_
      rintro e w4 ⟨A4, c4, rfl, hB4, hb4⟩
      rw [sum_len] at hB4 ⊢
      obtain ⟨ga, hA4, hga, -⟩ := hB4.form (by decide)
      subst hA4
      have hga : wo.heap.size + 1 ≤ ga := by simpa using hga
      have HB4 := Aside0.mk hB4.read.1
      have HW4 := Aside0.mk (below_then (below_alloc HF.out.b _) (by simp; have := HF.out.b.size; omega) hb4)
      have HO4 := Aside0.mk (blk_below (blk_alloc HF.out.o _) hb4)
      have HU4 := Aside0.mk (blk_below (blk_new wo (.cells (e8 (List.replicate 32 0)) 24)) hb4)
      have hwo : w.heap.size < wo.heap.size := blk_lt HF.out.o
      clear hB4 hb4 HBY
      go_wp2
      go_loopw [22] (fun i wr => ∃ t : Nat, t ≤ 32 ∧ i = .int .i64 t ∧ Aside0 (Blk wr wo.heap.size 24 (e8 ((sum l).take t ++ List.replicate (32 - t) 0))) ∧ Aside0 (Blk wr w.heap.size 24 (e8 (List.replicate 32 0))) ∧ Aside0 (Kb.C wr (some ⟨ga, 0, none⟩) 32 (sum l)) ∧ Aside0 (Below w.heap.size w wr)) (fun i _ => 32 - (intOf i).toNat)
      case atStart => exact ⟨0, Nat.zero_le _, rfl, HU4, HO4, HB4, HW4⟩
      case round =>
        clear HU4 HO4 HB4 HW4
        obtain ⟨t, ht, rfl, HU, HO, HC, HW⟩ := hrel
        by_cases hlt : t < 32
        · obtain ⟨ad, e1, cx⟩ := at_bn HC.out t hlt
          injection e1 with e1
          subst e1
          rw [add_plain] at cx
          obtain ⟨x, hx⟩ : ∃ x, x = (sum l).getD t 0 := ⟨_, rfl⟩
          rw [← hx] at cx
          have hlen : ((sum l).take t).length = t := by rw [List.length_take, sum_len]; omega
          have hU := blk8 HU.out t (by rw [List.length_append, hlen, List.length_replicate]; omega)
          have fU := blk_frozen HU.out t
          have HX := Aside0.mk (show ((sum l).take t ++ List.replicate (32 - t) 0).set t x = (sum l).take (t + 1) ++ List.replicate (32 - (t + 1)) 0 by
            rw [set_pad _ x 0 t 32 hlen hlt, List.take_succ_eq_append_getElem (by rw [sum_len]; exact hlt), hx]
            simp [List.getD, sum_len, hlt])
          have h32 : (t : Int) < 32 := by omega
          clear hlen hx
          go_wp2
          go_roundw
          case rel => exact ⟨t + 1, by omega, by go_num, ⟨by rw [← HX.out]; exact blk8_set HU.out t x _ rfl⟩, ⟨blk_far HO.out (by show w.heap.size ≠ wo.heap.size; omega) _⟩, ⟨C_far HC.out _ (by show ga ≠ wo.heap.size; omega)⟩, ⟨HW.out.setCell (by show w.heap.size ≤ wo.heap.size; omega) _⟩⟩
          case measure => simp [intOf]; omega
        · obtain rfl : t = 32 := by omega
          clear hlt
          have HU2 := Aside0.mk (show Blk _ wo.heap.size 24 (e8 (sum l)) by have := HU.out; rwa [show 32 - 32 = 0 from rfl, List.replicate_zero, List.append_nil, List.take_of_length_le (by rw [sum_len]; exact Nat.le_refl _)] at this)
          have HZ := Aside0.mk (show (Tryd.prog.info? 24).map (·.size) = some (e8 (sum l)).size by rw [e8_size, sum_len]; kernel_rfl)
          go_wp2_with (first
            | ((with_reducible refine at_load_ (x := .tmp 20) ?_); (refine wpList_load_row rfl 24 _ rfl wo.heap.size rfl 24 (e8 (sum l)) (0, 0) _ HU2.out Tryd.underlying24 rfl HZ.out ?_))
            | ((with_reducible refine at_store_ (x := .tmp 2) ?_); (refine wpList_store_row rfl 24 _ _ rfl w.heap.size (e8 (sum l)) _ 24 rfl rfl HO.out HZ.out (by rw [e8_size, e8_size, sum_len]; rfl) (e8_one _) ?_)))
          exact ret_row (p := 2) (ty := 24) w.heap.size 24 (e8 (sum l)) _ rfl rfl (blk_setRow HO.out _) Tryd.underlying24 rfl HZ.out ⟨rfl, below_setRow HW.out (Nat.le_refl _) _⟩
end Go.Proofs.YthmlidlnojdggaaDoor.Sha
