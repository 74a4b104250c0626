/- The law PrgFirst: the walk. -/
import Derived.Test.YthmlidlnojdggaaDoorPrgSure
import Derived.Test.YthmlidlnojdggaaDoorRowS
set_option linter.unusedVariables false
set_option linter.unusedSimpArgs false
namespace Go.Proofs.YthmlidlnojdggaaDoor.Prg
open Go.RowKit Go.Proofs.YthmlidlnojdggaaDoorW.PrintWords Go.Proofs.YthmlidlnojdggaaDoorW.PrintLast Go.Proofs.YthmlidlnojdggaaDoor.Sha Go.Proofs.YthmlidlnojdggaaDoor.Mac

theorem C_take32 {w : World} {A : Option Addr} {n m : Nat} {xs ys : List W32} (h : K32.C w A n xs) (hm : m ≤ n) (hy : xs.take m = ys) : K32.C w A m ys := by
  obtain rfl : n = xs.length := (Kd.reads_of_C (d := (0 : W32)) h).1.symm
  have h2 := Kd.C_take h hm
  rw [List.length_take, Nat.min_eq_left hm, hy] at h2
  exact h2
def f6_r3.T3 : Bool × List (List Nat × List Nat) := (true, [([], []), ([0], [0]), ([1], [1]), ([2], [2]), ([], []), ([4], [4]), ([5], [5]), ([6], [6]), ([3, 0, 1, 2, 3], [3]), ([7, 8, 0, 1, 2, 3, 4, 5, 6, 7, 8], [7])])
def f6_r3.B3 : List Nat := [0, 1, 3, 7, 0, 16, 48, 112, 15, 511]
theorem f6_r3.tab3 : Go.Proofs.YthmlidlnojdggaaDoorW.PrintLast.rtab .any (Go.Proofs.YthmlidlnojdggaaDoorW.PrintLast.opsOf Tryd.f6 3) = f6_r3.T3 := by kernel_rfl
theorem f6_r3.bits3 : Go.Proofs.YthmlidlnojdggaaDoorW.PrintLast.waitsOk f6_r3.T3.2 f6_r3.B3 = true := by kernel_rfl
set_option maxRecDepth 100000 in
set_option maxHeartbeats 8000000 in
theorem first_bad (seed : Nat) (l : List UInt8) (p q : UInt8) (a b M m : Nat) (ha : wrap64 ((p.toNat : Int).tmod 33) = (a : Int)) (hb : wrap64 ((q.toNat : Int).tmod 33) = (b : Int)) (hM : max (a : Int) (b : Int) = (M : Int)) (hm : min (a : Int) (b : Int) = (m : Int))
    (hs : seed < 18446744073709551616) (hl : l.length ≤ 64) (hbad : ¬ Lab l) (w : World) (hL : ErrAs.Laid w) :
    Calls Tryd.prog 6 #[.int .u64 (seed : Int), .string (strOf l), .agg #[.int .u8 (p.toNat : Int), .int .u8 (q.toNat : Int)]] w fun e w' => e = .returned (.bool true) ∧ Below w.heap.size w w' := by
  have i1 : ((strOf l).size : Int) ≤ 64 := by rw [str_size]; omega
  have HS := Aside0.mk hs
  have HLL := Aside0.mk (show l.length ≤ 300 by omega)
  have HL := Aside0.mk hL
  have hen := errV_none
  have hes := errV_some 1
  have HV := Aside0.mk (show ∀ b, [] = wv seed l b from fun b => by rw [wv, if_neg (fun h => hbad h.1)])
  have HE := Aside0.mk (show ∀ b, some 1 = we l b from fun b => by rw [we, if_neg (fun h => hbad h.1)])
  have HP := Aside0.mk (show ∀ b, 0 = nv seed l b from fun b => by rw [nv, if_neg (fun h => hbad h.1)])
  have HQ := Aside0.mk (show ∀ b, some 1 = ne l b from fun b => by rw [ne, if_neg (fun h => hbad h.1)])
  clear hs hl hL hbad
  go_enter Tryd.func6, Tryd.ntmps6
  go_wp2_with ((with_reducible refine at_box_ (d := some 5) ?_); (refine wpList_make_ (t := 50) (#[.int .u8 (p.toNat : Int), .int .u8 (q.toNat : Int)]) (fun g => .pointer (some ⟨g, 0, none⟩)) (by rfl) ?_ ?_); (first | (go_simp; done) | (unfold execOp; go_simp; done) | (simp only [Act.put]; go_simp; done) | (go_simp; constructor <;> rfl) | (go_simp; rfl) | rfl); intro g5 x1 hge_g5 B_g5 hbx1; replace B_g5 := Aside0.mk B_g5; have hz1 := Below.size hbx1; replace hbx1 := Aside0.mk hbx1)
  refine start_ (n := 10) (S := fun w' => Below w.heap.size w w' ∧ Below x1.heap.size x1 w' ∧ True) (ds := []) #[false, false, false, false, false, false, false, false, false, false] (by kernel_rfl) rfl rfl ⟨below_drew hbx1.out, below_drew (Below.refl _ _), trivial⟩ (fun hHeld => ?_)
  refine with_tabW f6_r3.tab3 f6_r3.bits3 (fun HT_ HW_ => ?_)
  refine pure_ (i := 0) (N := some 21) (v := ?_) (a' := ?_) #[true, false, false, false, false, false, false, false, false, false] rfl rfl (any_of HT_.out (by kernel_rfl)) (fun _ _ _ h => h) (Or.inl ⟨by rfl, ?_⟩) ?_ ?_
  rotate_left
  · intro w'
    go_simp
    with_reducible rfl
  rotate_left
  · simp only [Act.put, List.setIfInBounds_toArray, List.set_cons_zero, List.set_cons_succ, i64_w, i32_w]
    rfl
  refine pure_ (i := 4) (N := some 25) (v := ?_) (a' := ?_) #[true, false, false, false, true, false, false, false, false, false] rfl rfl (any_of HT_.out (by kernel_rfl)) (fun _ _ _ h => h) (Or.inl ⟨by rfl, ?_⟩) ?_ ?_
  rotate_left
  · intro w'
    go_simp
    with_reducible rfl
  rotate_left
  · simp only [Act.put, List.setIfInBounds_toArray, List.set_cons_zero, List.set_cons_succ, i64_w, i32_w]
    rfl
  refine take_ (i := 1) (N := some 22) (v := ?_) (a' := ?_) #[true, true, false, false, true, false, false, false, false, false] rfl rfl (take_ofW HT_.out HW_.out (by kernel_rfl)) (fun _ _ _ h => h) (Or.inl ⟨by rfl, ?_⟩) hHeld ?_ ?_
  rotate_left
  · intro w' s0
    have e := Eq.trans (blk_cell (blk_below B_g5.out s0.2.1) 0) (show (#[.int .u8 (p.toNat : Int), .int .u8 (q.toNat : Int)] : Array Value)[0]? = some (.int .u8 (p.toNat : Int)) from rfl)
    go_simp
    with_reducible rfl
  rotate_left
  · simp only [Act.put, List.setIfInBounds_toArray, List.set_cons_zero, List.set_cons_succ, i64_w, i32_w]
    rfl
  refine pure_ (i := 2) (N := some 23) (v := ?_) (a' := ?_) #[true, true, true, false, true, false, false, false, false, false] rfl rfl (any_of HT_.out (by kernel_rfl)) (fun _ _ _ h => h) (Or.inl ⟨by rfl, ?_⟩) ?_ ?_
  rotate_left
  · intro w'
    go_simp
    with_reducible rfl
  rotate_left
  · simp only [Act.put, List.setIfInBounds_toArray, List.set_cons_zero, List.set_cons_succ, i64_w, i32_w]
    rfl
  refine pure_ (i := 3) (N := some 24) (v := ?_) (a' := ?_) #[true, true, true, true, true, false, false, false, false, false] rfl rfl (any_of HT_.out (by kernel_rfl)) (fun _ _ _ h => h) (Or.inl ⟨by rfl, ?_⟩) ?_ ?_
  rotate_left
  · intro w'
    go_simp
    with_reducible rfl
  rotate_left
  · simp only [Act.put, List.setIfInBounds_toArray, List.set_cons_zero, List.set_cons_succ, i64_w, i32_w]
    rfl
  refine pure_ (i := 8) (N := some 7) (v := ?_) (a' := ?_) #[true, true, true, true, true, false, false, false, true, false] rfl rfl (any_of HT_.out (by kernel_rfl)) (fun _ _ _ h => h) (Or.inl ⟨by rfl, ?_⟩) ?_ ?_
  rotate_left
  · intro w'
    go_simp
    with_reducible rfl
  rotate_left
  · simp only [Act.put, List.setIfInBounds_toArray, List.set_cons_zero, List.set_cons_succ, i64_w, i32_w]
    rfl
  refine take_ (i := 5) (N := some 26) (v := ?_) (a' := ?_) #[true, true, true, true, true, true, false, false, true, false] rfl rfl (take_ofW HT_.out HW_.out (by kernel_rfl)) (fun _ _ _ h => h) (Or.inl ⟨by rfl, ?_⟩) hHeld ?_ ?_
  rotate_left
  · intro w' s0
    have e := Eq.trans (blk_cell (blk_below B_g5.out s0.2.1) 1) (show (#[.int .u8 (p.toNat : Int), .int .u8 (q.toNat : Int)] : Array Value)[1]? = some (.int .u8 (q.toNat : Int)) from rfl)
    go_simp
    with_reducible rfl
  rotate_left
  · simp only [Act.put, List.setIfInBounds_toArray, List.set_cons_zero, List.set_cons_succ, i64_w, i32_w]
    rfl
  refine pure_ (i := 6) (N := some 27) (v := ?_) (a' := ?_) #[true, true, true, true, true, true, true, false, true, false] rfl rfl (any_of HT_.out (by kernel_rfl)) (fun _ _ _ h => h) (Or.inl ⟨by rfl, ?_⟩) ?_ ?_
  rotate_left
  · intro w'
    go_simp
    with_reducible rfl
  rotate_left
  · simp only [Act.put, List.setIfInBounds_toArray, List.set_cons_zero, List.set_cons_succ, i64_w, i32_w]
    rfl
  refine pure_ (i := 7) (N := some 28) (v := ?_) (a' := ?_) #[true, true, true, true, true, true, true, true, true, false] rfl rfl (any_of HT_.out (by kernel_rfl)) (fun _ _ _ h => h) (Or.inl ⟨by rfl, ?_⟩) ?_ ?_
  rotate_left
  · intro w'
    go_simp
    with_reducible rfl
  rotate_left
  · simp only [Act.put, List.setIfInBounds_toArray, List.set_cons_zero, List.set_cons_succ, i64_w, i32_w]
    rfl
  refine pure_ (i := 9) (N := some 8) (v := ?_) (a' := ?_) #[true, true, true, true, true, true, true, true, true, true] rfl rfl (any_of HT_.out (by kernel_rfl)) (fun _ _ _ h => h) (Or.inl ⟨by rfl, ?_⟩) ?_ ?_
  rotate_left
  · intro w'
    go_simp
    with_reducible rfl
  rotate_left
  · simp only [Act.put, List.setIfInBounds_toArray, List.set_cons_zero, List.set_cons_succ, i64_w, i32_w]
    rfl
  refine done_ (done_of HT_.out (by kernel_rfl)) ?_
  have L2_w := Aside0.mk hHeld.1
  have L2_x1 := Aside0.mk hHeld.2.1
  clear hHeld
  try generalize x1.drew = x2 at L2_w L2_x1 ⊢
  go_wp2_with (first
    | (go_at_call 22; (with_reducible refine (Words_calls seed l (M : Int) HS.out HLL.out [] (some 1) (HV.out _) (HE.out _) x2).mono ?_); rintro e x3 ⟨A1, c1, rfl, hB1, hbx3⟩; have L3_w := Aside0.mk (below_then L2_w.out (Below.size L2_w.out) hbx3); have L3_x1 := Aside0.mk (below_then L2_x1.out (Below.size L2_x1.out) hbx3); have hz3 := Below.size hbx3; replace hbx3 := Aside0.mk hbx3)
    | (go_at_call 22; (with_reducible refine (Words_calls seed l (m : Int) HS.out HLL.out [] (some 1) (HV.out _) (HE.out _) x3).mono ?_); rintro e x4 ⟨A2, c2, rfl, hB2, hbx4⟩; have L4_w := Aside0.mk (below_then L3_w.out (Below.size L3_w.out) hbx4); have L4_x1 := Aside0.mk (below_then L3_x1.out (Below.size L3_x1.out) hbx4); have hz4 := Below.size hbx4; replace hbx4 := Aside0.mk hbx4)
    | (go_at_call 24; (with_reducible refine (Num_calls seed l (a : Int) HS.out HLL.out 0 (some 1) (HP.out _) (HQ.out _) x4).mono ?_); rintro e x5 ⟨rfl, hbx5⟩; have L5_w := Aside0.mk (below_then L4_w.out (Below.size L4_w.out) hbx5); have L5_x1 := Aside0.mk (below_then L4_x1.out (Below.size L4_x1.out) hbx5); have hz5 := Below.size hbx5; replace hbx5 := Aside0.mk hbx5)
    | (go_at_call 24; (with_reducible refine (Num_calls seed l (a : Int) HS.out HLL.out 0 (some 1) (HP.out _) (HQ.out _) x5).mono ?_); rintro e x6 ⟨rfl, hbx6⟩; have L6_w := Aside0.mk (below_then L5_w.out (Below.size L5_w.out) hbx6); have L6_x1 := Aside0.mk (below_then L5_x1.out (Below.size L5_x1.out) hbx6); have hz6 := Below.size hbx6; replace hbx6 := Aside0.mk hbx6)
    | (go_at_call 21; (with_reducible refine (sure_calls x6 (ErrAs.Laid.below HL.out L6_w.out)).mono ?_); rintro e x7 ⟨rfl, hbx7⟩; have L7_w := Aside0.mk (below_then L6_w.out (Below.size L6_w.out) hbx7); have L7_x1 := Aside0.mk (below_then L6_x1.out (Below.size L6_x1.out) hbx7); have hz7 := Below.size hbx7; replace hbx7 := Aside0.mk hbx7))
  go_ret
  exact ⟨rfl, L7_w.out⟩
set_option maxRecDepth 100000 in
set_option maxHeartbeats 8000000 in
theorem first_good (seed : Nat) (l : List UInt8) (p q : UInt8) (a b M m : Nat) (ha : wrap64 ((p.toNat : Int).tmod 33) = (a : Int)) (hb : wrap64 ((q.toNat : Int).tmod 33) = (b : Int)) (hM : max (a : Int) (b : Int) = (M : Int)) (hm : min (a : Int) (b : Int) = (m : Int))
    (jM : M ≤ 32) (jm : m ≤ M) (ja : a ≤ 32) (hs : seed < 18446744073709551616) (hl : l.length ≤ 64) (hok : Lab l) (w : World) (hL : ErrAs.Laid w) :
    Calls Tryd.prog 6 #[.int .u64 (seed : Int), .string (strOf l), .agg #[.int .u8 (p.toNat : Int), .int .u8 (q.toNat : Int)]] w fun e w' => e = .returned (.bool true) ∧ Below w.heap.size w w' := by
  have i1 : ((strOf l).size : Int) ≤ 64 := by rw [str_size]; omega
  have HS := Aside0.mk hs
  have HLL := Aside0.mk (show l.length ≤ 300 by omega)
  have HL := Aside0.mk hL
  have hen := errV_none
  obtain ⟨V, hV⟩ : ∃ V, V = words seed l M := ⟨_, rfl⟩
  obtain ⟨U, hU⟩ : ∃ U, U = words seed l m := ⟨_, rfl⟩
  have HVL := Aside0.mk (show V.length = M by rw [hV, words_len])
  have HUL := Aside0.mk (show U.length = m by rw [hU, words_len])
  have HUV := Aside0.mk (show V.take m = U by rw [hV, hU, words_take _ _ _ _ jm])
  have HV := Aside0.mk (show V = wv seed l (M : Int) by rw [wv, if_pos ⟨hok, by omega, by omega⟩, hV]; rfl)
  have HU := Aside0.mk (show U = wv seed l (m : Int) by rw [wv, if_pos ⟨hok, by omega, by omega⟩, hU]; rfl)
  have HE := Aside0.mk (show none = we l (M : Int) by rw [we, if_pos ⟨hok, by omega, by omega⟩])
  have HF := Aside0.mk (show none = we l (m : Int) by rw [we, if_pos ⟨hok, by omega, by omega⟩])
  obtain ⟨x, hx⟩ : ∃ x : Int, x = (nv seed l (a : Int) : Int) := ⟨_, rfl⟩
  have hxx : (x == x) = true := beq_self_eq_true _
  have hx1 : decide (x < 2305843009213693951) = true := by rw [hx]; exact decide_eq_true (by have := nv_lt seed l (a : Int); omega)
  have HC := Aside0.mk (show ∀ w, Calls Tryd.prog 24 #[.int .u64 (seed : Int), .string (strOf l), .int .i64 (a : Int)] w fun e w' => e = .returned (.tuple #[.int .u64 x, .nilIface]) ∧ Below w.heap.size w w' from fun w => by rw [hx]; exact Num_calls seed l (a : Int) HS.out HLL.out _ none rfl (by rw [ne, if_pos ⟨hok, by omega, by omega⟩]) w)
  clear hs hl hL hok hV hU hx
  go_enter Tryd.func6, Tryd.ntmps6
  go_wp2_with ((with_reducible refine at_box_ (d := some 5) ?_); (refine wpList_make_ (t := 50) (#[.int .u8 (p.toNat : Int), .int .u8 (q.toNat : Int)]) (fun g => .pointer (some ⟨g, 0, none⟩)) (by rfl) ?_ ?_); (first | (go_simp; done) | (unfold execOp; go_simp; done) | (simp only [Act.put]; go_simp; done) | (go_simp; constructor <;> rfl) | (go_simp; rfl) | rfl); intro g5 y1 hge_g5 B_g5 hby1; replace B_g5 := Aside0.mk B_g5; have hz8 := Below.size hby1; replace hby1 := Aside0.mk hby1)
  refine start_ (n := 10) (S := fun w' => Below w.heap.size w w' ∧ Below y1.heap.size y1 w' ∧ True) (ds := []) #[false, false, false, false, false, false, false, false, false, false] (by kernel_rfl) rfl rfl ⟨below_drew hby1.out, below_drew (Below.refl _ _), trivial⟩ (fun hHeld => ?_)
  refine with_tabW f6_r3.tab3 f6_r3.bits3 (fun HT_ HW_ => ?_)
  refine pure_ (i := 0) (N := some 21) (v := ?_) (a' := ?_) #[true, false, false, false, false, false, false, false, false, false] rfl rfl (any_of HT_.out (by kernel_rfl)) (fun _ _ _ h => h) (Or.inl ⟨by rfl, ?_⟩) ?_ ?_
  rotate_left
  · intro w'
    go_simp
    with_reducible rfl
  rotate_left
  · simp only [Act.put, List.setIfInBounds_toArray, List.set_cons_zero, List.set_cons_succ, i64_w, i32_w]
    rfl
  refine pure_ (i := 4) (N := some 25) (v := ?_) (a' := ?_) #[true, false, false, false, true, false, false, false, false, false] rfl rfl (any_of HT_.out (by kernel_rfl)) (fun _ _ _ h => h) (Or.inl ⟨by rfl, ?_⟩) ?_ ?_
  rotate_left
  · intro w'
    go_simp
    with_reducible rfl
  rotate_left
  · simp only [Act.put, List.setIfInBounds_toArray, List.set_cons_zero, List.set_cons_succ, i64_w, i32_w]
    rfl
  refine take_ (i := 1) (N := some 22) (v := ?_) (a' := ?_) #[true, true, false, false, true, false, false, false, false, false] rfl rfl (take_ofW HT_.out HW_.out (by kernel_rfl)) (fun _ _ _ h => h) (Or.inl ⟨by rfl, ?_⟩) hHeld ?_ ?_
  rotate_left
  · intro w' s0
    have e := Eq.trans (blk_cell (blk_below B_g5.out s0.2.1) 0) (show (#[.int .u8 (p.toNat : Int), .int .u8 (q.toNat : Int)] : Array Value)[0]? = some (.int .u8 (p.toNat : Int)) from rfl)
    go_simp
    with_reducible rfl
  rotate_left
  · simp only [Act.put, List.setIfInBounds_toArray, List.set_cons_zero, List.set_cons_succ, i64_w, i32_w]
    rfl
  refine pure_ (i := 2) (N := some 23) (v := ?_) (a' := ?_) #[true, true, true, false, true, false, false, false, false, false] rfl rfl (any_of HT_.out (by kernel_rfl)) (fun _ _ _ h => h) (Or.inl ⟨by rfl, ?_⟩) ?_ ?_
  rotate_left
  · intro w'
    go_simp
    with_reducible rfl
  rotate_left
  · simp only [Act.put, List.setIfInBounds_toArray, List.set_cons_zero, List.set_cons_succ, i64_w, i32_w]
    rfl
  refine pure_ (i := 3) (N := some 24) (v := ?_) (a' := ?_) #[true, true, true, true, true, false, false, false, false, false] rfl rfl (any_of HT_.out (by kernel_rfl)) (fun _ _ _ h => h) (Or.inl ⟨by rfl, ?_⟩) ?_ ?_
  rotate_left
  · intro w'
    go_simp
    with_reducible rfl
  rotate_left
  · simp only [Act.put, List.setIfInBounds_toArray, List.set_cons_zero, List.set_cons_succ, i64_w, i32_w]
    rfl
  refine pure_ (i := 8) (N := some 7) (v := ?_) (a' := ?_) #[true, true, true, true, true, false, false, false, true, false] rfl rfl (any_of HT_.out (by kernel_rfl)) (fun _ _ _ h => h) (Or.inl ⟨by rfl, ?_⟩) ?_ ?_
  rotate_left
  · intro w'
    go_simp
    with_reducible rfl
  rotate_left
  · simp only [Act.put, List.setIfInBounds_toArray, List.set_cons_zero, List.set_cons_succ, i64_w, i32_w]
    rfl
  refine take_ (i := 5) (N := some 26) (v := ?_) (a' := ?_) #[true, true, true, true, true, true, false, false, true, false] rfl rfl (take_ofW HT_.out HW_.out (by kernel_rfl)) (fun _ _ _ h => h) (Or.inl ⟨by rfl, ?_⟩) hHeld ?_ ?_
  rotate_left
  · intro w' s0
    have e := Eq.trans (blk_cell (blk_below B_g5.out s0.2.1) 1) (show (#[.int .u8 (p.toNat : Int), .int .u8 (q.toNat : Int)] : Array Value)[1]? = some (.int .u8 (q.toNat : Int)) from rfl)
    go_simp
    with_reducible rfl
  rotate_left
  · simp only [Act.put, List.setIfInBounds_toArray, List.set_cons_zero, List.set_cons_succ, i64_w, i32_w]
    rfl
  refine pure_ (i := 6) (N := some 27) (v := ?_) (a' := ?_) #[true, true, true, true, true, true, true, false, true, false] rfl rfl (any_of HT_.out (by kernel_rfl)) (fun _ _ _ h => h) (Or.inl ⟨by rfl, ?_⟩) ?_ ?_
  rotate_left
  · intro w'
    go_simp
    with_reducible rfl
  rotate_left
  · simp only [Act.put, List.setIfInBounds_toArray, List.set_cons_zero, List.set_cons_succ, i64_w, i32_w]
    rfl
  refine pure_ (i := 7) (N := some 28) (v := ?_) (a' := ?_) #[true, true, true, true, true, true, true, true, true, false] rfl rfl (any_of HT_.out (by kernel_rfl)) (fun _ _ _ h => h) (Or.inl ⟨by rfl, ?_⟩) ?_ ?_
  rotate_left
  · intro w'
    go_simp
    with_reducible rfl
  rotate_left
  · simp only [Act.put, List.setIfInBounds_toArray, List.set_cons_zero, List.set_cons_succ, i64_w, i32_w]
    rfl
  refine pure_ (i := 9) (N := some 8) (v := ?_) (a' := ?_) #[true, true, true, true, true, true, true, true, true, true] rfl rfl (any_of HT_.out (by kernel_rfl)) (fun _ _ _ h => h) (Or.inl ⟨by rfl, ?_⟩) ?_ ?_
  rotate_left
  · intro w'
    go_simp
    with_reducible rfl
  rotate_left
  · simp only [Act.put, List.setIfInBounds_toArray, List.set_cons_zero, List.set_cons_succ, i64_w, i32_w]
    rfl
  refine done_ (done_of HT_.out (by kernel_rfl)) ?_
  have L9_w := Aside0.mk hHeld.1
  have L9_y1 := Aside0.mk hHeld.2.1
  clear hHeld
  try generalize y1.drew = y2 at L9_w L9_y1 ⊢
  go_wp2_with (first
    | (go_at_call 22; (with_reducible refine (Words_calls seed l (M : Int) HS.out HLL.out V none HV.out HE.out y2).mono ?_); rintro e y3 ⟨A1, c1, rfl, hB1, hby3⟩; have L10_w := Aside0.mk (below_then L9_w.out (Below.size L9_w.out) hby3); have L10_y1 := Aside0.mk (below_then L9_y1.out (Below.size L9_y1.out) hby3); have hz10 := Below.size hby3; replace hby3 := Aside0.mk hby3; have K1 := Aside0.mk (show K32.C y3 A1 M V from HVL.out ▸ hB1.read.1); have K3 := Aside0.mk (show K32.C y3 A1 m U from C_take32 K1.out jm HUV.out); rw [HVL.out] at hB1 ⊢; have hc1 := hB1.read.2.2)
    | (go_at_call 22; (with_reducible refine (Words_calls seed l (m : Int) HS.out HLL.out U none HU.out HF.out y3).mono ?_); rintro e y4 ⟨A2, c2, rfl, hB2, hby4⟩; have L11_w := Aside0.mk (below_then L10_w.out (Below.size L10_w.out) hby4); have L11_y1 := Aside0.mk (below_then L10_y1.out (Below.size L10_y1.out) hby4); have hz11 := Below.size hby4; replace hby4 := Aside0.mk hby4; have K2 := Aside0.mk (show K32.C y4 A2 m U from HUL.out ▸ hB2.read.1); rw [HUL.out] at hB2 ⊢; have hcm : m ≤ c1 := Nat.le_trans jm hc1)
    | (go_at_call 24; (with_reducible refine (HC.out y4).mono ?_); rintro e y5 ⟨rfl, hby5⟩; have L12_w := Aside0.mk (below_then L11_w.out (Below.size L11_w.out) hby5); have L12_y1 := Aside0.mk (below_then L11_y1.out (Below.size L11_y1.out) hby5); have L12_y3 := Aside0.mk (below_then hby4.out (Below.size hby4.out) hby5); have hz12 := Below.size hby5; replace hby5 := Aside0.mk hby5)
    | (go_at_call 24; (with_reducible refine (HC.out y5).mono ?_); rintro e y6 ⟨rfl, hby6⟩; have L13_w := Aside0.mk (below_then L12_w.out (Below.size L12_w.out) hby6); have L13_y1 := Aside0.mk (below_then L12_y1.out (Below.size L12_y1.out) hby6); have L13_y3 := Aside0.mk (below_then L12_y3.out (Below.size L12_y3.out) hby6); have L13_y4 := Aside0.mk (below_then hby5.out (Below.size hby5.out) hby6); have hz13 := Below.size hby6; replace hby6 := Aside0.mk hby6)
    | (go_at_call 29; (with_reducible refine (VecSame_calls A1 A2 c1 c2 m m U U y6 HUL.out HUL.out (Kd.C_below K3.out L13_y3.out) (Kd.C_below K2.out L13_y4.out) true (beq_self_eq_true _).symm).mono ?_); rintro e y7 ⟨rfl, hby7⟩; have L14_w := Aside0.mk (below_then L13_w.out (Below.size L13_w.out) hby7); have L14_y1 := Aside0.mk (below_then L13_y1.out (Below.size L13_y1.out) hby7); have L14_y3 := Aside0.mk (below_then L13_y3.out (Below.size L13_y3.out) hby7); have L14_y4 := Aside0.mk (below_then L13_y4.out (Below.size L13_y4.out) hby7); have hz14 := Below.size hby7; replace hby7 := Aside0.mk hby7)
    | (go_at_call 21; (with_reducible refine (sure_calls y7 (ErrAs.Laid.below HL.out L14_w.out)).mono ?_); rintro e y8 ⟨rfl, hby8⟩; have L15_w := Aside0.mk (below_then L14_w.out (Below.size L14_w.out) hby8); have L15_y1 := Aside0.mk (below_then L14_y1.out (Below.size L14_y1.out) hby8); have L15_y3 := Aside0.mk (below_then L14_y3.out (Below.size L14_y3.out) hby8); have L15_y4 := Aside0.mk (below_then L14_y4.out (Below.size L14_y4.out) hby8); have hz15 := Below.size hby8; replace hby8 := Aside0.mk hby8))
  go_ret
  exact ⟨rfl, L15_w.out⟩
set_option maxRecDepth 100000 in
theorem first_any (seed : BitVec 64) (s : ByteArray) (xs : List Int) (hx : xs.length = 2) (hw : ∀ x ∈ xs, (Lit.int .u8 x).wf = true) (w : World) (hL : ErrAs.Laid w) :
    Calls Tryd.prog 6 #[.int .u64 (seed.toNat : Int), .string s, .agg (xs.map (Value.int .u8)).toArray] w fun e w' => e = .returned (.bool true) ∧ Below w.heap.size w w' := by
  obtain ⟨l8, rfl⟩ := bytes_of_ints xs hw
  obtain ⟨p, q, rfl⟩ : ∃ p q, l8 = [p, q] := by
    match l8, hx with
    | [p, q], _ => exact ⟨p, q, rfl⟩
  obtain ⟨l, hl⟩ : ∃ l, l = s.data.toList := ⟨_, rfl⟩
  have hs : s = strOf l := by rw [hl]; cases s; simp [strOf]
  rw [hs]
  show Calls Tryd.prog 6 #[.int .u64 (seed.toNat : Int), .string (strOf l), .agg #[.int .u8 (p.toNat : Int), .int .u8 (q.toNat : Int)]] w _
  have rem : ∀ p : UInt8, wrap64 ((p.toNat : Int).tmod 33) = ((p.toNat % 33 : Nat) : Int) := fun p => by
    have e : (p.toNat : Int).tmod 33 = ((p.toNat % 33 : Nat) : Int) := by rw [Int.tmod_eq_emod_of_nonneg (by omega)]; omega
    rw [e]; unfold wrap64; omega
  by_cases h6 : l.length ≤ 64
  · have hM : max ((p.toNat % 33 : Nat) : Int) ((q.toNat % 33 : Nat) : Int) = ((max (p.toNat % 33) (q.toNat % 33) : Nat) : Int) := by omega
    have hm : min ((p.toNat % 33 : Nat) : Int) ((q.toNat % 33 : Nat) : Int) = ((min (p.toNat % 33) (q.toNat % 33) : Nat) : Int) := by omega
    by_cases hab : Lab l
    · exact first_good seed.toNat l p q _ _ _ _ (rem p) (rem q) hM hm (by omega) (by omega) (by omega) seed.isLt h6 hab w hL
    · exact first_bad seed.toNat l p q _ _ _ _ (rem p) (rem q) hM hm seed.isLt h6 hab w hL
  · have i1 : 64 < ((strOf l).size : Int) := by rw [str_size]; omega
    have HL := Aside0.mk hL
    clear h6 hL rem hl hs
    go_enter Tryd.func6, Tryd.ntmps6
    go_wp2_with (first
      | ((with_reducible refine at_box_ (d := some 5) ?_); (refine wpList_make_ (t := 50) (#[.int .u8 (p.toNat : Int), .int .u8 (q.toNat : Int)]) (fun g => .pointer (some ⟨g, 0, none⟩)) (by rfl) ?_ ?_); (first | (go_simp; done) | (unfold execOp; go_simp; done) | (simp only [Act.put]; go_simp; done) | (go_simp; constructor <;> rfl) | (go_simp; rfl) | rfl); intro g5 z1 hge_g5 B_g5 hbz1; replace B_g5 := Aside0.mk B_g5; have hz16 := Below.size hbz1; replace hbz1 := Aside0.mk hbz1)
      | (go_at_call 21; (with_reducible refine (sure_calls z1 (ErrAs.Laid.below HL.out hbz1.out)).mono ?_); rintro e z2 ⟨rfl, hbz2⟩; have L17_w := Aside0.mk (below_then hbz1.out (Below.size hbz1.out) hbz2); have hz17 := Below.size hbz2; replace hbz2 := Aside0.mk hbz2))
    go_ret
    exact ⟨rfl, L17_w.out⟩
end Go.Proofs.YthmlidlnojdggaaDoor.Prg
