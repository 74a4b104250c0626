/- The law PrgParts: the walk. -/
import Derived.Test.YthmlidlnojdggaaDoorPrgSure
import Derived.Test.YthmlidlnojdggaaDoorPrgPartsLaw
set_option linter.unusedVariables false
set_option linter.unusedSimpArgs false
namespace Go.Proofs.YthmlidlnojdggaaDoor.Prg
open Go.RowKit Go.Proofs.YthmlidlnojdggaaDoorW.PrintWords Go.Proofs.YthmlidlnojdggaaDoorW.PrintLast Go.Proofs.YthmlidlnojdggaaDoor.Sha Go.Proofs.YthmlidlnojdggaaDoor.Mac

theorem C_len32 {w : World} {A : Option Addr} {n : Nat} {xs : List W32} (h : K32.C w A xs.length xs) (e : xs.length = n) : K32.C w A n xs := by
  rw [← e]
  exact h
def f7_r11.T11 : Bool × List (List Nat × List Nat) := (true, [([], []), ([], []), ([1], [1]), ([0, 2], [0, 2]), ([3], [3]), ([4], [4]), ([5], [5]), ([], []), ([], []), ([8], [8]), ([9], [9]), ([7, 10], [7, 10]), ([11], [11]), ([12], [12]), ([6, 13], [6, 13]), ([14, 0, 1, 2, 3, 4, 5, 6, 7, 8, 9, 10, 11, 12, 13, 14], [14])])
def f7_r11.B11 : List Nat := [0, 0, 2, 7, 15, 31, 63, 0, 0, 256, 768, 1920, 3968, 8064, 16383, 32767]
theorem f7_r11.tab11 : Go.Proofs.YthmlidlnojdggaaDoorW.PrintLast.rtab .any (Go.Proofs.YthmlidlnojdggaaDoorW.PrintLast.opsOf Tryd.f7 11) = f7_r11.T11 := by kernel_rfl
theorem f7_r11.bits11 : Go.Proofs.YthmlidlnojdggaaDoorW.PrintLast.waitsOk f7_r11.T11.2 f7_r11.B11 = true := by kernel_rfl
def f7_r12.T12 : Bool × List (List Nat × List Nat) := (true, [([], []), ([0], [0]), ([1], [1]), ([2], [2]), ([3], [3]), ([], []), ([5], [5]), ([6], [6]), ([7], [7]), ([4, 8], [4, 8]), ([9, 0, 1, 2, 3, 4, 5, 6, 7, 8, 9], [9])])
def f7_r12.B12 : List Nat := [0, 1, 3, 7, 15, 0, 32, 96, 224, 511, 1023]
theorem f7_r12.tab12 : Go.Proofs.YthmlidlnojdggaaDoorW.PrintLast.rtab .any (Go.Proofs.YthmlidlnojdggaaDoorW.PrintLast.opsOf Tryd.f7 12) = f7_r12.T12 := by kernel_rfl
theorem f7_r12.bits12 : Go.Proofs.YthmlidlnojdggaaDoorW.PrintLast.waitsOk f7_r12.T12.2 f7_r12.B12 = true := by kernel_rfl
set_option maxRecDepth 100000 in
set_option maxHeartbeats 8000000 in
theorem parts_bad (seed : Nat) (l : List UInt8) (p : UInt8) (k : Nat) (hk : (p.toNat : Int) % 4 = (k : Int)) (hs : seed < 18446744073709551616) (hl : l.length ≤ 64) (hbad : ¬ Lab l) (w : World) (hL : ErrAs.Laid w) :
    Calls Tryd.prog 7 #[.int .u64 (seed : Int), .string (strOf l), .int .u8 (p.toNat : Int)] w fun e w' => e = .returned (.bool true) ∧ Below w.heap.size w w' := by
  have i1 : ((strOf l).size : Int) ≤ 64 := by rw [str_size]; omega
  have HS := Aside0.mk hs
  have HLL := Aside0.mk (show l.length ≤ 300 by omega)
  have HL := Aside0.mk hL
  have hen := errV_none
  have hes := errV_some 1
  have HV := Aside0.mk (show ∀ b, [] = wv seed l b from fun b => by rw [wv, if_neg (fun h => hbad h.1)])
  have HE := Aside0.mk (show ∀ b, some 1 = we l b from fun b => by rw [we, if_neg (fun h => hbad h.1)])
  have HP := Aside0.mk (show ∀ b, 0 = nv seed l b from fun b => by rw [nv, if_neg (fun h => hbad h.1)])
  have HQ := Aside0.mk (show ∀ b, some 1 = ne l b from fun b => by rw [ne, if_neg (fun h => hbad h.1)])
  clear hs hl hL hbad
  go_enter Tryd.func7, Tryd.ntmps7
  go_wp2_with (first
    | (go_at_call 22; (with_reducible refine (Words_calls seed l 32 HS.out HLL.out [] (some 1) (HV.out _) (HE.out _) w).mono ?_); rintro e x1 ⟨A1, c1, rfl, hB1, hbx1⟩; have hz1 := Below.size hbx1; replace hbx1 := Aside0.mk hbx1)
    | (go_at_call 24; (with_reducible refine (Num_calls seed l (k : Int) HS.out HLL.out 0 (some 1) (HP.out _) (HQ.out _) x1).mono ?_); rintro e x2 ⟨rfl, hbx2⟩; have L2_w := Aside0.mk (below_then hbx1.out (Below.size hbx1.out) hbx2); have hz2 := Below.size hbx2; replace hbx2 := Aside0.mk hbx2)
    | (go_at_call 26; (with_reducible refine (Child_calls seed l HS.out HLL.out 0 (some 1) (HP.out _) (HQ.out _) x2).mono ?_); rintro e x3 ⟨rfl, hbx3⟩; have L3_w := Aside0.mk (below_then L2_w.out (Below.size L2_w.out) hbx3); have hz3 := Below.size hbx3; replace hbx3 := Aside0.mk hbx3)
    | (go_at_call 21; (with_reducible refine (sure_calls x3 (ErrAs.Laid.below HL.out L3_w.out)).mono ?_); rintro e x4 ⟨rfl, hbx4⟩; have L4_w := Aside0.mk (below_then L3_w.out (Below.size L3_w.out) hbx4); have hz4 := Below.size hbx4; replace hbx4 := Aside0.mk hbx4))
  go_ret
  exact ⟨rfl, L4_w.out⟩
set_option maxRecDepth 100000 in
set_option maxHeartbeats 8000000 in
theorem parts_good (seed : Nat) (l : List UInt8) (p : UInt8) (k : Nat) (hk : (p.toNat : Int) % 4 = (k : Int)) (jk : k ≤ 3) (hs : seed < 18446744073709551616) (hl : l.length ≤ 64) (hok : Lab l) (w : World) (hL : ErrAs.Laid w) :
    Calls Tryd.prog 7 #[.int .u64 (seed : Int), .string (strOf l), .int .u8 (p.toNat : Int)] w fun e w' => e = .returned (.bool true) ∧ Below w.heap.size w w' := by
  have i1 : ((strOf l).size : Int) ≤ 64 := by rw [str_size]; omega
  have HS := Aside0.mk hs
  have HLL := Aside0.mk (show l.length ≤ 300 by omega)
  have HL := Aside0.mk hL
  have hen := errV_none
  obtain ⟨V, hV⟩ : ∃ V, V = words seed l 32 := ⟨_, rfl⟩
  have HVL := Aside0.mk (show V.length = 32 by rw [hV, words_len])
  have HV := Aside0.mk (show V = wv seed l 32 by rw [wv, if_pos ⟨hok, by decide, by decide⟩, hV]; rfl)
  have HE := Aside0.mk (show none = we l 32 by rw [we, if_pos ⟨hok, by decide, by decide⟩])
  obtain ⟨a, ha⟩ : ∃ a, a = V.getD (8 * k) 0 := ⟨_, rfl⟩
  obtain ⟨b, hb⟩ : ∃ b, b = V.getD (8 * k + 1) 0 := ⟨_, rfl⟩
  obtain ⟨c, hc⟩ : ∃ c, c = V.getD 0 0 := ⟨_, rfl⟩
  obtain ⟨d, hd⟩ : ∃ d, d = V.getD 1 0 := ⟨_, rfl⟩
  have HAA := Aside0.mk ha
  have HBB := Aside0.mk hb
  have HCC := Aside0.mk hc
  have HDD := Aside0.mk hd
  have hja := a.isLt
  have hjb := b.isLt
  have hjc := c.isLt
  have hjd := d.isLt
  obtain ⟨x, hx⟩ : ∃ x : Int, x = (a.toNat : Int) * 4294967296 + b.toNat := ⟨_, rfl⟩
  obtain ⟨y, hy⟩ : ∃ y : Int, y = (c.toNat : Int) * 4294967296 + d.toNat := ⟨_, rfl⟩
  obtain ⟨P, hP⟩ : ∃ P : Nat, P = nv seed l (k : Int) := ⟨_, rfl⟩
  obtain ⟨Q, hQ⟩ : ∃ Q : Nat, Q = nv seed l 0 := ⟨_, rfl⟩
  have hPx : (P : Int) = x.tmod 2305843009213693951 := by
    rw [hP, nv, if_pos ⟨hok, by omega, by omega⟩, Int.toNat_natCast, fnum_parts seed l k jk, ← hV, ← ha, ← hb, hx, prime]
    rw [Int.tmod_eq_emod_of_nonneg (by omega)]
    omega
  have hQy : (Q : Int) = y.tmod 2305843009213693951 := by
    rw [hQ, nv, if_pos ⟨hok, by omega, by omega⟩, show (0 : Int).toNat = 0 from rfl, fnum_parts seed l 0 (by omega), ← hV, show 8 * 0 = 0 from rfl, show 0 + 1 = 1 from rfl, ← hc, ← hd, hy, prime]
    rw [Int.tmod_eq_emod_of_nonneg (by omega)]
    omega
  have hPP : ((P : Int) == x.tmod 2305843009213693951) = true := by rw [hPx]; exact beq_self_eq_true _
  have hQQ : ((Q : Int) == y.tmod 2305843009213693951) = true := by rw [hQy]; exact beq_self_eq_true _
  have HN := Aside0.mk (show ∀ w, Calls Tryd.prog 24 #[.int .u64 (seed : Int), .string (strOf l), .int .i64 (k : Int)] w fun e w' => e = .returned (.tuple #[.int .u64 (P : Int), .nilIface]) ∧ Below w.heap.size w w' from fun w => Num_calls seed l (k : Int) HS.out HLL.out P none hP (by rw [ne, if_pos ⟨hok, by omega, by omega⟩]) w)
  have HC := Aside0.mk (show ∀ w, Calls Tryd.prog 26 #[.int .u64 (seed : Int), .string (strOf l)] w fun e w' => e = .returned (.tuple #[.int .u64 (Q : Int), .nilIface]) ∧ Below w.heap.size w w' from fun w => Child_calls seed l HS.out HLL.out Q none hQ (by rw [ne, if_pos ⟨hok, by decide, by decide⟩]) w)
  have s0 : wrap64 (8 * (k : Int)) = 8 * (k : Int) := by unfold wrap64; omega
  have s1 : wrap64 (8 * (k : Int) + 1) = 8 * (k : Int) + 1 := by unfold wrap64; omega
  have t0 : (8 * (k : Int)).toNat = 8 * k := by omega
  have t1 : (8 * (k : Int) + 1).toNat = 8 * k + 1 := by omega
  have n0 : 0 ≤ 8 * (k : Int) := by omega
  have n1 : 8 * (k : Int) < 32 := by omega
  have n2 : 0 ≤ 8 * (k : Int) + 1 := by omega
  have n3 : 8 * (k : Int) + 1 < 32 := by omega
  have u : ∀ z : Int, 0 ≤ z → z < 18446744073709551616 → IntKind.u64.wrap z = z := fun z h0 h1 => by show z % 18446744073709551616 = z; omega
  have pa := u (a.toNat : Int) (by omega) (by omega)
  have pb := u (b.toNat : Int) (by omega) (by omega)
  have pc := u (c.toNat : Int) (by omega) (by omega)
  have pd := u (d.toNat : Int) (by omega) (by omega)
  have qa := u ((a.toNat : Int) * 4294967296) (by omega) (by omega)
  have qc := u ((c.toNat : Int) * 4294967296) (by omega) (by omega)
  have rx := (u ((a.toNat : Int) * 4294967296 + b.toNat) (by omega) (by omega)).trans hx.symm
  have ry := (u ((c.toNat : Int) * 4294967296 + d.toNat) (by omega) (by omega)).trans hy.symm
  clear u
  have HX := Aside0.mk hx
  have HY := Aside0.mk hy
  clear hs hl hL hok hV hx hy hP hQ hPx hQy ha hb hc hd
  go_enter Tryd.func7, Tryd.ntmps7
  go_wp2_with (first
    | (go_at_call 22; (with_reducible refine (Words_calls seed l 32 HS.out HLL.out V none HV.out HE.out w).mono ?_); rintro e y1 ⟨A1, c1, rfl, hB1, hby1⟩; have hz5 := Below.size hby1; replace hby1 := Aside0.mk hby1; have K1 := Aside0.mk (show K32.C y1 A1 32 V from C_len32 hB1.read.1 HVL.out); rw [HVL.out] at hB1 ⊢)
    | (go_at_call 24; (with_reducible refine (HN.out y1).mono ?_); rintro e y2 ⟨rfl, hby2⟩; have L6_w := Aside0.mk (below_then hby1.out (Below.size hby1.out) hby2); have hz6 := Below.size hby2; replace hby2 := Aside0.mk hby2)
    | (go_at_call 26; (with_reducible refine (HC.out y2).mono ?_); rintro e y3 ⟨rfl, hby3⟩; have L7_w := Aside0.mk (below_then L6_w.out (Below.size L6_w.out) hby3); have L7_y1 := Aside0.mk (below_then hby2.out (Below.size hby2.out) hby3); have hz7 := Below.size hby3; replace hby3 := Aside0.mk hby3))
  have HA := Aside0.mk (show ∀ W, K32.C W A1 32 V → ∃ ad, A1 = some ad ∧ W.cell? (ad.add (8 * k)) = some (.int .u32 (a.toNat : Int)) ∧ W.cell? ⟨ad.block, ad.off + (8 * k + 1), none⟩ = some (.int .u32 (b.toNat : Int)) ∧ W.cell? ad = some (.int .u32 (c.toNat : Int)) ∧ W.cell? ⟨ad.block, ad.off + 1, none⟩ = some (.int .u32 (d.toNat : Int)) from fun W h => by
    obtain ⟨ad, e0, h0⟩ := at_wn h (8 * k) (by omega)
    obtain ⟨ad1, e1, h1⟩ := at_wc h (8 * k + 1) (by omega) (by omega)
    obtain ⟨ad2, e2, h2⟩ := at_w0 h (by decide)
    obtain ⟨ad3, e3, h3⟩ := at_wc h 1 (by decide) (by decide)
    subst e0
    injection e1 with e1
    injection e2 with e2
    injection e3 with e3
    subst e1 e2 e3
    rw [HAA.out, HBB.out, HCC.out, HDD.out]
    exact ⟨ad, rfl, h0, h1, h2, h3⟩)
  obtain ⟨ad, rfl, _⟩ := HA.out _ K1.out
  have HX2 := Aside0.mk (show ∀ W, K32.C W (some ad) 32 V → W.cell? (ad.add (8 * k)) = some (.int .u32 (a.toNat : Int)) ∧ W.cell? ⟨ad.block, ad.off + (8 * k + 1), none⟩ = some (.int .u32 (b.toNat : Int)) ∧ W.cell? ad = some (.int .u32 (c.toNat : Int)) ∧ W.cell? ⟨ad.block, ad.off + 1, none⟩ = some (.int .u32 (d.toNat : Int)) from fun W h => by
    obtain ⟨ad', e0, h0⟩ := HA.out W h
    injection e0 with e0
    subst e0
    exact h0)
  refine start_ (n := 16) (S := fun w' => Below w.heap.size w w' ∧ Below y1.heap.size y1 w' ∧ True) (ds := []) #[false, false, false, false, false, false, false, false, false, false, false, false, false, false, false, false] (by kernel_rfl) rfl rfl ⟨below_drew L7_w.out, below_drew L7_y1.out, trivial⟩ (fun hHeld => ?_)
  refine with_tabW f7_r11.tab11 f7_r11.bits11 (fun HT_ HW_ => ?_)
  refine pure_ (i := 0) (N := some 64) (v := ?_) (a' := ?_) #[true, false, false, false, false, false, false, false, false, false, false, false, false, false, false, false] rfl rfl (any_of HT_.out (by kernel_rfl)) (fun _ _ _ h => h) (Or.inl ⟨by rfl, ?_⟩) ?_ ?_
  rotate_left
  · intro w'
    go_simp
    with_reducible rfl
  rotate_left
  · simp only [Act.put, List.setIfInBounds_toArray, List.set_cons_zero, List.set_cons_succ, i64_w, i32_w]
    rfl
  refine pure_ (i := 1) (N := some 65) (v := ?_) (a' := ?_) #[true, true, false, false, false, false, false, false, false, false, false, false, false, false, false, false] rfl rfl (any_of HT_.out (by kernel_rfl)) (fun _ _ _ h => h) (Or.inl ⟨by rfl, ?_⟩) ?_ ?_
  rotate_left
  · intro w'
    go_simp
    with_reducible rfl
  rotate_left
  · simp only [Act.put, List.setIfInBounds_toArray, List.set_cons_zero, List.set_cons_succ, i64_w, i32_w]
    rfl
  refine pure_ (i := 2) (N := some 66) (v := ?_) (a' := ?_) #[true, true, true, false, false, false, false, false, false, false, false, false, false, false, false, false] rfl rfl (any_of HT_.out (by kernel_rfl)) (fun _ _ _ h => h) (Or.inl ⟨by rfl, ?_⟩) ?_ ?_
  rotate_left
  · intro w'
    go_simp
    with_reducible rfl
  rotate_left
  · simp only [Act.put, List.setIfInBounds_toArray, List.set_cons_zero, List.set_cons_succ, i64_w, i32_w]
    rfl
  refine pure_ (i := 3) (N := some 67) (v := ?_) (a' := ?_) #[true, true, true, true, false, false, false, false, false, false, false, false, false, false, false, false] rfl rfl (any_of HT_.out (by kernel_rfl)) (fun _ _ _ h => h) (Or.inl ⟨by rfl, ?_⟩) ?_ ?_
  rotate_left
  · intro w'
    go_simp
    with_reducible rfl
  rotate_left
  · simp only [Act.put, List.setIfInBounds_toArray, List.set_cons_zero, List.set_cons_succ, i64_w, i32_w]
    rfl
  refine pure_ (i := 7) (N := some 71) (v := ?_) (a' := ?_) #[true, true, true, true, false, false, false, true, false, false, false, false, false, false, false, false] rfl rfl (any_of HT_.out (by kernel_rfl)) (fun _ _ _ h => h) (Or.inl ⟨by rfl, ?_⟩) ?_ ?_
  rotate_left
  · intro w'
    go_simp
    with_reducible rfl
  rotate_left
  · simp only [Act.put, List.setIfInBounds_toArray, List.set_cons_zero, List.set_cons_succ, i64_w, i32_w]
    rfl
  refine pure_ (i := 8) (N := some 72) (v := ?_) (a' := ?_) #[true, true, true, true, false, false, false, true, true, false, false, false, false, false, false, false] rfl rfl (any_of HT_.out (by kernel_rfl)) (fun _ _ _ h => h) (Or.inl ⟨by rfl, ?_⟩) ?_ ?_
  rotate_left
  · intro w'
    go_simp
    with_reducible rfl
  rotate_left
  · simp only [Act.put, List.setIfInBounds_toArray, List.set_cons_zero, List.set_cons_succ, i64_w, i32_w]
    rfl
  refine pure_ (i := 9) (N := some 73) (v := ?_) (a' := ?_) #[true, true, true, true, false, false, false, true, true, true, false, false, false, false, false, false] rfl rfl (any_of HT_.out (by kernel_rfl)) (fun _ _ _ h => h) (Or.inl ⟨by rfl, ?_⟩) ?_ ?_
  rotate_left
  · intro w'
    go_simp
    with_reducible rfl
  rotate_left
  · simp only [Act.put, List.setIfInBounds_toArray, List.set_cons_zero, List.set_cons_succ, i64_w, i32_w]
    rfl
  refine pure_ (i := 10) (N := some 74) (v := ?_) (a' := ?_) #[true, true, true, true, false, false, false, true, true, true, true, false, false, false, false, false] rfl rfl (any_of HT_.out (by kernel_rfl)) (fun _ _ _ h => h) (Or.inl ⟨by rfl, ?_⟩) ?_ ?_
  rotate_left
  · intro w'
    go_simp
    with_reducible rfl
  rotate_left
  · simp only [Act.put, List.setIfInBounds_toArray, List.set_cons_zero, List.set_cons_succ, i64_w, i32_w]
    rfl
  refine pure_ (i := 11) (N := some 75) (v := ?_) (a' := ?_) #[true, true, true, true, false, false, false, true, true, true, true, true, false, false, false, false] rfl rfl (any_of HT_.out (by kernel_rfl)) (fun _ _ _ h => h) (Or.inl ⟨by rfl, ?_⟩) ?_ ?_
  rotate_left
  · intro w'
    go_simp
    with_reducible rfl
  rotate_left
  · simp only [Act.put, List.setIfInBounds_toArray, List.set_cons_zero, List.set_cons_succ, i64_w, i32_w]
    rfl
  refine take_ (i := 4) (N := some 68) (v := ?_) (a' := ?_) #[true, true, true, true, true, false, false, true, true, true, true, true, false, false, false, false] rfl rfl (take_ofW HT_.out HW_.out (by kernel_rfl)) (fun _ _ _ h => h) (Or.inl ⟨by rfl, ?_⟩) hHeld ?_ ?_
  rotate_left
  · intro w' s0
    have e := (HX2.out _ (Kd.C_below K1.out s0.2.1)).1
    go_simp
    with_reducible rfl
  rotate_left
  · simp only [Act.put, List.setIfInBounds_toArray, List.set_cons_zero, List.set_cons_succ, i64_w, i32_w]
    rfl
  refine pure_ (i := 5) (N := some 69) (v := ?_) (a' := ?_) #[true, true, true, true, true, true, false, true, true, true, true, true, false, false, false, false] rfl rfl (any_of HT_.out (by kernel_rfl)) (fun _ _ _ h => h) (Or.inl ⟨by rfl, ?_⟩) ?_ ?_
  rotate_left
  · intro w'
    go_simp
    with_reducible rfl
  rotate_left
  · simp only [Act.put, List.setIfInBounds_toArray, List.set_cons_zero, List.set_cons_succ, i64_w, i32_w]
    rfl
  refine pure_ (i := 6) (N := some 70) (v := ?_) (a' := ?_) #[true, true, true, true, true, true, true, true, true, true, true, true, false, false, false, false] rfl rfl (any_of HT_.out (by kernel_rfl)) (fun _ _ _ h => h) (Or.inl ⟨by rfl, ?_⟩) ?_ ?_
  rotate_left
  · intro w'
    go_simp
    with_reducible rfl
  rotate_left
  · simp only [Act.put, List.setIfInBounds_toArray, List.set_cons_zero, List.set_cons_succ, i64_w, i32_w]
    rfl
  refine take_ (i := 12) (N := some 76) (v := ?_) (a' := ?_) #[true, true, true, true, true, true, true, true, true, true, true, true, true, false, false, false] rfl rfl (take_ofW HT_.out HW_.out (by kernel_rfl)) (fun _ _ _ h => h) (Or.inl ⟨by rfl, ?_⟩) hHeld ?_ ?_
  rotate_left
  · intro w' s0
    have e := (HX2.out _ (Kd.C_below K1.out s0.2.1)).2.1
    go_simp
    with_reducible rfl
  rotate_left
  · simp only [Act.put, List.setIfInBounds_toArray, List.set_cons_zero, List.set_cons_succ, i64_w, i32_w]
    rfl
  refine pure_ (i := 13) (N := some 77) (v := ?_) (a' := ?_) #[true, true, true, true, true, true, true, true, true, true, true, true, true, true, false, false] rfl rfl (any_of HT_.out (by kernel_rfl)) (fun _ _ _ h => h) (Or.inl ⟨by rfl, ?_⟩) ?_ ?_
  rotate_left
  · intro w'
    go_simp
    with_reducible rfl
  rotate_left
  · simp only [Act.put, List.setIfInBounds_toArray, List.set_cons_zero, List.set_cons_succ, i64_w, i32_w]
    rfl
  refine pure_ (i := 14) (N := some 78) (v := ?_) (a' := ?_) #[true, true, true, true, true, true, true, true, true, true, true, true, true, true, true, false] rfl rfl (any_of HT_.out (by kernel_rfl)) (fun _ _ _ h => h) (Or.inl ⟨by rfl, ?_⟩) ?_ ?_
  rotate_left
  · intro w'
    go_simp
    with_reducible rfl
  rotate_left
  · simp only [Act.put, List.setIfInBounds_toArray, List.set_cons_zero, List.set_cons_succ, i64_w, i32_w]
    rfl
  refine pure_ (i := 15) (N := some 14) (v := ?_) (a' := ?_) #[true, true, true, true, true, true, true, true, true, true, true, true, true, true, true, true] rfl rfl (any_of HT_.out (by kernel_rfl)) (fun _ _ _ h => h) (Or.inl ⟨by rfl, ?_⟩) ?_ ?_
  rotate_left
  · intro w'
    go_simp
    with_reducible rfl
  rotate_left
  · simp only [Act.put, List.setIfInBounds_toArray, List.set_cons_zero, List.set_cons_succ, i64_w, i32_w]
    rfl
  refine done_ (done_of HT_.out (by kernel_rfl)) ?_
  have L8_w := Aside0.mk hHeld.1
  have L8_y1 := Aside0.mk hHeld.2.1
  clear hHeld
  try generalize y3.drew = y4 at L8_w L8_y1 ⊢
  go_wp2
  refine start_ (n := 11) (S := fun w' => Below w.heap.size w w' ∧ Below y1.heap.size y1 w' ∧ True) (ds := []) #[false, false, false, false, false, false, false, false, false, false, false] (by kernel_rfl) rfl rfl ⟨below_drew L8_w.out, below_drew L8_y1.out, trivial⟩ (fun hHeld => ?_)
  refine with_tabW f7_r12.tab12 f7_r12.bits12 (fun HT_ HW_ => ?_)
  refine pure_ (i := 0) (N := some 79) (v := ?_) (a' := ?_) #[true, false, false, false, false, false, false, false, false, false, false] rfl rfl (any_of HT_.out (by kernel_rfl)) (fun _ _ _ h => h) (Or.inl ⟨by rfl, ?_⟩) ?_ ?_
  rotate_left
  · intro w'
    go_simp
    with_reducible rfl
  rotate_left
  · simp only [Act.put, List.setIfInBounds_toArray, List.set_cons_zero, List.set_cons_succ, i64_w, i32_w]
    rfl
  refine pure_ (i := 1) (N := some 80) (v := ?_) (a' := ?_) #[true, true, false, false, false, false, false, false, false, false, false] rfl rfl (any_of HT_.out (by kernel_rfl)) (fun _ _ _ h => h) (Or.inl ⟨by rfl, ?_⟩) ?_ ?_
  rotate_left
  · intro w'
    go_simp
    with_reducible rfl
  rotate_left
  · simp only [Act.put, List.setIfInBounds_toArray, List.set_cons_zero, List.set_cons_succ, i64_w, i32_w]
    rfl
  refine pure_ (i := 5) (N := some 84) (v := ?_) (a' := ?_) #[true, true, false, false, false, true, false, false, false, false, false] rfl rfl (any_of HT_.out (by kernel_rfl)) (fun _ _ _ h => h) (Or.inl ⟨by rfl, ?_⟩) ?_ ?_
  rotate_left
  · intro w'
    go_simp
    with_reducible rfl
  rotate_left
  · simp only [Act.put, List.setIfInBounds_toArray, List.set_cons_zero, List.set_cons_succ, i64_w, i32_w]
    rfl
  refine pure_ (i := 6) (N := some 85) (v := ?_) (a' := ?_) #[true, true, false, false, false, true, true, false, false, false, false] rfl rfl (any_of HT_.out (by kernel_rfl)) (fun _ _ _ h => h) (Or.inl ⟨by rfl, ?_⟩) ?_ ?_
  rotate_left
  · intro w'
    go_simp
    with_reducible rfl
  rotate_left
  · simp only [Act.put, List.setIfInBounds_toArray, List.set_cons_zero, List.set_cons_succ, i64_w, i32_w]
    rfl
  refine take_ (i := 2) (N := some 81) (v := ?_) (a' := ?_) #[true, true, true, false, false, true, true, false, false, false, false] rfl rfl (take_ofW HT_.out HW_.out (by kernel_rfl)) (fun _ _ _ h => h) (Or.inl ⟨by rfl, ?_⟩) hHeld ?_ ?_
  rotate_left
  · intro w' s0
    have e := (HX2.out _ (Kd.C_below K1.out s0.2.1)).2.2.1
    go_simp
    with_reducible rfl
  rotate_left
  · simp only [Act.put, List.setIfInBounds_toArray, List.set_cons_zero, List.set_cons_succ, i64_w, i32_w]
    rfl
  refine pure_ (i := 3) (N := some 82) (v := ?_) (a' := ?_) #[true, true, true, true, false, true, true, false, false, false, false] rfl rfl (any_of HT_.out (by kernel_rfl)) (fun _ _ _ h => h) (Or.inl ⟨by rfl, ?_⟩) ?_ ?_
  rotate_left
  · intro w'
    go_simp
    with_reducible rfl
  rotate_left
  · simp only [Act.put, List.setIfInBounds_toArray, List.set_cons_zero, List.set_cons_succ, i64_w, i32_w]
    rfl
  refine pure_ (i := 4) (N := some 83) (v := ?_) (a' := ?_) #[true, true, true, true, true, true, true, false, false, false, false] rfl rfl (any_of HT_.out (by kernel_rfl)) (fun _ _ _ h => h) (Or.inl ⟨by rfl, ?_⟩) ?_ ?_
  rotate_left
  · intro w'
    go_simp
    with_reducible rfl
  rotate_left
  · simp only [Act.put, List.setIfInBounds_toArray, List.set_cons_zero, List.set_cons_succ, i64_w, i32_w]
    rfl
  refine take_ (i := 7) (N := some 86) (v := ?_) (a' := ?_) #[true, true, true, true, true, true, true, true, false, false, false] rfl rfl (take_ofW HT_.out HW_.out (by kernel_rfl)) (fun _ _ _ h => h) (Or.inl ⟨by rfl, ?_⟩) hHeld ?_ ?_
  rotate_left
  · intro w' s0
    have e := (HX2.out _ (Kd.C_below K1.out s0.2.1)).2.2.2
    go_simp
    with_reducible rfl
  rotate_left
  · simp only [Act.put, List.setIfInBounds_toArray, List.set_cons_zero, List.set_cons_succ, i64_w, i32_w]
    rfl
  refine pure_ (i := 8) (N := some 87) (v := ?_) (a' := ?_) #[true, true, true, true, true, true, true, true, true, false, false] rfl rfl (any_of HT_.out (by kernel_rfl)) (fun _ _ _ h => h) (Or.inl ⟨by rfl, ?_⟩) ?_ ?_
  rotate_left
  · intro w'
    go_simp
    with_reducible rfl
  rotate_left
  · simp only [Act.put, List.setIfInBounds_toArray, List.set_cons_zero, List.set_cons_succ, i64_w, i32_w]
    rfl
  refine pure_ (i := 9) (N := some 88) (v := ?_) (a' := ?_) #[true, true, true, true, true, true, true, true, true, true, false] rfl rfl (any_of HT_.out (by kernel_rfl)) (fun _ _ _ h => h) (Or.inl ⟨by rfl, ?_⟩) ?_ ?_
  rotate_left
  · intro w'
    go_simp
    with_reducible rfl
  rotate_left
  · simp only [Act.put, List.setIfInBounds_toArray, List.set_cons_zero, List.set_cons_succ, i64_w, i32_w]
    rfl
  refine pure_ (i := 10) (N := some 15) (v := ?_) (a' := ?_) #[true, true, true, true, true, true, true, true, true, true, true] rfl rfl (any_of HT_.out (by kernel_rfl)) (fun _ _ _ h => h) (Or.inl ⟨by rfl, ?_⟩) ?_ ?_
  rotate_left
  · intro w'
    go_simp
    with_reducible rfl
  rotate_left
  · simp only [Act.put, List.setIfInBounds_toArray, List.set_cons_zero, List.set_cons_succ, i64_w, i32_w]
    rfl
  refine done_ (done_of HT_.out (by kernel_rfl)) ?_
  have L9_w := Aside0.mk hHeld.1
  have L9_y1 := Aside0.mk hHeld.2.1
  clear hHeld
  try generalize y4.drew = y5 at L9_w L9_y1 ⊢
  go_wp2_with (go_at_call 21; (with_reducible refine (sure_calls y5 (ErrAs.Laid.below HL.out L9_w.out)).mono ?_); rintro e y6 ⟨rfl, hby6⟩; have L10_w := Aside0.mk (below_then L9_w.out (Below.size L9_w.out) hby6); have L10_y1 := Aside0.mk (below_then L9_y1.out (Below.size L9_y1.out) hby6); have hz10 := Below.size hby6; replace hby6 := Aside0.mk hby6)
  go_ret
  exact ⟨rfl, L10_w.out⟩
set_option maxRecDepth 100000 in
theorem parts_any (seed : BitVec 64) (s : ByteArray) (p : UInt8) (w : World) (hL : ErrAs.Laid w) :
    Calls Tryd.prog 7 #[.int .u64 (seed.toNat : Int), .string s, .int .u8 (p.toNat : Int)] w fun e w' => e = .returned (.bool true) ∧ Below w.heap.size w w' := by
  obtain ⟨l, hl⟩ : ∃ l, l = s.data.toList := ⟨_, rfl⟩
  have hs : s = strOf l := by rw [hl]; cases s; simp [strOf]
  rw [hs]
  have hk : (p.toNat : Int) % 4 = ((p.toNat % 4 : Nat) : Int) := by omega
  by_cases h6 : l.length ≤ 64
  · by_cases hab : Lab l
    · exact parts_good seed.toNat l p _ hk (by omega) seed.isLt h6 hab w hL
    · exact parts_bad seed.toNat l p _ hk seed.isLt h6 hab w hL
  · have i1 : 64 < ((strOf l).size : Int) := by rw [str_size]; omega
    have HL := Aside0.mk hL
    clear h6 hL hl hs hk
    go_enter Tryd.func7, Tryd.ntmps7
    go_wp2_with (go_at_call 21; (with_reducible refine (sure_calls w HL.out).mono ?_); rintro e z1 ⟨rfl, hbz1⟩; have hz11 := Below.size hbz1; replace hbz1 := Aside0.mk hbz1)
    go_ret
    exact ⟨rfl, hbz1.out⟩
end Go.Proofs.YthmlidlnojdggaaDoor.Prg
