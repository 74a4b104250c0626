/- The functions of the reference of layer 12 by contracts: they compute what the program's do. -/
import Derived.Test.YtpgighcobmaecaaCrc
set_option linter.unusedVariables false
set_option linter.unusedSimpArgs false
namespace Go.Proofs.Ytpgighcobmaecaa.Crc
open Go.RowKit Go.Proofs.YtpgighcobmaecaaW.PrintWords Go.Proofs.YtpgighcobmaecaaW.PrintLast

theorem not32s (a : BitVec 32) : 4294967295 - (a.toNat : Int) = ((~~~ a).toNat : Int) := by
  have := a.isLt
  rw [BitVec.toNat_not]
  omega
theorem bit_test (v : BitVec 32) (x : UInt8) (j : Nat) (hj : j < 8) : ((v.toNat : Int) / 2147483648 != ((x.toNat : Int) / 2 ^ (7 - j)).tmod 2 % 4294967296) = (v.msb != x.toNat.testBit (7 - j)) := by
  have h1 : (v.toNat : Int) / 2147483648 = ((if v.msb then 1 else 0 : Nat) : Int) := by
    have hv := v.isLt
    rw [BitVec.msb_eq_decide]
    by_cases h : 2 ^ (32 - 1) ≤ v.toNat
    · rw [decide_eq_true h]; simp only [if_true]; simp at h; omega
    · rw [decide_eq_false h]; simp at h ⊢; omega
  have h2 : ((x.toNat : Int) / 2 ^ (7 - j)).tmod 2 % 4294967296 = ((if x.toNat.testBit (7 - j) then 1 else 0 : Nat) : Int) := by
    rw [← pow_cast, ← Int.natCast_ediv, Int.tmod_eq_emod_of_nonneg (Int.natCast_nonneg _), Nat.testBit_eq_decide_div_mod_eq]
    generalize x.toNat / 2 ^ (7 - j) = y
    by_cases h : y % 2 = 1
    · rw [decide_eq_true h]; simp only [if_true]; omega
    · rw [decide_eq_false h]; simp; omega
  rw [h1, h2]
  cases v.msb <;> cases x.toNat.testBit (7 - j) <;> decide
theorem dbl (v : BitVec 32) : (2 : Int) * (v.toNat : Int) % (4294967296 : Int) = ((v <<< 1).toNat : Int) := by
  rw [Int.mul_comm]
  exact shl32 v 1 2 rfl
theorem dblx (v : BitVec 32) : bits .xor .u32 ((2 : Int) * (v.toNat : Int) % 4294967296) 79764919 = ((v <<< 1 ^^^ poly).toNat : Int) := by
  rw [dbl, show (79764919 : Int) = (poly.toNat : Int) by decide, bx32]

set_option maxHeartbeats 2000000 in
theorem rMore_calls (a : BitVec 32) (A : Option Addr) (c : Nat) (l : List UInt8) (w : World) (hr : Kb.C w A l.length l) (hl : l.length ≤ 140737488355328) :
    Calls Try.prog 12 #[.int .u32 (a.toNat : Int), .slice A l.length c] w fun e w' => e = .returned (.int .u32 ((more a l).toNat : Int)) ∧ w = w' := by
  have HR := Aside0.mk hr
  clear hr
  obtain ⟨na, hna⟩ : ∃ na, na = ~~~ a := ⟨_, rfl⟩
  have hn := Aside0.mk (not32s a)
  rw [← hna] at hn
  replace hna := Aside0.mk hna
  have hst := Aside0.mk (fun k h => foldl_take step na l 0 k h)
  go_enter Try.func12, Try.ntmps12
  go_wp2
  rw [hn.out]
  go_loop [5, 6, 7, 8] (fun v i _ _ => ∃ k : Nat, k ≤ l.length ∧ i = .int .i64 k ∧ ∃ x : BitVec 32, v = .int .u32 (x.toNat : Int) ∧ Aside0 (x = (l.take k).foldl step na)) (fun _ i _ _ => l.length - (intOf i).toNat)
  case atStart => exact ⟨0, Nat.zero_le _, rfl, _, rfl, ⟨rfl⟩⟩
  case round =>
    obtain ⟨k, hk, rfl, v, rfl, HV⟩ := hrel
    by_cases hlt : k < l.length
    · obtain ⟨ad, rfl, hx⟩ := at_b HR.out k hlt
      obtain ⟨x, hx0⟩ : ∃ x, x = l.getD k 0 := ⟨_, rfl⟩
      rw [← hx0] at hx
      have HX := Aside0.mk hx0
      clear hx0
      go_wp2
      go_loop [5, 7, 8] (fun y i _ => ∃ j : Nat, j ≤ 8 ∧ i = .int .i64 (7 - j) ∧ ∃ z : BitVec 32, y = .int .u32 (z.toNat : Int) ∧ Aside0 (z = rput v x j)) (fun _ i _ => (intOf i + 1).toNat)
      case atStart => exact ⟨0, Nat.zero_le _, rfl, _, rfl, ⟨rfl⟩⟩
      case round =>
        obtain ⟨j, hj, rfl, y, rfl, HY⟩ := hrel
        by_cases hlt2 : j < 8
        · have hb := bit_test y x j hlt2
          by_cases hbb : (y.msb != x.toNat.testBit (7 - j)) = true
          · have HN := Aside0.mk (show rput v x (j + 1) = (y <<< 1) ^^^ poly by unfold rput rbit; rw [← HY.out, if_pos hbb])
            rw [hbb] at hb
            clear hbb
            go_wp2
            go_round
            case rel => exact ⟨j + 1, by omega, by go_num, _, int_val (dblx y), ⟨HN.out.symm⟩⟩
            case measure => simp [intOf]; omega
          · have hbb := Bool.eq_false_iff.2 hbb
            have HN := Aside0.mk (show rput v x (j + 1) = y <<< 1 by unfold rput rbit; rw [← HY.out, if_neg (by rw [hbb]; decide)])
            rw [hbb] at hb
            clear hbb
            go_wp2
            go_round
            case rel => exact ⟨j + 1, by omega, by go_num, _, int_val (dbl y), ⟨HN.out.symm⟩⟩
            case measure => simp [intOf]; omega
        · go_wp2
          go_round
          case rel => exact ⟨k + 1, by omega, by go_num, _, rfl, ⟨by rw [hst.out k hlt, HY.out, HX.out, HV.out, show j = 8 by omega, rput_all]⟩⟩
          case measure => simp [intOf]; omega
    · go_wp2
      go_ret
      exact ⟨ret_val (int_val (by rw [HV.out, foldl_all _ _ _ _ hlt, hna.out]; exact not32s _)), rfl⟩


/-- A sum as four bytes. -/
def tailCells (v : BitVec 32) : Array Value := #[.int .u8 ((UInt8.ofNat (v.toNat / 16777216)).toNat : Int), .int .u8 ((UInt8.ofNat (v.toNat / 65536)).toNat : Int), .int .u8 ((UInt8.ofNat (v.toNat / 256)).toNat : Int), .int .u8 ((UInt8.ofNat v.toNat).toNat : Int)]
theorem tailCells_eq (v : BitVec 32) : tailCells v = ((tail v).map fun b => Value.int .u8 (b.toNat : Int)).toArray := rfl
theorem tail_read (v : BitVec 32) (w : World) : Kb.C (w.alloc (.cells (tailCells v) 5)) (some ⟨w.heap.size, 0, none⟩) 4 (tail v) := by
  refine Kd.C_of_reads (d := (0 : UInt8)) ⟨rfl, by decide, fun _ => ⟨_, rfl, fun j hj => ?_⟩⟩
  rw [tailCells_eq]
  match j, hj with
  | 0, _ => simp [tail, Addr.add]
  | 1, _ => simp [tail, Addr.add]
  | 2, _ => simp [tail, Addr.add]
  | 3, _ => simp [tail, Addr.add]
theorem u8n (n : Nat) : ((UInt8.ofNat n).toNat : Int) = (n : Int) % 256 := by
  simp
theorem tailCells_spelt (v : BitVec 32) : tailCells v = #[.int .u8 ((v.toNat : Int) / 16777216), .int .u8 ((v.toNat : Int) / 65536 % 256), .int .u8 ((v.toNat : Int) / 256 % 256), .int .u8 ((v.toNat : Int) % 256)] := by
  have hv := v.isLt
  unfold tailCells
  rw [u8n, u8n, u8n, u8n, show ((v.toNat / 16777216 : Nat) : Int) % 256 = (v.toNat : Int) / 16777216 by omega]
  simp only [Int.natCast_ediv]
  rfl
theorem Tail_calls (v : BitVec 32) (w : World) :
    Calls Try.prog 17 #[.int .u32 (v.toNat : Int)] w fun e w' => e = .returned (.slice (some ⟨w.heap.size, 0, none⟩) 4 4) ∧ w.alloc (.cells (tailCells v) 5) = w' := by
  rw [tailCells_spelt]
  go_enter Try.func17, Try.ntmps17
  go_wp2
  go_ret
  exact ⟨rfl, rfl⟩
def f16_r2.T2 : Bool × List (List Nat × List Nat) := (true, [([], []), ([0], [0]), ([1], [1]), ([2], [2]), ([2], [2]), ([3, 4, 2], [2, 3, 4]), ([5, 2, 2], [2, 5]), ([6, 6, 2], [2, 6]), ([7, 2], [2, 7]), ([2], [2]), ([2], [2]), ([9, 10, 2], [2, 9, 10]), ([11, 2], [2, 11]), ([8, 12, 2], [2, 8, 12]), ([2, 13], [2, 13]), ([14, 7, 0, 1, 2, 3, 4, 5, 6, 7, 8, 9, 10, 11, 12, 13, 14], [14])])
def f16_r2.B2 : List Nat := [0, 1, 3, 7, 7, 31, 63, 127, 255, 7, 7, 1543, 3591, 8191, 16383, 32767]
theorem f16_r2.tab2 : Go.Proofs.YtpgighcobmaecaaW.PrintLast.rtab .any (Go.Proofs.YtpgighcobmaecaaW.PrintLast.opsOf Try.f16 2) = f16_r2.T2 := by kernel_rfl
theorem f16_r2.bits2 : Go.Proofs.YtpgighcobmaecaaW.PrintLast.waitsOk f16_r2.T2.2 f16_r2.B2 = true := by kernel_rfl
set_option maxHeartbeats 1000000 in
set_option maxRecDepth 100000 in
theorem rFits_calls (A : Option Addr) (c : Nat) (l : List UInt8) (w : World) (hr : Kb.C w A l.length l) (hl : l.length ≤ 140737488355328) (hc : l.length ≤ c) :
    Calls Try.prog 16 #[.slice A l.length c] w fun e w' => e = .returned (.bool (fits l)) ∧ Below w.heap.size w w' := by
  by_cases h4 : 4 ≤ l.length
  · obtain ⟨n, hn⟩ : ∃ n, l.length = n + 4 := ⟨l.length - 4, by omega⟩
    obtain ⟨A1, hcut1, hA1⟩ := cut_lo A c hn n (by omega) (by omega)
    obtain ⟨hcut2, hA2⟩ := cut_hi A c hn n (by omega) (by omega)
    have hnb : n ≤ 140737488355328 := by omega
    have hfin : fits l = (more 0#32 (l.take n) == num (l.drop n)) := by
      unfold fits
      rw [decide_eq_true h4, Bool.true_and, show l.length - 4 = n by omega]
    replace hfin := Aside0.mk hfin
    rw [hn] at hr ⊢
    have H1 := Aside0.mk (hA1 w hr)
    have H2 := Aside0.mk (hA2 w hr)
    rw [show n + 4 - n = 4 by omega] at hcut1 H1
    have hl1 := Aside0.mk (show (l.drop n).length = 4 by rw [List.length_drop]; omega)
    have hl2 := Aside0.mk (show (l.take n).length = n by rw [List.length_take]; omega)
    have hm := Aside0.mk (rMore_calls 0#32 A c (l.take n) w.drew (by rw [hl2.out]; exact H2.out) (by rw [hl2.out]; omega))
    rw [hl2.out, show (((0#32).toNat : Nat) : Int) = 0 by decide] at hm
    obtain ⟨v, hv⟩ : ∃ v, v = more 0#32 (l.take n) := ⟨_, rfl⟩
    rw [← hv] at hm hfin
    have ht := Aside0.mk (Tail_calls v w.drew)
    have hs1 : (convert 22 9 (.slice A1 4 (c - n))).run Try.prog (w.drew.alloc (.cells (tailCells v) 5)) = _ := str_of (Kd.C_below (w := w.drew) H1.out (below_alloc (Below.refl _ _) _))
    replace hs1 := Aside0.mk hs1
    have hs0 := Aside0.mk (show (convert 22 9 (.slice A1 4 (c - n))).run Try.prog w.drew = _ from str_of (w := w.drew) H1.out)
    have hs2 : (convert 22 9 (.slice (some ⟨w.drew.heap.size, 0, none⟩) 4 4)).run Try.prog (w.drew.alloc (.cells (tailCells v) 5)) = _ := str_of (tail_read v w.drew)
    have hd : decide ((0 : Int) ≤ (n : Int)) = true := decide_eq_true (by omega)
    have HB := Aside0.mk (Below.drew (Below.refl w.heap.size w))
    clear hr hA1 hA2 hn h4 hv
    generalize tailCells v = tc at *
    go_enter Try.func16, Try.ntmps16
    go_wp2
    refine start_ (n := 16) (S := fun w' => (convert 22 9 (.slice A1 4 (c - n))).run Try.prog w' = .ok (.string (strOf (l.drop n))) w') (ds := []) #[false, false, false, false, false, false, false, false, false, false, false, false, false, false, false, false] (by kernel_rfl) rfl rfl (hs0.out) (fun hHeld => ?_)
    refine with_tabW f16_r2.tab2 f16_r2.bits2 (fun HT_ HW_ => ?_)
    generalize w.drew = w1 at hm ht hs0 hs1 hs2 HB hHeld ⊢
    refine pure_ (i := 0) (N := some 7) (v := ?_) (a' := ?_) #[true, false, false, false, false, false, false, false, false, false, false, false, false, false, false, false] rfl rfl (any_of HT_.out (by kernel_rfl)) (fun _ _ _ h => h) (Or.inl ⟨by rfl, ?_⟩) ?_ ?_
    rotate_left
    · intro w'
      go_simp
      with_reducible rfl
    rotate_left
    · simp only [Act.put, List.setIfInBounds_toArray, List.set_cons_zero, List.set_cons_succ, i64_w, i32_w]
      rfl
    refine pure_ (i := 1) (N := some 8) (v := ?_) (a' := ?_) #[true, true, false, false, false, false, false, false, false, false, false, false, false, false, false, false] rfl rfl (any_of HT_.out (by kernel_rfl)) (fun _ _ _ h => h) (Or.inl ⟨by rfl, ?_⟩) ?_ ?_
    rotate_left
    · intro w'
      go_simp
      with_reducible rfl
    rotate_left
    · simp only [Act.put, List.setIfInBounds_toArray, List.set_cons_zero, List.set_cons_succ, i64_w, i32_w]
      rfl
    refine pure_ (i := 2) (N := some 9) (v := ?_) (a' := ?_) #[true, true, true, false, false, false, false, false, false, false, false, false, false, false, false, false] rfl rfl (any_of HT_.out (by kernel_rfl)) (fun _ _ _ h => h) (Or.inl ⟨by rfl, ?_⟩) ?_ ?_
    rotate_left
    · intro w'
      go_simp
      with_reducible rfl
    rotate_left
    · simp only [Act.put, List.setIfInBounds_toArray, List.set_cons_zero, List.set_cons_succ, i64_w, i32_w]
      rfl
    refine pure_ (i := 3) (N := some 10) (v := ?_) (a' := ?_) #[true, true, true, true, false, false, false, false, false, false, false, false, false, false, false, false] rfl rfl (any_of HT_.out (by kernel_rfl)) (fun _ _ _ h => h) (Or.inl ⟨by rfl, ?_⟩) ?_ ?_
    rotate_left
    · intro w'
      go_simp
      with_reducible rfl
    rotate_left
    · simp only [Act.put, List.setIfInBounds_toArray, List.set_cons_zero, List.set_cons_succ, i64_w, i32_w]
      rfl
    refine pure_ (i := 4) (N := some 11) (v := ?_) (a' := ?_) #[true, true, true, true, true, false, false, false, false, false, false, false, false, false, false, false] rfl rfl (any_of HT_.out (by kernel_rfl)) (fun _ _ _ h => h) (Or.inl ⟨by rfl, ?_⟩) ?_ ?_
    rotate_left
    · intro w'
      go_simp
      with_reducible rfl
    rotate_left
    · simp only [Act.put, List.setIfInBounds_toArray, List.set_cons_zero, List.set_cons_succ, i64_w, i32_w]
      rfl
    refine pure_ (i := 5) (N := some 12) (v := ?_) (a' := ?_) #[true, true, true, true, true, true, false, false, false, false, false, false, false, false, false, false] rfl rfl (any_of HT_.out (by kernel_rfl)) (fun _ _ _ h => h) (Or.inl ⟨by rfl, ?_⟩) ?_ ?_
    rotate_left
    · intro w'
      go_simp
      with_reducible rfl
    rotate_left
    · simp only [Act.put, List.setIfInBounds_toArray, List.set_cons_zero, List.set_cons_succ, i64_w, i32_w]
      rfl
    refine pure_ (i := 9) (N := some 16) (v := ?_) (a' := ?_) #[true, true, true, true, true, true, false, false, false, true, false, false, false, false, false, false] rfl rfl (any_of HT_.out (by kernel_rfl)) (fun _ _ _ h => h) (Or.inl ⟨by rfl, ?_⟩) ?_ ?_
    rotate_left
    · intro w'
      go_simp
      with_reducible rfl
    rotate_left
    · simp only [Act.put, List.setIfInBounds_toArray, List.set_cons_zero, List.set_cons_succ, i64_w, i32_w]
      rfl
    refine pure_ (i := 10) (N := some 17) (v := ?_) (a' := ?_) #[true, true, true, true, true, true, false, false, false, true, true, false, false, false, false, false] rfl rfl (any_of HT_.out (by kernel_rfl)) (fun _ _ _ h => h) (Or.inl ⟨by rfl, ?_⟩) ?_ ?_
    rotate_left
    · intro w'
      go_simp
      with_reducible rfl
    rotate_left
    · simp only [Act.put, List.setIfInBounds_toArray, List.set_cons_zero, List.set_cons_succ, i64_w, i32_w]
      rfl
    refine pure_ (i := 11) (N := some 18) (v := ?_) (a' := ?_) #[true, true, true, true, true, true, false, false, false, true, true, true, false, false, false, false] rfl rfl (any_of HT_.out (by kernel_rfl)) (fun _ _ _ h => h) (Or.inl ⟨by rfl, ?_⟩) ?_ ?_
    rotate_left
    · intro w'
      go_simp
      with_reducible rfl
    rotate_left
    · simp only [Act.put, List.setIfInBounds_toArray, List.set_cons_zero, List.set_cons_succ, i64_w, i32_w]
      rfl
    refine take_ (i := 12) (N := some 19) (v := ?_) (a' := ?_) #[true, true, true, true, true, true, false, false, false, true, true, true, true, false, false, false] rfl rfl (take_ofW HT_.out HW_.out (by kernel_rfl)) (fun _ _ _ h => h) (Or.inl ⟨by rfl, ?_⟩) hHeld ?_ ?_
    rotate_left
    · intro w' s0
      go_simp
      with_reducible rfl
    rotate_left
    · simp only [Act.put, List.setIfInBounds_toArray, List.set_cons_zero, List.set_cons_succ, i64_w, i32_w]
      rfl
    refine one_ (i := 6) (N := some 13) #[true, true, true, true, true, true, true, false, false, true, true, true, true, false, false, false] rfl rfl (one_of HT_.out (by kernel_rfl)) (by decide) (fun K hK => ?_)
    refine goes_ Try.func12 (by kernel_rfl) rfl #[.int .u32 0, .slice A n c] (by rfl) rfl rfl (by (try simp only [List.map_toArray, List.map_cons, List.map_nil]); first | done | rfl) ?_
    with_reducible refine (hm.out).mono ?_
    rintro e w' ⟨rfl, rfl⟩
    refine ⟨_, rfl, ?_⟩
    refine hK.out _ _ (hs0.out) (fun hHeld => ?_)
    clear hK K
    refine norm_ (a' := ?_) ?_ ?_
    rotate_left
    · show Act.put _ (some 13) _ = _
      simp only [Act.put, List.setIfInBounds_toArray, List.set_cons_zero, List.set_cons_succ, i64_w, i32_w]
      rfl
    refine one_ (i := 7) (N := some 14) #[true, true, true, true, true, true, true, true, false, true, true, true, true, false, false, false] rfl rfl (one_of HT_.out (by kernel_rfl)) (by decide) (fun K hK => ?_)
    refine goes_ Try.func17 (by kernel_rfl) rfl #[.int .u32 (v.toNat : Int)] (by rfl) rfl rfl (by (try simp only [List.map_toArray, List.map_cons, List.map_nil]); first | done | rfl) ?_
    with_reducible refine (ht.out).mono ?_
    rintro e w' ⟨rfl, rfl⟩
    refine ⟨_, rfl, ?_⟩
    refine hK.out _ _ (hs1.out) (fun hHeld => ?_)
    clear hK K
    refine norm_ (a' := ?_) ?_ ?_
    rotate_left
    · show Act.put _ (some 14) _ = _
      simp only [Act.put, List.setIfInBounds_toArray, List.set_cons_zero, List.set_cons_succ, i64_w, i32_w]
      rfl
    refine one_ (i := 8) (N := some 15) #[true, true, true, true, true, true, true, true, true, true, true, true, true, false, false, false] rfl rfl (one_of HT_.out (by kernel_rfl)) (by decide) (fun K hK => ?_)
    refine value_ (w1 := ?_) (v := ?_) (by rfl) rfl ?_ ?_
    rotate_left 2
    · go_simp
      constructor
      · rfl
      · rfl
    refine hK.out _ _ (hs1.out) (fun hHeld => ?_)
    clear hK K
    refine norm_ (a' := ?_) ?_ ?_
    rotate_left
    · show Act.put _ (some 15) _ = _
      simp only [Act.put, List.setIfInBounds_toArray, List.set_cons_zero, List.set_cons_succ, i64_w, i32_w]
      rfl
    refine pure_ (i := 13) (N := some 20) (v := ?_) (a' := ?_) #[true, true, true, true, true, true, true, true, true, true, true, true, true, true, false, false] rfl rfl (any_of HT_.out (by kernel_rfl)) (fun _ _ _ h => h) (Or.inl ⟨by rfl, ?_⟩) ?_ ?_
    rotate_left
    · intro w'
      go_simp
      with_reducible rfl
    rotate_left
    · simp only [Act.put, List.setIfInBounds_toArray, List.set_cons_zero, List.set_cons_succ, i64_w, i32_w]
      rfl
    refine pure_ (i := 14) (N := some 21) (v := ?_) (a' := ?_) #[true, true, true, true, true, true, true, true, true, true, true, true, true, true, true, false] rfl rfl (any_of HT_.out (by kernel_rfl)) (fun _ _ _ h => h) (Or.inl ⟨by rfl, ?_⟩) ?_ ?_
    rotate_left
    · intro w'
      go_simp
      with_reducible rfl
    rotate_left
    · simp only [Act.put, List.setIfInBounds_toArray, List.set_cons_zero, List.set_cons_succ, i64_w, i32_w]
      rfl
    refine pure_ (i := 15) (N := some 2) (v := ?_) (a' := ?_) #[true, true, true, true, true, true, true, true, true, true, true, true, true, true, true, true] rfl rfl (any_of HT_.out (by kernel_rfl)) (fun _ _ _ h => h) (Or.inl ⟨by rfl, ?_⟩) ?_ ?_
    rotate_left
    · intro w'
      go_simp
      with_reducible rfl
    rotate_left
    · simp only [Act.put, List.setIfInBounds_toArray, List.set_cons_zero, List.set_cons_succ, i64_w, i32_w]
      rfl
    refine done_ (done_of HT_.out (by kernel_rfl)) ?_
    go_wp2
    go_ret
    exact ⟨(ret_val (bool_val ((str_beq (tail v) (l.drop n)).trans (tail_beq v _ hl1.out)))).trans (by rw [hfin.out]), below_alloc HB.out _⟩
  · have e : fits l = false := by unfold fits; rw [decide_eq_false h4]; rfl
    rw [e]
    clear e
    have hd : decide ((0 : Int) ≤ (l.length : Int) - 4) = false := decide_eq_false (by omega)
    have hd2 : decide ((4 : Int) ≤ (l.length : Int)) = false := decide_eq_false (by omega)
    go_enter Try.func16, Try.ntmps16
    go_wp2
    go_quiet (fail)
    go_wp2
    go_ret
    exact ⟨rfl, pw_below_drewN (Below.refl _ _) _⟩

/-! ### the same contracts, as callers want them: arguments and results under names of their own -/
section
variable (A : Option Addr) (c n : Nat) (l : List UInt8) (w : World) (hn : l.length = n) (hr : Kb.C w A n l) (hl : n ≤ 140737488355328)
include hn hr hl
theorem More_v (a : BitVec 32) (u : Int) (hu : (a.toNat : Int) = u) (v : BitVec 32) (hv : v = more a l) :
    Calls Try.prog 14 #[.int .u32 u, .slice A n c] w fun e w' => e = .returned (.int .u32 (v.toNat : Int)) ∧ w = w' := by
  subst hn hu hv
  exact More_calls a A c l w hr hl
theorem rMore_v (a : BitVec 32) (u : Int) (hu : (a.toNat : Int) = u) (v : BitVec 32) (hv : v = more a l) :
    Calls Try.prog 12 #[.int .u32 u, .slice A n c] w fun e w' => e = .returned (.int .u32 (v.toNat : Int)) ∧ w = w' := by
  subst hn hu hv
  exact rMore_calls a A c l w hr hl
theorem Sum_v (v : BitVec 32) (hv : v = more 0#32 l) :
    Calls Try.prog 13 #[.slice A n c] w fun e w' => e = .returned (.int .u32 (v.toNat : Int)) ∧ w = w' := by
  subst hn hv
  exact Sum_calls A c l w hr hl
theorem Fits_v (hc : n ≤ c) (v : Bool) (hv : v = fits l) :
    Calls Try.prog 15 #[.slice A n c] w fun e w' => e = .returned (.bool v) ∧ w = w' := by
  subst hn hv
  exact Fits_calls A c l w hr hl hc
theorem rFits_v (hc : n ≤ c) (v : Bool) (hv : v = fits l) :
    Calls Try.prog 16 #[.slice A n c] w fun e w' => e = .returned (.bool v) ∧ Below w.heap.size w w' := by
  subst hn hv
  exact rFits_calls A c l w hr hl hc
end
end Go.Proofs.Ytpgighcobmaecaa.Crc
