/- sha.spread by a contract. -/
import Derived.Test.YthmlidlnojdggaaDoorSha
import Derived.StillTailTactics
set_option linter.unusedVariables false
set_option linter.unusedSimpArgs false
namespace Go.Proofs.YthmlidlnojdggaaDoor.Sha
open Go.RowKit Go.Proofs.YthmlidlnojdggaaDoorW.PrintWords Go.Proofs.YthmlidlnojdggaaDoorW.PrintLast

theorem arr_getD {α : Type} (l r : List α) (j : Nat) (d : α) (h : j < l.length) : (l ++ r).getD j d = l.getD j d := by
  simp [List.getD, List.getElem?_append_left h]
def f83_r13.T13 : Bool × List (List Nat × List Nat) := (true, [([], []), ([], []), ([], []), ([2], [2]), ([3], [3]), ([4], [4]), ([1, 5], [1, 5]), ([], []), ([6, 7], [6, 7]), ([], []), ([9], [9]), ([10], [10]), ([11], [11]), ([8, 12], [8, 12]), ([0, 0, 1, 2, 3, 4, 5, 6, 7, 8, 9, 10, 11, 12, 13], [0]), ([14, 13, 0, 1, 2, 3, 4, 5, 6, 7, 8, 9, 10, 11, 12, 13], [13, 14])])
def f83_r13.B13 : List Nat := [0, 0, 0, 4, 12, 28, 62, 0, 254, 0, 512, 1536, 3584, 8190, 16383, 32767]
theorem f83_r13.tab13 : Go.Proofs.YthmlidlnojdggaaDoorW.PrintLast.rtab .any (Go.Proofs.YthmlidlnojdggaaDoorW.PrintLast.opsOf Tryd.f83 13) = f83_r13.T13 := by kernel_rfl
theorem f83_r13.bits13 : Go.Proofs.YthmlidlnojdggaaDoorW.PrintLast.waitsOk f83_r13.T13.2 f83_r13.B13 = true := by kernel_rfl
theorem s0_int (x : Wd) : bits .xor .u32 (bits .xor .u32 ((turn x 7).toNat : Int) ((turn x 18).toNat : Int)) ((x.toNat : Int) / 8) = ((s0 x).toNat : Int) := by
  rw [shr32 x 3 8 rfl, bx32, bx32]
  rfl
theorem s1_int (x : Wd) : bits .xor .u32 (bits .xor .u32 ((turn x 17).toNat : Int) ((turn x 19).toNat : Int)) ((x.toNat : Int) / 1024) = ((s1 x).toNat : Int) := by
  rw [shr32 x 10 1024 rfl, bx32, bx32]
  rfl
theorem sum4_int (a b c d : Wd) (n : Wd) (h : n = a + b + c + d) : ((((a.toNat : Int) + b.toNat) % 4294967296 + c.toNat) % 4294967296 + d.toNat) % 4294967296 = (n.toNat : Int) := by
  subst h
  simp only [BitVec.toNat_add]
  omega
set_option maxRecDepth 100000 in
set_option maxHeartbeats 4000000 in
theorem spread_calls (A : Option Addr) (c : Nat) (l : List UInt8) (w : World) (hr : Kb.C w A 64 l) (hl : l.length = 64) (hc : 64 ≤ c) :
    Calls Tryd.prog 83 #[.slice A 64 c] w fun e w' => e = .returned (.agg (e32 (spread l))) ∧ Below w.heap.size w w' := by
  have HR := Aside0.mk hr
  have HL := Aside0.mk hl
  clear hr hl
  go_enter Tryd.func83, Tryd.ntmps83
  go_wp2
  go_loopw [4, 10] (fun _ i wr => ∃ t : Nat, t ≤ 16 ∧ i = .int .i64 t ∧ Aside0 (Blk wr (w.heap.size + 1) 92 (e32 (first l t ++ List.replicate (64 - t) 0))) ∧ Aside0 (Blk wr w.heap.size 92 (e32 (List.replicate 64 0))) ∧ Aside0 (Below w.heap.size w wr)) (fun _ i _ => 16 - (intOf i).toNat)
  case atStart => exact ⟨0, Nat.zero_le _, rfl, ⟨blk_new1 _ _ _ _⟩, ⟨blk_alloc (blk_new _ _) _⟩, ⟨below_alloc (below_new _) _⟩⟩
  case round =>
    obtain ⟨t, ht, rfl, HB, HB0, HW⟩ := hrel
    by_cases hlt : t < 16
    · obtain ⟨A', hrun, hA'⟩ := cut_lo' A c HL.out (4 * (t : Int)) (4 * t) (by omega) (by omega) hc
      have HC := Aside0.mk (word_calls A' (c - 4 * t) (64 - 4 * t) (l.drop (4 * t)) wr (hA' _ (Kd.C_below HR.out HW.out)) (by rw [List.length_drop, HL.out]) (by omega))
      obtain ⟨x, hx⟩ : ∃ x, x = word (l.drop (4 * t)) := ⟨_, rfl⟩
      rw [← hx] at HC
      have HX := Aside0.mk hx
      have hcell := blk32 HB.out t (by simp [first_len]; omega)
      have hfr := blk_frozen HB.out t
      have h64 : (t : Int) < 64 := by omega
      clear hA' hx
      go_wp2_with (go_at_call 98; refine HC.out.mono ?_; rintro e w' ⟨rfl, d, rfl⟩)
      go_roundw
      case rel =>
        refine ⟨t + 1, by omega, by go_num, ⟨?_⟩, ⟨blk_far HB0.out (by simp) _⟩, ⟨(pw_below_drewN HW.out _).setCell (Nat.le_succ _) _⟩⟩
        have := blk32_set (blk_drewN HB.out d) t x _ rfl
        rw [set_pad _ x 0 t 64 (first_len l t) (by omega)] at this
        rw [first, ← HX.out]
        exact this
      case measure => simp [intOf]; omega
    · obtain rfl : t = 16 := by omega
      clear hlt
      go_wp2
      rw [show ((16 : Nat) : Int) = 16 from rfl]
      go_loopw [5, 6, 7, 8, 9] (fun i _ _ _ _ wr => ∃ k : Nat, k ≤ 48 ∧ i = .int .i64 ((16 + k : Nat) : Int) ∧ Aside0 (Blk wr (w.heap.size + 1) 92 (e32 (grow l k ++ List.replicate (48 - k) 0))) ∧ Aside0 (Blk wr w.heap.size 92 (e32 (List.replicate 64 0))) ∧ Aside0 (Below w.heap.size w wr)) (fun i _ _ _ _ _ => 64 - (intOf i).toNat)
      case atStart => exact ⟨0, Nat.zero_le _, rfl, ⟨HB.out⟩, ⟨HB0.out⟩, ⟨HW.out⟩⟩
      case round =>
        rename_i wr2
        obtain ⟨k, hk, rfl, HB, HB0, HW⟩ := hrel
        by_cases hlt : k < 48
        · have hN : (grow l k ++ List.replicate (48 - k) 0).length = 64 := by simp [grow_len]; omega
          have hg : ∀ j, j < 16 + k → (grow l k ++ List.replicate (48 - k) 0).getD j 0 = (grow l k).getD j 0 := fun j hj => arr_getD _ _ _ _ (by rw [grow_len]; exact hj)
          have c15 := blk32 HB.out (16 + k - 15) (by rw [hN]; omega)
          have c2 := blk32 HB.out (16 + k - 2) (by rw [hN]; omega)
          have c7 := blk32 HB.out (16 + k - 7) (by rw [hN]; omega)
          have c16 := blk32 HB.out (16 + k - 16) (by rw [hN]; omega)
          have cc := blk32 HB.out (16 + k) (by rw [hN]; omega)
          have cf := blk_frozen HB.out (16 + k)
          rw [hg _ (by omega)] at c15 c2 c7 c16
          obtain ⟨x15, h15⟩ : ∃ x, x = (grow l k).getD (16 + k - 15) 0 := ⟨_, rfl⟩
          obtain ⟨x2, h2⟩ : ∃ x, x = (grow l k).getD (16 + k - 2) 0 := ⟨_, rfl⟩
          obtain ⟨x7, h7⟩ : ∃ x, x = (grow l k).getD (16 + k - 7) 0 := ⟨_, rfl⟩
          obtain ⟨x16, h16⟩ : ∃ x, x = (grow l k).getD (16 + k - 16) 0 := ⟨_, rfl⟩
          rw [← h15] at c15
          rw [← h2] at c2
          rw [← h7] at c7
          rw [← h16] at c16
          have HN := Aside0.mk (show nxt (grow l k) (16 + k) = s1 x2 + x7 + s0 x15 + x16 by rw [h15, h2, h7, h16]; rfl)
          clear h15 h2 h7 h16 hN hg
          obtain ⟨t, ht⟩ : ∃ t, t = 16 + k := ⟨_, rfl⟩
          rw [← ht] at c15 c2 c7 c16 cc cf HN ⊢
          have HT := Aside0.mk ht
          have ht1 : 16 ≤ t := by omega
          have ht2 : t < 64 := by omega
          clear ht
          have i1 : (0 : Int) ≤ (t : Int) - 15 := by omega
          have i2 : (0 : Int) ≤ (t : Int) - 2 := by omega
          have i3 : (0 : Int) ≤ (t : Int) - 7 := by omega
          have i4 : (0 : Int) ≤ (t : Int) - 16 := by omega
          go_wp2
          go_quiet (fail)
          go_wp2_with (go_at_call 99; refine (turn_calls _ _ _ rfl (by decide) (by decide) _).mono ?_; rintro e w' ⟨rfl, rfl⟩)
          rw [s0_int, s1_int]
          obtain ⟨a8, h8⟩ : ∃ x, x = s0 x15 := ⟨_, rfl⟩
          obtain ⟨a9, h9⟩ : ∃ x, x = s1 x2 := ⟨_, rfl⟩
          rw [← h8, ← h9]
          have HN2 := Aside0.mk (show nxt (grow l k) t = a9 + x7 + a8 + x16 by rw [h8, h9]; exact HN.out)
          clear h8 h9 HN
          have w7 : wrap64 ((t : Int) - 7) = (t : Int) - 7 := by unfold wrap64; omega
          have w16 : wrap64 ((t : Int) - 16) = (t : Int) - 16 := by unfold wrap64; omega
          have v7 : ((t : Int) - 7).toNat = t - 7 := by omega
          have v16 : ((t : Int) - 16).toNat = t - 16 := by omega
          have l7 : (7 : Int) ≤ (t : Int) := by omega
          have l16 : (16 : Int) ≤ (t : Int) := by omega
          have m7 : (t : Int) - 7 < 64 := by omega
          have m16 : (t : Int) - 16 < 64 := by omega
          have ms : (t : Int) < 64 := by omega
          refine start_ (n := 16) (S := fun w' => w'.cell? ⟨w.heap.size + 1, t - 7, none⟩ = some (.int .u32 (x7.toNat : Int)) ∧ w'.cell? ⟨w.heap.size + 1, t - 16, none⟩ = some (.int .u32 (x16.toNat : Int)) ∧ True) (ds := [15]) #[false, false, false, false, false, false, false, false, false, false, false, false, false, false, false, false] (by kernel_rfl) rfl rfl ⟨c7, c16, trivial⟩ (fun hHeld => ?_)
          refine with_tabW f83_r13.tab13 f83_r13.bits13 (fun HT_ HW_ => ?_)
          refine pure_ (i := 0) (N := some 49) (v := ?_) (a' := ?_) #[true, false, false, false, false, false, false, false, false, false, false, false, false, false, false, false] rfl rfl (any_of HT_.out (by kernel_rfl)) (fun _ _ _ h => h) (Or.inl ⟨by rfl, ?_⟩) ?_ ?_
          rotate_left
          · intro w'
            go_simp
            with_reducible rfl
          rotate_left
          · simp only [Act.put, List.setIfInBounds_toArray, List.set_cons_zero, List.set_cons_succ, i64_w, i32_w]
            rfl
          refine pure_ (i := 1) (N := some 50) (v := ?_) (a' := ?_) #[true, true, false, false, false, false, false, false, false, false, false, false, false, false, false, false] rfl rfl (any_of HT_.out (by kernel_rfl)) (fun _ _ _ h => h) (Or.inl ⟨by rfl, ?_⟩) ?_ ?_
          rotate_left
          · intro w'
            go_simp
            with_reducible rfl
          rotate_left
          · simp only [Act.put, List.setIfInBounds_toArray, List.set_cons_zero, List.set_cons_succ, i64_w, i32_w]
            rfl
          refine pure_ (i := 2) (N := some 51) (v := ?_) (a' := ?_) #[true, true, true, false, false, false, false, false, false, false, false, false, false, false, false, false] rfl rfl (any_of HT_.out (by kernel_rfl)) (fun _ _ _ h => h) (Or.inl ⟨by rfl, ?_⟩) ?_ ?_
          rotate_left
          · intro w'
            go_simp
            with_reducible rfl
          rotate_left
          · simp only [Act.put, List.setIfInBounds_toArray, List.set_cons_zero, List.set_cons_succ, i64_w, i32_w]
            rfl
          refine pure_ (i := 3) (N := some 52) (v := ?_) (a' := ?_) #[true, true, true, true, false, false, false, false, false, false, false, false, false, false, false, false] rfl rfl (any_of HT_.out (by kernel_rfl)) (fun _ _ _ h => h) (Or.inl ⟨by rfl, ?_⟩) ?_ ?_
          rotate_left
          · intro w'
            go_simp
            with_reducible rfl
          rotate_left
          · simp only [Act.put, List.setIfInBounds_toArray, List.set_cons_zero, List.set_cons_succ, i64_w, i32_w]
            rfl
          refine pure_ (i := 4) (N := some 53) (v := ?_) (a' := ?_) #[true, true, true, true, true, false, false, false, false, false, false, false, false, false, false, false] rfl rfl (any_of HT_.out (by kernel_rfl)) (fun _ _ _ h => h) (Or.inl ⟨by rfl, ?_⟩) ?_ ?_
          rotate_left
          · intro w'
            go_simp
            with_reducible rfl
          rotate_left
          · simp only [Act.put, List.setIfInBounds_toArray, List.set_cons_zero, List.set_cons_succ, i64_w, i32_w]
            rfl
          refine pure_ (i := 7) (N := some 56) (v := ?_) (a' := ?_) #[true, true, true, true, true, false, false, true, false, false, false, false, false, false, false, false] rfl rfl (any_of HT_.out (by kernel_rfl)) (fun _ _ _ h => h) (Or.inl ⟨by rfl, ?_⟩) ?_ ?_
          rotate_left
          · intro w'
            go_simp
            with_reducible rfl
          rotate_left
          · simp only [Act.put, List.setIfInBounds_toArray, List.set_cons_zero, List.set_cons_succ, i64_w, i32_w]
            rfl
          refine pure_ (i := 9) (N := some 58) (v := ?_) (a' := ?_) #[true, true, true, true, true, false, false, true, false, true, false, false, false, false, false, false] rfl rfl (any_of HT_.out (by kernel_rfl)) (fun _ _ _ h => h) (Or.inl ⟨by rfl, ?_⟩) ?_ ?_
          rotate_left
          · intro w'
            go_simp
            with_reducible rfl
          rotate_left
          · simp only [Act.put, List.setIfInBounds_toArray, List.set_cons_zero, List.set_cons_succ, i64_w, i32_w]
            rfl
          refine pure_ (i := 10) (N := some 59) (v := ?_) (a' := ?_) #[true, true, true, true, true, false, false, true, false, true, true, false, false, false, false, false] rfl rfl (any_of HT_.out (by kernel_rfl)) (fun _ _ _ h => h) (Or.inl ⟨by rfl, ?_⟩) ?_ ?_
          rotate_left
          · intro w'
            go_simp
            with_reducible rfl
          rotate_left
          · simp only [Act.put, List.setIfInBounds_toArray, List.set_cons_zero, List.set_cons_succ, i64_w, i32_w]
            rfl
          refine pure_ (i := 11) (N := some 60) (v := ?_) (a' := ?_) #[true, true, true, true, true, false, false, true, false, true, true, true, false, false, false, false] rfl rfl (any_of HT_.out (by kernel_rfl)) (fun _ _ _ h => h) (Or.inl ⟨by rfl, ?_⟩) ?_ ?_
          rotate_left
          · intro w'
            go_simp
            with_reducible rfl
          rotate_left
          · simp only [Act.put, List.setIfInBounds_toArray, List.set_cons_zero, List.set_cons_succ, i64_w, i32_w]
            rfl
          refine take_ (i := 5) (N := some 54) (v := ?_) (a' := ?_) #[true, true, true, true, true, true, false, true, false, true, true, true, false, false, false, false] rfl rfl (take_ofW HT_.out HW_.out (by kernel_rfl)) (fun _ _ _ h => h) (Or.inl ⟨by rfl, ?_⟩) hHeld ?_ ?_
          rotate_left
          · intro w' s0
            have e := s0.1
            go_simp
            with_reducible rfl
          rotate_left
          · simp only [Act.put, List.setIfInBounds_toArray, List.set_cons_zero, List.set_cons_succ, i64_w, i32_w]
            rfl
          refine pure_ (i := 6) (N := some 55) (v := ?_) (a' := ?_) #[true, true, true, true, true, true, true, true, false, true, true, true, false, false, false, false] rfl rfl (any_of HT_.out (by kernel_rfl)) (fun _ _ _ h => h) (Or.inl ⟨by rfl, ?_⟩) ?_ ?_
          rotate_left
          · intro w'
            go_simp
            with_reducible rfl
          rotate_left
          · simp only [Act.put, List.setIfInBounds_toArray, List.set_cons_zero, List.set_cons_succ, i64_w, i32_w]
            rfl
          refine pure_ (i := 8) (N := some 57) (v := ?_) (a' := ?_) #[true, true, true, true, true, true, true, true, true, true, true, true, false, false, false, false] rfl rfl (any_of HT_.out (by kernel_rfl)) (fun _ _ _ h => h) (Or.inl ⟨by rfl, ?_⟩) ?_ ?_
          rotate_left
          · intro w'
            go_simp
            with_reducible rfl
          rotate_left
          · simp only [Act.put, List.setIfInBounds_toArray, List.set_cons_zero, List.set_cons_succ, i64_w, i32_w]
            rfl
          refine take_ (i := 12) (N := some 61) (v := ?_) (a' := ?_) #[true, true, true, true, true, true, true, true, true, true, true, true, true, false, false, false] rfl rfl (take_ofW HT_.out HW_.out (by kernel_rfl)) (fun _ _ _ h => h) (Or.inl ⟨by rfl, ?_⟩) hHeld ?_ ?_
          rotate_left
          · intro w' s0
            have e := s0.2.1
            go_simp
            with_reducible rfl
          rotate_left
          · simp only [Act.put, List.setIfInBounds_toArray, List.set_cons_zero, List.set_cons_succ, i64_w, i32_w]
            rfl
          refine pure_ (i := 13) (N := some 62) (v := ?_) (a' := ?_) #[true, true, true, true, true, true, true, true, true, true, true, true, true, true, false, false] rfl rfl (any_of HT_.out (by kernel_rfl)) (fun _ _ _ h => h) (Or.inl ⟨by rfl, ?_⟩) ?_ ?_
          rotate_left
          · intro w'
            go_simp
            with_reducible rfl
          rotate_left
          · simp only [Act.put, List.setIfInBounds_toArray, List.set_cons_zero, List.set_cons_succ, i64_w, i32_w]
            rfl
          refine pure_ (i := 14) (N := some 63) (v := ?_) (a' := ?_) #[true, true, true, true, true, true, true, true, true, true, true, true, true, true, true, false] rfl rfl (any_of HT_.out (by kernel_rfl)) (fun _ _ _ h => h) (Or.inl ⟨by rfl, ?_⟩) ?_ ?_
          rotate_left
          · intro w'
            go_simp
            with_reducible rfl
          rotate_left
          · simp only [Act.put, List.setIfInBounds_toArray, List.set_cons_zero, List.set_cons_succ, i64_w, i32_w]
            rfl
          refine last_ (i := 15) (N := none) #[true, true, true, true, true, true, true, true, true, true, true, true, true, true, true, true] rfl rfl (one_of HT_.out (by kernel_rfl)) (by decide) (fun K hK => ?_)
          refine skip_ (w1 := ?_) (by rfl) rfl ?_ ?_
          rotate_left
          · go_simp
            rfl
          refine hK.out _ _ ?_
          clear hK K
          refine done_ (done_of HT_.out (by kernel_rfl)) ?_
          go_wp2
          go_roundw
          case rel =>
            refine ⟨k + 1, by omega, by rw [HT.out]; go_num, ⟨?_⟩, ⟨?_⟩, ⟨?_⟩⟩
            · have := blk32_set (blk_drew (blk_drewN HB.out nq)) t (nxt (grow l k) t) _ (sum4_int _ _ _ _ _ HN2.out)
              rw [HT.out] at this
              rw [show 48 - k = 64 - (16 + k) by omega, set_pad _ _ 0 (16 + k) 64 (grow_len l k) (by omega), show 64 - (16 + k + 1) = 48 - (k + 1) by omega] at this
              rw [grow, HT.out]
              exact this
            · exact blk_far (blk_drew (blk_drewN HB0.out nq)) (by simp) _
            · exact (Below.drew (pw_below_drewN HW.out nq)).setCell (Nat.le_succ _) _
          case measure => simp [intOf]; omega
        · obtain rfl : k = 48 := by omega
          clear hlt
          have HB' : Blk wr (w.heap.size + 1) 92 (e32 (spread l)) := by have := HB.out; rwa [show 48 - 48 = 0 from rfl, List.replicate_zero, List.append_nil] at this
          have hsz : (Tryd.prog.info? 92).map (·.size) = some (e32 (spread l)).size := by rw [e32_size, spread_len]; kernel_rfl
          have HZ := Aside0.mk hsz
          replace HB' := Aside0.mk HB'
          clear hsz
          go_wp2_with (first | (refine wpList_load_row rfl 92 _ rfl (w.heap.size + 1) rfl 92 (e32 (spread l)) (0, 0) _ HB'.out Tryd.underlying92 rfl HZ.out ?_) | (refine wpList_store_row rfl 92 _ _ rfl w.heap.size (e32 (spread l)) _ 92 rfl rfl HB0.out HZ.out (by rw [e32_size, e32_size, spread_len]; rfl) (e32_one _) ?_))
          refine ret_row (p := 2) (ty := 92) w.heap.size 92 (e32 (spread l)) _ rfl rfl (blk_setRow HB0.out _) Tryd.underlying92 rfl (by rw [e32_size, spread_len]; kernel_rfl) ⟨rfl, below_setRow HW.out (Nat.le_refl _) _⟩
end Go.Proofs.YthmlidlnojdggaaDoor.Sha
