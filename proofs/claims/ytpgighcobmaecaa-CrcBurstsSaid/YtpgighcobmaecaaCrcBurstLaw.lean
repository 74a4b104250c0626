/- The statement CrcBursts: its walk. -/
import Derived.Test.YtpgighcobmaecaaCrcSums
import Derived.Test.YtpgighcobmaecaaCrcBurst
import Derived.Test.YtpgighcobmaecaaRow
set_option linter.unusedVariables false
set_option linter.unusedSimpArgs false
namespace Go.Proofs.Ytpgighcobmaecaa.Crc
open Go.RowKit Go.Proofs.YtpgighcobmaecaaW.PrintWords Go.Proofs.YtpgighcobmaecaaW.PrintLast

theorem cellb4 (x y : BitVec 32) {w w4 : World} (hb : Below (w.heap.size + 1) (w.alloc (.cells #[.int .u32 (x.toNat : Int), .int .u32 (y.toNat : Int)] 30)) w4) (j : Nat) (v : Value) (h : #[Value.int .u32 (x.toNat : Int), .int .u32 (y.toNat : Int)][j]? = some v) : w4.cell? ⟨w.heap.size, j, none⟩ = some v := by
  rw [hb.cell (p := ⟨w.heap.size, j, none⟩) (by simp), World.cell?_alloc_mark]
  exact h
theorem burst_end {w : World} {o : Obj} {w4 w5 : World} (h : Below (w.heap.size + 1) (w.alloc o) w4) (k : Below w4.heap.size w4 w5) : Below w.heap.size w w5 :=
  below_step ((below_alloc (Below.refl w.heap.size w) o).trans (h.mono (by omega))) k
theorem flip_store (b : UInt8) (j : Nat) (hj : j < 8) : bits .xor .u8 (b.toNat : Int) (128 / 2 ^ j) = ((b ^^^ UInt8.ofNat (128 / 2 ^ j)).toNat : Int) := by
  rw [← bx8]
  congr 1
  have : j = 0 ∨ j = 1 ∨ j = 2 ∨ j = 3 ∨ j = 4 ∨ j = 5 ∨ j = 6 ∨ j = 7 := by omega
  rcases this with rfl | rfl | rfl | rfl | rfl | rfl | rfl | rfl <;> decide
theorem bit_int (y : BitVec 32) (k : Nat) (hk : k < 32) (h : y.toNat.testBit k = true) : (((y.toNat : Int) / 2 ^ k).tmod 2 == 1) = true := by
  rw [Nat.testBit_eq_decide_div_mod_eq, decide_eq_true_iff] at h
  rw [← pow_cast, ← Int.natCast_ediv, Int.tmod_eq_emod_of_nonneg (Int.natCast_nonneg _), beq_iff_eq]
  omega
theorem bit_int0 (y : BitVec 32) (k : Nat) (hk : k < 32) (h : y.toNat.testBit k = false) : (((y.toNat : Int) / 2 ^ k).tmod 2 == 1) = false := by
  rw [Nat.testBit_eq_decide_div_mod_eq, decide_eq_false_iff_not] at h
  rw [← pow_cast, ← Int.natCast_ediv, Int.tmod_eq_emod_of_nonneg (Int.natCast_nonneg _), beq_eq_false_iff_ne]
  omega
set_option maxRecDepth 100000 in
set_option maxHeartbeats 4000000 in
theorem burst_calls (A0 : Option Addr) (c0 : Nat) (l0 : List UInt8) (A1 : Option Addr) (c1 : Nat) (l1 : List UInt8) (x y : BitVec 32) (w : World)
    (hr0 : Kb.C w A0 l0.length l0) (hl0 : l0.length ≤ 140737488351232) (hc0 : l0.length ≤ c0) (hr1 : Kb.C w A1 l1.length l1) (hl1 : l1.length ≤ 140737488351232) (hc1 : l1.length ≤ c1) :
    Calls Try.prog 4 #[.slice A0 l0.length c0, .slice A1 l1.length c1, .agg #[.int .u32 (x.toNat : Int), .int .u32 (y.toNat : Int)]] w fun e w' => e = .returned (.bool true) ∧ Below w.heap.size w w' := by
  by_cases hb : 600 < l0.length + l1.length
  · have hd : decide ((600 : Int) < (l0.length : Int) + (l1.length : Int)) = true := decide_eq_true (by omega)
    clear hr0 hr1
    go_enter Try.func4, Try.ntmps4
    go_wp2_with (go_at_call 11; refine (sure_calls _).mono ?_; rintro e w' ⟨rfl, HB⟩; replace HB := Aside0.mk HB)
    go_ret
    exact ⟨rfl, below_step (below_alloc (Below.refl _ _) _) HB.out⟩
  · have hd : decide ((600 : Int) < (l0.length : Int) + (l1.length : Int)) = false := decide_eq_false (by omega)
    have HR0 := Aside0.mk hr0
    have HR1 := Aside0.mk hr1
    clear hr0 hr1
    obtain ⟨sa, hsa⟩ : ∃ s, s = more 0#32 l0 := ⟨_, rfl⟩
    obtain ⟨s1, hs1⟩ : ∃ s, s = more sa l1 := ⟨_, rfl⟩
    have HS1 := Aside0.mk hs1
    have HSA := Aside0.mk hsa
    have HS2 := Aside0.mk (show s1 = more 0#32 (l0 ++ l1) by rw [hs1, hsa, more_append])
    clear hsa hs1
    go_enter Try.func4, Try.ntmps4
    go_wp2_with (first
      | (at_builtin; refine app_bs (w0 := (w.alloc (.cells #[.int .u32 (x.toNat : Int), .int .u32 (y.toNat : Int)] 30))) (w.heap.size + 1) rfl (.tmp 20) (.tmp 21) rfl _ [] l0 _ _ _ rfl rfl (Bs.lit (w.alloc (.cells #[.int .u32 (x.toNat : Int), .int .u32 (y.toNat : Int)] 30)) _ _ (by simp) (by simp) [] 0 rfl _ rfl (by decide)) (Kd.C_alloc (Kd.C_alloc HR0.out _) _) ((Below.refl _ _).alloc (by simp) _) (by simp) (by simp only [List.length_nil]; omega) ?_; intro z1 A2 c2 w1 hz1 hB1 hb1 hs1 hg1)
      | (at_builtin; refine app_bs (w0 := (w.alloc (.cells #[.int .u32 (x.toNat : Int), .int .u32 (y.toNat : Int)] 30))) (w.heap.size + 1) rfl (.tmp 22) (.tmp 23) rfl _ z1 l1 _ _ _ rfl rfl hB1.out (Kd.C_below (Kd.C_alloc HR1.out _) (by rw [World.size_alloc]; exact hb1.out)) hb1.out hs1.out (by rw [hz1.out]; simp only [List.nil_append]; omega) ?_; intro z2 A3 c3 w2 hz2 hB2 hb2 hs2 hg2; have hL := (show z2.length ≤ 600 by rw [hz2.out, hz1.out]; simp; omega); have HZ := Aside0.mk (show s1 = more 0#32 z2 by rw [HS2.out, hz2.out, hz1.out]; rfl); have HA1 := Aside0.mk (Kd.C_below (Kd.C_alloc HR1.out _) (by rw [World.size_alloc]; exact hb2.out)); have HA0 := Aside0.mk (Kd.C_below (Kd.C_alloc HR0.out _) (by rw [World.size_alloc]; exact hb2.out)); have HR2 := Aside0.mk (Bs.read hB2.out).1; have hc3 := (Bs.read hB2.out).2.2)
      | (go_at_call 13; with_reducible refine (Sum_v A0 c0 _ l0 _ rfl HA0.out (by omega) sa HSA.out).mono ?_; rintro e w' ⟨rfl, rfl⟩)
      | (go_at_call 13; with_reducible refine (Sum_v A3 c3 _ z2 _ rfl HR2.out (by omega) s1 HZ.out).mono ?_; rintro e w' ⟨rfl, rfl⟩)
      | (go_at_call 14; with_reducible refine (More_v A1 c1 _ l1 _ rfl HA1.out (by omega) sa _ rfl s1 HS1.out).mono ?_; rintro e w' ⟨rfl, rfl⟩)
      | (at_builtin; refine app_bs (w0 := (w.alloc (.cells #[.int .u32 (x.toNat : Int), .int .u32 (y.toNat : Int)] 30))) (w.heap.size + 1) rfl (.tmp 33) (.tmp 45) rfl _ z2 (tail s1) _ _ _ rfl rfl (Kd.R_alloc hB2.out _) (by rw [← tailCells_spelt]; exact tail_read s1 _) ((hb2.out).alloc hs2.out _) (by simp; have := hs2.out; omega) (by omega) ?_; intro z4 A4 c4 w4 hz4 hB4 hb4 hs4 hg4; have HR4 := Aside0.mk (Bs.read hB4.out).1; have hc4 := (Bs.read hB4.out).2.2; have hL4 := (show z4.length ≤ 604 by rw [hz4.out]; simp [tail]; omega); have hL5 := (show 4 ≤ z4.length by rw [hz4.out]; simp [tail]); have HF4 := Aside0.mk (show true = fits z4 by rw [hz4.out, HZ.out, fits_tail]); have HX0 := cellb4 x y hb4.out 0 _ rfl; have HX1 := cellb4 x y hb4.out 1 _ rfl)
      | (go_at_call 15; with_reducible refine (Fits_v A4 c4 _ z4 _ rfl HR4.out (by omega) (by omega) true HF4.out).mono ?_; rintro e w' ⟨rfl, rfl⟩))
    obtain ⟨p0, hp0, hp1⟩ : ∃ p : Nat, wrap64 ((x.toNat : Int) % (8 * (z4.length : Int))) = (p : Int) ∧ p < 8 * z4.length := by
      have h1 := Int.emod_nonneg (x.toNat : Int) (b := 8 * (z4.length : Int)) (by omega)
      have h2 := Int.emod_lt_of_pos (x.toNat : Int) (b := 8 * (z4.length : Int)) (by omega)
      generalize (x.toNat : Int) % (8 * (z4.length : Int)) = q at h1 h2 ⊢
      exact ⟨q.toNat, by unfold wrap64; omega, by omega⟩
    rw [hp0]
    clear hp0
    obtain ⟨g, rfl, hg0, hg1⟩ := hB4.out.form (by omega)
    obtain ⟨n, hn⟩ : ∃ n, n = z4.length := ⟨_, rfl⟩
    rw [← hn] at hp1 hL4 hL5 hc4 hB4 HR4 ⊢
    have HN := Aside0.mk hn
    clear hn
    clear HR0 HR1 HA0 HA1 HR2 hB1 hb1 hB2 hb2 hs1 hs2 hg1 HX0
    go_loopw [11, 12] (fun tb i wr => ∃ (k : Nat) (u : List UInt8) (t : Bool), i = .int .i64 k ∧ k ≤ 32 ∧ p0 + k ≤ 8 * n ∧ tb = .bool t ∧ Aside0 (t = some_ y.toNat k) ∧ Aside0 (u = flips z4 p0 y.toNat k) ∧ Aside0 (Bs wr (w.heap.size + 1) (.slice (some ⟨g, 0, none⟩) n c4) u) ∧ Aside0 (Below (w.heap.size + 1) (w.alloc (.cells #[.int .u32 (x.toNat : Int), .int .u32 (y.toNat : Int)] 30)) wr)) (fun _ i _ => 32 - (intOf i).toNat)
    case atStart => exact ⟨0, z4, false, rfl, by omega, by omega, rfl, ⟨rfl⟩, ⟨rfl⟩, hB4, hb4⟩
    case round =>
      obtain ⟨k, u, t, rfl, hk, hpk, rfl, HT, HU, HB, HBel⟩ := hrel
      have hln := Aside0.mk (HB.out.read).2.1
      have hx1 := cellb4 x y HBel.out 1 _ rfl
      by_cases hgo : k < 32 ∧ p0 + k < 8 * n
      · obtain ⟨hk2, hp2⟩ := hgo
        have hd1 : decide ((k : Int) < 32) = true := decide_eq_true (by omega)
        have hd2 : decide ((p0 : Int) + (k : Int) < 8 * (n : Int)) = true := decide_eq_true (by omega)
        obtain ⟨hcell, hfroz⟩ := HB.out.cell ((p0 + k) / 8) (by omega)
        obtain ⟨b, hb0⟩ : ∃ b, b = u.getD ((p0 + k) / 8) 0 := ⟨_, rfl⟩
        rw [← hb0] at hcell
        replace hb0 := Aside0.mk hb0
        by_cases hbit : y.toNat.testBit k = true
        · have hbt := bit_int y k (by omega) hbit
          have HBT := Aside0.mk hbit
          clear hbit
          go_wp2
          go_roundw
          case rel =>
            refine ⟨k + 1, flip u (p0 + k), true, by go_num, by omega, by omega, rfl, ⟨?_⟩, ⟨?_⟩, ⟨?_⟩, ⟨?_⟩⟩
            · show true = (some_ y.toNat k || y.toNat.testBit k)
              rw [HBT.out, Bool.or_true]
            · show flip u (p0 + k) = if y.toNat.testBit k then flip (flips z4 p0 y.toNat k) (p0 + k) else flips z4 p0 y.toNat k
              rw [if_pos HBT.out, HU.out]
            · rw [flip_store b ((p0 + k) % 8) (by omega), hb0.out]
              exact HB.out.put _ _
            · exact HBel.out.setCell (by omega) _
          case measure => simp [intOf]; omega
        · have hbt := bit_int0 y k (by omega) (Bool.eq_false_iff.2 hbit)
          have HBT := Aside0.mk (Bool.eq_false_iff.2 hbit)
          clear hbit
          go_wp2
          go_roundw
          case rel =>
            refine ⟨k + 1, u, t, by go_num, by omega, by omega, rfl, ⟨?_⟩, ⟨?_⟩, HB, HBel⟩
            · show t = (some_ y.toNat k || y.toNat.testBit k)
              rw [HBT.out, Bool.or_false, HT.out]
            · show u = if y.toNat.testBit k then flip (flips z4 p0 y.toNat k) (p0 + k) else flips z4 p0 y.toNat k
              rw [HBT.out, HU.out]
              rfl
          case measure => simp [intOf]; omega
      · have hf := Aside0.mk (fits_flips z4 p0 y.toNat k (by rw [← HN.out]; exact hL5) hk (by rw [← HN.out]; exact hpk) HF4.out.symm)
        have HF1 := Aside0.mk (show (!t) = fits u by rw [HU.out, hf.out, ← HT.out])
        have HRu := Aside0.mk (Bs.read HB.out).1
        have hnot : (decide ((k : Int) < 32) && decide ((p0 : Int) + (k : Int) < 8 * (n : Int))) = false := by
          rw [Bool.and_eq_false_iff, decide_eq_false_iff_not, decide_eq_false_iff_not]
          omega
        by_cases hk32 : k < 32
        · have hd1 : decide ((k : Int) < 32) = true := decide_eq_true (by omega)
          have hd2 : decide ((p0 : Int) + (k : Int) < 8 * (n : Int)) = false := decide_eq_false (by omega)
          clear hnot
          cases t
          all_goals
            go_wp2_with (first
              | (go_at_call 15; with_reducible refine (Fits_v _ _ _ u _ hln.out.symm HRu.out (by omega) (by omega) _ HF1.out).mono ?_; rintro e w' ⟨rfl, rfl⟩)
              | (go_at_call 11; refine (sure_calls _).mono ?_; rintro e w5 ⟨rfl, hb5⟩; have HB5 := Aside0.mk hb5; clear hb5))
            go_ret
            exact ⟨rfl, burst_end HBel.out HB5.out⟩
        · have hd1 : decide ((k : Int) < 32) = false := decide_eq_false (by omega)
          clear hnot
          cases t
          all_goals
            go_wp2_with (first
              | (go_at_call 15; with_reducible refine (Fits_v _ _ _ u _ hln.out.symm HRu.out (by omega) (by omega) _ HF1.out).mono ?_; rintro e w' ⟨rfl, rfl⟩)
              | (go_at_call 11; refine (sure_calls _).mono ?_; rintro e w5 ⟨rfl, hb5⟩; have HB5 := Aside0.mk hb5; clear hb5))
            go_ret
            exact ⟨rfl, burst_end HBel.out HB5.out⟩
theorem burst_row (A0 : Option Addr) (c0 : Nat) (l0 : List UInt8) (A1 : Option Addr) (c1 : Nat) (l1 : List UInt8) (xs : List Int) (w : World)
    (hr0 : Kb.C w A0 l0.length l0) (hl0 : l0.length ≤ 140737488351232) (hc0 : l0.length ≤ c0) (hr1 : Kb.C w A1 l1.length l1) (hl1 : l1.length ≤ 140737488351232) (hc1 : l1.length ≤ c1) (hx : xs.length = 2) (hw : ∀ x ∈ xs, (Lit.int .u32 x).wf = true) :
    Calls Try.prog 4 #[.slice A0 l0.length c0, .slice A1 l1.length c1, .agg (xs.map (Value.int .u32)).toArray] w fun e w' => e = .returned (.bool true) ∧ Below w.heap.size w w' := by
  match xs, hx with
  | [a, b], _ =>
    obtain ⟨x, rfl⟩ := wf_u32 (hw a (by simp))
    obtain ⟨y, rfl⟩ := wf_u32 (hw b (by simp))
    exact burst_calls A0 c0 l0 A1 c1 l1 x y w hr0 hl0 hc0 hr1 hl1 hc1
end Go.Proofs.Ytpgighcobmaecaa.Crc
