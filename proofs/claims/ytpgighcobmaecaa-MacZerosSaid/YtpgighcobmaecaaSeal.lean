/- Package seal, and the document's layer 8, by contracts: the texts. -/
import Derived.Test.YtpgighcobmaecaaShaRefOf
set_option linter.unusedVariables false
set_option linter.unusedSimpArgs false
namespace Go.Proofs.Ytpgighcobmaecaa.Seal
open Go.RowKit Go.Proofs.YtpgighcobmaecaaW.PrintWords Go.Proofs.YtpgighcobmaecaaW.PrintLast Go.Proofs.Ytpgighcobmaecaa.Sha

abbrev V64 := BitVec 64
def text (a b : V64) : List UInt8 := 83 :: (tail8 a.toNat ++ tail8 b.toNat)
def pick2 (a b : V64) (k : Nat) : V64 := if k = 0 then a else b
/-- The text up to number k. -/
def upto (a b : V64) : Nat → List UInt8
  | 0 => [83]
  | k + 1 => upto a b k ++ tail8 (pick2 a b k).toNat
theorem upto2 (a b : V64) : upto a b 2 = text a b := rfl
theorem upto_len (a b : V64) : ∀ k, (upto a b k).length = 1 + 8 * k
  | 0 => rfl
  | k + 1 => by rw [upto, List.length_append, upto_len a b k]; show _ + 8 = _; omega
theorem text_len (a b : V64) : (text a b).length = 17 := rfl
theorem tail_len (n : Nat) : (tail8 n).length = 8 := rfl
theorem pick_at (a b : V64) (k : Nat) (h : k < 2) : (#[.int .u64 (a.toNat : Int), .int .u64 (b.toNat : Int)] : Array Value)[k]? = some (.int .u64 ((pick2 a b k).toNat : Int)) := by
  rcases (show k = 0 ∨ k = 1 by omega) with rfl | rfl <;> rfl
set_option maxRecDepth 100000 in
set_option maxHeartbeats 2000000 in
theorem text_calls (a b : V64) (w : World) : Calls Try.prog 46 #[.int .u64 (a.toNat : Int), .int .u64 (b.toNat : Int)] w (RetBs w (text a b)) := by
  go_enter Try.func46, Try.ntmps46
  go_wp2
  go_loopw [5, 7, 8, 13] (fun o _ _ i wr => ∃ (k m : Nat) (A3 : Option Addr) (c3 : Nat), k ≤ 2 ∧ Aside0 (m = 1 + 8 * k) ∧ i = .int .i64 k ∧ o = .slice A3 m c3 ∧ Aside0 (Bs wr w.heap.size (.slice A3 m c3) (upto a b k)) ∧ Aside0 (Below w.heap.size w wr)) (fun _ _ _ i _ => 2 - (intOf i).toNat)
  case atStart => exact ⟨0, 1, some ⟨w.heap.size, 0, none⟩, 1, by omega, ⟨rfl⟩, rfl, rfl, ⟨Bs.one w _ _ rfl (Nat.le_refl _) 83 _ rfl⟩, ⟨below_new _⟩⟩
  case round =>
    obtain ⟨k, m, A3, c3, hk, HM, rfl, rfl, HB, HW⟩ := hrel
    obtain ⟨wo, rfl⟩ : ∃ wo : World, wo = wr := ⟨_, rfl⟩
    by_cases hlt : k < 2
    · obtain ⟨v, hv⟩ : ∃ v, v = pick2 a b k := ⟨_, rfl⟩
      have hp := pick_at a b k hlt
      rw [← hv] at hp
      have hix := run_index_row (P := Try.prog) Try.underlying62 Try.isAgg50 Try.sizeOf50 #[.int .u64 (a.toNat : Int), .int .u64 (b.toNat : Int)] .i64 k (.int .u64 (v.toNat : Int)) hlt hp
      have HU := Aside0.mk (show upto a b (k + 1) = upto a b k ++ tail8 v.toNat by rw [hv]; rfl)
      have hvb := v.isLt
      have hm17 : m ≤ 17 := by have := HM.out; omega
      have hk2 : (k : Int) < 2 := by omega
      clear hp hv
      go_wp2
      go_loopw [5, 8] (fun o i wr => ∃ (j q : Nat) (A3 : Option Addr) (c3 : Nat), j ≤ 8 ∧ Aside0 (q = m + j) ∧ i = .int .i64 (56 - 8 * (j : Int)) ∧ o = .slice A3 q c3 ∧ Aside0 (Bs wr w.heap.size (.slice A3 q c3) (upto a b k ++ (tail8 v.toNat).take j)) ∧ Aside0 (Below w.heap.size w wr)) (fun _ i _ => (intOf i + 8).toNat)
      case atStart => exact ⟨0, m, A3, c3, by omega, ⟨rfl⟩, by go_num, rfl, ⟨by simpa using HB.out⟩, HW⟩
      case round =>
        clear HB HW
        obtain ⟨j, q, A4, c4, hj, HQ, rfl, rfl, HB, HW⟩ := hrel
        by_cases hlt2 : j < 8
        · have HT := Aside0.mk (tail_at v.toNat j hlt2)
          have HB1 := Aside0.mk (byte_int v.toNat (56 - 8 * j))
          have h8 : (0 : Int) ≤ 56 - 8 * (j : Int) := by omega
          have hsh : (56 - 8 * (j : Int)).toNat = 56 - 8 * j := by omega
          have HH := Aside0.mk (show (upto a b k ++ (tail8 v.toNat).take j).length = q by rw [List.length_append, upto_len, List.length_take, tail_len, HQ.out, HM.out]; omega)
          have hq : q ≤ 25 := by have := HQ.out; omega
          go_wp2_with (at_builtin; refine app_bs (w0 := w) w.heap.size rfl (.tmp 20) (.tmp 26) rfl _ (upto a b k ++ (tail8 v.toNat).take j) [byte v.toNat (56 - 8 * j)] _ _ _ rfl rfl (HB.out.alloc _) (Bs.read (Bs.one _ w.heap.size _ rfl HW.out.size _ _ HB1.out.symm)).1 (HW.out.alloc HW.out.size _) (by simp; have := HW.out.size; omega) (by rw [HH.out]; omega) ?_; intro z5 A5 c5 w5 hz5 hB5 hb5 hs5 hg5)
          go_roundw
          case rel => exact ⟨j + 1, q + 1, A5, c5, by omega, ⟨by have := HQ.out; omega⟩, by go_num, by rw [hz5.out, List.length_append, HH.out]; rfl, ⟨by rw [HT.out, ← List.append_assoc, ← hz5.out, show q + 1 = z5.length by rw [hz5.out, List.length_append, HH.out]; rfl]; exact hB5.out⟩, hb5⟩
          case measure => simp [intOf]; omega
        · obtain rfl : j = 8 := by omega
          have h8 : 56 - 8 * ((8 : Nat) : Int) = -8 := by omega
          rw [h8]
          clear hlt2 h8
          go_wp2
          go_roundw
          case rel => exact ⟨k + 1, q, A4, c4, by omega, ⟨by have := HQ.out; have := HM.out; omega⟩, by go_num, rfl, ⟨by rw [HU.out]; exact HB.out⟩, HW⟩
          case measure => simp [intOf]; omega
    · obtain rfl : k = 2 := by omega
      obtain rfl : m = 17 := HM.out
      clear hlt
      go_wp2
      go_ret
      exact ⟨A3, c3, rfl, HB.out, HW.out⟩
theorem pow_next (j : Nat) (h : j + 1 < 8) : 2 ^ (56 - 8 * j) / 256 = 2 ^ (56 - 8 * (j + 1)) := by
  rcases (show j = 0 ∨ j = 1 ∨ j = 2 ∨ j = 3 ∨ j = 4 ∨ j = 5 ∨ j = 6 by omega) with rfl | rfl | rfl | rfl | rfl | rfl | rfl <;> rfl
theorem pow_bd (j : Nat) (h : j < 8) : 1 ≤ 2 ^ (56 - 8 * j) ∧ 2 ^ (56 - 8 * j) ≤ 72057594037927936 := by
  rcases (show j = 0 ∨ j = 1 ∨ j = 2 ∨ j = 3 ∨ j = 4 ∨ j = 5 ∨ j = 6 ∨ j = 7 by omega) with rfl | rfl | rfl | rfl | rfl | rfl | rfl | rfl <;> exact ⟨by decide, by decide⟩
theorem quo_int (v : V64) (e k : Nat) (he : e = 2 ^ k) : (IntKind.u64.wrap ((v.toNat : Int) / (e : Int))).tmod 256 % 256 = ((byte v.toNat k).toNat : Int) := by
  have hw : ∀ z : Int, IntKind.u64.wrap z = z % 18446744073709551616 := fun z => rfl
  have hv := v.isLt
  have hd := Nat.div_le_self v.toNat e
  rw [byte_int, ← pow_cast, ← he, hw, ← Int.natCast_ediv]
  obtain ⟨q, hq⟩ : ∃ q, q = v.toNat / e := ⟨_, rfl⟩
  rw [← hq] at hd ⊢
  rw [Int.tmod_eq_emod_of_nonneg (by omega)]
  omega
set_option maxRecDepth 100000 in
set_option maxHeartbeats 2000000 in
theorem RefText_calls (a b : V64) (w : World) : Calls Try.prog 34 #[.int .u64 (a.toNat : Int), .int .u64 (b.toNat : Int)] w (RetBs w (text a b)) := by
  go_enter Try.func34, Try.ntmps34
  go_wp2
  go_loopw [5, 7, 8, 9] (fun o i _ _ wr => ∃ (k m : Nat) (A3 : Option Addr) (c3 : Nat), k ≤ 2 ∧ Aside0 (m = 1 + 8 * k) ∧ i = .int .i64 k ∧ o = .slice A3 m c3 ∧ Aside0 (Bs wr w.heap.size (.slice A3 m c3) (upto a b k)) ∧ Aside0 (Blk wr (w.heap.size + 1) 62 #[.int .u64 (a.toNat : Int), .int .u64 (b.toNat : Int)]) ∧ Aside0 (Below w.heap.size w wr)) (fun _ i _ _ _ => 2 - (intOf i).toNat)
  case atStart => exact ⟨0, 1, some ⟨w.heap.size, 0, none⟩, 1, by omega, ⟨rfl⟩, rfl, rfl, ⟨(Bs.one w _ _ rfl (Nat.le_refl _) 83 _ rfl).alloc _⟩, ⟨blk_new1 _ _ _ _⟩, ⟨below_alloc (below_new _) _⟩⟩
  case round =>
    obtain ⟨k, m, A3, c3, hk, HM, rfl, rfl, HB, HA, HW⟩ := hrel
    obtain ⟨wo, rfl⟩ : ∃ wo : World, wo = wr := ⟨_, rfl⟩
    by_cases hlt : k < 2
    · obtain ⟨v, hv⟩ : ∃ v, v = pick2 a b k := ⟨_, rfl⟩
      have hp := pick_at a b k hlt
      rw [← hv] at hp
      have HP := Aside0.mk hp
      have HU := Aside0.mk (show upto a b (k + 1) = upto a b k ++ tail8 v.toNat by rw [hv]; rfl)
      have hvb := v.isLt
      have hm17 : m ≤ 17 := by have := HM.out; omega
      have hk2 : (k : Int) < 2 := by omega
      clear hp hv
      go_wp2
      go_loopw [5, 8, 9] (fun o p i wr => ∃ (j q e : Nat) (A3 : Option Addr) (c3 : Nat), j ≤ 8 ∧ Aside0 (q = m + j) ∧ Aside0 (j < 8 → e = 2 ^ (56 - 8 * j)) ∧ p = .int .u64 e ∧ i = .int .i64 j ∧ o = .slice A3 q c3 ∧ Aside0 (Bs wr w.heap.size (.slice A3 q c3) (upto a b k ++ (tail8 v.toNat).take j)) ∧ Aside0 (Blk wr (w.heap.size + 1) 62 #[.int .u64 (a.toNat : Int), .int .u64 (b.toNat : Int)]) ∧ Aside0 (Below w.heap.size w wr)) (fun _ _ i _ => 8 - (intOf i).toNat)
      case atStart => exact ⟨0, m, 72057594037927936, A3, c3, by omega, ⟨rfl⟩, ⟨fun _ => rfl⟩, rfl, rfl, rfl, ⟨by simpa using HB.out⟩, HA, HW⟩
      case round =>
        clear HB HA HW
        obtain ⟨j, q, e, A4, c4, hj, HQ, HE, rfl, rfl, rfl, HB, HA, HW⟩ := hrel
        by_cases hlt2 : j < 8
        · have he := HE.out hlt2
          have HT := Aside0.mk (tail_at v.toNat j hlt2)
          have HB1 := Aside0.mk (quo_int v e (56 - 8 * j) he)
          have he1 : 1 ≤ e := by have := (pow_bd j hlt2).1; omega
          have he2 : e ≤ 72057594037927936 := by have := (pow_bd j hlt2).2; omega
          have he0 : ((e : Int) == 0) = false := by rw [beq_eq_false_iff_ne]; omega
          have HE2 := Aside0.mk (show j + 1 < 8 → e / 256 = 2 ^ (56 - 8 * (j + 1)) from fun h => by rw [he]; exact pow_next j h)
          have hc := (blk_cell HA.out k).trans HP.out
          have h8 : (j : Int) < 8 := by omega
          have HH := Aside0.mk (show (upto a b k ++ (tail8 v.toNat).take j).length = q by rw [List.length_append, upto_len, List.length_take, tail_len, HQ.out, HM.out]; omega)
          have hq : q ≤ 25 := by have := HQ.out; omega
          clear he
          go_wp2_with (at_builtin; refine app_bs (w0 := w) w.heap.size rfl (.tmp 22) (.tmp 30) rfl _ (upto a b k ++ (tail8 v.toNat).take j) [byte v.toNat (56 - 8 * j)] _ _ _ rfl rfl (HB.out.alloc _) (Bs.read (Bs.one _ w.heap.size _ rfl HW.out.size _ _ HB1.out)).1 (HW.out.alloc HW.out.size _) (by simp; have := HW.out.size; omega) (by rw [HH.out]; omega) ?_; intro z5 A5 c5 w5 hz5 hB5 hb5 hs5 hg5)
          go_roundw
          case rel => exact ⟨j + 1, q + 1, e / 256, A5, c5, by omega, ⟨by have := HQ.out; omega⟩, HE2, by go_num, by go_num, by rw [hz5.out, List.length_append, HH.out]; rfl, ⟨by rw [HT.out, ← List.append_assoc, ← hz5.out, show q + 1 = z5.length by rw [hz5.out, List.length_append, HH.out]; rfl]; exact hB5.out⟩, ⟨blk_grown (blk_alloc HA.out _) hg5.out (Kd.R_ne HB.out HA.out (by decide))⟩, hb5⟩
          case measure => simp [intOf]; omega
        · obtain rfl : j = 8 := by omega
          clear hlt2
          go_wp2
          go_roundw
          case rel => exact ⟨k + 1, q, A4, c4, by omega, ⟨by have := HQ.out; have := HM.out; omega⟩, by go_num, rfl, ⟨by rw [HU.out]; exact HB.out⟩, HA, HW⟩
          case measure => simp [intOf]; omega
    · obtain rfl : k = 2 := by omega
      obtain rfl : m = 17 := HM.out
      clear hlt
      go_wp2
      go_ret
      exact ⟨A3, c3, rfl, HB.out, HW.out⟩
end Go.Proofs.Ytpgighcobmaecaa.Seal
