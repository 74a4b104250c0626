/- sha.Text: a sum as digits. -/
import Derived.Test.YthmlidlnojdggaaDoorBuilder
import Derived.Test.YthmlidlnojdggaaDoorArr
set_option linter.unusedVariables false
set_option linter.unusedSimpArgs false
namespace Go.Proofs.YthmlidlnojdggaaDoor.Sha
open Go.RowKit Go.Proofs.YthmlidlnojdggaaDoorW.PrintWords

def hd (n : Nat) : UInt8 := ([48, 49, 50, 51, 52, 53, 54, 55, 56, 57, 97, 98, 99, 100, 101, 102] : List UInt8).getD n 0
def hexOf (l : List UInt8) : List UInt8 := l.flatMap fun c => [hd (c.toNat / 16), hd (c.toNat % 16)]
theorem hexOf_len (l : List UInt8) : (hexOf l).length = 2 * l.length := by
  induction l with
  | nil => rfl
  | cons x l ih => simp only [hexOf, List.flatMap_cons, List.length_append, List.length_cons, List.length_nil] at ih ⊢; omega
theorem hexOf_snoc (l : List UInt8) (k : Nat) (x : UInt8) (h : k < l.length) (hx : x = l.getD k 0) : hexOf (l.take (k + 1)) = hexOf (l.take k) ++ [hd (x.toNat / 16)] ++ [hd (x.toNat % 16)] := by
  have e : l.getD k 0 = l[k] := by simp [List.getD, h]
  rw [List.take_succ_eq_append_getElem h, hexOf, List.flatMap_append, hx, e]
  simp [hexOf]
abbrev digs : ByteArray := ⟨#[48, 49, 50, 51, 52, 53, 54, 55, 56, 57, 97, 98, 99, 100, 101, 102]⟩
theorem dig_at (n : Nat) (h : n < 16) (k : IntKind) (z : Int) (hz : z = (n : Int)) (w : World) : (Instr.index 9 (.string digs) (.int k z)).run Tryd.prog w = .ok (.int .u8 ((hd n).toNat : Int)) w := by
  subst hz
  rcases (show n = 0 ∨ n = 1 ∨ n = 2 ∨ n = 3 ∨ n = 4 ∨ n = 5 ∨ n = 6 ∨ n = 7 ∨ n = 8 ∨ n = 9 ∨ n = 10 ∨ n = 11 ∨ n = 12 ∨ n = 13 ∨ n = 14 ∨ n = 15 by omega) with rfl | rfl | rfl | rfl | rfl | rfl | rfl | rfl | rfl | rfl | rfl | rfl | rfl | rfl | rfl | rfl <;> kernel_rfl
theorem and15 (x : UInt8) : bits .and .u8 (x.toNat : Int) 15 = ((x.toNat % 16 : Nat) : Int) := by
  have h := ba8 x 15
  rw [show (((15 : UInt8).toNat : Nat) : Int) = 15 from rfl] at h
  rw [h, UInt8.toNat_and, show (15 : UInt8).toNat = 2 ^ 4 - 1 from rfl, Nat.and_two_pow_sub_one_eq_mod]
theorem sz32t (l : List UInt8) (h : l.length = 32) : (Tryd.prog.info? 24).map (·.size) = some (e8 l).size := by rw [e8_size, h]; kernel_rfl
set_option maxRecDepth 100000 in
set_option maxHeartbeats 4000000 in
theorem Text_calls (l : List UInt8) (hl : l.length = 32) (w : World) :
    Calls Tryd.prog 18 #[.agg (e8 l)] w fun e w' => e = .returned (.string (strOf (hexOf l))) ∧ Below w.heap.size w w' := by
  have HL := Aside0.mk hl
  have HZ := Aside0.mk (sz32t l hl)
  clear hl
  go_enter Tryd.func18, Tryd.ntmps18
  go_wp2_with ((with_reducible refine at_load_ (x := .tmp 1) ?_); (refine wpList_load_row rfl 24 _ rfl w.heap.size rfl 24 (e8 l) (0, 0) _ (blk_alloc (blk_new w _) _) Tryd.underlying24 rfl HZ.out ?_))
  go_loopw [5, 7] (fun _ i wr => ∃ j : Nat, j ≤ 32 ∧ i = .int .i64 j ∧ Aside0 (IsB (w.heap.size + 1) (w.heap.size + 1) (hexOf (l.take j)) wr) ∧ Aside0 (Below w.heap.size w wr)) (fun _ i _ => 32 - (intOf i).toNat)
  case atStart => exact ⟨0, by decide, rfl, ⟨by have := IsB.new (w.alloc (.cells (e8 l) 24)); simpa [hexOf] using this⟩, ⟨below_alloc (below_new _) _⟩⟩
  case round =>
    obtain ⟨j, hj, rfl, HB, HW⟩ := hrel
    by_cases hlt : j < 32
    · have hji : (j : Int) < 32 := by omega
      obtain ⟨x, hx⟩ : ∃ x, x = l.getD j 0 := ⟨_, rfl⟩
      have HS := Aside0.mk (hexOf_snoc l j x (by rw [HL.out]; exact hlt) hx)
      have hix : ∀ w, (Instr.index 24 (.agg (e8 l)) (.int .i64 (j : Int))).run Tryd.prog w = .ok (.int .u8 (x.toNat : Int)) w := fun w => by
        rw [hx]
        exact run_index_row Tryd.underlying24 Tryd.isAgg5 Tryd.sizeOf5 (e8 l) .i64 j _ hlt (e8_get l j (by rw [HL.out]; exact hlt)) w
      have h1 : ∀ w, (Instr.index 9 (.string digs) (.int .u8 ((x.toNat : Int) / 16))).run Tryd.prog w = .ok (.int .u8 ((hd (x.toNat / 16)).toNat : Int)) w := fun w => dig_at _ (by have := x.toNat_lt; omega) _ _ (by omega) w
      have h2 : ∀ w, (Instr.index 9 (.string digs) (.int .u8 (bits .and .u8 (x.toNat : Int) 15))).run Tryd.prog w = .ok (.int .u8 ((hd (x.toNat % 16)).toNat : Int)) w := fun w => dig_at _ (by omega) _ _ (and15 x) w
      have HN := Aside0.mk (show (hexOf (l.take j)).length ≤ 64 by rw [hexOf_len, List.length_take]; omega)
      clear hx
      have hbl : w.heap.size + 1 ≤ wr.heap.size := by have := HB.out.lt; omega
      go_wp2_with (first
        | (go_at_call 61; (with_reducible refine (WriteByte_v _ _ _ _ (hd (x.toNat / 16)) rfl wr HB.out (by have := HN.out; omega) hbl).mono ?_); rintro e w1 ⟨rfl, hB1, hb1⟩; replace hB1 := Aside0.mk hB1; have hz1 := hb1.size; replace hb1 := Aside0.mk hb1)
        | (go_at_call 61; (with_reducible refine (WriteByte_v _ _ _ _ (hd (x.toNat % 16)) rfl w1 hB1.out (by have := HN.out; rw [List.length_append, List.length_singleton]; omega) (by omega)).mono ?_); rintro e w2 ⟨rfl, hB2, hb2⟩; replace hB2 := Aside0.mk hB2; have hz2 := hb2.size; replace hb2 := Aside0.mk hb2))
      go_roundw
      case rel => exact ⟨j + 1, by omega, by go_num, ⟨by rw [HS.out]; exact hB2.out⟩, ⟨(HW.out.trans (hb1.out.mono (by omega))).trans (hb2.out.mono (by omega))⟩⟩
      case measure => simp [intOf]; omega
    · obtain rfl : j = 32 := by omega
      clear hlt
      have HE := Aside0.mk (show l.take 32 = l from List.take_of_length_le (by rw [HL.out]; decide))
      rw [show ((32 : Nat) : Int) = 32 from rfl]
      have hbl : w.heap.size + 1 ≤ wr.heap.size := by have := HB.out.lt; omega
      go_wp2_with (go_at_call 62; (with_reducible refine (String_v _ _ _ _ HB.out hbl).mono ?_); rintro e w1 ⟨rfl, hb1⟩)
      go_ret
      rw [HE.out]
      exact ⟨rfl, HW.out.trans (hb1.mono (by omega))⟩
end Go.Proofs.YthmlidlnojdggaaDoor.Sha
