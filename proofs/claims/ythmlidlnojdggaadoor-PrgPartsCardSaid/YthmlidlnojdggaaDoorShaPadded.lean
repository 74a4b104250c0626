/- sha's padded by a contract. -/
import Derived.Test.YthmlidlnojdggaaDoorShaBehind
set_option linter.unusedVariables false
set_option linter.unusedSimpArgs false
namespace Go.Proofs.YthmlidlnojdggaaDoor.Sha
open Go.RowKit Go.Proofs.YthmlidlnojdggaaDoorW.PrintWords Go.Proofs.YthmlidlnojdggaaDoorW.PrintLast

def slen : Value → Nat
  | .slice _ n _ => n
  | _ => 0
theorem noughts_lt (n : Nat) : noughts n < 64 := by unfold noughts; omega
theorem noughts_go (n k : Nat) (h : k < noughts n) : (n + 1 + k) % 64 ≠ 56 := by unfold noughts at h; omega
theorem noughts_end (n : Nat) : (n + 1 + noughts n) % 64 = 56 := by unfold noughts; omega
def head (l : List UInt8) (k : Nat) : List UInt8 := l ++ 128 :: List.replicate k 0
theorem head_len (l : List UInt8) (k : Nat) : (head l k).length = l.length + 1 + k := by simp [head]; omega
theorem head_succ (l : List UInt8) (k : Nat) : head l (k + 1) = head l k ++ [0] := by simp [head, List.replicate_succ']
theorem tail_at (n j : Nat) (h : j < 8) : (tail8 n).take (j + 1) = (tail8 n).take j ++ [byte n (56 - 8 * j)] := by
  rcases (show j = 0 ∨ j = 1 ∨ j = 2 ∨ j = 3 ∨ j = 4 ∨ j = 5 ∨ j = 6 ∨ j = 7 by omega) with rfl | rfl | rfl | rfl | rfl | rfl | rfl | rfl <;> rfl
theorem byte_int (n k : Nat) : ((byte n k).toNat : Int) = (n : Int) / 2 ^ k % 256 := by
  unfold byte
  rw [UInt8.toNat_ofNat', Nat.shiftRight_eq_div_pow, Int.natCast_emod, Int.natCast_ediv, pow_cast]
  rfl
set_option maxRecDepth 100000 in
set_option maxHeartbeats 2000000 in
theorem padded_calls (A : Option Addr) (c n : Nat) (l : List UInt8) (w : World) (hn : l.length = n) (hr : Kb.C w A n l) (hl : n ≤ 140737488000000) :
    Calls Tryd.prog 52 #[.slice A n c] w (RetBs w (padded l)) := by
  have HC := Aside0.mk (Clone_v A c n l w hn hr (by omega) l rfl)
  have HN := Aside0.mk hn
  have HNN := Aside0.mk (noughts_lt n)
  clear hr hn
  go_enter Tryd.func52, Tryd.ntmps52
  go_wp2_with (first
    | (go_at_call 82; refine HC.out.mono ?_; rintro e w1 ⟨A1, c1, rfl, hB1, hb1⟩; replace hB1 := Aside0.mk hB1; replace hb1 := Aside0.mk hb1)
    | (at_builtin; refine app_bs (w0 := w) w.heap.size rfl (.tmp 11) (.tmp 12) rfl _ l [128] _ _ _ rfl rfl (hB1.out.alloc _) (Bs.read (Bs.one w1 w.heap.size _ rfl hb1.out.size 128 _ rfl)).1 (hb1.out.alloc hb1.out.size _) (by simp; have := hb1.out.size; omega) (by have := HN.out; omega) ?_; intro z2 A2 c2 w2 hz2 hB2 hb2 hs2 hg2))
  clear hB1 hb1
  go_loopw [4] (fun o wr => ∃ (k m : Nat) (A3 : Option Addr) (c3 : Nat), k ≤ noughts n ∧ m = n + 1 + k ∧ o = .slice A3 m c3 ∧ Aside0 (Bs wr w.heap.size (.slice A3 m c3) (head l k)) ∧ Aside0 (Below w.heap.size w wr)) (fun o _ => n + 1 + noughts n - slen o)
  case atStart => exact ⟨0, _, A2, c2, Nat.zero_le _, by rw [hz2.out]; simp [HN.out], rfl, ⟨by rw [show head l 0 = z2 from hz2.out.symm]; exact hB2.out⟩, hb2⟩
  case round =>
    obtain ⟨k, m, A3, c3, hk, hm, rfl, HB, HW⟩ := hrel
    have HM := Aside0.mk hm
    have hmb : m ≤ 140737488000065 := by have := HNN.out; omega
    clear hm
    by_cases hlt : k < noughts n
    · have d1 : ((m : Int) % 64 != 56) = true := by
        rw [bne_iff_ne]
        have := noughts_go n k hlt
        have := HM.out
        omega
      have HH := Aside0.mk (show (head l k).length = m by rw [head_len, HM.out, HN.out])
      go_wp2_with (at_builtin; refine app_bs (w0 := w) w.heap.size rfl (.tmp 18) (.tmp 19) rfl _ (head l k) [0] _ _ _ rfl rfl (HB.out.alloc _) (Bs.read (Bs.one _ w.heap.size _ rfl HW.out.size 0 _ rfl)).1 (HW.out.alloc HW.out.size _) (by simp; have := HW.out.size; omega) (by rw [HH.out]; omega) ?_; intro z5 A5 c5 w5 hz5 hB5 hb5 hs5 hg5)
      go_roundw
      case rel => exact ⟨k + 1, _, A5, c5, by omega, by rw [hz5.out]; simp [HH.out, HM.out]; omega, rfl, ⟨by rw [head_succ, ← hz5.out]; exact hB5.out⟩, hb5⟩
      case measure =>
        have hz5l : z5.length = m + 1 := by rw [hz5.out]; simp [HH.out]
        have := HM.out
        simp [slen]
        omega
    · obtain rfl : k = noughts n := by omega
      have d1 : ((m : Int) % 64 != 56) = false := by
        rw [bne_eq_false_iff_eq]
        have := noughts_end n
        have := HM.out
        omega
      have HH := Aside0.mk (show (head l (noughts n)).length = m by rw [head_len, HM.out, HN.out])
      clear hlt
      go_wp2
      go_loopw [4, 5, 21] (fun o _ i wr => ∃ (j m : Nat) (A3 : Option Addr) (c3 : Nat), j ≤ 8 ∧ i = .int .i64 j ∧ Aside0 (m = n + 1 + noughts n + j) ∧ o = .slice A3 m c3 ∧ Aside0 (Bs wr w.heap.size (.slice A3 m c3) (head l (noughts n) ++ (tail8 (8 * n)).take j)) ∧ Aside0 (Below w.heap.size w wr)) (fun _ _ i _ => 8 - (intOf i).toNat)
      case atStart => exact ⟨0, m, A3, c3, by omega, rfl, HM, rfl, ⟨by simpa using HB.out⟩, HW⟩
      case round =>
        clear HM d1 HB HW HH
        obtain ⟨j, m, A3, c3, hj, rfl, HM, rfl, HB, HW⟩ := hrel
        by_cases hlt : j < 8
        · have HB1 := Aside0.mk (show (n : Int) * 8 / 2 ^ (56 - 8 * j) % 256 = ((byte (8 * n) (56 - 8 * j)).toNat : Int) by rw [byte_int, Int.natCast_mul, Int.mul_comm]; rfl)
          have HT := Aside0.mk (tail_at (8 * n) j hlt)
          have h8 : (j : Int) < 8 := by omega
          have HH := Aside0.mk (show (head l (noughts n) ++ (tail8 (8 * n)).take j).length = m by rw [List.length_append, head_len, HM.out, HN.out, List.length_take]; show _ + min j 8 = _; omega)
          have hmb2 : m ≤ 140737488000165 := by have := HM.out; have := HNN.out; omega
          go_wp2_with (at_builtin; refine app_bs (w0 := w) w.heap.size rfl (.tmp 24) (.tmp 32) rfl _ (head l (noughts n) ++ (tail8 (8 * n)).take j) [byte (8 * n) (56 - 8 * j)] _ _ _ rfl rfl (HB.out.alloc _) (Bs.read (Bs.one _ w.heap.size _ rfl HW.out.size _ _ HB1.out)).1 (HW.out.alloc HW.out.size _) (by simp; have := HW.out.size; omega) (by rw [HH.out]; omega) ?_; intro z5 A5 c5 w5 hz5 hB5 hb5 hs5 hg5)
          go_roundw
          case rel => exact ⟨j + 1, _, A5, c5, by omega, by go_num, ⟨by rw [hz5.out, List.length_append, HH.out, HM.out]; simp; omega⟩, rfl, ⟨by rw [HT.out, ← List.append_assoc, ← hz5.out]; exact hB5.out⟩, hb5⟩
          case measure => simp [intOf]; omega
        · obtain rfl : j = 8 := by omega
          have HH := Aside0.mk (show (padded l).length = m by rw [padded, List.length_append, List.length_cons, List.length_append, List.length_replicate, HM.out, HN.out]; show _ + (_ + 8 + 1) = _; omega)
          have HP := Aside0.mk (show padded l = head l (noughts n) ++ (tail8 (8 * n)).take 8 by rw [padded, HN.out]; simp [head]; rfl)
          go_wp2
          go_ret
          exact ⟨A3, c3, by rw [HH.out]; rfl, by rw [HH.out, HP.out]; exact HB.out, HW.out⟩
end Go.Proofs.YthmlidlnojdggaaDoor.Sha
