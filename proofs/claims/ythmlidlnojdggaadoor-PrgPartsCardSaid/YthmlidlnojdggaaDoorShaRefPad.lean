/- The document's Padded by a contract. -/
import Derived.Test.YthmlidlnojdggaaDoorShaRef
set_option linter.unusedVariables false
set_option linter.unusedSimpArgs false
namespace Go.Proofs.YthmlidlnojdggaaDoor.Sha
open Go.RowKit Go.Proofs.YthmlidlnojdggaaDoorW.PrintWords Go.Proofs.YthmlidlnojdggaaDoorW.PrintLast

theorem byte_nat (n k : Nat) : (byte n k).toNat = n / 2 ^ k % 256 := by
  unfold byte
  rw [UInt8.toNat_ofNat', Nat.shiftRight_eq_div_pow]
theorem byte_eq {n k m j : Nat} (h : n / 2 ^ k % 256 = m / 2 ^ j % 256) : byte n k = byte m j := UInt8.toNat_inj.1 (by rw [byte_nat, byte_nat, h])
def hi (n : Nat) : Wd := BitVec.ofNat 32 (n / 4294967296)
def lo (n : Nat) : Wd := BitVec.ofNat 32 n
theorem tail_hl (n : Nat) (h : n < 18446744073709551616) : [hi n, lo n].flatMap w4 = tail8 n := by
  have e1 : (hi n).toNat = n / 4294967296 := by
    unfold hi
    rw [BitVec.toNat_ofNat]
    omega
  have e2 : (lo n).toNat = n % 4294967296 := by
    unfold lo
    rw [BitVec.toNat_ofNat]
  show [byte (hi n).toNat 24, byte (hi n).toNat 16, byte (hi n).toNat 8, byte (hi n).toNat 0, byte (lo n).toNat 24, byte (lo n).toNat 16, byte (lo n).toNat 8, byte (lo n).toNat 0] = _
  rw [e1, e2]
  unfold tail8
  rw [byte_eq (n := n / 4294967296) (k := 24) (m := n) (j := 56) (by omega), byte_eq (n := n / 4294967296) (k := 16) (m := n) (j := 48) (by omega), byte_eq (n := n / 4294967296) (k := 8) (m := n) (j := 40) (by omega), byte_eq (n := n / 4294967296) (k := 0) (m := n) (j := 32) (by omega),
    byte_eq (n := n % 4294967296) (k := 24) (m := n) (j := 24) (by omega), byte_eq (n := n % 4294967296) (k := 16) (m := n) (j := 16) (by omega), byte_eq (n := n % 4294967296) (k := 8) (m := n) (j := 8) (by omega), byte_eq (n := n % 4294967296) (k := 0) (m := n) (j := 0) (by omega)]
set_option maxRecDepth 100000 in
set_option maxHeartbeats 2000000 in
theorem Padded_v (A : Option Addr) (c n : Nat) (l : List UInt8) (w : World) (hn : l.length = n) (hr : Kb.C w A n l) (hl : n ≤ 140737488000000) :
    Calls Tryd.prog 54 #[.slice A n c] w (RetBs w (padded l)) := by
  have HN := Aside0.mk hn
  have HNN := Aside0.mk (noughts_lt n)
  have HR := Aside0.mk hr
  clear hr hn
  go_enter Tryd.func54, Tryd.ntmps54
  go_wp2_with (first
    | (at_builtin; refine app_bs (w0 := w) w.heap.size rfl (.tmp 5) (.tmp 6) rfl _ [] l _ _ _ rfl rfl (Bs.nil _ _) HR.out (Below.refl _ _) (Nat.le_refl _) (by have := HN.out; simp; omega) ?_; intro z1 A1 c1 w1 hz1 hB1 hb1 hs1 hg1)
    | (at_builtin; refine app_bs (w0 := w) w.heap.size rfl (.tmp 7) (.tmp 8) rfl _ z1 [128] _ _ _ rfl rfl (hB1.out.alloc _) (Bs.read (Bs.one w1 w.heap.size _ rfl hb1.out.size 128 _ rfl)).1 (hb1.out.alloc hb1.out.size _) (by simp; have := hb1.out.size; omega) (by rw [hz1.out]; have := HN.out; simp; omega) ?_; intro z2 A2 c2 w2 hz2 hB2 hb2 hs2 hg2))
  have HZ := Aside0.mk (show head l 0 = z2 by rw [hz2.out, hz1.out]; rfl)
  clear hB1 hb1
  go_loopw [3] (fun o wr => ∃ (k m : Nat) (A3 : Option Addr) (c3 : Nat), k ≤ noughts n ∧ m = n + 1 + k ∧ o = .slice A3 m c3 ∧ Aside0 (Bs wr w.heap.size (.slice A3 m c3) (head l k)) ∧ Aside0 (Below w.heap.size w wr)) (fun o _ => n + 1 + noughts n - slen o)
  case atStart => exact ⟨0, _, A2, c2, Nat.zero_le _, by rw [← HZ.out, head_len, HN.out], rfl, ⟨by rw [HZ.out]; exact hB2.out⟩, hb2⟩
  case round =>
    obtain ⟨k, m, A3, c3, hk, hm, rfl, HB, HW⟩ := hrel
    have HM := Aside0.mk hm
    have hmb : m ≤ 140737488000065 := by have := HNN.out; omega
    clear hm
    have HH := Aside0.mk (show (head l k).length = m by rw [head_len, HM.out, HN.out])
    by_cases hlt : k < noughts n
    · have d1 : (((m : Int) + 8) % 64 != 0) = true := by
        rw [bne_iff_ne]
        have := noughts_go n k hlt
        have := HM.out
        omega
      go_wp2_with (at_builtin; refine app_bs (w0 := w) w.heap.size rfl (.tmp 15) (.tmp 16) rfl _ (head l k) [0] _ _ _ rfl rfl (HB.out.alloc _) (Bs.read (Bs.one _ w.heap.size _ rfl HW.out.size 0 _ rfl)).1 (HW.out.alloc HW.out.size _) (by simp; have := HW.out.size; omega) (by rw [HH.out]; omega) ?_; intro z5 A5 c5 w5 hz5 hB5 hb5 hs5 hg5)
      go_roundw
      case rel => exact ⟨k + 1, _, A5, c5, by omega, by rw [hz5.out]; simp [HH.out, HM.out]; omega, rfl, ⟨by rw [head_succ, ← hz5.out]; exact hB5.out⟩, hb5⟩
      case measure =>
        have hz5l : z5.length = m + 1 := by rw [hz5.out]; simp [HH.out]
        have := HM.out
        simp [slen]
        omega
    · obtain rfl : k = noughts n := by omega
      have d1 : (((m : Int) + 8) % 64 != 0) = false := by
        rw [bne_eq_false_iff_eq]
        have := noughts_end n
        have := HM.out
        omega
      clear hlt
      have v1 : ((n : Int) * 8 / 4294967296) = ((hi (8 * n)).toNat : Int) := by
        unfold hi
        rw [BitVec.toNat_ofNat]
        omega
      have v2 : ((n : Int) * 8 % 4294967296) = ((lo (8 * n)).toNat : Int) := by
        unfold lo
        rw [BitVec.toNat_ofNat]
        omega
      have HT := Aside0.mk (tail_hl (8 * n) (by omega))
      have HP := Aside0.mk (show padded l = head l (noughts n) ++ tail8 (8 * n) by rw [padded, HN.out]; simp [head])
      go_wp2_with (first
        | (go_at_call 58; refine (bytes_v _ 2 2 [hi (8 * n), lo (8 * n)] _ rfl (Ws.read (Ws.lit _ w.heap.size _ rfl HW.out.size [hi (8 * n), lo (8 * n)] 2 rfl _ rfl (by decide))).1 (by decide) _ HT.out.symm).mono ?_; rintro e w3 ⟨A4, c4, rfl, hB4, hb4⟩; replace hB4 := Aside0.mk hB4; replace hb4 := Aside0.mk (show Below _ _ w3 from hb4))
        | (at_builtin; refine app_bs (w0 := w) w.heap.size rfl (.tmp 22) (.tmp 30) rfl _ (head l (noughts n)) (tail8 (8 * n)) _ _ _ rfl rfl ((HB.out.alloc _).below hb4.out) hB4.out.read.1 (below_then (HW.out.alloc HW.out.size _) (by have := HW.out.size; simp; omega) hb4.out) (by have := HW.out.size; have := hb4.out.size; simp at this; omega) (by rw [HH.out]; show m + 8 ≤ _; omega) ?_; intro z5 A5 c5 w5 hz5 hB5 hb5 hs5 hg5))
      go_ret
      obtain rfl : z5 = padded l := by rw [hz5.out, HP.out]
      exact ⟨A5, c5, rfl, hB5.out, hb5.out⟩
end Go.Proofs.YthmlidlnojdggaaDoor.Sha
