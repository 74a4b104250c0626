/- Digits of sums: plain Lean, and the reference's digit. -/
import Derived.Test.YthmlidlnojdggaaDoorShaText
import Derived.Test.YthmlidlnojdggaaDoorNum
set_option linter.unusedVariables false
set_option linter.unusedSimpArgs false
namespace Go.Proofs.YthmlidlnojdggaaDoor.Sha
open Go.RowKit Go.Proofs.YthmlidlnojdggaaDoorW.PrintWords

/-- A digit's number; -1: it is none. -/
def dg (c : UInt8) : Int := if 48 ≤ c.toNat ∧ c.toNat ≤ 57 then (c.toNat : Int) - 48 else if 97 ≤ c.toNat ∧ c.toNat ≤ 102 then (c.toNat : Int) - 87 else -1
theorem dg_range (c : UInt8) : -1 ≤ dg c ∧ dg c ≤ 15 := by
  unfold dg
  split
  · omega
  · split <;> omega
theorem all8 {P : UInt8 → Prop} (h : ∀ n : Fin 256, P (UInt8.ofNat n.val)) (c : UInt8) : P c := by
  have := h ⟨c.toNat, c.toNat_lt⟩
  simpa using this
theorem idx_dg (c : UInt8) : Lib.indexByte digs.data.toList c = dg c := all8 (P := fun c => Lib.indexByte digs.data.toList c = dg c) (by decide +kernel) c
theorem dg_hd : ∀ n : Fin 16, dg (hd n.val) = (n.val : Int) := by decide +kernel
theorem hd_dg (c : UInt8) (h : 0 ≤ dg c) : hd (dg c).toNat = c := by
  have := all8 (P := fun c => 0 ≤ dg c → hd (dg c).toNat = c) (by decide +kernel) c
  exact this h
def okAt (l : List UInt8) (i : Nat) : Prop := 0 ≤ dg (l.getD (2 * i) 0) ∧ 0 ≤ dg (l.getD (2 * i + 1) 0)
instance (l : List UInt8) (i : Nat) : Decidable (okAt l i) := by unfold okAt; infer_instance
def byteAt (l : List UInt8) (i : Nat) : UInt8 := UInt8.ofNat ((dg (l.getD (2 * i) 0)).toNat * 16 + (dg (l.getD (2 * i + 1) 0)).toNat)
def upB (l : List UInt8) (j : Nat) : List UInt8 := (List.range j).map (byteAt l)
def Good (l : List UInt8) : Prop := l.length = 64 ∧ ∀ i, i < 32 → okAt l i
instance (l : List UInt8) : Decidable (Good l) := by unfold Good; infer_instance
def pv (l : List UInt8) : List UInt8 := if Good l then upB l 32 else List.replicate 32 0
def pe (l : List UInt8) : Option Int := if Good l then none else some 3
theorem upB_len (l : List UInt8) (j : Nat) : (upB l j).length = j := by simp [upB]
theorem upB_succ (l : List UInt8) (j : Nat) : upB l (j + 1) = upB l j ++ [byteAt l j] := by simp [upB, List.range_succ]
theorem pv_len (l : List UInt8) : (pv l).length = 32 := by
  unfold pv
  split
  · exact upB_len l 32
  · rfl
theorem byte_val (x y : UInt8) (hx : 0 ≤ dg x) (hy : 0 ≤ dg y) : ((dg x).toNat * 16 + (dg y).toNat) < 256 := by
  have := dg_range x
  have := dg_range y
  omega
theorem hex_at : ∀ (l : List UInt8) (i : Nat), i < l.length → (hexOf l).getD (2 * i) 0 = hd ((l.getD i 0).toNat / 16) ∧ (hexOf l).getD (2 * i + 1) 0 = hd ((l.getD i 0).toNat % 16)
  | [], i, h => absurd h (Nat.not_lt_zero i)
  | x :: l, 0, h => ⟨rfl, rfl⟩
  | x :: l, i + 1, h => by
    have := hex_at l i (by simpa using h)
    rw [show 2 * (i + 1) = 2 * i + 2 by omega]
    exact this
theorem split16 (x : UInt8) : (dg (hd (x.toNat / 16))).toNat * 16 + (dg (hd (x.toNat % 16))).toNat = x.toNat := by
  have h := x.toNat_lt
  have h1 := dg_hd ⟨x.toNat / 16, by omega⟩
  have h2 := dg_hd ⟨x.toNat % 16, by omega⟩
  simp only at h1 h2
  rw [h1, h2]
  omega
theorem hex_good (l : List UInt8) (hl : l.length = 32) : Good (hexOf l) := by
  refine ⟨by rw [hexOf_len, hl], fun i hi => ?_⟩
  obtain ⟨h1, h2⟩ := hex_at l i (by rw [hl]; exact hi)
  have h := (l.getD i 0).toNat_lt
  have k1 := dg_hd ⟨(l.getD i 0).toNat / 16, by omega⟩
  have k2 := dg_hd ⟨(l.getD i 0).toNat % 16, by omega⟩
  simp only at k1 k2
  exact ⟨by rw [h1, k1]; omega, by rw [h2, k2]; omega⟩
theorem pv_hex (l : List UInt8) (hl : l.length = 32) : pv (hexOf l) = l := by
  rw [pv, if_pos (hex_good l hl)]
  refine List.ext_getElem (by rw [upB_len, hl]) fun i h1 h2 => ?_
  rw [upB_len] at h1
  obtain ⟨e1, e2⟩ := hex_at l i (by omega)
  have e : l.getD i 0 = l[i] := by simp [List.getD, h2]
  simp only [upB, List.getElem_map, List.getElem_range, byteAt, e1, e2, split16]
  rw [e]
  simp
theorem pe_hex (l : List UInt8) (hl : l.length = 32) : pe (hexOf l) = none := by rw [pe, if_pos (hex_good l hl)]
theorem hex_inj {a b : List UInt8} (ha : a.length = 32) (hb : b.length = 32) (h : hexOf a = hexOf b) : a = b := by rw [← pv_hex a ha, ← pv_hex b hb, h]
theorem hex_pv (l : List UInt8) (h : Good l) : hexOf (pv l) = l := by
  rw [pv, if_pos h]
  refine List.ext_getElem (by rw [hexOf_len, upB_len, h.1]) fun i h1 h2 => ?_
  have hj : i / 2 < 32 := by have := h.1; omega
  obtain ⟨e1, e2⟩ := hex_at (upB l 32) (i / 2) (by rw [upB_len]; exact hj)
  have hb : (upB l 32).getD (i / 2) 0 = byteAt l (i / 2) := by simp [upB, List.getD, hj]
  obtain ⟨o1, o2⟩ := h.2 (i / 2) hj
  have hv := byte_val _ _ o1 o2
  have r1 := dg_range (l.getD (2 * (i / 2)) 0)
  have r2 := dg_range (l.getD (2 * (i / 2) + 1) 0)
  have hn : (byteAt l (i / 2)).toNat = (dg (l.getD (2 * (i / 2)) 0)).toNat * 16 + (dg (l.getD (2 * (i / 2) + 1) 0)).toNat := by
    rw [byteAt, UInt8.toNat_ofNat', Nat.mod_eq_of_lt hv]
  rw [hb, hn] at e1 e2
  have g : (hexOf (upB l 32))[i] = (hexOf (upB l 32)).getD i 0 := by simp [List.getD, h1]
  have g2 : l[i] = l.getD i 0 := by simp [List.getD, h2]
  rw [g, g2]
  rcases Nat.mod_two_eq_zero_or_one i with hm | hm
  · rw [show i = 2 * (i / 2) by omega, e1, show ∀ a b : Nat, b < 16 → (a * 16 + b) / 16 = a from fun a b h => by omega, hd_dg _ o1]
    omega
  · rw [show i = 2 * (i / 2) + 1 by omega, e2, show ∀ a b : Nat, b < 16 → (a * 16 + b) % 16 = b from fun a b h => by omega, hd_dg _ o2]
    omega
theorem str_index (l : List UInt8) (k : IntKind) (i : Nat) (hi : i < l.length) (x : UInt8) (hx : x = l.getD i 0) (z : Int) (hz : z = (i : Int)) (w : World) : (Instr.index 9 (.string (strOf l)) (.int k z)).run Tryd.prog w = .ok (.int .u8 (x.toNat : Int)) w := by
  subst hx hz
  have hs : (strOf l).size = l.length := by simp [strOf, ByteArray.size]
  have hn : ¬ l.length ≤ i := by omega
  have hg : (strOf l)[i]? = some (l.getD i 0) := by
    rw [getElem?_pos (strOf l) i (by show i < (strOf l).size; rw [hs]; exact hi)]
    simp [strOf, List.getD, hi, ByteArray.getElem_eq_getElem_data]
  simp [Instr.index, asIntOf, run_underlying Tryd.underlying9, hs, hn, hg]
set_option maxRecDepth 100000 in
theorem digit_calls (c : UInt8) (w : World) : Calls Tryd.prog 60 #[.int .u8 (c.toNat : Int)] w fun e w' => e = .returned (.int .i64 (dg c)) ∧ w = w' := by
  have hb := c.toNat_lt
  have HD := Aside0.mk (show dg c = if 48 ≤ c.toNat ∧ c.toNat ≤ 57 then (c.toNat : Int) - 48 else if 97 ≤ c.toNat ∧ c.toNat ≤ 102 then (c.toNat : Int) - 87 else -1 from rfl)
  rcases (show c.toNat < 48 ∨ (48 ≤ c.toNat ∧ c.toNat ≤ 57) ∨ (57 < c.toNat ∧ c.toNat < 97) ∨ (97 ≤ c.toNat ∧ c.toNat ≤ 102) ∨ 102 < c.toNat by omega) with h | ⟨h, h'⟩ | ⟨h, h'⟩ | ⟨h, h'⟩ | h
  · have HV := Aside0.mk (show dg c = -1 by rw [HD.out, if_neg (by omega), if_neg (by omega)])
    have i1 : (c.toNat : Int) < 48 := by omega
    have i2 : (c.toNat : Int) < 97 := by omega
    go_enter Tryd.func60, Tryd.ntmps60
    go_wp2
    go_ret
    exact ⟨ret_val (int_val HV.out.symm), rfl⟩
  · have HV := Aside0.mk (show dg c = (c.toNat : Int) - 48 by rw [HD.out, if_pos ⟨h, h'⟩])
    have i1 : 48 ≤ (c.toNat : Int) := by omega
    have i2 : (c.toNat : Int) ≤ 57 := by omega
    go_enter Tryd.func60, Tryd.ntmps60
    go_wp2
    go_ret
    exact ⟨ret_val (int_val (by rw [HV.out])), rfl⟩
  · have HV := Aside0.mk (show dg c = -1 by rw [HD.out, if_neg (by omega), if_neg (by omega)])
    have i1 : 57 < (c.toNat : Int) := by omega
    have i0 : 48 ≤ (c.toNat : Int) := by omega
    have i2 : (c.toNat : Int) < 97 := by omega
    go_enter Tryd.func60, Tryd.ntmps60
    go_wp2
    go_ret
    exact ⟨ret_val (int_val HV.out.symm), rfl⟩
  · have HV := Aside0.mk (show dg c = (c.toNat : Int) - 87 by rw [HD.out, if_neg (by omega), if_pos ⟨h, h'⟩])
    have i1 : 57 < (c.toNat : Int) := by omega
    have i0 : 48 ≤ (c.toNat : Int) := by omega
    have i2 : 97 ≤ (c.toNat : Int) := by omega
    have i3 : (c.toNat : Int) ≤ 102 := by omega
    go_enter Tryd.func60, Tryd.ntmps60
    go_wp2
    go_ret
    exact ⟨ret_val (int_val (by rw [HV.out]; omega)), rfl⟩
  · have HV := Aside0.mk (show dg c = -1 by rw [HD.out, if_neg (by omega), if_neg (by omega)])
    have i1 : 57 < (c.toNat : Int) := by omega
    have i0 : 48 ≤ (c.toNat : Int) := by omega
    have i2 : 97 ≤ (c.toNat : Int) := by omega
    have i3 : 102 < (c.toNat : Int) := by omega
    go_enter Tryd.func60, Tryd.ntmps60
    go_wp2
    go_ret
    exact ⟨ret_val (int_val HV.out.symm), rfl⟩
end Go.Proofs.YthmlidlnojdggaaDoor.Sha
