/- Two texts of layer 8 are one only if what they are of is. -/
import Derived.Test.YtpgighcobmaecaaSealOf
set_option linter.unusedVariables false
namespace Go.Proofs.Ytpgighcobmaecaa.Seal
open Go.RowKit Go.Proofs.YtpgighcobmaecaaW.PrintWords Go.Proofs.Ytpgighcobmaecaa.Sha

theorem byte_nat (n k : Nat) : (byte n k).toNat = n / 2 ^ k % 256 := by
  unfold byte
  rw [UInt8.toNat_ofNat', Nat.shiftRight_eq_div_pow]
theorem byte_eq {n m k : Nat} (h : byte n k = byte m k) : n / 2 ^ k % 256 = m / 2 ^ k % 256 := by
  rw [← byte_nat, ← byte_nat, h]
theorem two_inj {n m : Nat} (hn : n < 65536) (hm : m < 65536) (h : two n = two m) : n = m := by
  unfold two at h
  injection h with h1 h2
  injection h2 with h2 _
  have a1 := byte_nat n 8
  have a2 := byte_nat m 8
  have b1 := byte_nat n 0
  have b2 := byte_nat m 0
  rw [h1] at a1
  rw [h2] at b1
  have e8 : (2 : Nat) ^ 8 = 256 := rfl
  have e0 : (2 : Nat) ^ 0 = 1 := rfl
  rw [e8] at a1 a2
  rw [e0] at b1 b2
  omega
theorem flat_inj : ∀ (l m : List (List UInt8)), l.length = m.length → (∀ b ∈ l, b.length ≤ 300) → (∀ b ∈ m, b.length ≤ 300) → l.flatMap item = m.flatMap item → l = m
  | [], [], _, _, _, _ => rfl
  | [], _ :: _, h, _, _, _ => by cases h
  | _ :: _, [], h, _, _, _ => by cases h
  | x :: l, y :: m, h, h1, h2, he => by
    have hx := h1 x (by simp)
    have hy := h2 y (by simp)
    rw [List.flatMap_cons, List.flatMap_cons, item, item, List.append_assoc, List.append_assoc] at he
    obtain ⟨e1, e2⟩ := List.append_inj he rfl
    have hl := two_inj (by omega) (by omega) e1
    obtain ⟨e3, e4⟩ := List.append_inj e2 hl
    rw [e3, flat_inj l m (by simpa using h) (fun b hb => h1 b (by simp [hb])) (fun b hb => h2 b (by simp [hb])) e4]
theorem listText_inj {l m : List (List UInt8)} (h1 : l.length ≤ 31) (h2 : m.length ≤ 31) (h3 : ∀ b ∈ l, b.length ≤ 300) (h4 : ∀ b ∈ m, b.length ≤ 300) (h : listText l = listText m) : l = m := by
  unfold listText at h
  obtain ⟨e1, e2⟩ := List.append_inj h rfl
  injection e1 with _ e1
  exact flat_inj l m (two_inj (by omega) (by omega) e1) h3 h4 e2
theorem tail8_inj {a b : V64} (h : tail8 a.toNat = tail8 b.toNat) : a = b := by
  unfold tail8 at h
  simp only [List.cons.injEq] at h
  obtain ⟨h7, h6, h5, h4, h3, h2, h1, h0, _⟩ := h
  have g7 := byte_eq h7
  have g6 := byte_eq h6
  have g5 := byte_eq h5
  have g4 := byte_eq h4
  have g3 := byte_eq h3
  have g2 := byte_eq h2
  have g1 := byte_eq h1
  have g0 := byte_eq h0
  clear h7 h6 h5 h4 h3 h2 h1 h0
  have ha := a.isLt
  have hb := b.isLt
  apply BitVec.eq_of_toNat_eq
  generalize a.toNat = x at *
  generalize b.toNat = y at *
  simp only [Nat.reducePow] at *
  omega
theorem text_inj {a b c d : V64} (h : text a b = text c d) : a = c ∧ b = d := by
  unfold text at h
  injection h with _ h
  obtain ⟨h1, h2⟩ := List.append_inj h rfl
  exact ⟨tail8_inj h1, tail8_inj h2⟩
end Go.Proofs.Ytpgighcobmaecaa.Seal
