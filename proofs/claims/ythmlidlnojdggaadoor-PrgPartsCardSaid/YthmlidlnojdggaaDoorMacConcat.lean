/- slices.Concat of two rows of bytes. -/
import Derived.Test.YthmlidlnojdggaaDoorMacGrow
set_option linter.unusedVariables false
set_option linter.unusedSimpArgs false
namespace Go.Proofs.YthmlidlnojdggaaDoor.Mac
open Go.RowKit Go.Proofs.YthmlidlnojdggaaDoorW.PrintWords

def len2 (n m k : Nat) : Nat := if k = 0 then 0 else if k = 1 then n else n + m
def cat2 (x y : List UInt8) (k : Nat) : List UInt8 := if k = 0 then [] else if k = 1 then x else x ++ y
set_option maxRecDepth 100000 in
set_option maxHeartbeats 4000000 in
theorem Concat_calls (x y : List UInt8) (A B : Option Addr) (n m c d g : Nat) (w : World) (hx : x.length = n) (hy : y.length = m) (h0 : 0 < n) (hnm : n + m ≤ 1000000) (hA : Kb.C w A n x) (hB : Kb.C w B m y)
    (c0 : w.cell? ⟨g, 0, none⟩ = some (.slice A n c)) (c1 : w.cell? ⟨g, 1, none⟩ = some (.slice B m d)) :
    Calls Tryd.prog 106 #[.slice (some ⟨g, 0, none⟩) 2 2] w fun e w' => ∃ A' c', e = .returned (.slice A' (n + m) c') ∧ Bs w' w.heap.size (.slice A' (n + m) c') (x ++ y) ∧ Below w.heap.size w w' := by
  have HX := Aside0.mk hx
  have HY := Aside0.mk hy
  have HA := Aside0.mk hA
  have HB := Aside0.mk hB
  have C0 := Aside0.mk c0
  have C1 := Aside0.mk c1
  clear hx hy hA hB c0 c1
  go_enter Tryd.func106, Tryd.ntmps106
  go_wp2
  go_loop [3, 5, 11] (fun s _ i => ∃ k z : Nat, k ≤ 2 ∧ i = .int .i64 k ∧ s = .int .i64 z ∧ Aside0 (z = len2 n m k)) (fun _ _ i => 2 - (intOf i).toNat)
  case atStart => exact ⟨0, 0, by decide, rfl, rfl, ⟨rfl⟩⟩
  case round =>
    obtain ⟨k, z, hk, rfl, rfl, HZ⟩ := hrel
    rcases (show k = 0 ∨ k = 1 ∨ k = 2 by omega) with rfl | rfl | rfl
    · have c0 := C0.out
      have hz : z = 0 := HZ.out
      subst hz
      rw [show ((0 : Nat) : Int) = 0 from rfl]
      have hn0 : ¬ (n : Int) < 0 := by omega
      go_wp2
      go_round
      case rel => exact ⟨1, n, by decide, by go_num, by go_num, ⟨rfl⟩⟩
      case measure => simp [intOf]
    · have c1 := C1.out
      have hz : z = n := HZ.out
      subst hz
      rw [show ((1 : Nat) : Int) = 1 from rfl]
      have hn0 : ¬ (z : Int) + (m : Int) < 0 := by omega
      go_wp2
      go_round
      case rel => exact ⟨2, z + m, by decide, by go_num, by go_num, ⟨rfl⟩⟩
      case measure => simp [intOf]
    · have hz : z = n + m := HZ.out
      rw [show ((2 : Nat) : Int) = 2 from rfl]
      have hz0 : 0 < z := by omega
      have hzb : z ≤ 1000000 := by omega
      clear hz
      go_wp2_with (go_at_call 113; (with_reducible refine (Grow_calls z hz0 hzb w).mono ?_); rintro e w1 ⟨A1, e1, rfl, hB1, hb1⟩; replace hB1 := Aside0.mk hB1; replace hb1 := Aside0.mk hb1)
      go_loopw [6, 8, 27] (fun o _ i wr => ∃ (k q : Nat) (A3 : Option Addr) (c3 : Nat), k ≤ 2 ∧ i = .int .i64 k ∧ o = .slice A3 q c3 ∧ Aside0 (q = len2 n m k) ∧ Aside0 (Bs wr w.heap.size (.slice A3 q c3) (cat2 x y k)) ∧ Aside0 (Below w.heap.size w wr)) (fun _ _ i _ => 2 - (intOf i).toNat)
      case atStart => exact ⟨0, 0, A1, e1, by decide, rfl, rfl, ⟨rfl⟩, hB1, hb1⟩
      case round =>
        obtain ⟨k, q, A3, c3, hk, rfl, rfl, HQ, HO, HW⟩ := hrel
        rcases (show k = 0 ∨ k = 1 ∨ k = 2 by omega) with rfl | rfl | rfl
        · have c0 := pw_cell_below HW.out C0.out
          rw [show ((0 : Nat) : Int) = 0 from rfl]
          go_wp2_with (at_builtin; refine app_bs (w0 := w) w.heap.size rfl (.tmp 31) (.tmp 32) rfl _ (cat2 x y 0) x _ _ _ rfl rfl HO.out (Kd.C_below HA.out HW.out) HW.out HW.out.size (by show 0 + n ≤ _; omega) ?_; intro z5 A5 c5 w5 hz5 hB5 hb5 hs5 hg5)
          go_roundw
          case rel => exact ⟨1, z5.length, A5, c5, by decide, by go_num, rfl, ⟨by rw [hz5.out]; exact HX.out⟩, ⟨by rw [show cat2 x y 1 = z5 from hz5.out.symm]; exact hB5.out⟩, hb5⟩
          case measure => simp [intOf]
        · have c1 := pw_cell_below HW.out C1.out
          rw [show ((1 : Nat) : Int) = 1 from rfl]
          go_wp2_with (at_builtin; refine app_bs (w0 := w) w.heap.size rfl (.tmp 31) (.tmp 32) rfl _ (cat2 x y 1) y _ _ _ rfl rfl HO.out (Kd.C_below HB.out HW.out) HW.out HW.out.size (by show x.length + m ≤ _; rw [HX.out]; omega) ?_; intro z5 A5 c5 w5 hz5 hB5 hb5 hs5 hg5)
          go_roundw
          case rel => exact ⟨2, z5.length, A5, c5, by decide, by go_num, rfl, ⟨by rw [hz5.out]; show (x ++ y).length = n + m; rw [List.length_append, HX.out, HY.out]⟩, ⟨by rw [show cat2 x y 2 = z5 from hz5.out.symm]; exact hB5.out⟩, hb5⟩
          case measure => simp [intOf]
        · have hq : q = n + m := HQ.out
          subst hq
          rw [show ((2 : Nat) : Int) = 2 from rfl]
          go_wp2
          go_ret
          exact ⟨A3, c3, rfl, HO.out, HW.out⟩
end Go.Proofs.YthmlidlnojdggaaDoor.Mac
