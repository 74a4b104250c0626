/- mac.turned: a block, each byte xor one. -/
import Derived.Test.YthmlidlnojdggaaDoorArr
set_option linter.unusedVariables false
set_option linter.unusedSimpArgs false
namespace Go.Proofs.YthmlidlnojdggaaDoor.Mac
open Go.RowKit Go.Proofs.YthmlidlnojdggaaDoorW.PrintWords

def xored (b : List UInt8) (k : UInt8) : List UInt8 := b.map (· ^^^ k)
def upTo (b : List UInt8) (k : UInt8) (i : Nat) : List UInt8 := xored (b.take i) k ++ b.drop i
theorem upTo_len (b : List UInt8) (k : UInt8) (i : Nat) : (upTo b k i).length = b.length := by
  simp [upTo, xored]
  omega
theorem upTo_all (b : List UInt8) (k : UInt8) : upTo b k b.length = xored b k := by simp [upTo]
theorem upTo_get (b : List UInt8) (k : UInt8) (i : Nat) (h : i < b.length) : (upTo b k i).getD i 0 = b.getD i 0 := by
  have hl : (xored (b.take i) k).length = i := by simp [xored]; omega
  simp [upTo, List.getD, List.getElem?_append_right, hl]
theorem upTo_set (b : List UInt8) (k x : UInt8) (i : Nat) (h : i < b.length) (hx : x = b.getD i 0) : (upTo b k i).set i (x ^^^ k) = upTo b k (i + 1) := by
  have hl : (xored (b.take i) k).length = i := by simp [xored]; omega
  have hg : b.getD i 0 = b[i] := by simp [List.getD, h]
  have e : upTo b k i = xored (b.take i) k ++ (b[i] :: b.drop (i + 1)) := by rw [upTo, List.drop_eq_getElem_cons h]
  rw [e, set_at _ _ _ _ 0 _ hl, upTo, hx, hg, List.take_succ_eq_append_getElem h]
  simp only [xored, List.map_append, List.map_cons, List.map_nil]
theorem blk_C8 {W : World} {g : Nat} {t : TypeId} {l : List UInt8} (h : Blk W g t (e8 l)) (n : Nat) (hn : l.length = n) (hb : n ≤ 9223372036854775807) : Kb.C W (some ⟨g, 0, none⟩) n l := by
  subst hn
  refine Kd.C_of_reads (d := (0 : UInt8)) ⟨rfl, hb, fun _ => ⟨_, rfl, fun j hj => ?_⟩⟩
  rw [add_plain, blk8 h j hj]
set_option maxRecDepth 100000 in
set_option maxHeartbeats 2000000 in
theorem turned_calls (b : List UInt8) (hb : b.length = 64) (k : UInt8) (w : World) :
    Calls Tryd.prog 107 #[.agg (e8 b), .int .u8 (k.toNat : Int)] w fun e w' => ∃ g, e = .returned (.slice (some ⟨g, 0, none⟩) 64 64) ∧ Kb.C w' (some ⟨g, 0, none⟩) 64 (xored b k) ∧ w.heap.size ≤ g ∧ Below w.heap.size w w' := by
  have HBL := Aside0.mk hb
  clear hb
  go_enter Tryd.func107, Tryd.ntmps107
  go_wp2
  go_loopw [5, 6] (fun _ i wr => ∃ j : Nat, j ≤ 64 ∧ i = .int .i64 j ∧ Aside0 (Blk wr w.heap.size 160 (e8 (upTo b k j))) ∧ Aside0 (Below w.heap.size w wr)) (fun _ i _ => 64 - (intOf i).toNat)
  case atStart => exact ⟨0, by decide, rfl, ⟨blk_new w _⟩, ⟨below_new _⟩⟩
  case round =>
    obtain ⟨j, hj, rfl, HB, HW⟩ := hrel
    by_cases hlt : j < 64
    · have hji : (j : Int) < 64 := by omega
      have hjl : j < b.length := by rw [HBL.out]; exact hlt
      obtain ⟨x, hx⟩ : ∃ x, x = b.getD j 0 := ⟨_, rfl⟩
      have cx := blk8 HB.out j (by rw [upTo_len]; exact hjl)
      rw [upTo_get b k j hjl, ← hx] at cx
      have cf := blk_frozen HB.out j
      have HS := Aside0.mk (upTo_set b k x j hjl hx)
      have hxk := bx8 x k
      clear hx hjl
      go_wp2
      go_roundw
      case rel => exact ⟨j + 1, by omega, by go_num, ⟨by rw [← HS.out]; exact blk8_set HB.out j _ _ rfl⟩, ⟨HW.out.setCell (Nat.le_refl _) _⟩⟩
      case measure => simp [intOf]; omega
    · obtain rfl : j = 64 := by omega
      clear hlt
      have HE := Aside0.mk (show Blk wr w.heap.size 160 (e8 (xored b k)) by have := HB.out; rwa [show upTo b k 64 = xored b k by rw [← HBL.out]; exact upTo_all b k] at this)
      rw [show ((64 : Nat) : Int) = 64 from rfl]
      go_wp2
      go_ret
      refine ⟨w.heap.size, rfl, ?_, Nat.le_refl _, HW.out⟩
      exact blk_C8 HE.out 64 (by simp [xored, HBL.out]) (by decide)
end Go.Proofs.YthmlidlnojdggaaDoor.Mac
