/- Package seal, and the document's layer 8, by contracts: lists. -/
import Derived.Test.YtpgighcobmaecaaSeal
set_option linter.unusedVariables false
set_option linter.unusedSimpArgs false
namespace Go.Proofs.Ytpgighcobmaecaa.Seal
open Go.RowKit Go.Proofs.YtpgighcobmaecaaW.PrintWords Go.Proofs.YtpgighcobmaecaaW.PrintLast Go.Proofs.Ytpgighcobmaecaa.Sha

/-- Rows of bytes in a row. -/
abbrev Kr : Kd (List UInt8) := Kd.slice 5 Kb
theorem at_r {w : World} {A : Option Addr} {n : Nat} {l : List (List UInt8)} (h : Kr.C w A n l) (i : Nat) (hi : i < n) (b : List UInt8) (hb : b = l.getD i []) :
    ∃ ad A1 c1, A = some ad ∧ w.cell? (ad.add i) = some (.slice A1 b.length c1) ∧ Kb.C w A1 b.length b ∧ b.length ≤ c1 := by
  obtain ⟨ad, cs, rfl, hl, ⟨A1, c1, rfl, hc1, hK⟩, hcell⟩ := Kd.C_get h [] (i : Int) (by omega) (by omega)
  rw [Int.toNat_natCast] at hc1 hK hcell
  rw [← hb] at hc1 hK hcell
  refine ⟨ad, A1, c1, rfl, ?_, hK, hc1⟩
  have := hcell 0 _ rfl
  rwa [show i * Kd.sz Kr + 0 = i by show i * 1 + 0 = i; omega] at this
def two (n : Nat) : List UInt8 := [byte n 8, byte n 0]
def item (x : List UInt8) : List UInt8 := two x.length ++ x
def ltext (l : List (List UInt8)) (k : Nat) : List UInt8 := (76 :: two l.length) ++ (l.take k).flatMap item
def listText (l : List (List UInt8)) : List UInt8 := (76 :: two l.length) ++ l.flatMap item
theorem ltext_all (l : List (List UInt8)) : ltext l l.length = listText l := by rw [ltext, List.take_length]; rfl
theorem ltext_succ (l : List (List UInt8)) (k : Nat) (h : k < l.length) (b : List UInt8) (hb : b = l.getD k []) : ltext l (k + 1) = (ltext l k ++ two b.length) ++ b := by
  have : l.getD k [] = l[k] := by simp [List.getD, h]
  rw [ltext, List.take_succ_eq_append_getElem h, List.flatMap_append, ← this, ← hb, ltext]
  simp [item]
theorem flat_le (l : List (List UInt8)) (he : ∀ b ∈ l, b.length ≤ 300) : (l.flatMap item).length ≤ 302 * l.length := by
  induction l with
  | nil => simp
  | cons x l ih =>
    have h1 := he x (by simp)
    have h2 := ih (fun b hb => he b (by simp [hb]))
    rw [List.flatMap_cons, List.length_append, List.length_cons]
    have : (item x).length = x.length + 2 := by simp [item, two]
    omega
theorem ltext_le (l : List (List UInt8)) (he : ∀ b ∈ l, b.length ≤ 300) (k : Nat) (hk : k ≤ l.length) : (ltext l k).length ≤ 3 + 302 * k := by
  have h := flat_le (l.take k) (fun b hb => he b (List.mem_of_mem_take hb))
  rw [List.length_take, Nat.min_eq_left hk] at h
  rw [ltext, List.length_append]
  show 3 + _ ≤ _
  omega
theorem getD_mem {α : Type} (l : List α) (k : Nat) (d : α) (h : k < l.length) : l.getD k d ∈ l := by
  have : l.getD k d = l[k] := by simp [List.getD, h]
  rw [this]
  exact List.getElem_mem h
theorem two_int (n : Nat) (h : n < 65536) : #[.int .u8 ((n : Int) / 256), .int .u8 ((n : Int) % 256)] = ((two n).map fun b => Value.int .u8 (b.toNat : Int)).toArray := by
  have h1 := byte_int n 8
  have h2 := byte_int n 0
  rw [show (n : Int) / 256 = ((byte n 8).toNat : Int) by rw [h1]; show _ = (n : Int) / 256 % 256; omega, show (n : Int) % 256 = ((byte n 0).toNat : Int) by rw [h2]; show _ = (n : Int) / 1 % 256; omega]
  rfl
theorem two_calls (base m c n : Nat) (A : Option Addr) (l : List UInt8) (w0 w : World) (hl : l.length = m) (hB : Bs w base (.slice A m c) l) (hW : Below base w0 w) (hb : base ≤ w.heap.size) (hn : n < 65536) (hm : m ≤ 100000) :
    Calls Try.prog 45 #[.slice A m c, .int .i64 (n : Int)] w fun e w' => ∃ A' c', e = .returned (.slice A' (m + 2) c') ∧ Bs w' base (.slice A' (m + 2) c') (l ++ two n) ∧ Below base w0 w' := by
  have HB := Aside0.mk hB
  have HW := Aside0.mk hW
  have HL := Aside0.mk hl
  clear hB hW hl
  go_enter Try.func45, Try.ntmps45
  go_wp2_with (at_builtin; refine app_bs (w0 := w0) base rfl (.tmp 5) (.tmp 11) rfl _ l (two n) _ _ _ rfl rfl (HB.out.alloc _) (Bs.read (Bs.lit _ base _ rfl hb (two n) 2 rfl _ (two_int n hn) (by decide))).1 (HW.out.alloc hb _) (by simp; omega) (by rw [HL.out]; omega) ?_; intro z5 A5 c5 w5 hz5 hB5 hb5 hs5 hg5)
  go_ret
  have e : z5.length = m + 2 := by rw [hz5.out, List.length_append, HL.out]; rfl
  exact ⟨A5, c5, by rw [← e]; rfl, by rw [← e, ← hz5.out]; exact hB5.out, hb5.out⟩
set_option maxRecDepth 100000 in
set_option maxHeartbeats 1000000 in
theorem List_calls (A : Option Addr) (c n : Nat) (l : List (List UInt8)) (w : World) (hn : l.length = n) (hr : Kr.C w A n l) (hn31 : n ≤ 31) (he : ∀ b ∈ l, b.length ≤ 300) :
    Calls Try.prog 28 #[.slice A n c] w fun e w' => e = .returned (.tuple #[.agg (e8 (sum (listText l))), .nilIface]) ∧ Below w.heap.size w w' := by
  have HR := Aside0.mk hr
  have HN := Aside0.mk hn
  have HE := Aside0.mk he
  clear hr hn he
  go_enter Try.func28, Try.ntmps28
  go_wp2_with (go_at_call 45; refine (two_calls (w.heap.size + 1) 1 1 n _ [76] (w.alloc (.cells (e8 (List.replicate 32 0)) 51)) _ rfl (Bs.one _ (w.heap.size + 1) (w.heap.size + 1) (by simp) (by simp) 76 _ rfl) (((Below.refl _ _).alloc (by simp) _)) (by simp) (by omega) (by decide)).mono ?_; rintro e w3 ⟨A3, c3, rfl, hB3, hb3⟩; replace hB3 := Aside0.mk hB3; replace hb3 := Aside0.mk hb3; skip)
  go_loopw [4, 6, 18] (fun o _ i wr => ∃ (k m : Nat) (A3 : Option Addr) (c3 : Nat), k ≤ n ∧ Aside0 (m = (ltext l k).length) ∧ i = .int .i64 k ∧ o = .slice A3 m c3 ∧ Aside0 (Bs wr (w.heap.size + 1) (.slice A3 m c3) (ltext l k)) ∧ Aside0 (Blk wr w.heap.size 51 (e8 (List.replicate 32 0))) ∧ Aside0 (Below (w.heap.size + 1) (w.alloc (.cells (e8 (List.replicate 32 0)) 51)) wr)) (fun _ _ i _ => n - (intOf i).toNat)
  case atStart => exact ⟨0, 3, A3, c3, Nat.zero_le _, ⟨rfl⟩, rfl, rfl, ⟨by rw [show ltext l 0 = [76] ++ two n by rw [ltext, HN.out]; rfl]; exact hB3.out⟩, ⟨(hb3.out.block _ (Nat.lt_succ_self _)).trans (blk_new w _)⟩, hb3⟩
  case round =>
    obtain ⟨k, m, A3, c3, hk, HM, rfl, rfl, HB, HO, HW⟩ := hrel
    have HWW := Aside0.mk (show Below w.heap.size w wr from (below_new _).trans (HW.out.mono (by omega)))
    have HM3 := Aside0.mk (show m ≤ 10000 by have := ltext_le l HE.out k (by rw [HN.out]; exact hk); have := HM.out; omega)
    have hm := HM3.out
    by_cases hlt : k < n
    · obtain ⟨x, hx⟩ : ∃ x, x = l.getD k [] := ⟨_, rfl⟩
      obtain ⟨ad, A1, c1, rfl, cx, hK, hc1⟩ := at_r HR.out k hlt x hx
      replace cx := pw_cell_below HWW.out cx
      have hx300 : x.length ≤ 300 := by rw [hx]; exact HE.out _ (getD_mem _ _ _ (by rw [HN.out]; exact hlt))
      have HS := Aside0.mk (ltext_succ l k (by rw [HN.out]; exact hlt) x hx)
      obtain ⟨q, hq⟩ : ∃ q, q = x.length := ⟨_, rfl⟩
      rw [← hq] at cx hK hc1 hx300
      have HQ := Aside0.mk hq
      have HK := Aside0.mk hK
      have hnk : (k : Int) < (n : Int) := by omega
      clear hx hK hq
      go_wp2_with (first
        | (go_at_call 45; refine (two_calls (w.heap.size + 1) m c3 q A3 (ltext l k) (w.alloc (.cells (e8 (List.replicate 32 0)) 51)) wr HM.out.symm HB.out HW.out (by have := HW.out.size; simpa using this) (by omega) (by omega)).mono ?_; rintro e w4 ⟨A4, c4, rfl, hB4, hb4⟩; replace hB4 := Aside0.mk hB4; replace hb4 := Aside0.mk hb4)
        | (at_builtin; refine app_bs (w0 := w.alloc (.cells (e8 (List.replicate 32 0)) 51)) (w.heap.size + 1) rfl (.tmp 30) (.tmp 31) rfl _ (ltext l k ++ two q) x _ _ _ rfl rfl hB4.out (Kd.C_below HK.out ((below_new _).trans (hb4.out.mono (Nat.le_succ _)))) hb4.out (by have := hb4.out.size; simpa using this) (by rw [List.length_append, ← HM.out]; show m + 2 + _ ≤ _; omega) ?_; intro z5 A5 c5 w5 hz5 hB5 hb5 hs5 hg5))
      go_roundw
      case rel => exact ⟨k + 1, z5.length, A5, c5, by omega, ⟨by rw [HS.out, hz5.out, HQ.out]⟩, by go_num, rfl, ⟨by rw [HS.out, ← HQ.out, ← hz5.out]; exact hB5.out⟩, ⟨(hb5.out.block _ (Nat.lt_succ_self _)).trans (blk_new w _)⟩, hb5⟩
      case measure => simp [intOf]; omega
    · obtain rfl : k = n := by omega
      clear hlt
      have HE2 := Aside0.mk (show ltext l k = listText l by rw [← HN.out]; exact ltext_all l)
      have HZ := Aside0.mk (show (Try.prog.info? 51).map (·.size) = some (e8 (sum (listText l))).size by rw [e8_size, sum_len]; kernel_rfl)
      go_wp2_with (first
        | (go_at_call 41; refine (Of_calls A3 c3 m (ltext l k) wr HM.out.symm HB.out.read.1 (by omega)).mono ?_; rintro e w4 ⟨rfl, hb4⟩; replace hb4 := Aside0.mk hb4; rw [HE2.out])
        | ((with_reducible refine at_store_ (x := .tmp 2) ?_); (refine wpList_store_row rfl 51 _ _ rfl w.heap.size (e8 (sum (listText l))) _ 51 rfl rfl (blk_below HO.out hb4.out) HZ.out (by rw [e8_size, e8_size, sum_len]; rfl) (e8_one _) ?_)))
      refine bodyPost_ret (results_ct (p := 2) (u := 3) (ty := 51) rfl _ _ w.heap.size 51 (e8 (sum (listText l))) (0, 0) _ rfl (blk_setRow (blk_below HO.out hb4.out) _) Try.underlying51 rfl HZ.out) rfl ⟨rfl, below_setRow (below_then HWW.out HWW.out.size hb4.out) (Nat.le_refl _) _⟩
end Go.Proofs.Ytpgighcobmaecaa.Seal
