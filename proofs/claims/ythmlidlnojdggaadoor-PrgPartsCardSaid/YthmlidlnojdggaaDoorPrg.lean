/- Package prg by contracts: labels, bytes, blocks, numbers. -/
import Derived.Test.YthmlidlnojdggaaDoorPrgSpec
import Derived.Test.YthmlidlnojdggaaDoorShaHex
import Derived.Test.YthmlidlnojdggaaDoorStep
import Derived.Test.YthmlidlnojdggaaDoorRows2
import Derived.Lib.OthersKept
set_option linter.unusedVariables false
set_option linter.unusedSimpArgs false
namespace Go.Proofs.YthmlidlnojdggaaDoor.Prg
open Go.RowKit Go.Proofs.YthmlidlnojdggaaDoorW.PrintWords Go.Proofs.YthmlidlnojdggaaDoorW.PrintLast Go.Proofs.YthmlidlnojdggaaDoor.Sha Go.Proofs.YthmlidlnojdggaaDoor.Mac

theorem decode_ge (s : ByteArray) (i : Nat) (h : 128 ≤ (s.get! i).toNat) : 128 ≤ (Utf8.decode s i).1 := by
  unfold Utf8.decode Utf8.runeError
  simp only [Nat.add_zero]
  rw [if_neg (by omega)]
  split
  · split <;> simp_all
  · split
    · split
      · rename_i hc; simp only [Bool.and_eq_true, decide_eq_true_eq, ge_iff_le] at hc; omega
      · decide
    · split
      · split
        · rename_i hc; simp only [Bool.and_eq_true, decide_eq_true_eq, ge_iff_le] at hc; omega
        · decide
      · decide
theorem str_get (l : List UInt8) (i : Nat) (h : i < l.length) : (strOf l).get! i = l.getD i 0 := by
  simp [strOf, ByteArray.get!, List.getD, h]
theorem str_size (l : List UInt8) : (strOf l).size = l.length := by simp [strOf, ByteArray.size]
/-- What stands in a label up to a place. -/
def LabTo (l : List UInt8) (p : Nat) : Prop := ∀ i, i < p → 32 ≤ (l.getD i 0).toNat ∧ (l.getD i 0).toNat ≤ 126
set_option maxRecDepth 100000 in
set_option maxHeartbeats 4000000 in
theorem labelled_calls (l : List UInt8) (hl : l.length ≤ 140737488355328) (e : Option Int) (he : e = if Lab l then none else some 1) (w : World) :
    Calls Tryd.prog 64 #[.string (strOf l)] w fun r w' => r = .returned (errV e) ∧ Below w.heap.size w w' := by
  have HE := Aside0.mk he
  have hs0 := str_size l
  clear he
  by_cases h64 : l.length ≤ 64
  · obtain ⟨n, hn⟩ : ∃ n, n = l.length := ⟨_, rfl⟩
    have hsz : (strOf l).size = n := by rw [hs0, hn]
    have hn64 : (n : Int) ≤ 64 := by omega
    have HN := Aside0.mk hn
    have HSZ := Aside0.mk hsz
    clear hs0 hn h64
    go_enter Tryd.func64, Tryd.ntmps64
    go_wp2
    clear hsz
    go_loopw [4, 11] (fun _ _ wr => ∃ p : Nat, p ≤ n ∧ Aside0 (LabTo l p) ∧ Aside0 (wr.heap[w.heap.size]? = some (.stringIter (strOf l) p)) ∧ Aside0 (Below w.heap.size w wr)) (fun _ _ wr => n - wr.iterPos w.heap.size)
    case atStart => exact ⟨0, Nat.zero_le _, ⟨fun i hi => absurd hi (Nat.not_lt_zero i)⟩, ⟨heap_alloc_new w _⟩, ⟨below_new _⟩⟩
    case round =>
      obtain ⟨p, hp, HP, HI, HW⟩ := hrel
      have hit := HI.out
      by_cases hlt : p < n
      · obtain ⟨x, hx⟩ : ∃ x, x = l.getD p 0 := ⟨_, rfl⟩
        obtain ⟨r, hr⟩ : ∃ r, r = (Utf8.decode (strOf l) p).1 := ⟨_, rfl⟩
        obtain ⟨d, hd⟩ : ∃ d, d = (Utf8.decode (strOf l) p).2 := ⟨_, rfl⟩
        have hnx := fun ty => Lib.run_next_any_at (P := Tryd.prog) wr w.heap.size (strOf l) p ty hit (by rw [HSZ.out]; exact hlt)
        rw [← hr, ← hd] at hnx
        have HG := Aside0.mk (show (strOf l).get! p = x by rw [hx]; exact str_get l p (by rw [← HN.out]; exact hlt))
        have hit2 := Lib.iterAt_heap wr w.heap.size (strOf l) p (p + 1) hit
        by_cases hok : 32 ≤ x.toNat ∧ x.toNat ≤ 126
        · have hxd : r = x.toNat ∧ d = 1 := by
            have e : Utf8.decode (strOf l) p = (x.toNat, 1) := by
              unfold Utf8.decode
              simp only [Nat.add_zero, HG.out]
              rw [if_pos (by omega)]
            rw [hr, hd, e]
            exact ⟨rfl, rfl⟩
          obtain ⟨hr2, hd2⟩ := hxd
          rw [hr2, hd2] at hnx
          have i1 : (32 : Int) ≤ (x.toNat : Int) := by omega
          have i2 : (x.toNat : Int) ≤ 126 := by omega
          have HP2 := Aside0.mk (show LabTo l (p + 1) from fun i hi => by
            rcases Nat.lt_or_ge i p with h | h
            · exact HP.out i h
            · rw [show i = p by omega, ← hx]; exact hok)
          have HI2 := Aside0.mk hit2
          have HM := Aside0.mk (show (wr.iterAt w.heap.size (strOf l) (p + 1)).iterPos w.heap.size = p + 1 by simp only [World.iterPos, hit2])
          have HM1 := Aside0.mk (show wr.iterPos w.heap.size = p by simp only [World.iterPos, hit])
          have HL2 := Aside0.mk hlt
          clear hx hr hd hr2 hd2 hok hit2 HG hit
          go_wp2
          go_roundw
          case rel => exact ⟨p + 1, hlt, HP2, HI2, ⟨Lib.below_iterAt HW.out (Nat.le_refl _) _ _⟩⟩
          case measure =>
            rw [HM.out, HM1.out]
            omega
        · have HV := Aside0.mk (show e = some 1 by
            rw [HE.out, if_neg (fun h => ?_)]
            have := h.2 p (by rw [← HN.out]; exact hlt)
            rw [← hx] at this
            exact hok this)
          have hbad : (r : Int) < 32 ∨ 126 < (r : Int) := by
            by_cases h128 : x.toNat < 128
            · have e : Utf8.decode (strOf l) p = (x.toNat, 1) := by
                unfold Utf8.decode
                simp only [Nat.add_zero, HG.out]
                rw [if_pos h128]
              rw [e] at hr
              simp only at hr
              omega
            · have := decode_ge (strOf l) p (by rw [HG.out]; omega)
              rw [← hr] at this
              omega
          clear hx hr hd hok hit2 HG hit
          rcases hbad with h1 | h1
          · go_wp2
            go_ret
            exact ⟨by rw [HV.out]; rfl, Lib.below_iterAt HW.out (Nat.le_refl _) _ _⟩
          · have h0 : (32 : Int) ≤ (r : Int) := by omega
            go_wp2
            go_ret
            exact ⟨by rw [HV.out]; rfl, Lib.below_iterAt HW.out (Nat.le_refl _) _ _⟩
      · obtain rfl : p = n := by omega
        have hnx := fun ty => Lib.run_next_end_at (P := Tryd.prog) wr w.heap.size (strOf l) p ty hit (by rw [HSZ.out]; exact hlt)
        have HV := Aside0.mk (show e = none by rw [HE.out, if_pos ⟨by rw [← HN.out]; omega, by rw [← HN.out]; exact HP.out⟩])
        clear hlt hit
        go_wp2
        go_ret
        exact ⟨by rw [HV.out]; rfl, HW.out⟩
  · have hi : 64 < ((strOf l).size : Int) := by rw [hs0]; omega
    have HV := Aside0.mk (show e = some 1 by rw [HE.out, if_neg (fun h => h64 h.1)])
    clear hs0 h64
    go_enter Tryd.func64, Tryd.ntmps64
    go_wp2
    go_ret
    exact ⟨by rw [HV.out]; rfl, Below.refl _ _⟩
theorem byte_pow (v k : Nat) : (v : Int) / 2 ^ (8 * k) % 256 = ((UInt8.ofNat (v / 256 ^ k)).toNat : Int) := by
  rw [UInt8.toNat_ofNat', show (256 : Nat) ^ k = 2 ^ (8 * k) by rw [Nat.pow_mul], ← pow_cast, ← Int.natCast_ediv]
  rfl
set_option maxRecDepth 100000 in
set_option maxHeartbeats 4000000 in
theorem bytes_calls (v n : Nat) (z k : Int) (hz : z = (v : Int)) (hk : k = (n : Int)) (hv : v < 18446744073709551616) (hn : n ≤ 8) (w : World) :
    Calls Tryd.prog 91 #[.int .u64 z, .int .i64 k] w (RetBs w (beN v n)) := by
  subst hz hk
  have HL := Aside0.mk (beN_len v n)
  clear hv
  go_enter Tryd.func91, Tryd.ntmps91
  go_wp2
  go_loopw [5, 6] (fun o i wr => ∃ (j : Nat) (A3 : Option Addr) (c3 : Nat), j ≤ n ∧ i = .int .i64 ((n : Int) - 1 - (j : Int)) ∧ o = .slice A3 j c3 ∧ Aside0 (Bs wr w.heap.size (.slice A3 j c3) ((beN v n).take j)) ∧ Aside0 (Below w.heap.size w wr)) (fun _ i _ => (intOf i + 1).toNat)
  case atStart => exact ⟨0, none, 0, Nat.zero_le _, by go_num, rfl, ⟨Bs.nil _ _⟩, ⟨Below.refl _ _⟩⟩
  case round =>
    obtain ⟨j, A3, c3, hj, rfl, rfl, HO, HW⟩ := hrel
    by_cases hlt : j < n
    · have h0 : (0 : Int) ≤ (n : Int) - 1 - (j : Int) := by omega
      have h7 : (n : Int) - 1 - (j : Int) ≤ 7 := by omega
      have HS := Aside0.mk (beN_take_succ v n j hlt)
      have HJ := Aside0.mk (show ((beN v n).take j).length = j by rw [List.length_take, HL.out]; omega)
      have HY := Aside0.mk (byte_pow v (n - 1 - j))
      go_wp2_with (at_builtin; refine app_bs (w0 := w) w.heap.size rfl (.tmp 13) (.tmp 20) rfl _ ((beN v n).take j) [UInt8.ofNat (v / 256 ^ (n - 1 - j))] _ _ _ rfl rfl (HO.out.alloc _) (Bs.read (Bs.one wr w.heap.size _ rfl HW.out.size _ _ HY.out)).1 (HW.out.alloc HW.out.size _) (by simp; have := HW.out.size; omega) (by rw [HJ.out]; omega) ?_; intro z5 A5 c5 w5 hz5 hB5 hb5 hs5 hg5)
      rw [show z5.length = j + 1 by rw [hz5.out, List.length_append, HJ.out]; rfl] at hB5 ⊢
      go_roundw
      case rel => exact ⟨j + 1, A5, c5, hlt, by go_num, rfl, ⟨by rw [HS.out, ← hz5.out]; exact hB5.out⟩, hb5⟩
      case measure => simp [intOf]; omega
    · obtain rfl : j = n := by omega
      clear hlt
      have HE := Aside0.mk (show (beN v j).take j = beN v j from List.take_of_length_le (by rw [HL.out]; exact Nat.le_refl _))
      go_wp2
      go_ret
      have HB := HO.out
      rw [HE.out] at HB
      refine ⟨A3, c3, by rw [HL.out]; rfl, ?_, HW.out⟩
      rw [HL.out]
      exact HB
theorem fpOf_nat (v : Nat) (h : v < 18446744073709551616) : (if 2305843009213693951 ≤ v / 2305843009213693952 + v % 2305843009213693952 then v / 2305843009213693952 + v % 2305843009213693952 - 2305843009213693951 else v / 2305843009213693952 + v % 2305843009213693952) = v % prime := by
  unfold prime
  split <;> omega
theorem and_prime (v : Nat) (h : v < 18446744073709551616) : bits .and .u64 (v : Int) 2305843009213693951 = ((v % 2305843009213693952 : Nat) : Int) := by
  have e := u64_and_nat v 2305843009213693951 h (by decide)
  rw [show ((2305843009213693951 : Nat) : Int) = 2305843009213693951 from rfl] at e
  rw [e, show (2305843009213693951 : Nat) = 2 ^ 61 - 1 by decide, Nat.and_two_pow_sub_one_eq_mod]
set_option maxRecDepth 100000 in
theorem fpOf_calls (v : Nat) (z : Int) (hz : z = (v : Int)) (h : v < 18446744073709551616) (w : World) :
    Calls Tryd.prog 69 #[.int .u64 z] w fun e w' => e = .returned (.int .u64 ((v % prime : Nat) : Int)) ∧ w = w' := by
  subst hz
  have ha := and_prime v h
  obtain ⟨q, hq⟩ : ∃ q, q = v / 2305843009213693952 := ⟨_, rfl⟩
  obtain ⟨r, hr⟩ : ∃ r, r = v % 2305843009213693952 := ⟨_, rfl⟩
  have hd : (v : Int) / 2305843009213693952 = (q : Int) := by omega
  rw [← hr] at ha
  have hq0 : (0 : Int) ≤ (q : Int) := by omega
  have hq7 : (q : Int) ≤ 7 := by omega
  have hr0 : (0 : Int) ≤ (r : Int) := by omega
  have hr1 : (r : Int) ≤ 2305843009213693951 := by omega
  have HV := Aside0.mk (fpOf_nat v h)
  have HQ := Aside0.mk hq
  have HR := Aside0.mk hr
  clear hq hr h
  by_cases hc : 2305843009213693951 ≤ q + r
  · have hi : (2305843009213693951 : Int) ≤ (q : Int) + r := by omega
    have HC := Aside0.mk hc
    clear hc
    go_enter Tryd.func69, Tryd.ntmps69
    go_wp2
    go_ret
    --HERE
    exact ⟨ret_val (int_val (by have h1 := HV.out; rw [← HQ.out, ← HR.out, if_pos HC.out] at h1; omega)), rfl⟩
  · have hi : (q : Int) + r < 2305843009213693951 := by omega
    have HC := Aside0.mk hc
    obtain ⟨s, hs⟩ : ∃ s : Int, (q : Int) + r = s := ⟨_, rfl⟩
    have hs0 : 0 ≤ s := by omega
    rw [hs] at hi
    have HSS := Aside0.mk hs
    clear hc hq0 hq7 hr0 hr1
    go_enter Tryd.func69, Tryd.ntmps69
    go_wp2
    go_ret
    exact ⟨ret_val (int_val (by have h1 := HV.out; rw [← HQ.out, ← HR.out, if_neg HC.out] at h1; have := HSS.out; omega)), rfl⟩
end Go.Proofs.YthmlidlnojdggaaDoor.Prg
