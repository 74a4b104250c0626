/- The law VarintRow by its walk. -/
import Derived.Test.YtpgighcobmaecaaDoorVarintBack
set_option linter.unusedVariables false
set_option linter.unusedSimpArgs false
namespace Go.Proofs.YtpgighcobmaecaaDoor.Vi
open Go.RowKit Go.Proofs.YtpgighcobmaecaaDoorW.PrintWords Go.Proofs.YtpgighcobmaecaaDoorW.PrintLast ErrAs

def encs (l : List (BitVec 64)) : List UInt8 := l.flatMap fun x => enc x.toNat
theorem split_at {α : Type} (l : List α) (d : α) (k : Nat) (hk : k < l.length) : l = l.take k ++ l.getD k d :: l.drop (k + 1) := by
  have h1 := List.take_append_drop k l
  have h2 := List.drop_eq_getElem_cons hk
  rw [List.getD_eq_getElem?_getD, List.getElem?_eq_getElem hk, Option.getD_some, ← h2, h1]
theorem encs_take (l : List (BitVec 64)) (k : Nat) (hk : k < l.length) : encs (l.take (k + 1)) = encs (l.take k) ++ enc (l.getD k 0).toNat := by
  rw [List.take_succ_eq_append_getElem hk, encs, List.flatMap_append]
  simp [encs, List.getD_eq_getElem?_getD, hk]
theorem encs_at (l : List (BitVec 64)) (k : Nat) (hk : k < l.length) : encs l = encs (l.take k) ++ (enc (l.getD k 0).toNat ++ encs (l.drop (k + 1))) := by
  conv => lhs; rw [split_at l 0 k hk]
  rw [encs, List.flatMap_append, List.flatMap_cons]
  rfl
theorem encs_drop (l : List (BitVec 64)) (k : Nat) (hk : k < l.length) : (encs l).drop (encs (l.take k)).length = enc (l.getD k 0).toNat ++ encs (l.drop (k + 1)) := by
  conv => lhs; rw [encs_at l k hk]
  rw [List.drop_append_of_le_length (Nat.le_refl _), List.drop_length, List.nil_append]
theorem encs_len (l : List (BitVec 64)) (k : Nat) (hk : k < l.length) : (encs (l.take k)).length + size (l.getD k 0).toNat ≤ (encs l).length := by
  rw [encs_at l k hk, List.length_append, List.length_append, enc_length]
  omega
theorem at_w {xs : List (BitVec 64)} {w : World} {A : Option Addr} {n : Nat} (h : K64.C w A n xs) (i : Nat) (hi : i < n) : ∃ ad, A = some ad ∧ w.cell? (ad.add i) = some (.int .u64 ((xs.getD i 0).toNat : Int)) := by
  obtain ⟨ad, e, hc⟩ := (Kd.reads_of_C (d := (0 : BitVec 64)) h).2.2 (by omega)
  exact ⟨ad, e, hc i hi⟩
theorem cell_w {xs : List (BitVec 64)} {w : World} {ad : Addr} {n : Nat} (h : K64.C w (some ad) n xs) (i : Nat) (hi : i < n) (x : BitVec 64) (hx : x = xs.getD i 0) : w.cell? (ad.add i) = some (.int .u64 (x.toNat : Int)) := by
  obtain ⟨ad', e, hc⟩ := at_w h i hi
  injection e with e
  subst e hx
  exact hc
theorem cell_w0 {xs : List (BitVec 64)} {w : World} {ad : Addr} {n : Nat} (h : K64.C w (some ad) n xs) (hi : 0 < n) (x : BitVec 64) (hx : x = xs.getD 0 0) : w.cell? ad = some (.int .u64 (x.toNat : Int)) := by
  simpa [Addr.add] using cell_w h 0 hi x hx
def f5_r16.T16 : Bool × List (List Nat × List Nat) := (true, [([], []), ([0], [0]), ([1], [1]), ([2], [2]), ([], []), ([], []), ([4, 5], [4, 5]), ([6], [6]), ([7, 3], [7]), ([3, 8, 0, 1, 2, 3], [3]), ([8, 9, 0, 1, 2, 3, 4, 5, 6, 7, 8, 9], [8])])
def f5_r16.B16 : List Nat := [0, 1, 3, 7, 0, 0, 48, 112, 255, 511, 1023]
theorem f5_r16.tab16 : Go.Proofs.YtpgighcobmaecaaDoorW.PrintLast.rtab .any (Go.Proofs.YtpgighcobmaecaaDoorW.PrintLast.opsOf Tryd.f5 16) = f5_r16.T16 := by kernel_rfl
theorem f5_r16.bits16 : Go.Proofs.YtpgighcobmaecaaDoorW.PrintLast.waitsOk f5_r16.T16.2 f5_r16.B16 = true := by kernel_rfl
def f5_r17.T17 : Bool × List (List Nat × List Nat) := (true, [([], []), ([0], [0]), ([], []), ([2], [2]), ([1, 3], [1, 3]), ([4], [4]), ([5], [5]), ([6, 5], [5, 6]), ([5], [5]), ([5], [5]), ([9, 5], [5, 9]), ([8, 10, 5], [5, 8, 10]), ([11, 5], [5, 11]), ([7, 12, 5], [5, 7, 12]), ([5, 13], [5, 13])])
def f5_r17.B17 : List Nat := [0, 1, 0, 4, 15, 31, 63, 127, 63, 63, 575, 1855, 3903, 8191, 16383]
theorem f5_r17.tab17 : Go.Proofs.YtpgighcobmaecaaDoorW.PrintLast.rtab .any (Go.Proofs.YtpgighcobmaecaaDoorW.PrintLast.opsOf Tryd.f5 17) = f5_r17.T17 := by kernel_rfl
theorem f5_r17.bits17 : Go.Proofs.YtpgighcobmaecaaDoorW.PrintLast.waitsOk f5_r17.T17.2 f5_r17.B17 = true := by kernel_rfl
set_option maxRecDepth 100000 in
set_option maxHeartbeats 4000000 in
theorem row_calls (A : Option Addr) (c n : Nat) (l : List (BitVec 64)) (w : World) (hn : l.length = n) (hr : K64.C w A n l) (hl : n ≤ 140737488351232) (hc : n ≤ c) (hg : Laid w) :
    Calls Tryd.prog 5 #[.slice A n c] w fun e w' => e = .returned (.bool true) ∧ Below w.heap.size w w' := by
  have HG := Aside0.mk hg
  clear hg
  by_cases h : 60 < n
  · have hd : decide ((60 : Int) < (n : Int)) = true := decide_eq_true (by omega)
    go_enter Tryd.func5, Tryd.ntmps5
    go_wp2_with (go_at_call 7; refine (sure_calls _ HG.out).mono ?_; rintro e w2 ⟨rfl, hb2⟩; replace hb2 := Aside0.mk hb2)
    go_ret
    exact ⟨rfl, hb2.out⟩
  · have hd : decide ((60 : Int) < (n : Int)) = false := decide_eq_false (by omega)
    have HR := Aside0.mk hr
    have HN := Aside0.mk hn
    clear hr hn
    go_enter Tryd.func5, Tryd.ntmps5
    go_wp2
    go_loopw [3, 4] (fun b i wr => ∃ (k : Nat) (d : List UInt8) (A3 : Option Addr) (c3 : Nat), i = .int .i64 (k : Int) ∧ k ≤ n ∧ b = .slice A3 d.length c3 ∧ d.length ≤ 9 * k ∧ Aside0 (d = encs (l.take k)) ∧ Aside0 (Bs wr w.heap.size (.slice A3 d.length c3) d) ∧ Aside0 (Below w.heap.size w wr)) (fun _ i _ => n - (intOf i).toNat)
    case atStart => exact ⟨0, [], none, 0, rfl, by omega, rfl, by simp, ⟨rfl⟩, ⟨Bs.nil _ _⟩, ⟨Below.refl _ _⟩⟩
    case round =>
      obtain ⟨k, d, A3, c3, rfl, hk, rfl, hd9, HD, HB, HBel⟩ := hrel
      by_cases hkn : k < n
      · obtain ⟨ad, rfl, hx⟩ := at_w (Kd.C_below HR.out HBel.out) k hkn
        obtain ⟨x, hx0⟩ : ∃ x : BitVec 64, x = l.getD k 0 := ⟨_, rfl⟩
        rw [← hx0] at hx
        have HX := Aside0.mk hx0
        obtain ⟨z, hz⟩ : ∃ z, z = d ++ enc x.toNat := ⟨_, rfl⟩
        have hz9 : z.length ≤ 9 * (k + 1) := by
          rw [hz, List.length_append, enc_length]
          have := size_le x.isLt
          omega
        have HZ := Aside0.mk hz
        clear hz hx0
        go_wp2_with (go_at_call 11; (with_reducible refine (Put_v A3 c3 d.length d x.toNat wr rfl (Bs.read HB.out).1 (by omega) ⟨x.isLt⟩ z HZ).mono ?_); rintro e w2 ⟨A4, c4, rfl, hB4, hb4⟩; have HB4 := Aside0.mk (hB4.lower HBel.out.size); have HBel4 := Aside0.mk (below_step HBel.out hb4); clear hB4 hb4)
        go_roundw
        case rel => exact ⟨k + 1, z, A4, c4, by go_num, by omega, rfl, hz9, ⟨by rw [HZ.out, HD.out, HX.out, encs_take _ _ (by rw [HN.out]; exact hkn)]⟩, HB4, HBel4⟩
        case measure => simp [intOf]; omega
      · obtain rfl : k = n := by omega
        have HD2 := Aside0.mk (show d = encs l by rw [HD.out, ← HN.out, List.take_length])
        obtain ⟨wb, hwb⟩ : ∃ x, x = wr := ⟨_, rfl⟩
        subst hwb
        have hc3 := (Bs.read HB.out).2.2
        go_wp2
        go_loopw [5, 6] (fun a i wr => ∃ (j p : Nat), i = .int .i64 (j : Int) ∧ j ≤ k ∧ a = .int .i64 (p : Int) ∧ p ≤ d.length ∧ Aside0 (p = (encs (l.take j)).length) ∧ Aside0 (Below w.heap.size w wr) ∧ Aside0 (Below wb.heap.size wb wr)) (fun _ i _ => k - (intOf i).toNat)
        case atStart => exact ⟨0, 0, rfl, by omega, rfl, by omega, ⟨rfl⟩, HBel, ⟨Below.refl _ _⟩⟩
        case round =>
          obtain ⟨j, p, rfl, hj, rfl, hp, HP, HBw, HBb⟩ := hrel
          by_cases hjn : j < k
          · obtain ⟨ad, rfl, hx⟩ := at_w (Kd.C_below HR.out HBw.out) j hjn
            obtain ⟨x, hx0⟩ : ∃ x : BitVec 64, x = l.getD j 0 := ⟨_, rfl⟩
            obtain ⟨y, hy0⟩ : ∃ x : BitVec 64, x = l.getD 0 0 := ⟨_, rfl⟩
            obtain ⟨s, hs⟩ : ∃ s, s = size x.toNat := ⟨_, rfl⟩
            rw [← hx0] at hx
            obtain ⟨q, hq⟩ : ∃ q, q = d.drop p := ⟨_, rfl⟩
            have hjl : j < l.length := by rw [HN.out]; exact hjn
            have hk0 : 0 < k := by omega
            have hps : p + s ≤ d.length := by rw [hs, HP.out, HD2.out, hx0]; exact encs_len l j hjl
            have hs1 : 1 ≤ s := by rw [hs]; exact size_pos _
            have HQ := Aside0.mk (show some (x.toNat, s) = getS q by rw [hq, HD2.out, HP.out, encs_drop l j hjl, ← hx0, getS_enc x.isLt, hs])
            have HQL := Aside0.mk (show q.length = d.length - p by rw [hq, List.length_drop])
            have HPN := Aside0.mk (show p + s = (encs (l.take (j + 1))).length by rw [encs_take l j hjl, List.length_append, enc_length, ← hx0, ← hs, ← HP.out])
            obtain ⟨A5, hcut, hrd⟩ := cut_lo' (l := d) A3 c3 rfl (p : Int) p rfl hp hc3
            have HQR := Aside0.mk (show Kb.C wr A5 (d.length - p) q by rw [hq]; exact hrd wr (Kd.C_below (Bs.read HB.out).1 HBb.out))
            clear hrd
            obtain ⟨zx, hzx⟩ : ∃ z, z = enc y.toNat := ⟨_, rfl⟩
            obtain ⟨zy, hzy⟩ : ∃ z, z = enc x.toNat := ⟨_, rfl⟩
            obtain ⟨a, ha⟩ : ∃ a, a = zx.length := ⟨_, rfl⟩
            obtain ⟨b, hb⟩ : ∃ b, b = zy.length := ⟨_, rfl⟩
            obtain ⟨qy, hqy⟩ : ∃ z, z = zy.take a := ⟨_, rfl⟩
            have HLT := Aside0.mk (fun k : a < b => show zx ≠ qy by
              rw [hqy, ha, hzx, hzy]
              rw [ha, hb, hzx, hzy] at k
              exact enc_prefix y.isLt x.isLt k)
            have HR2 := Aside0.mk (show K64.C wr.drew (some ad) k l from Kd.C_below HR.out (Below.drew HBw.out))
            have HBw2 := Aside0.mk (Below.drew HBw.out)
            have HBb2 := Aside0.mk (Below.drew HBb.out)
            have HX := Aside0.mk hx0
            have HY := Aside0.mk hy0
            have HS := Aside0.mk hs
            have HZX := Aside0.mk hzx
            have HZY := Aside0.mk hzy
            have HA := Aside0.mk ha
            have HBL := Aside0.mk hb
            have HQY := Aside0.mk hqy
            clear hx0 hy0 hs hq hzx hzy ha hb hqy
            go_wp2_with (first
              | (go_at_call 8; (with_reducible refine (Get_ok A5 (c3 - p) (d.length - p) q wr HQL.out HQR.out (by omega) (by omega) x.toNat s HQ.out).mono ?_); rintro e w' ⟨rfl, rfl⟩)
              | (go_at_call 13; (with_reducible refine (Size_v x.toNat ⟨x.isLt⟩ _ s HS).mono ?_); rintro e w' ⟨rfl, rfl⟩))
            refine start_ (n := 11) (S := fun w' => K64.C w' (some ad) k l ∧ True) (ds := []) #[false, false, false, false, false, false, false, false, false, false, false] (by kernel_rfl) rfl rfl ⟨HR2.out, trivial⟩ (fun hHeld => ?_)
            refine with_tabW f5_r16.tab16 f5_r16.bits16 (fun HT_ HW_ => ?_)
            generalize wr.drew = w1 at HR2 HBw2 HBb2 hHeld ⊢
            refine pure_ (i := 0) (N := some 61) (v := ?_) (a' := ?_) #[true, false, false, false, false, false, false, false, false, false, false] rfl rfl (any_of HT_.out (by kernel_rfl)) (fun _ _ _ h => h) (Or.inl ⟨by rfl, ?_⟩) ?_ ?_
            rotate_left
            · intro w'
              go_simp
              with_reducible rfl
            rotate_left
            · simp only [Act.put, List.setIfInBounds_toArray, List.set_cons_zero, List.set_cons_succ, i64_w, i32_w]
              rfl
            refine pure_ (i := 1) (N := some 62) (v := ?_) (a' := ?_) #[true, true, false, false, false, false, false, false, false, false, false] rfl rfl (any_of HT_.out (by kernel_rfl)) (fun _ _ _ h => h) (Or.inl ⟨by rfl, ?_⟩) ?_ ?_
            rotate_left
            · intro w'
              go_simp
              with_reducible rfl
            rotate_left
            · simp only [Act.put, List.setIfInBounds_toArray, List.set_cons_zero, List.set_cons_succ, i64_w, i32_w]
              rfl
            refine pure_ (i := 4) (N := some 65) (v := ?_) (a' := ?_) #[true, true, false, false, true, false, false, false, false, false, false] rfl rfl (any_of HT_.out (by kernel_rfl)) (fun _ _ _ h => h) (Or.inl ⟨by rfl, ?_⟩) ?_ ?_
            rotate_left
            · intro w'
              go_simp
              with_reducible rfl
            rotate_left
            · simp only [Act.put, List.setIfInBounds_toArray, List.set_cons_zero, List.set_cons_succ, i64_w, i32_w]
              rfl
            refine pure_ (i := 5) (N := some 66) (v := ?_) (a' := ?_) #[true, true, false, false, true, true, false, false, false, false, false] rfl rfl (any_of HT_.out (by kernel_rfl)) (fun _ _ _ h => h) (Or.inl ⟨by rfl, ?_⟩) ?_ ?_
            rotate_left
            · intro w'
              go_simp
              with_reducible rfl
            rotate_left
            · simp only [Act.put, List.setIfInBounds_toArray, List.set_cons_zero, List.set_cons_succ, i64_w, i32_w]
              rfl
            refine pure_ (i := 6) (N := some 67) (v := ?_) (a' := ?_) #[true, true, false, false, true, true, true, false, false, false, false] rfl rfl (any_of HT_.out (by kernel_rfl)) (fun _ _ _ h => h) (Or.inl ⟨by rfl, ?_⟩) ?_ ?_
            rotate_left
            · intro w'
              go_simp
              with_reducible rfl
            rotate_left
            · simp only [Act.put, List.setIfInBounds_toArray, List.set_cons_zero, List.set_cons_succ, i64_w, i32_w]
              rfl
            refine take_ (i := 2) (N := some 63) (v := ?_) (a' := ?_) #[true, true, true, false, true, true, true, false, false, false, false] rfl rfl (take_ofW HT_.out HW_.out (by kernel_rfl)) (fun _ _ _ h => h) (Or.inl ⟨by rfl, ?_⟩) hHeld ?_ ?_
            rotate_left
            · intro w' s0
              have e := cell_w0 s0.1 (by omega) y HY.out
              go_simp
              with_reducible rfl
            rotate_left
            · simp only [Act.put, List.setIfInBounds_toArray, List.set_cons_zero, List.set_cons_succ, i64_w, i32_w]
              rfl
            refine take_ (i := 7) (N := some 68) (v := ?_) (a' := ?_) #[true, true, true, false, true, true, true, true, false, false, false] rfl rfl (take_ofW HT_.out HW_.out (by kernel_rfl)) (fun _ _ _ h => h) (Or.inl ⟨by rfl, ?_⟩) hHeld ?_ ?_
            rotate_left
            · intro w' s0
              have e := cell_w s0.1 j (by omega) x HX.out
              go_simp
              with_reducible rfl
            rotate_left
            · simp only [Act.put, List.setIfInBounds_toArray, List.set_cons_zero, List.set_cons_succ, i64_w, i32_w]
              rfl
            refine one_ (i := 3) (N := some 64) #[true, true, true, true, true, true, true, true, false, false, false] rfl rfl (one_of HT_.out (by kernel_rfl)) (by decide) (fun K hK => ?_)
            refine goes_ Tryd.func11 (by kernel_rfl) rfl #[.slice none 0 0, .int .u64 (y.toNat : Int)] (by rfl) rfl rfl (by (try simp only [List.map_toArray, List.map_cons, List.map_nil]); first | done | rfl) ?_
            with_reducible refine (put_nil y.toNat y.isLt w1 zx HZX.out a HA.out).mono ?_
            rintro e w2 ⟨Ax, cx, rfl, hB2, hb2⟩
            refine ⟨_, rfl, ?_⟩
            have HBw3 := Aside0.mk (below_step HBw2.out hb2)
            have HBb3 := Aside0.mk (below_step HBb2.out hb2)
            refine hK.out _ _ ⟨(Kd.C_below hHeld.1 hb2), trivial⟩ (fun hHeld => ?_)
            clear hK K
            refine norm_ (a' := ?_) ?_ ?_
            rotate_left
            · show Act.put _ (some 64) _ = _
              simp only [Act.put, List.setIfInBounds_toArray, List.set_cons_zero, List.set_cons_succ, i64_w, i32_w]
              rfl
            refine more_ (S' := fun w' => K64.C w' (some ad) k l ∧ Kb.C w' Ax a zx ∧ True) ⟨hHeld.1, (Bs.read hB2).1, trivial⟩ (fun _ h => ⟨h.1, trivial⟩) (fun hHeld => ?_)
            refine one_ (i := 8) (N := some 69) #[true, true, true, true, true, true, true, true, true, false, false] rfl rfl (one_of HT_.out (by kernel_rfl)) (by decide) (fun K hK => ?_)
            refine goes_ Tryd.func11 (by kernel_rfl) rfl #[.slice none 0 0, .int .u64 (x.toNat : Int)] (by rfl) rfl rfl (by (try simp only [List.map_toArray, List.map_cons, List.map_nil]); first | done | rfl) ?_
            with_reducible refine (put_nil x.toNat x.isLt w2 zy HZY.out b HBL.out).mono ?_
            rintro e w3 ⟨Ay, cy, rfl, hB3, hb3⟩
            refine ⟨_, rfl, ?_⟩
            have HBw4 := Aside0.mk (below_step HBw3.out hb3)
            have HBb4 := Aside0.mk (below_step HBb3.out hb3)
            refine hK.out _ _ ⟨(Kd.C_below hHeld.1 hb3), (Kd.C_below hHeld.2.1 hb3), trivial⟩ (fun hHeld => ?_)
            clear hK K
            refine norm_ (a' := ?_) ?_ ?_
            rotate_left
            · show Act.put _ (some 69) _ = _
              simp only [Act.put, List.setIfInBounds_toArray, List.set_cons_zero, List.set_cons_succ, i64_w, i32_w]
              rfl
            refine more_ (S' := fun w' => K64.C w' (some ad) k l ∧ Kb.C w' Ax a zx ∧ Kb.C w' Ay b zy ∧ True) ⟨hHeld.1, hHeld.2.1, (Bs.read hB3).1, trivial⟩ (fun _ h => ⟨h.1, h.2.1, trivial⟩) (fun hHeld => ?_)
            refine pure_ (i := 9) (N := some 10) (v := ?_) (a' := ?_) #[true, true, true, true, true, true, true, true, true, true, false] rfl rfl (any_of HT_.out (by kernel_rfl)) (fun _ _ _ h => h) (Or.inl ⟨by rfl, ?_⟩) ?_ ?_
            rotate_left
            · intro w'
              go_simp
              with_reducible rfl
            rotate_left
            · simp only [Act.put, List.setIfInBounds_toArray, List.set_cons_zero, List.set_cons_succ, i64_w, i32_w]
              rfl
            refine pure_ (i := 10) (N := some 11) (v := ?_) (a' := ?_) #[true, true, true, true, true, true, true, true, true, true, true] rfl rfl (any_of HT_.out (by kernel_rfl)) (fun _ _ _ h => h) (Or.inl ⟨by rfl, ?_⟩) ?_ ?_
            rotate_left
            · intro w'
              go_simp
              with_reducible rfl
            rotate_left
            · simp only [Act.put, List.setIfInBounds_toArray, List.set_cons_zero, List.set_cons_succ, i64_w, i32_w]
              rfl
            refine done_ (done_of HT_.out (by kernel_rfl)) ?_
            clear hHeld
            have HBw5 := Aside0.mk (Below.drew HBw4.out)
            have HBb5 := Aside0.mk (Below.drew HBb4.out)
            by_cases hlt : a < b
            · have hdlt : decide (a < b) = true := decide_eq_true hlt
              obtain ⟨hcut2, hrd2⟩ := cut_hi' (l := zy) Ay cy HBL.out.symm (a : Int) a rfl (by omega) (Bs.read hB3).2.2
              have hne := seq_false (HLT.out hlt)
              have HRx := Aside0.mk (show Kb.C w3.drew Ax a zx from Kd.C_below (Bs.read hB2).1 (Below.drew hb3))
              have HRy := Aside0.mk (show Kb.C w3.drew Ay a qy by rw [HQY.out]; exact hrd2 _ (Bs.read hB3).1)
              clear hrd2 hB2 hb2 hB3 hb3
              go_wp2
              refine start_ (n := 15) (S := fun w' => Kb.C w' Ax a zx ∧ Kb.C w' Ay a qy ∧ True) (ds := []) #[false, false, false, false, false, false, false, false, false, false, false, false, false, false, false] (by kernel_rfl) rfl rfl ⟨HRx.out, HRy.out, trivial⟩ (fun hHeld => ?_)
              refine with_tabW f5_r17.tab17 f5_r17.bits17 (fun HT_ HW_ => ?_)
              generalize w3.drew = w4 at HRx HRy HBw5 HBb5 hHeld ⊢
              refine pure_ (i := 0) (N := some 70) (v := ?_) (a' := ?_) #[true, false, false, false, false, false, false, false, false, false, false, false, false, false, false] rfl rfl (any_of HT_.out (by kernel_rfl)) (fun _ _ _ h => h) (Or.inl ⟨by rfl, ?_⟩) ?_ ?_
              rotate_left
              · intro w'
                go_simp
                with_reducible rfl
              rotate_left
              · simp only [Act.put, List.setIfInBounds_toArray, List.set_cons_zero, List.set_cons_succ, i64_w, i32_w]
                rfl
              refine pure_ (i := 1) (N := some 71) (v := ?_) (a' := ?_) #[true, true, false, false, false, false, false, false, false, false, false, false, false, false, false] rfl rfl (any_of HT_.out (by kernel_rfl)) (fun _ _ _ h => h) (Or.inl ⟨by rfl, ?_⟩) ?_ ?_
              rotate_left
              · intro w'
                go_simp
                with_reducible rfl
              rotate_left
              · simp only [Act.put, List.setIfInBounds_toArray, List.set_cons_zero, List.set_cons_succ, i64_w, i32_w]
                rfl
              refine pure_ (i := 2) (N := some 72) (v := ?_) (a' := ?_) #[true, true, true, false, false, false, false, false, false, false, false, false, false, false, false] rfl rfl (any_of HT_.out (by kernel_rfl)) (fun _ _ _ h => h) (Or.inl ⟨by rfl, ?_⟩) ?_ ?_
              rotate_left
              · intro w'
                go_simp
                with_reducible rfl
              rotate_left
              · simp only [Act.put, List.setIfInBounds_toArray, List.set_cons_zero, List.set_cons_succ, i64_w, i32_w]
                rfl
              refine pure_ (i := 3) (N := some 73) (v := ?_) (a' := ?_) #[true, true, true, true, false, false, false, false, false, false, false, false, false, false, false] rfl rfl (any_of HT_.out (by kernel_rfl)) (fun _ _ _ h => h) (Or.inl ⟨by rfl, ?_⟩) ?_ ?_
              rotate_left
              · intro w'
                go_simp
                with_reducible rfl
              rotate_left
              · simp only [Act.put, List.setIfInBounds_toArray, List.set_cons_zero, List.set_cons_succ, i64_w, i32_w]
                rfl
              refine pure_ (i := 4) (N := some 74) (v := ?_) (a' := ?_) #[true, true, true, true, true, false, false, false, false, false, false, false, false, false, false] rfl rfl (any_of HT_.out (by kernel_rfl)) (fun _ _ _ h => h) (Or.inl ⟨by rfl, ?_⟩) ?_ ?_
              rotate_left
              · intro w'
                go_simp
                with_reducible rfl
              rotate_left
              · simp only [Act.put, List.setIfInBounds_toArray, List.set_cons_zero, List.set_cons_succ, i64_w, i32_w]
                rfl
              refine pure_ (i := 5) (N := some 75) (v := ?_) (a' := ?_) #[true, true, true, true, true, true, false, false, false, false, false, false, false, false, false] rfl rfl (any_of HT_.out (by kernel_rfl)) (fun _ _ _ h => h) (Or.inl ⟨by rfl, ?_⟩) ?_ ?_
              rotate_left
              · intro w'
                go_simp
                with_reducible rfl
              rotate_left
              · simp only [Act.put, List.setIfInBounds_toArray, List.set_cons_zero, List.set_cons_succ, i64_w, i32_w]
                rfl
              refine pure_ (i := 6) (N := some 76) (v := ?_) (a' := ?_) #[true, true, true, true, true, true, true, false, false, false, false, false, false, false, false] rfl rfl (any_of HT_.out (by kernel_rfl)) (fun _ _ _ h => h) (Or.inl ⟨by rfl, ?_⟩) ?_ ?_
              rotate_left
              · intro w'
                go_simp
                with_reducible rfl
              rotate_left
              · simp only [Act.put, List.setIfInBounds_toArray, List.set_cons_zero, List.set_cons_succ, i64_w, i32_w]
                rfl
              refine pure_ (i := 8) (N := some 78) (v := ?_) (a' := ?_) #[true, true, true, true, true, true, true, false, true, false, false, false, false, false, false] rfl rfl (any_of HT_.out (by kernel_rfl)) (fun _ _ _ h => h) (Or.inl ⟨by rfl, ?_⟩) ?_ ?_
              rotate_left
              · intro w'
                go_simp
                with_reducible rfl
              rotate_left
              · simp only [Act.put, List.setIfInBounds_toArray, List.set_cons_zero, List.set_cons_succ, i64_w, i32_w]
                rfl
              refine pure_ (i := 9) (N := some 79) (v := ?_) (a' := ?_) #[true, true, true, true, true, true, true, false, true, true, false, false, false, false, false] rfl rfl (any_of HT_.out (by kernel_rfl)) (fun _ _ _ h => h) (Or.inl ⟨by rfl, ?_⟩) ?_ ?_
              rotate_left
              · intro w'
                go_simp
                with_reducible rfl
              rotate_left
              · simp only [Act.put, List.setIfInBounds_toArray, List.set_cons_zero, List.set_cons_succ, i64_w, i32_w]
                rfl
              refine pure_ (i := 10) (N := some 80) (v := ?_) (a' := ?_) #[true, true, true, true, true, true, true, false, true, true, true, false, false, false, false] rfl rfl (any_of HT_.out (by kernel_rfl)) (fun _ _ _ h => h) (Or.inl ⟨by rfl, ?_⟩) ?_ ?_
              rotate_left
              · intro w'
                go_simp
                with_reducible rfl
              rotate_left
              · simp only [Act.put, List.setIfInBounds_toArray, List.set_cons_zero, List.set_cons_succ, i64_w, i32_w]
                rfl
              refine pure_ (i := 11) (N := some 81) (v := ?_) (a' := ?_) #[true, true, true, true, true, true, true, false, true, true, true, true, false, false, false] rfl rfl (any_of HT_.out (by kernel_rfl)) (fun _ _ _ h => h) (Or.inl ⟨by rfl, ?_⟩) ?_ ?_
              rotate_left
              · intro w'
                go_simp
                with_reducible rfl
              rotate_left
              · simp only [Act.put, List.setIfInBounds_toArray, List.set_cons_zero, List.set_cons_succ, i64_w, i32_w]
                rfl
              refine take_ (i := 7) (N := some 77) (v := ?_) (a' := ?_) #[true, true, true, true, true, true, true, true, true, true, true, true, false, false, false] rfl rfl (take_ofW HT_.out HW_.out (by kernel_rfl)) (fun _ _ _ h => h) (Or.inl ⟨by rfl, ?_⟩) hHeld ?_ ?_
              rotate_left
              · intro w' s0
                have e := str_of (c := cx) s0.1
                go_simp
                with_reducible rfl
              rotate_left
              · simp only [Act.put, List.setIfInBounds_toArray, List.set_cons_zero, List.set_cons_succ, i64_w, i32_w]
                rfl
              refine take_ (i := 12) (N := some 82) (v := ?_) (a' := ?_) #[true, true, true, true, true, true, true, true, true, true, true, true, true, false, false] rfl rfl (take_ofW HT_.out HW_.out (by kernel_rfl)) (fun _ _ _ h => h) (Or.inl ⟨by rfl, ?_⟩) hHeld ?_ ?_
              rotate_left
              · intro w' s0
                have e := str_of (c := cy) s0.2.1
                go_simp
                with_reducible rfl
              rotate_left
              · simp only [Act.put, List.setIfInBounds_toArray, List.set_cons_zero, List.set_cons_succ, i64_w, i32_w]
                rfl
              refine pure_ (i := 13) (N := some 83) (v := ?_) (a' := ?_) #[true, true, true, true, true, true, true, true, true, true, true, true, true, true, false] rfl rfl (any_of HT_.out (by kernel_rfl)) (fun _ _ _ h => h) (Or.inl ⟨by rfl, ?_⟩) ?_ ?_
              rotate_left
              · intro w'
                go_simp
                with_reducible rfl
              rotate_left
              · simp only [Act.put, List.setIfInBounds_toArray, List.set_cons_zero, List.set_cons_succ, i64_w, i32_w]
                rfl
              refine pure_ (i := 14) (N := some 84) (v := ?_) (a' := ?_) #[true, true, true, true, true, true, true, true, true, true, true, true, true, true, true] rfl rfl (any_of HT_.out (by kernel_rfl)) (fun _ _ _ h => h) (Or.inl ⟨by rfl, ?_⟩) ?_ ?_
              rotate_left
              · intro w'
                go_simp
                with_reducible rfl
              rotate_left
              · simp only [Act.put, List.setIfInBounds_toArray, List.set_cons_zero, List.set_cons_succ, i64_w, i32_w]
                rfl
              refine done_ (done_of HT_.out (by kernel_rfl)) ?_
              clear hHeld
              go_wp2
              go_roundw
              case rel => exact ⟨j + 1, p + s, by go_num, by omega, by go_num, hps, HPN, HBw5, HBb5⟩
              case measure => simp [intOf]; omega
            · have hdlt : decide (a < b) = false := decide_eq_false hlt
              clear hB2 hb2 hB3 hb3
              go_wp2
              refine start_ (n := 15) (S := fun w' => True) (ds := []) #[false, false, false, false, false, false, false, false, false, false, false, false, false, false, false] (by kernel_rfl) rfl rfl trivial (fun hHeld => ?_)
              refine with_tabW f5_r17.tab17 f5_r17.bits17 (fun HT_ HW_ => ?_)
              generalize w3.drew = w4 at HBw5 HBb5 hHeld ⊢
              refine pure_ (i := 0) (N := some 70) (v := ?_) (a' := ?_) #[true, false, false, false, false, false, false, false, false, false, false, false, false, false, false] rfl rfl (any_of HT_.out (by kernel_rfl)) (fun _ _ _ h => h) (Or.inl ⟨by rfl, ?_⟩) ?_ ?_
              rotate_left
              · intro w'
                go_simp
                with_reducible rfl
              rotate_left
              · simp only [Act.put, List.setIfInBounds_toArray, List.set_cons_zero, List.set_cons_succ, i64_w, i32_w]
                rfl
              refine pure_ (i := 1) (N := some 71) (v := ?_) (a' := ?_) #[true, true, false, false, false, false, false, false, false, false, false, false, false, false, false] rfl rfl (any_of HT_.out (by kernel_rfl)) (fun _ _ _ h => h) (Or.inl ⟨by rfl, ?_⟩) ?_ ?_
              rotate_left
              · intro w'
                go_simp
                with_reducible rfl
              rotate_left
              · simp only [Act.put, List.setIfInBounds_toArray, List.set_cons_zero, List.set_cons_succ, i64_w, i32_w]
                rfl
              refine pure_ (i := 2) (N := some 72) (v := ?_) (a' := ?_) #[true, true, true, false, false, false, false, false, false, false, false, false, false, false, false] rfl rfl (any_of HT_.out (by kernel_rfl)) (fun _ _ _ h => h) (Or.inl ⟨by rfl, ?_⟩) ?_ ?_
              rotate_left
              · intro w'
                go_simp
                with_reducible rfl
              rotate_left
              · simp only [Act.put, List.setIfInBounds_toArray, List.set_cons_zero, List.set_cons_succ, i64_w, i32_w]
                rfl
              refine pure_ (i := 3) (N := some 73) (v := ?_) (a' := ?_) #[true, true, true, true, false, false, false, false, false, false, false, false, false, false, false] rfl rfl (any_of HT_.out (by kernel_rfl)) (fun _ _ _ h => h) (Or.inl ⟨by rfl, ?_⟩) ?_ ?_
              rotate_left
              · intro w'
                go_simp
                with_reducible rfl
              rotate_left
              · simp only [Act.put, List.setIfInBounds_toArray, List.set_cons_zero, List.set_cons_succ, i64_w, i32_w]
                rfl
              refine pure_ (i := 4) (N := some 74) (v := ?_) (a' := ?_) #[true, true, true, true, true, false, false, false, false, false, false, false, false, false, false] rfl rfl (any_of HT_.out (by kernel_rfl)) (fun _ _ _ h => h) (Or.inl ⟨by rfl, ?_⟩) ?_ ?_
              rotate_left
              · intro w'
                go_simp
                with_reducible rfl
              rotate_left
              · simp only [Act.put, List.setIfInBounds_toArray, List.set_cons_zero, List.set_cons_succ, i64_w, i32_w]
                rfl
              refine pure_ (i := 5) (N := some 75) (v := ?_) (a' := ?_) #[true, true, true, true, true, true, false, false, false, false, false, false, false, false, false] rfl rfl (any_of HT_.out (by kernel_rfl)) (fun _ _ _ h => h) (Or.inl ⟨by rfl, ?_⟩) ?_ ?_
              rotate_left
              · intro w'
                go_simp
                with_reducible rfl
              rotate_left
              · simp only [Act.put, List.setIfInBounds_toArray, List.set_cons_zero, List.set_cons_succ, i64_w, i32_w]
                rfl
              refine pure_ (i := 6) (N := some 76) (v := undef) (a' := ?_) #[true, true, true, true, true, true, true, false, false, false, false, false, false, false, false] rfl rfl (any_of HT_.out (by kernel_rfl)) (fun _ _ _ h => h) (Or.inr ⟨by rfl, rfl⟩) ?_ ?_
              rotate_left
              · simp only [Act.put, List.setIfInBounds_toArray, List.set_cons_zero, List.set_cons_succ, i64_w, i32_w]
                rfl
              refine pure_ (i := 7) (N := some 77) (v := undef) (a' := ?_) #[true, true, true, true, true, true, true, true, false, false, false, false, false, false, false] rfl rfl (any_of HT_.out (by kernel_rfl)) (fun _ _ _ h => h) (Or.inr ⟨by rfl, rfl⟩) ?_ ?_
              rotate_left
              · simp only [Act.put, List.setIfInBounds_toArray, List.set_cons_zero, List.set_cons_succ, i64_w, i32_w]
                rfl
              refine pure_ (i := 8) (N := some 78) (v := undef) (a' := ?_) #[true, true, true, true, true, true, true, true, true, false, false, false, false, false, false] rfl rfl (any_of HT_.out (by kernel_rfl)) (fun _ _ _ h => h) (Or.inr ⟨by rfl, rfl⟩) ?_ ?_
              rotate_left
              · simp only [Act.put, List.setIfInBounds_toArray, List.set_cons_zero, List.set_cons_succ, i64_w, i32_w]
                rfl
              refine pure_ (i := 9) (N := some 79) (v := undef) (a' := ?_) #[true, true, true, true, true, true, true, true, true, true, false, false, false, false, false] rfl rfl (any_of HT_.out (by kernel_rfl)) (fun _ _ _ h => h) (Or.inr ⟨by rfl, rfl⟩) ?_ ?_
              rotate_left
              · simp only [Act.put, List.setIfInBounds_toArray, List.set_cons_zero, List.set_cons_succ, i64_w, i32_w]
                rfl
              refine pure_ (i := 10) (N := some 80) (v := undef) (a' := ?_) #[true, true, true, true, true, true, true, true, true, true, true, false, false, false, false] rfl rfl (any_of HT_.out (by kernel_rfl)) (fun _ _ _ h => h) (Or.inr ⟨by rfl, rfl⟩) ?_ ?_
              rotate_left
              · simp only [Act.put, List.setIfInBounds_toArray, List.set_cons_zero, List.set_cons_succ, i64_w, i32_w]
                rfl
              refine pure_ (i := 11) (N := some 81) (v := undef) (a' := ?_) #[true, true, true, true, true, true, true, true, true, true, true, true, false, false, false] rfl rfl (any_of HT_.out (by kernel_rfl)) (fun _ _ _ h => h) (Or.inr ⟨by rfl, rfl⟩) ?_ ?_
              rotate_left
              · simp only [Act.put, List.setIfInBounds_toArray, List.set_cons_zero, List.set_cons_succ, i64_w, i32_w]
                rfl
              refine pure_ (i := 12) (N := some 82) (v := undef) (a' := ?_) #[true, true, true, true, true, true, true, true, true, true, true, true, true, false, false] rfl rfl (any_of HT_.out (by kernel_rfl)) (fun _ _ _ h => h) (Or.inr ⟨by rfl, rfl⟩) ?_ ?_
              rotate_left
              · simp only [Act.put, List.setIfInBounds_toArray, List.set_cons_zero, List.set_cons_succ, i64_w, i32_w]
                rfl
              refine pure_ (i := 13) (N := some 83) (v := undef) (a' := ?_) #[true, true, true, true, true, true, true, true, true, true, true, true, true, true, false] rfl rfl (any_of HT_.out (by kernel_rfl)) (fun _ _ _ h => h) (Or.inr ⟨by rfl, rfl⟩) ?_ ?_
              rotate_left
              · simp only [Act.put, List.setIfInBounds_toArray, List.set_cons_zero, List.set_cons_succ, i64_w, i32_w]
                rfl
              refine pure_ (i := 14) (N := some 84) (v := ?_) (a' := ?_) #[true, true, true, true, true, true, true, true, true, true, true, true, true, true, true] rfl rfl (any_of HT_.out (by kernel_rfl)) (fun _ _ _ h => h) (Or.inl ⟨by rfl, ?_⟩) ?_ ?_
              rotate_left
              · intro w'
                go_simp
                with_reducible rfl
              rotate_left
              · simp only [Act.put, List.setIfInBounds_toArray, List.set_cons_zero, List.set_cons_succ, i64_w, i32_w]
                rfl
              refine done_ (done_of HT_.out (by kernel_rfl)) ?_
              clear hHeld
              go_wp2
              go_roundw
              case rel => exact ⟨j + 1, p + s, by go_num, by omega, by go_num, hps, HPN, HBw5, HBb5⟩
              case measure => simp [intOf]; omega
          · obtain rfl : j = k := by omega
            have hpd : p = d.length := by rw [HP.out, HD2.out, ← HN.out, List.take_length]
            subst hpd
            go_wp2_with (go_at_call 7; refine (sure_calls _ (HG.out.below HBw.out)).mono ?_; rintro e w2 ⟨rfl, hb2⟩; have HB2 := Aside0.mk (below_step HBw.out hb2); clear hb2)
            go_ret
            exact ⟨rfl, HB2.out⟩
end Go.Proofs.YtpgighcobmaecaaDoor.Vi
