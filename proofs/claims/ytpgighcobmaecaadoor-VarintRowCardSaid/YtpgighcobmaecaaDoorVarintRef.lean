/- The functions of the reference of layer 11 by contracts. -/
import Derived.Test.YtpgighcobmaecaaDoorVarint
set_option linter.unusedVariables false
set_option linter.unusedSimpArgs false
namespace Go.Proofs.YtpgighcobmaecaaDoor.Vi
open Go.RowKit Go.Proofs.YtpgighcobmaecaaDoorW.PrintWords Go.Proofs.YtpgighcobmaecaaDoorW.PrintLast

theorem byte_low (v j : Nat) : ((UInt8.ofNat (v / 256 ^ j)).toNat : Int) = ((v / 256 ^ j : Nat) : Int) % 256 := by
  rw [UInt8.toNat_ofNat']
  rfl
set_option maxRecDepth 100000 in
set_option maxHeartbeats 2000000 in
theorem rPut_v (A : Option Addr) (c n : Nat) (l : List UInt8) (v : Nat) (w : World) (hn : l.length = n) (hr : Kb.C w A n l) (hl : n ≤ 140737488000000) (hv : Aside0 (v < 18446744073709551616)) (z : List UInt8) (hz : Aside0 (z = l ++ enc v)) :
    Calls Tryd.prog 12 #[.slice A n c, .int .u64 (v : Int)] w (RetBs w z) := by
  have HR := Aside0.mk hr
  by_cases h : v < 248
  · have hz2 := Aside0.mk (show z = l ++ [UInt8.ofNat v] by rw [hz.out]; unfold enc; rw [if_pos h])
    have hb := Aside0.mk (show (v : Int) = ((UInt8.ofNat v).toNat : Int) by rw [UInt8.toNat_ofNat']; omega)
    have HL := Aside0.mk hn
    clear hr hz hn
    go_enter Tryd.func12, Tryd.ntmps12
    go_wp2_with (first
      | (at_builtin; refine app_bs (w0 := w) w.heap.size rfl (.tmp 8) (.tmp 9) rfl _ [] l _ _ _ rfl rfl (Bs.nil _ _) HR.out (Below.refl _ _) (Nat.le_refl _) (by simp only [List.length_nil]; omega) ?_; intro z1 A1 c1 w1 hz1 hB1 hb1 hs1 hg1; have hl1 := (show z1.length ≤ 140737488000000 by rw [hz1.out, List.nil_append, HL.out]; exact hl))
      | (at_builtin; refine app_bs (w0 := w) w.heap.size rfl (.tmp 13) (.tmp 16) rfl _ z1 [UInt8.ofNat v] _ _ _ rfl rfl (hB1.out.alloc _) (Bs.read (Bs.one w1 w.heap.size _ rfl hb1.out.size _ _ hb.out)).1 (hb1.out.alloc hb1.out.size _) (by simp; have := hb1.out.size; omega) (by omega) ?_; intro z2 A2 c2 w2 hz3 hB2 hb2 hs2 hg2))
    go_ret
    obtain rfl : z2 = z := by rw [hz3.out, hz1.out, hz2.out]; rfl
    exact ⟨A2, c2, rfl, hB2.out, hb2.out⟩
  · obtain ⟨m, hm⟩ : ∃ m, m = need0 v := ⟨_, rfl⟩
    have hm8 : m ≤ 8 := by
      rw [hm]
      exact need0_le hv.out
    have hz2 := Aside0.mk (show z = (l ++ [UInt8.ofNat (247 + m)]) ++ be v m by rw [hz.out]; unfold enc; rw [if_neg h, ← hm]; simp)
    have hb := Aside0.mk (show (247 : Int) + (m : Int) = ((UInt8.ofNat (247 + m)).toNat : Int) by rw [UInt8.toNat_ofNat']; omega)
    have HL := Aside0.mk hn
    have HM := Aside0.mk hm
    clear hr hz hn hm
    go_enter Tryd.func12, Tryd.ntmps12
    go_wp2_with (first
      | (at_builtin; refine app_bs (w0 := w) w.heap.size rfl (.tmp 8) (.tmp 9) rfl _ [] l _ _ _ rfl rfl (Bs.nil _ _) HR.out (Below.refl _ _) (Nat.le_refl _) (by simp only [List.length_nil]; omega) ?_; intro z1 A1 c1 w1 hz1 hB1 hb1 hs1 hg1; have hl1 := (show z1.length ≤ 140737488000000 by rw [hz1.out, List.nil_append, HL.out]; exact hl)))
    go_loopw [6, 7] (fun o x wr => ∃ (k u : Nat) (d : List UInt8) (A3 : Option Addr) (c3 : Nat), k ≤ 8 ∧ x = .int .u64 (u : Int) ∧ o = .slice A3 d.length c3 ∧ Aside0 (u = v / 256 ^ k) ∧ Aside0 (d = be v k) ∧ Aside0 (m = k + need0 u) ∧ Aside0 (Bs wr w1.heap.size (.slice A3 d.length c3) d) ∧ Aside0 (Below w1.heap.size w1 wr)) (fun _ x _ => (intOf x).toNat)
    case atStart => exact ⟨0, v, [], none, 0, by omega, rfl, rfl, ⟨by simp⟩, ⟨rfl⟩, ⟨by rw [HM.out]; omega⟩, ⟨Bs.nil _ _⟩, ⟨Below.refl _ _⟩⟩
    case round =>
      obtain ⟨k, u, d, A3, c3, hk8, rfl, rfl, hu, hd, HK, hB, hBel⟩ := hrel
      by_cases hu0 : 0 < u
      · have hk9 : k + 1 ≤ 8 := by
          have h1 := HK.out
          rw [need0_pos hu0] at h1
          omega
        have hdl : d.length ≤ 8 := by rw [hd.out, be_length]; exact hk8
        have hby := Aside0.mk (show (u : Int) % 256 = ((UInt8.ofNat (v / 256 ^ k)).toNat : Int) by rw [byte_low, ← hu.out])
        have hw := Aside0.mk (show IntKind.u64.wrap ((u : Int) / 256) = ((u / 256 : Nat) : Int) by
          have h1 := hv.out
          have h2 : u ≤ v := by rw [hu.out]; exact Nat.div_le_self _ _
          rw [IntKind.wrap_u64]
          omega)
        have hu2 := Aside0.mk (show u / 256 = v / 256 ^ (k + 1) by rw [hu.out, Nat.div_div_eq_div_mul, Nat.pow_succ])
        go_wp2_with (at_builtin; refine app_bs (w0 := w1) w1.heap.size rfl (.tmp 26) (.tmp 27) rfl _ [UInt8.ofNat (v / 256 ^ k)] d _ _ _ rfl rfl (Bs.one wr w1.heap.size _ rfl hBel.out.size _ _ hby.out) (Kd.C_alloc (Bs.read hB.out).1 _) (hBel.out.alloc hBel.out.size _) (by simp; have := hBel.out.size; omega) (by simp only [List.length_singleton]; omega) ?_; intro z5 A5 c5 w5 hz5 hB5 hb5 hs5 hg5)
        go_roundw
        case rel => exact ⟨k + 1, u / 256, z5, A5, c5, by omega, int_val hw.out, rfl, hu2, ⟨by rw [hz5.out, hd.out]; rfl⟩, ⟨by rw [HK.out, need0_pos hu0]; omega⟩, hB5, hb5⟩
        case measure => simp only [intOf]; rw [hw.out]; omega
      · obtain rfl : u = 0 := by omega
        have hkm := Aside0.mk (show k = m by rw [HK.out, need0_zero]; rfl)
        have hdl := Aside0.mk (show d.length = m by rw [hd.out, be_length, hkm.out])
        have hdl8 : d.length ≤ 8 := by rw [hdl.out]; exact hm8
        have hb2 := Aside0.mk (show (247 : Int) + (d.length : Int) = ((UInt8.ofNat (247 + m)).toNat : Int) by rw [hdl.out]; exact hb.out)
        have hBel0 := Aside0.mk (hb1.out.trans (hBel.out.mono hs1.out))
        have hB1' := Aside0.mk (hB1.out.below hBel.out)
        go_wp2_with (first
          | (at_builtin; refine app_bs (w0 := w) w.heap.size rfl (.tmp 29) (.tmp 34) rfl _ z1 [UInt8.ofNat (247 + m)] _ _ _ rfl rfl (hB1'.out.alloc _) (Bs.read (Bs.one wr w.heap.size _ rfl hBel0.out.size _ _ hb2.out)).1 (hBel0.out.alloc hBel0.out.size _) (by simp; have := hBel0.out.size; omega) (by omega) ?_; intro z6 A6 c6 w6 hz6 hB6 hb6 hs6 hg6; have hd6 := Aside0.mk ((hB.out.alloc _).grown hg6.out (fun k hk => hB1.out.own_lt k hk)); have hl6 := (show z6.length ≤ 140737488000001 by rw [hz6.out]; simp; omega))
          | (at_builtin; refine app_bs (w0 := w) w.heap.size rfl (.tmp 36) (.tmp 37) rfl _ z6 d _ _ _ rfl rfl hB6.out (Bs.read hd6.out).1 hb6.out hs6.out (by omega) ?_; intro z7 A7 c7 w7 hz7 hB7 hb7 hs7 hg7))
        go_ret
        obtain rfl : z7 = z := by rw [hz7.out, hz6.out, hz1.out, hz2.out, hd.out, hkm.out]; rfl
        exact ⟨A7, c7, rfl, hB7.out, hb7.out⟩

abbrev RotV (o : Option (Nat × Nat)) : Value := .tuple #[.int .u64 (gv o : Int), .int .i64 (gn o : Int), .int .i64 (errN (ge o))]
theorem muladd64 (v : Nat) (c : UInt8) (h : v < 72057594037927936) : ((256 : Int) * (v : Int) % 18446744073709551616 + (c.toNat : Int) % 18446744073709551616) % 18446744073709551616 = ((v * 256 + c.toNat : Nat) : Int) := by
  have hc := c.toNat_lt
  omega
def f9_r13.T13 : Bool × List (List Nat × List Nat) := (true, [([], []), ([0], [0]), ([1], [1]), ([], []), ([], []), ([3, 4], [3, 4]), ([5], [5]), ([2, 6], [2, 6])])
def f9_r13.B13 : List Nat := [0, 1, 3, 0, 0, 24, 56, 127]
theorem f9_r13.tab13 : Go.Proofs.YtpgighcobmaecaaDoorW.PrintLast.rtab .any (Go.Proofs.YtpgighcobmaecaaDoorW.PrintLast.opsOf Tryd.f9 13) = f9_r13.T13 := by kernel_rfl
theorem f9_r13.bits13 : Go.Proofs.YtpgighcobmaecaaDoorW.PrintLast.waitsOk f9_r13.T13.2 f9_r13.B13 = true := by kernel_rfl
set_option maxRecDepth 100000 in
set_option maxHeartbeats 2000000 in
theorem rGet_v (A : Option Addr) (c n : Nat) (l : List UInt8) (w : World) (hn : l.length = n) (hr : Kb.C w A n l) (hl : n ≤ 140737488000000) (hc : n ≤ c) (o : Option (Nat × Nat)) (ho : Aside0 (o = getS l)) :
    Calls Tryd.prog 9 #[.slice A n c] w fun e w' => e = .returned (RotV o) ∧ Below w.heap.size w w' := by
  match l, hn with
  | [], hn =>
    subst hn
    obtain rfl : o = none := by rw [ho.out]; rfl
    go_enter Tryd.func9, Tryd.ntmps9
    go_wp2
    go_ret3
    exact ⟨rfl, Below.refl _ _⟩
  | b :: r, hn =>
    have hb := b.toNat_lt
    obtain ⟨m, hm⟩ : ∃ m, n = m + 1 := ⟨r.length, by rw [← hn]; rfl⟩
    subst hm
    have hrl := Aside0.mk (show r.length = m by simpa using hn)
    obtain ⟨ad, rfl, hx0⟩ := at_b0 hr (by omega)
    have hx0 : w.cell? ad = some (.int .u8 (b.toNat : Int)) := hx0
    have hne : ((m : Int) + 1 == 0) = false := by rw [beq_eq_false_iff_ne]; omega
    by_cases h1 : b.toNat < 248
    · obtain ⟨v, hv⟩ : ∃ v, v = b.toNat := ⟨_, rfl⟩
      obtain rfl : o = some (v, 1) := by rw [ho.out, getS_small b r h1, hv]
      obtain ⟨hcut, hrd⟩ := cut_hi' (some ad) c hn 1 1 rfl (by omega) hc
      obtain ⟨q1, hq1⟩ : ∃ q, q = (b :: r).take 1 := ⟨_, rfl⟩
      rw [← hq1] at hrd
      have hd : decide ((248 : Int) ≤ (b.toNat : Int)) = false := decide_eq_false (by omega)
      obtain ⟨z, hz⟩ : ∃ z, z = enc v := ⟨_, rfl⟩
      have HP := Aside0.mk (rPut_v none 0 0 [] v w.drew rfl (Kd.C_of_reads (d := (0 : UInt8)) ⟨rfl, by decide, fun h => absurd h (by decide)⟩) (by decide) ⟨by omega⟩ z ⟨hz⟩)
      have HR1 := Aside0.mk (show Kb.C w.drew (some ad) 1 q1 from hrd w hr)
      have hs0 := Aside0.mk (show (convert 22 9 (.slice (some ad) 1 c)).run Tryd.prog w.drew = .ok (.string (strOf q1)) w.drew from str_of HR1.out)
      have hne2 := seq_true (show z = q1 by rw [hz, hv, enc_small b h1, hq1]; rfl)
      have HB := Aside0.mk (Below.drew (Below.refl w.heap.size w))
      have hvb := Aside0.mk (show (b.toNat : Int) = (v : Int) by rw [hv])
      clear hn hr ho hrd hz hq1 hv
      go_enter Tryd.func9, Tryd.ntmps9
      go_wp2
      rw [hvb.out]
      refine start_ (n := 8) (S := fun w' => (convert 22 9 (.slice (some ad) 1 c)).run Tryd.prog w' = .ok (.string (strOf q1)) w') (ds := []) #[false, false, false, false, false, false, false, false] (by kernel_rfl) rfl rfl (hs0.out) (fun hHeld => ?_)
      refine with_tabW f9_r13.tab13 f9_r13.bits13 (fun HT_ HW_ => ?_)
      generalize w.drew = w1 at HP hs0 HR1 HB hHeld ⊢
      refine pure_ (i := 0) (N := some 41) (v := ?_) (a' := ?_) #[true, false, false, false, false, false, false, false] rfl rfl (any_of HT_.out (by kernel_rfl)) (fun _ _ _ h => h) (Or.inl ⟨by rfl, ?_⟩) ?_ ?_
      rotate_left
      · intro w'
        go_simp
        with_reducible rfl
      rotate_left
      · simp only [Act.put, List.setIfInBounds_toArray, List.set_cons_zero, List.set_cons_succ, i64_w, i32_w]
        rfl
      refine pure_ (i := 3) (N := some 44) (v := ?_) (a' := ?_) #[true, false, false, true, false, false, false, false] rfl rfl (any_of HT_.out (by kernel_rfl)) (fun _ _ _ h => h) (Or.inl ⟨by rfl, ?_⟩) ?_ ?_
      rotate_left
      · intro w'
        go_simp
        with_reducible rfl
      rotate_left
      · simp only [Act.put, List.setIfInBounds_toArray, List.set_cons_zero, List.set_cons_succ, i64_w, i32_w]
        rfl
      refine pure_ (i := 4) (N := some 45) (v := ?_) (a' := ?_) #[true, false, false, true, true, false, false, false] rfl rfl (any_of HT_.out (by kernel_rfl)) (fun _ _ _ h => h) (Or.inl ⟨by rfl, ?_⟩) ?_ ?_
      rotate_left
      · intro w'
        go_simp
        with_reducible rfl
      rotate_left
      · simp only [Act.put, List.setIfInBounds_toArray, List.set_cons_zero, List.set_cons_succ, i64_w, i32_w]
        rfl
      refine pure_ (i := 5) (N := some 46) (v := ?_) (a' := ?_) #[true, false, false, true, true, true, false, false] rfl rfl (any_of HT_.out (by kernel_rfl)) (fun _ _ _ h => h) (Or.inl ⟨by rfl, ?_⟩) ?_ ?_
      rotate_left
      · intro w'
        go_simp
        with_reducible rfl
      rotate_left
      · simp only [Act.put, List.setIfInBounds_toArray, List.set_cons_zero, List.set_cons_succ, i64_w, i32_w]
        rfl
      refine take_ (i := 6) (N := some 47) (v := ?_) (a' := ?_) #[true, false, false, true, true, true, true, false] rfl rfl (take_ofW HT_.out HW_.out (by kernel_rfl)) (fun _ _ _ h => h) (Or.inl ⟨by rfl, ?_⟩) hHeld ?_ ?_
      rotate_left
      · intro w' s0
        go_simp
        with_reducible rfl
      rotate_left
      · simp only [Act.put, List.setIfInBounds_toArray, List.set_cons_zero, List.set_cons_succ, i64_w, i32_w]
        rfl
      refine one_ (i := 1) (N := some 42) #[true, true, false, true, true, true, true, false] rfl rfl (one_of HT_.out (by kernel_rfl)) (by decide) (fun K hK => ?_)
      refine goes_ Tryd.func12 (by kernel_rfl) rfl #[.slice none 0 0, .int .u64 (v : Int)] (by rfl) rfl rfl (by (try simp only [List.map_toArray, List.map_cons, List.map_nil]); first | done | rfl) ?_
      with_reducible refine (HP.out).mono ?_
      rintro e w2 ⟨A2, c2, rfl, hB2, hb2⟩
      refine ⟨_, rfl, ?_⟩
      have hcv := str_of (c := c2) (Bs.read hB2).1
      have HB2 := Aside0.mk (below_step HB.out hb2)
      refine hK.out _ _ ((str_of (Kd.C_below HR1.out hb2))) (fun hHeld => ?_)
      clear hK K
      refine norm_ (a' := ?_) ?_ ?_
      rotate_left
      · show Act.put _ (some 42) _ = _
        simp only [Act.put, List.setIfInBounds_toArray, List.set_cons_zero, List.set_cons_succ, i64_w, i32_w]
        rfl
      refine one_ (i := 2) (N := some 43) #[true, true, true, true, true, true, true, false] rfl rfl (one_of HT_.out (by kernel_rfl)) (by decide) (fun K hK => ?_)
      refine value_ (w1 := ?_) (v := ?_) (by rfl) rfl ?_ ?_
      rotate_left 2
      · go_simp
        constructor
        · rfl
        · rfl
      refine hK.out _ _ ((str_of (Kd.C_below HR1.out hb2))) (fun hHeld => ?_)
      clear hK K
      refine norm_ (a' := ?_) ?_ ?_
      rotate_left
      · show Act.put _ (some 43) _ = _
        simp only [Act.put, List.setIfInBounds_toArray, List.set_cons_zero, List.set_cons_succ, i64_w, i32_w]
        rfl
      refine pure_ (i := 7) (N := some 48) (v := ?_) (a' := ?_) #[true, true, true, true, true, true, true, true] rfl rfl (any_of HT_.out (by kernel_rfl)) (fun _ _ _ h => h) (Or.inl ⟨by rfl, ?_⟩) ?_ ?_
      rotate_left
      · intro w'
        go_simp
        with_reducible rfl
      rotate_left
      · simp only [Act.put, List.setIfInBounds_toArray, List.set_cons_zero, List.set_cons_succ, i64_w, i32_w]
        rfl
      refine done_ (done_of HT_.out (by kernel_rfl)) ?_
      go_wp2
      go_ret3
      exact ⟨rfl, HB2.out⟩
    · obtain ⟨k, hk⟩ : ∃ k, k = b.toNat - 247 := ⟨_, rfl⟩
      have hk8 : k ≤ 8 := by omega
      have hk1 : 1 ≤ k := by omega
      have hbk : ((b.toNat : Int) - 246) = (k : Int) + 1 := by omega
      have hd : decide ((248 : Int) ≤ (b.toNat : Int)) = true := decide_eq_true (by omega)
      by_cases h2 : m < k
      · obtain rfl : o = none := by rw [ho.out, getS_bad b r h1 (.inl (by rw [hrl.out, ← hk]; exact h2))]
        have hd3 : decide ((m : Int) + 1 < (k : Int) + 1) = true := decide_eq_true (by omega)
        clear hn hr ho
        go_enter Tryd.func9, Tryd.ntmps9
        go_wp2
        go_ret3
        exact ⟨rfl, Below.refl _ _⟩
      · have hd3 : decide ((m : Int) + 1 < (k : Int) + 1) = false := decide_eq_false (by omega)
        obtain ⟨q, hq⟩ : ∃ q, q = r.take k := ⟨_, rfl⟩
        have hql := Aside0.mk (show q.length = k by rw [hq, List.length_take, hrl.out]; omega)
        have hst := Aside0.mk (fun j h => foldl_take (fun (v : Nat) (c : UInt8) => v * 256 + c.toNat) 0 q 0 j h)
        have HX := Aside0.mk (fun j (hj : j < k) => show ∃ ad', some ad = some ad' ∧ w.cell? ⟨ad'.block, ad'.off + (j + 1), none⟩ = some (.int .u8 ((q.getD j 0).toNat : Int)) from by
          obtain ⟨ad', e, h⟩ := at_bc hr (j + 1) (by omega) (by omega)
          refine ⟨ad', e, ?_⟩
          rw [h, hq]
          simp [List.getD_eq_getElem?_getD, hj])
        obtain ⟨hcut, hrd⟩ := cut_hi' (some ad) c hn ((k : Int) + 1) (k + 1) (by omega) (by omega) hc
        obtain ⟨q1, hq1⟩ : ∃ q, q = (b :: r).take (k + 1) := ⟨_, rfl⟩
        rw [← hq1] at hrd
        have hq2 := Aside0.mk (show q1 = b :: q by rw [hq1, hq, List.take_succ_cons])
        have HR1 := Aside0.mk (show Kb.C w.drew (some ad) (k + 1) q1 from hrd w hr)
        have HO := Aside0.mk (fun v (hv : v = val q) => getS_ref b r h1 (by rw [hrl.out, ← hk]; exact h2) v q (by rw [hq, hk]) hv)
        have hko := Aside0.mk (show b.toNat - 247 = k from hk.symm)
        have HO2 := Aside0.mk (show o = getS (b :: r) from ho.out)
        clear hn hr ho hrd hq hq1 hk
        go_enter Tryd.func9, Tryd.ntmps9
        go_wp2
        go_loop [5, 7] (fun x i => ∃ (j v : Nat), j ≤ k ∧ i = .int .i64 ((j : Int) + 1) ∧ x = .int .u64 (v : Int) ∧ Aside0 (v = val (q.take j))) (fun _ i => k + 1 - (intOf i).toNat)
        case atStart => exact ⟨0, 0, by omega, by go_num, rfl, ⟨rfl⟩⟩
        case round =>
          obtain ⟨j, v, hj, rfl, rfl, HVJ⟩ := hrel
          by_cases hjk : j < k
          · obtain ⟨ad2, e2, hx2⟩ := HX.out j hjk
            cases e2
            obtain ⟨x, hx3⟩ : ∃ x, x = q.getD j 0 := ⟨_, rfl⟩
            rw [← hx3] at hx2
            replace hx3 := Aside0.mk hx3
            have hor := Aside0.mk (muladd64 v x (by
              have h5 := val_lt (q.take j)
              rw [List.length_take, hql.out, Nat.min_eq_left (by omega), ← HVJ.out] at h5
              have h6 := Nat.pow_le_pow_right (n := 256) (by decide) (show j ≤ 7 by omega)
              have e : (256 : Nat) ^ 7 = 72057594037927936 := by decide
              omega))
            go_wp2
            go_round
            case rel => exact ⟨j + 1, v * 256 + x.toNat, by omega, by go_num, int_val hor.out, ⟨by rw [HVJ.out, hx3.out]; exact (hst.out j (by rw [hql.out]; exact hjk)).symm⟩⟩
            case measure => simp [intOf]; omega
          · have hvv := Aside0.mk (show v = val q by rw [HVJ.out, List.take_of_length_le (by rw [hql.out]; omega)])
            have hv64 := Aside0.mk (show v < 18446744073709551616 by rw [hvv.out]; exact val_lt64 q (by rw [hql.out]; exact hk8))
            obtain ⟨z, hz⟩ : ∃ z, z = enc v := ⟨_, rfl⟩
            have HP := Aside0.mk (rPut_v none 0 0 [] v w.drew rfl (Kd.C_of_reads (d := (0 : UInt8)) ⟨rfl, by decide, fun h => absurd h (by decide)⟩) (by decide) hv64 z ⟨hz⟩)
            have hs0 := Aside0.mk (show (convert 22 9 (.slice (some ad) (k + 1) c)).run Tryd.prog w.drew = .ok (.string (strOf q1)) w.drew from str_of HR1.out)
            have HB := Aside0.mk (Below.drew (Below.refl w.heap.size w))
            have hOv := HO.out v hvv.out
            by_cases he : z = q1
            · have hne2 := seq_true he
              obtain rfl : o = some (v, k + 1) := by rw [HO2.out, hOv, if_pos (by rw [← hz, he, hq2.out]), hko.out, Nat.add_comm]
              clear hz he hOv
              go_wp2
              refine start_ (n := 8) (S := fun w' => (convert 22 9 (.slice (some ad) (k + 1) c)).run Tryd.prog w' = .ok (.string (strOf q1)) w') (ds := []) #[false, false, false, false, false, false, false, false] (by kernel_rfl) rfl rfl (hs0.out) (fun hHeld => ?_)
              refine with_tabW f9_r13.tab13 f9_r13.bits13 (fun HT_ HW_ => ?_)
              generalize w.drew = w1 at HP hs0 HR1 HB hHeld ⊢
              refine pure_ (i := 0) (N := some 41) (v := ?_) (a' := ?_) #[true, false, false, false, false, false, false, false] rfl rfl (any_of HT_.out (by kernel_rfl)) (fun _ _ _ h => h) (Or.inl ⟨by rfl, ?_⟩) ?_ ?_
              rotate_left
              · intro w'
                go_simp
                with_reducible rfl
              rotate_left
              · simp only [Act.put, List.setIfInBounds_toArray, List.set_cons_zero, List.set_cons_succ, i64_w, i32_w]
                rfl
              refine pure_ (i := 3) (N := some 44) (v := ?_) (a' := ?_) #[true, false, false, true, false, false, false, false] rfl rfl (any_of HT_.out (by kernel_rfl)) (fun _ _ _ h => h) (Or.inl ⟨by rfl, ?_⟩) ?_ ?_
              rotate_left
              · intro w'
                go_simp
                with_reducible rfl
              rotate_left
              · simp only [Act.put, List.setIfInBounds_toArray, List.set_cons_zero, List.set_cons_succ, i64_w, i32_w]
                rfl
              refine pure_ (i := 4) (N := some 45) (v := ?_) (a' := ?_) #[true, false, false, true, true, false, false, false] rfl rfl (any_of HT_.out (by kernel_rfl)) (fun _ _ _ h => h) (Or.inl ⟨by rfl, ?_⟩) ?_ ?_
              rotate_left
              · intro w'
                go_simp
                with_reducible rfl
              rotate_left
              · simp only [Act.put, List.setIfInBounds_toArray, List.set_cons_zero, List.set_cons_succ, i64_w, i32_w]
                rfl
              refine pure_ (i := 5) (N := some 46) (v := ?_) (a' := ?_) #[true, false, false, true, true, true, false, false] rfl rfl (any_of HT_.out (by kernel_rfl)) (fun _ _ _ h => h) (Or.inl ⟨by rfl, ?_⟩) ?_ ?_
              rotate_left
              · intro w'
                go_simp
                with_reducible rfl
              rotate_left
              · simp only [Act.put, List.setIfInBounds_toArray, List.set_cons_zero, List.set_cons_succ, i64_w, i32_w]
                rfl
              refine take_ (i := 6) (N := some 47) (v := ?_) (a' := ?_) #[true, false, false, true, true, true, true, false] rfl rfl (take_ofW HT_.out HW_.out (by kernel_rfl)) (fun _ _ _ h => h) (Or.inl ⟨by rfl, ?_⟩) hHeld ?_ ?_
              rotate_left
              · intro w' s0
                go_simp
                with_reducible rfl
              rotate_left
              · simp only [Act.put, List.setIfInBounds_toArray, List.set_cons_zero, List.set_cons_succ, i64_w, i32_w]
                rfl
              refine one_ (i := 1) (N := some 42) #[true, true, false, true, true, true, true, false] rfl rfl (one_of HT_.out (by kernel_rfl)) (by decide) (fun K hK => ?_)
              refine goes_ Tryd.func12 (by kernel_rfl) rfl #[.slice none 0 0, .int .u64 (v : Int)] (by rfl) rfl rfl (by (try simp only [List.map_toArray, List.map_cons, List.map_nil]); first | done | rfl) ?_
              with_reducible refine (HP.out).mono ?_
              rintro e w2 ⟨A2, c2, rfl, hB2, hb2⟩
              refine ⟨_, rfl, ?_⟩
              have hcv := str_of (c := c2) (Bs.read hB2).1
              have HB2 := Aside0.mk (below_step HB.out hb2)
              refine hK.out _ _ ((str_of (Kd.C_below HR1.out hb2))) (fun hHeld => ?_)
              clear hK K
              refine norm_ (a' := ?_) ?_ ?_
              rotate_left
              · show Act.put _ (some 42) _ = _
                simp only [Act.put, List.setIfInBounds_toArray, List.set_cons_zero, List.set_cons_succ, i64_w, i32_w]
                rfl
              refine one_ (i := 2) (N := some 43) #[true, true, true, true, true, true, true, false] rfl rfl (one_of HT_.out (by kernel_rfl)) (by decide) (fun K hK => ?_)
              refine value_ (w1 := ?_) (v := ?_) (by rfl) rfl ?_ ?_
              rotate_left 2
              · go_simp
                constructor
                · rfl
                · rfl
              refine hK.out _ _ ((str_of (Kd.C_below HR1.out hb2))) (fun hHeld => ?_)
              clear hK K
              refine norm_ (a' := ?_) ?_ ?_
              rotate_left
              · show Act.put _ (some 43) _ = _
                simp only [Act.put, List.setIfInBounds_toArray, List.set_cons_zero, List.set_cons_succ, i64_w, i32_w]
                rfl
              refine pure_ (i := 7) (N := some 48) (v := ?_) (a' := ?_) #[true, true, true, true, true, true, true, true] rfl rfl (any_of HT_.out (by kernel_rfl)) (fun _ _ _ h => h) (Or.inl ⟨by rfl, ?_⟩) ?_ ?_
              rotate_left
              · intro w'
                go_simp
                with_reducible rfl
              rotate_left
              · simp only [Act.put, List.setIfInBounds_toArray, List.set_cons_zero, List.set_cons_succ, i64_w, i32_w]
                rfl
              refine done_ (done_of HT_.out (by kernel_rfl)) ?_
              go_wp2
              go_ret3
              exact ⟨rfl, HB2.out⟩
            · have hne2 := seq_false he
              obtain rfl : o = none := by rw [HO2.out, hOv, if_neg (by rw [← hz, ← hq2.out]; exact he)]
              clear hz he hOv
              go_wp2
              refine start_ (n := 8) (S := fun w' => (convert 22 9 (.slice (some ad) (k + 1) c)).run Tryd.prog w' = .ok (.string (strOf q1)) w') (ds := []) #[false, false, false, false, false, false, false, false] (by kernel_rfl) rfl rfl (hs0.out) (fun hHeld => ?_)
              refine with_tabW f9_r13.tab13 f9_r13.bits13 (fun HT_ HW_ => ?_)
              generalize w.drew = w1 at HP hs0 HR1 HB hHeld ⊢
              refine pure_ (i := 0) (N := some 41) (v := ?_) (a' := ?_) #[true, false, false, false, false, false, false, false] rfl rfl (any_of HT_.out (by kernel_rfl)) (fun _ _ _ h => h) (Or.inl ⟨by rfl, ?_⟩) ?_ ?_
              rotate_left
              · intro w'
                go_simp
                with_reducible rfl
              rotate_left
              · simp only [Act.put, List.setIfInBounds_toArray, List.set_cons_zero, List.set_cons_succ, i64_w, i32_w]
                rfl
              refine pure_ (i := 3) (N := some 44) (v := ?_) (a' := ?_) #[true, false, false, true, false, false, false, false] rfl rfl (any_of HT_.out (by kernel_rfl)) (fun _ _ _ h => h) (Or.inl ⟨by rfl, ?_⟩) ?_ ?_
              rotate_left
              · intro w'
                go_simp
                with_reducible rfl
              rotate_left
              · simp only [Act.put, List.setIfInBounds_toArray, List.set_cons_zero, List.set_cons_succ, i64_w, i32_w]
                rfl
              refine pure_ (i := 4) (N := some 45) (v := ?_) (a' := ?_) #[true, false, false, true, true, false, false, false] rfl rfl (any_of HT_.out (by kernel_rfl)) (fun _ _ _ h => h) (Or.inl ⟨by rfl, ?_⟩) ?_ ?_
              rotate_left
              · intro w'
                go_simp
                with_reducible rfl
              rotate_left
              · simp only [Act.put, List.setIfInBounds_toArray, List.set_cons_zero, List.set_cons_succ, i64_w, i32_w]
                rfl
              refine pure_ (i := 5) (N := some 46) (v := ?_) (a' := ?_) #[true, false, false, true, true, true, false, false] rfl rfl (any_of HT_.out (by kernel_rfl)) (fun _ _ _ h => h) (Or.inl ⟨by rfl, ?_⟩) ?_ ?_
              rotate_left
              · intro w'
                go_simp
                with_reducible rfl
              rotate_left
              · simp only [Act.put, List.setIfInBounds_toArray, List.set_cons_zero, List.set_cons_succ, i64_w, i32_w]
                rfl
              refine take_ (i := 6) (N := some 47) (v := ?_) (a' := ?_) #[true, false, false, true, true, true, true, false] rfl rfl (take_ofW HT_.out HW_.out (by kernel_rfl)) (fun _ _ _ h => h) (Or.inl ⟨by rfl, ?_⟩) hHeld ?_ ?_
              rotate_left
              · intro w' s0
                go_simp
                with_reducible rfl
              rotate_left
              · simp only [Act.put, List.setIfInBounds_toArray, List.set_cons_zero, List.set_cons_succ, i64_w, i32_w]
                rfl
              refine one_ (i := 1) (N := some 42) #[true, true, false, true, true, true, true, false] rfl rfl (one_of HT_.out (by kernel_rfl)) (by decide) (fun K hK => ?_)
              refine goes_ Tryd.func12 (by kernel_rfl) rfl #[.slice none 0 0, .int .u64 (v : Int)] (by rfl) rfl rfl (by (try simp only [List.map_toArray, List.map_cons, List.map_nil]); first | done | rfl) ?_
              with_reducible refine (HP.out).mono ?_
              rintro e w2 ⟨A2, c2, rfl, hB2, hb2⟩
              refine ⟨_, rfl, ?_⟩
              have hcv := str_of (c := c2) (Bs.read hB2).1
              have HB2 := Aside0.mk (below_step HB.out hb2)
              refine hK.out _ _ ((str_of (Kd.C_below HR1.out hb2))) (fun hHeld => ?_)
              clear hK K
              refine norm_ (a' := ?_) ?_ ?_
              rotate_left
              · show Act.put _ (some 42) _ = _
                simp only [Act.put, List.setIfInBounds_toArray, List.set_cons_zero, List.set_cons_succ, i64_w, i32_w]
                rfl
              refine one_ (i := 2) (N := some 43) #[true, true, true, true, true, true, true, false] rfl rfl (one_of HT_.out (by kernel_rfl)) (by decide) (fun K hK => ?_)
              refine value_ (w1 := ?_) (v := ?_) (by rfl) rfl ?_ ?_
              rotate_left 2
              · go_simp
                constructor
                · rfl
                · rfl
              refine hK.out _ _ ((str_of (Kd.C_below HR1.out hb2))) (fun hHeld => ?_)
              clear hK K
              refine norm_ (a' := ?_) ?_ ?_
              rotate_left
              · show Act.put _ (some 43) _ = _
                simp only [Act.put, List.setIfInBounds_toArray, List.set_cons_zero, List.set_cons_succ, i64_w, i32_w]
                rfl
              refine pure_ (i := 7) (N := some 48) (v := ?_) (a' := ?_) #[true, true, true, true, true, true, true, true] rfl rfl (any_of HT_.out (by kernel_rfl)) (fun _ _ _ h => h) (Or.inl ⟨by rfl, ?_⟩) ?_ ?_
              rotate_left
              · intro w'
                go_simp
                with_reducible rfl
              rotate_left
              · simp only [Act.put, List.setIfInBounds_toArray, List.set_cons_zero, List.set_cons_succ, i64_w, i32_w]
                rfl
              refine done_ (done_of HT_.out (by kernel_rfl)) ?_
              go_wp2
              go_ret3
              exact ⟨rfl, HB2.out⟩

/-! ### as callers want them: there is a number, or there is none -/
section
variable (A : Option Addr) (c n : Nat) (l : List UInt8) (w : World) (hn : l.length = n) (hr : Kb.C w A n l) (hl : n ≤ 140737488000000) (hc : n ≤ c)
include hn hr hl hc
theorem Get_ok (v k : Nat) (ho : some (v, k) = getS l) :
    Calls Tryd.prog 8 #[.slice A n c] w fun e w' => e = .returned (.tuple #[.int .u64 (v : Int), .int .i64 (k : Int), .nilIface]) ∧ w = w' :=
  Get_v A c n l w hn hr (by omega) hc _ ⟨ho⟩
theorem Get_bad (ho : none = getS l) :
    Calls Tryd.prog 8 #[.slice A n c] w fun e w' => e = .returned (.tuple #[.int .u64 0, .int .i64 0, .iface 49 (.int .i64 3)]) ∧ w = w' :=
  Get_v A c n l w hn hr (by omega) hc _ ⟨ho⟩
theorem rGet_ok (v k : Nat) (ho : some (v, k) = getS l) :
    Calls Tryd.prog 9 #[.slice A n c] w fun e w' => e = .returned (.tuple #[.int .u64 (v : Int), .int .i64 (k : Int), .int .i64 0]) ∧ Below w.heap.size w w' :=
  rGet_v A c n l w hn hr hl hc _ ⟨ho⟩
theorem rGet_bad (ho : none = getS l) :
    Calls Tryd.prog 9 #[.slice A n c] w fun e w' => e = .returned (.tuple #[.int .u64 0, .int .i64 0, .int .i64 3]) ∧ Below w.heap.size w w' :=
  rGet_v A c n l w hn hr hl hc _ ⟨ho⟩
end
theorem nil_read (w : World) : Kb.C w none 0 [] := Kd.C_of_reads (d := (0 : UInt8)) ⟨rfl, by decide, fun h => absurd h (by decide)⟩
end Go.Proofs.YtpgighcobmaecaaDoor.Vi
