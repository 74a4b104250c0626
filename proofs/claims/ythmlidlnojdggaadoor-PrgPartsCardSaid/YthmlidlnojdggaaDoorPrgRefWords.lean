/- The document's layer 7 by contracts: Words. -/
import Derived.Test.YthmlidlnojdggaaDoorPrgRefNum
set_option linter.unusedVariables false
set_option linter.unusedSimpArgs false
namespace Go.Proofs.YthmlidlnojdggaaDoor.Prg
open Go.RowKit Go.Proofs.YthmlidlnojdggaaDoorW.PrintWords Go.Proofs.YthmlidlnojdggaaDoorW.PrintLast Go.Proofs.YthmlidlnojdggaaDoor.Sha Go.Proofs.YthmlidlnojdggaaDoor.Mac

def allB (seed : Nat) (l : List UInt8) (j : Nat) : List UInt8 := (List.range j).flatMap (blk seed l)
theorem allB_succ (seed : Nat) (l : List UInt8) (j : Nat) : allB seed l (j + 1) = allB seed l j ++ blk seed l j := by simp [allB, List.range_succ]
theorem allB_len (seed : Nat) (l : List UInt8) (j : Nat) : (allB seed l j).length = 32 * j := by
  induction j with
  | zero => rfl
  | succ j ih => rw [allB_succ, List.length_append, ih, blk_len]; omega
theorem allB_at (seed : Nat) (l : List UInt8) (j : Nat) : ∀ p, p < 32 * j → (allB seed l j).getD p 0 = (blk seed l (p / 32)).getD (p % 32) 0 := by
  induction j with
  | zero => intro p hp; omega
  | succ j ih =>
    intro p hp
    rw [allB_succ]
    by_cases h : p < 32 * j
    · rw [← ih p h]
      simp [List.getD, List.getElem?_append_left (show p < (allB seed l j).length by rw [allB_len]; exact h)]
    · have e : (allB seed l j).length ≤ p := by rw [allB_len]; omega
      rw [show p / 32 = j by omega]
      simp only [List.getD, List.getElem?_append_right e, allB_len, show p - 32 * j = p % 32 by omega]
theorem drop4 (b : List UInt8) (k : Nat) (h : 4 * k + 4 ≤ b.length) : (b.drop (4 * k)).take 4 = [b.getD (4 * k) 0, b.getD (4 * k + 1) 0, b.getD (4 * k + 2) 0, b.getD (4 * k + 3) 0] := by
  refine List.ext_getElem (by rw [List.length_take, List.length_drop]; simp; omega) fun i h1 h2 => ?_
  have hi : i < 4 := by simpa using h2
  rcases (show i = 0 ∨ i = 1 ∨ i = 2 ∨ i = 3 by omega) with rfl | rfl | rfl | rfl <;> simp [List.getD, show 4 * k < b.length by omega, show 4 * k + 1 < b.length by omega, show 4 * k + 2 < b.length by omega, show 4 * k + 3 < b.length by omega]
theorem word_val (seed : Nat) (l : List UInt8) (j k : Nat) (hk : 4 * k + 4 ≤ 32 * j) (a0 a1 a2 a3 : UInt8) (h0 : a0 = (allB seed l j).getD (4 * k) 0) (h1 : a1 = (allB seed l j).getD (4 * k + 1) 0) (h2 : a2 = (allB seed l j).getD (4 * k + 2) 0) (h3 : a3 = (allB seed l j).getD (4 * k + 3) 0) :
    16777216 * (a0.toNat : Int) + 65536 * (a1.toNat : Int) + 256 * (a2.toNat : Int) + (a3.toNat : Int) = ((word seed l k).toNat : Int) := by
  rw [allB_at _ _ _ _ (by omega)] at h0 h1 h2 h3
  rw [show 4 * k / 32 = k / 8 by omega, show 4 * k % 32 = 4 * (k % 8) by omega] at h0
  rw [show (4 * k + 1) / 32 = k / 8 by omega, show (4 * k + 1) % 32 = 4 * (k % 8) + 1 by omega] at h1
  rw [show (4 * k + 2) / 32 = k / 8 by omega, show (4 * k + 2) % 32 = 4 * (k % 8) + 2 by omega] at h2
  rw [show (4 * k + 3) / 32 = k / 8 by omega, show (4 * k + 3) % 32 = 4 * (k % 8) + 3 by omega] at h3
  have e : num (((blk seed l (k / 8)).drop (4 * (k % 8))).take 4) = 16777216 * a0.toNat + 65536 * a1.toNat + 256 * a2.toNat + a3.toNat := by
    rw [drop4 _ _ (by rw [blk_len]; omega), ← h0, ← h1, ← h2, ← h3]
    simp only [num, List.foldl_cons, List.foldl_nil]
    omega
  have := a0.toNat_lt
  have := a1.toNat_lt
  have := a2.toNat_lt
  have := a3.toNat_lt
  rw [word, wd, e, BitVec.toNat_ofNat, Nat.mod_eq_of_lt (by omega)]
  omega
def f23_r13.T13 : Bool × List (List Nat × List Nat) := (true, [([], []), ([], []), ([], []), ([2], [2]), ([1, 3], [1, 3]), ([4], [4]), ([5], [5]), ([6], [6]), ([], []), ([], []), ([9], [9]), ([10], [10]), ([8, 11], [8, 11]), ([12], [12]), ([13], [13]), ([14], [14]), ([7, 15], [7, 15]), ([], []), ([], []), ([18], [18]), ([19], [19]), ([17, 20], [17, 20]), ([21], [21]), ([22], [22]), ([23], [23]), ([16, 24], [16, 24]), ([], []), ([], []), ([27], [27]), ([28], [28]), ([26, 29], [26, 29]), ([30], [30]), ([31], [31]), ([25, 32], [25, 32]), ([33], [33]), ([0, 34], [0, 34]), ([35, 35, 0, 1, 2, 3, 4, 5, 6, 7, 8, 9, 10, 11, 12, 13, 14, 15, 16, 17, 18, 19, 20, 21, 22, 23, 24, 25, 26, 27, 28, 29, 30, 31, 32, 33, 34, 35], [0, 35])])
def f23_r13.B13 : List Nat := [0, 0, 0, 4, 14, 30, 62, 126, 0, 0, 512, 1536, 3840, 7936, 16128, 32512, 65534, 0, 0, 262144, 786432, 1966080, 4063232, 8257536, 16646144, 33554430, 0, 0, 134217728, 402653184, 1006632960, 2080374784, 4227858432, 8589934590, 17179869182, 34359738367, 68719476735]
theorem f23_r13.tab13 : Go.Proofs.YthmlidlnojdggaaDoorW.PrintLast.rtab .any (Go.Proofs.YthmlidlnojdggaaDoorW.PrintLast.opsOf Tryd.f23 13) = f23_r13.T13 := by kernel_rfl
theorem f23_r13.bits13 : Go.Proofs.YthmlidlnojdggaaDoorW.PrintLast.waitsOk f23_r13.T13.2 f23_r13.B13 = true := by kernel_rfl
set_option maxRecDepth 100000 in
set_option maxHeartbeats 8000000 in
theorem RefWords_calls (seed : Nat) (l : List UInt8) (a : Int) (hs : seed < 18446744073709551616) (hl : l.length ≤ 300) (V : List W32) (E : Option Int) (o : Bool) (hV : V = wv seed l a) (hE : E = we l a) (ho : o = E.isNone) (w : World) :
    Calls Tryd.prog 23 #[.int .u64 (seed : Int), .string (strOf l), .int .i64 a] w fun e w' => ∃ A c, e = .returned (.tuple #[.slice A V.length c, .bool o]) ∧ Ws w' w.heap.size (.slice A V.length c) V ∧ Below w.heap.size w w' := by
  have HS := Aside0.mk hs
  clear hs
  by_cases hok : okW l a
  · obtain ⟨hL, h0, h1⟩ := hok
    obtain ⟨n, rfl⟩ := Int.eq_ofNat_of_zero_le h0
    have HE := Aside0.mk (show o = true by rw [ho, hE, we, if_pos ⟨hL, h0, h1⟩]; rfl)
    have HV := Aside0.mk (show V = words seed l n by rw [hV, wv, if_pos ⟨hL, h0, h1⟩, Int.toNat_natCast])
    have HLb := Aside0.mk (show true = decide (Lab l) from (decide_eq_true hL).symm)
    have hn32 : n ≤ 32 := by omega
    clear hL hV hE ho
    go_enter Tryd.func23, Tryd.ntmps23
    go_wp2_with (go_at_call 67; (with_reducible refine (RefLabel_calls l hl true HLb.out w).mono ?_); rintro e W9 ⟨rfl, rfl⟩)
    go_loopw [8, 9, 10] (fun o i _ wr => ∃ (j m : Nat) (A3 : Option Addr) (c3 : Nat), j ≤ 4 ∧ i = .int .i64 j ∧ o = .slice A3 m c3 ∧ Aside0 (m = 32 * j) ∧ Aside0 (Bs wr w.heap.size (.slice A3 m c3) (allB seed l j)) ∧ Aside0 (Below w.heap.size w wr)) (fun _ i _ _ => 10 - (intOf i).toNat)
    case atStart => exact ⟨0, 0, none, 0, by decide, rfl, rfl, ⟨rfl⟩, ⟨Bs.nil _ _⟩, ⟨Below.refl _ _⟩⟩
    case round =>
      obtain ⟨j, m, A3, c3, hj, rfl, rfl, HM, HB, HW⟩ := hrel
      have hz1 := Below.size HW.out
      by_cases hlt : 32 * j < 4 * n
      · have hji : 32 * (j : Int) < 4 * (n : Int) := by omega
        have hw1 : wrap64 (32 * (j : Int)) = 32 * (j : Int) := by unfold wrap64; omega
        have hw2 : wrap64 (4 * (n : Int)) = 4 * (n : Int) := by unfold wrap64; omega
        obtain ⟨b, hb⟩ : ∃ b, b = blk seed l j := ⟨_, rfl⟩
        have HBL := Aside0.mk (show b.length = 32 by rw [hb]; exact blk_len _ _ _)
        have HBK := Aside0.mk hb
        have HZ := Aside0.mk (sz32 b HBL.out)
        have HOO := Aside0.mk (show (e8 (List.replicate 32 0)).size = (e8 b).size by rw [e8_size, e8_size, HBL.out]; rfl)
        have HAL := Aside0.mk (allB_len seed l j)
        have hj2 : j ≤ 2000000 := by omega
        clear hb
        go_wp2_with (first
          | (go_at_call 68; (with_reducible refine (RefBlock_calls seed j _ _ rfl rfl HS.out hj2 l hl b HBK.out wr).mono ?_); rintro e x1 ⟨rfl, hbx1⟩; have L2_w := Aside0.mk (below_then HW.out (Below.size HW.out) hbx1); have hz2 := Below.size hbx1; replace hbx1 := Aside0.mk hbx1)
          | ((with_reducible refine at_alloc_ (d := some 10) ?_); (refine wpList_make_ (t := 24) ((e8 (List.replicate 32 0))) (fun g => .pointer (some ⟨g, 0, none⟩)) (by rfl) ?_ ?_); (first | (go_simp; done) | (unfold execOp; go_simp; done) | (simp only [Act.put]; go_simp; done) | (go_simp; constructor <;> rfl) | (go_simp; rfl) | rfl); intro g10 x2 hge_g10 B_g10 hbx2; replace B_g10 := Aside0.mk B_g10; have L3_w := Aside0.mk (below_then L2_w.out (Below.size L2_w.out) hbx2); have L3_wr := Aside0.mk (below_then hbx1.out (Below.size hbx1.out) hbx2); have hz3 := Below.size hbx2; replace hbx2 := Aside0.mk hbx2)
          | ((with_reducible refine at_store_ (x := .tmp 10) ?_); (refine wpList_store_row rfl 24 _ _ rfl g10 (e8 b) _ 24 rfl rfl B_g10.out HZ.out HOO.out (e8_one _) ?_); generalize hWx3 : World.setRow x2 _ _ = x3; have L4_w := Aside0.mk (show Below w.heap.size w x3 by rw [← hWx3]; exact below_setRow L3_w.out (by omega) _); have hzL4_w := Below.size L4_w.out; have L4_wr := Aside0.mk (show Below wr.heap.size wr x3 by rw [← hWx3]; exact below_setRow L3_wr.out (by omega) _); have hzL4_wr := Below.size L4_wr.out; have B_g10_4 := Aside0.mk (show Blk x3 g10 24 (e8 b) by rw [← hWx3]; exact blk_setRow B_g10.out _); clear hWx3; have KB := Aside0.mk (show Kb.C x3 (some ⟨g10, 0, none⟩) 32 b from blk_C8 B_g10_4.out 32 HBL.out (by decide)))
          | (at_builtin; refine app_bs (w0 := w) w.heap.size rfl (.tmp 35) (.tmp 36) rfl _ (allB seed l j) (b) _ _ _ rfl rfl (Bs.below HB.out L4_wr.out) KB.out L4_w.out (Below.size L4_w.out) (by rw [HAL.out]; omega) ?_; intro z5 A5 c5 x4 hzx4 hBx4 hbx4 hsx4 hgx4; have hz5 := hgx4.out.size))
        have hzl : z5.length = m + 32 := by rw [hzx4.out, List.length_append, HAL.out, HBL.out, HM.out]
        rw [hzl] at hBx4 ⊢
        go_roundw
        case rel => exact ⟨j + 1, m + 32, A5, c5, by omega, by go_num, rfl, ⟨by have := HM.out; omega⟩, ⟨by rw [allB_succ, ← HBK.out, ← hzx4.out]; exact hBx4.out⟩, hbx4⟩
        case measure => simp [intOf]; omega
      · have hji : ¬ 32 * (j : Int) < 4 * (n : Int) := by omega
        have hji2 : 4 * (n : Int) ≤ 32 * (j : Int) := by omega
        have hw1 : wrap64 (32 * (j : Int)) = 32 * (j : Int) := by unfold wrap64; omega
        have hw2 : wrap64 (4 * (n : Int)) = 4 * (n : Int) := by unfold wrap64; omega
        have HJN := Aside0.mk hlt
        obtain ⟨all, hall⟩ : ∃ x, x = allB seed l j := ⟨_, rfl⟩
        have HALL := Aside0.mk hall
        have HAL := Aside0.mk (show all.length = m by rw [hall, allB_len, HM.out])
        have HB2 := Aside0.mk (show Kb.C wr A3 m all by rw [hall]; have h := HB.out.read.1; exact h)
        obtain ⟨wo, rfl⟩ : ∃ wo : World, wo = wr := ⟨_, rfl⟩
        clear hall hlt
        have hz6 := Below.size HW.out
        go_wp2
        go_loopw [11, 12] (fun o i wr => ∃ (k : Nat) (A4 : Option Addr) (c4 : Nat), k ≤ n ∧ i = .int .i64 k ∧ o = .slice A4 k c4 ∧ Aside0 (Ws wr wo.heap.size (.slice A4 k c4) (words seed l k)) ∧ Aside0 (Below wo.heap.size wo wr)) (fun _ i _ => n - (intOf i).toNat)
        case atStart => exact ⟨0, none, 0, Nat.zero_le _, rfl, rfl, ⟨Ws.nil _ _⟩, ⟨Below.refl _ _⟩⟩
        case round =>
          obtain ⟨k, A4, c4, hk, rfl, rfl, HO, HWW⟩ := hrel
          by_cases hlt : k < n
          · have hki : (k : Int) < (n : Int) := by omega
            have hm4 : 4 * k + 4 ≤ m := by have := HM.out; have := HJN.out; omega
            obtain ⟨a0, h0⟩ : ∃ x, x = all.getD (4 * k) 0 := ⟨_, rfl⟩
            obtain ⟨a1, h1⟩ : ∃ x, x = all.getD (4 * k + 1) 0 := ⟨_, rfl⟩
            obtain ⟨a2, h2⟩ : ∃ x, x = all.getD (4 * k + 2) 0 := ⟨_, rfl⟩
            obtain ⟨a3, h3⟩ : ∃ x, x = all.getD (4 * k + 3) 0 := ⟨_, rfl⟩
            have HVAL := Aside0.mk (word_val seed l j k (by have := HM.out; omega) a0 a1 a2 a3 (by rw [h0, HALL.out]) (by rw [h1, HALL.out]) (by rw [h2, HALL.out]) (by rw [h3, HALL.out]))
            obtain ⟨ad, rfl, _⟩ := at_bn HB2.out 0 (by omega)
            have HA := Aside0.mk (show ∀ W, Kb.C W (some ad) m all → W.cell? (ad.add (4 * k)) = some (.int .u8 (a0.toNat : Int)) ∧ W.cell? ⟨ad.block, ad.off + (4 * k + 1), none⟩ = some (.int .u8 (a1.toNat : Int)) ∧ W.cell? ⟨ad.block, ad.off + (4 * k + 1 + 1), none⟩ = some (.int .u8 (a2.toNat : Int)) ∧ W.cell? ⟨ad.block, ad.off + (4 * k + 1 + 1 + 1), none⟩ = some (.int .u8 (a3.toNat : Int)) from fun W h => by
              have key : ∀ i, i < m → W.cell? (ad.add i) = some (.int .u8 ((all.getD i 0).toNat : Int)) := fun i hi => by
                obtain ⟨ad', e, hc⟩ := at_bn h i hi
                injection e with e
                subst e
                exact hc
              rw [h0, h1, h2, h3]
              exact ⟨key _ (by omega), by rw [← add_pos ad (4 * k + 1) (by omega)]; exact key _ (by omega), by rw [← add_pos ad (4 * k + 1 + 1) (by omega)]; exact key _ (by omega), by rw [← add_pos ad (4 * k + 1 + 1 + 1) (by omega)]; exact key _ (by omega)⟩)
            have b0 := a0.toNat_lt
            have b1 := a1.toNat_lt
            have b2 := a2.toNat_lt
            have b3 := a3.toNat_lt
            have u : ∀ z : Int, 0 ≤ z → z < 4294967296 → IntKind.u32.wrap z = z := fun z h0 h1 => by show z % 4294967296 = z; omega
            have p0 := u (a0.toNat : Int) (by omega) (by omega)
            have p1 := u (a1.toNat : Int) (by omega) (by omega)
            have p2 := u (a2.toNat : Int) (by omega) (by omega)
            have p3 := u (a3.toNat : Int) (by omega) (by omega)
            have q0 := u (16777216 * (a0.toNat : Int)) (by omega) (by omega)
            have q1 := u (65536 * (a1.toNat : Int)) (by omega) (by omega)
            have q2 := u (256 * (a2.toNat : Int)) (by omega) (by omega)
            have r1 := u (16777216 * (a0.toNat : Int) + 65536 * (a1.toNat : Int)) (by omega) (by omega)
            have r2 := u (16777216 * (a0.toNat : Int) + 65536 * (a1.toNat : Int) + 256 * (a2.toNat : Int)) (by omega) (by omega)
            have r3 := u (16777216 * (a0.toNat : Int) + 65536 * (a1.toNat : Int) + 256 * (a2.toNat : Int) + (a3.toNat : Int)) (by omega) (by omega)
            have s0 : wrap64 (4 * (k : Int)) = 4 * (k : Int) := by unfold wrap64; omega
            have s1 : wrap64 (4 * (k : Int) + 1) = 4 * (k : Int) + 1 := by unfold wrap64; omega
            have s2 : wrap64 (4 * (k : Int) + 2) = 4 * (k : Int) + 2 := by unfold wrap64; omega
            have s3 : wrap64 (4 * (k : Int) + 3) = 4 * (k : Int) + 3 := by unfold wrap64; omega
            have t0 : (4 * (k : Int)).toNat = 4 * k := by omega
            have t1 : (4 * (k : Int) + 1).toNat = 4 * k + 1 := by omega
            have t2 : (4 * (k : Int) + 2).toNat = 4 * k + 2 := by omega
            have t3 : (4 * (k : Int) + 3).toNat = 4 * k + 3 := by omega
            have v0 : 4 * (k : Int) < (m : Int) := by omega
            have v1 : 4 * (k : Int) + 1 < (m : Int) := by omega
            have v2 : 4 * (k : Int) + 2 < (m : Int) := by omega
            have v3 : 4 * (k : Int) + 3 < (m : Int) := by omega
            have z0 : (0 : Int) ≤ 4 * (k : Int) := by omega
            have z1 : (0 : Int) ≤ 4 * (k : Int) + 1 := by omega
            have z2 : (0 : Int) ≤ 4 * (k : Int) + 2 := by omega
            have z3 : (0 : Int) ≤ 4 * (k : Int) + 3 := by omega
            have HPL := Aside0.mk (words_len seed l k)
            clear h0 h1 h2 h3 u b0 b1 b2 b3
            have L7_w := Aside0.mk (below_then HW.out (Below.size HW.out) HWW.out)
            have hz7 := Below.size HWW.out
            go_wp2_with fail
            refine start_ (n := 37) (S := fun w' => Below w.heap.size w w' ∧ Below wo.heap.size wo w' ∧ Below wr.heap.size wr w' ∧ True) (ds := [35]) #[false, false, false, false, false, false, false, false, false, false, false, false, false, false, false, false, false, false, false, false, false, false, false, false, false, false, false, false, false, false, false, false, false, false, false, false, false] (by kernel_rfl) rfl rfl ⟨below_drew L7_w.out, below_drew HWW.out, below_drew (Below.refl _ _), trivial⟩ (fun hHeld => ?_)
            refine with_tabW f23_r13.tab13 f23_r13.bits13 (fun HT_ HW_ => ?_)
            refine pure_ (i := 0) (N := some 43) (v := ?_) (a' := ?_) #[true, false, false, false, false, false, false, false, false, false, false, false, false, false, false, false, false, false, false, false, false, false, false, false, false, false, false, false, false, false, false, false, false, false, false, false, false] rfl rfl (any_of HT_.out (by kernel_rfl)) (fun _ _ _ h => h) (Or.inl ⟨by rfl, ?_⟩) ?_ ?_
            rotate_left
            · intro w'
              go_simp
              with_reducible rfl
            rotate_left
            · simp only [Act.put, List.setIfInBounds_toArray, List.set_cons_zero, List.set_cons_succ, i64_w, i32_w]
              rfl
            refine pure_ (i := 1) (N := some 44) (v := ?_) (a' := ?_) #[true, true, false, false, false, false, false, false, false, false, false, false, false, false, false, false, false, false, false, false, false, false, false, false, false, false, false, false, false, false, false, false, false, false, false, false, false] rfl rfl (any_of HT_.out (by kernel_rfl)) (fun _ _ _ h => h) (Or.inl ⟨by rfl, ?_⟩) ?_ ?_
            rotate_left
            · intro w'
              go_simp
              with_reducible rfl
            rotate_left
            · simp only [Act.put, List.setIfInBounds_toArray, List.set_cons_zero, List.set_cons_succ, i64_w, i32_w]
              rfl
            refine pure_ (i := 2) (N := some 45) (v := ?_) (a' := ?_) #[true, true, true, false, false, false, false, false, false, false, false, false, false, false, false, false, false, false, false, false, false, false, false, false, false, false, false, false, false, false, false, false, false, false, false, false, false] rfl rfl (any_of HT_.out (by kernel_rfl)) (fun _ _ _ h => h) (Or.inl ⟨by rfl, ?_⟩) ?_ ?_
            rotate_left
            · intro w'
              go_simp
              with_reducible rfl
            rotate_left
            · simp only [Act.put, List.setIfInBounds_toArray, List.set_cons_zero, List.set_cons_succ, i64_w, i32_w]
              rfl
            refine pure_ (i := 3) (N := some 46) (v := ?_) (a' := ?_) #[true, true, true, true, false, false, false, false, false, false, false, false, false, false, false, false, false, false, false, false, false, false, false, false, false, false, false, false, false, false, false, false, false, false, false, false, false] rfl rfl (any_of HT_.out (by kernel_rfl)) (fun _ _ _ h => h) (Or.inl ⟨by rfl, ?_⟩) ?_ ?_
            rotate_left
            · intro w'
              go_simp
              with_reducible rfl
            rotate_left
            · simp only [Act.put, List.setIfInBounds_toArray, List.set_cons_zero, List.set_cons_succ, i64_w, i32_w]
              rfl
            refine pure_ (i := 4) (N := some 47) (v := ?_) (a' := ?_) #[true, true, true, true, true, false, false, false, false, false, false, false, false, false, false, false, false, false, false, false, false, false, false, false, false, false, false, false, false, false, false, false, false, false, false, false, false] rfl rfl (any_of HT_.out (by kernel_rfl)) (fun _ _ _ h => h) (Or.inl ⟨by rfl, ?_⟩) ?_ ?_
            rotate_left
            · intro w'
              go_simp
              with_reducible rfl
            rotate_left
            · simp only [Act.put, List.setIfInBounds_toArray, List.set_cons_zero, List.set_cons_succ, i64_w, i32_w]
              rfl
            refine pure_ (i := 8) (N := some 51) (v := ?_) (a' := ?_) #[true, true, true, true, true, false, false, false, true, false, false, false, false, false, false, false, false, false, false, false, false, false, false, false, false, false, false, false, false, false, false, false, false, false, false, false, false] rfl rfl (any_of HT_.out (by kernel_rfl)) (fun _ _ _ h => h) (Or.inl ⟨by rfl, ?_⟩) ?_ ?_
            rotate_left
            · intro w'
              go_simp
              with_reducible rfl
            rotate_left
            · simp only [Act.put, List.setIfInBounds_toArray, List.set_cons_zero, List.set_cons_succ, i64_w, i32_w]
              rfl
            refine pure_ (i := 9) (N := some 52) (v := ?_) (a' := ?_) #[true, true, true, true, true, false, false, false, true, true, false, false, false, false, false, false, false, false, false, false, false, false, false, false, false, false, false, false, false, false, false, false, false, false, false, false, false] rfl rfl (any_of HT_.out (by kernel_rfl)) (fun _ _ _ h => h) (Or.inl ⟨by rfl, ?_⟩) ?_ ?_
            rotate_left
            · intro w'
              go_simp
              with_reducible rfl
            rotate_left
            · simp only [Act.put, List.setIfInBounds_toArray, List.set_cons_zero, List.set_cons_succ, i64_w, i32_w]
              rfl
            refine pure_ (i := 10) (N := some 53) (v := ?_) (a' := ?_) #[true, true, true, true, true, false, false, false, true, true, true, false, false, false, false, false, false, false, false, false, false, false, false, false, false, false, false, false, false, false, false, false, false, false, false, false, false] rfl rfl (any_of HT_.out (by kernel_rfl)) (fun _ _ _ h => h) (Or.inl ⟨by rfl, ?_⟩) ?_ ?_
            rotate_left
            · intro w'
              go_simp
              with_reducible rfl
            rotate_left
            · simp only [Act.put, List.setIfInBounds_toArray, List.set_cons_zero, List.set_cons_succ, i64_w, i32_w]
              rfl
            refine pure_ (i := 11) (N := some 54) (v := ?_) (a' := ?_) #[true, true, true, true, true, false, false, false, true, true, true, true, false, false, false, false, false, false, false, false, false, false, false, false, false, false, false, false, false, false, false, false, false, false, false, false, false] rfl rfl (any_of HT_.out (by kernel_rfl)) (fun _ _ _ h => h) (Or.inl ⟨by rfl, ?_⟩) ?_ ?_
            rotate_left
            · intro w'
              go_simp
              with_reducible rfl
            rotate_left
            · simp only [Act.put, List.setIfInBounds_toArray, List.set_cons_zero, List.set_cons_succ, i64_w, i32_w]
              rfl
            refine pure_ (i := 12) (N := some 55) (v := ?_) (a' := ?_) #[true, true, true, true, true, false, false, false, true, true, true, true, true, false, false, false, false, false, false, false, false, false, false, false, false, false, false, false, false, false, false, false, false, false, false, false, false] rfl rfl (any_of HT_.out (by kernel_rfl)) (fun _ _ _ h => h) (Or.inl ⟨by rfl, ?_⟩) ?_ ?_
            rotate_left
            · intro w'
              go_simp
              with_reducible rfl
            rotate_left
            · simp only [Act.put, List.setIfInBounds_toArray, List.set_cons_zero, List.set_cons_succ, i64_w, i32_w]
              rfl
            refine pure_ (i := 17) (N := some 60) (v := ?_) (a' := ?_) #[true, true, true, true, true, false, false, false, true, true, true, true, true, false, false, false, false, true, false, false, false, false, false, false, false, false, false, false, false, false, false, false, false, false, false, false, false] rfl rfl (any_of HT_.out (by kernel_rfl)) (fun _ _ _ h => h) (Or.inl ⟨by rfl, ?_⟩) ?_ ?_
            rotate_left
            · intro w'
              go_simp
              with_reducible rfl
            rotate_left
            · simp only [Act.put, List.setIfInBounds_toArray, List.set_cons_zero, List.set_cons_succ, i64_w, i32_w]
              rfl
            refine pure_ (i := 18) (N := some 61) (v := ?_) (a' := ?_) #[true, true, true, true, true, false, false, false, true, true, true, true, true, false, false, false, false, true, true, false, false, false, false, false, false, false, false, false, false, false, false, false, false, false, false, false, false] rfl rfl (any_of HT_.out (by kernel_rfl)) (fun _ _ _ h => h) (Or.inl ⟨by rfl, ?_⟩) ?_ ?_
            rotate_left
            · intro w'
              go_simp
              with_reducible rfl
            rotate_left
            · simp only [Act.put, List.setIfInBounds_toArray, List.set_cons_zero, List.set_cons_succ, i64_w, i32_w]
              rfl
            refine pure_ (i := 19) (N := some 62) (v := ?_) (a' := ?_) #[true, true, true, true, true, false, false, false, true, true, true, true, true, false, false, false, false, true, true, true, false, false, false, false, false, false, false, false, false, false, false, false, false, false, false, false, false] rfl rfl (any_of HT_.out (by kernel_rfl)) (fun _ _ _ h => h) (Or.inl ⟨by rfl, ?_⟩) ?_ ?_
            rotate_left
            · intro w'
              go_simp
              with_reducible rfl
            rotate_left
            · simp only [Act.put, List.setIfInBounds_toArray, List.set_cons_zero, List.set_cons_succ, i64_w, i32_w]
              rfl
            refine pure_ (i := 20) (N := some 63) (v := ?_) (a' := ?_) #[true, true, true, true, true, false, false, false, true, true, true, true, true, false, false, false, false, true, true, true, true, false, false, false, false, false, false, false, false, false, false, false, false, false, false, false, false] rfl rfl (any_of HT_.out (by kernel_rfl)) (fun _ _ _ h => h) (Or.inl ⟨by rfl, ?_⟩) ?_ ?_
            rotate_left
            · intro w'
              go_simp
              with_reducible rfl
            rotate_left
            · simp only [Act.put, List.setIfInBounds_toArray, List.set_cons_zero, List.set_cons_succ, i64_w, i32_w]
              rfl
            refine pure_ (i := 21) (N := some 64) (v := ?_) (a' := ?_) #[true, true, true, true, true, false, false, false, true, true, true, true, true, false, false, false, false, true, true, true, true, true, false, false, false, false, false, false, false, false, false, false, false, false, false, false, false] rfl rfl (any_of HT_.out (by kernel_rfl)) (fun _ _ _ h => h) (Or.inl ⟨by rfl, ?_⟩) ?_ ?_
            rotate_left
            · intro w'
              go_simp
              with_reducible rfl
            rotate_left
            · simp only [Act.put, List.setIfInBounds_toArray, List.set_cons_zero, List.set_cons_succ, i64_w, i32_w]
              rfl
            refine pure_ (i := 26) (N := some 69) (v := ?_) (a' := ?_) #[true, true, true, true, true, false, false, false, true, true, true, true, true, false, false, false, false, true, true, true, true, true, false, false, false, false, true, false, false, false, false, false, false, false, false, false, false] rfl rfl (any_of HT_.out (by kernel_rfl)) (fun _ _ _ h => h) (Or.inl ⟨by rfl, ?_⟩) ?_ ?_
            rotate_left
            · intro w'
              go_simp
              with_reducible rfl
            rotate_left
            · simp only [Act.put, List.setIfInBounds_toArray, List.set_cons_zero, List.set_cons_succ, i64_w, i32_w]
              rfl
            refine pure_ (i := 27) (N := some 70) (v := ?_) (a' := ?_) #[true, true, true, true, true, false, false, false, true, true, true, true, true, false, false, false, false, true, true, true, true, true, false, false, false, false, true, true, false, false, false, false, false, false, false, false, false] rfl rfl (any_of HT_.out (by kernel_rfl)) (fun _ _ _ h => h) (Or.inl ⟨by rfl, ?_⟩) ?_ ?_
            rotate_left
            · intro w'
              go_simp
              with_reducible rfl
            rotate_left
            · simp only [Act.put, List.setIfInBounds_toArray, List.set_cons_zero, List.set_cons_succ, i64_w, i32_w]
              rfl
            refine pure_ (i := 28) (N := some 71) (v := ?_) (a' := ?_) #[true, true, true, true, true, false, false, false, true, true, true, true, true, false, false, false, false, true, true, true, true, true, false, false, false, false, true, true, true, false, false, false, false, false, false, false, false] rfl rfl (any_of HT_.out (by kernel_rfl)) (fun _ _ _ h => h) (Or.inl ⟨by rfl, ?_⟩) ?_ ?_
            rotate_left
            · intro w'
              go_simp
              with_reducible rfl
            rotate_left
            · simp only [Act.put, List.setIfInBounds_toArray, List.set_cons_zero, List.set_cons_succ, i64_w, i32_w]
              rfl
            refine pure_ (i := 29) (N := some 72) (v := ?_) (a' := ?_) #[true, true, true, true, true, false, false, false, true, true, true, true, true, false, false, false, false, true, true, true, true, true, false, false, false, false, true, true, true, true, false, false, false, false, false, false, false] rfl rfl (any_of HT_.out (by kernel_rfl)) (fun _ _ _ h => h) (Or.inl ⟨by rfl, ?_⟩) ?_ ?_
            rotate_left
            · intro w'
              go_simp
              with_reducible rfl
            rotate_left
            · simp only [Act.put, List.setIfInBounds_toArray, List.set_cons_zero, List.set_cons_succ, i64_w, i32_w]
              rfl
            refine pure_ (i := 30) (N := some 73) (v := ?_) (a' := ?_) #[true, true, true, true, true, false, false, false, true, true, true, true, true, false, false, false, false, true, true, true, true, true, false, false, false, false, true, true, true, true, true, false, false, false, false, false, false] rfl rfl (any_of HT_.out (by kernel_rfl)) (fun _ _ _ h => h) (Or.inl ⟨by rfl, ?_⟩) ?_ ?_
            rotate_left
            · intro w'
              go_simp
              with_reducible rfl
            rotate_left
            · simp only [Act.put, List.setIfInBounds_toArray, List.set_cons_zero, List.set_cons_succ, i64_w, i32_w]
              rfl
            refine take_ (i := 5) (N := some 48) (v := ?_) (a' := ?_) #[true, true, true, true, true, true, false, false, true, true, true, true, true, false, false, false, false, true, true, true, true, true, false, false, false, false, true, true, true, true, true, false, false, false, false, false, false] rfl rfl (take_ofW HT_.out HW_.out (by kernel_rfl)) (fun _ _ _ h => h) (Or.inl ⟨by rfl, ?_⟩) hHeld ?_ ?_
            rotate_left
            · intro w' s0
              have e := (HA.out _ (Kd.C_below HB2.out s0.2.1)).1
              go_simp
              with_reducible rfl
            rotate_left
            · simp only [Act.put, List.setIfInBounds_toArray, List.set_cons_zero, List.set_cons_succ, i64_w, i32_w]
              rfl
            refine pure_ (i := 6) (N := some 49) (v := ?_) (a' := ?_) #[true, true, true, true, true, true, true, false, true, true, true, true, true, false, false, false, false, true, true, true, true, true, false, false, false, false, true, true, true, true, true, false, false, false, false, false, false] rfl rfl (any_of HT_.out (by kernel_rfl)) (fun _ _ _ h => h) (Or.inl ⟨by rfl, ?_⟩) ?_ ?_
            rotate_left
            · intro w'
              go_simp
              with_reducible rfl
            rotate_left
            · simp only [Act.put, List.setIfInBounds_toArray, List.set_cons_zero, List.set_cons_succ, i64_w, i32_w]
              rfl
            refine pure_ (i := 7) (N := some 50) (v := ?_) (a' := ?_) #[true, true, true, true, true, true, true, true, true, true, true, true, true, false, false, false, false, true, true, true, true, true, false, false, false, false, true, true, true, true, true, false, false, false, false, false, false] rfl rfl (any_of HT_.out (by kernel_rfl)) (fun _ _ _ h => h) (Or.inl ⟨by rfl, ?_⟩) ?_ ?_
            rotate_left
            · intro w'
              go_simp
              with_reducible rfl
            rotate_left
            · simp only [Act.put, List.setIfInBounds_toArray, List.set_cons_zero, List.set_cons_succ, i64_w, i32_w]
              rfl
            refine take_ (i := 13) (N := some 56) (v := ?_) (a' := ?_) #[true, true, true, true, true, true, true, true, true, true, true, true, true, true, false, false, false, true, true, true, true, true, false, false, false, false, true, true, true, true, true, false, false, false, false, false, false] rfl rfl (take_ofW HT_.out HW_.out (by kernel_rfl)) (fun _ _ _ h => h) (Or.inl ⟨by rfl, ?_⟩) hHeld ?_ ?_
            rotate_left
            · intro w' s0
              have e := (HA.out _ (Kd.C_below HB2.out s0.2.1)).2.1
              go_simp
              with_reducible rfl
            rotate_left
            · simp only [Act.put, List.setIfInBounds_toArray, List.set_cons_zero, List.set_cons_succ, i64_w, i32_w]
              rfl
            refine pure_ (i := 14) (N := some 57) (v := ?_) (a' := ?_) #[true, true, true, true, true, true, true, true, true, true, true, true, true, true, true, false, false, true, true, true, true, true, false, false, false, false, true, true, true, true, true, false, false, false, false, false, false] rfl rfl (any_of HT_.out (by kernel_rfl)) (fun _ _ _ h => h) (Or.inl ⟨by rfl, ?_⟩) ?_ ?_
            rotate_left
            · intro w'
              go_simp
              with_reducible rfl
            rotate_left
            · simp only [Act.put, List.setIfInBounds_toArray, List.set_cons_zero, List.set_cons_succ, i64_w, i32_w]
              rfl
            refine pure_ (i := 15) (N := some 58) (v := ?_) (a' := ?_) #[true, true, true, true, true, true, true, true, true, true, true, true, true, true, true, true, false, true, true, true, true, true, false, false, false, false, true, true, true, true, true, false, false, false, false, false, false] rfl rfl (any_of HT_.out (by kernel_rfl)) (fun _ _ _ h => h) (Or.inl ⟨by rfl, ?_⟩) ?_ ?_
            rotate_left
            · intro w'
              go_simp
              with_reducible rfl
            rotate_left
            · simp only [Act.put, List.setIfInBounds_toArray, List.set_cons_zero, List.set_cons_succ, i64_w, i32_w]
              rfl
            refine pure_ (i := 16) (N := some 59) (v := ?_) (a' := ?_) #[true, true, true, true, true, true, true, true, true, true, true, true, true, true, true, true, true, true, true, true, true, true, false, false, false, false, true, true, true, true, true, false, false, false, false, false, false] rfl rfl (any_of HT_.out (by kernel_rfl)) (fun _ _ _ h => h) (Or.inl ⟨by rfl, ?_⟩) ?_ ?_
            rotate_left
            · intro w'
              go_simp
              with_reducible rfl
            rotate_left
            · simp only [Act.put, List.setIfInBounds_toArray, List.set_cons_zero, List.set_cons_succ, i64_w, i32_w]
              rfl
            refine take_ (i := 22) (N := some 65) (v := ?_) (a' := ?_) #[true, true, true, true, true, true, true, true, true, true, true, true, true, true, true, true, true, true, true, true, true, true, true, false, false, false, true, true, true, true, true, false, false, false, false, false, false] rfl rfl (take_ofW HT_.out HW_.out (by kernel_rfl)) (fun _ _ _ h => h) (Or.inl ⟨by rfl, ?_⟩) hHeld ?_ ?_
            rotate_left
            · intro w' s0
              have e := (HA.out _ (Kd.C_below HB2.out s0.2.1)).2.2.1
              go_simp
              with_reducible rfl
            rotate_left
            · simp only [Act.put, List.setIfInBounds_toArray, List.set_cons_zero, List.set_cons_succ, i64_w, i32_w]
              rfl
            refine pure_ (i := 23) (N := some 66) (v := ?_) (a' := ?_) #[true, true, true, true, true, true, true, true, true, true, true, true, true, true, true, true, true, true, true, true, true, true, true, true, false, false, true, true, true, true, true, false, false, false, false, false, false] rfl rfl (any_of HT_.out (by kernel_rfl)) (fun _ _ _ h => h) (Or.inl ⟨by rfl, ?_⟩) ?_ ?_
            rotate_left
            · intro w'
              go_simp
              with_reducible rfl
            rotate_left
            · simp only [Act.put, List.setIfInBounds_toArray, List.set_cons_zero, List.set_cons_succ, i64_w, i32_w]
              rfl
            refine pure_ (i := 24) (N := some 67) (v := ?_) (a' := ?_) #[true, true, true, true, true, true, true, true, true, true, true, true, true, true, true, true, true, true, true, true, true, true, true, true, true, false, true, true, true, true, true, false, false, false, false, false, false] rfl rfl (any_of HT_.out (by kernel_rfl)) (fun _ _ _ h => h) (Or.inl ⟨by rfl, ?_⟩) ?_ ?_
            rotate_left
            · intro w'
              go_simp
              with_reducible rfl
            rotate_left
            · simp only [Act.put, List.setIfInBounds_toArray, List.set_cons_zero, List.set_cons_succ, i64_w, i32_w]
              rfl
            refine pure_ (i := 25) (N := some 68) (v := ?_) (a' := ?_) #[true, true, true, true, true, true, true, true, true, true, true, true, true, true, true, true, true, true, true, true, true, true, true, true, true, true, true, true, true, true, true, false, false, false, false, false, false] rfl rfl (any_of HT_.out (by kernel_rfl)) (fun _ _ _ h => h) (Or.inl ⟨by rfl, ?_⟩) ?_ ?_
            rotate_left
            · intro w'
              go_simp
              with_reducible rfl
            rotate_left
            · simp only [Act.put, List.setIfInBounds_toArray, List.set_cons_zero, List.set_cons_succ, i64_w, i32_w]
              rfl
            refine take_ (i := 31) (N := some 74) (v := ?_) (a' := ?_) #[true, true, true, true, true, true, true, true, true, true, true, true, true, true, true, true, true, true, true, true, true, true, true, true, true, true, true, true, true, true, true, true, false, false, false, false, false] rfl rfl (take_ofW HT_.out HW_.out (by kernel_rfl)) (fun _ _ _ h => h) (Or.inl ⟨by rfl, ?_⟩) hHeld ?_ ?_
            rotate_left
            · intro w' s0
              have e := (HA.out _ (Kd.C_below HB2.out s0.2.1)).2.2.2
              go_simp
              with_reducible rfl
            rotate_left
            · simp only [Act.put, List.setIfInBounds_toArray, List.set_cons_zero, List.set_cons_succ, i64_w, i32_w]
              rfl
            refine pure_ (i := 32) (N := some 75) (v := ?_) (a' := ?_) #[true, true, true, true, true, true, true, true, true, true, true, true, true, true, true, true, true, true, true, true, true, true, true, true, true, true, true, true, true, true, true, true, true, false, false, false, false] rfl rfl (any_of HT_.out (by kernel_rfl)) (fun _ _ _ h => h) (Or.inl ⟨by rfl, ?_⟩) ?_ ?_
            rotate_left
            · intro w'
              go_simp
              with_reducible rfl
            rotate_left
            · simp only [Act.put, List.setIfInBounds_toArray, List.set_cons_zero, List.set_cons_succ, i64_w, i32_w]
              rfl
            refine pure_ (i := 33) (N := some 76) (v := ?_) (a' := ?_) #[true, true, true, true, true, true, true, true, true, true, true, true, true, true, true, true, true, true, true, true, true, true, true, true, true, true, true, true, true, true, true, true, true, true, false, false, false] rfl rfl (any_of HT_.out (by kernel_rfl)) (fun _ _ _ h => h) (Or.inl ⟨by rfl, ?_⟩) ?_ ?_
            rotate_left
            · intro w'
              go_simp
              with_reducible rfl
            rotate_left
            · simp only [Act.put, List.setIfInBounds_toArray, List.set_cons_zero, List.set_cons_succ, i64_w, i32_w]
              rfl
            refine one_ (i := 34) (N := some 77) #[true, true, true, true, true, true, true, true, true, true, true, true, true, true, true, true, true, true, true, true, true, true, true, true, true, true, true, true, true, true, true, true, true, true, true, false, false] rfl rfl (one_of HT_.out (by kernel_rfl)) (by decide) (fun K hK => ?_)
            refine make_ (t := 52) (#[.int .u32 (16777216 * (a0.toNat : Int) + 65536 * (a1.toNat : Int) + 256 * (a2.toNat : Int) + (a3.toNat : Int))]) (fun g => .slice (some ⟨g, 0, none⟩) 1 1) (by rfl) rfl ?_ (fun g77 y1 hge_g77 B_g77 hby1 => ?_)
            · first | (go_simp; done) | (unfold execOp; go_simp; done) | (simp only [Act.put]; go_simp; done) | (go_simp; constructor <;> rfl) | (go_simp; rfl) | rfl
            replace B_g77 := Aside0.mk B_g77
            have H77 := Aside0.mk (show K32.C _ (some ⟨g77, 0, none⟩) 1 [word seed l k] by have h := B_g77.out; rw [HVAL.out] at h; exact blk_C32 (l := [word seed l k]) h 1 rfl (by decide))
            refine hK.out _ _ ⟨(below_then hHeld.1 (Below.size hHeld.1) hby1), (below_then hHeld.2.1 (Below.size hHeld.2.1) hby1), (below_then hHeld.2.2.1 (Below.size hHeld.2.2.1) hby1), trivial⟩ (fun hHeld => ?_)
            clear hK K
            refine norm_ (a' := ?_) ?_ ?_
            rotate_left
            · show Act.put _ (some 77) _ = _
              simp only [Act.put, List.setIfInBounds_toArray, List.set_cons_zero, List.set_cons_succ, i64_w, i32_w]
              rfl
            refine last_ (i := 35) (N := some 78) #[true, true, true, true, true, true, true, true, true, true, true, true, true, true, true, true, true, true, true, true, true, true, true, true, true, true, true, true, true, true, true, true, true, true, true, true, false] rfl rfl (one_of HT_.out (by kernel_rfl)) (by decide) (fun K hK => ?_)
            refine app_ws_step (w0 := wo) wo.heap.size (by rfl) (.tmp 43) (.tmp 77) (by rfl) _ (words seed l k) ([word seed l k]) _ _ _ (by rfl) (by rfl) (Ws.below HO.out hHeld.2.2.1) H77.out hHeld.2.1 (Below.size hHeld.2.1) (by rw [HPL.out]; omega) ?_
            intro z5 A5 c5 y2 hzy2 hBy2 hby2 hsy2 hgy2
            refine hK.out _ _ ?_
            clear hK K
            refine norm_ (a' := ?_) ?_ ?_
            rotate_left
            · show Act.put _ (some 78) _ = _
              simp only [Act.put, List.setIfInBounds_toArray, List.set_cons_zero, List.set_cons_succ, i64_w, i32_w]
              rfl
            refine pure_ (i := 36) (N := some 11) (v := ?_) (a' := ?_) #[true, true, true, true, true, true, true, true, true, true, true, true, true, true, true, true, true, true, true, true, true, true, true, true, true, true, true, true, true, true, true, true, true, true, true, true, true] rfl rfl (any_of HT_.out (by kernel_rfl)) (fun _ _ _ h => h) (Or.inl ⟨by rfl, ?_⟩) ?_ ?_
            rotate_left
            · intro w'
              go_simp
              with_reducible rfl
            rotate_left
            · simp only [Act.put, List.setIfInBounds_toArray, List.set_cons_zero, List.set_cons_succ, i64_w, i32_w]
              rfl
            refine done_ (done_of HT_.out (by kernel_rfl)) ?_
            have L8_w := Aside0.mk (Below.grown hHeld.1 hgy2.out (Below.size hHeld.1) (fun k hk => Nat.le_trans (by omega) (Kd.R_base (Ws.below HO.out hHeld.2.2.1) k hk)))
            clear hHeld
            have hzl : z5.length = k + 1 := by rw [hzy2.out, List.length_append, HPL.out]; rfl
            rw [hzl] at hBy2 ⊢
            go_wp2
            go_roundw
            case rel => exact ⟨k + 1, A5, c5, hlt, by go_num, rfl, ⟨by rw [words_succ, ← hzy2.out]; exact hBy2.out⟩, hby2⟩
            case measure => simp [intOf]; omega
          · obtain rfl : k = n := by omega
            clear hlt
            go_wp2
            go_ret2
            have HVL := Aside0.mk (show V.length = k by rw [HV.out]; exact words_len _ _ _)
            rw [HE.out, HVL.out, HV.out]
            exact ⟨A4, c4, rfl, HO.out.lower HW.out.size, below_then HW.out HW.out.size HWW.out⟩
  · have HV := Aside0.mk (show V = [] by rw [hV, wv, if_neg hok])
    have HE := Aside0.mk (show o = false by rw [ho, hE, we, if_neg hok]; rfl)
    by_cases hL : Lab l
    · have HLb := Aside0.mk (show true = decide (Lab l) from (decide_eq_true hL).symm)
      have hbad : a < 0 ∨ (0 ≤ a ∧ 32 < a) := by
        by_cases h0 : a < 0
        · exact .inl h0
        · refine .inr ⟨by omega, ?_⟩
          by_cases h1 : 32 < a
          · exact h1
          · exact absurd ⟨hL, by omega, by omega⟩ hok
      clear hL hok hV hE ho
      rcases hbad with h0 | ⟨h0, h1⟩
      all_goals
        go_enter Tryd.func23, Tryd.ntmps23
        go_wp2_with (go_at_call 67; (with_reducible refine (RefLabel_calls l hl true HLb.out w).mono ?_); rintro e w1 ⟨rfl, rfl⟩)
        go_ret2
        rw [HV.out, HE.out]
        exact ⟨none, 0, rfl, Ws.nil _ _, Below.refl _ _⟩
    · have HLb := Aside0.mk (show false = decide (Lab l) from (decide_eq_false hL).symm)
      clear hL hok hV hE ho
      go_enter Tryd.func23, Tryd.ntmps23
      go_wp2_with (go_at_call 67; (with_reducible refine (RefLabel_calls l hl false HLb.out w).mono ?_); rintro e w1 ⟨rfl, rfl⟩)
      go_ret2
      rw [HV.out, HE.out]
      exact ⟨none, 0, rfl, Ws.nil _ _, Below.refl _ _⟩
end Go.Proofs.YthmlidlnojdggaaDoor.Prg
