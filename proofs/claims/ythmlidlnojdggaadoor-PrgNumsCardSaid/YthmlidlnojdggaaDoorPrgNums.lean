/- The law PrgNums: the walk. -/
import Derived.Test.YthmlidlnojdggaaDoorPrgSure
set_option linter.unusedVariables false
set_option linter.unusedSimpArgs false
namespace Go.Proofs.YthmlidlnojdggaaDoor.Prg
open Go.RowKit Go.Proofs.YthmlidlnojdggaaDoorW.PrintWords Go.Proofs.YthmlidlnojdggaaDoorW.PrintLast Go.Proofs.YthmlidlnojdggaaDoor.Sha Go.Proofs.YthmlidlnojdggaaDoor.Mac


set_option maxRecDepth 100000 in
set_option maxHeartbeats 8000000 in
theorem nums_0 (seed : Nat) (l : List UInt8) (a b : Int) (hs : seed < 18446744073709551616) (hl : l.length ≤ 300) (V : List W32) (P Q : Nat) (hV : V = wv seed l a) (hP : P = nv seed l b) (hQ : Q = nv seed l 0)
    (hE0 : none = we l a) (hE1 : none = ne l b) (hE2 : none = ne l 0) (w : World) (hL : ErrAs.Laid w) :
    Calls Tryd.prog 5 #[.int .u64 (seed : Int), .string (strOf l), .agg #[.int .i64 a, .int .i64 b]] w fun e w' => e = .returned (.bool true) ∧ Below w.heap.size w w' := by
  have i1 : ((strOf l).size : Int) ≤ 300 := by rw [str_size]; omega
  have hpp : ((P : Int) == (P : Int)) = true := beq_self_eq_true _
  have hqq : ((Q : Int) == (Q : Int)) = true := beq_self_eq_true _
  have HS := Aside0.mk hs
  have HLL := Aside0.mk hl
  have HV := Aside0.mk hV
  have HP := Aside0.mk hP
  have HQ := Aside0.mk hQ
  have HE0 := Aside0.mk hE0
  have HE1 := Aside0.mk hE1
  have HE2 := Aside0.mk hE2
  have HL := Aside0.mk hL
  have hen := errV_none
  have hes := errV_some 1
  clear hs hl hV hP hQ hE0 hE1 hE2 hL
  go_enter Tryd.func5, Tryd.ntmps5
  go_wp2_with (first
    | ((with_reducible refine at_box_ (d := some 5) ?_); (refine wpList_make_ (t := 37) (#[.int .i64 a, .int .i64 b]) (fun g => .pointer (some ⟨g, 0, none⟩)) (by rfl) ?_ ?_); (first | (go_simp; done) | (unfold execOp; go_simp; done) | (simp only [Act.put]; go_simp; done) | (go_simp; constructor <;> rfl) | (go_simp; rfl) | rfl); intro g5 x1 hge_g5 B_g5 hbx1; replace B_g5 := Aside0.mk B_g5; have hz1 := Below.size hbx1; replace hbx1 := Aside0.mk hbx1; have hq0 : x1.cell? ⟨g5, 0, none⟩ = some (.int .i64 a) := (blk_cell B_g5.out 0).trans rfl)
    | (go_at_call 22; (with_reducible refine (Words_calls seed l a HS.out HLL.out V none HV.out HE0.out x1).mono ?_); rintro e x2 ⟨A1, c1, rfl, hB1, hbx2⟩; have L2_w := Aside0.mk (below_then hbx1.out (Below.size hbx1.out) hbx2); have hz2 := Below.size hbx2; replace hbx2 := Aside0.mk hbx2; have K1 := Aside0.mk (show K32.C x2 A1 V.length V from hB1.read.1); have hq1 : x2.cell? ⟨g5, 0, none⟩ = some (.int .i64 a) := (blk_cell (blk_below B_g5.out hbx2.out) 0).trans rfl)
    | (go_at_call 23; (with_reducible refine (RefWords_calls seed l a HS.out HLL.out V none true HV.out HE0.out rfl x2).mono ?_); rintro e x3 ⟨A2, c2, rfl, hB2, hbx3⟩; have L3_w := Aside0.mk (below_then L2_w.out (Below.size L2_w.out) hbx3); have L3_x1 := Aside0.mk (below_then hbx2.out (Below.size hbx2.out) hbx3); have hz3 := Below.size hbx3; replace hbx3 := Aside0.mk hbx3; have K2 := Aside0.mk (show K32.C x3 A2 V.length V from hB2.read.1); have hq2 : x3.cell? ⟨g5, 1, none⟩ = some (.int .i64 b) := (blk_cell (blk_below B_g5.out L3_x1.out) 1).trans rfl)
    | (go_at_call 24; (with_reducible refine (Num_calls seed l b HS.out HLL.out P none HP.out HE1.out x3).mono ?_); rintro e x4 ⟨rfl, hbx4⟩; have L4_w := Aside0.mk (below_then L3_w.out (Below.size L3_w.out) hbx4); have L4_x1 := Aside0.mk (below_then L3_x1.out (Below.size L3_x1.out) hbx4); have L4_x2 := Aside0.mk (below_then hbx3.out (Below.size hbx3.out) hbx4); have hz4 := Below.size hbx4; replace hbx4 := Aside0.mk hbx4; have hq3 : x4.cell? ⟨g5, 1, none⟩ = some (.int .i64 b) := (blk_cell (blk_below B_g5.out L4_x1.out) 1).trans rfl)
    | (go_at_call 25; (with_reducible refine (RefNum_calls seed l b HS.out HLL.out P none true HP.out HE1.out rfl x4).mono ?_); rintro e x5 ⟨rfl, hbx5⟩; have L5_w := Aside0.mk (below_then L4_w.out (Below.size L4_w.out) hbx5); have L5_x1 := Aside0.mk (below_then L4_x1.out (Below.size L4_x1.out) hbx5); have L5_x2 := Aside0.mk (below_then L4_x2.out (Below.size L4_x2.out) hbx5); have L5_x3 := Aside0.mk (below_then hbx4.out (Below.size hbx4.out) hbx5); have hz5 := Below.size hbx5; replace hbx5 := Aside0.mk hbx5)
    | (go_at_call 26; (with_reducible refine (Child_calls seed l HS.out HLL.out Q none HQ.out HE2.out x5).mono ?_); rintro e x6 ⟨rfl, hbx6⟩; have L6_w := Aside0.mk (below_then L5_w.out (Below.size L5_w.out) hbx6); have L6_x1 := Aside0.mk (below_then L5_x1.out (Below.size L5_x1.out) hbx6); have L6_x2 := Aside0.mk (below_then L5_x2.out (Below.size L5_x2.out) hbx6); have L6_x3 := Aside0.mk (below_then L5_x3.out (Below.size L5_x3.out) hbx6); have hz6 := Below.size hbx6; replace hbx6 := Aside0.mk hbx6)
    | (go_at_call 25; (with_reducible refine (RefNum_calls seed l 0 HS.out HLL.out Q none true HQ.out HE2.out rfl x6).mono ?_); rintro e x7 ⟨rfl, hbx7⟩; have L7_w := Aside0.mk (below_then L6_w.out (Below.size L6_w.out) hbx7); have L7_x1 := Aside0.mk (below_then L6_x1.out (Below.size L6_x1.out) hbx7); have L7_x2 := Aside0.mk (below_then L6_x2.out (Below.size L6_x2.out) hbx7); have L7_x3 := Aside0.mk (below_then L6_x3.out (Below.size L6_x3.out) hbx7); have hz7 := Below.size hbx7; replace hbx7 := Aside0.mk hbx7)
    | (go_at_call 27; (with_reducible refine (RefSame_calls A1 A2 c1 c2 V.length V.length V V x7 rfl rfl (Kd.C_below K1.out L7_x2.out) (Kd.C_below K2.out L7_x3.out) true (beq_self_eq_true _).symm).mono ?_); rintro e x8 ⟨rfl, hbx8⟩; have L8_w := Aside0.mk (below_then L7_w.out (Below.size L7_w.out) hbx8); have L8_x1 := Aside0.mk (below_then L7_x1.out (Below.size L7_x1.out) hbx8); have L8_x2 := Aside0.mk (below_then L7_x2.out (Below.size L7_x2.out) hbx8); have L8_x3 := Aside0.mk (below_then L7_x3.out (Below.size L7_x3.out) hbx8); have hz8 := Below.size hbx8; replace hbx8 := Aside0.mk hbx8)
    | (go_at_call 21; (with_reducible refine (sure_calls x8 (ErrAs.Laid.below HL.out L8_w.out)).mono ?_); rintro e x9 ⟨rfl, hbx9⟩; have L9_w := Aside0.mk (below_then L8_w.out (Below.size L8_w.out) hbx9); have L9_x1 := Aside0.mk (below_then L8_x1.out (Below.size L8_x1.out) hbx9); have L9_x2 := Aside0.mk (below_then L8_x2.out (Below.size L8_x2.out) hbx9); have L9_x3 := Aside0.mk (below_then L8_x3.out (Below.size L8_x3.out) hbx9); have hz9 := Below.size hbx9; replace hbx9 := Aside0.mk hbx9))
  go_ret
  exact ⟨rfl, L9_w.out⟩
set_option maxRecDepth 100000 in
set_option maxHeartbeats 8000000 in
theorem nums_1 (seed : Nat) (l : List UInt8) (a b : Int) (hs : seed < 18446744073709551616) (hl : l.length ≤ 300) (V : List W32) (P Q : Nat) (hV : V = wv seed l a) (hP : P = nv seed l b) (hQ : Q = nv seed l 0)
    (hE0 : none = we l a) (hE1 : (some 1) = ne l b) (hE2 : none = ne l 0) (w : World) (hL : ErrAs.Laid w) :
    Calls Tryd.prog 5 #[.int .u64 (seed : Int), .string (strOf l), .agg #[.int .i64 a, .int .i64 b]] w fun e w' => e = .returned (.bool true) ∧ Below w.heap.size w w' := by
  have i1 : ((strOf l).size : Int) ≤ 300 := by rw [str_size]; omega
  have hpp : ((P : Int) == (P : Int)) = true := beq_self_eq_true _
  have hqq : ((Q : Int) == (Q : Int)) = true := beq_self_eq_true _
  have HS := Aside0.mk hs
  have HLL := Aside0.mk hl
  have HV := Aside0.mk hV
  have HP := Aside0.mk hP
  have HQ := Aside0.mk hQ
  have HE0 := Aside0.mk hE0
  have HE1 := Aside0.mk hE1
  have HE2 := Aside0.mk hE2
  have HL := Aside0.mk hL
  have hen := errV_none
  have hes := errV_some 1
  clear hs hl hV hP hQ hE0 hE1 hE2 hL
  go_enter Tryd.func5, Tryd.ntmps5
  go_wp2_with (first
    | ((with_reducible refine at_box_ (d := some 5) ?_); (refine wpList_make_ (t := 37) (#[.int .i64 a, .int .i64 b]) (fun g => .pointer (some ⟨g, 0, none⟩)) (by rfl) ?_ ?_); (first | (go_simp; done) | (unfold execOp; go_simp; done) | (simp only [Act.put]; go_simp; done) | (go_simp; constructor <;> rfl) | (go_simp; rfl) | rfl); intro g5 y1 hge_g5 B_g5 hby1; replace B_g5 := Aside0.mk B_g5; have hz10 := Below.size hby1; replace hby1 := Aside0.mk hby1; have hq0 : y1.cell? ⟨g5, 0, none⟩ = some (.int .i64 a) := (blk_cell B_g5.out 0).trans rfl)
    | (go_at_call 22; (with_reducible refine (Words_calls seed l a HS.out HLL.out V none HV.out HE0.out y1).mono ?_); rintro e y2 ⟨A1, c1, rfl, hB1, hby2⟩; have L11_w := Aside0.mk (below_then hby1.out (Below.size hby1.out) hby2); have hz11 := Below.size hby2; replace hby2 := Aside0.mk hby2; have K1 := Aside0.mk (show K32.C y2 A1 V.length V from hB1.read.1); have hq1 : y2.cell? ⟨g5, 0, none⟩ = some (.int .i64 a) := (blk_cell (blk_below B_g5.out hby2.out) 0).trans rfl)
    | (go_at_call 23; (with_reducible refine (RefWords_calls seed l a HS.out HLL.out V none true HV.out HE0.out rfl y2).mono ?_); rintro e y3 ⟨A2, c2, rfl, hB2, hby3⟩; have L12_w := Aside0.mk (below_then L11_w.out (Below.size L11_w.out) hby3); have L12_y1 := Aside0.mk (below_then hby2.out (Below.size hby2.out) hby3); have hz12 := Below.size hby3; replace hby3 := Aside0.mk hby3; have K2 := Aside0.mk (show K32.C y3 A2 V.length V from hB2.read.1); have hq2 : y3.cell? ⟨g5, 1, none⟩ = some (.int .i64 b) := (blk_cell (blk_below B_g5.out L12_y1.out) 1).trans rfl)
    | (go_at_call 24; (with_reducible refine (Num_calls seed l b HS.out HLL.out P (some 1) HP.out HE1.out y3).mono ?_); rintro e y4 ⟨rfl, hby4⟩; have L13_w := Aside0.mk (below_then L12_w.out (Below.size L12_w.out) hby4); have L13_y1 := Aside0.mk (below_then L12_y1.out (Below.size L12_y1.out) hby4); have L13_y2 := Aside0.mk (below_then hby3.out (Below.size hby3.out) hby4); have hz13 := Below.size hby4; replace hby4 := Aside0.mk hby4; have hq3 : y4.cell? ⟨g5, 1, none⟩ = some (.int .i64 b) := (blk_cell (blk_below B_g5.out L13_y1.out) 1).trans rfl)
    | (go_at_call 25; (with_reducible refine (RefNum_calls seed l b HS.out HLL.out P (some 1) false HP.out HE1.out rfl y4).mono ?_); rintro e y5 ⟨rfl, hby5⟩; have L14_w := Aside0.mk (below_then L13_w.out (Below.size L13_w.out) hby5); have L14_y1 := Aside0.mk (below_then L13_y1.out (Below.size L13_y1.out) hby5); have L14_y2 := Aside0.mk (below_then L13_y2.out (Below.size L13_y2.out) hby5); have L14_y3 := Aside0.mk (below_then hby4.out (Below.size hby4.out) hby5); have hz14 := Below.size hby5; replace hby5 := Aside0.mk hby5)
    | (go_at_call 26; (with_reducible refine (Child_calls seed l HS.out HLL.out Q none HQ.out HE2.out y5).mono ?_); rintro e y6 ⟨rfl, hby6⟩; have L15_w := Aside0.mk (below_then L14_w.out (Below.size L14_w.out) hby6); have L15_y1 := Aside0.mk (below_then L14_y1.out (Below.size L14_y1.out) hby6); have L15_y2 := Aside0.mk (below_then L14_y2.out (Below.size L14_y2.out) hby6); have L15_y3 := Aside0.mk (below_then L14_y3.out (Below.size L14_y3.out) hby6); have hz15 := Below.size hby6; replace hby6 := Aside0.mk hby6)
    | (go_at_call 25; (with_reducible refine (RefNum_calls seed l 0 HS.out HLL.out Q none true HQ.out HE2.out rfl y6).mono ?_); rintro e y7 ⟨rfl, hby7⟩; have L16_w := Aside0.mk (below_then L15_w.out (Below.size L15_w.out) hby7); have L16_y1 := Aside0.mk (below_then L15_y1.out (Below.size L15_y1.out) hby7); have L16_y2 := Aside0.mk (below_then L15_y2.out (Below.size L15_y2.out) hby7); have L16_y3 := Aside0.mk (below_then L15_y3.out (Below.size L15_y3.out) hby7); have hz16 := Below.size hby7; replace hby7 := Aside0.mk hby7)
    | (go_at_call 27; (with_reducible refine (RefSame_calls A1 A2 c1 c2 V.length V.length V V y7 rfl rfl (Kd.C_below K1.out L16_y2.out) (Kd.C_below K2.out L16_y3.out) true (beq_self_eq_true _).symm).mono ?_); rintro e y8 ⟨rfl, hby8⟩; have L17_w := Aside0.mk (below_then L16_w.out (Below.size L16_w.out) hby8); have L17_y1 := Aside0.mk (below_then L16_y1.out (Below.size L16_y1.out) hby8); have L17_y2 := Aside0.mk (below_then L16_y2.out (Below.size L16_y2.out) hby8); have L17_y3 := Aside0.mk (below_then L16_y3.out (Below.size L16_y3.out) hby8); have hz17 := Below.size hby8; replace hby8 := Aside0.mk hby8)
    | (go_at_call 28; refine (caucuslaw07.num_calls (some 1) y8 (ErrAs.Laid.below HL.out L17_w.out)).mono ?_; rintro e y9 ⟨rfl, hby9⟩; have L18_w := Aside0.mk (below_then L17_w.out (Below.size L17_w.out) hby9); have L18_y1 := Aside0.mk (below_then L17_y1.out (Below.size L17_y1.out) hby9); have L18_y2 := Aside0.mk (below_then L17_y2.out (Below.size L17_y2.out) hby9); have L18_y3 := Aside0.mk (below_then L17_y3.out (Below.size L17_y3.out) hby9); have hz18 := Below.size hby9; replace hby9 := Aside0.mk hby9)
    | (go_at_call 21; (with_reducible refine (sure_calls y9 (ErrAs.Laid.below HL.out L18_w.out)).mono ?_); rintro e y10 ⟨rfl, hby10⟩; have L19_w := Aside0.mk (below_then L18_w.out (Below.size L18_w.out) hby10); have L19_y1 := Aside0.mk (below_then L18_y1.out (Below.size L18_y1.out) hby10); have L19_y2 := Aside0.mk (below_then L18_y2.out (Below.size L18_y2.out) hby10); have L19_y3 := Aside0.mk (below_then L18_y3.out (Below.size L18_y3.out) hby10); have hz19 := Below.size hby10; replace hby10 := Aside0.mk hby10))
  go_ret
  exact ⟨rfl, L19_w.out⟩
set_option maxRecDepth 100000 in
set_option maxHeartbeats 8000000 in
theorem nums_2 (seed : Nat) (l : List UInt8) (a b : Int) (hs : seed < 18446744073709551616) (hl : l.length ≤ 300) (V : List W32) (P Q : Nat) (hV : V = wv seed l a) (hP : P = nv seed l b) (hQ : Q = nv seed l 0)
    (hE0 : (some 1) = we l a) (hE1 : none = ne l b) (hE2 : none = ne l 0) (w : World) (hL : ErrAs.Laid w) :
    Calls Tryd.prog 5 #[.int .u64 (seed : Int), .string (strOf l), .agg #[.int .i64 a, .int .i64 b]] w fun e w' => e = .returned (.bool true) ∧ Below w.heap.size w w' := by
  have i1 : ((strOf l).size : Int) ≤ 300 := by rw [str_size]; omega
  have hpp : ((P : Int) == (P : Int)) = true := beq_self_eq_true _
  have hqq : ((Q : Int) == (Q : Int)) = true := beq_self_eq_true _
  have HS := Aside0.mk hs
  have HLL := Aside0.mk hl
  have HV := Aside0.mk hV
  have HP := Aside0.mk hP
  have HQ := Aside0.mk hQ
  have HE0 := Aside0.mk hE0
  have HE1 := Aside0.mk hE1
  have HE2 := Aside0.mk hE2
  have HL := Aside0.mk hL
  have hen := errV_none
  have hes := errV_some 1
  clear hs hl hV hP hQ hE0 hE1 hE2 hL
  go_enter Tryd.func5, Tryd.ntmps5
  go_wp2_with (first
    | ((with_reducible refine at_box_ (d := some 5) ?_); (refine wpList_make_ (t := 37) (#[.int .i64 a, .int .i64 b]) (fun g => .pointer (some ⟨g, 0, none⟩)) (by rfl) ?_ ?_); (first | (go_simp; done) | (unfold execOp; go_simp; done) | (simp only [Act.put]; go_simp; done) | (go_simp; constructor <;> rfl) | (go_simp; rfl) | rfl); intro g5 z1 hge_g5 B_g5 hbz1; replace B_g5 := Aside0.mk B_g5; have hz20 := Below.size hbz1; replace hbz1 := Aside0.mk hbz1; have hq0 : z1.cell? ⟨g5, 0, none⟩ = some (.int .i64 a) := (blk_cell B_g5.out 0).trans rfl)
    | (go_at_call 22; (with_reducible refine (Words_calls seed l a HS.out HLL.out V (some 1) HV.out HE0.out z1).mono ?_); rintro e z2 ⟨A1, c1, rfl, hB1, hbz2⟩; have L21_w := Aside0.mk (below_then hbz1.out (Below.size hbz1.out) hbz2); have hz21 := Below.size hbz2; replace hbz2 := Aside0.mk hbz2; have K1 := Aside0.mk (show K32.C z2 A1 V.length V from hB1.read.1); have hq1 : z2.cell? ⟨g5, 0, none⟩ = some (.int .i64 a) := (blk_cell (blk_below B_g5.out hbz2.out) 0).trans rfl)
    | (go_at_call 23; (with_reducible refine (RefWords_calls seed l a HS.out HLL.out V (some 1) false HV.out HE0.out rfl z2).mono ?_); rintro e z3 ⟨A2, c2, rfl, hB2, hbz3⟩; have L22_w := Aside0.mk (below_then L21_w.out (Below.size L21_w.out) hbz3); have L22_z1 := Aside0.mk (below_then hbz2.out (Below.size hbz2.out) hbz3); have hz22 := Below.size hbz3; replace hbz3 := Aside0.mk hbz3; have K2 := Aside0.mk (show K32.C z3 A2 V.length V from hB2.read.1); have hq2 : z3.cell? ⟨g5, 1, none⟩ = some (.int .i64 b) := (blk_cell (blk_below B_g5.out L22_z1.out) 1).trans rfl)
    | (go_at_call 24; (with_reducible refine (Num_calls seed l b HS.out HLL.out P none HP.out HE1.out z3).mono ?_); rintro e z4 ⟨rfl, hbz4⟩; have L23_w := Aside0.mk (below_then L22_w.out (Below.size L22_w.out) hbz4); have L23_z1 := Aside0.mk (below_then L22_z1.out (Below.size L22_z1.out) hbz4); have L23_z2 := Aside0.mk (below_then hbz3.out (Below.size hbz3.out) hbz4); have hz23 := Below.size hbz4; replace hbz4 := Aside0.mk hbz4; have hq3 : z4.cell? ⟨g5, 1, none⟩ = some (.int .i64 b) := (blk_cell (blk_below B_g5.out L23_z1.out) 1).trans rfl)
    | (go_at_call 25; (with_reducible refine (RefNum_calls seed l b HS.out HLL.out P none true HP.out HE1.out rfl z4).mono ?_); rintro e z5 ⟨rfl, hbz5⟩; have L24_w := Aside0.mk (below_then L23_w.out (Below.size L23_w.out) hbz5); have L24_z1 := Aside0.mk (below_then L23_z1.out (Below.size L23_z1.out) hbz5); have L24_z2 := Aside0.mk (below_then L23_z2.out (Below.size L23_z2.out) hbz5); have L24_z3 := Aside0.mk (below_then hbz4.out (Below.size hbz4.out) hbz5); have hz24 := Below.size hbz5; replace hbz5 := Aside0.mk hbz5)
    | (go_at_call 26; (with_reducible refine (Child_calls seed l HS.out HLL.out Q none HQ.out HE2.out z5).mono ?_); rintro e z6 ⟨rfl, hbz6⟩; have L25_w := Aside0.mk (below_then L24_w.out (Below.size L24_w.out) hbz6); have L25_z1 := Aside0.mk (below_then L24_z1.out (Below.size L24_z1.out) hbz6); have L25_z2 := Aside0.mk (below_then L24_z2.out (Below.size L24_z2.out) hbz6); have L25_z3 := Aside0.mk (below_then L24_z3.out (Below.size L24_z3.out) hbz6); have hz25 := Below.size hbz6; replace hbz6 := Aside0.mk hbz6)
    | (go_at_call 25; (with_reducible refine (RefNum_calls seed l 0 HS.out HLL.out Q none true HQ.out HE2.out rfl z6).mono ?_); rintro e z7 ⟨rfl, hbz7⟩; have L26_w := Aside0.mk (below_then L25_w.out (Below.size L25_w.out) hbz7); have L26_z1 := Aside0.mk (below_then L25_z1.out (Below.size L25_z1.out) hbz7); have L26_z2 := Aside0.mk (below_then L25_z2.out (Below.size L25_z2.out) hbz7); have L26_z3 := Aside0.mk (below_then L25_z3.out (Below.size L25_z3.out) hbz7); have hz26 := Below.size hbz7; replace hbz7 := Aside0.mk hbz7)
    | (go_at_call 27; (with_reducible refine (RefSame_calls A1 A2 c1 c2 V.length V.length V V z7 rfl rfl (Kd.C_below K1.out L26_z2.out) (Kd.C_below K2.out L26_z3.out) true (beq_self_eq_true _).symm).mono ?_); rintro e z8 ⟨rfl, hbz8⟩; have L27_w := Aside0.mk (below_then L26_w.out (Below.size L26_w.out) hbz8); have L27_z1 := Aside0.mk (below_then L26_z1.out (Below.size L26_z1.out) hbz8); have L27_z2 := Aside0.mk (below_then L26_z2.out (Below.size L26_z2.out) hbz8); have L27_z3 := Aside0.mk (below_then L26_z3.out (Below.size L26_z3.out) hbz8); have hz27 := Below.size hbz8; replace hbz8 := Aside0.mk hbz8)
    | (go_at_call 28; refine (caucuslaw07.num_calls (some 1) z8 (ErrAs.Laid.below HL.out L27_w.out)).mono ?_; rintro e z9 ⟨rfl, hbz9⟩; have L28_w := Aside0.mk (below_then L27_w.out (Below.size L27_w.out) hbz9); have L28_z1 := Aside0.mk (below_then L27_z1.out (Below.size L27_z1.out) hbz9); have L28_z2 := Aside0.mk (below_then L27_z2.out (Below.size L27_z2.out) hbz9); have L28_z3 := Aside0.mk (below_then L27_z3.out (Below.size L27_z3.out) hbz9); have hz28 := Below.size hbz9; replace hbz9 := Aside0.mk hbz9)
    | (go_at_call 21; (with_reducible refine (sure_calls z9 (ErrAs.Laid.below HL.out L28_w.out)).mono ?_); rintro e z10 ⟨rfl, hbz10⟩; have L29_w := Aside0.mk (below_then L28_w.out (Below.size L28_w.out) hbz10); have L29_z1 := Aside0.mk (below_then L28_z1.out (Below.size L28_z1.out) hbz10); have L29_z2 := Aside0.mk (below_then L28_z2.out (Below.size L28_z2.out) hbz10); have L29_z3 := Aside0.mk (below_then L28_z3.out (Below.size L28_z3.out) hbz10); have hz29 := Below.size hbz10; replace hbz10 := Aside0.mk hbz10))
  go_ret
  exact ⟨rfl, L29_w.out⟩
set_option maxRecDepth 100000 in
set_option maxHeartbeats 8000000 in
theorem nums_3 (seed : Nat) (l : List UInt8) (a b : Int) (hs : seed < 18446744073709551616) (hl : l.length ≤ 300) (V : List W32) (P Q : Nat) (hV : V = wv seed l a) (hP : P = nv seed l b) (hQ : Q = nv seed l 0)
    (hE0 : (some 1) = we l a) (hE1 : (some 1) = ne l b) (hE2 : none = ne l 0) (w : World) (hL : ErrAs.Laid w) :
    Calls Tryd.prog 5 #[.int .u64 (seed : Int), .string (strOf l), .agg #[.int .i64 a, .int .i64 b]] w fun e w' => e = .returned (.bool true) ∧ Below w.heap.size w w' := by
  have i1 : ((strOf l).size : Int) ≤ 300 := by rw [str_size]; omega
  have hpp : ((P : Int) == (P : Int)) = true := beq_self_eq_true _
  have hqq : ((Q : Int) == (Q : Int)) = true := beq_self_eq_true _
  have HS := Aside0.mk hs
  have HLL := Aside0.mk hl
  have HV := Aside0.mk hV
  have HP := Aside0.mk hP
  have HQ := Aside0.mk hQ
  have HE0 := Aside0.mk hE0
  have HE1 := Aside0.mk hE1
  have HE2 := Aside0.mk hE2
  have HL := Aside0.mk hL
  have hen := errV_none
  have hes := errV_some 1
  clear hs hl hV hP hQ hE0 hE1 hE2 hL
  go_enter Tryd.func5, Tryd.ntmps5
  go_wp2_with (first
    | ((with_reducible refine at_box_ (d := some 5) ?_); (refine wpList_make_ (t := 37) (#[.int .i64 a, .int .i64 b]) (fun g => .pointer (some ⟨g, 0, none⟩)) (by rfl) ?_ ?_); (first | (go_simp; done) | (unfold execOp; go_simp; done) | (simp only [Act.put]; go_simp; done) | (go_simp; constructor <;> rfl) | (go_simp; rfl) | rfl); intro g5 u1 hge_g5 B_g5 hbu1; replace B_g5 := Aside0.mk B_g5; have hz30 := Below.size hbu1; replace hbu1 := Aside0.mk hbu1; have hq0 : u1.cell? ⟨g5, 0, none⟩ = some (.int .i64 a) := (blk_cell B_g5.out 0).trans rfl)
    | (go_at_call 22; (with_reducible refine (Words_calls seed l a HS.out HLL.out V (some 1) HV.out HE0.out u1).mono ?_); rintro e u2 ⟨A1, c1, rfl, hB1, hbu2⟩; have L31_w := Aside0.mk (below_then hbu1.out (Below.size hbu1.out) hbu2); have hz31 := Below.size hbu2; replace hbu2 := Aside0.mk hbu2; have K1 := Aside0.mk (show K32.C u2 A1 V.length V from hB1.read.1); have hq1 : u2.cell? ⟨g5, 0, none⟩ = some (.int .i64 a) := (blk_cell (blk_below B_g5.out hbu2.out) 0).trans rfl)
    | (go_at_call 23; (with_reducible refine (RefWords_calls seed l a HS.out HLL.out V (some 1) false HV.out HE0.out rfl u2).mono ?_); rintro e u3 ⟨A2, c2, rfl, hB2, hbu3⟩; have L32_w := Aside0.mk (below_then L31_w.out (Below.size L31_w.out) hbu3); have L32_u1 := Aside0.mk (below_then hbu2.out (Below.size hbu2.out) hbu3); have hz32 := Below.size hbu3; replace hbu3 := Aside0.mk hbu3; have K2 := Aside0.mk (show K32.C u3 A2 V.length V from hB2.read.1); have hq2 : u3.cell? ⟨g5, 1, none⟩ = some (.int .i64 b) := (blk_cell (blk_below B_g5.out L32_u1.out) 1).trans rfl)
    | (go_at_call 24; (with_reducible refine (Num_calls seed l b HS.out HLL.out P (some 1) HP.out HE1.out u3).mono ?_); rintro e u4 ⟨rfl, hbu4⟩; have L33_w := Aside0.mk (below_then L32_w.out (Below.size L32_w.out) hbu4); have L33_u1 := Aside0.mk (below_then L32_u1.out (Below.size L32_u1.out) hbu4); have L33_u2 := Aside0.mk (below_then hbu3.out (Below.size hbu3.out) hbu4); have hz33 := Below.size hbu4; replace hbu4 := Aside0.mk hbu4; have hq3 : u4.cell? ⟨g5, 1, none⟩ = some (.int .i64 b) := (blk_cell (blk_below B_g5.out L33_u1.out) 1).trans rfl)
    | (go_at_call 25; (with_reducible refine (RefNum_calls seed l b HS.out HLL.out P (some 1) false HP.out HE1.out rfl u4).mono ?_); rintro e u5 ⟨rfl, hbu5⟩; have L34_w := Aside0.mk (below_then L33_w.out (Below.size L33_w.out) hbu5); have L34_u1 := Aside0.mk (below_then L33_u1.out (Below.size L33_u1.out) hbu5); have L34_u2 := Aside0.mk (below_then L33_u2.out (Below.size L33_u2.out) hbu5); have L34_u3 := Aside0.mk (below_then hbu4.out (Below.size hbu4.out) hbu5); have hz34 := Below.size hbu5; replace hbu5 := Aside0.mk hbu5)
    | (go_at_call 26; (with_reducible refine (Child_calls seed l HS.out HLL.out Q none HQ.out HE2.out u5).mono ?_); rintro e u6 ⟨rfl, hbu6⟩; have L35_w := Aside0.mk (below_then L34_w.out (Below.size L34_w.out) hbu6); have L35_u1 := Aside0.mk (below_then L34_u1.out (Below.size L34_u1.out) hbu6); have L35_u2 := Aside0.mk (below_then L34_u2.out (Below.size L34_u2.out) hbu6); have L35_u3 := Aside0.mk (below_then L34_u3.out (Below.size L34_u3.out) hbu6); have hz35 := Below.size hbu6; replace hbu6 := Aside0.mk hbu6)
    | (go_at_call 25; (with_reducible refine (RefNum_calls seed l 0 HS.out HLL.out Q none true HQ.out HE2.out rfl u6).mono ?_); rintro e u7 ⟨rfl, hbu7⟩; have L36_w := Aside0.mk (below_then L35_w.out (Below.size L35_w.out) hbu7); have L36_u1 := Aside0.mk (below_then L35_u1.out (Below.size L35_u1.out) hbu7); have L36_u2 := Aside0.mk (below_then L35_u2.out (Below.size L35_u2.out) hbu7); have L36_u3 := Aside0.mk (below_then L35_u3.out (Below.size L35_u3.out) hbu7); have hz36 := Below.size hbu7; replace hbu7 := Aside0.mk hbu7)
    | (go_at_call 27; (with_reducible refine (RefSame_calls A1 A2 c1 c2 V.length V.length V V u7 rfl rfl (Kd.C_below K1.out L36_u2.out) (Kd.C_below K2.out L36_u3.out) true (beq_self_eq_true _).symm).mono ?_); rintro e u8 ⟨rfl, hbu8⟩; have L37_w := Aside0.mk (below_then L36_w.out (Below.size L36_w.out) hbu8); have L37_u1 := Aside0.mk (below_then L36_u1.out (Below.size L36_u1.out) hbu8); have L37_u2 := Aside0.mk (below_then L36_u2.out (Below.size L36_u2.out) hbu8); have L37_u3 := Aside0.mk (below_then L36_u3.out (Below.size L36_u3.out) hbu8); have hz37 := Below.size hbu8; replace hbu8 := Aside0.mk hbu8)
    | (go_at_call 28; refine (caucuslaw07.num_calls (some 1) u8 (ErrAs.Laid.below HL.out L37_w.out)).mono ?_; rintro e u9 ⟨rfl, hbu9⟩; have L38_w := Aside0.mk (below_then L37_w.out (Below.size L37_w.out) hbu9); have L38_u1 := Aside0.mk (below_then L37_u1.out (Below.size L37_u1.out) hbu9); have L38_u2 := Aside0.mk (below_then L37_u2.out (Below.size L37_u2.out) hbu9); have L38_u3 := Aside0.mk (below_then L37_u3.out (Below.size L37_u3.out) hbu9); have hz38 := Below.size hbu9; replace hbu9 := Aside0.mk hbu9)
    | (go_at_call 28; refine (caucuslaw07.num_calls (some 1) u9 (ErrAs.Laid.below HL.out L38_w.out)).mono ?_; rintro e u10 ⟨rfl, hbu10⟩; have L39_w := Aside0.mk (below_then L38_w.out (Below.size L38_w.out) hbu10); have L39_u1 := Aside0.mk (below_then L38_u1.out (Below.size L38_u1.out) hbu10); have L39_u2 := Aside0.mk (below_then L38_u2.out (Below.size L38_u2.out) hbu10); have L39_u3 := Aside0.mk (below_then L38_u3.out (Below.size L38_u3.out) hbu10); have hz39 := Below.size hbu10; replace hbu10 := Aside0.mk hbu10)
    | (go_at_call 21; (with_reducible refine (sure_calls u10 (ErrAs.Laid.below HL.out L39_w.out)).mono ?_); rintro e u11 ⟨rfl, hbu11⟩; have L40_w := Aside0.mk (below_then L39_w.out (Below.size L39_w.out) hbu11); have L40_u1 := Aside0.mk (below_then L39_u1.out (Below.size L39_u1.out) hbu11); have L40_u2 := Aside0.mk (below_then L39_u2.out (Below.size L39_u2.out) hbu11); have L40_u3 := Aside0.mk (below_then L39_u3.out (Below.size L39_u3.out) hbu11); have hz40 := Below.size hbu11; replace hbu11 := Aside0.mk hbu11))
  go_ret
  exact ⟨rfl, L40_w.out⟩
set_option maxRecDepth 100000 in
set_option maxHeartbeats 8000000 in
theorem nums_4 (seed : Nat) (l : List UInt8) (a b : Int) (hs : seed < 18446744073709551616) (hl : l.length ≤ 300) (V : List W32) (P Q : Nat) (hV : V = wv seed l a) (hP : P = nv seed l b) (hQ : Q = nv seed l 0)
    (hE0 : (some 1) = we l a) (hE1 : (some 1) = ne l b) (hE2 : (some 1) = ne l 0) (w : World) (hL : ErrAs.Laid w) :
    Calls Tryd.prog 5 #[.int .u64 (seed : Int), .string (strOf l), .agg #[.int .i64 a, .int .i64 b]] w fun e w' => e = .returned (.bool true) ∧ Below w.heap.size w w' := by
  have i1 : ((strOf l).size : Int) ≤ 300 := by rw [str_size]; omega
  have hpp : ((P : Int) == (P : Int)) = true := beq_self_eq_true _
  have hqq : ((Q : Int) == (Q : Int)) = true := beq_self_eq_true _
  have HS := Aside0.mk hs
  have HLL := Aside0.mk hl
  have HV := Aside0.mk hV
  have HP := Aside0.mk hP
  have HQ := Aside0.mk hQ
  have HE0 := Aside0.mk hE0
  have HE1 := Aside0.mk hE1
  have HE2 := Aside0.mk hE2
  have HL := Aside0.mk hL
  have hen := errV_none
  have hes := errV_some 1
  clear hs hl hV hP hQ hE0 hE1 hE2 hL
  go_enter Tryd.func5, Tryd.ntmps5
  go_wp2_with (first
    | ((with_reducible refine at_box_ (d := some 5) ?_); (refine wpList_make_ (t := 37) (#[.int .i64 a, .int .i64 b]) (fun g => .pointer (some ⟨g, 0, none⟩)) (by rfl) ?_ ?_); (first | (go_simp; done) | (unfold execOp; go_simp; done) | (simp only [Act.put]; go_simp; done) | (go_simp; constructor <;> rfl) | (go_simp; rfl) | rfl); intro g5 v1 hge_g5 B_g5 hbv1; replace B_g5 := Aside0.mk B_g5; have hz41 := Below.size hbv1; replace hbv1 := Aside0.mk hbv1; have hq0 : v1.cell? ⟨g5, 0, none⟩ = some (.int .i64 a) := (blk_cell B_g5.out 0).trans rfl)
    | (go_at_call 22; (with_reducible refine (Words_calls seed l a HS.out HLL.out V (some 1) HV.out HE0.out v1).mono ?_); rintro e v2 ⟨A1, c1, rfl, hB1, hbv2⟩; have L42_w := Aside0.mk (below_then hbv1.out (Below.size hbv1.out) hbv2); have hz42 := Below.size hbv2; replace hbv2 := Aside0.mk hbv2; have K1 := Aside0.mk (show K32.C v2 A1 V.length V from hB1.read.1); have hq1 : v2.cell? ⟨g5, 0, none⟩ = some (.int .i64 a) := (blk_cell (blk_below B_g5.out hbv2.out) 0).trans rfl)
    | (go_at_call 23; (with_reducible refine (RefWords_calls seed l a HS.out HLL.out V (some 1) false HV.out HE0.out rfl v2).mono ?_); rintro e v3 ⟨A2, c2, rfl, hB2, hbv3⟩; have L43_w := Aside0.mk (below_then L42_w.out (Below.size L42_w.out) hbv3); have L43_v1 := Aside0.mk (below_then hbv2.out (Below.size hbv2.out) hbv3); have hz43 := Below.size hbv3; replace hbv3 := Aside0.mk hbv3; have K2 := Aside0.mk (show K32.C v3 A2 V.length V from hB2.read.1); have hq2 : v3.cell? ⟨g5, 1, none⟩ = some (.int .i64 b) := (blk_cell (blk_below B_g5.out L43_v1.out) 1).trans rfl)
    | (go_at_call 24; (with_reducible refine (Num_calls seed l b HS.out HLL.out P (some 1) HP.out HE1.out v3).mono ?_); rintro e v4 ⟨rfl, hbv4⟩; have L44_w := Aside0.mk (below_then L43_w.out (Below.size L43_w.out) hbv4); have L44_v1 := Aside0.mk (below_then L43_v1.out (Below.size L43_v1.out) hbv4); have L44_v2 := Aside0.mk (below_then hbv3.out (Below.size hbv3.out) hbv4); have hz44 := Below.size hbv4; replace hbv4 := Aside0.mk hbv4; have hq3 : v4.cell? ⟨g5, 1, none⟩ = some (.int .i64 b) := (blk_cell (blk_below B_g5.out L44_v1.out) 1).trans rfl)
    | (go_at_call 25; (with_reducible refine (RefNum_calls seed l b HS.out HLL.out P (some 1) false HP.out HE1.out rfl v4).mono ?_); rintro e v5 ⟨rfl, hbv5⟩; have L45_w := Aside0.mk (below_then L44_w.out (Below.size L44_w.out) hbv5); have L45_v1 := Aside0.mk (below_then L44_v1.out (Below.size L44_v1.out) hbv5); have L45_v2 := Aside0.mk (below_then L44_v2.out (Below.size L44_v2.out) hbv5); have L45_v3 := Aside0.mk (below_then hbv4.out (Below.size hbv4.out) hbv5); have hz45 := Below.size hbv5; replace hbv5 := Aside0.mk hbv5)
    | (go_at_call 26; (with_reducible refine (Child_calls seed l HS.out HLL.out Q (some 1) HQ.out HE2.out v5).mono ?_); rintro e v6 ⟨rfl, hbv6⟩; have L46_w := Aside0.mk (below_then L45_w.out (Below.size L45_w.out) hbv6); have L46_v1 := Aside0.mk (below_then L45_v1.out (Below.size L45_v1.out) hbv6); have L46_v2 := Aside0.mk (below_then L45_v2.out (Below.size L45_v2.out) hbv6); have L46_v3 := Aside0.mk (below_then L45_v3.out (Below.size L45_v3.out) hbv6); have hz46 := Below.size hbv6; replace hbv6 := Aside0.mk hbv6)
    | (go_at_call 25; (with_reducible refine (RefNum_calls seed l 0 HS.out HLL.out Q (some 1) false HQ.out HE2.out rfl v6).mono ?_); rintro e v7 ⟨rfl, hbv7⟩; have L47_w := Aside0.mk (below_then L46_w.out (Below.size L46_w.out) hbv7); have L47_v1 := Aside0.mk (below_then L46_v1.out (Below.size L46_v1.out) hbv7); have L47_v2 := Aside0.mk (below_then L46_v2.out (Below.size L46_v2.out) hbv7); have L47_v3 := Aside0.mk (below_then L46_v3.out (Below.size L46_v3.out) hbv7); have hz47 := Below.size hbv7; replace hbv7 := Aside0.mk hbv7)
    | (go_at_call 27; (with_reducible refine (RefSame_calls A1 A2 c1 c2 V.length V.length V V v7 rfl rfl (Kd.C_below K1.out L47_v2.out) (Kd.C_below K2.out L47_v3.out) true (beq_self_eq_true _).symm).mono ?_); rintro e v8 ⟨rfl, hbv8⟩; have L48_w := Aside0.mk (below_then L47_w.out (Below.size L47_w.out) hbv8); have L48_v1 := Aside0.mk (below_then L47_v1.out (Below.size L47_v1.out) hbv8); have L48_v2 := Aside0.mk (below_then L47_v2.out (Below.size L47_v2.out) hbv8); have L48_v3 := Aside0.mk (below_then L47_v3.out (Below.size L47_v3.out) hbv8); have hz48 := Below.size hbv8; replace hbv8 := Aside0.mk hbv8)
    | (go_at_call 28; refine (caucuslaw07.num_calls (some 1) v8 (ErrAs.Laid.below HL.out L48_w.out)).mono ?_; rintro e v9 ⟨rfl, hbv9⟩; have L49_w := Aside0.mk (below_then L48_w.out (Below.size L48_w.out) hbv9); have L49_v1 := Aside0.mk (below_then L48_v1.out (Below.size L48_v1.out) hbv9); have L49_v2 := Aside0.mk (below_then L48_v2.out (Below.size L48_v2.out) hbv9); have L49_v3 := Aside0.mk (below_then L48_v3.out (Below.size L48_v3.out) hbv9); have hz49 := Below.size hbv9; replace hbv9 := Aside0.mk hbv9)
    | (go_at_call 28; refine (caucuslaw07.num_calls (some 1) v9 (ErrAs.Laid.below HL.out L49_w.out)).mono ?_; rintro e v10 ⟨rfl, hbv10⟩; have L50_w := Aside0.mk (below_then L49_w.out (Below.size L49_w.out) hbv10); have L50_v1 := Aside0.mk (below_then L49_v1.out (Below.size L49_v1.out) hbv10); have L50_v2 := Aside0.mk (below_then L49_v2.out (Below.size L49_v2.out) hbv10); have L50_v3 := Aside0.mk (below_then L49_v3.out (Below.size L49_v3.out) hbv10); have hz50 := Below.size hbv10; replace hbv10 := Aside0.mk hbv10)
    | (go_at_call 28; refine (caucuslaw07.num_calls (some 1) v10 (ErrAs.Laid.below HL.out L50_w.out)).mono ?_; rintro e v11 ⟨rfl, hbv11⟩; have L51_w := Aside0.mk (below_then L50_w.out (Below.size L50_w.out) hbv11); have L51_v1 := Aside0.mk (below_then L50_v1.out (Below.size L50_v1.out) hbv11); have L51_v2 := Aside0.mk (below_then L50_v2.out (Below.size L50_v2.out) hbv11); have L51_v3 := Aside0.mk (below_then L50_v3.out (Below.size L50_v3.out) hbv11); have hz51 := Below.size hbv11; replace hbv11 := Aside0.mk hbv11)
    | (go_at_call 21; (with_reducible refine (sure_calls v11 (ErrAs.Laid.below HL.out L51_w.out)).mono ?_); rintro e v12 ⟨rfl, hbv12⟩; have L52_w := Aside0.mk (below_then L51_w.out (Below.size L51_w.out) hbv12); have L52_v1 := Aside0.mk (below_then L51_v1.out (Below.size L51_v1.out) hbv12); have L52_v2 := Aside0.mk (below_then L51_v2.out (Below.size L51_v2.out) hbv12); have L52_v3 := Aside0.mk (below_then L51_v3.out (Below.size L51_v3.out) hbv12); have hz52 := Below.size hbv12; replace hbv12 := Aside0.mk hbv12))
  go_ret
  exact ⟨rfl, L52_w.out⟩
set_option maxRecDepth 100000 in
theorem nums_calls (seed : Nat) (l : List UInt8) (a b : Int) (hs : seed < 18446744073709551616) (w : World) (hL : ErrAs.Laid w) :
    Calls Tryd.prog 5 #[.int .u64 (seed : Int), .string (strOf l), .agg #[.int .i64 a, .int .i64 b]] w fun e w' => e = .returned (.bool true) ∧ Below w.heap.size w w' := by
  by_cases hl : l.length ≤ 300
  · by_cases hab : Lab l
    · have e2 : none = ne l 0 := by rw [ne, if_pos ⟨hab, by decide, by decide⟩]
      by_cases hw : okW l a
      · have e0 : none = we l a := by rw [we, if_pos hw]
        by_cases hn : okN l b
        · exact nums_0 seed l a b hs hl _ _ _ rfl rfl rfl e0 (by rw [ne, if_pos hn]) e2 w hL
        · exact nums_1 seed l a b hs hl _ _ _ rfl rfl rfl e0 (by rw [ne, if_neg hn]) e2 w hL
      · have e0 : some 1 = we l a := by rw [we, if_neg hw]
        by_cases hn : okN l b
        · exact nums_2 seed l a b hs hl _ _ _ rfl rfl rfl e0 (by rw [ne, if_pos hn]) e2 w hL
        · exact nums_3 seed l a b hs hl _ _ _ rfl rfl rfl e0 (by rw [ne, if_neg hn]) e2 w hL
    · exact nums_4 seed l a b hs hl _ _ _ rfl rfl rfl (by rw [we, if_neg (fun h => hab h.1)]) (by rw [ne, if_neg (fun h => hab h.1)]) (by rw [ne, if_neg (fun h => hab h.1)]) w hL
  · have i1 : 300 < ((strOf l).size : Int) := by rw [str_size]; omega
    have HL := Aside0.mk hL
    clear hl hL
    go_enter Tryd.func5, Tryd.ntmps5
    go_wp2_with (first
      | ((with_reducible refine at_box_ (d := some 5) ?_); (refine wpList_make_ (t := 37) (#[.int .i64 a, .int .i64 b]) (fun g => .pointer (some ⟨g, 0, none⟩)) (by rfl) ?_ ?_); (first | (go_simp; done) | (unfold execOp; go_simp; done) | (simp only [Act.put]; go_simp; done) | (go_simp; constructor <;> rfl) | (go_simp; rfl) | rfl); intro g5 s1 hge_g5 B_g5 hbs1; replace B_g5 := Aside0.mk B_g5; have hz53 := Below.size hbs1; replace hbs1 := Aside0.mk hbs1)
      | (go_at_call 21; (with_reducible refine (sure_calls s1 (ErrAs.Laid.below HL.out hbs1.out)).mono ?_); rintro e s2 ⟨rfl, hbs2⟩; have L54_w := Aside0.mk (below_then hbs1.out (Below.size hbs1.out) hbs2); have hz54 := Below.size hbs2; replace hbs2 := Aside0.mk hbs2))
    go_ret
    exact ⟨rfl, L54_w.out⟩
theorem strOf_self (s : ByteArray) : strOf s.data.toList = s := by
  cases s
  simp [strOf]
theorem nums_any (seed : BitVec 64) (s : ByteArray) (xs : List Int) (hx : xs.length = 2) (w : World) (hL : ErrAs.Laid w) :
    Calls Tryd.prog 5 #[.int .u64 (seed.toNat : Int), .string s, .agg (xs.map (Value.int .i64)).toArray] w fun e w' => e = .returned (.bool true) ∧ Below w.heap.size w w' := by
  obtain ⟨a, b, rfl⟩ : ∃ a b, xs = [a, b] := by
    match xs, hx with
    | [a, b], _ => exact ⟨a, b, rfl⟩
  have h := nums_calls seed.toNat s.data.toList a b seed.isLt w hL
  rwa [strOf_self] at h
end Go.Proofs.YthmlidlnojdggaaDoor.Prg
