/- Small laws that all walks of this seat use: how bytes, words and rows stand in memory and in slots. -/
import Derived.Test.YthmlidlnojdggaaDoorProg
import Derived.Test.YthmlidlnojdggaaDoorWTab
import Derived.Test.YthmlidlnojdggaaDoorWGuard
import Derived.WalkKit
import Derived.KernelRfl
import Derived.RowKit3
import Derived.Deep.LoopGhost
import Derived.Deep.QuietTactic
import Derived.BigQuiet
import Derived.WideLaws
import Derived.Deep.DeepCutAuto
import Derived.Deep.CutBlock
import Derived.Deep.RegionHeld3
import Derived.Laws.Rows
import Derived.Lib.AppendStr
import Derived.ArgAppend
import Derived.Laws.IdiomCopy
import Derived.OrdersHeld
import Derived.Laws.BitsLemmas
import Derived.Laws.BitsAllLaws
import Derived.RowKit
import Derived.Outline
import Derived.Lib.SlBytesConst
import Derived.WalkSpells
set_option linter.unusedVariables false
set_option linter.unusedSimpArgs false
namespace Go.Proofs.YthmlidlnojdggaaDoor
open Go.RowKit Go.Proofs.YthmlidlnojdggaaDoorW.PrintWords

/-- A byte in a cell. -/
abbrev Kb : Kd UInt8 := Kd.scalar (fun b => .int .u8 (b.toNat : Int)) (fun _ => rfl)
/-- A word of 32 bits in a cell. -/
abbrev K32 : Kd (BitVec 32) := Kd.scalar (fun b => .int .u32 (b.toNat : Int)) (fun _ => rfl)
/-- A word of 64 bits in a cell. -/
abbrev K64 : Kd (BitVec 64) := Kd.scalar (fun b => .int .u64 (b.toNat : Int)) (fun _ => rfl)

theorem at_sc {α : Type} {enc : α → Value} {h1 : ∀ x, (enc x).oneCell' = true} {xs : List α} {w : World} {A : Option Addr} (h : (Kd.scalar enc h1).C w A xs.length xs) (d : α) (i : Nat) (hi : i < xs.length) : ∃ ad, A = some ad ∧ w.cell? (ad.add i) = some (enc (xs.getD i d)) := by
  obtain ⟨ad, e, hc⟩ := (Kd.reads_of_C (d := d) h).2.2 (by omega)
  exact ⟨ad, e, hc i hi⟩
theorem at_b {xs : List UInt8} {w : World} {A : Option Addr} (h : Kb.C w A xs.length xs) (i : Nat) (hi : i < xs.length) : ∃ ad, A = some ad ∧ w.cell? (ad.add i) = some (.int .u8 ((xs.getD i 0).toNat : Int)) := at_sc h 0 i hi

theorem foldl_take {α β : Type} (f : α → β → α) (a : α) (l : List β) (d : β) (k : Nat) (h : k < l.length) : (l.take (k + 1)).foldl f a = f ((l.take k).foldl f a) (l.getD k d) := by
  rw [List.take_succ_eq_append_getElem h, List.foldl_append]
  simp [List.getD, h]
theorem foldl_all {α β : Type} (f : α → β → α) (a : α) (l : List β) (k : Nat) (h : ¬ k < l.length) : (l.take k).foldl f a = l.foldl f a := by
  rw [List.take_of_length_le (by omega)]

theorem w8_lt (b : UInt8) : b.toNat < 256 := b.toNat_lt
theorem w32_lt (b : BitVec 32) : b.toNat < 4294967296 := b.isLt
theorem w64_lt (b : BitVec 64) : b.toNat < 18446744073709551616 := b.isLt
theorem bx32 (a b : BitVec 32) : bits .xor .u32 (a.toNat : Int) (b.toNat : Int) = ((a ^^^ b).toNat : Int) := by
  rw [u32_xor_nat _ _ a.isLt b.isLt, BitVec.toNat_xor]
theorem ba32 (a b : BitVec 32) : bits .and .u32 (a.toNat : Int) (b.toNat : Int) = ((a &&& b).toNat : Int) := by
  rw [u32_and_nat _ _ a.isLt b.isLt, BitVec.toNat_and]
theorem bo32 (a b : BitVec 32) : bits .or .u32 (a.toNat : Int) (b.toNat : Int) = ((a ||| b).toNat : Int) := by
  rw [u32_or_nat _ _ a.isLt b.isLt, BitVec.toNat_or]
theorem bx64 (a b : BitVec 64) : bits .xor .u64 (a.toNat : Int) (b.toNat : Int) = ((a ^^^ b).toNat : Int) := by
  rw [u64_xor_nat _ _ a.isLt b.isLt, BitVec.toNat_xor]
theorem ba64 (a b : BitVec 64) : bits .and .u64 (a.toNat : Int) (b.toNat : Int) = ((a &&& b).toNat : Int) := by
  rw [u64_and_nat _ _ a.isLt b.isLt, BitVec.toNat_and]
theorem bo64 (a b : BitVec 64) : bits .or .u64 (a.toNat : Int) (b.toNat : Int) = ((a ||| b).toNat : Int) := by
  rw [u64_or_nat _ _ a.isLt b.isLt, BitVec.toNat_or]
theorem bx8 (a b : UInt8) : bits .xor .u8 (a.toNat : Int) (b.toNat : Int) = ((a ^^^ b).toNat : Int) := by
  rw [u8_xor_nat _ _ a.toNat_lt b.toNat_lt, UInt8.toNat_xor]
theorem ba8 (a b : UInt8) : bits .and .u8 (a.toNat : Int) (b.toNat : Int) = ((a &&& b).toNat : Int) := by
  rw [u8_and_nat _ _ a.toNat_lt b.toNat_lt, UInt8.toNat_and]
theorem bo8 (a b : UInt8) : bits .or .u8 (a.toNat : Int) (b.toNat : Int) = ((a ||| b).toNat : Int) := by
  rw [u8_or_nat _ _ a.toNat_lt b.toNat_lt, UInt8.toNat_or]
theorem pow_cast (n : Nat) : ((2 ^ n : Nat) : Int) = (2 : Int) ^ n := by rw [Int.natCast_pow]; rfl
theorem shl32 (a : BitVec 32) (n : Nat) (m : Int) (hm : m = 2 ^ n) : (a.toNat : Int) * m % 4294967296 = ((a <<< n).toNat : Int) := by
  subst hm
  rw [BitVec.toNat_shiftLeft, Nat.shiftLeft_eq, ← pow_cast, ← Int.natCast_mul]
  generalize a.toNat * 2 ^ n = p
  show _ = ((p % 4294967296 : Nat) : Int)
  omega
theorem shr32 (a : BitVec 32) (n : Nat) (m : Int) (hm : m = 2 ^ n) : (a.toNat : Int) / m = ((a >>> n).toNat : Int) := by
  subst hm
  rw [BitVec.toNat_ushiftRight, Nat.shiftRight_eq_div_pow, ← pow_cast, ← Int.natCast_ediv]
theorem shl64 (a : BitVec 64) (n : Nat) (m : Int) (hm : m = 2 ^ n) : (a.toNat : Int) * m % 18446744073709551616 = ((a <<< n).toNat : Int) := by
  subst hm
  rw [BitVec.toNat_shiftLeft, Nat.shiftLeft_eq, ← pow_cast, ← Int.natCast_mul]
  generalize a.toNat * 2 ^ n = p
  show _ = ((p % 18446744073709551616 : Nat) : Int)
  omega
theorem shr64 (a : BitVec 64) (n : Nat) (m : Int) (hm : m = 2 ^ n) : (a.toNat : Int) / m = ((a >>> n).toNat : Int) := by
  subst hm
  rw [BitVec.toNat_ushiftRight, Nat.shiftRight_eq_div_pow, ← pow_cast, ← Int.natCast_ediv]
theorem not32 (a : BitVec 32) : bits .xor .u32 IntKind.u32.max (a.toNat : Int) = ((~~~ a).toNat : Int) := by
  have e : IntKind.u32.max = ((BitVec.allOnes 32).toNat : Int) := by decide
  rw [e, bx32, BitVec.allOnes_xor]
theorem u32_of8 (c : UInt8) : (c.toNat : Int) % 4294967296 = ((BitVec.ofNat 32 c.toNat).toNat : Int) := by
  have := c.toNat_lt
  rw [BitVec.toNat_ofNat]
  omega
theorem ret_val {a b : Value} (h : a = b) : Ending.returned a = .returned b := by rw [h]
theorem bool_val {a b : Bool} (h : a = b) : Value.bool a = .bool b := by rw [h]
theorem int_val {k : IntKind} {a b : Int} (h : a = b) : Value.int k a = .int k b := by rw [h]

/-! ### a region that draws its order: more is known from here on -/
section
open Go.Proofs.YthmlidlnojdggaaDoorW.PrintLast
variable {P : Program} {md : Region.Mode} {ops : Array Oper} {Q : Exit → Act → World → Prop} {S S' : World → Prop}
theorem more_all (hS : ∀ w, S' w → S w) : ∀ (fuel : Nat) (listed : Array Bool) (a : Act) (w : World), S' w → wpAnyLast P md ops Q S' [] fuel listed a w → wpAnyLast P md ops Q S [] fuel listed a w
  | 0, _, _, _, _, h => h
  | fuel + 1, _, _, _, hw, h => ⟨h.1, fun i hi => wpOp_mono (fun a' w' h' => ⟨fun _ _ => hS _ (h'.1 (by simp) hw), more_all hS fuel _ a' w' (h'.1 (by simp) hw) h'.2⟩) (h.2 i hi)⟩
theorem more_ {fuel : Nat} {listed : Array Bool} {a : Act} {w : World} (hw : S' w) (hS : ∀ w, S' w → S w) (h : S' w → wpAnyLast P md ops Q S' [] fuel listed a w) : wpAnyLast P md ops Q S [] fuel listed a w := more_all hS fuel listed a w hw (h hw)
end
/-! ### bytes: the element's row of the table; cuts -/
theorem infoB : (Tryd.prog.info? 5).map (fun i => (i.zero, i.size, i.bytes)) = some (some (.int .u8 0), 1, 1) := by kernel_rfl
theorem cut_lo (A : Option Addr) (c : Nat) {l : List UInt8} {n : Nat} (hl : l.length = n) (m : Nat) (hm : m ≤ n) (hc : n ≤ c) :
    ∃ A' : Option Addr, (∀ W : World, (Instr.slice 22 (.slice A n c) (some (.int .i64 (m : Int))) none none).run Tryd.prog W = .ok (.slice A' (n - m) (c - m)) W) ∧
      ∀ w : World, Kb.C w A n l → Kb.C w A' (n - m) (l.drop m) := by
  subst hl
  obtain ⟨i0, hi, _, hsz, _⟩ := info_parts infoB
  obtain ⟨A', h1, h2, _⟩ := print_drop_of (P := Tryd.prog) (fun b : UInt8 => Value.int .u8 (b.toNat : Int)) 0 22 5 .i64 Tryd.underlying22 hi hsz A c l (m : Int) (by omega) (by omega) hc
  rw [Int.toNat_natCast, List.length_drop] at h1 h2
  exact ⟨A', h1, fun w h => Kd.C_of_reads (d := (0 : UInt8)) (h2 w (Kd.reads_of_C h))⟩
theorem cut_hi (A : Option Addr) (c : Nat) {l : List UInt8} {n : Nat} (hl : l.length = n) (m : Nat) (hm : m ≤ n) (hc : n ≤ c) :
    (∀ W : World, (Instr.slice 22 (.slice A n c) none (some (.int .i64 (m : Int))) none).run Tryd.prog W = .ok (.slice A m c) W) ∧
      ∀ w : World, Kb.C w A n l → Kb.C w A m (l.take m) := by
  subst hl
  obtain ⟨i0, hi, _, hsz, _⟩ := info_parts infoB
  obtain ⟨h1, h2, _⟩ := print_take_of (P := Tryd.prog) (fun b : UInt8 => Value.int .u8 (b.toNat : Int)) 0 22 5 .i64 Tryd.underlying22 hi hsz A c l (m : Int) (by omega) (by omega) hc
  rw [Int.toNat_natCast, List.length_take, Nat.min_eq_left hm] at h1 h2
  exact ⟨h1, fun w h => Kd.C_of_reads (d := (0 : UInt8)) (h2 w (Kd.reads_of_C h))⟩

theorem lit_read (w : World) (t : TypeId) (fr : Nat × Nat) (l : List UInt8) {cs : Array Value} (hcs : cs = (l.map fun b => Value.int .u8 (b.toNat : Int)).toArray) (hl : l.length ≤ 9223372036854775807) : Kb.C (w.alloc (.cells cs t fr)) (some ⟨w.heap.size, 0, none⟩) l.length l := by
  refine Kd.C_of_reads (d := (0 : UInt8)) ⟨rfl, hl, fun _ => ⟨_, rfl, fun j hj => ?_⟩⟩
  subst hcs
  rw [add_plain, World.cell?_alloc_mark]
  simp [hj]
theorem kconst (w : World) (C : Array Value) (n c b : Nat) (hb : b = w.heap.size) : (convert 22 22 (.slice (some ⟨b, 0, none⟩) n c)).run Tryd.prog (w.alloc (.cells C 5)) = .ok (.slice (some ⟨b, 0, none⟩) n c) (w.alloc (.cells C 5 (C.size, C.size + 1))) := by
  subst hb
  exact Lib.run_convert_bytes_const (P := Tryd.prog) w 22 5 C n c Tryd.underlying22 Tryd.underlying5
theorem cut_hi' (A : Option Addr) (c : Nat) {l : List UInt8} {n : Nat} (hl : l.length = n) (i : Int) (m : Nat) (hi : i = (m : Int)) (hm : m ≤ n) (hc : n ≤ c) :
    (∀ W : World, (Instr.slice 22 (.slice A n c) none (some (.int .i64 i)) none).run Tryd.prog W = .ok (.slice A m c) W) ∧
      ∀ w : World, Kb.C w A n l → Kb.C w A m (l.take m) := by
  subst hi
  exact cut_hi A c hl m hm hc
theorem cut_lo' (A : Option Addr) (c : Nat) {l : List UInt8} {n : Nat} (hl : l.length = n) (i : Int) (m : Nat) (hi : i = (m : Int)) (hm : m ≤ n) (hc : n ≤ c) :
    ∃ A' : Option Addr, (∀ W : World, (Instr.slice 22 (.slice A n c) (some (.int .i64 i)) none none).run Tryd.prog W = .ok (.slice A' (n - m) (c - m)) W) ∧
      ∀ w : World, Kb.C w A n l → Kb.C w A' (n - m) (l.drop m) := by
  subst hi
  exact cut_lo A c hl m hm hc
theorem cut_mid (A : Option Addr) (c : Nat) {l : List UInt8} {n : Nat} (hl : l.length = n) (i j : Int) (a b : Nat) (hi : i = (a : Int)) (hj : j = (b : Int)) (hab : a ≤ b) (hb : b ≤ n) (hc : n ≤ c) :
    ∃ A' : Option Addr, (∀ W : World, (Instr.slice 22 (.slice A n c) (some (.int .i64 i)) (some (.int .i64 j)) none).run Tryd.prog W = .ok (.slice A' (b - a) (c - a)) W) ∧
      ∀ w : World, Kb.C w A n l → Kb.C w A' (b - a) ((l.take b).drop a) := by
  subst hl hi hj
  obtain ⟨i0, hi, _, hsz, _⟩ := info_parts infoB
  obtain ⟨A', h1, h2, _⟩ := print_mid_of (P := Tryd.prog) (fun b : UInt8 => Value.int .u8 (b.toNat : Int)) 0 22 5 .i64 .i64 Tryd.underlying22 hi hsz A c l (a : Int) (b : Int) (by omega) (by omega) (by omega) hc
  rw [Int.toNat_natCast, Int.toNat_natCast, List.length_drop, List.length_take, Nat.min_eq_left hb] at h1 h2
  exact ⟨A', h1, fun w h => Kd.C_of_reads (d := (0 : UInt8)) (h2 w (Kd.reads_of_C h))⟩
theorem at_b0 {xs : List UInt8} {w : World} {A : Option Addr} {n : Nat} (h : Kb.C w A n xs) (hi : 0 < n) : ∃ ad, A = some ad ∧ w.cell? ad = some (.int .u8 ((xs.getD 0 0).toNat : Int)) := by
  obtain ⟨ad, e, hc⟩ := (Kd.reads_of_C (d := (0 : UInt8)) h).2.2 hi
  exact ⟨ad, e, by simpa [Addr.add] using hc 0 hi⟩
theorem at_bn {xs : List UInt8} {w : World} {A : Option Addr} {n : Nat} (h : Kb.C w A n xs) (i : Nat) (hi : i < n) : ∃ ad, A = some ad ∧ w.cell? (ad.add i) = some (.int .u8 ((xs.getD i 0).toNat : Int)) := by
  obtain ⟨ad, e, hc⟩ := (Kd.reads_of_C (d := (0 : UInt8)) h).2.2 (by omega)
  exact ⟨ad, e, hc i hi⟩
theorem add_pos (ad : Addr) (j : Nat) (hj : 0 < j) : ad.add j = ⟨ad.block, ad.off + j, none⟩ := by
  have := add_field ad 0 j hj
  simpa [Addr.add] using this
/-- A byte at a place that is a numeral. -/
theorem at_bc {xs : List UInt8} {w : World} {A : Option Addr} {n : Nat} (h : Kb.C w A n xs) (i : Nat) (hi : i < n) (h0 : 0 < i) : ∃ ad, A = some ad ∧ w.cell? ⟨ad.block, ad.off + i, none⟩ = some (.int .u8 ((xs.getD i 0).toNat : Int)) := by
  obtain ⟨ad, e, hc⟩ := at_bn h i hi
  exact ⟨ad, e, by rw [← add_pos ad i h0]; exact hc⟩
/-! ### string(b) -/
def bnums (l : List UInt8) : List Int := l.map fun b => (b.toNat : Int)
theorem Kb_int {w : World} {A : Option Addr} {l : List UInt8} {n : Nat} (h : Kb.C w A n l) : (Kd.int .u8).C w A n (bnums l) := by
  have hr := Kd.reads_of_C (d := (0 : UInt8)) h
  refine Kd.C_of_reads (d := (0 : Int)) ⟨by simp [bnums, hr.1], hr.2.1, fun hn => ?_⟩
  obtain ⟨ad, e, hc⟩ := hr.2.2 hn
  refine ⟨ad, e, fun j hj => ?_⟩
  rw [hc j hj]
  have hjl : j < l.length := by have := hr.1; omega
  simp [bnums, List.getD_eq_getElem?_getD, hjl]
def strOf (l : List UInt8) : ByteArray := ⟨l.toArray⟩
theorem strOfNums_b (l : List UInt8) : strOfNums (bnums l) = strOf l := by
  unfold strOfNums strOf bnums
  congr 2
  rw [List.map_map]
  conv => rhs; rw [← List.map_id l]
  apply List.map_congr_left
  intro b _
  apply UInt8.toNat_inj.1
  have := b.toNat_lt
  simp
theorem strOf_toList (l : List UInt8) : (strOf l).toList = l := ByteArray.toList_mk l
theorem str_beq (a b : List UInt8) : ((strOf a).toList == (strOf b).toList) = (a == b) := by rw [strOf_toList, strOf_toList]
theorem seq_true {a b : List UInt8} (h : a = b) : ((strOf a).toList == (strOf b).toList) = true := by rw [h]; exact beq_self_eq_true _
theorem seq_false {a b : List UInt8} (h : a ≠ b) : ((strOf a).toList == (strOf b).toList) = false := by rw [strOf_toList, strOf_toList]; exact beq_eq_false_iff_ne.2 h
theorem str_of {w : World} {A : Option Addr} {n c : Nat} {l : List UInt8} (h : Kb.C w A n l) : (convert 22 9 (.slice A n c)).run Tryd.prog w = .ok (.string (strOf l)) w := by
  rw [Kd.C_string Tryd.underlying22 Tryd.underlying5 Tryd.underlying9 (Kb_int h), strOfNums_b]

/-! ### rows of bytes of the call's own; append -/
/-- A row of bytes that the call itself made, from block base on. -/
abbrev Bs (W : World) (base : Nat) (v : Value) (l : List UInt8) : Prop := Kb.R 5 W base (fun _ => True) v l
theorem Bs.read {W : World} {base n c : Nat} {A : Option Addr} {l : List UInt8} (h : Bs W base (.slice A n c) l) : Kb.C W A n l ∧ n = l.length ∧ n ≤ c := by
  obtain ⟨A', c', he, hl, hr⟩ := Kd.R_reads h
  injection he with h1 h2 h3
  subst h1
  subst h2
  subst h3
  exact ⟨hr, rfl, hl⟩
theorem Bs.lit (W : World) (base b : Nat) (hB : b = W.heap.size) (hb : base ≤ W.heap.size) (l : List UInt8) (n : Nat) (hn : l.length = n) (cs : Array Value) (hcs : cs = (l.map fun b => Value.int .u8 (b.toNat : Int)).toArray) (hl : n ≤ 9223372036854775807) : Bs (W.alloc (.cells cs 5)) base (.slice (some ⟨b, 0, none⟩) n n) l := by
  subst hB
  subst hn
  subst hcs
  exact Kd.R_of_own (own_lit_of (enc := fun b : UInt8 => Value.int .u8 (b.toNat : Int)) W base 5 l hb hl) (fun _ _ => trivial)
theorem Bs.cell {W : World} {base g n cap : Nat} {l : List UInt8} (h : Bs W base (.slice (some ⟨g, 0, none⟩) n cap) l) (i : Nat) (hi : i < n) : W.cell? ⟨g, i, none⟩ = some (.int .u8 ((l.getD i 0).toNat : Int)) ∧ W.frozen? ⟨g, i, none⟩ = false := by
  have := Kd.R_celln (0 : UInt8) h (i : Int) (by omega) (by omega)
  simpa [rdOf] using this
theorem Bs.put {W : World} {base g n cap : Nat} {l : List UInt8} (h : Bs W base (.slice (some ⟨g, 0, none⟩) n cap) l) (i : Nat) (x : UInt8) : Bs (W.setCell ⟨g, i, none⟩ (.int .u8 (x.toNat : Int))) base (.slice (some ⟨g, 0, none⟩) n cap) (l.set i x) := by
  have := Kd.R_putn h (i : Int) x
  simpa using this
theorem Bs.form {W : World} {base n c : Nat} {A : Option Addr} {l : List UInt8} (h : Bs W base (.slice A n c) l) (hp : 0 < n) : ∃ g, A = some ⟨g, 0, none⟩ ∧ base ≤ g ∧ g < W.heap.size := by
  obtain ⟨_, hn, _⟩ := h.read
  obtain ⟨g, cap, he, hb, hg, _⟩ := Kd.R_form h (by omega)
  injection he with h1 h2 h3
  exact ⟨g, h1, hb, hg⟩
theorem Bs.nil (W : World) (base : Nat) : Bs W base (.slice none 0 0) [] := Kd.R_nil _ _ _ _ _
section
variable {ops : Array Oper} {rest : List Oper} {o : Oper} {a : Act} {Q : Exit → Act → World → Prop}
/-- append(v, ys...): bytes. -/
theorem app_bs {w0 W : World} (base : Nat) (hgd : o.guard = none) (s x : Operand)
    (ho : o.op = .call { callee := .builtin .append, args := #[s, x], argTypes := #[22, 22] })
    (v : Value) (xs ys : List UInt8) (A : Option Addr) (m c : Nat) (hs : a.eval s = v) (hx : a.eval x = .slice A m c)
    (HO : Bs W base v xs) (HR : Kb.C W A m ys) (HB : Below base w0 W) (hbase : base ≤ W.heap.size) (hl : xs.length + m ≤ 140737488355328)
    (h : ∀ (zs : List UInt8) (A1 : Option Addr) (c1 : Nat) (w1 : World), Aside0 (zs = xs ++ ys) → Aside0 (Bs w1 base (.slice A1 zs.length c1) zs) → Aside0 (Below base w0 w1) → Aside0 (base ≤ w1.heap.size) → Aside0 (W.grownBy w1 v.ownBlock) → wpList Tryd.prog ops Q rest (a.put o.dst (.slice A1 zs.length c1)) w1) :
    wpList Tryd.prog ops Q (o :: rest) a W := by
  refine Kd.R_append_row (w0 := w0) (fun b : UInt8 => Value.int .u8 (b.toNat : Int)) 0 base hgd s x 22 5 (.int .u8 0) 1 ho Tryd.underlying22 infoB rfl (by decide) v xs ys A m c (fun _ => True) hs hx (fun _ _ => trivial) HO HR HB hbase (by omega) ?_
  intro v1 w1 h1 h2 h3 _
  obtain ⟨A1, c1, rfl⟩ := Kd.R_slice h1
  exact h _ A1 c1 w1 ⟨rfl⟩ ⟨h1⟩ ⟨h2⟩ ⟨Nat.le_trans hbase h3.size⟩ ⟨h3⟩
end
/-- A call that hands back a row of bytes of its own. -/
abbrev RetBs (w : World) (l : List UInt8) (e : Ending) (w' : World) : Prop :=
  ∃ A c, e = .returned (.slice A l.length c) ∧ Bs w' w.heap.size (.slice A l.length c) l ∧ Below w.heap.size w w'
theorem Bs.lower {W : World} {b base : Nat} {v : Value} {l : List UInt8} (h : Bs W b v l) (hb : base ≤ b) : Bs W base v l := Kd.R_lower h hb
theorem Bs.below {W w1 : World} {base : Nat} {v : Value} {l : List UInt8} (h : Bs W base v l) (hb : Below W.heap.size W w1) : Bs w1 base v l := Kd.R_below h hb
theorem Bs.alloc {W : World} {base : Nat} {v : Value} {l : List UInt8} (h : Bs W base v l) (o : Obj) : Bs (W.alloc o) base v l := Kd.R_alloc h o
theorem Bs.grown {W w1 : World} {base : Nat} {v : Value} {l : List UInt8} (h : Bs W base v l) {row : Option Nat} (hg : W.grownBy w1 row) (hr : ∀ k, row = some k → k < base) : Bs w1 base v l :=
  Kd.R_mono (Kd.R_grown (Kd.R_bound h) hg (fun k hk e => by have := hr k e.symm; have := hk.2.1; omega)) (fun _ _ => trivial)
theorem Bs.own_lt {W : World} {base : Nat} {v : Value} {l : List UInt8} (h : Bs W base v l) (k : Nat) (hk : v.ownBlock = some k) : k < W.heap.size := by
  obtain ⟨inner, ho⟩ := Kd.R_own h
  exact Go.Proofs.YthmlidlnojdggaaDoorW.PrintWords.own_lt ho k hk
theorem Bs.own_ge {W : World} {base : Nat} {v : Value} {l : List UInt8} (h : Bs W base v l) (k : Nat) (hk : v.ownBlock = some k) : base ≤ k := by
  obtain ⟨inner, ho⟩ := Kd.R_own h
  exact own_base ho k hk
theorem Bs.emp (W : World) (base b : Nat) (hB : b = W.heap.size) (hb : base ≤ W.heap.size) : Bs (W.alloc (.cells #[] 5)) base (.slice (some ⟨b, 0, none⟩) 0 0) [] := Bs.lit W base b hB hb [] 0 rfl _ rfl (by decide)
theorem Bs.one (W : World) (base b : Nat) (hB : b = W.heap.size) (hb : base ≤ W.heap.size) (x : UInt8) (z : Int) (hz : z = (x.toNat : Int)) : Bs (W.alloc (.cells #[.int .u8 z] 5)) base (.slice (some ⟨b, 0, none⟩) 1 1) [x] := Bs.lit W base b hB hb [x] 1 rfl _ (by rw [hz]; rfl) (by decide)

set_option maxHeartbeats 1000000 in
theorem Clone_v (A : Option Addr) (c n : Nat) (l : List UInt8) (w : World) (hn : l.length = n) (hr : Kb.C w A n l) (hl : n ≤ 140737488355328) (z : List UInt8) (hz : z = l) :
    Calls Tryd.prog 82 #[.slice A n c] w (RetBs w z) := by
  subst hz
  rcases A with _ | ad
  · have h0 : n = 0 := by
      rcases Nat.eq_zero_or_pos n with h0 | h0
      · exact h0
      · obtain ⟨ad, h, _⟩ := hr.2.2 h0
        cases h
    subst h0
    obtain rfl : z = [] := List.eq_nil_of_length_eq_zero hn
    have he := @Lib.run_eql_slice_nil Tryd.prog
    go_enter Tryd.func82, Tryd.ntmps82
    go_wp2
    go_ret
    exact ⟨none, 0, rfl, Bs.nil _ _, Below.refl _ _⟩
  · have he := @Lib.run_eql_slice_nil Tryd.prog
    have HR := Aside0.mk hr
    have HN := Aside0.mk hn
    clear hr hn
    go_enter Tryd.func82, Tryd.ntmps82
    go_wp2_with (at_builtin; refine app_bs (w0 := w) w.heap.size rfl _ _ rfl _ [] z _ _ _ rfl rfl (Bs.emp w _ _ rfl (Nat.le_refl _)) (Kd.C_alloc HR.out _) (below_alloc (Below.refl _ _) _) (by simp) (by simpa using hl) ?_; intro z1 A2 c2 w1 hz1 hB1 hb1 hs1 hg1)
    go_ret
    obtain rfl : z1 = z := by rw [hz1.out]; rfl
    exact ⟨A2, c2, rfl, hB1.out, hb1.out⟩
end Go.Proofs.YthmlidlnojdggaaDoor
