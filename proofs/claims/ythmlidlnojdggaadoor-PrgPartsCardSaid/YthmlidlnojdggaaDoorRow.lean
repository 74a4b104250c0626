/- How the arguments of a statement, as data, give what the walks ask: bytes. -/
import Derived.Test.YthmlidlnojdggaaDoorRows
import Derived.Test.YthmlidlnojdggaaDoorBase
import Derived.Test.YthmlidlnojdggaaDoorWSized
import Derived.WalkKit
import Derived.ProofKit
import Derived.OpenShut
import Derived.ShutString
import Derived.ChangeOld
import Derived.Below
set_option linter.unusedVariables false
set_option linter.unusedSimpArgs false
namespace Go.Proofs.YthmlidlnojdggaaDoor
open Go.ChangeShapes Go.WideShapes Go.ChangeAt Go.RowKit Go.Proofs.YthmlidlnojdggaaDoorW.PrintWords

theorem rowOwn : ownKnob Tryd.prog.godebug = none := by kernel_rfl
theorem rowLaid : laidOutB Tryd.prog = true := by kernel_rfl

/-- What a slice of whole numbers that came in is. -/
def IsRow (k : IntKind) (w : World) (a : Option Addr) (len cap : Nat) (zs : List Int) : Prop :=
  (a = none ∧ len = 0 ∧ cap = 0 ∧ zs = []) ∨
  ∃ x, a = some x ∧ len ≤ cap ∧ cap ≤ maxLen ∧ zs.length = cap ∧ (∀ i, i < zs.length → w.cell? (x.add i) = some (.int k (zs.getD i 0))) ∧ ∀ n ∈ zs, (Lit.int k n).wf = true
theorem wf_u8 {n : Int} (h : (Lit.int .u8 n).wf = true) : 0 ≤ n ∧ n < 256 := by
  have := bounds_u8 h
  omega
theorem bytes_of_row {w : World} {a : Option Addr} {len cap : Nat} {zs : List Int} (h : IsRow .u8 w a len cap zs) : ∃ l : List UInt8, l.length = len ∧ Kb.C w a len l ∧ len ≤ cap := by
  rcases h with ⟨rfl, rfl, rfl, rfl⟩ | ⟨x, rfl, hl, hm, hz, hcell, hwf⟩
  · exact ⟨[], rfl, Kd.C_of_reads (d := (0 : UInt8)) ⟨rfl, by decide, fun h => absurd h (by decide)⟩, Nat.le_refl _⟩
  · refine ⟨(zs.take len).map fun z => UInt8.ofNat z.toNat, by rw [List.length_map, List.length_take]; omega, Kd.C_of_reads (d := (0 : UInt8)) ⟨by rw [List.length_map, List.length_take]; omega, by unfold maxLen at hm; omega, fun _ => ⟨x, rfl, fun j hj => ?_⟩⟩, hl⟩
    rw [hcell j (by omega)]
    have hj2 : j < zs.length := by omega
    have hw := wf_u8 (hwf (zs[j]) (List.getElem_mem hj2))
    simp only [List.getD_eq_getElem?_getD, List.getElem?_eq_getElem hj2, List.getElem?_map, List.getElem?_take_of_lt hj, Option.map_some, Option.getD_some]
    congr 2
    rw [UInt8.toNat_ofNat']
    omega
section
variable {H : Type} {enc : TypeId × Value → H} {W : World} {base : Nat} {args : Array Value}
set_option maxRecDepth 100000 in
/-- A []byte among the arguments. -/
theorem open_bytes {v : Value} {d : DataW H} {p : List MemPlace} (hval : Value.okWide Tryd.prog W .any base 22 v) (h : DataW.Trod enc Tryd.prog W 0 (fun _ => true) true 22 v d p)
    {ts : List TypeId} {ds : List (DataW H)} {j : Nat} (hsz : (DataW.weightsEach Tryd.prog ts ds).all (· ≤ reachBytes) = true) (ht : ts[j]? = some 22) (hd : ds[j]? = some d) :
    ∃ (A : Option Addr) (c : Nat) (l : List UInt8), v = .slice A l.length c ∧ Kb.C W A l.length l ∧ l.length ≤ 140737488351232 ∧ l.length ≤ c := by
  obtain ⟨a0, len0, cap0, rfl⟩ := okWide_slice Tryd.underlying22 hval
  have hs := sized_ints hsz ht hd Tryd.underlying22 Tryd.underlying5 (by kernel_rfl) (B := 1) (by kernel_rfl) h
  obtain ⟨fuel, hf⟩ := h
  obtain ⟨z0, w0⟩ : ∃ zs, IsRow .u8 W a0 len0 cap0 zs := by
    rcases open_ints Tryd.underlying22 Tryd.underlying5 (by kernel_rfl) hf with ⟨hcs, _⟩ | ⟨x, l, c, zs, hcs, _, hl, hm, hz, _, hcell, hwz⟩
    · simp [Value.cells] at hcs
      obtain ⟨rfl, rfl, rfl⟩ := hcs
      exact ⟨[], .inl ⟨rfl, rfl, rfl, rfl⟩⟩
    · simp [Value.cells] at hcs
      obtain ⟨rfl, rfl, rfl⟩ := hcs
      exact ⟨zs, .inr ⟨_, rfl, hl, hm, by simpa using hz, hcell, hwz⟩⟩
  obtain ⟨l, rfl, hr, hc⟩ := bytes_of_row w0
  exact ⟨a0, cap0, l, rfl, hr, by omega, hc⟩
/-- An array of whole numbers among the arguments, by value. -/
theorem open_iarr {P : Program} {n : Nat} {k : IntKind} {t e : TypeId} {r : Reach} {v : Value} {d : DataW H} {p : List MemPlace} (ht : P.underlying t = some (.array n e)) (he : P.underlying e = some (.int k)) (hce : P.cellsOf e = 1) (hct : P.cellsOf t = n)
    (hval : Value.okWide P W r base t v) (h : DataW.Trod enc P W 0 (fun _ => true) true t v d p) : ∃ xs : List Int, xs.length = n ∧ v = .agg (xs.map (Value.int k)).toArray ∧ ∀ x ∈ xs, (Lit.int k x).wf = true := by
  obtain ⟨cs, rfl, hsz⟩ : ∃ cs, v = .agg cs ∧ cs.size = P.cellsOf t := by
    simp only [Value.okWide, ht] at hval
    obtain ⟨cs, h1, h2, _⟩ := hval
    exact ⟨cs, h1, h2⟩
  obtain ⟨fuel, hf⟩ := h
  obtain ⟨ys, m, _, hx, hl, hy, hget⟩ := DataW.trod_array ht hf
  rw [hct] at hsz
  have hcell : ∀ i (hi : i < cs.size), ∃ z, cs[i] = .int k z ∧ (Lit.int k z).wf = true := by
    intro i hi
    have h1 := hget i (by omega)
    rw [List.getElem?_eq_getElem (by omega), hce] at h1
    obtain ⟨z, hz, _, hw⟩ := DataW.trod_int he h1
    refine ⟨z, ?_, hw⟩
    have h2 : ((Value.cells (.agg cs)).toList.drop (i * 1)).take 1 = [cs[i]] := by
      rw [Nat.mul_one]
      show (cs.toList.drop i).take 1 = _
      rw [List.drop_eq_getElem_cons (by simpa using hi)]
      simp
    rw [h2] at hz
    injection hz
  refine ⟨cs.toList.map (fun v => match v with | .int _ z => z | _ => 0), by simp [hsz], ?_, ?_⟩
  · congr 1
    apply Array.ext
    · simp
    · intro i h1 h2
      obtain ⟨z, hz, _⟩ := hcell i h1
      simp [hz]
  · intro x hx
    rw [List.mem_map] at hx
    obtain ⟨v, hv, rfl⟩ := hx
    obtain ⟨i, hi, rfl⟩ := List.mem_iff_getElem.1 hv
    obtain ⟨z, hz, hw⟩ := hcell i (by simpa using hi)
    simp [hz, hw]
end
theorem wf_u32 {n : Int} (h : (Lit.int .u32 n).wf = true) : ∃ b : BitVec 32, n = (b.toNat : Int) := by
  have := bounds_u32 h
  exact ⟨BitVec.ofNat 32 n.toNat, by rw [BitVec.toNat_ofNat]; omega⟩
theorem wf_u64 {n : Int} (h : (Lit.int .u64 n).wf = true) : ∃ b : BitVec 64, n = (b.toNat : Int) := by
  have := bounds_u64 h
  exact ⟨BitVec.ofNat 64 n.toNat, by rw [BitVec.toNat_ofNat]; omega⟩
theorem wf_u8' {n : Int} (h : (Lit.int .u8 n).wf = true) : ∃ b : UInt8, n = (b.toNat : Int) := by
  have := wf_u8 h
  exact ⟨UInt8.ofNat n.toNat, by rw [UInt8.toNat_ofNat']; omega⟩
end Go.Proofs.YthmlidlnojdggaaDoor
