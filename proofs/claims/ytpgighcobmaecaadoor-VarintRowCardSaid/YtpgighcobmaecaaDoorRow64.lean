/- A []uint64 among the arguments. -/
import Derived.Test.YtpgighcobmaecaaDoorRow
set_option linter.unusedVariables false
set_option linter.unusedSimpArgs false
namespace Go.Proofs.YtpgighcobmaecaaDoor
open Go.ChangeShapes Go.WideShapes Go.ChangeAt Go.RowKit Go.Proofs.YtpgighcobmaecaaDoorW.PrintWords

theorem w64_of_row {w : World} {a : Option Addr} {len cap : Nat} {zs : List Int} (h : IsRow .u64 w a len cap zs) : ∃ l : List (BitVec 64), l.length = len ∧ K64.C w a len l ∧ len ≤ cap := by
  rcases h with ⟨rfl, rfl, rfl, rfl⟩ | ⟨x, rfl, hl, hm, hz, hcell, hwf⟩
  · exact ⟨[], rfl, Kd.C_of_reads (d := (0 : BitVec 64)) ⟨rfl, by decide, fun h => absurd h (by decide)⟩, Nat.le_refl _⟩
  · refine ⟨(zs.take len).map fun z => BitVec.ofInt 64 z, by rw [List.length_map, List.length_take]; omega, Kd.C_of_reads (d := (0 : BitVec 64)) ⟨by rw [List.length_map, List.length_take]; omega, by unfold maxLen at hm; omega, fun _ => ⟨x, rfl, fun j hj => ?_⟩⟩, hl⟩
    rw [hcell j (by omega)]
    have hj2 : j < zs.length := by omega
    obtain ⟨b, hb⟩ := wf_u64 (hwf (zs[j]) (List.getElem_mem hj2))
    simp only [List.getD_eq_getElem?_getD, List.getElem?_eq_getElem hj2, List.getElem?_map, List.getElem?_take_of_lt hj, Option.map_some, Option.getD_some]
    rw [hb, BitVec.ofInt_natCast, BitVec.ofNat_toNat, BitVec.setWidth_eq]
section
variable {H : Type} {enc : TypeId × Value → H} {W : World} {base : Nat} {args : Array Value}
theorem open_w64 {v : Value} {d : DataW H} {p : List MemPlace} (hval : Value.okWide Tryd.prog W .any base 36 v) (h : DataW.Trod enc Tryd.prog W 0 (fun _ => true) true 36 v d p)
    {ts : List TypeId} {ds : List (DataW H)} {j : Nat} (hsz : (DataW.weightsEach Tryd.prog ts ds).all (· ≤ reachBytes) = true) (ht : ts[j]? = some 36) (hd : ds[j]? = some d) :
    ∃ (A : Option Addr) (c : Nat) (l : List (BitVec 64)), v = .slice A l.length c ∧ K64.C W A l.length l ∧ l.length ≤ 140737488351232 ∧ l.length ≤ c := by
  obtain ⟨a0, len0, cap0, rfl⟩ := okWide_slice Tryd.underlying36 hval
  have hs := sized_ints hsz ht hd Tryd.underlying36 Tryd.underlying23 (by kernel_rfl) (B := 8) (by kernel_rfl) h
  obtain ⟨fuel, hf⟩ := h
  obtain ⟨z0, w0⟩ : ∃ zs, IsRow .u64 W a0 len0 cap0 zs := by
    rcases open_ints Tryd.underlying36 Tryd.underlying23 (by kernel_rfl) hf with ⟨hcs, _⟩ | ⟨x, l, c, zs, hcs, _, hl, hm, hz, _, hcell, hwz⟩
    · simp [Value.cells] at hcs
      obtain ⟨rfl, rfl, rfl⟩ := hcs
      exact ⟨[], .inl ⟨rfl, rfl, rfl, rfl⟩⟩
    · simp [Value.cells] at hcs
      obtain ⟨rfl, rfl, rfl⟩ := hcs
      exact ⟨zs, .inr ⟨_, rfl, hl, hm, by simpa using hz, hcell, hwz⟩⟩
  obtain ⟨l, rfl, hr, hc⟩ := w64_of_row w0
  exact ⟨a0, cap0, l, rfl, hr, by omega, hc⟩
end
end Go.Proofs.YtpgighcobmaecaaDoor
