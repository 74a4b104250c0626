/- A slice of anything among the arguments, by what its elements are. -/
import Derived.Test.YtpgighcobmaecaaRow
set_option linter.unusedVariables false
set_option linter.unusedSimpArgs false
namespace Go.Proofs.Ytpgighcobmaecaa
open Go.ChangeShapes Go.WideShapes Go.ChangeAt Go.RowKit Go.Proofs.YtpgighcobmaecaaW.PrintWords

section
variable {H : Type} {enc : TypeId × Value → H} {P : Program} {w : World} {base : Nat} {spare : Nat → Bool} {held : Bool}
theorem C_of_trod {α : Type} (d : Kd α) {t e : TypeId} (ht : P.underlying t = some (.slice e)) (hsz : P.cellsOf e = d.sz) (hel : ∀ m cs y, DataW.trod enc P w base spare held m e cs = some y → ∃ x, d.K w x cs)
    {fuel : Nat} {a : Option Addr} {len cap : Nat} {x : DataW H × List MemPlace} (h : DataW.trod enc P w base spare held fuel t [.slice a len cap] = some x) : ∃ xs : List α, xs.length = len ∧ d.C w a len xs ∧ len ≤ cap ∧ cap ≤ maxLen := by
  rcases DataW.trod_slice ht h with ⟨hcs, _⟩ | ⟨ad, len', cap', elems, rest, n, _, hcs, _, hb, hl, hm, hlen, hels, _, _⟩
  · simp at hcs
    obtain ⟨rfl, rfl, rfl⟩ := hcs
    exact ⟨[], rfl, ⟨rfl, by decide, fun h => absurd h (by decide)⟩, Nat.le_refl _, Nat.zero_le _⟩
  · simp at hcs
    obtain ⟨rfl, rfl, rfl⟩ := hcs
    have each : ∀ i, i < len → ∃ x c, d.K w x c ∧ ∀ j u, c[j]? = some u → w.cell? (ad.add (i * d.sz + j)) = some u := by
      intro i hi
      have h1 := hels i hi
      rw [List.getElem?_eq_getElem (by omega), Option.bind_eq_some_iff] at h1
      obtain ⟨cs, hcs, hy⟩ := h1
      obtain ⟨x, hx⟩ := hel _ _ _ hy
      refine ⟨x, cs, hx, fun j u hu => ?_⟩
      rw [hsz] at hcs
      obtain ⟨_, h2, h3⟩ := World.cells?_some hcs
      have hj : j < cs.length := (List.getElem?_eq_some_iff.1 hu).1
      rw [← hu, ← h3 j (by omega), add_add]
    refine ⟨List.ofFn (fun i : Fin len => Classical.choose (each i.1 i.2)), List.length_ofFn, ⟨List.length_ofFn, by unfold maxLen at hm; omega, fun _ => ⟨ad, rfl, fun j p hp => ?_⟩⟩, hl, hm⟩
    have hj : j < len := by
      have := (List.getElem?_eq_some_iff.1 hp).1
      rwa [List.length_ofFn] at this
    rw [List.getElem?_ofFn, dif_pos hj] at hp
    injection hp with hp
    subst hp
    obtain ⟨c, h1, h2⟩ := Classical.choose_spec (each j hj)
    exact ⟨c, d.K_len h1, h1, h2⟩
end
section
variable {H : Type} {enc : TypeId × Value → H} {W : World}
theorem el_bytes {base : Nat} {held : Bool} (m : Nat) (cs : List Value) (y : DataW H × List MemPlace) (h : DataW.trod enc Try.prog W base (fun _ => true) held m 22 cs = some y) : ∃ l : List UInt8, (Kd.slice 5 Kb).K W l cs := by
  rcases open_ints Try.underlying22 Try.underlying5 (by kernel_rfl) h with ⟨rfl, _⟩ | ⟨x, len, c, zs, rfl, _, hl, hm, hz, _, hcell, hwz⟩
  · exact ⟨[], none, 0, rfl, Nat.le_refl _, ⟨rfl, by decide, fun h => absurd h (by decide)⟩⟩
  · obtain ⟨l, rfl, hr, hc⟩ := bytes_of_row (.inr ⟨x, rfl, hl, hm, by simpa using hz, hcell, hwz⟩)
    exact ⟨l, some x, c, rfl, hc, hr⟩
/-- A [][]byte among the arguments. -/
theorem open_bodies {base : Nat} {v : Value} {d : DataW H} {p : List MemPlace} (hval : Value.okWide Try.prog W .any base 33 v) (h : DataW.Trod enc Try.prog W 0 (fun _ => true) true 33 v d p) :
    ∃ (A : Option Addr) (c : Nat) (l : List (List UInt8)), v = .slice A l.length c ∧ (Kd.slice 5 Kb).C W A l.length l ∧ l.length ≤ c ∧ l.length ≤ maxLen := by
  obtain ⟨a0, len0, cap0, rfl⟩ := okWide_slice Try.underlying33 hval
  obtain ⟨fuel, hf⟩ := h
  obtain ⟨l, rfl, hr, hc, hm⟩ := C_of_trod (Kd.slice 5 Kb) Try.underlying33 (by kernel_rfl) el_bytes hf
  exact ⟨a0, cap0, l, rfl, hr, hc, Nat.le_trans hc hm⟩
end
end Go.Proofs.Ytpgighcobmaecaa
