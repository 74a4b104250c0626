/- A number of the field is two words: plain. -/
import Derived.Test.YthmlidlnojdggaaDoorPrgSpec
set_option linter.unusedVariables false
namespace Go.Proofs.YthmlidlnojdggaaDoor.Prg
theorem num_from (b : List UInt8) : ∀ v : Nat, b.foldl (fun v c => 256 * v + c.toNat) v = v * 256 ^ b.length + num b := by
  induction b with
  | nil => intro v; simp [num]
  | cons c b ih =>
    intro v
    have h1 : num (c :: b) = c.toNat * 256 ^ b.length + num b := by
      have := ih (256 * 0 + c.toNat)
      rw [show 256 * 0 + c.toNat = c.toNat by omega] at this
      rw [← this, num, List.foldl_cons, show 256 * 0 + c.toNat = c.toNat by omega]
    rw [List.foldl_cons, ih, h1, List.length_cons, Nat.pow_succ, Nat.add_mul, Nat.mul_comm 256 v, Nat.mul_assoc, Nat.mul_comm 256, Nat.add_assoc]
theorem num_app (a b : List UInt8) : num (a ++ b) = num a * 256 ^ b.length + num b := by
  rw [num, List.foldl_append, num_from]
  rfl
theorem wd_num (b : List UInt8) (k : Nat) : (wd b k).toNat = num ((b.drop (4 * k)).take 4) := by
  have h := num_lt ((b.drop (4 * k)).take 4)
  have h2 : 256 ^ ((b.drop (4 * k)).take 4).length ≤ 256 ^ 4 := Nat.pow_le_pow_right (by decide) (by rw [List.length_take]; omega)
  rw [wd, BitVec.toNat_ofNat, Nat.mod_eq_of_lt (Nat.lt_of_lt_of_le h h2)]
theorem parts (b : List UInt8) (hb : b.length = 32) : num (b.take 8) = (wd b 0).toNat * 4294967296 + (wd b 1).toNat := by
  rw [wd_num, wd_num]
  have e : b.take 8 = b.take 4 ++ (b.drop 4).take 4 := by
    rw [← List.take_add]
  rw [e, num_app, List.length_take, List.length_drop, hb]
  simp
theorem words_getD (seed : Nat) (l : List UInt8) (n i : Nat) (hi : i < n) : (words seed l n).getD i 0 = word seed l i := by
  simp [words, List.getD_eq_getElem?_getD, hi]
/-- The number at k, by the words. -/
theorem fnum_parts (seed : Nat) (l : List UInt8) (k : Nat) (hk : k ≤ 3) : fnum seed l k = (((words seed l 32).getD (8 * k) 0).toNat * 4294967296 + ((words seed l 32).getD (8 * k + 1) 0).toNat) % prime := by
  rw [words_getD _ _ _ _ (by omega), words_getD _ _ _ _ (by omega), word, word, show 8 * k / 8 = k by omega, show 8 * k % 8 = 0 by omega, show (8 * k + 1) / 8 = k by omega, show (8 * k + 1) % 8 = 1 by omega, fnum, parts _ (blk_len _ _ _)]
end Go.Proofs.YthmlidlnojdggaaDoor.Prg
