
/-
  The layer counts: a disk on which one count is kept.
-/
import Derived.Test.YtfdlafjifjndeaaCnt5
namespace Go.Proofs.Ytfdlafjifjndeaa
open Go.RowKit Go.K
attribute [local irreducible] Exit.then Exit.inBlock Exit.noGoto bodyPost Code.wp QL Sx Rx Qx Ex Dx Op1 Pure1 Still1 K.Sub Calm Code.wpIn
/-- n sectors of zeros but for the one at a, which tells k -/
def diskN (n a k : Nat) : List (List UInt8) := if k = 0 then List.replicate n (List.replicate 64 0) else (List.replicate n (List.replicate 64 0)).set a (toldS k)
theorem diskN_zero (n a : Nat) : List.replicate n (List.replicate 64 0) = diskN n a 0 := rfl
theorem diskN_set (n a k : Nat) : (diskN n a k).set a (toldS (k + 1)) = diskN n a (k + 1) := by
  unfold diskN
  rw [if_neg (Nat.succ_ne_zero k)]
  split
  · rfl
  · rw [List.set_set]
theorem diskN_secs (n a k : Nat) : Secs (diskN n a k) := by
  unfold diskN
  split
  · exact zeroSecs n
  · exact (zeroSecs n).set a (toldS_length k)
theorem diskN_length (n a k : Nat) : (diskN n a k).length = n := by
  unfold diskN
  split <;> simp
theorem diskN_at (n a k : Nat) (ha : a < n) (hk : k ≤ 16) : ∃ x, (diskN n a k)[a]? = some x ∧ openedS x = some k := by
  unfold diskN
  split
  · rename_i h
    subst h
    exact ⟨_, by rw [List.getElem?_replicate, if_pos ha], opened_zero⟩
  · rename_i h
    refine ⟨toldS k, by rw [List.getElem?_set_self (by simpa using ha)], ?_⟩
    have := opened_told (k - 1) (by omega)
    rwa [Nat.sub_add_cancel (by omega)] at this
theorem diskN_other (n a b k : Nat) (hb : b < n) (hab : a ≠ b) : (diskN n a k)[b]? = some (List.replicate 64 0) := by
  unfold diskN
  split
  · rw [List.getElem?_replicate, if_pos hb]
  · rw [List.getElem?_set_ne hab, List.getElem?_replicate, if_pos hb]
end Go.Proofs.Ytfdlafjifjndeaa
