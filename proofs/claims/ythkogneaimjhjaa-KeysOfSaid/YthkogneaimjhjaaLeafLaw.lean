/-
  The layer leaves in plain Lean: a leaf, a node, a root; no program in sight.
-/
import Derived.Test.YthkogneaimjhjaaShaLaw
namespace Go.Sha
open Go.K
def leafS (v : List UInt8) : List UInt8 := sha (0 :: v)
def nodeS (l r : List UInt8) : List UInt8 := sha (1 :: (l ++ r))
theorem leafS_length (v : List UInt8) : (leafS v).length = 32 := sha_length _
theorem nodeS_length (l r : List UInt8) : (nodeS l r).length = 32 := sha_length _
/-- the greatest power of two that is less than n (n at least 2) -/
def cutN (n : Nat) : Nat := 2 ^ Nat.log2 (n - 1)
theorem cutN_pos (n : Nat) : 0 < cutN n := Nat.pow_pos (by omega)
theorem cutN_lt {n : Nat} (h : 2 ≤ n) : cutN n < n := by
  have := Nat.log2_self_le (n := n - 1) (by omega)
  unfold cutN; omega
theorem cutN_ge {n : Nat} (h : 2 ≤ n) : n ≤ 2 * cutN n := by
  have := Nat.lt_log2_self (n := n - 1)
  unfold cutN; rw [Nat.pow_succ] at this; omega
theorem cutN_eq {n k : Nat} (h1 : 2 ^ k < n) (h2 : n ≤ 2 * 2 ^ k) : cutN n = 2 ^ k := by
  have hp : 0 < 2 ^ k := Nat.pow_pos (by omega)
  unfold cutN
  congr 1
  exact (Nat.log2_eq_iff (by omega)).2 ⟨by omega, by rw [Nat.pow_succ]; omega⟩
def rootS : List (List UInt8) → List UInt8
  | [] => sha []
  | [x] => x
  | x :: y :: l => nodeS (rootS ((x :: y :: l).take (cutN (l.length + 2)))) (rootS ((x :: y :: l).drop (cutN (l.length + 2))))
  termination_by l => l.length
  decreasing_by
  · have := cutN_lt (n := l.length + 2) (by omega)
    simp only [List.length_take, List.length_cons]; omega
  · have := cutN_pos (l.length + 2)
    simp only [List.length_drop, List.length_cons]; omega
theorem rootS_nil : rootS [] = sha [] := by rw [rootS]
theorem rootS_one (x : List UInt8) : rootS [x] = x := by rw [rootS]
theorem rootS_more (l : List (List UInt8)) (h : 2 ≤ l.length) : rootS l = nodeS (rootS (l.take (cutN l.length))) (rootS (l.drop (cutN l.length))) := by
  match l, h with
  | x :: y :: l, _ => rw [rootS]; rfl
theorem rootS_length (l : List (List UInt8)) (h : ∀ x ∈ l, x.length = 32) : (rootS l).length = 32 := by
  match l, h with
  | [], _ => rw [rootS_nil]; exact sha_length _
  | [x], h => rw [rootS_one]; exact h x (by simp)
  | x :: y :: l, _ => rw [rootS_more _ (by simp)]; exact nodeS_length _ _
end Go.Sha
