/-
  Lists of lists of bytes, one behind the other; no program in sight.
-/
import Derived.Test.YtfdlafjifjndeaaK10
namespace Go.Proofs.Ytfdlafjifjndeaa
open Go.K
def total (ls : List Sl) : Nat := (ls.map fun s => s.xs.length).sum
/-- the first lists, one behind the other -/
def upTo (ls : List Sl) (i : Nat) : List UInt8 := (ls.take i).flatMap Sl.xs
theorem upTo_zero (ls : List Sl) : upTo ls 0 = [] := rfl
theorem upTo_succ (ls : List Sl) (i : Nat) (h : i < ls.length) : upTo ls (i + 1) = upTo ls i ++ ls[i].xs := by
  unfold upTo
  rw [List.take_succ_eq_append_getElem h, List.flatMap_append]
  simp
theorem upTo_le (ls : List Sl) (i : Nat) : (upTo ls i).length ≤ total ls := by
  unfold upTo total
  induction ls generalizing i with
  | nil => simp
  | cons s r ih =>
    cases i with
    | zero => simp
    | succ i => have := ih i; simp at this ⊢; omega
theorem upTo_one (s : Sl) : upTo [s] 1 = s.xs := by simp [upTo]
theorem total_one (s : Sl) : total [s] = s.xs.length := by simp [total]
theorem each_le (ls : List Sl) (s : Sl) (h : s ∈ ls) : s.xs.length ≤ total ls := by
  unfold total
  induction ls with
  | nil => cases h
  | cons t r ih =>
    rcases List.mem_cons.1 h with rfl | h
    · simp
    · have := ih h; simp; omega
end Go.Proofs.Ytfdlafjifjndeaa
