/-
  The layer sums: the sums in closed form. No program here.
-/
import Derived.Test.YtbnpalnmgeahpaaSums
namespace Go.Proofs.Ytbnpalnmgeahpaa
/-- all bytes together -/
def allB : List UInt8 → Nat
  | [] => 0
  | b :: l => b.toNat + allB l
/-- each byte as often as there are from it on -/
def allW : List UInt8 → Nat
  | [] => 0
  | b :: l => (l.length + 1) * b.toNat + allW l
theorem exact_closed (l : List UInt8) : ∀ x y, exact x y l = (x + allB l, y + l.length * x + allW l) := by
  induction l with
  | nil => intro x y; simp [exact, allB, allW]
  | cons b l ih =>
    intro x y
    simp only [exact, ih, allB, allW, List.length_cons, Nat.add_mul, Nat.mul_add, Prod.mk.injEq]
    refine ⟨by omega, by omega⟩
theorem allB_append (a b : List UInt8) : allB (a ++ b) = allB a + allB b := by
  induction a with
  | nil => simp [allB]
  | cons c l ih => simp only [List.cons_append, allB, ih]; omega
theorem allW_append (a b : List UInt8) : allW (a ++ b) = allW a + b.length * allB a + allW b := by
  induction a with
  | nil => simp [allW, allB]
  | cons c l ih =>
    simp only [List.cons_append, allW, allB, ih, List.length_append, Nat.add_mul, Nat.mul_add]
    omega
theorem allB_set (l : List UInt8) : ∀ (k : Nat) (v : UInt8), k < l.length → allB (l.set k v) + (l.getD k 0).toNat = allB l + v.toNat := by
  induction l with
  | nil => intro k v h; simp at h
  | cons c l ih =>
    intro k v h
    cases k with
    | zero => simp [allB]; omega
    | succ k =>
      have := ih k v (by simpa using h)
      simp only [List.set_cons_succ, allB, List.getD_cons_succ] at this ⊢
      omega
theorem all_swap (l : List UInt8) : ∀ (k : Nat), k + 1 < l.length → allB ((l.set k (l.getD (k + 1) 0)).set (k + 1) (l.getD k 0)) = allB l ∧ allW ((l.set k (l.getD (k + 1) 0)).set (k + 1) (l.getD k 0)) + (l.getD k 0).toNat = allW l + (l.getD (k + 1) 0).toNat := by
  induction l with
  | nil => intro k h; simp at h
  | cons c l ih =>
    intro k h
    cases k with
    | zero =>
      cases l with
      | nil => simp at h
      | cons d l =>
        simp [allB, allW, Nat.add_mul]
        omega
    | succ k =>
      have := ih k (by simpa using h)
      simp only [List.set_cons_succ, allB, allW, List.getD_cons_succ, List.length_set] at this ⊢
      omega
theorem allB_noughts (n : Nat) : allB (List.replicate n 0) = 0 := by induction n with | zero => rfl | succ n ih => simp [List.replicate_succ, allB, ih]
theorem allW_noughts (n : Nat) : allW (List.replicate n 0) = 0 := by induction n with | zero => rfl | succ n ih => simp [List.replicate_succ, allW, ih]
theorem allB_le (l : List UInt8) : allB l ≤ 255 * l.length := by
  induction l with
  | nil => simp [allB]
  | cons c l ih => have := Go.K.b_lt c; simp only [allB, List.length_cons]; omega

theorem on_low (s : Nat) (l : List UInt8) : onNat s l % 65536 = (adl (s % 65536 % 65521) (s / 65536 % 65521) l).1 := by
  have := adl_lt (s % 65536 % 65521) (s / 65536 % 65521) l
  unfold onNat; omega
theorem on_high (s : Nat) (l : List UInt8) : onNat s l / 65536 = (adl (s % 65536 % 65521) (s / 65536 % 65521) l).2 := by
  have := adl_lt (s % 65536 % 65521) (s / 65536 % 65521) l
  unfold onNat; omega
theorem on_lt (s : Nat) (l : List UInt8) : onNat s l < 4294967296 := by
  have := adl_lt (s % 65536 % 65521) (s / 65536 % 65521) l
  unfold onNat; omega
theorem of_low (l : List UInt8) : onNat 1 l % 65536 = (1 + allB l) % 65521 := by rw [on_low]; simp only [adl, exact_closed]
theorem of_high (l : List UInt8) : onNat 1 l / 65536 = (l.length + allW l) % 65521 := by rw [on_high]; simp [adl, exact_closed]
theorem on_join (a b : List UInt8) : onNat 1 (a ++ b) = onNat (onNat 1 a) b := by
  have h := adl_lt 1 0 a
  have h1 : onNat 1 a % 65536 % 65521 = (adl 1 0 a).1 := by rw [on_low]; simp; omega
  have h2 : onNat 1 a / 65536 % 65521 = (adl 1 0 a).2 := by rw [on_high]; simp; omega
  unfold onNat
  rw [show onNat 1 a = (adl (1 % 65536 % 65521) (1 / 65536 % 65521) a).2 * 65536 + (adl (1 % 65536 % 65521) (1 / 65536 % 65521) a).1 from rfl] at h1 h2
  rw [h1, h2, ← adl_append]
/-- the first numbers of the statement on the halves -/
def lowS (l : List UInt8) : Nat → Nat
  | 0 => 1
  | k + 1 => lowS l k + (l.getD k 0).toNat
def highS (l : List UInt8) : Nat → Nat
  | 0 => l.length
  | k + 1 => highS l k + (l.length - k) * (l.getD k 0).toNat
theorem halves (l : List UInt8) : ∀ k, k ≤ l.length → lowS l k = (exact 1 0 (l.take k)).1 ∧ highS l k = (exact 1 0 (l.take k)).2 + (l.length - k) * lowS l k := by
  intro k
  induction k with
  | zero => intro _; simp [lowS, highS, exact]
  | succ k ih =>
    intro hk
    obtain ⟨h1, h2⟩ := ih (by omega)
    have hs := exact_snoc (l.take k) (l.getD k 0) 1 0
    rw [← take_snoc l k (by omega)] at hs
    rw [hs]
    simp only [lowS, highS]
    refine ⟨by omega, ?_⟩
    obtain ⟨m, hm⟩ : ∃ m, l.length - k = m + 1 := ⟨l.length - k - 1, by omega⟩
    rw [hm] at h2 ⊢
    rw [show l.length - (k + 1) = m by omega, h2, ← h1]
    simp only [Nat.add_mul, Nat.mul_add]
    omega
theorem halves_end (l : List UInt8) : lowS l l.length = 1 + allB l ∧ highS l l.length = l.length + allW l := by
  have := halves l l.length (Nat.le_refl _)
  rw [List.take_length, exact_closed] at this
  simp at this
  rw [this.1, this.2]
  exact ⟨rfl, rfl⟩
theorem halves_le (l : List UInt8) : ∀ k, k ≤ l.length → lowS l k ≤ 1 + 255 * k ∧ highS l k ≤ l.length + k * (255 * l.length) := by
  intro k
  induction k with
  | zero => intro _; simp [lowS, highS]
  | succ k ih =>
    intro hk
    have := ih (by omega)
    have hc := Go.K.b_lt (l.getD k 0)
    have hp : (l.length - k) * (l.getD k 0).toNat ≤ l.length * 255 := Nat.mul_le_mul (by omega) (by omega)
    simp only [lowS, highS, Nat.add_mul]
    omega
end Go.Proofs.Ytbnpalnmgeahpaa
