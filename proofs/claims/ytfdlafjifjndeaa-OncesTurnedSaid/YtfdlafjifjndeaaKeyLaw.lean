/-
  The layer keys in plain Lean: bits, sides, what is empty; no program in sight.
-/
import Derived.Test.YtfdlafjifjndeaaShaLaw
namespace Go.Sha
open Go.K
def bitN (k : List UInt8) (d : Nat) : Nat := (k.getD (d / 8) 0).toNat / 2 ^ (7 - d % 8) % 2
def bitZ (k : List UInt8) (d : Int) : Nat := if 0 ≤ d ∧ d < 256 then bitN k d.toNat else 0
def sideS (l r : List UInt8) : List UInt8 := sha (4 :: (l ++ r))
def empS : Nat → List UInt8
  | 0 => sha [2]
  | j + 1 => sideS (empS j) (empS j)
def levels (d : Int) : Nat := 256 - min 256 d.toNat
def valueS (k v : List UInt8) : List UInt8 := if v = [] then sha [2] else sha (3 :: (k ++ v))
theorem sideS_length (l r : List UInt8) : (sideS l r).length = 32 := sha_length _
theorem empS_length (j : Nat) : (empS j).length = 32 := by cases j <;> exact sha_length _
theorem valueS_length (k v : List UInt8) : (valueS k v).length = 32 := by unfold valueS; split <;> exact sha_length _
theorem bitN_lt (k : List UInt8) (d : Nat) : bitN k d < 2 := Nat.mod_lt _ (by omega)

/-- the bytes that the first bits make -/
def backP (k : List UInt8) : Nat → List UInt8
  | 0 => List.replicate 32 0
  | d + 1 => (backP k d).set (d / 8) (UInt8.ofNat (2 * ((backP k d).getD (d / 8) 0).toNat + bitN k d))
theorem backP_length (k : List UInt8) (d : Nat) : (backP k d).length = 32 := by
  induction d with
  | zero => simp [backP]
  | succ d ih => simp [backP, ih]
theorem backP_same (k o : List UInt8) (d : Nat) (h : ∀ i, i < d → bitN k i = bitN o i) : backP k d = backP o d := by
  induction d with
  | zero => rfl
  | succ d ih => rw [backP, backP, ih fun i hi => h i (by omega), h d (by omega)]
theorem pow_parts (x m : Nat) (hx : x < 256) (hm : m < 8) : 2 * (x / 2 ^ (8 - m)) + x / 2 ^ (7 - m) % 2 = x / 2 ^ (7 - m) := by
  match m, hm with
  | 0, _ => simp; omega
  | 1, _ => simp; omega
  | 2, _ => simp; omega
  | 3, _ => simp; omega
  | 4, _ => simp; omega
  | 5, _ => simp; omega
  | 6, _ => simp; omega
  | 7, _ => simp; omega
theorem backP_get (k : List UInt8) (d : Nat) : ∀ j, j < 32 → d ≤ 256 → ((backP k d).getD j 0).toNat = (k.getD j 0).toNat / 2 ^ (8 - min 8 (d - 8 * j)) := by
  induction d with
  | zero =>
    intro j hj _
    have := b_lt (k.getD j 0)
    have h0 : (List.replicate 32 (0 : UInt8)).getD j 0 = 0 := by rw [List.getD_eq_getElem?_getD, List.getElem?_replicate]; split <;> rfl
    rw [backP, h0, Nat.zero_sub, Nat.min_zero, Nat.sub_zero, Nat.div_eq_of_lt (by omega)]
    rfl
  | succ d ih =>
    intro j hj hd
    have hl := backP_length k d
    rw [backP]
    by_cases e : d / 8 = j
    · subst e
      have h1 := ih (d / 8) hj (by omega)
      rw [show min 8 (d - 8 * (d / 8)) = d % 8 by omega] at h1
      have hx := b_lt (k.getD (d / 8) 0)
      have hp := pow_parts (k.getD (d / 8) 0).toNat (d % 8) hx (by omega)
      have h2 : ((backP k d).set (d / 8) (UInt8.ofNat (2 * ((backP k d).getD (d / 8) 0).toNat + bitN k d))).getD (d / 8) 0 = UInt8.ofNat (2 * ((backP k d).getD (d / 8) 0).toNat + bitN k d) := by
        simp [List.getD_eq_getElem?_getD, List.getElem?_set_self (show d / 8 < (backP k d).length by omega)]
      rw [h2, h1, bitN, hp, show min 8 (d + 1 - 8 * (d / 8)) = d % 8 + 1 by omega, show 8 - (d % 8 + 1) = 7 - d % 8 by omega, UInt8.toNat_ofNat']
      refine Nat.mod_eq_of_lt ?_
      exact Nat.lt_of_le_of_lt (Nat.div_le_self _ _) hx
    · have h2 : ((backP k d).set (d / 8) (UInt8.ofNat (2 * ((backP k d).getD (d / 8) 0).toNat + bitN k d))).getD j 0 = (backP k d).getD j 0 := by
        simp only [List.getD_eq_getElem?_getD]
        rw [List.getElem?_set_ne e]
      rw [h2, ih j hj (by omega)]
      congr 3
      omega
theorem backP_half (k : List UInt8) (d : Nat) (hd : d < 256) : ((backP k d).getD (d / 8) 0).toNat < 128 := by
  have h := backP_get k d (d / 8) (by omega) (by omega)
  rw [show min 8 (d - 8 * (d / 8)) = d % 8 by omega] at h
  have hx := b_lt (k.getD (d / 8) 0)
  rw [h]
  have : (k.getD (d / 8) 0).toNat / 2 ^ (8 - d % 8) ≤ (k.getD (d / 8) 0).toNat / 2 ^ 1 := Nat.div_le_div_left (Nat.pow_le_pow_right (by omega) (by omega)) (by omega)
  omega
theorem backP_all (k : List UInt8) (hk : k.length = 32) : backP k 256 = k := by
  have hl := backP_length k 256
  refine List.ext_getElem (by omega) fun j h1 h2 => ?_
  have h := backP_get k 256 j (by omega) (Nat.le_refl _)
  rw [show min 8 (256 - 8 * j) = 8 by omega] at h
  simp only [Nat.sub_self, Nat.pow_zero, Nat.div_one] at h
  have := UInt8.toNat_inj.1 h
  simpa [h1, h2] using this
def partP (k o : List UInt8) : Nat → Bool
  | 0 => false
  | d + 1 => partP k o d || (bitN k d != bitN o d)
theorem partP_iff (k o : List UInt8) (d : Nat) : partP k o d = false ↔ ∀ i, i < d → bitN k i = bitN o i := by
  induction d with
  | zero => simp [partP]
  | succ d ih =>
    rw [partP, Bool.or_eq_false_iff, ih]
    constructor
    · rintro ⟨h1, h2⟩ i hi
      by_cases e : i = d
      · subst e; simpa using h2
      · exact h1 i (by omega)
    · exact fun h => ⟨fun i hi => h i (by omega), by simp [h d (by omega)]⟩
theorem partP_all (k o : List UInt8) (hk : k.length = 32) (ho : o.length = 32) : (partP k o 256 == !(k == o)) = true := by
  have h : partP k o 256 = false ↔ k = o := by
    rw [partP_iff]
    constructor
    · intro h
      rw [← backP_all k hk, ← backP_all o ho, backP_same k o 256 h]
    · rintro rfl i _; rfl
  cases hp : partP k o 256 with
  | false => simp [h.1 hp]
  | true =>
    have hne : k ≠ o := fun e => by rw [h.2 e] at hp; cases hp
    simp [hne]
end Go.Sha
