/-
  The layer onces in plain Lean: pairs of sums one behind the other, what a key comes to, what it signs; no program but the secrets.
-/
import Derived.Test.YtfdlafjifjndeaaSeeds2
import Derived.Test.YtfdlafjifjndeaaKeyLaw
namespace Go.Sha
open Go.K
/-- what the first n of some lists are, one behind the other -/
def catN (f : Nat → List UInt8) : Nat → List UInt8
  | 0 => []
  | n + 1 => catN f n ++ f n
theorem catN_congr (f g : Nat → List UInt8) (n : Nat) (h : ∀ i, i < n → f i = g i) : catN f n = catN g n := by
  induction n with
  | zero => rfl
  | succ n ih => rw [catN, catN, ih fun i hi => h i (by omega), h n (by omega)]
theorem catN_length (f : Nat → List UInt8) (k n : Nat) (h : ∀ i, (f i).length = k) : (catN f n).length = n * k := by
  induction n with
  | zero => simp [catN]
  | succ n ih => rw [catN, List.length_append, ih, h, Nat.succ_mul]
/-- what a key would come to at a bit, by what signed it -/
def ofPair (m : List UInt8) (l : List (List UInt8)) (n : Nat) : List UInt8 := if bitN m n = 0 then sha (l.getD n []) ++ l.getD (64 + n) [] else l.getD (64 + n) [] ++ sha (l.getD n [])
theorem ofPair_length (m : List UInt8) (l : List (List UInt8)) (n : Nat) (hs : Sums l) (hn : 64 + n < l.length) : (ofPair m l n).length = 64 := by
  have h1 := sha_length (l.getD n [])
  have h2 : (l.getD (64 + n) []).length = 32 := hs _ (by rw [List.getD_eq_getElem?_getD, List.getElem?_eq_getElem hn]; exact List.getElem_mem hn)
  unfold ofPair
  split <;> rw [List.length_append] <;> omega
end Go.Sha
namespace Go.Proofs.Ytfdlafjifjndeaa
open Go.Sha Go.K
/-- the secret of a bit's side -/
def secN (seed : List UInt8) (idx n k : Nat) : List UInt8 := secretS seed idx (n : Int) (k : Int)
theorem secN_length (seed : List UInt8) (idx n k : Nat) : (secN seed idx n k).length = 32 := secretS_length _ _ _ _
def pubPair (seed : List UInt8) (idx n : Nat) : List UInt8 := sha (secN seed idx n 0) ++ sha (secN seed idx n 1)
theorem pubPair_length (seed : List UInt8) (idx n : Nat) : (pubPair seed idx n).length = 64 := by unfold pubPair; rw [List.length_append, sha_length, sha_length]
/-- what signs a message, of the first k bits -/
def signP (seed : List UInt8) (idx : Nat) (m : List UInt8) (k : Nat) : List (List UInt8) := (List.range 128).map fun i =>
  if i < 64 then (if i < k then secN seed idx i (bitN m i) else List.replicate 32 0) else (if i - 64 < k then sha (secN seed idx (i - 64) (1 - bitN m (i - 64))) else List.replicate 32 0)
theorem signP_length (seed : List UInt8) (idx : Nat) (m : List UInt8) (k : Nat) : (signP seed idx m k).length = 128 := by unfold signP; rw [List.length_map, List.length_range]
theorem signP_get (seed : List UInt8) (idx : Nat) (m : List UInt8) (k i : Nat) (hi : i < 128) : (signP seed idx m k)[i]? = some (if i < 64 then (if i < k then secN seed idx i (bitN m i) else List.replicate 32 0) else (if i - 64 < k then sha (secN seed idx (i - 64) (1 - bitN m (i - 64))) else List.replicate 32 0)) := by
  unfold signP
  rw [List.getElem?_map, List.getElem?_range hi]
  rfl
theorem signP_sums (seed : List UInt8) (idx : Nat) (m : List UInt8) (k : Nat) : Sums (signP seed idx m k) := fun x hx => by
  obtain ⟨i, hi⟩ := List.getElem?_of_mem hx
  have hl : i < 128 := by
    rcases Nat.lt_or_ge i 128 with h | h
    · exact h
    · rw [List.getElem?_eq_none (by rw [signP_length]; exact h)] at hi; cases hi
  rw [signP_get _ _ _ _ i hl] at hi
  cases hi
  split
  · split
    · exact secN_length _ _ _ _
    · rw [List.length_replicate]
  · split
    · exact sha_length _
    · rw [List.length_replicate]
theorem signP_zero (seed : List UInt8) (idx : Nat) (m : List UInt8) : signP seed idx m 0 = List.replicate 128 (List.replicate 32 0) := by
  apply List.ext_getElem?
  intro i
  rcases Nat.lt_or_ge i 128 with hi | hi
  · rw [signP_get _ _ _ _ i hi, List.getElem?_replicate, if_pos hi]
    split
    · rw [if_neg (by omega)]
    · rw [if_neg (by omega)]
  · rw [List.getElem?_eq_none (by rw [signP_length]; exact hi), List.getElem?_eq_none (by rw [List.length_replicate]; exact hi)]
theorem signP_step (seed : List UInt8) (idx : Nat) (m : List UInt8) (k : Nat) (hk : k < 64) : ((signP seed idx m k).set k (secN seed idx k (bitN m k))).set (64 + k) (sha (secN seed idx k (1 - bitN m k))) = signP seed idx m (k + 1) := by
  apply List.ext_getElem?
  intro i
  rcases Nat.lt_or_ge i 128 with hi | hi
  · by_cases e2 : 64 + k = i
    · subst e2
      rw [List.getElem?_set_self (by rw [List.length_set, signP_length]; exact hi), signP_get _ _ _ _ _ hi, if_neg (by omega), if_pos (by omega), show 64 + k - 64 = k by omega]
    · rw [List.getElem?_set_ne e2]
      by_cases e : k = i
      · subst e
        rw [List.getElem?_set_self (by rw [signP_length]; exact hi), signP_get _ _ _ _ _ hi, if_pos hk, if_pos (by omega)]
      · rw [List.getElem?_set_ne e, signP_get _ _ _ _ _ hi, signP_get _ _ _ _ _ hi]
        by_cases h64 : i < 64
        · rw [if_pos h64, if_pos h64]
          by_cases h : i < k
          · rw [if_pos h, if_pos (by omega)]
          · rw [if_neg h, if_neg (by omega)]
        · rw [if_neg h64, if_neg h64]
          by_cases h : i - 64 < k
          · rw [if_pos h, if_pos (by omega)]
          · rw [if_neg h, if_neg (by omega)]
  · rw [List.getElem?_eq_none (by rw [List.length_set, List.length_set, signP_length]; exact hi), List.getElem?_eq_none (by rw [signP_length]; exact hi)]
def signL (seed : List UInt8) (idx : Nat) (m : List UInt8) : List (List UInt8) := signP seed idx m 64
theorem signL_told (seed : List UInt8) (idx : Nat) (m : List UInt8) (n : Nat) (hn : n < 64) : (signL seed idx m).getD n [] = secN seed idx n (bitN m n) := by
  unfold signL
  rw [List.getD_eq_getElem?_getD, signP_get _ _ _ _ _ (by omega), if_pos hn, if_pos hn]; rfl
theorem signL_others (seed : List UInt8) (idx : Nat) (m : List UInt8) (n : Nat) (hn : n < 64) : (signL seed idx m).getD (64 + n) [] = sha (secN seed idx n (1 - bitN m n)) := by
  unfold signL
  rw [List.getD_eq_getElem?_getD, signP_get _ _ _ _ _ (by omega), if_neg (by omega), if_pos (by omega), show 64 + n - 64 = n by omega]; rfl
theorem signL_same (seed : List UInt8) (idx : Nat) (m x : List UInt8) (h : ∀ n, n < 64 → bitN m n = bitN x n) : signL seed idx m = signL seed idx x := by
  unfold signL
  apply List.ext_getElem?
  intro i
  rcases Nat.lt_or_ge i 128 with hi | hi
  · rw [signP_get _ _ _ _ i hi, signP_get _ _ _ _ i hi]
    by_cases h64 : i < 64
    · simp only [if_pos h64, h i h64]
    · simp only [if_neg h64, h (i - 64) (by omega)]
  · rw [List.getElem?_eq_none (by rw [signP_length]; exact hi), List.getElem?_eq_none (by rw [signP_length]; exact hi)]
def ofS (m : List UInt8) (l : List (List UInt8)) : List UInt8 := sha (catN (ofPair m l) 64)
def pubS (seed : List UInt8) (idx : Nat) : List UInt8 := sha (catN (pubPair seed idx) 64)
theorem ofS_length (m : List UInt8) (l : List (List UInt8)) : (ofS m l).length = 32 := sha_length _
theorem pubS_length (seed : List UInt8) (idx : Nat) : (pubS seed idx).length = 32 := sha_length _
theorem of_sign (seed : List UInt8) (idx : Nat) (m : List UInt8) : ofS m (signL seed idx m) = pubS seed idx := by
  unfold ofS pubS
  refine congrArg sha (catN_congr _ _ 64 fun n hn => ?_)
  unfold ofPair pubPair
  rw [signL_told _ _ _ _ hn, signL_others _ _ _ _ hn]
  have hb := bitN_lt m n
  by_cases h : bitN m n = 0
  · rw [if_pos h, h]
  · have h1 : bitN m n = 1 := by omega
    rw [if_neg h, h1]
theorem of_same (m x : List UInt8) (l : List (List UInt8)) (h : ∀ n, n < 64 → bitN m n = bitN x n) : ofS m l = ofS x l := by
  unfold ofS
  refine congrArg sha (catN_congr _ _ 64 fun n hn => ?_)
  unfold ofPair
  rw [h n hn]
end Go.Proofs.Ytfdlafjifjndeaa
