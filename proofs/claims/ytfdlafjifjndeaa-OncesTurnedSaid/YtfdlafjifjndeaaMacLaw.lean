/-
  HMAC in plain Lean; no program in sight.
-/
import Derived.Test.YtfdlafjifjndeaaShaLaw
namespace Go.Sha
open Go.K
def madeK (key : List UInt8) : List UInt8 := (if 64 < key.length then sha key else key) ++ List.replicate (64 - (if 64 < key.length then sha key else key).length) 0
def byK (n : UInt8) (b : List UInt8) : List UInt8 := b.map (· ^^^ n)
def hmac (key msg : List UInt8) : List UInt8 := sha (byK 92 (madeK key) ++ sha (byK 54 (madeK key) ++ msg))
theorem madeK_length (key : List UInt8) : (madeK key).length = 64 := by
  unfold madeK
  by_cases h : 64 < key.length
  · simp [h, sha_length]
  · simp [h]; omega
theorem byK_length (n : UInt8) (b : List UInt8) : (byK n b).length = b.length := by simp [byK]
theorem byK_get (n : UInt8) (b : List UInt8) (i : Nat) (h : i < b.length) : (byK n b).getD i 0 = b.getD i 0 ^^^ n := by simp [byK, h]
theorem hmac_length (key msg : List UInt8) : (hmac key msg).length = 32 := sha_length _
theorem xor_xor (x a b : UInt8) : (x ^^^ a) ^^^ b = x ^^^ (a ^^^ b) := UInt8.xor_assoc _ _ _
/-- both blocks change their places -/
theorem hmac_turned (key msg : List UInt8) (h : key.length = 64) : hmac (byK 106 key) msg = sha (byK 54 key ++ sha (byK 92 key ++ msg)) := by
  have h1 : madeK (byK 106 key) = byK 106 key := by
    unfold madeK
    rw [if_neg (by rw [byK_length]; omega), byK_length, h]
    simp
  have h2 : byK 92 (byK 106 key) = byK 54 key := by
    simp only [byK, List.map_map]
    refine List.map_congr_left fun x _ => ?_
    show (x ^^^ 106) ^^^ 92 = x ^^^ 54
    rw [xor_xor]; rfl
  have h3 : byK 54 (byK 106 key) = byK 92 key := by
    simp only [byK, List.map_map]
    refine List.map_congr_left fun x _ => ?_
    show (x ^^^ 106) ^^^ 54 = x ^^^ 92
    rw [xor_xor]; rfl
  unfold hmac
  rw [h1, h2, h3]
/-- a key that has more than a block is as its sum, and noughts up to a block -/
theorem madeK_long (key : List UInt8) (n : Nat) (h : 64 < key.length) (hn : n ≤ 32) : madeK (sha key ++ List.replicate n 0) = madeK key := by
  have hs := sha_length key
  unfold madeK
  have e : (sha key ++ List.replicate n (0 : UInt8)).length = 32 + n := by simp [hs]
  rw [if_neg (by omega), if_pos h, e, hs, List.append_assoc, List.replicate_append_replicate]
  congr 2
  omega
theorem hmac_long (key msg : List UInt8) (n : Nat) (h : 64 < key.length) (hn : n ≤ 32) : hmac (sha key ++ List.replicate n 0) msg = hmac key msg := by
  unfold hmac; rw [madeK_long key n h hn]
theorem lay_head (ys : List UInt8) (h : ys.length ≤ 64) : lay (bytesV (List.replicate 64 0)) 0 (bytesV ys) = bytesV (ys ++ List.replicate (64 - ys.length) 0) := by
  rw [lay_eq _ _ _ (by simp [bytesV_length]; exact h), List.take_zero, List.nil_append, Nat.zero_add, bytesV_append, bytesV_length]
  congr 1
  rw [bytesV, bytesV, List.map_replicate, List.map_replicate, List.drop_replicate]
theorem madeK_get (key : List UInt8) (i : Nat) (h : i < 64) : (madeK key).getD i 0 = (if 64 < key.length then sha key else key).getD i 0 := by
  unfold madeK
  generalize (if 64 < key.length then sha key else key) = k
  rcases Nat.lt_or_ge i k.length with h1 | h1
  · simp [List.getD_eq_getElem?_getD, List.getElem?_append_left h1]
  · simp only [List.getD_eq_getElem?_getD]
    rw [List.getElem?_append_right h1, List.getElem?_eq_none h1]
    simp only [List.getElem?_replicate]
    split <;> rfl
end Go.Sha
