/-
  A run, as cells; plain laws.
-/
import Derived.Test.YtfdlafjifjndeaaShaLaw
import Derived.Test.YtfdlafjifjndeaaK9
namespace Go.Sha
open Go.K

def runV (s : S8) (blk : List UInt8) (many : Nat) : List Value := .bool true :: (wordsV s.list ++ (bytesV blk ++ [.int .u64 (many : Int)]))
/-- the cells of a run that was written 'all' -/
def Rep (all : List UInt8) (cs : List Value) : Prop := ∃ blk : List UInt8, blk.length = 64 ∧ blk.take (all.length % 64) = rest all ∧ cs = runV (stOf all) blk all.length
theorem run_len (s : S8) (blk : List UInt8) (m : Nat) (h : blk.length = 64) : (runV s blk m).length = 74 := by
  simp [runV, wordsV_length, bytesV_length, list_length, h]
theorem Rep.len {all : List UInt8} {cs : List Value} (h : Rep all cs) : cs.length = 74 := by
  obtain ⟨blk, hb, _, rfl⟩ := h; exact run_len _ _ _ hb
theorem run_many (s : S8) (blk : List UInt8) (m : Nat) (h : blk.length = 64) : (runV s blk m)[73]? = some (.int .u64 (m : Int)) := by
  unfold runV
  rw [show (73 : Nat) = 72 + 1 from rfl, List.getElem?_cons_succ, List.getElem?_append_right (by rw [wordsV_length, list_length]; omega), wordsV_length, list_length, List.getElem?_append_right (by rw [bytesV_length, h]; omega), bytesV_length, h]
  rfl
theorem run_setMany (s : S8) (blk : List UInt8) (m m' : Nat) (h : blk.length = 64) : (runV s blk m).set 73 (.int .u64 (m' : Int)) = runV s blk m' := by
  unfold runV
  rw [show (73 : Nat) = 72 + 1 from rfl, List.set_cons_succ, List.set_append_right _ _ (by rw [wordsV_length, list_length]; omega), wordsV_length, list_length, List.set_append_right _ _ (by rw [bytesV_length, h]; omega), bytesV_length, h]
  rfl
theorem run_s (s : S8) (blk : List UInt8) (m : Nat) : ((runV s blk m).drop 1).take 8 = wordsV s.list := rfl
theorem run_b (s : S8) (blk : List UInt8) (m : Nat) (h : blk.length = 64) : ((runV s blk m).drop 9).take 64 = bytesV blk := by
  have e : (runV s blk m).drop 9 = bytesV blk ++ [.int .u64 (m : Int)] := rfl
  rw [e, ← h, ← bytesV_length blk, List.take_left]
theorem run_setS (s s' : S8) (blk : List UInt8) (m : Nat) : lay (runV s blk m) 1 (wordsV s'.list) = runV s' blk m := rfl
theorem lay_append (pre cs : List Value) (o : Nat) (r : List Value) : lay (pre ++ cs) (pre.length + o) r = pre ++ lay cs o r := by
  induction r generalizing cs o with
  | nil => rfl
  | cons v r ih =>
    rw [lay, lay, List.set_append_right _ _ (by omega), show pre.length + o - pre.length = o by omega]
    exact ih (cs.set o v) (o + 1)
theorem bytesV_take (xs : List UInt8) (n : Nat) : bytesV (xs.take n) = (bytesV xs).take n := by simp [bytesV]
theorem bytesV_drop (xs : List UInt8) (n : Nat) : bytesV (xs.drop n) = (bytesV xs).drop n := by simp [bytesV]
theorem run_copy (s : S8) (blk ys : List UInt8) (m r : Nat) (h : blk.length = 64) (hr : r + ys.length ≤ 64) : lay (runV s blk m) (9 + r) (bytesV ys) = runV s (blk.take r ++ ys ++ blk.drop (r + ys.length)) m := by
  have e : runV s blk m = (.bool true :: wordsV s.list) ++ (bytesV blk ++ [.int .u64 (m : Int)]) := rfl
  have hl : (.bool true :: wordsV s.list : List Value).length = 9 := rfl
  rw [e]
  have h1 := lay_append (.bool true :: wordsV s.list) (bytesV blk ++ [.int .u64 (m : Int)]) r (bytesV ys)
  rw [hl] at h1
  rw [h1, lay_eq _ _ _ (by simp [bytesV_length, h]; omega)]
  rw [List.take_append_of_le_length (by rw [bytesV_length, h]; omega), List.drop_append_of_le_length (by rw [bytesV_length, bytesV_length, h]; omega), bytesV_length]
  simp only [runV, bytesV_append, bytesV_take, bytesV_drop, List.append_assoc, List.cons_append]

theorem bytesV_zeros (n : Nat) : bytesV (List.replicate n 0) = List.replicate n (.int .u8 0) := by rw [bytesV, List.map_replicate]; rfl
theorem run_word (s : S8) (blk : List UInt8) (m i : Nat) (h : i < 8) : (runV s blk m)[1 + i]? = some (.int .u32 ((s.list.getD i 0).toNat : Int)) := by
  unfold runV
  rw [show 1 + i = i + 1 by omega, List.getElem?_cons_succ, List.getElem?_append_left (by rw [wordsV_length, list_length]; exact h), wordsV_get (by rw [list_length]; exact h)]
theorem Rep.head {all : List UInt8} {cs : List Value} (h : Rep all cs) : cs[0]? = some (.bool true) := by
  obtain ⟨blk, _, _, rfl⟩ := h; rfl
theorem Rep.many {all : List UInt8} {cs : List Value} (h : Rep all cs) : cs[73]? = some (.int .u64 (all.length : Int)) := by
  obtain ⟨blk, hb, _, rfl⟩ := h; exact run_many _ _ _ hb
theorem Rep.word {all : List UInt8} {cs : List Value} (h : Rep all cs) (i : Nat) (hi : i < 8) : cs[1 + i]? = some (.int .u32 (((stOf all).list.getD i 0).toNat : Int)) := by
  obtain ⟨blk, _, _, rfl⟩ := h; exact run_word _ _ _ _ hi
theorem Rep.start : Rep [] (runV begin8 (List.replicate 64 0) 0) := ⟨List.replicate 64 0, by simp, rfl, rfl⟩
/-- what becomes of the block that waits -/
theorem rep_few {all blk ys : List UInt8} (hb : blk.length = 64) (hr : blk.take (all.length % 64) = rest all) (h : all.length % 64 + ys.length < 64) :
    (blk.take (all.length % 64) ++ ys ++ blk.drop (all.length % 64 + ys.length)).length = 64 ∧ (blk.take (all.length % 64) ++ ys ++ blk.drop (all.length % 64 + ys.length)).take ((all ++ ys).length % 64) = rest (all ++ ys) ∧ stOf (all ++ ys) = stOf all := by
  obtain ⟨h1, h2⟩ := rest_few all ys h
  refine ⟨by simp [hb]; omega, ?_, h2⟩
  have hm : (all ++ ys).length % 64 = all.length % 64 + ys.length := by rw [List.length_append]; omega
  rw [hm, h1, ← hr, List.take_append_of_le_length (by simp [hb]; omega), List.take_of_length_le (by simp [hb]; omega)]
theorem rep_full {all blk ys : List UInt8} (hb : blk.length = 64) (hr : blk.take (all.length % 64) = rest all) (h : all.length % 64 + ys.length = 64) :
    (blk.take (all.length % 64) ++ ys ++ blk.drop (all.length % 64 + ys.length)).length = 64 ∧ (all ++ ys).length % 64 = 0 ∧ rest (all ++ ys) = [] ∧ stOf (all ++ ys) = took (stOf all) (blk.take (all.length % 64) ++ ys ++ blk.drop (all.length % 64 + ys.length)) := by
  obtain ⟨h1, h2⟩ := rest_full all ys h
  refine ⟨by simp [hb]; omega, by rw [List.length_append]; omega, h1, ?_⟩
  rw [h2, ← hr, h, List.drop_of_length_le (by omega), List.append_nil]
end Go.Sha
namespace Go.K
theorem Reads.off1 {w w' : World} {A : Option Addr} {n b : Nat} {xs : List Value} {H : Hp} (h : Reads w A n xs) (hne : ∀ a, A = some a → a.block ≠ b) (hm : Mem w.heap.size ⟨w, [b]⟩ H w') : Reads w' A n xs :=
  ⟨h.1, fun hn => by
    obtain ⟨b2, off, rfl, hb, hc⟩ := h.2 hn
    have hnb : b2 ≠ b := hne _ rfl
    exact ⟨b2, off, rfl, Nat.lt_of_lt_of_le hb hm.chg.size, fun j u hu => (World.cell?_of_block (w := w) (w' := w') (a := ⟨b2, off + j, none⟩) (hm.chg.block b2 hb (by simpa using hnb))).trans (hc j u hu)⟩⟩
theorem cutA_block {A : Option Addr} {b c k : Nat} (h : ∀ a, A = some a → a.block ≠ b) : ∀ a, cutA A c k = some a → a.block ≠ b := by
  intro a ha
  unfold cutA at ha
  split at ha
  · exact h a ha
  · cases A with
    | none => cases ha
    | some x => simp only [Option.map_some, Option.some.injEq] at ha; subst ha; have := h x rfl; unfold Addr.add; split <;> exact this
theorem Reads.lt {w : World} {A : Option Addr} {n : Nat} {xs : List Value} (h : Reads w A n xs) (hn : n ≠ 0) : ∀ a, A = some a → a.block < w.heap.size := by
  obtain ⟨b, off, rfl, hb, _⟩ := h.2 hn
  intro a ha
  cases ha
  exact hb
theorem Mem.base_ne {B : Nat} {w0 w : World} {H : Hp} (hm : Mem B ⟨w0, []⟩ H w) {p : Nat × Obj} (hp : p ∈ H) {k : Nat} (hk : k < B) : k ≠ p.1 := by
  rcases (hm.own p hp).1 with h | h
  · omega
  · cases h
end Go.K
