
/-
  The layer counts: disks of several counts; the next number where the disk may fail.
-/
import Derived.Test.YtfdlafjifjndeaaCnt6
import Derived.Test.YtfdlafjifjndeaaDisk5
namespace Go.Proofs.Ytfdlafjifjndeaa
open Go.RowKit Go.K
attribute [local irreducible] Exit.then Exit.inBlock Exit.noGoto bodyPost Code.wp QL Sx Rx Qx Ex Dx Op1 Pure1 Still1 K.Sub Calm Code.wpIn
set_option linter.unusedVariables false
/-- the sector of a count -/
def secT (k : Nat) : List UInt8 := if k = 0 then List.replicate 64 0 else toldS k
def dks (ks : List Nat) : List (List UInt8) := ks.map secT
theorem secT_length (k : Nat) : (secT k).length = 64 := by
  unfold secT
  split
  · exact List.length_replicate
  · exact toldS_length k
theorem dks_secs (ks : List Nat) : Secs (dks ks) := fun x hx => by
  obtain ⟨k, _, rfl⟩ := List.mem_map.1 hx
  exact secT_length k
theorem dks_length (ks : List Nat) : (dks ks).length = ks.length := List.length_map ..
theorem dks_set (ks : List Nat) (i k : Nat) : (dks ks).set i (toldS (k + 1)) = dks (ks.set i (k + 1)) := by
  unfold dks
  rw [List.map_set]
  rfl
theorem dks_at (ks : List Nat) (i k : Nat) (h : ks[i]? = some k) : (dks ks)[i]? = some (secT k) := by
  unfold dks
  rw [List.getElem?_map, h]
  rfl
theorem secT_opened (k : Nat) (hk : k ≤ 16) : openedS (secT k) = some k := by
  unfold secT
  split
  · rename_i h
    subst h
    exact opened_zero
  · have := opened_told (k - 1) (by omega)
    rwa [Nat.sub_add_cancel (by omega)] at this
theorem blown_0 : blownS 0 false = true := by decide
theorem blown_pos (L : Nat) : blownS ((L + 1 : Nat) : Int) false = false := by
  unfold blownS
  rw [Bool.false_or]
  exact beq_eq_false_iff_ne.2 (by omega)
theorem left_pos (L : Nat) : leftS ((L + 1 : Nat) : Int) false = (L : Int) := by
  unfold leftS
  rw [blown_pos, if_pos (by simp)]
  omega
theorem left_0 : leftS 0 false = 0 := by decide
attribute [local irreducible] digitsB onNat sumU Buf.hp Buf.cap Buf.addr secV toldS getP leftS blownS openedS diskN secT
/-- the disk fails at the write -/
theorem cnextWX (bc used bd bs bn at_ n cs cn : Nat) (left : Int) (sure now : List (List UInt8)) (sps spn : List Value) (hlo : left = 0) (hS : Secs sure) (hN : Secs now) (hsl : sure.length = n) (hnl : now.length = n) (hn2 : n ≤ 4096) (hat : at_ < n) (hu : used < 16) (w : World) (hm : Mem w.heap.size ⟨w, [bc, bd, bs, bn]⟩ [(bc, .cells (cntC used bd at_ false).toArray 103 (0, 0)), (bd, .cells (diskC (.slice (some ⟨bs, 0, none⟩) n cs) (.slice (some ⟨bn, 0, none⟩) n cn) (.slice none 0 0) left false).toArray 113 (0, 0)), (bs, .cells (secV sure ++ sps).toArray 115 (0, 0)), (bn, .cells (secV now ++ spn).toArray 115 (0, 0))] w) :
    Calls Try.prog 21 [.pointer (some ⟨bc, 0, none⟩)].toArray w fun e w' => ∃ s : Unit, e = .returned (.tuple [.int .u32 0, .int .i64 9].toArray) ∧ Mem w.heap.size ⟨w, [bc, bd, bs, bn]⟩ [(bc, .cells (cntC used bd at_ true).toArray 103 (0, 0)), (bd, .cells (diskC (.slice (some ⟨bs, 0, none⟩) n cs) (.slice (some ⟨bn, 0, none⟩) n cn) (.slice none 0 0) 0 true).toArray 113 (0, 0)), (bs, .cells (secV sure ++ sps).toArray 115 (0, 0)), (bn, .cells (secV now ++ spn).toArray 115 (0, 0))] w' ∧ True := by
  subst hlo
  refine (cnext_write bc used bd bs bn at_ n cs cn 0 false (by omega) (by omega) sure now sps spn hS hN hsl hnl hn2 hat hu blown_0 w hm).mono fun e w' ⟨v, H', he, hm', h1, h2⟩ => ?_
  rw [left_0] at h2
  subst h1 h2
  exact ⟨(), he, hm', trivial⟩
/-- .. at making sure -/
theorem cnextSX (bc used bd bs bn at_ n cs cn : Nat) (left : Int) (sure now : List (List UInt8)) (sps spn : List Value) (hlo : left = 1) (hS : Secs sure) (hN : Secs now) (hsl : sure.length = n) (hnl : now.length = n) (hn2 : n ≤ 4096) (hat : at_ < n) (hu : used < 16) (w : World) (hm : Mem w.heap.size ⟨w, [bc, bd, bs, bn]⟩ [(bc, .cells (cntC used bd at_ false).toArray 103 (0, 0)), (bd, .cells (diskC (.slice (some ⟨bs, 0, none⟩) n cs) (.slice (some ⟨bn, 0, none⟩) n cn) (.slice none 0 0) left false).toArray 113 (0, 0)), (bs, .cells (secV sure ++ sps).toArray 115 (0, 0)), (bn, .cells (secV now ++ spn).toArray 115 (0, 0))] w) :
    Calls Try.prog 21 [.pointer (some ⟨bc, 0, none⟩)].toArray w fun e w' => ∃ s : Nat × Nat × List Value, e = .returned (.tuple [.int .u32 0, .int .i64 9].toArray) ∧ Mem w.heap.size ⟨w, [bc, bd, bs, bn]⟩ [(bc, .cells (cntC used bd at_ true).toArray 103 (0, 0)), (bd, .cells (diskC (.slice (some ⟨bs, 0, none⟩) n cs) (.slice (some ⟨bn, 0, none⟩) n cn) (.slice (some ⟨s.1, 0, none⟩) 1 s.2.1) 0 true).toArray 113 (0, 0)), (bs, .cells (secV sure ++ sps).toArray 115 (0, 0)), (bn, .cells (secV (now.set at_ (toldS (used + 1))) ++ spn).toArray 115 (0, 0)), (s.1, .cells ((Value.int .i64 ((at_ : Nat) : Int) :: bytesV (toldS (used + 1))) ++ s.2.2).toArray 120 (0, 0))] w' ∧ 1 ≤ s.2.1 := by
  subst hlo
  have e1 : leftS 1 false = 0 := left_pos 0
  refine (cnext_sync bc used bd bs bn at_ n cs cn 1 false (by omega) (by omega) sure now sps spn hS hN hsl hnl hn2 hat hu (blown_pos 0) (by rw [e1]; exact blown_0) w hm).mono fun e w' ⟨v, H', he, hm', h1, bw, cw, spw, hcw, h2⟩ => ?_
  rw [e1, left_0] at h2
  subst h1 h2
  exact ⟨(bw, cw, spw), he, hm', hcw⟩
/-- .. or not at all -/
theorem cnextOX (bc used bd bs bn at_ n cs cn : Nat) (left : Int) (sure now : List (List UInt8)) (sps spn : List Value) (L : Nat) (hlo : left = ((L + 2 : Nat) : Int)) (hL : L < 1000) (hS : Secs sure) (hN : Secs now) (hsl : sure.length = n) (hnl : now.length = n) (hn2 : n ≤ 4096) (hat : at_ < n) (hu : used < 16) (w : World) (hm : Mem w.heap.size ⟨w, [bc, bd, bs, bn]⟩ [(bc, .cells (cntC used bd at_ false).toArray 103 (0, 0)), (bd, .cells (diskC (.slice (some ⟨bs, 0, none⟩) n cs) (.slice (some ⟨bn, 0, none⟩) n cn) (.slice none 0 0) left false).toArray 113 (0, 0)), (bs, .cells (secV sure ++ sps).toArray 115 (0, 0)), (bn, .cells (secV now ++ spn).toArray 115 (0, 0))] w) :
    Calls Try.prog 21 [.pointer (some ⟨bc, 0, none⟩)].toArray w fun e w' => ∃ s : Unit, e = .returned (.tuple [.int .u32 (used : Int), .int .i64 0].toArray) ∧ Mem w.heap.size ⟨w, [bc, bd, bs, bn]⟩ [(bc, .cells (cntC (used + 1) bd at_ false).toArray 103 (0, 0)), (bd, .cells (diskC (.slice (some ⟨bs, 0, none⟩) n cs) (.slice (some ⟨bn, 0, none⟩) n cn) (.slice none 0 0) (L : Int) false).toArray 113 (0, 0)), (bs, .cells (secV (now.set at_ (toldS (used + 1))) ++ sps).toArray 115 (0, 0)), (bn, .cells (secV (now.set at_ (toldS (used + 1))) ++ spn).toArray 115 (0, 0))] w' ∧ True := by
  subst hlo
  have e1 : leftS ((L + 2 : Nat) : Int) false = ((L + 1 : Nat) : Int) := left_pos (L + 1)
  refine (cnext_ok bc used bd bs bn at_ n cs cn ((L + 2 : Nat) : Int) false (by omega) (by omega) sure now sps spn hS hN hsl hnl hn2 hat hu (blown_pos (L + 1)) (by rw [e1]; exact blown_pos L) w hm).mono fun e w' ⟨v, H', he, hm', h1, h2⟩ => ?_
  rw [e1, left_pos L] at h2
  subst h1 h2
  exact ⟨(), he, hm', trivial⟩
end Go.Proofs.Ytfdlafjifjndeaa
