/-
  Composite values whose parts are rows; a block that a slice reads. Plain theorems, over any program.
-/
import Derived.Test.YtfdlafjifjndeaaK23
namespace Go.K
open Go Go.RowKit
theorem fill_cons {place : Nat → Option (Nat × Nat)} {cells vc : List Value} {i off : Nat} {v : Value} {rest : List (Nat × Value)} (hp : place i = some (off, vc.length)) (hv : v.cells = vc.toArray) (hl : off + vc.length ≤ cells.length) :
    Instr.fill place cells.toArray ((i, v) :: rest) = Instr.fill place (lay cells off vc).toArray rest := by
  have hc : ¬ (vc.toArray.size ≠ vc.length ∨ off + vc.toArray.size > cells.toArray.size) := by
    simp only [List.size_toArray]
    omega
  have h1 : (vc.toArray.zipIdx.foldl (fun cs (p : Value × Nat) => cs.setIfInBounds (off + p.2) p.1) cells.toArray) = (lay cells off vc).toArray := by
    have h2 := fold_lay vc cells off 0
    rw [Nat.add_zero] at h2
    simpa using h2
  simp only [Instr.fill, hp, hv]
  refine (if_neg (c := (decide (vc.toArray.size ≠ vc.length) || decide (off + vc.toArray.size > cells.toArray.size)) = true) (by simpa using hc)).trans ?_
  first
    | (rw [h1]; done)
    | (rw [h1]; rfl)
    | (simp only [] at h1 ⊢; rw [h1])
theorem fill_nil {place : Nat → Option (Nat × Nat)} {cells : List Value} : Instr.fill place cells.toArray [] = some cells.toArray := by simp [Instr.fill]
theorem reads_block {w : World} {b n : Nat} {cs : List Value} {t : TypeId} {fr : Nat × Nat} (h : w.heap[b]? = some (.cells cs.toArray t fr)) (hl : cs.length = n) : Reads w (some ⟨b, 0, none⟩) n cs := by
  refine ⟨hl, fun _ => ⟨b, 0, rfl, (Array.getElem?_eq_some_iff.1 h).1, fun j u hu => ?_⟩⟩
  rw [cell_of_row w b _ _ _ _ h]
  simpa using hu
theorem readsS_block {w : World} {b : Nat} {l : List (List UInt8)} {t : TypeId} {fr : Nat × Nat} (hs : Sums l) (h : w.heap[b]? = some (.cells (sumsV l).toArray t fr)) : ReadsS w (some ⟨b, 0, none⟩) l :=
  ⟨hs, reads_block h (sumsV_length hs)⟩
theorem below_block {w w' : World} (hb : Below w.heap.size w w') {b : Nat} {o : Obj} (h : w.heap[b]? = some o) : w'.heap[b]? = some o := (hb.block b (Array.getElem?_eq_some_iff.1 h).1).trans h
end Go.K
