/-
  A great row of bytes as an argument: that it is in order, without going through its cells. Plain theorems, over any program.
-/
import Derived.Test.YtfdlafjifjndeaaK24
namespace Go.K
open Go Go.RowKit
theorem okRowB_bytes {P : Program} {w : World} {t e : TypeId} {n : Nat} (hts : P.cellTypes P.depth t = some (List.replicate n e)) (he : P.underlying e = some (.int .u8)) (xs : List UInt8) (hl : xs.length = n) : Cell.okWideRowB P w t (bytesV xs).toArray = true := by
  unfold Cell.okWideRowB
  rw [hts]
  simp only [Bool.and_eq_true, beq_iff_eq, List.all_eq_true, List.mem_range, List.length_replicate, List.size_toArray, bytesV_length]
  refine ⟨by rw [hl]; exact Nat.mod_self n, fun i hi => ?_⟩
  have h1 : (bytesV xs).toArray[i]? = some (.int .u8 ((xs.getD i 0).toNat : Int)) := by rw [List.getElem?_toArray]; exact bytesV_get hi
  have h2 : (List.replicate n e)[i % n]? = some e := by rw [List.getElem?_replicate, if_pos (Nat.mod_lt _ (by omega))]
  rw [h1, h2]
  show Cell.okWideB P w e (.int .u8 ((xs.getD i 0).toNat : Int)) = true
  have hb := b_lt (xs.getD i 0)
  unfold Cell.okWideB
  rw [he]
  simp only [Cell.okRefB, he]
  have h3 : (xs.getD i 0).toNat < 256 := hb
  generalize (xs.getD i 0).toNat = q at h3
  unfold Cell.okB
  rw [he]
  simp [IntKind.has, IntKind.min, IntKind.max, IntKind.bits, IntKind.signed]
  omega
theorem okB_bytes {P : Program} {w : World} {t e : TypeId} {n : Nat} {d : TypeDesc} (hu : P.underlying t = some d) (hd : (match d with | .struct _ | .array _ _ => true | _ => false) = true) (hc : P.cellsOf t = n) (hts : P.cellTypes P.depth t = some (List.replicate n e)) (he : P.underlying e = some (.int .u8)) (xs : List UInt8) (hl : xs.length = n) :
    Value.okWideB P w t (.agg (bytesV xs).toArray) = true := by
  have h := okRowB_bytes (w := w) hts he xs hl
  have h2 : ((bytesV xs).toArray.size == P.cellsOf t && Cell.okWideRowB P w t (bytesV xs).toArray) = true := by
    rw [h, Bool.and_true, beq_iff_eq, List.size_toArray, bytesV_length, hc, hl]
  unfold Value.okWideB
  rw [hu]
  cases d with
  | struct _ => exact h2
  | array _ _ => exact h2
  | _ => cases hd
theorem input_okB {P : Program} {w : World} {f : FuncId} {fn : Func} {args : Array Value} (hf : P.funcs[f]? = some fn) (hi : (P.inits.idxOf? f).isNone = true) (h : (fn.body.isSome && !fn.ours && fn.nfree == 0 && args.size == fn.params.size) = true)
    (hall : ∀ (j : Nat) t v, fn.params[j]? = some t → args[j]? = some v → Value.okWideB P w t v = true) : Input.okWideB P w f ⟨#[], args, []⟩ = true := by
  unfold Input.okWideB
  rw [hf]
  simp only [Bool.and_eq_true, List.all_eq_true, List.mem_range] at h ⊢
  refine ⟨⟨⟨fun x hx => by simp at hx, rfl⟩, hi⟩, h, fun j hj => ?_⟩
  have hs : args.size = fn.params.size := by simpa using h.2
  rw [Array.getElem?_eq_getElem hj, Array.getElem?_eq_getElem (by omega)]
  exact hall j _ _ (Array.getElem?_eq_getElem hj) (Array.getElem?_eq_getElem (by omega))
end Go.K
