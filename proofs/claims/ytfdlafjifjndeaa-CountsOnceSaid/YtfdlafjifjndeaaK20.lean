/-
  Rows of sums: what an argument is; an element of it. Plain theorems, over any program.
-/
import Derived.Test.YtfdlafjifjndeaaK19
namespace Go.K
open Go Go.RowKit Go.ChangeShapes Go.WideShapes Go.ChangeAt
section ops
variable {P : Program} {B : Nat} {w0 : Base} {N : Nat} {D : List Deferred} {env : Env} {H : Hp} {T : Env → Hp → Prop}
variable {dst : Option Tmp} {ty : TypeId} {pos : String} {after : Array Edge} {g : Option (Nat × Bool)}
theorem p_indexArrR {t e : TypeId} {s : Nat} {x i : Operand} {b off len j : Nat} {k : IntKind} {m : Int} (hx : look env x = some (.pointer (some ⟨b, off, none⟩))) (hi : look env i = some (.int k m)) (hj : m = (j : Int)) (ht : P.underlying t = some (.array len e)) (he : Row P e s)
    (hlt : j < len) : Pure1 P B w0 N D ⟨dst, .indexAddr t x i, ty, pos, after, g⟩ env H (.pointer (some ⟨b, off + j * s, none⟩)) := fun a w hf _ => by
  obtain ⟨_, _, _, hs⟩ := he
  subst hj
  have h2 : ((j : Int) < (len : Int)) := by omega
  simp [execOp, hf.eval hx, hf.eval hi, Instr.indexAt, asIntOf, run_underlying ht, Instr.sureAddr, sizeOf_ok hs, h2, Addr.add_mid, hlt]
end ops
section opens
variable {HT : Type} {enc : TypeId × Value → HT} {P : Program} {w : World} {base b0 : Nat} {spare : Nat → Bool} {held : Bool} {r : Reach} {t e u : TypeId} {v : Value} {d : DataW HT} {ps : List MemPlace}
/-- A row of sums by value. -/
theorem arg_sumRow {n : Nat} (ht : P.underlying t = some (.array n e)) (he : P.underlying e = some (.array 32 u)) (hu : P.underlying u = some (.int .u8)) (hce : P.cellsOf e = 32) (hcu : P.cellsOf u = 1) (hct : P.cellsOf t = n * 32) (hv : Value.okWide P w r b0 t v) (h : DataW.Trod enc P w base spare held t v d ps) :
    ∃ l : List (List UInt8), v = .agg (sumsV l).toArray ∧ Sums l ∧ l.length = n := by
  simp only [Value.okWide, ht] at hv
  obtain ⟨⟨cs⟩, rfl, hsz, _⟩ := hv
  rw [hct] at hsz
  simp only [List.size_toArray] at hsz
  obtain ⟨fuel, hf⟩ := h
  obtain ⟨ys, m, _, _, _, hyl, hget⟩ := DataW.trod_array ht hf
  simp only [Value.cells, hce] at hget
  obtain ⟨l, hll, hp⟩ := list_of_each (p := fun i (x : List UInt8) => (cs.drop (i * 32)).take 32 = bytesV x ∧ x.length = 32) n fun i hi => by
    have h1 := hget i hi
    rw [List.getElem?_eq_getElem (by omega)] at h1
    exact open_sum he hu hce hcu h1
  have hs : Sums l := fun x hx => by
    obtain ⟨j, hj⟩ := List.getElem?_of_mem hx
    exact (hp j x hj).2
  refine ⟨l, ?_, hs, hll⟩
  have hcs : cs = sumsV l := by
    apply List.ext_getElem?
    intro q
    rcases Nat.lt_or_ge q (n * 32) with hq | hq
    · have hi : q / 32 < l.length := by omega
      have hq2 : q = q / 32 * 32 + q % 32 := by omega
      have hj := (hp (q / 32) (l.getD (q / 32) []) (by rw [List.getD_eq_getElem?_getD, List.getElem?_eq_getElem hi]; rfl)).1
      rw [hq2, hs.cell (q / 32) (q % 32) hi (by omega), ← hj, List.getElem?_take_of_lt (by omega), List.getElem?_drop]
    · rw [List.getElem?_eq_none (by omega), List.getElem?_eq_none (by rw [sumsV_length hs]; omega)]
  rw [hcs]
end opens
end Go.K
