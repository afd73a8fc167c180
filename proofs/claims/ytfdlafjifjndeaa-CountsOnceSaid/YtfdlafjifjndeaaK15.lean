/-
  Texts: a part, a sum, equality. Plain theorems, over any program.
-/
import Derived.Test.YtfdlafjifjndeaaK14
namespace Go.K
open Go Go.RowKit
variable {P : Program} {B : Nat} {w0 : Base} {N : Nat} {D : List Deferred} {env : Env} {H : Hp} {T : Env → Hp → Prop}
variable {dst : Option Tmp} {ty : TypeId} {pos : String} {after : Array Edge} {g : Option (Nat × Bool)}
def tx (xs : List UInt8) : Value := .string ⟨xs.toArray⟩
theorem p_addStr {t yT : TypeId} {x y : Operand} {a b : ByteArray} {c : Value} (hx : look env x = some (.string a)) (hy : look env y = some (.string b)) (hs : a.size + b.size ≤ 9223372036854775807) (hc : Value.string (a ++ b) = c) :
    Pure1 P B w0 N D ⟨dst, .binOp .add t x y yT, ty, pos, after, g⟩ env H c := fun q w hf _ => by
  subst hc
  have h1 : ¬ (((a.size + b.size : Nat) : Int) > IntKind.i64.max) := by rw [show IntKind.i64.max = 9223372036854775807 from rfl]; omega
  simp only [execOp, hf.eval hx, hf.eval hy, eqGuard_at_string, Sem.run_bind, Sem.run_pure, Result.andThen_ok, binOp, Op.stringOp, if_neg h1]
theorem p_eqlStr {t yT : TypeId} {x y : Operand} {a b : ByteArray} {r : Bool} (hx : look env x = some (.string a)) (hy : look env y = some (.string b)) (hr : (a.toList == b.toList) = r) :
    Pure1 P B w0 N D ⟨dst, .binOp .eql t x y yT, ty, pos, after, g⟩ env H (.bool r) := fun q w hf _ => by
  subst hr
  simp only [execOp, hf.eval hx, hf.eval hy, eqGuard_at_string, Sem.run_bind, Sem.run_pure, Result.andThen_ok, binOp, Op.stringOp]
theorem p_sliceStr {t : TypeId} {x lo hi : Operand} {k k' : IntKind} {l h : Nat} {m m' : Int} {s : ByteArray} {c : Value} (hx : look env x = some (.string s)) (hlo : look env lo = some (.int k m)) (hhi : look env hi = some (.int k' m')) (hm : m = (l : Int)) (hm' : m' = (h : Int))
    (ht : P.underlying t = some .string) (hlh : l ≤ h) (hle : h ≤ s.size) (hc : Value.string (s.extract l h) = c) : Pure1 P B w0 N D ⟨dst, .slice t x (some lo) (some hi) none, ty, pos, after, g⟩ env H c := fun a w hf _ => by
  subst hm hm' hc
  have h2 : ((l : Int) ≤ (h : Int)) := by omega
  have h3 : ((h : Int) ≤ (s.size : Int)) := by omega
  simp [execOp, hf.eval hx, hf.eval hlo, hf.eval hhi, Instr.sliceAt, Instr.slice, run_underlying ht, Instr.sliceBounds, Instr.sliceBound, asIntOf, hle, hlh]
theorem tx_append (xs ys : List UInt8) : Value.string ((⟨xs.toArray⟩ : ByteArray) ++ ⟨ys.toArray⟩) = tx (xs ++ ys) := by
  unfold tx
  congr 1
theorem tx_size (xs : List UInt8) : (⟨xs.toArray⟩ : ByteArray).size = xs.length := by simp [ByteArray.size]
end Go.K
