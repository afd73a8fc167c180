/-
  Structs, and pointers to them.
-/
import Derived.Test.YtfdlafjifjndeaaK5
import Derived.Laws.Pointers
namespace Go.K
open Go Go.RowKit
variable {P : Program} {B : Nat} {w0 : Base} {N : Nat} {D : List Deferred} {env : Env} {H : Hp} {T : Env → Hp → Prop} {ty : TypeId} {pos : String} {after : Array Edge} {g : Option (Nat × Bool)} {dst : Option Nat}
/-- A field of a struct: where it stands. -/
def FldAt (P : Program) (s : TypeId) (i off : Nat) : Prop := ∃ fs f n, P.underlying s = some (.struct fs) ∧ fs[i]? = some f ∧ f.offset = off ∧ (P.info? f.type).map (·.size) = some (n + 1)
theorem p_fieldAddr {s : TypeId} {x : Operand} {b o i off : Nat} (hx : look env x = some (.pointer (some ⟨b, o, none⟩))) (hf : FldAt P s i off) :
    Pure1 P B w0 N D ⟨dst, .fieldAddr s x i, ty, pos, after, g⟩ env H (.pointer (some ⟨b, o + off, none⟩)) := fun a w hfit _ => by
  obtain ⟨fs, f, n, hu, hi, rfl, hs⟩ := hf
  simp [execOp, hfit.eval hx, Instr.fieldAt, run_underlying hu, hi, Instr.sureAddr, fieldPlace, sizeOf_ok hs, Addr.add_mid]
theorem p_fieldAddr0 {s : TypeId} {x : Operand} {b i off : Nat} (hx : look env x = some (.pointer (some ⟨b, 0, none⟩))) (hf : FldAt P s i off) :
    Pure1 P B w0 N D ⟨dst, .fieldAddr s x i, ty, pos, after, g⟩ env H (.pointer (some ⟨b, off, none⟩)) := by
  have := p_fieldAddr (P := P) (B := B) (w0 := w0) (N := N) (D := D) (H := H) (dst := dst) (ty := ty) (pos := pos) (after := after) (g := g) hx hf
  rwa [Nat.zero_add] at this
theorem p_nilCheck {x : Operand} {p : Addr} (hx : look env x = some (.pointer (some p))) : Pure1 P B w0 N D ⟨dst, .nilCheck x, ty, pos, after, g⟩ env H (.pointer (some p)) := fun a w hfit _ => by
  simp [execOp, hfit.eval hx]
theorem p_neq_nil {t yT : TypeId} {x y : Operand} {p : Option Addr} (hx : look env x = some (.pointer p)) (hy : look env y = some (.pointer none)) (ht : P.underlying t = some (.pointer (P.pointee t))) :
    Pure1 P B w0 N D ⟨dst, .binOp .neq t x y yT, ty, pos, after, g⟩ env H (.bool (!p.isNone)) := fun a w hfit _ => by
  simp only [execOp, hfit.eval hx, hfit.eval hy, eqGuard_at_pointer, Sem.run_bind, Sem.run_pure, Result.andThen_ok]
  rw [run_neq_pointer_nil w t p ht]
  simp
theorem p_eql_nil {t yT : TypeId} {x y : Operand} {p : Option Addr} (hx : look env x = some (.pointer p)) (hy : look env y = some (.pointer none)) (ht : P.underlying t = some (.pointer (P.pointee t))) :
    Pure1 P B w0 N D ⟨dst, .binOp .eql t x y yT, ty, pos, after, g⟩ env H (.bool p.isNone) := fun a w hfit _ => by
  simp only [execOp, hfit.eval hx, hfit.eval hy, eqGuard_at_pointer, Sem.run_bind, Sem.run_pure, Result.andThen_ok]
  rw [run_eql_pointer_nil w t p ht]
  simp
end Go.K
