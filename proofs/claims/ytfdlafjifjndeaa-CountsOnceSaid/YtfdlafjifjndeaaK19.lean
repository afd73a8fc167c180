/-
  Slices of sums: made ones. Plain theorems, over any program.
-/
import Derived.Test.YtfdlafjifjndeaaK18
namespace Go.K
open Go Go.RowKit
section ops
variable {P : Program} {B : Nat} {w0 : Base} {N : Nat} {D : List Deferred} {env : Env} {H : Hp} {T : Env → Hp → Prop}
variable {dst : Option Tmp} {ty : TypeId} {pos : String} {after : Array Edge} {g : Option (Nat × Bool)}
theorem op_makeSliceS {d : Nat} {t e : TypeId} {x y : Operand} {kl kc : IntKind} {c : Nat} {m n : Int} {z : Value} (hx : look env x = some (.int kl m)) (hy : look env y = some (.int kc n)) (hm : m = 0) (hn : n = (c : Int)) (ht : P.underlying t = some (.slice e)) (he : ElR P e z 32 32)
    (hc : c ≤ 1000000) (hd : Nat.blt d N = true) (hB : B ≤ w0.w.heap.size)
    (h : ∀ b sp, sp.length = c * 32 → T ((d, .slice (some ⟨b, 0, none⟩) 0 c) :: env) ((b, .cells (sumsV [] ++ sp).toArray e (0, 0)) :: H)) : Op1 P B w0 N D ⟨some d, .makeSlice t x y, ty, pos, after, g⟩ env H T := fun K Q hT a w hf hm' => by
  subst hm hn
  obtain ⟨i, hi, hz, hs, hb, hzc⟩ := he
  have hbi : (i.bytes : Int) * (c : Int) ≤ 281474976710656 := by rw [hb]; omega
  have hr := run_make (P := P) w t e i z ht hi hz kl kc 0 (c : Int) (by omega) (by omega) hbi (by omega)
  simp only [Int.toNat_natCast, hs] at hr
  have h1 : (execOp a.eval ⟨some d, .makeSlice t x y, ty, pos, after, g⟩).run P w = .ok (.value (.slice (some ⟨w.heap.size, 0, none⟩) 0 c)) (w.alloc (.cells (madeCells z.cells (c * 32)) e)) := by
    simp [execOp, hf.eval hx, hf.eval hy, hr]
  unfold Oper.wp
  rw [h1]
  have h2 := h w.heap.size (madeCells z.cells (c * 32)).toList (by simp [madeCells])
  refine hT _ _ h2 _ _ (hf.put hd _) ?_
  have h3 : (sumsV [] ++ (madeCells z.cells (c * 32)).toList).toArray = madeCells z.cells (c * 32) := by simp [sumsV, bytesV]
  rw [h3]
  exact hm'.alloc hB _
end ops
end Go.K
