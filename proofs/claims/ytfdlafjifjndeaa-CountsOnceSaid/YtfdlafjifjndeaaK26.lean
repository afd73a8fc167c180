/-
  '==' on rows of sums, and on two of them, with themselves. Plain theorems, over any program.
-/
import Derived.Test.YtfdlafjifjndeaaK25
namespace Go.K
open Go Go.RowKit
section
variable {P : Program}
theorem part_row {w : World} {e : TypeId} {s off : Nat} {cs xs : List Value} (hrow : Row P e s) (hx : (cs.drop off).take s = xs) : (part e cs.toArray off).run P w = .ok (.agg xs.toArray) w := by
  obtain ⟨d, hu, hd, hs⟩ := hrow
  have h1 : cs.toArray.extract off (off + s) = xs.toArray := by
    rw [List.extract_toArray, List.extract_eq_take_drop, ← hx]
    congr 2
    omega
  have h2 : (isAgg e).run P w = .ok true w := by
    cases d with
    | struct _ => simp [isAgg, run_underlying hu]
    | array _ _ => simp [isAgg, run_underlying hu]
    | _ => cases hd
  simp only [part, Sem.run_bind, h2, Result.andThen_ok, if_true, sizeOf_ok hs, h1, Sem.run_pure]
theorem eq_sums_self (w : World) (d n : Nat) (t e u : TypeId) (ht : P.underlying t = some (.array n e)) (he : P.underlying e = some (.array 32 u)) (hu : P.underlying u = some (.int .u8)) (hrow : Row P e 32) (hsu : (P.info? u).map (·.size) = some 1) (l : List (List UInt8)) (hs : Sums l) (hl : l.length = n) :
    (Op.equalIn (d + 3) t (.agg (sumsV l).toArray) (.agg (sumsV l).toArray)).run P w = .ok true w := by
  have hse : ∀ w, (sizeOf e).run P w = .ok 32 w := fun w => by obtain ⟨_, _, _, h⟩ := hrow; exact sizeOf_ok h w
  rw [Op.equalIn]
  simp only [Sem.run_bind, run_underlying ht, Result.andThen_ok, hse, Std.Legacy.Range.forIn_eq_forIn_range', Std.Legacy.Range.size, Nat.sub_zero, Nat.add_sub_cancel, Nat.div_one]
  have hi : ∀ i ∈ List.range' 0 n 1, i < n := fun i hi => by simpa using (List.mem_range'_1.1 hi).2
  generalize List.range' 0 n 1 = is at hi ⊢
  induction is with
  | nil => simp
  | cons i is ih =>
    have hin : i < n := hi i (by simp)
    have hxl : (l.getD i []).length = 32 := hs _ (by rw [List.getD_eq_getElem?_getD, List.getElem?_eq_getElem (by omega)]; exact List.getElem_mem _)
    have hcut : ((sumsV l).drop (i * 32)).take 32 = bytesV (l.getD i []) := by
      unfold sumsV bytesV
      rw [← List.map_drop, ← List.map_take, hs.flat_drop i (by omega), List.drop_eq_getElem_cons (by omega : i < l.length), List.flatten_cons, List.getD_eq_getElem?_getD, List.getElem?_eq_getElem (by omega : i < l.length)]
      have hx : l[i].length = 32 := hs _ (List.getElem_mem _)
      rw [List.take_append_of_le_length (by omega), List.take_of_length_le (by omega)]
      rfl
    have px := part_row (P := P) (w := w) hrow hcut
    have pe : (Op.equalIn (d + 2) e (.agg (bytesV (l.getD i [])).toArray) (.agg (bytesV (l.getD i [])).toArray)).run P w = .ok true w := by
      have h := run_equalIn_bytes (P := P) w d e u 32 he hu (fun w => sizeOf_ok hsu w) _ _ hxl hxl
      rw [show ((l.getD i []) == (l.getD i [])) = true from beq_self_eq_true _] at h
      exact h
    simp only [List.forIn_cons, Sem.run_bind, px, pe, Result.andThen_ok, Bool.not_true, Bool.false_eq_true, if_false, Sem.run_pure]
    exact ih fun j hj => hi j (by simp [hj])
theorem eq_two_self (w : World) (d n m : Nat) (t s e u : TypeId) (f0 f1 : Field) (hfs : (P.fieldsOf t).toList = [f0, f1]) (ht : P.underlying t = some (.struct (P.fieldsOf t))) (hp : P.stoodInHeld t = false) (h0 : f0.type = s ∧ f0.offset = 0 ∧ (f0.name ≠ "_")) (h1 : f1.type = s ∧ f1.offset = m ∧ (f1.name ≠ "_"))
    (hsr : Row P s m) (hm : m = n * 32) (hs : P.underlying s = some (.array n e)) (he : P.underlying e = some (.array 32 u)) (hu : P.underlying u = some (.int .u8)) (hrow : Row P e 32) (hsu : (P.info? u).map (·.size) = some 1) (a b : List (List UInt8)) (ha : Sums a) (hal : a.length = n) (hb : Sums b) (hbl : b.length = n) :
    (Op.equalIn (d + 4) t (.agg (sumsV (a ++ b)).toArray) (.agg (sumsV (a ++ b)).toArray)).run P w = .ok true w := by
  have hal2 : (sumsV a).length = m := by rw [sumsV_length ha, hal, hm]
  have hbl2 : (sumsV b).length = m := by rw [sumsV_length hb, hbl, hm]
  have c0 : ((sumsV (a ++ b)).drop 0).take m = sumsV a := by rw [sumsV_append, List.drop_zero, List.take_append_of_le_length (by omega), List.take_of_length_le (by omega)]
  have c1 : ((sumsV (a ++ b)).drop m).take m = sumsV b := by rw [sumsV_append, List.drop_append, List.drop_eq_nil_of_le (by omega), hal2, Nat.sub_self, List.nil_append, List.drop_zero, List.take_of_length_le (by omega)]
  have p0 := part_row (P := P) (w := w) hsr c0
  have p1 := part_row (P := P) (w := w) hsr c1
  have e0 := eq_sums_self (P := P) w d n s e u hs he hu hrow hsu a ha hal
  have e1 := eq_sums_self (P := P) w d n s e u hs he hu hrow hsu b hb hbl
  rw [run_equalIn_struct w (d + 3) t _ _ ht hp, hfs]
  simp only [Op.eqFields, h0.1, h0.2.1, h0.2.2, h1.1, h1.2.1, h1.2.2, ne_eq, not_false_eq_true, if_true, Sem.run_bind, p0, p1, e0, e1, Result.andThen_ok, Bool.not_true, Bool.false_eq_true, if_false, Sem.run_pure]
end
section ops
variable {P : Program} {B : Nat} {w0 : Base} {N : Nat} {D : List Deferred} {env : Env} {H : Hp} {ty : TypeId} {pos : String} {after : Array Edge} {g : Option (Nat × Bool)} {dst : Option Nat}
theorem p_eqlSelf {t yT : TypeId} {x y : Operand} {cs : List Value} (hx : look env x = some (.agg cs.toArray)) (hy : look env y = some (.agg cs.toArray)) (hgd : P.eqGuardType P.depth t = false)
    (he : ∀ w, (Op.equalIn 10000 t (.agg cs.toArray) (.agg cs.toArray)).run P w = .ok true w) : Pure1 P B w0 N D ⟨dst, .binOp .eql t x y yT, ty, pos, after, g⟩ env H (.bool true) := fun a w hf _ => by
  have h2 := run_eqGuard_agg (P := P) w .eql t x y cs.toArray cs.toArray hgd
  simp only [execOp, hf.eval hx, hf.eval hy, Sem.run_bind, h2, Result.andThen_ok]
  rw [run_eql_struct, he w]
  simp
end ops
end Go.K
