/-
  Slices whose elements are sums: literals. Plain theorems, over any program.
-/
import Derived.Test.YtfdlafjifjndeaaK15
namespace Go.K
open Go Go.RowKit
/-- An element type that is a row: its zero value, its bytes. -/
def ElR (P : Program) (e : TypeId) (z : Value) (s bytes : Nat) : Prop := ∃ i, P.info? e = some i ∧ i.zero = some z ∧ i.size = s ∧ i.bytes = bytes ∧ z.cells.size = s
theorem fold_lay (cs : List Value) : ∀ (A : List Value) (o s : Nat), (cs.zipIdx s).foldl (fun (acc : Array Value) p => acc.setIfInBounds (o + p.2) p.1) A.toArray = (lay A (o + s) cs).toArray := by
  induction cs with
  | nil => intro A o s; rfl
  | cons c cs ih =>
    intro A o s
    rw [List.zipIdx_cons, List.foldl_cons]
    simp only [List.setIfInBounds_toArray]
    rw [ih, lay]
    rfl
theorem fill_sums : ∀ (ls : List (List UInt8)) (k : Nat) (pre rest : List Value), Sums ls → pre.length = k * 32 → rest.length = ls.length * 32 →
    Instr.fill (fun i => some (i * 32, 32)) (pre ++ rest).toArray ((List.range' k ls.length).zip (ls.map fun x => Value.agg (bytesV x).toArray)) = some (pre ++ sumsV ls).toArray
  | [], k, pre, rest, _, _, hr => by
    obtain rfl := List.eq_nil_of_length_eq_zero (by simpa using hr)
    simp [Instr.fill, sumsV, bytesV]
  | x :: ls, k, pre, rest, hs, hp, hr => by
    have hx := hs x (by simp)
    have hxb : (bytesV x).length = 32 := by rw [bytesV_length, hx]
    rw [List.length_cons, List.range'_succ, List.map_cons, List.zip_cons_cons]
    simp only [Instr.fill, Value.cells]
    have hc : ¬ ((bytesV x).toArray.size ≠ 32 ∨ k * 32 + (bytesV x).toArray.size > (pre ++ rest).toArray.size) := by
      simp only [List.size_toArray, List.length_append, hxb, hp, hr, List.length_cons]
      omega
    refine (if_neg (c := (decide ((bytesV x).toArray.size ≠ 32) || decide (k * 32 + (bytesV x).toArray.size > (pre ++ rest).toArray.size)) = true) (by simpa using hc)).trans ?_
    have h1 : (bytesV x).toArray.zipIdx.foldl (fun cs (p : Value × Nat) => cs.setIfInBounds (k * 32 + p.2) p.1) (pre ++ rest).toArray = (pre ++ bytesV x ++ rest.drop 32).toArray := by
      have h2 := fold_lay (bytesV x) (pre ++ rest) (k * 32) 0
      rw [Nat.add_zero, lay_eq _ _ _ (by simp only [List.length_append, hxb, hp, hr, List.length_cons]; omega)] at h2
      rw [← hp, List.take_left, hxb] at h2
      rw [show pre.length + 32 = pre.length + 32 from rfl, List.drop_append] at h2
      simp only [Nat.add_sub_cancel_left] at h2
      rw [List.drop_eq_nil_of_le (by omega), List.nil_append] at h2
      rw [← hp]
      simpa using h2
    have h3 := fill_sums ls (k + 1) (pre ++ bytesV x) (rest.drop 32) (fun y hy => hs y (by simp [hy])) (by rw [List.length_append, hxb, hp]; omega) (by rw [List.length_drop, hr, List.length_cons]; omega)
    have h4 : (pre ++ sumsV (x :: ls)) = pre ++ bytesV x ++ sumsV ls := by simp [sumsV, bytesV]
    rw [h4]
    first
      | (rw [h1]; exact h3)
      | (simp only [] at h1 ⊢; rw [h1]; exact h3)
section ops
variable {P : Program} {B : Nat} {w0 : Base} {N : Nat} {D : List Deferred} {env : Env} {H : Hp} {T : Env → Hp → Prop}
variable {dst : Option Tmp} {ty : TypeId} {pos : String} {after : Array Edge} {g : Option (Nat × Bool)}
/-- A slice literal of sums. -/
theorem op_buildSliceS {d n : Nat} {t e : TypeId} {ps : List (Nat × Operand)} {l : List (List UInt8)} {z : Value} {bytes : Nat} (hx : looks env (ps.map (·.2)) = some (l.map fun x => Value.agg (bytesV x).toArray)) (hps : ps.map (·.1) = List.range' 0 l.length) (ht : P.underlying t = some (.slice e)) (he : ElR P e z 32 bytes)
    (hs : Sums l) (hl : l.length = n) (hn : n ≤ 65536) (hn0 : n ≠ 0) (hd : Nat.blt d N = true) (hB : B ≤ w0.w.heap.size)
    (h : ∀ b, T ((d, .slice (some ⟨b, 0, none⟩) n n) :: env) ((b, .cells (sumsV l).toArray e (0, 0)) :: H)) : Op1 P B w0 N D ⟨some d, .buildSlice t n ps.toArray, ty, pos, after, g⟩ env H T := fun K Q hT a w hf hm => by
  obtain ⟨i, hi, hz, hsi, _, hzc⟩ := he
  have hsz : (sizeOf e).run P w = .ok 32 w := sizeOf_ok (by rw [hi]; simp [hsi]) w
  have hzv : (zeroValue e).run P w = .ok z w := by unfold zeroValue; simp [typeInfo, hi, hz]
  have h1 := hf.evals hx
  have h2 : (ps.map fun p => (p.1, a.eval p.2)) = (ps.map (·.1)).zip (l.map fun x => Value.agg (bytesV x).toArray) := by
    rw [← h1]
    clear h1 hx hps
    induction ps with
    | nil => rfl
    | cons p ps ih => simp [ih]
  have h3 : (execOp a.eval ⟨some d, .buildSlice t n ps.toArray, ty, pos, after, g⟩).run P w = .ok (.value (.slice (some ⟨w.heap.size, 0, none⟩) n n)) (w.alloc (.cells (sumsV l).toArray e)) := by
    have h6 : ¬ (2 ^ 24 < n * 32) := by omega
    have h7 : ¬ (n * 32 = 0) := by omega
    have hbs : (Instr.buildSlice t n ((ps.map fun p => (p.1, a.eval p.2)).toArray)).run P w = .ok (.slice (some ⟨w.heap.size, 0, none⟩) n n) (w.alloc (.cells (sumsV l).toArray e)) := by
      unfold Instr.buildSlice
      simp only [Sem.run_bind, run_underlying ht, Result.andThen_ok, hsz, gt_iff_lt]
      rw [if_neg h6, if_neg h7]
      simp only [Sem.run_bind, hzv, Result.andThen_ok, Sem.run_pure]
      have h8 := fill_sums l 0 [] ((Array.range (n * 32)).map fun k => z.cells[k % z.cells.size]!).toList hs rfl (by simp [hl])
      rw [List.nil_append, List.nil_append] at h8
      simp only [Array.toArray_toList] at h8
      rw [h2, hps]
      rw [h8]
      simp [newRow]
    simp only [execOp, List.map_toArray, Sem.run_bind]
    rw [show (List.map (fun (x : Nat × Operand) => match x with | (i, x) => (i, a.eval x)) ps) = ps.map fun p => (p.1, a.eval p.2) from rfl, hbs]
    rfl
  unfold Oper.wp
  rw [h3]
  exact hT _ _ (h w.heap.size) _ _ (hf.put hd _) (hm.alloc hB _)
end ops
theorem Mem.readsS {B : Nat} {w0 : Base} {w : World} {H : Hp} (hm : Mem B w0 H w) {b : Nat} {l : List (List UInt8)} {t : TypeId} {fr : Nat × Nat} (hs : Sums l) (hH : (b, Obj.cells (sumsV l).toArray t fr) ∈ H) : ReadsS w (some ⟨b, 0, none⟩) l :=
  ⟨hs, hm.readsAll hH (by unfold sumsV; rw [bytesV_length, hs.flat])⟩
end Go.K
