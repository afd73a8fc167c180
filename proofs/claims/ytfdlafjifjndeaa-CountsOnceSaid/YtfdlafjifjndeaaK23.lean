/-
  Parts of several results; a row and a number handed back; slice literals whose elements are rows; a row of a slice that is read. Plain theorems, over any program.
-/
import Derived.Test.YtfdlafjifjndeaaK22
namespace Go.K
open Go Go.RowKit
theorem fill_rows (s : Nat) : ∀ (ls : List (List Value)) (k : Nat) (pre rest : List Value), (∀ x ∈ ls, x.length = s) → pre.length = k * s → rest.length = ls.length * s →
    Instr.fill (fun i => some (i * s, s)) (pre ++ rest).toArray ((List.range' k ls.length).zip (ls.map fun x => Value.agg x.toArray)) = some (pre ++ ls.flatMap id).toArray
  | [], k, pre, rest, _, _, hr => by
    obtain rfl := List.eq_nil_of_length_eq_zero (by simpa using hr)
    simp [Instr.fill]
  | x :: ls, k, pre, rest, hs, hp, hr => by
    have hx := hs x (by simp)
    rw [List.length_cons, Nat.succ_mul] at hr
    rw [List.length_cons, List.range'_succ, List.map_cons, List.zip_cons_cons]
    simp only [Instr.fill, Value.cells]
    have hc : ¬ (x.toArray.size ≠ s ∨ k * s + x.toArray.size > (pre ++ rest).toArray.size) := by
      simp only [List.size_toArray, List.length_append, hx, hp, hr]
      omega
    refine (if_neg (c := (decide (x.toArray.size ≠ s) || decide (k * s + x.toArray.size > (pre ++ rest).toArray.size)) = true) (by simpa using hc)).trans ?_
    have h1 : x.toArray.zipIdx.foldl (fun cs (p : Value × Nat) => cs.setIfInBounds (k * s + p.2) p.1) (pre ++ rest).toArray = (pre ++ x ++ rest.drop s).toArray := by
      have h2 := fold_lay x (pre ++ rest) (k * s) 0
      rw [Nat.add_zero, lay_eq _ _ _ (by simp only [List.length_append, hx, hp, hr]; omega)] at h2
      rw [← hp, List.take_left, hx] at h2
      rw [List.drop_append] at h2
      simp only [Nat.add_sub_cancel_left] at h2
      rw [List.drop_eq_nil_of_le (by omega), List.nil_append] at h2
      rw [← hp]
      simpa using h2
    have h3 := fill_rows s ls (k + 1) (pre ++ x) (rest.drop s) (fun y hy => hs y (by simp [hy])) (by rw [List.length_append, hx, hp, Nat.succ_mul]) (by rw [List.length_drop, hr]; omega)
    have h4 : (pre ++ (x :: ls).flatMap id) = pre ++ x ++ ls.flatMap id := by simp
    rw [h4]
    first
      | (rw [h1]; exact h3)
      | (simp only [] at h1 ⊢; rw [h1]; exact h3)
/-- one row of a slice that is read -/
theorem Reads.row {α : Type} {w : World} {b off s : Nat} {f : α → List Value} {l : List α} (h : Reads w (some ⟨b, off, none⟩) (l.length * s) (l.flatMap f)) (hs : ∀ a ∈ l, (f a).length = s) {i : Nat} {a : α} (hi : l[i]? = some a) : Reads w (some ⟨b, off + i * s, none⟩) s (f a) := by
  have hil := (List.getElem?_eq_some_iff.1 hi).1
  have ha : (f a).length = s := hs a (List.mem_of_getElem? hi)
  have h1 : i * s + s ≤ l.length * s := by rw [← Nat.succ_mul]; exact Nat.mul_le_mul_right s hil
  refine ⟨ha, fun hn => ?_⟩
  obtain ⟨b', off', e, hb, hc⟩ := h.2 (by omega)
  simp only [Option.some.injEq, Addr.mk.injEq] at e
  obtain ⟨rfl, rfl, _⟩ := e
  refine ⟨b, off + i * s, rfl, hb, fun j u hu => ?_⟩
  have hj : j < s := by
    rcases Nat.lt_or_ge j s with h | h
    · exact h
    · rw [List.getElem?_eq_none (by omega)] at hu; cases hu
  rw [← flat_cell f s l hs i j a hi hj] at hu
  rw [Nat.add_assoc]
  exact hc _ u hu
section ops
variable {P : Program} {B : Nat} {w0 : Base} {N : Nat} {D : List Deferred} {env : Env} {H : Hp} {T : Env → Hp → Prop}
variable {dst : Option Tmp} {ty : TypeId} {pos : String} {after : Array Edge} {g : Option (Nat × Bool)}
/-- One of several results. -/
theorem p_extract {x : Operand} {vs : List Value} {i : Nat} {v : Value} (hx : look env x = some (.tuple vs.toArray)) (hi : vs[i]? = some v) : Pure1 P B w0 N D ⟨dst, .extract x i, ty, pos, after, g⟩ env H v := fun a w hf _ => by
  simp [execOp, hf.eval hx, Instr.extract, hi]
/-- A slice literal of rows. -/
theorem op_buildSliceR {d n s : Nat} {t e : TypeId} {ps : List (Nat × Operand)} {l : List (List Value)} {z : Value} {bytes : Nat} (hx : looks env (ps.map (·.2)) = some (l.map fun x => Value.agg x.toArray)) (hps : ps.map (·.1) = List.range' 0 l.length) (ht : P.underlying t = some (.slice e)) (he : ElR P e z s bytes)
    (hs : ∀ x ∈ l, x.length = s) (hl : l.length = n) (hn : n * s ≤ 16777216) (hn0 : n * s ≠ 0) (hd : Nat.blt d N = true) (hB : B ≤ w0.w.heap.size)
    (h : ∀ b, T ((d, .slice (some ⟨b, 0, none⟩) n n) :: env) ((b, .cells (l.flatMap id).toArray e (0, 0)) :: H)) : Op1 P B w0 N D ⟨some d, .buildSlice t n ps.toArray, ty, pos, after, g⟩ env H T := fun K Q hT a w hf hm => by
  obtain ⟨i, hi, hz, hsi, _, hzc⟩ := he
  have hsz : (sizeOf e).run P w = .ok s w := sizeOf_ok (by rw [hi]; simp [hsi]) w
  have hzv : (zeroValue e).run P w = .ok z w := by unfold zeroValue; simp [typeInfo, hi, hz]
  have h1 := hf.evals hx
  have h2 : (ps.map fun p => (p.1, a.eval p.2)) = (ps.map (·.1)).zip (l.map fun x => Value.agg x.toArray) := by
    rw [← h1]
    clear h1 hx hps
    induction ps with
    | nil => rfl
    | cons p ps ih => simp [ih]
  have h3 : (execOp a.eval ⟨some d, .buildSlice t n ps.toArray, ty, pos, after, g⟩).run P w = .ok (.value (.slice (some ⟨w.heap.size, 0, none⟩) n n)) (w.alloc (.cells (l.flatMap id).toArray e)) := by
    have h6 : ¬ (2 ^ 24 < n * s) := by omega
    have h7 : ¬ (n * s = 0) := hn0
    have hbs : (Instr.buildSlice t n ((ps.map fun p => (p.1, a.eval p.2)).toArray)).run P w = .ok (.slice (some ⟨w.heap.size, 0, none⟩) n n) (w.alloc (.cells (l.flatMap id).toArray e)) := by
      unfold Instr.buildSlice
      simp only [Sem.run_bind, run_underlying ht, Result.andThen_ok, hsz, gt_iff_lt]
      rw [if_neg h6, if_neg h7]
      simp only [Sem.run_bind, hzv, Result.andThen_ok, Sem.run_pure]
      have h8 := fill_rows s l 0 [] ((Array.range (n * s)).map fun k => z.cells[k % z.cells.size]!).toList hs (by simp) (by simp [hl])
      rw [List.nil_append, List.nil_append] at h8
      simp only [Array.toArray_toList] at h8
      rw [h2, hps]
      rw [h8]
      simp [newRow]
    simp only [execOp, List.map_toArray, Sem.run_bind]
    rw [show (List.map (fun (x : Nat × Operand) => match x with | (i, x) => (i, a.eval x)) ps) = ps.map fun p => (p.1, a.eval p.2) from rfl, hbs]
    rfl
  unfold Oper.wp
  rw [h3]
  exact hT _ _ (h w.heap.size) _ _ (hf.put hd _) (hm.alloc hB _)
end ops
section ret
variable {P : Program} {fn : Func} {R : Ending → World → Prop} {B : Nat} {w0 : Base} {N : Nat} {env : Env} {H : Hp}
/-- Two results: a row that lies in a block, and a temporary. -/
theorem E_retRow1 {t u ty n : Nat} {b : Nat} {cs : List Value} {et : TypeId} {fr : Nat × Nat} {v : Value} (hr : fn.results = #[.cell t ty, .tmp u]) (hv : find env t = some (.pointer (some ⟨b, 0, none⟩))) (hu : find env u = some v) (hH : (b, Obj.cells cs.toArray et fr) ∈ H)
    (hrow : Row P ty n) (hl : cs.length = n) (h : ∀ w, Mem B w0 H w → R (.returned (.tuple [.agg cs.toArray, v].toArray)) w) : Ex B w0 N [] env H (bodyPost P fn R .ret) :=
  fun a w hf hm => bodyPost_ret (v := .tuple [.agg cs.toArray, v].toArray) (by
    obtain ⟨d, hun, hd, hi⟩ := hrow
    rw [← hl] at hi
    have h1 := hf.at_ t _ hv
    have h2 := hf.at_ u _ hu
    have hg := (hm.own _ hH).2
    have h3 : a.tmps[t]?.getD undef = .pointer (some ⟨b, 0, none⟩) := by simp [h1]
    have h4 : a.tmps[u]?.getD undef = v := by simp [h2]
    simp [results, hr, h3, h4, asAddr, run_loadVar_row w b et ty cs.toArray fr d hg hun (by cases d <;> first | rfl | cases hd) (by simpa using hi)]) hf.defs (h w hm)
end ret
end Go.K
