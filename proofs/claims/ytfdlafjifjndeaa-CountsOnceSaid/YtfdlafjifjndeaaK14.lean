/-
  Slices whose elements are rows: reading, cutting; sums as rows of 32 bytes. Plain theorems, over any program.
-/
import Derived.Test.YtfdlafjifjndeaaK13
namespace Go.K
open Go Go.RowKit

/-- A slice type whose elements are rows of s cells. -/
def SlR (P : Program) (t e : TypeId) (s : Nat) : Prop := P.underlying t = some (.slice e) ∧ Row P e s
/-- The address behind a cut at element k. -/
def cutR (A : Option Addr) (cap k s : Nat) : Option Addr := if cap = k then A else A.map (·.add (k * s))
theorem cutR_some (b off cap k s : Nat) (h : k < cap) : cutR (some ⟨b, off, none⟩) cap k s = some ⟨b, off + k * s, none⟩ := by
  unfold cutR
  rw [if_neg (by omega), Option.map_some, Addr.add_mid]
section ops
variable {P : Program} {B : Nat} {w0 : Base} {N : Nat} {D : List Deferred} {env : Env} {H : Hp} {T : Env → Hp → Prop}
variable {dst : Option Tmp} {ty : TypeId} {pos : String} {after : Array Edge} {g : Option (Nat × Bool)}
theorem p_lenR {t : TypeId} {e s : Nat} {x : Operand} {A : Option Addr} {n c : Nat} (hx : look env x = some (.slice A n c)) (hsl : SlR P t e s) :
    Pure1 P B w0 N D ⟨dst, .call { callee := .builtin .len, args := #[x], argTypes := #[t] }, ty, pos, after, g⟩ env H (.int .i64 (n : Int)) := fun a w hf _ => by
  have ht := hsl.1
  simp [execOp, resolve, hf.eval hx, invoke, builtin, Builtin.len_, Builtin.lenOf, run_underlying ht, goInt]
theorem p_indexR {t e : TypeId} {s : Nat} {x i : Operand} {b off len cap j : Nat} {k : IntKind} {m : Int} (hx : look env x = some (.slice (some ⟨b, off, none⟩) len cap)) (hi : look env i = some (.int k m)) (hj : m = (j : Int)) (ha : SlR P t e s)
    (hlt : j < len) : Pure1 P B w0 N D ⟨dst, .indexAddr t x i, ty, pos, after, g⟩ env H (.pointer (some ⟨b, off + j * s, none⟩)) := fun a w hf _ => by
  obtain ⟨ht, _, _, _, hs⟩ := ha
  subst hj
  have h2 : ((j : Int) < (len : Int)) := by omega
  simp [execOp, hf.eval hx, hf.eval hi, Instr.indexAt, asIntOf, run_underlying ht, sizeOf_ok hs, h2, Addr.add_mid, hlt]
/-- a row that is known by what a slice reads -/
theorem p_loadR {t : TypeId} {x : Operand} {b off n : Nat} {cs : List Value} (hx : look env x = some (.pointer (some ⟨b, off, none⟩))) (hrow : Row P t n)
    (hsrc : ∀ w, Mem B w0 H w → Reads w (some ⟨b, off, none⟩) n cs) : Pure1 P B w0 N D ⟨dst, .load t x, ty, pos, after, g⟩ env H (.agg cs.toArray) := fun a w hf hm => by
  obtain ⟨d, ht, hd, hi⟩ := hrow
  have hr := hsrc w hm
  have h1 := run_loadAt_mid (P := P) w b off t cs d (fun j v hv => by
    have hj : j < n := by
      rcases Nat.lt_or_ge j n with h | h
      · exact h
      · rw [List.getElem?_eq_none (by rw [hr.1]; omega)] at hv; cases hv
    exact hr.cell hj hv) ht hd (by rw [hi, hr.1])
  simp only [execOp, hf.eval hx, Sem.run_bind, h1, Result.andThen_ok, Sem.run_pure]
theorem p_sliceToR {t e : TypeId} {s : Nat} {x hi : Operand} {A : Option Addr} {n c : Nat} {k : IntKind} {h : Nat} {m : Int} (hx : look env x = some (.slice A n c)) (hh : look env hi = some (.int k m)) (hm : m = (h : Int)) (hsl : SlR P t e s) (hle : h ≤ c) :
    Pure1 P B w0 N D ⟨dst, .slice t x none (some hi) none, ty, pos, after, g⟩ env H (.slice A h c) := fun a w hf _ => by
  subst hm
  obtain ⟨ht, d, hd, hr, hs⟩ := hsl
  have h2 : ((h : Int) ≤ (c : Int)) := by omega
  simp [execOp, hf.eval hx, hf.eval hh, Instr.sliceAt, Instr.slice, run_underlying ht, sizeOf_ok hs, Instr.sliceBounds, Instr.sliceBound, asIntOf, hle]
  cases A <;> simp [Addr.add_zero']
theorem p_sliceToCapR {t e : TypeId} {s : Nat} {x hi mx : Operand} {A : Option Addr} {n c : Nat} {k k' : IntKind} {h q : Nat} {m m' : Int} (hx : look env x = some (.slice A n c)) (hh : look env hi = some (.int k m)) (hq : look env mx = some (.int k' m')) (hm : m = (h : Int)) (hm' : m' = (q : Int)) (hsl : SlR P t e s) (hle : h ≤ q) (hqc : q ≤ c) (hq0 : 0 < q) :
    Pure1 P B w0 N D ⟨dst, .slice t x none (some hi) (some mx), ty, pos, after, g⟩ env H (.slice A h q) := fun a w hf _ => by
  subst hm hm'
  obtain ⟨ht, d, hd, hr, hs⟩ := hsl
  have h2 : ((h : Int) ≤ (q : Int)) := by omega
  have h3 : ((q : Int) ≤ (c : Int)) := by omega
  have h4 : ¬ (q = 0) := by omega
  simp [execOp, hf.eval hx, hf.eval hh, hf.eval hq, Instr.sliceAt, Instr.slice, run_underlying ht, sizeOf_ok hs, Instr.sliceBounds, Instr.sliceBound, asIntOf, hle, hqc, h4]
  cases A <;> simp [Addr.add_zero']
theorem p_sliceFromR {t e : TypeId} {s : Nat} {x lo : Operand} {A : Option Addr} {n c : Nat} {k : IntKind} {l : Nat} {m : Int} (hx : look env x = some (.slice A n c)) (hh : look env lo = some (.int k m)) (hm : m = (l : Int)) (hsl : SlR P t e s) (hle : l ≤ n) :
    Pure1 P B w0 N D ⟨dst, .slice t x (some lo) none none, ty, pos, after, g⟩ env H (.slice (cutR A c l s) (n - l) (c - l)) := fun a w hf _ => by
  subst hm
  obtain ⟨ht, d, hd, hr, hs⟩ := hsl
  have h2 : ((l : Int) ≤ (n : Int)) := by omega
  simp [execOp, hf.eval hx, hf.eval hh, Instr.sliceAt, Instr.slice, run_underlying ht, sizeOf_ok hs, Instr.sliceBounds, Instr.sliceBound, asIntOf, hle, cutR]
end ops

/-- sums as cells, one behind the other -/
def sumsV (l : List (List UInt8)) : List Value := bytesV l.flatten
def Sums (l : List (List UInt8)) : Prop := ∀ x ∈ l, x.length = 32
theorem Sums.nil : Sums [] := fun _ h => by cases h
theorem Sums.cons {x : List UInt8} {l : List (List UInt8)} (h : x.length = 32) (hl : Sums l) : Sums (x :: l) := fun y hy => by
  rcases List.mem_cons.1 hy with rfl | hy
  · exact h
  · exact hl y hy
theorem Sums.flat {l : List (List UInt8)} (h : Sums l) : l.flatten.length = l.length * 32 := by
  induction l with
  | nil => rfl
  | cons x l ih =>
    rw [List.flatten_cons, List.length_append, h x (by simp), ih fun y hy => h y (by simp [hy]), List.length_cons]; omega
theorem Sums.take {l : List (List UInt8)} (h : Sums l) (k : Nat) : Sums (l.take k) := fun x hx => h x (List.mem_of_mem_take hx)
theorem Sums.drop {l : List (List UInt8)} (h : Sums l) (k : Nat) : Sums (l.drop k) := fun x hx => h x (List.mem_of_mem_drop hx)
theorem Sums.flat_drop {l : List (List UInt8)} (h : Sums l) : ∀ k, k ≤ l.length → l.flatten.drop (k * 32) = (l.drop k).flatten := by
  induction l with
  | nil => intro k hk; simp
  | cons x l ih =>
    intro k hk
    cases k with
    | zero => simp
    | succ k =>
      have hx := h x (by simp)
      rw [List.flatten_cons, List.drop_succ_cons, ← ih (fun y hy => h y (by simp [hy])) k (by simpa using hk), show (k + 1) * 32 = x.length + k * 32 by omega, List.drop_append]
      simp
theorem Sums.flat_take {l : List (List UInt8)} (h : Sums l) : ∀ k, k ≤ l.length → l.flatten.take (k * 32) = (l.take k).flatten := by
  induction l with
  | nil => intro k hk; simp
  | cons x l ih =>
    intro k hk
    cases k with
    | zero => simp
    | succ k =>
      have hx := h x (by simp)
      rw [List.flatten_cons, List.take_succ_cons, List.flatten_cons, ← ih (fun y hy => h y (by simp [hy])) k (by simpa using hk), show (k + 1) * 32 = x.length + k * 32 by omega, List.take_append, List.take_of_length_le (by omega)]
      simp
/-- A slice of n sums that reads as l. -/
def ReadsS (w : World) (A : Option Addr) (l : List (List UInt8)) : Prop := Sums l ∧ Reads w A (l.length * 32) (sumsV l)
theorem ReadsS.nil (w : World) : ReadsS w none [] := ⟨Sums.nil, Reads.nil w⟩
theorem ReadsS.base {w0 w : World} {H : Hp} {A : Option Addr} {l : List (List UInt8)} (h : ReadsS w0 A l) (hm : Mem w0.heap.size ⟨w0, []⟩ H w) : ReadsS w A l := ⟨h.1, h.2.base hm⟩
theorem ReadsS.head {w : World} {A : Option Addr} {l : List (List UInt8)} (h : ReadsS w A l) {k : Nat} (hk : k ≤ l.length) : ReadsS w A (l.take k) := by
  refine ⟨h.1.take k, ?_⟩
  have h1 := h.2.head (k := k * 32) (by omega)
  unfold sumsV bytesV at *
  rw [← List.map_take, h.1.flat_take k hk] at h1
  rwa [List.length_take, Nat.min_eq_left hk]
theorem ReadsS.cut {w : World} {A : Option Addr} {l : List (List UInt8)} (h : ReadsS w A l) {k cap : Nat} (hk : k ≤ l.length) (hc : l.length ≤ cap) : ReadsS w (cutR A cap k 32) (l.drop k) := by
  refine ⟨h.1.drop k, ?_⟩
  refine ⟨by unfold sumsV; rw [bytesV_length, (h.1.drop k).flat], fun hn => ?_⟩
  rw [List.length_drop] at hn
  obtain ⟨b, off, rfl, hb, hcell⟩ := h.2.2 (by omega)
  refine ⟨b, off + k * 32, cutR_some b off cap k 32 (by omega), hb, fun j u hu => ?_⟩
  unfold sumsV bytesV at *
  rw [← h.1.flat_drop k hk, List.map_drop, List.getElem?_drop] at hu
  rw [Nat.add_assoc]
  exact hcell _ u hu
theorem ReadsS.at_ {w : World} {b off : Nat} {l : List (List UInt8)} (h : ReadsS w (some ⟨b, off, none⟩) l) {j : Nat} (hj : j < l.length) : Reads w (some ⟨b, off + j * 32, none⟩) 32 (bytesV (l.getD j [])) := by
  have h1 := h.cut (k := j) (cap := l.length) (by omega) (Nat.le_refl _)
  rw [cutR_some _ _ _ _ _ hj] at h1
  have h2 := h1.head (k := 1) (by rw [List.length_drop]; omega)
  have e : (l.drop j).take 1 = [l.getD j []] := by
    rw [List.getD_eq_getElem?_getD, List.getElem?_eq_getElem hj, List.drop_eq_getElem_cons hj]
    rfl
  rw [e] at h2
  have h3 := h2.2
  unfold sumsV at h3
  simpa using h3
theorem ReadsS.some {w : World} {A : Option Addr} {l : List (List UInt8)} (h : ReadsS w A l) (hn : l.length ≠ 0) : ∃ b off, A = some ⟨b, off, none⟩ ∧ b < w.heap.size := by
  obtain ⟨b, off, e, hb, _⟩ := h.2.2 (by omega)
  exact ⟨b, off, e, hb⟩
end Go.K
