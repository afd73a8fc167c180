/-
  More operations for the calculus: make, append, copies of a slice's head, slicing, composite literals, shifts. Plain theorems, over any program.
-/
import Derived.Test.YtfdlafjifjndeaaK3
import Derived.Maps.AppendAt
import Derived.Laws.MakeOwn
namespace Go.K
open Go.RowKit

/-- An element type of one cell: its zero value, its bytes. -/
def El (P : Program) (e : TypeId) (z : Value) (bytes : Nat) : Prop := ∃ i, P.info? e = some i ∧ i.zero = some z ∧ i.size = 1 ∧ i.bytes = bytes ∧ z.cells = #[z]

theorem madeCells_one (z : Value) (n : Nat) : madeCells #[z] n = (List.replicate n z).toArray := by
  apply Array.ext_getElem?
  intro i
  simp only [madeCells]
  by_cases h : i < n
  · simp [h, Nat.mod_one]
  · simp [h, Array.getElem?_eq_none]

/-- The address behind a cut at k. -/
def cutA (A : Option Addr) (cap k : Nat) : Option Addr := if cap = k then A else A.map (·.add k)
theorem cutA_some (b off cap k : Nat) (h : k < cap) : cutA (some ⟨b, off, none⟩) cap k = some ⟨b, off + k, none⟩ := by
  unfold cutA
  rw [if_neg (by omega), Option.map_some, Addr.add_mid]
theorem Reads.cut {w : World} {A : Option Addr} {n : Nat} {xs : List Value} (h : Reads w A n xs) {k cap : Nat} (hk : k ≤ n) (hc : n ≤ cap) : Reads w (cutA A cap k) (n - k) (xs.drop k) := by
  refine ⟨by rw [List.length_drop, h.1], fun hn => ?_⟩
  obtain ⟨b, off, rfl, hb, hcell⟩ := h.2 (by omega)
  refine ⟨b, off + k, cutA_some b off cap k (by omega), hb, fun j u hu => ?_⟩
  rw [List.getElem?_drop] at hu
  rw [Nat.add_assoc]
  exact hcell _ u hu
theorem Reads.head {w : World} {A : Option Addr} {n : Nat} {xs : List Value} (h : Reads w A n xs) {k : Nat} (hk : k ≤ n) : Reads w A k (xs.take k) := by
  refine ⟨by rw [List.length_take, h.1]; omega, fun hn => ?_⟩
  obtain ⟨b, off, rfl, hb, hcell⟩ := h.2 (by omega)
  refine ⟨b, off, rfl, hb, fun j u hu => hcell j u ?_⟩
  rcases Nat.lt_or_ge j k with hj | hj
  · rwa [List.getElem?_take_of_lt hj] at hu
  · rw [List.getElem?_eq_none (by rw [List.length_take]; omega)] at hu; cases hu
/-- A slice that lies in a block that is known. -/
theorem Mem.reads {B : Nat} {w0 : Base} {w : World} {H : Hp} (hm : Mem B w0 H w) {b off n : Nat} {cs xs : List Value} {t : TypeId} {fr : Nat × Nat} (hH : (b, Obj.cells cs.toArray t fr) ∈ H) (hx : (cs.drop off).take n = xs) (hl : off + n ≤ cs.length) : Reads w (some ⟨b, off, none⟩) n xs := by
  subst hx
  refine ⟨by simp; omega, fun _ => ⟨b, off, rfl, hm.lt hH, fun j u hu => ?_⟩⟩
  rw [hm.cell hH]
  rcases Nat.lt_or_ge j n with hj | hj
  · rwa [List.getElem?_take_of_lt hj, List.getElem?_drop] at hu
  · rw [List.getElem?_eq_none (by simp; omega)] at hu; cases hu
theorem Mem.readsAll {B : Nat} {w0 : Base} {w : World} {H : Hp} (hm : Mem B w0 H w) {b n : Nat} {cs : List Value} {t : TypeId} {fr : Nat × Nat} (hH : (b, Obj.cells cs.toArray t fr) ∈ H) (hl : cs.length = n) : Reads w (some ⟨b, 0, none⟩) n cs :=
  hm.reads hH (by rw [List.drop_zero, ← hl, List.take_length]) (by omega)
theorem Reads.cell {w : World} {b off n : Nat} {xs : List Value} (h : Reads w (some ⟨b, off, none⟩) n xs) {j : Nat} {u : Value} (hj : j < n) (hu : xs[j]? = some u) : w.cell? ⟨b, off + j, none⟩ = some u := by
  obtain ⟨b', off', e, _, hc⟩ := h.2 (by omega)
  simp only [Option.some.injEq, Addr.mk.injEq] at e
  obtain ⟨rfl, rfl, _⟩ := e
  exact hc j u hu

theorem lit0 : (0 : Int) = ((0 : Nat) : Int) := rfl
theorem lit1 : (1 : Int) = ((1 : Nat) : Int) := rfl
section ops
variable {P : Program} {B : Nat} {w0 : Base} {N : Nat} {D : List Deferred} {env : Env} {H : Hp} {T : Env → Hp → Prop}
variable {dst : Option Tmp} {ty : TypeId} {pos : String} {after : Array Edge} {g : Option (Nat × Bool)}

theorem p_cap {t e : TypeId} {x : Operand} {A : Option Addr} {n c : Nat} (hx : look env x = some (.slice A n c)) (hsl : P.underlying t = some (.slice e)) :
    Pure1 P B w0 N D ⟨dst, .call { callee := .builtin .cap, args := #[x], argTypes := #[t] }, ty, pos, after, g⟩ env H (.int .i64 (c : Int)) := fun a w hf _ => by
  simp [execOp, resolve, hf.eval hx, invoke, builtin, Builtin.cap_, run_underlying hsl, goInt]
theorem p_min2 {ts : Array TypeId} {x y : Operand} {k k' : IntKind} {m n r : Int} (hx : look env x = some (.int k m)) (hy : look env y = some (.int k' n)) (hr : (if n < m then n else m) = r) :
    Pure1 P B w0 N D ⟨dst, .call { callee := .builtin .min, args := #[x, y], argTypes := ts }, ty, pos, after, g⟩ env H (.int k r) := fun a w hf _ => by
  simp [execOp, resolve, hf.eval hx, hf.eval hy, invoke, builtin, Builtin.min_, Builtin.min2, hr]
theorem p_max2 {ts : Array TypeId} {x y : Operand} {k k' : IntKind} {m n r : Int} (hx : look env x = some (.int k m)) (hy : look env y = some (.int k' n)) (hr : (if m < n then n else m) = r) :
    Pure1 P B w0 N D ⟨dst, .call { callee := .builtin .max, args := #[x, y], argTypes := ts }, ty, pos, after, g⟩ env H (.int k r) := fun a w hf _ => by
  simp [execOp, resolve, hf.eval hx, hf.eval hy, invoke, builtin, Builtin.max_, Builtin.max2, hr]
theorem p_not {t : TypeId} {x : Operand} {b : Bool} (hx : look env x = some (.bool b)) : Pure1 P B w0 N D ⟨dst, .unOp .not t x, ty, pos, after, g⟩ env H (.bool (!b)) := fun a w hf _ => by
  simp [execOp, hf.eval hx, Op.unary]
theorem p_makeFunc {fn : Fn} {xs ys : List Operand} {us vs : List Value} (hx : looks env xs = some us) (hy : looks env ys = some vs) : Pure1 P B w0 N D ⟨dst, .makeFunc fn xs.toArray ys.toArray, ty, pos, after, g⟩ env H (.func fn us.toArray vs.toArray) := fun a w hf _ => by
  have h1 := hf.evals hx
  have h2 := hf.evals hy
  simp [execOp, Instr.makeFunc, h1, h2]
theorem p_build {t : TypeId} {ps : List (Nat × Operand)} {vs : List Value} {cs : List Value} (hx : looks env (ps.map (·.2)) = some vs) (hb : P.built t ((ps.map (·.1)).zip vs) = some cs.toArray) :
    Pure1 P B w0 N D ⟨dst, .build t ps.toArray, ty, pos, after, g⟩ env H (.agg cs.toArray) := fun a w hf _ => by
  have h1 := hf.evals hx
  have h2 : (ps.map fun p => (p.1, a.eval p.2)) = (ps.map (·.1)).zip vs := by
    rw [← h1]
    clear h1 hx hb
    induction ps with
    | nil => rfl
    | cons p ps ih => simp [ih]
  have h3 := run_build (P := P) w t ((ps.map (·.1)).zip vs).toArray cs.toArray (by simpa using hb)
  simp [execOp, h2, h3]

theorem p_buildAll {t : TypeId} {ps : List (Nat × Operand)} {vs : List Value} (hx : looks env (ps.map (·.2)) = some vs) (hb : P.built t ((ps.map (·.1)).zip vs) = some vs.toArray) :
    Pure1 P B w0 N D ⟨dst, .build t ps.toArray, ty, pos, after, g⟩ env H (.agg vs.toArray) := p_build hx hb
/-- x[:h], the slice's own head; x[l:]; x[l:h]: of a slice. -/
theorem p_sliceTo {t e : TypeId} {x hi : Operand} {A : Option Addr} {n c : Nat} {k : IntKind} {h : Nat} {m : Int} (hx : look env x = some (.slice A n c)) (hh : look env hi = some (.int k m)) (hm : m = (h : Int)) (hsl : Slc P t e) (hle : h ≤ c) :
    Pure1 P B w0 N D ⟨dst, .slice t x none (some hi) none, ty, pos, after, g⟩ env H (.slice A h c) := fun a w hf _ => by
  subst hm
  obtain ⟨ht, d, hd, hr, hs⟩ := hsl
  have h2 : ((h : Int) ≤ (c : Int)) := by omega
  simp [execOp, hf.eval hx, hf.eval hh, Instr.sliceAt, Instr.slice, run_underlying ht, sizeOf_ok hs, Instr.sliceBounds, Instr.sliceBound, asIntOf, hle]
  cases A <;> simp [Addr.add_zero']
theorem p_sliceFrom {t e : TypeId} {x lo : Operand} {A : Option Addr} {n c : Nat} {k : IntKind} {l : Nat} {m : Int} (hx : look env x = some (.slice A n c)) (hh : look env lo = some (.int k m)) (hm : m = (l : Int)) (hsl : Slc P t e) (hle : l ≤ n) :
    Pure1 P B w0 N D ⟨dst, .slice t x (some lo) none none, ty, pos, after, g⟩ env H (.slice (cutA A c l) (n - l) (c - l)) := fun a w hf _ => by
  subst hm
  obtain ⟨ht, d, hd, hr, hs⟩ := hsl
  have h2 : ((l : Int) ≤ (n : Int)) := by omega
  simp [execOp, hf.eval hx, hf.eval hh, Instr.sliceAt, Instr.slice, run_underlying ht, sizeOf_ok hs, Instr.sliceBounds, Instr.sliceBound, asIntOf, hle, cutA]
theorem p_sliceMid {t e : TypeId} {x lo hi : Operand} {A : Option Addr} {n c : Nat} {k k' : IntKind} {l h : Nat} {m m' : Int} (hx : look env x = some (.slice A n c)) (hlo : look env lo = some (.int k m)) (hhi : look env hi = some (.int k' m')) (hm : m = (l : Int)) (hm' : m' = (h : Int))
    (hsl : Slc P t e) (hlh : l ≤ h) (hle : h ≤ c) : Pure1 P B w0 N D ⟨dst, .slice t x (some lo) (some hi) none, ty, pos, after, g⟩ env H (.slice (cutA A c l) (h - l) (c - l)) := fun a w hf _ => by
  subst hm hm'
  obtain ⟨ht, d, hd, hr, hs⟩ := hsl
  have h2 : ((l : Int) ≤ (h : Int)) := by omega
  have h3 : ((h : Int) ≤ (c : Int)) := by omega
  simp [execOp, hf.eval hx, hf.eval hlo, hf.eval hhi, Instr.sliceAt, Instr.slice, run_underlying ht, sizeOf_ok hs, Instr.sliceBounds, Instr.sliceBound, asIntOf, hle, hlh, cutA]
/-- x[:] of an array that lies in memory. -/
theorem p_sliceArr {t e : TypeId} {x : Operand} {b off len : Nat} (hx : look env x = some (.pointer (some ⟨b, off, none⟩))) (ha : Arr P t len e) :
    Pure1 P B w0 N D ⟨dst, .slice t x none none none, ty, pos, after, g⟩ env H (.slice (some ⟨b, off, none⟩) len len) := fun a w hf _ => by
  obtain ⟨ht, _, _, _, hs⟩ := ha
  simp [execOp, hf.eval hx, Instr.sliceAt, run_underlying ht, Instr.sureAddr, sizeOf_ok hs, Instr.sliceBounds, Addr.add_zero']

theorem op_makeSlice {d : Nat} {t e : TypeId} {x y : Operand} {kl kc : IntKind} {l c bytes : Nat} {m n : Int} {z : Value} (hx : look env x = some (.int kl m)) (hy : look env y = some (.int kc n)) (hm : m = (l : Int)) (hn : n = (c : Int)) (ht : P.underlying t = some (.slice e)) (he : El P e z bytes)
    (hlc : l ≤ c) (hby : bytes * c ≤ 281474976710656) (h63 : c ≤ 9223372036854775807) (hd : Nat.blt d N = true) (hB : B ≤ w0.w.heap.size)
    (h : ∀ b, T ((d, .slice (some ⟨b, 0, none⟩) l c) :: env) ((b, .cells (List.replicate c z).toArray e (0, 0)) :: H)) : Op1 P B w0 N D ⟨some d, .makeSlice t x y, ty, pos, after, g⟩ env H T := fun K Q hT a w hf hm' => by
  subst hm hn
  obtain ⟨i, hi, hz, hs, hb, hzc⟩ := he
  have hbi : (i.bytes : Int) * (c : Int) ≤ 281474976710656 := by
    have h2 : ((i.bytes * c : Nat) : Int) ≤ 281474976710656 := by rw [hb]; omega
    rwa [Int.natCast_mul] at h2
  have hr := run_make (P := P) w t e i z ht hi hz kl kc (l : Int) (c : Int) (by omega) (by omega) hbi (by omega)
  simp only [Int.toNat_natCast, hs, Nat.mul_one, hzc, madeCells_one] at hr
  have h1 : (execOp a.eval ⟨some d, .makeSlice t x y, ty, pos, after, g⟩).run P w = .ok (.value (.slice (some ⟨w.heap.size, 0, none⟩) l c)) (w.alloc (.cells (List.replicate c z).toArray e)) := by
    simp [execOp, hf.eval hx, hf.eval hy, hr]
  unfold Oper.wp
  rw [h1]
  exact hT _ _ (h w.heap.size) _ _ (hf.put hd _) (hm'.alloc hB _)

/-- A slice literal. -/
theorem op_buildSlice {d n : Nat} {t e : TypeId} {ps : List (Nat × Operand)} {vs cs : List Value} {z : Value} {bytes : Nat} (hx : looks env (ps.map (·.2)) = some vs) (ht : P.underlying t = some (.slice e)) (he : El P e z bytes) (hn : n ≤ 65536) (hn0 : n ≠ 0)
    (hb : Instr.fill (fun i => some (i * 1, 1)) (List.replicate n z).toArray ((ps.map (·.1)).zip vs) = some cs.toArray) (hd : Nat.blt d N = true) (hB : B ≤ w0.w.heap.size)
    (h : ∀ b, T ((d, .slice (some ⟨b, 0, none⟩) n n) :: env) ((b, .cells cs.toArray e (0, 0)) :: H)) : Op1 P B w0 N D ⟨some d, .buildSlice t n ps.toArray, ty, pos, after, g⟩ env H T := fun K Q hT a w hf hm => by
  obtain ⟨i, hi, hz, hs, _, hzc⟩ := he
  have hsz : (sizeOf e).run P w = .ok 1 w := sizeOf_ok (by rw [hi]; simp [hs]) w
  have hzv : (zeroValue e).run P w = .ok z w := by unfold zeroValue; simp [typeInfo, hi, hz]
  have h1 := hf.evals hx
  have h2 : (ps.map fun p => (p.1, a.eval p.2)) = (ps.map (·.1)).zip vs := by
    rw [← h1]
    clear h1 hx hb
    induction ps with
    | nil => rfl
    | cons p ps ih => simp [ih]
  have hmk : (Array.range n).map (fun k => #[z][k % #[z].size]!) = (List.replicate n z).toArray := madeCells_one z n
  have h3 : (execOp a.eval ⟨some d, .buildSlice t n ps.toArray, ty, pos, after, g⟩).run P w = .ok (.value (.slice (some ⟨w.heap.size, 0, none⟩) n n)) (w.alloc (.cells cs.toArray e)) := by
    have h6 : ¬ (2 ^ 24 < n * 1) := by omega
    have h7 : ¬ (n * 1 = 0) := by omega
    have hbs : (Instr.buildSlice t n ((ps.map fun p => (p.1, a.eval p.2)).toArray)).run P w = .ok (.slice (some ⟨w.heap.size, 0, none⟩) n n) (w.alloc (.cells cs.toArray e)) := by
      unfold Instr.buildSlice
      simp only [Sem.run_bind, run_underlying ht, Result.andThen_ok, hsz, gt_iff_lt]
      rw [if_neg h6, if_neg h7]
      simp only [Sem.run_bind, hzv, Result.andThen_ok, Sem.run_pure, hzc]
      simp only [Nat.mul_one, hmk, h2]
      simp only [Nat.mul_one] at hb
      rw [hb]
      simp [newRow]
    simp only [execOp, List.map_toArray, Sem.run_bind]
    rw [show (List.map (fun (x : Nat × Operand) => match x with | (i, x) => (i, a.eval x)) ps) = ps.map fun p => (p.1, a.eval p.2) from rfl, hbs]
    rfl
  unfold Oper.wp
  rw [h3]
  exact hT _ _ (h w.heap.size) _ _ (hf.put hd _) (hm.alloc hB _)

theorem op_buildSliceAll {d n : Nat} {t e : TypeId} {ps : List (Nat × Operand)} {vs : List Value} {z : Value} {bytes : Nat} (hx : looks env (ps.map (·.2)) = some vs) (ht : P.underlying t = some (.slice e)) (he : El P e z bytes) (hn : n ≤ 65536) (hn0 : n ≠ 0)
    (hb : Instr.fill (fun i => some (i * 1, 1)) (List.replicate n z).toArray ((ps.map (·.1)).zip vs) = some vs.toArray) (hd : Nat.blt d N = true) (hB : B ≤ w0.w.heap.size)
    (h : ∀ b, T ((d, .slice (some ⟨b, 0, none⟩) n n) :: env) ((b, .cells vs.toArray e (0, 0)) :: H)) : Op1 P B w0 N D ⟨some d, .buildSlice t n ps.toArray, ty, pos, after, g⟩ env H T := op_buildSlice hx ht he hn hn0 hb hd hB h
/-- append to a row of the call's own: it may move. -/
theorem op_append {d : Nat} {t e : TypeId} {x y : Operand} {z : Value} {bytes : Nat} {b n cap m c : Nat} {xs sp news : List Value} {A : Option Addr} {H' : Hp} (hx : look env x = some (.slice (some ⟨b, 0, none⟩) n cap)) (hy : look env y = some (.slice A m c))
    (ht : P.underlying t = some (.slice e)) (he : El P e z bytes) (hdel : Del H b (.cells (xs ++ sp).toArray e (0, 0)) H') (hn : xs.length = n) (hcap : (xs ++ sp).length = cap) (hcm : cap ≤ maxLen)
    (hsrc : ∀ w, Mem B w0 H w → Reads w A m news) (h1 : ∀ u ∈ news, u.oneCell' = true) (h63 : n + m ≤ maxLen) (hby : (n + m) * bytes ≤ 140737488355328) (hd : Nat.blt d N = true) (hB : B ≤ w0.w.heap.size)
    (h : ∀ b' cap' sp', (xs ++ news ++ sp').length = cap' → cap' ≤ maxLen → T ((d, .slice (some ⟨b', 0, none⟩) (n + m) cap') :: env) ((b', .cells (xs ++ news ++ sp').toArray e (0, 0)) :: H')) :
    Op1 P B w0 N D ⟨some d, .call { callee := .builtin .append, args := #[x, y], argTypes := #[t, t] }, ty, pos, after, g⟩ env H T := fun K Q hT a w hf hm => by
  obtain ⟨i, hi, hz, hs, hb, hzc⟩ := he
  have hbB := (hm.own _ hdel.mem).1
  have hown : w.ownsRow 0 e 1 (.slice (some ⟨b, 0, none⟩) n cap) n xs := by
    refine ⟨by simp [hn], .inr ⟨b, cap, _, rfl, Nat.zero_le _, (hm.own _ hdel.mem).2, ?_, hcm, by simpa using hcap, ?_⟩⟩
    · rw [← hcap, ← hn]; simp
    · simp [← hn]
  have hrd := hsrc w hm
  have hex : ∃ v' w', (Builtin.append_ #[t, t] ty #[.slice (some ⟨b, 0, none⟩) n cap, .slice A m c]).run P w = .ok v' w' ∧ w'.ownsRow 0 e 1 v' (n + m) (xs ++ news) ∧ w.grownBy w' (some b) ∧ v' ≠ .slice none 0 0 ∧ (v'.ownBlock = some b ∨ v'.ownBlock = some w.heap.size) := by
    by_cases hm0 : m = 0
    · subst hm0
      have hnl : news = [] := List.eq_nil_of_length_eq_zero hrd.1
      subst hnl
      refine ⟨.slice (some ⟨b, 0, none⟩) n cap, w, ?_, by simpa using hown, World.grownBy.refl w _, by simp, .inl rfl⟩
      have hnc : n ≤ cap := by rw [← hcap, ← hn]; simp
      have hsz : (sizeOf e).run P w = .ok 1 w := sizeOf_ok (by rw [hi]; simp [hs]) w
      cases A <;> simp [Builtin.append_, run_underlying ht, hsz, Builtin.lenOf, Builtin.firstCells, hnc, storeCells, loadCells, loadCellsFrom]
    · obtain ⟨b2, off2, rfl, _, hc2⟩ := hrd.2 hm0
      obtain ⟨v', w', hrun, h2, h3, h4, h5⟩ := run_append_own_at (P := P) w 0 t ty e i z 1 bytes ht hi hz hs hb (by rw [hzc]; rfl) (by omega) _ n xs hown ⟨b2, off2, none⟩ m c news (by simp [hrd.1]) (fun j u hu => by rw [Addr.add_mid]; exact hc2 j u hu) h1 h63 hby (Nat.zero_le _)
      exact ⟨v', w', hrun, h2, h3, fun e => by have := (h4.1 e).1; simp at this, h5⟩
  obtain ⟨v', w', hrun, h2, h3, h4, h5⟩ := hex
  have hrun2 : (execOp a.eval ⟨some d, .call { callee := .builtin .append, args := #[x, y], argTypes := #[t, t] }, ty, pos, after, g⟩).run P w = .ok (.value v') w' := by
    simp [execOp, resolve, hf.eval hx, hf.eval hy, invoke, builtin, hrun]
  unfold Oper.wp
  rw [hrun2]
  obtain ⟨hlen, hform⟩ := h2
  rcases hform with ⟨hv, _⟩ | ⟨g', cap', cur, rfl, hg', hh, hnc', hcm', hcs, htk⟩
  · exact absurd hv h4
  · have hg2 : g' = b ∨ g' = w.heap.size := by simpa [Value.ownBlock] using h5
    have hsp : cur = (xs ++ news ++ cur.toList.drop (n + m)).toArray := by
      rw [← htk]
      simp
    have hm1 := hm.del hdel
    have hbelow : Chg B w0.bs w0.w w' := hm.chg.step hB h3.os h3.tape h3.output h3.size (fun k hk hn => h3.block k (by have := hm.chg.size; omega) (fun e => by
      simp only [Option.some.injEq] at e
      subst e
      rcases hbB with h | h
      · simp only at h; omega
      · exact hn h))
    refine hT _ _ (h g' cap' (cur.toList.drop (n + m)) (by have := congrArg Array.size hsp; rw [hcs] at this; simpa using this.symm) hcm') _ _ (hf.put hd _) ⟨hm.room, hbelow, fun p hp => ?_, List.pairwise_cons.2 ⟨fun p hp => ?_, hm1.apart⟩⟩
    · rcases List.mem_cons.1 hp with rfl | hp
      · refine ⟨?_, by rw [← hsp]; exact hh⟩
        rcases hg2 with e | e
        · show B ≤ g' ∨ g' ∈ w0.bs
          rw [e]; exact hbB
        · exact .inl (by have := hm.chg.size; simp only; omega)
      · exact ⟨(hm1.own p hp).1, (h3.block p.1 (hm1.lt hp) (fun e => by simp only [Option.some.injEq] at e; exact hdel.ne hm.apart p hp e)).trans (hm1.own p hp).2⟩
    · have h6 := hdel.ne hm.apart p hp
      have h7 := hm1.lt hp
      show g' ≠ p.1
      omega
/-- append to a slice that is nil. -/
theorem op_appendNil {d : Nat} {t e : TypeId} {x y : Operand} {z : Value} {bytes : Nat} {m c : Nat} {news : List Value} {A : Option Addr} (hx : look env x = some (.slice none 0 0)) (hy : look env y = some (.slice A m c))
    (ht : P.underlying t = some (.slice e)) (he : El P e z bytes) (hsrc : ∀ w, Mem B w0 H w → Reads w A m news) (h1 : ∀ u ∈ news, u.oneCell' = true) (h63 : m ≤ maxLen) (hby : m * bytes ≤ 140737488355328) (hd : Nat.blt d N = true) (hB : B ≤ w0.w.heap.size)
    (h0 : m = 0 → T ((d, .slice none 0 0) :: env) H)
    (h : ∀ b' cap' sp', m ≠ 0 → (news ++ sp').length = cap' → cap' ≤ maxLen → T ((d, .slice (some ⟨b', 0, none⟩) m cap') :: env) ((b', .cells (news ++ sp').toArray e (0, 0)) :: H)) :
    Op1 P B w0 N D ⟨some d, .call { callee := .builtin .append, args := #[x, y], argTypes := #[t, t] }, ty, pos, after, g⟩ env H T := fun K Q hT a w hf hm => by
  obtain ⟨i, hi, hz, hs, hb, hzc⟩ := he
  have hrd := hsrc w hm
  by_cases hm0 : m = 0
  · subst hm0
    have hsz : (sizeOf e).run P w = .ok 1 w := sizeOf_ok (by rw [hi]; simp [hs]) w
    have hrun2 : (execOp a.eval ⟨some d, .call { callee := .builtin .append, args := #[x, y], argTypes := #[t, t] }, ty, pos, after, g⟩).run P w = .ok (.value (.slice none 0 0)) w := by
      cases A <;> simp [execOp, resolve, hf.eval hx, hf.eval hy, invoke, builtin, Builtin.append_, run_underlying ht, hsz, Builtin.lenOf, Builtin.firstCells, loadCells, loadCellsFrom]
    unfold Oper.wp
    rw [hrun2]
    exact hT _ _ (h0 rfl) _ _ (hf.put hd _) hm
  · obtain ⟨b2, off2, rfl, _, hc2⟩ := hrd.2 hm0
    obtain ⟨v', w', hrun, h2, h3, h4, h5⟩ := run_append_own_at (P := P) w 0 t ty e i z 1 bytes ht hi hz hs hb (by rw [hzc]; rfl) (by omega) (.slice none 0 0) 0 [] ⟨rfl, .inl ⟨rfl, rfl⟩⟩ ⟨b2, off2, none⟩ m c news (by simp [hrd.1]) (fun j u hu => by rw [Addr.add_mid]; exact hc2 j u hu) h1 (by omega) (by simpa using hby) (Nat.zero_le _)
    have hrun2 : (execOp a.eval ⟨some d, .call { callee := .builtin .append, args := #[x, y], argTypes := #[t, t] }, ty, pos, after, g⟩).run P w = .ok (.value v') w' := by
      simp [execOp, resolve, hf.eval hx, hf.eval hy, invoke, builtin, hrun]
    unfold Oper.wp
    rw [hrun2]
    obtain ⟨hlen, hform⟩ := h2
    rcases hform with ⟨hv, _⟩ | ⟨g', cap', cur, rfl, hg', hh, hnc', hcm', hcs, htk⟩
    · exact absurd (h4.1 hv).2 hm0
    · have hg2 : g' = w.heap.size := by simpa [Value.ownBlock] using h5
      simp only [Nat.zero_add, Nat.mul_one, List.nil_append] at htk hh ⊢
      have hsp : cur = (news ++ cur.toList.drop m).toArray := by
        rw [← htk]
        simp
      have hbelow : Chg B w0.bs w0.w w' := hm.chg.step hB h3.os h3.tape h3.output h3.size (fun k hk _ => h3.block k (by have := hm.chg.size; omega) (fun e => by simp [Value.ownBlock] at e))
      refine hT _ _ (h g' cap' (cur.toList.drop m) hm0 (by have := congrArg Array.size hsp; rw [hcs] at this; simpa using this.symm) hcm') _ _ (hf.put hd _) ⟨hm.room, hbelow, fun p hp => ?_, List.pairwise_cons.2 ⟨fun p hp => ?_, hm.apart⟩⟩
      · rcases List.mem_cons.1 hp with rfl | hp
        · exact ⟨.inl (by have := hm.chg.size; simp only; omega), by rw [← hsp]; exact hh⟩
        · exact ⟨(hm.own p hp).1, (h3.block p.1 (hm.lt hp) (fun e => by simp [Value.ownBlock] at e)).trans (hm.own p hp).2⟩
      · have h7 := hm.lt hp
        show g' ≠ p.1
        omega
end ops

/-! ### text -/
section text
variable {P : Program} {B : Nat} {w0 : Base} {N : Nat} {D : List Deferred} {env : Env} {H : Hp} {T : Env → Hp → Prop} {ty : TypeId} {pos : String} {after : Array Edge} {g : Option (Nat × Bool)}
/-- text, as bytes: the row is marked. -/
theorem op_convBytes {d b n c : Nat} {t e te : TypeId} {x : Operand} {cs : List Value} {H' : Hp} (hx : look env x = some (.slice (some ⟨b, 0, none⟩) n c)) (ht : P.underlying t = some (.slice e)) (he : P.underlying e = some (.int .u8))
    (hat : At H b (.cells cs.toArray te (0, 0)) (.cells cs.toArray te (cs.length, cs.length + 1)) H') (hd : Nat.blt d N = true) (h : T ((d, .slice (some ⟨b, 0, none⟩) n c) :: env) H') :
    Op1 P B w0 N D ⟨some d, .convert t t x, ty, pos, after, g⟩ env H T := fun K Q hT a w hf hm => by
  have hb := hm.at_ hat
  have hsh : w.shape? b = some (te, cs.length) := by unfold World.shape?; rw [hb]; simp
  have h3 : (execOp a.eval ⟨some d, .convert t t x, ty, pos, after, g⟩).run P w = .ok (.value (.slice (some ⟨b, 0, none⟩) n c)) (w.freeze ⟨b, cs.length, none⟩ 1) := by
    simp [execOp, hf.eval hx, convert, run_underlying ht, run_underlying he, markStringish, hsh]
  unfold Oper.wp
  rw [h3]
  refine hT _ _ h _ _ (hf.put hd _) (hm.turn hat rfl rfl rfl (by simp [World.freeze]) ?_ (fun k hk hne => ?_))
  · unfold World.freeze
    rw [if_neg (by decide)]
    simp only [Array.getElem?_modify, if_true]
    rw [hb]
    rfl
  · unfold World.freeze
    rw [if_neg (by decide)]
    simp only [Array.getElem?_modify]
    rw [if_neg (fun e => hne e.symm)]
end text
end Go.K
