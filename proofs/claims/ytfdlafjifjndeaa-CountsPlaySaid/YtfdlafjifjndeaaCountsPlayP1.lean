/-
  A small calculus of its own over the model's rules: a frame is told by the slots that are known (a list of pairs), memory by the blocks that the call made itself and by what lay before. Plain definitions and theorems; over any program.
-/
import Derived.WalkKit
import Derived.OrdersHeld
import Derived.Deep.MidRow
import Derived.Laws.Tables
import Derived.Laws.Rows
import Derived.Deep.LoopGhost
import Derived.Deep.Quiet
import Derived.Stop.BytesEq
import Derived.ChangeKeysEq
import Derived.ProofKit
import Derived.OpenShut
import Derived.ChangeOld
import Derived.Maps.AppendAt
import Derived.Laws.MakeOwn
import Derived.Laws.Pointers
import Derived.Laws.IdiomCopy
import Derived.Deep.Slices
import Derived.SizedLaws
import Derived.Lib.AppendZerosOnto
import Derived.Test.YtfdlafjifjndeaaRows
import Derived.KernelRfl
import Derived.RangeFuncNested
import Derived.RangeFuncCalls
import Derived.RangeFuncLeaves
import Derived.Defers
import Derived.Scope
namespace Go.K
open Go.RowKit
abbrev Env := List (Nat × Value)
abbrev Hp := List (Nat × Obj)
def find : Env → Nat → Option Value
  | [], _ => none
  | (k, v) :: r, t => match Nat.beq k t with
    | true => some v
    | false => find r t
def look (env : Env) : Operand → Option Value
  | .tmp t => find env t
  | .const v => some v
  | .global g => some (.pointer (some ⟨g, 0, none⟩))
  | .func f => some (.func (.func f) #[] #[])
structure Fits (N : Nat) (D : List Deferred) (env : Env) (a : Act) : Prop where
  defs : a.defers = D
  size : a.tmps.size = N
  at_ : ∀ t v, find env t = some v → a.tmps[t]? = some v
theorem find_cons_same (env : Env) (t : Nat) (v : Value) : find ((t, v) :: env) t = some v := by
  have h : Nat.beq t t = true := Nat.beq_refl t
  simp only [find, h]
theorem find_cons_ne {env : Env} {k t : Nat} {v : Value} (h : k ≠ t) : find ((k, v) :: env) t = find env t := by
  have h : Nat.beq k t = false := by
    cases hb : Nat.beq k t with
    | false => rfl
    | true => exact absurd (Nat.eq_of_beq_eq_true hb) h
  simp only [find, h]
section fits
variable {N : Nat} {D : List Deferred} {env : Env} {a : Act}
theorem Fits.eval (h : Fits N D env a) {x : Operand} {v : Value} (hx : look env x = some v) : a.eval x = v := by
  cases x with
  | tmp t => have := h.at_ t v hx; simp [Act.eval, this]
  | const u => simp only [look, Option.some.injEq] at hx; subst hx; rfl
  | global g => simpa [look, Act.eval] using hx
  | func f => simpa [look, Act.eval] using hx
theorem Fits.put (h : Fits N D env a) {d : Nat} (hd : Nat.blt d N = true) (v : Value) : Fits N D ((d, v) :: env) (a.put (some d) v) := by
  have hd' : d < N := by simpa using hd
  refine ⟨h.defs, by simp [Act.put, h.size], fun t u hu => ?_⟩
  by_cases hk : d = t
  · subst hk
    rw [find_cons_same] at hu
    cases hu
    simp [Act.put, h.size, hd']
  · rw [find_cons_ne hk] at hu
    simp only [Act.put]
    rw [Array.getElem?_setIfInBounds_ne hk]
    exact h.at_ t u hu
theorem Fits.put_none (h : Fits N D env a) (v : Value) : Fits N D env (a.put none v) := h
/-- The known slots of the one are known in the other. -/
def Sub (env' env : Env) : Prop := ∀ t v, find env' t = some v → find env t = some v
theorem Sub.nil {env : Env} : Sub [] env := fun _ _ h => by cases h
theorem Sub.cons {env' env : Env} {t : Nat} {v : Value} (h : find env t = some v) (hs : Sub env' env) : Sub ((t, v) :: env') env := fun k u hu => by
  by_cases hk : t = k
  · subst hk
    rw [find_cons_same] at hu
    cases hu
    exact h
  · rw [find_cons_ne hk] at hu
    exact hs k u hu
theorem Fits.sub (h : Fits N D env a) {env' : Env} (hs : Sub env' env) : Fits N D env' a := ⟨h.defs, h.size, fun t v hv => h.at_ t v (hs t v hv)⟩
end fits
/-- Block b of the list is o; with o' for it the list is H'. -/
inductive At : Hp → Nat → Obj → Obj → Hp → Prop where
  | here {H : Hp} {b : Nat} {o o' : Obj} : At ((b, o) :: H) b o o' ((b, o') :: H)
  | there {H H' : Hp} {x : Nat × Obj} {b : Nat} {o o' : Obj} (h : At H b o o' H') : At (x :: H) b o o' (x :: H')
/-- Block b of the list is o; without it the list is H'. -/
inductive Del : Hp → Nat → Obj → Hp → Prop where
  | here {H : Hp} {b : Nat} {o : Obj} : Del ((b, o) :: H) b o H
  | there {H H' : Hp} {x : Nat × Obj} {b : Nat} {o : Obj} (h : Del H b o H') : Del (x :: H) b o (x :: H')
/-- The list H' is H, without some blocks. -/
inductive Fewer : Hp → Hp → Prop where
  | nil {H : Hp} : Fewer [] H
  | keep {H' H : Hp} {b : Nat} {o' o : Obj} (ho : o' = o) (h : Fewer H' H) : Fewer ((b, o') :: H') ((b, o) :: H)
  | drop {H' H : Hp} {x : Nat × Obj} (h : Fewer H' H) : Fewer H' (x :: H)
  | pick {H' H Hr : Hp} {b : Nat} {o' o : Obj} (ho : o' = o) (hd : Del H b o Hr) (h : Fewer H' Hr) : Fewer ((b, o') :: H') H
/-- What the walk is measured against: a world, and the blocks of it that may turn. -/
structure Base where
  w : World
  bs : List Nat
/-- Below B only the blocks bs have turned. -/
structure Chg (B : Nat) (bs : List Nat) (w0 w : World) : Prop where
  os : w.os = w0.os
  tape : w.tape = w0.tape
  output : w.output = w0.output
  size : w0.heap.size ≤ w.heap.size
  block : ∀ k, k < B → k ∉ bs → w.heap[k]? = w0.heap[k]?
structure Mem (B : Nat) (w0 : Base) (H : Hp) (w : World) : Prop where
  room : B ≤ w0.w.heap.size
  chg : Chg B w0.bs w0.w w
  own : ∀ p ∈ H, (B ≤ p.1 ∨ p.1 ∈ w0.bs) ∧ w.heap[p.1]? = some p.2
  apart : H.Pairwise (fun p q => p.1 ≠ q.1)
theorem At.mem {H H' : Hp} {b : Nat} {o o' : Obj} (h : At H b o o' H') : (b, o) ∈ H := by
  induction h with
  | here => exact .head _
  | there _ ih => exact .tail _ ih
theorem At.fst {H H' : Hp} {b : Nat} {o o' : Obj} (h : At H b o o' H') : H'.map (·.1) = H.map (·.1) := by
  induction h with
  | here => rfl
  | there _ ih => simp [ih]
theorem At.new {H H' : Hp} {b : Nat} {o o' : Obj} (h : At H b o o' H') : ∀ p ∈ H', p = (b, o') ∨ (p ∈ H ∧ (H.Pairwise (fun p q => p.1 ≠ q.1) → p.1 ≠ b)) := by
  induction h with
  | here =>
    intro p hp
    rcases List.mem_cons.1 hp with rfl | hp
    · exact .inl rfl
    · exact .inr ⟨.tail _ hp, fun hpw => Ne.symm ((List.pairwise_cons.1 hpw).1 p hp)⟩
  | @there H H' x b o o' h ih =>
    intro p hp
    rcases List.mem_cons.1 hp with rfl | hp
    · exact .inr ⟨.head _, fun hpw => (List.pairwise_cons.1 hpw).1 _ h.mem⟩
    · rcases ih p hp with e | ⟨hm, hn⟩
      · exact .inl e
      · exact .inr ⟨.tail _ hm, fun hpw => hn (List.pairwise_cons.1 hpw).2⟩
theorem Del.sub {H H' : Hp} {b : Nat} {o : Obj} (h : Del H b o H') : H'.Sublist H := by
  induction h with
  | here => exact List.sublist_cons_self _ _
  | there _ ih => exact ih.cons_cons _
theorem Del.mem {H H' : Hp} {b : Nat} {o : Obj} (h : Del H b o H') : (b, o) ∈ H := by
  induction h with
  | here => exact .head _
  | there _ ih => exact .tail _ ih
theorem Del.ne {H H' : Hp} {b : Nat} {o : Obj} (h : Del H b o H') (hp : H.Pairwise (fun p q => p.1 ≠ q.1)) : ∀ p ∈ H', p.1 ≠ b := by
  induction h with
  | here => exact fun p hm => Ne.symm ((List.pairwise_cons.1 hp).1 p hm)
  | @there H H' x b o h ih =>
    intro p hm
    rcases List.mem_cons.1 hm with rfl | hm
    · exact (List.pairwise_cons.1 hp).1 _ h.mem
    · exact ih (List.pairwise_cons.1 hp).2 p hm
theorem Fewer.mem {H H' : Hp} (h : Fewer H' H) : ∀ p ∈ H', p ∈ H := by
  induction h with
  | nil => exact fun p hp => (by cases hp)
  | keep ho _ ih =>
    subst ho
    intro p hp
    rcases List.mem_cons.1 hp with rfl | hp
    · exact .head _
    · exact .tail _ (ih p hp)
  | drop _ ih => exact fun p hp => .tail _ (ih p hp)
  | pick ho hd _ ih =>
    subst ho
    intro p hp
    rcases List.mem_cons.1 hp with rfl | hp
    · exact hd.mem
    · exact hd.sub.subset (ih p hp)
theorem Fewer.apart {H H' : Hp} (h : Fewer H' H) : H.Pairwise (fun p q => p.1 ≠ q.1) → H'.Pairwise (fun p q => p.1 ≠ q.1) := by
  induction h with
  | nil => exact fun _ => List.Pairwise.nil
  | keep ho h ih =>
    subst ho
    intro hp
    have hp' := List.pairwise_cons.1 hp
    exact List.pairwise_cons.2 ⟨fun p hm => hp'.1 p (h.mem p hm), ih hp'.2⟩
  | drop _ ih => exact fun hp => ih (List.pairwise_cons.1 hp).2
  | pick ho hd h ih =>
    subst ho
    intro hp
    exact List.pairwise_cons.2 ⟨fun p hm => Ne.symm (hd.ne hp p (h.mem p hm)), ih (List.Pairwise.sublist hd.sub hp)⟩
theorem Fewer.refl : ∀ (H : Hp), Fewer H H
  | [] => .nil
  | (_, _) :: r => .keep rfl (Fewer.refl r)
section mem
variable {B : Nat} {w0 : Base} {w : World} {H H' : Hp}
theorem Chg.refl (B : Nat) (bs : List Nat) (w : World) : Chg B bs w w := ⟨rfl, rfl, rfl, Nat.le_refl _, fun _ _ _ => rfl⟩
theorem Mem.start (w : World) : Mem w.heap.size ⟨w, []⟩ [] w := ⟨Nat.le_refl _, Chg.refl _ _ _, fun _ h => (by cases h), List.Pairwise.nil⟩
theorem Mem.below {w0 : World} (m : Mem B ⟨w0, []⟩ H w) : Below B w0 w := ⟨m.chg.os, m.chg.tape, m.chg.output, m.chg.size, fun k hk => m.chg.block k hk (by simp)⟩
theorem Mem.fewer (m : Mem B w0 H w) (h : Fewer H' H) : Mem B w0 H' w := ⟨m.room, m.chg, fun p hp => m.own p (h.mem p hp), h.apart m.apart⟩
theorem Mem.del {b : Nat} {o : Obj} (m : Mem B w0 H w) (h : Del H b o H') : Mem B w0 H' w := ⟨m.room, m.chg, fun p hp => m.own p (h.sub.subset hp), List.Pairwise.sublist h.sub m.apart⟩
theorem Mem.lt (m : Mem B w0 H w) {p : Nat × Obj} (hp : p ∈ H) : p.1 < w.heap.size := (Array.getElem?_eq_some_iff.1 (m.own p hp).2).1
theorem Mem.at_ (m : Mem B w0 H w) {b : Nat} {o o' : Obj} (h : At H b o o' H') : w.heap[b]? = some o := (m.own _ h.mem).2
/-- A step that leaves alone all that is not of the list, below the heap's end. -/
theorem Chg.step (c : Chg B w0.bs w0.w w) (hB : B ≤ w0.w.heap.size) {w' : World} (hos : w'.os = w.os) (ht : w'.tape = w.tape) (hout : w'.output = w.output) (hsz : w.heap.size ≤ w'.heap.size) (hb : ∀ k, k < B → k ∉ w0.bs → w'.heap[k]? = w.heap[k]?) : Chg B w0.bs w0.w w' :=
  ⟨hos.trans c.os, ht.trans c.tape, hout.trans c.output, Nat.le_trans c.size hsz, fun k hk hn => (hb k hk hn).trans (c.block k hk hn)⟩
/-- A new block, whatever it is. -/
theorem Mem.alloc (m : Mem B w0 H w) (hB : B ≤ w0.w.heap.size) (o : Obj) : Mem B w0 ((w.heap.size, o) :: H) (w.alloc o) := by
  have hb : B ≤ w.heap.size := Nat.le_trans hB m.chg.size
  refine ⟨m.room, m.chg.step hB rfl rfl rfl (by simp) (fun k hk _ => Below.heap_alloc w o k (by omega)), fun p hp => ?_, List.pairwise_cons.2 ⟨fun p hp => Nat.ne_of_gt (m.lt hp), m.apart⟩⟩
  rcases List.mem_cons.1 hp with rfl | hp
  · exact ⟨.inl hb, heap_alloc_new w o⟩
  · exact ⟨(m.own p hp).1, (Below.heap_alloc w o p.1 (m.lt hp)).trans (m.own p hp).2⟩
theorem Mem.drew (m : Mem B w0 H w) : Mem B w0 H w.drew := ⟨m.room, ⟨m.chg.os, m.chg.tape, m.chg.output, m.chg.size, m.chg.block⟩, m.own, m.apart⟩
/-- One block has turned. -/
theorem Mem.turn (m : Mem B w0 H w) {b : Nat} {o o' : Obj} (h : At H b o o' H') {w' : World} (hos : w'.os = w.os) (ht : w'.tape = w.tape) (hout : w'.output = w.output)
    (hsz : w.heap.size ≤ w'.heap.size) (hb : w'.heap[b]? = some o') (hoth : ∀ k, k < w.heap.size → k ≠ b → w'.heap[k]? = w.heap[k]?) : Mem B w0 H' w' := by
  have hB := (m.own _ h.mem).1
  refine ⟨m.room, m.chg.step m.room hos ht hout hsz (fun k hk hn => hoth k (Nat.lt_of_lt_of_le hk (Nat.le_trans m.room m.chg.size)) fun e => ?_), fun p hp => ?_, ?_⟩
  · subst e
    rcases hB with h | h
    · simp only at h; omega
    · exact hn h
  · rcases h.new p hp with rfl | ⟨hm, hn⟩
    · exact ⟨hB, hb⟩
    · exact ⟨(m.own p hm).1, (hoth p.1 (m.lt hm) (hn m.apart)).trans (m.own p hm).2⟩
  · have h1 := m.apart
    have e := h.fst
    have h2 : (H.map (·.1)).Pairwise (· ≠ ·) := List.pairwise_map.2 h1
    rw [← e] at h2
    exact List.pairwise_map.1 h2
/-- A callee that leaves alone what was there. -/
theorem Mem.call (m : Mem B w0 H w) (hB : B ≤ w0.w.heap.size) {w' : World} (hb : Below w.heap.size w w') : Mem B w0 H w' := by
  have h1 : B ≤ w.heap.size := Nat.le_trans hB m.chg.size
  exact ⟨m.room, m.chg.step hB hb.os hb.tape hb.output hb.size (fun k hk _ => hb.block k (by omega)), fun p hp => ⟨(m.own p hp).1, (hb.block p.1 (m.lt hp)).trans (m.own p hp).2⟩, m.apart⟩
/-- .. and hands back a block of its own. -/
theorem Mem.call1 (m : Mem B w0 H w) (hB : B ≤ w0.w.heap.size) {w' : World} (hb : Below w.heap.size w w') {g : Nat} {o : Obj} (hg : w.heap.size ≤ g) (ho : w'.heap[g]? = some o) : Mem B w0 ((g, o) :: H) w' := by
  have m' := m.call hB hb
  refine ⟨m'.room, m'.chg, fun p hp => ?_, List.pairwise_cons.2 ⟨fun p hp => ?_, m'.apart⟩⟩
  · rcases List.mem_cons.1 hp with rfl | hp
    · exact ⟨.inl (Nat.le_trans (Nat.le_trans hB m.chg.size) hg), ho⟩
    · exact m'.own p hp
  · have := m.lt hp; show g ≠ p.1; omega
theorem Mem.cell (m : Mem B w0 H w) {b : Nat} {cs : List Value} {t : TypeId} {fr : Nat × Nat} (h : (b, Obj.cells cs.toArray t fr) ∈ H) (j : Nat) : w.cell? ⟨b, j, none⟩ = cs[j]? := by
  have := (m.own _ h).2
  simp only at this
  rw [cell_of_row w b j _ t fr this]
  simp
theorem Mem.base (m : Mem B w0 H w) {p : Addr} (hp : p.block < B) (hn : p.block ∉ w0.bs) : w.cell? p = w0.w.cell? p := World.cell?_of_block (w := w0.w) (m.chg.block p.block hp hn)
end mem
/-! ### The judgements -/
section judge
variable (P : Program) (B : Nat) (w0 : Base) (N : Nat) (D : List Deferred)
def Sx (c : Code) (env : Env) (H : Hp) (Q : Exit → Act → World → Prop) : Prop := ∀ a w, Fits N D env a → Mem B w0 H w → c.wp P Q a w
def Rx (ops : Array Oper) (l : List Oper) (env : Env) (H : Hp) (Q : Exit → Act → World → Prop) : Prop := ∀ a w, Fits N D env a → Mem B w0 H w → wpList P ops Q l a w
def Ex (env : Env) (H : Hp) (K : Act → World → Prop) : Prop := ∀ a w, Fits N D env a → Mem B w0 H w → K a w
/-- In a region whose order is drawn: S holds behind each operation. -/
def Dx (ops : Array Oper) (S : World → Prop) (fuel : Nat) (listed : Array Bool) (env : Env) (H : Hp) (Q : Exit → Act → World → Prop) : Prop :=
  ∀ a w, Fits N D env a → Mem B w0 H w → S w → wpAnyH P .any ops Q S fuel listed a w
/-- One operation, from this state on, comes to T. -/
def Op1 (o : Oper) (env : Env) (H : Hp) (T : Env → Hp → Prop) : Prop :=
  ∀ (K : Act → World → Prop) (Q : Exit → Act → World → Prop), (∀ env' H', T env' H' → Ex B w0 N D env' H' K) → ∀ a w, Fits N D env a → Mem B w0 H w → o.wp P a w K Q
/-- One operation yields v and leaves the world. -/
def Pure1 (o : Oper) (env : Env) (H : Hp) (v : Value) : Prop := ∀ a w, Fits N D env a → Mem B w0 H w → (execOp a.eval o).run P w = .ok (.value v) w
end judge
section rules
variable {P : Program} {B : Nat} {w0 : Base} {N : Nat} {D : List Deferred} {env : Env} {H : Hp} {Q : Exit → Act → World → Prop}
theorem S_seq {x y : Code} (h : Sx P B w0 N D x env H (Exit.then (y.wp P Q) Q)) : Sx P B w0 N D (.seq x y) env H Q := fun a w hf hm => wp_seq (h a w hf hm)
theorem E_seq {y : Code} {Q' : Exit → Act → World → Prop} (h : Sx P B w0 N D y env H Q) : Ex B w0 N D env H (Exit.then (y.wp P Q) Q' .normal) := h
theorem S_skip (h : Ex B w0 N D env H (Q .normal)) : Sx P B w0 N D .skip env H Q := fun a w hf hm => wp_skip (h a w hf hm)
theorem S_exit {id : Nat} (h : Ex B w0 N D env H (Q (.exit id))) : Sx P B w0 N D (.exit id) env H Q := fun a w hf hm => wp_exit (h a w hf hm)
theorem S_ret (h : Ex B w0 N D env H (Q .ret)) : Sx P B w0 N D .ret env H Q := fun a w hf hm => wp_ret (h a w hf hm)
theorem S_block {id : Nat} {c : Code} (h : Sx P B w0 N D c env H (Exit.inBlock id Q)) : Sx P B w0 N D (.block id c) env H Q := fun a w hf hm => wp_block (h a w hf hm)
theorem S_cond {c : Operand} {x y : Code} {t : Bool} (hc : look env c = some (.bool t)) (h1 : t = true → Sx P B w0 N D x env H Q) (h2 : t = false → Sx P B w0 N D y env H Q) : Sx P B w0 N D (.cond c x y) env H Q :=
  fun a w hf hm => wp_cond_split (hf.eval hc) (fun ht => h1 ht a w hf hm) (fun ht => h2 ht a w hf hm)
theorem S_yes {c : Operand} {x y : Code} {t : Bool} (hc : look env c = some (.bool t)) (ht : t = true) (h : Sx P B w0 N D x env H Q) : Sx P B w0 N D (.cond c x y) env H Q :=
  S_cond hc (fun _ => h) (fun e => by rw [ht] at e; cases e)
theorem S_no {c : Operand} {x y : Code} {t : Bool} (hc : look env c = some (.bool t)) (ht : t = false) (h : Sx P B w0 N D y env H Q) : Sx P B w0 N D (.cond c x y) env H Q :=
  S_cond hc (fun e => by rw [ht] at e; cases e) (fun _ => h)
theorem S_region {id : Nat} {l : List Oper} (h : Rx P B w0 N D l.toArray l env H Q) : Sx P B w0 N D (.region id l.toArray false) env H Q := fun a w hf hm => wp_region_lit (h a w hf hm)
theorem S_fewer {c : Code} {env' : Env} {H' : Hp} (hs : Sub env' env) (hh : Fewer H' H) (h : Sx P B w0 N D c env' H' Q) : Sx P B w0 N D c env H Q := fun a w hf hm => h a w (hf.sub hs) (hm.fewer hh)
theorem E_fewer {K : Act → World → Prop} {env' : Env} {H' : Hp} (hs : Sub env' env) (hh : Fewer H' H) (h : Ex B w0 N D env' H' K) : Ex B w0 N D env H K := fun a w hf hm => h a w (hf.sub hs) (hm.fewer hh)
/-- What stands behind a statement is shown from a middle state. -/
def Mid (B : Nat) (w0 : Base) (N : Nat) (D : List Deferred) (env' : Env) (H' : Hp) (e : Exit) (a : Act) (w : World) : Prop := e = .normal ∧ Fits N D env' a ∧ Mem B w0 H' w
theorem S_cut {c : Code} (env' : Env) (H' : Hp) (h1 : Sx P B w0 N D c env H (Mid B w0 N D env' H')) (h2 : Ex B w0 N D env' H' (Q .normal)) : Sx P B w0 N D c env H Q :=
  fun a w hf hm => wp_mono (h1 a w hf hm) (fun e a' w' ⟨he, hf', hm'⟩ => by subst he; exact h2 a' w' hf' hm')
theorem E_mid {env' : Env} {H' : Hp} (hs : Sub env' env) (hh : Fewer H' H) : Ex B w0 N D env H (Mid B w0 N D env' H' .normal) := fun _ _ hf hm => ⟨rfl, hf.sub hs, hm.fewer hh⟩
def MidE {σ : Type} (B : Nat) (w0 : Base) (N : Nat) (D : List Deferred) (envI : σ → Env) (HI : σ → Hp) (I : σ → Prop) (e : Exit) (a : Act) (w : World) : Prop := e = .normal ∧ ∃ s, I s ∧ Fits N D (envI s) a ∧ Mem B w0 (HI s) w
theorem S_cutE {c : Code} {σ : Type} (envI : σ → Env) (HI : σ → Hp) (I : σ → Prop) (h1 : Sx P B w0 N D c env H (MidE B w0 N D envI HI I)) (h2 : ∀ s, I s → Ex B w0 N D (envI s) (HI s) (Q .normal)) : Sx P B w0 N D c env H Q :=
  fun a w hf hm => wp_mono (h1 a w hf hm) (fun e a' w' ⟨he, s, hI, hf', hm'⟩ => by subst he; exact h2 s hI a' w' hf' hm')
theorem E_midE {σ : Type} {envI : σ → Env} {HI : σ → Hp} {I : σ → Prop} (s : σ) (hI : I s) (hs : Sub (envI s) env) (hh : Fewer (HI s) H) : Ex B w0 N D env H (MidE B w0 N D envI HI I .normal) := fun _ _ hf hm => ⟨rfl, s, hI, hf.sub hs, hm.fewer hh⟩
theorem S_loop {c : Code} {σ : Type} (envI : σ → Env) (HI : σ → Hp) (I : σ → Prop) (μ : σ → Nat) (s0 : σ) (h0 : I s0) (hs : Sub (envI s0) env) (hh : Fewer (HI s0) H)
    (round : ∀ s, I s → Sx P B w0 N D c (envI s) (HI s) (Exit.then (fun a w => ∃ s', I s' ∧ μ s' < μ s ∧ Fits N D (envI s') a ∧ Mem B w0 (HI s') w) Q)) : Sx P B w0 N D (.loop c) env H Q := by
  intro a w hf hm
  refine wp_loop_ghost (fun n a w => ∃ s, I s ∧ μ s = n ∧ Fits N D (envI s) a ∧ Mem B w0 (HI s) w) (μ s0) ⟨s0, h0, rfl, hf.sub hs, hm.fewer hh⟩ ?_
  rintro n a w ⟨s, hI, rfl, hf, hm⟩
  refine wp_mono (round s hI a w hf hm) ?_
  rintro e a' w' hq
  cases e with
  | normal => obtain ⟨s', hI', hlt, hf', hm'⟩ := hq; exact ⟨μ s', hlt, s', hI', rfl, hf', hm'⟩
  | _ => exact hq
/-- The end of a round. -/
theorem E_round {σ : Type} {envI : σ → Env} {HI : σ → Hp} {I : σ → Prop} {μ : σ → Nat} {s : σ} (s' : σ) (hI : I s') (hlt : μ s' < μ s) (hs : Sub (envI s') env) (hh : Fewer (HI s') H) :
    Ex B w0 N D env H (Exit.then (fun a w => ∃ s', I s' ∧ μ s' < μ s ∧ Fits N D (envI s') a ∧ Mem B w0 (HI s') w) Q .normal) := fun _ _ hf hm => ⟨s', hI, hlt, hf.sub hs, hm.fewer hh⟩
theorem E_then_exit {K : Act → World → Prop} {id : Nat} (h : Ex B w0 N D env H (Q (.exit id))) : Ex B w0 N D env H (Exit.then K Q (.exit id)) := h
theorem E_then_ret {K : Act → World → Prop} (h : Ex B w0 N D env H (Q .ret)) : Ex B w0 N D env H (Exit.then K Q .ret) := h
theorem E_block_normal {id : Nat} (h : Ex B w0 N D env H (Q .normal)) : Ex B w0 N D env H (Exit.inBlock id Q .normal) := h
theorem E_block_ret {id : Nat} (h : Ex B w0 N D env H (Q .ret)) : Ex B w0 N D env H (Exit.inBlock id Q .ret) := h
theorem E_block_exit {id : Nat} (h : Ex B w0 N D env H (Q .normal)) : Ex B w0 N D env H (Exit.inBlock id Q (.exit id)) := by
  intro a w hf hm; simp only [Exit.inBlock, if_true]; exact h a w hf hm
theorem E_block_exit_other {id id' : Nat} (hne : Nat.beq id' id = false) (h : Ex B w0 N D env H (Q (.exit id'))) : Ex B w0 N D env H (Exit.inBlock id Q (.exit id')) := by
  intro a w hf hm
  have : id' ≠ id := fun e => by subst e; rw [Nat.beq_refl] at hne; cases hne
  simp only [Exit.inBlock, this, if_false]; exact h a w hf hm
/-- What stands behind a panic does not look at the slots. -/
def Calm (Q : Exit → Act → World → Prop) (u : Option Tmp) : Prop := ∀ v c a w, Q (.panic c) (a.put u v) w → Q (.panic c) a w
theorem calm_mid {u : Option Tmp} {env' : Env} {H' : Hp} : Calm (Mid B w0 N D env' H') u := fun _ _ _ _ h => by cases h.1
theorem calm_midE {σ : Type} {u : Option Tmp} {envI : σ → Env} {HI : σ → Hp} {I : σ → Prop} : Calm (MidE B w0 N D envI HI I) u := fun _ _ _ _ h => by cases h.1
/-! ### Regions -/
theorem R_nil {ops : Array Oper} (h : Ex B w0 N D env H (Q .normal)) : Rx P B w0 N D ops [] env H Q := h
theorem R_cons {ops : Array Oper} {o : Oper} {rest : List Oper} (hg : o.guard = none) (h : Op1 P B w0 N D o env H (fun env' H' => Rx P B w0 N D ops rest env' H' Q)) : Rx P B w0 N D ops (o :: rest) env H Q :=
  fun a w hf hm => wpList_plain hg fun K hK => h K Q (fun _ _ hR a w hf hm => hK a w (hR a w hf hm)) a w hf hm
/-- A guard that says yes | no; 'od' is the slot of the operation that it names. -/
theorem yielded_of {ops : Array Oper} {j d : Nat} {a : Act} {b : Bool} (hj : (ops[j]?).bind (·.dst) = some d) (hf : Fits N D env a) (hd : find env d = some (.bool b)) : yielded ops a.tmps j = some b := by
  have := hf.at_ d _ hd
  simp [yielded, hj, this]
theorem R_guard {ops : Array Oper} {o : Oper} {rest : List Oper} {j d : Nat} {want : Bool} (hg : o.guard = some (j, want)) (hj : (ops[j]?).bind (·.dst) = some d) (hd : find env d = some (.bool want))
    (h : Op1 P B w0 N D o env H (fun env' H' => Rx P B w0 N D ops rest env' H' Q)) : Rx P B w0 N D ops (o :: rest) env H Q :=
  fun a w hf hm => wpList_step fun K hK => by
    rw [if_pos (by simp [Region.wanted, hg, yielded_of hj hf hd])]
    exact h K Q (fun _ _ hR a w hf hm => hK a w (hR a w hf hm)) a w hf hm
theorem R_pass {ops : Array Oper} {op : Op} {ty : TypeId} {pos : String} {after : Array Edge} {rest : List Oper} {j d dst : Nat} {want b : Bool} (hj : (ops[j]?).bind (·.dst) = some d) (hd : find env d = some (.bool b)) (hne : b = !want)
    (hN : Nat.blt dst N = true) (h : Rx P B w0 N D ops rest ((dst, undef) :: env) H Q) : Rx P B w0 N D ops (⟨some dst, op, ty, pos, after, some (j, want)⟩ :: rest) env H Q :=
  fun a w hf hm => wpList_step fun K hK => by
    rw [if_neg (by simp [Region.wanted, yielded_of hj hf hd, hne])]
    exact hK _ _ (h _ w (hf.put hN undef) hm)
/-! ### A region whose order is drawn -/
theorem S_drawn {id : Nat} {l : List Oper} {H₀ : Hp} (hm0 : P.follows .mixedOrders = true) (hh : Fewer H₀ H)
    (h : Dx P B w0 N D l.toArray (Mem B w0 H₀) l.length (Array.replicate l.length false) env H Q) : Sx P B w0 N D (.region id l.toArray true) env H Q := by
  intro a w hf hm
  refine wp_region_held (S := Mem B w0 H₀) hm0 ?_
  have := h a w.drew hf hm.drew (hm.drew.fewer hh)
  simpa using this
theorem D_done {ops : Array Oper} {S : World → Prop} {fuel : Nat} {listed : Array Bool} (hr : Region.ready .any ops listed = []) (h : Ex B w0 N D env H (Q .normal)) : Dx P B w0 N D ops S fuel listed env H Q :=
  fun a w hf hm _ => wpAnyH_done hr (h a w hf hm) fuel
/-- An operation that yields in every world that meets S may be taken first. -/
theorem D_take {ops : Array Oper} {fuel : Nat} {listed : Array Bool} {H₀ : Hp} (i : Nat) {d : Nat} {op : Op} {ty : TypeId} {pos : String} {after : Array Edge} {v : Value} (hi : ops[i]? = some ⟨some d, op, ty, pos, after, none⟩)
    (hs : Region.noSelect ops = true) (hf : Region.free .any ops listed i = true) (hr : (Region.ready .any ops listed).contains i = true)
    (hQ : Calm Q (some d)) (hp : Pure1 P B w0 N D ⟨some d, op, ty, pos, after, none⟩ env H₀ v) (hN : Nat.blt d N = true)
    (h : Dx P B w0 N D ops (Mem B w0 H₀) fuel (listed.setIfInBounds i true) ((d, v) :: env) H Q) : Dx P B w0 N D ops (Mem B w0 H₀) (fuel + 1) listed env H Q :=
  fun a w hfa hm hS => wpAnyH_take hi hs hf hr (hQ _) (.inl ⟨rfl, fun w' hS' => hp a w' hfa hS'⟩) hS (h _ w (hfa.put hN v) hm hS)
theorem D_take_guard {ops : Array Oper} {fuel : Nat} {listed : Array Bool} {H₀ : Hp} (i : Nat) {d : Nat} {op : Op} {ty : TypeId} {pos : String} {after : Array Edge} {v : Value} {j dj : Nat} {want : Bool} (hi : ops[i]? = some ⟨some d, op, ty, pos, after, some (j, want)⟩)
    (hs : Region.noSelect ops = true) (hf : Region.free .any ops listed i = true) (hr : (Region.ready .any ops listed).contains i = true)
    (hQ : Calm Q (some d)) (hj : (ops[j]?).bind (·.dst) = some dj) (hd : find env dj = some (.bool want)) (hp : Pure1 P B w0 N D ⟨some d, op, ty, pos, after, some (j, want)⟩ env H₀ v) (hN : Nat.blt d N = true)
    (h : Dx P B w0 N D ops (Mem B w0 H₀) fuel (listed.setIfInBounds i true) ((d, v) :: env) H Q) : Dx P B w0 N D ops (Mem B w0 H₀) (fuel + 1) listed env H Q :=
  fun a w hfa hm hS => wpAnyH_take hi hs hf hr (hQ _) (.inl ⟨by simp [Region.wanted, yielded_of hj hfa hd], fun w' hS' => hp a w' hfa hS'⟩) hS (h _ w (hfa.put hN v) hm hS)
/-- An operation whose guard says no. -/
theorem D_pass {ops : Array Oper} {fuel : Nat} {listed : Array Bool} {S : World → Prop} (i : Nat) {d : Nat} {op : Op} {ty : TypeId} {pos : String} {after : Array Edge} {j dj : Nat} {want b : Bool} (hi : ops[i]? = some ⟨some d, op, ty, pos, after, some (j, want)⟩)
    (hs : Region.noSelect ops = true) (hf : Region.free .any ops listed i = true) (hr : (Region.ready .any ops listed).contains i = true)
    (hQ : Calm Q (some d)) (hj : (ops[j]?).bind (·.dst) = some dj) (hd : find env dj = some (.bool b)) (hne : b = !want) (hN : Nat.blt d N = true)
    (h : Dx P B w0 N D ops S fuel (listed.setIfInBounds i true) ((d, undef) :: env) H Q) : Dx P B w0 N D ops S (fuel + 1) listed env H Q :=
  fun a w hfa hm hS => wpAnyH_take hi hs hf hr (hQ _) (.inr ⟨by simp [Region.wanted, yielded_of hj hfa hd, hne], rfl⟩) hS (h _ w (hfa.put hN undef) hm hS)
/-- Only one operation may come up: it does. -/
theorem D_only {ops : Array Oper} {fuel : Nat} {listed : Array Bool} {H₀ : Hp} (i : Nat) {o : Oper} (hi : ops[i]? = some o) (hr : Region.ready .any ops listed = [i]) (hg : o.guard = none)
    (h : Op1 P B w0 N D o env H (fun env' H' => Fewer H₀ H' ∧ Dx P B w0 N D ops (Mem B w0 H₀) fuel (listed.setIfInBounds i true) env' H' Q)) : Dx P B w0 N D ops (Mem B w0 H₀) (fuel + 1) listed env H Q :=
  fun a w hfa hm _ => wpAnyH_all hr (by simp) fun j hj => by
    obtain rfl : j = i := by simpa using hj
    exact wpOp_step hi fun K' hK' => by
      rw [if_pos (by simp [Region.wanted, hg])]
      exact h K' Q (fun env' H' ⟨hF, hD⟩ a w hf hm => hK' a w ⟨hm.fewer hF, hD a w hf hm (hm.fewer hF)⟩) a w hfa hm
theorem D_only_guard {ops : Array Oper} {fuel : Nat} {listed : Array Bool} {H₀ : Hp} (i : Nat) {o : Oper} {j dj : Nat} {want : Bool} (hi : ops[i]? = some o) (hr : Region.ready .any ops listed = [i]) (hg : o.guard = some (j, want)) (hj : (ops[j]?).bind (·.dst) = some dj) (hd : find env dj = some (.bool want))
    (h : Op1 P B w0 N D o env H (fun env' H' => Fewer H₀ H' ∧ Dx P B w0 N D ops (Mem B w0 H₀) fuel (listed.setIfInBounds i true) env' H' Q)) : Dx P B w0 N D ops (Mem B w0 H₀) (fuel + 1) listed env H Q :=
  fun a w hfa hm _ => wpAnyH_all hr (by simp) fun k hk => by
    obtain rfl : k = i := by simpa using hk
    exact wpOp_step hi fun K' hK' => by
      rw [if_pos (by simp [Region.wanted, hg, yielded_of hj hfa hd])]
      exact h K' Q (fun env' H' ⟨hF, hD⟩ a w hf hm => hK' a w ⟨hm.fewer hF, hD a w hf hm (hm.fewer hF)⟩) a w hfa hm
/-! ### A region whose order is drawn, whose operations yield one value each and keep all known blocks: by the order of the text -/
def Still1 (P : Program) (B : Nat) (w0 : Base) (N : Nat) (D : List Deferred) (o : Oper) (env : Env) (H : Hp) (v : Value) : Prop := ∀ a w, Fits N D env a → Mem B w0 H w → o.quietAt P a (Mem B w0 H) w v
def Qx (P : Program) (B : Nat) (w0 : Base) (N : Nat) (D : List Deferred) (ops : Array Oper) (l : List Oper) (env : Env) (H : Hp) (Q : Exit → Act → World → Prop) : Prop :=
  ∀ a, Fits N D env a → wpQuiet P ops (Mem B w0 H) (fun a' => ∀ w', Mem B w0 H w' → Q .normal a' w') l a
theorem Still1.of_pure {o : Oper} {v : Value} (h : Pure1 P B w0 N D o env H v) : Still1 P B w0 N D o env H v := fun a w hf hm => by
  unfold Oper.quietAt
  rw [h a w hf hm]
  exact ⟨rfl, rfl⟩
theorem S_quiet {id : Nat} {l : List Oper} (hm0 : P.follows .mixedOrders = true) (hB : Region.lexB .any l.toArray = true) (h : Qx P B w0 N D l.toArray l env H Q) : Sx P B w0 N D (.region id l.toArray true) env H Q :=
  fun a w hf hm => wp_region_quiet (C := Mem B w0 H) hm0 hB hm.drew (by simpa using h a hf)
theorem Q_nil {ops : Array Oper} (h : Ex B w0 N D env H (Q .normal)) : Qx P B w0 N D ops [] env H Q := fun a hf => wpQuiet_nil fun w' hm => h a w' hf hm
theorem Q_cons {ops : Array Oper} {op : Op} {ty : TypeId} {pos : String} {after : Array Edge} {rest : List Oper} {d : Nat} {v : Value} (hs : Still1 P B w0 N D ⟨some d, op, ty, pos, after, none⟩ env H v) (hN : Nat.blt d N = true)
    (h : Qx P B w0 N D ops rest ((d, v) :: env) H Q) : Qx P B w0 N D ops (⟨some d, op, ty, pos, after, none⟩ :: rest) env H Q :=
  fun a hf => wpQuiet_step fun K hK => by
    rw [if_pos (by simp [Region.wanted])]
    exact ⟨v, fun w hm => hs a w hf hm, hK _ (h _ (hf.put hN v))⟩
theorem Q_guard {ops : Array Oper} {op : Op} {ty : TypeId} {pos : String} {after : Array Edge} {rest : List Oper} {j dj d : Nat} {want : Bool} {v : Value} (hj : (ops[j]?).bind (·.dst) = some dj) (hd : find env dj = some (.bool want))
    (hs : Still1 P B w0 N D ⟨some d, op, ty, pos, after, some (j, want)⟩ env H v) (hN : Nat.blt d N = true)
    (h : Qx P B w0 N D ops rest ((d, v) :: env) H Q) : Qx P B w0 N D ops (⟨some d, op, ty, pos, after, some (j, want)⟩ :: rest) env H Q :=
  fun a hf => wpQuiet_step fun K hK => by
    rw [if_pos (by simp [Region.wanted, yielded_of hj hf hd])]
    exact ⟨v, fun w hm => hs a w hf hm, hK _ (h _ (hf.put hN v))⟩
theorem Q_pass {ops : Array Oper} {op : Op} {ty : TypeId} {pos : String} {after : Array Edge} {rest : List Oper} {j dj d : Nat} {want b : Bool} (hj : (ops[j]?).bind (·.dst) = some dj) (hd : find env dj = some (.bool b)) (hne : b = !want) (hN : Nat.blt d N = true)
    (h : Qx P B w0 N D ops rest ((d, undef) :: env) H Q) : Qx P B w0 N D ops (⟨some d, op, ty, pos, after, some (j, want)⟩ :: rest) env H Q :=
  fun a hf => wpQuiet_step fun K hK => by
    rw [if_neg (by simp [Region.wanted, yielded_of hj hf hd, hne])]
    exact hK _ (h _ (hf.put hN undef))
end rules
end Go.K
/-
  The operations, one law each, for the calculus of the first text. Plain theorems, over any program.
-/
namespace Go.K
open Go.RowKit
/-- A byte, a number of 32 bits, of 64 bits, as values; a natural number as an int. -/
def bv (b : UInt8) : Value := .int .u8 (b.toNat : Int)
def bytesV (xs : List UInt8) : List Value := xs.map bv
theorem bytesV_length (xs : List UInt8) : (bytesV xs).length = xs.length := by simp [bytesV]
theorem bytesV_get {xs : List UInt8} {j : Nat} (h : j < xs.length) : (bytesV xs)[j]? = some (.int .u8 ((xs.getD j 0).toNat : Int)) := by
  simp [bytesV, h, bv]
theorem bytesV_append (xs ys : List UInt8) : bytesV (xs ++ ys) = bytesV xs ++ bytesV ys := by simp [bytesV]
theorem bytesV_set (xs : List UInt8) (j : Nat) (b : UInt8) : (bytesV xs).set j (.int .u8 (b.toNat : Int)) = bytesV (xs.set j b) := by
  rw [bytesV, bytesV, List.map_set]; rfl
theorem ones_nil : ∀ u ∈ ([] : List Value), u.oneCell' = true := fun _ h => (by cases h)
theorem ones_cons {v : Value} {r : List Value} (h : v.oneCell' = true) (hs : ∀ u ∈ r, u.oneCell' = true) : ∀ u ∈ v :: r, u.oneCell' = true := fun u hu => by
  rcases List.mem_cons.1 hu with rfl | hu
  · exact h
  · exact hs u hu
theorem bytesV_one (xs : List UInt8) : ∀ v ∈ bytesV xs, v.oneCell' = true := by
  intro v hv
  obtain ⟨b, _, rfl⟩ := List.mem_map.1 hv
  rfl
/-! ### Types -/
section types
variable {P : Program}
theorem sizeOf_ok {t : TypeId} {n : Nat} (h : (P.info? t).map (·.size) = some n) (w : World) : (sizeOf t).run P w = .ok n w := by
  unfold sizeOf
  cases hq : P.info? t with
  | none => simp [hq] at h
  | some i =>
    have : i.size = n := by simpa [hq] using h
    simp [typeInfo, hq, this]
theorem isAgg_no {t : TypeId} {d : TypeDesc} (h : P.underlying t = some d) (hd : d.isRow = false) (w : World) : (isAgg t).run P w = .ok false w := by
  unfold isAgg
  rw [Sem.run_bind, run_underlying h w]
  cases d <;> simp_all
end types
/-- What a type is, as the operations ask it. -/
def Sc (P : Program) (t : TypeId) : Prop := ∃ d, P.underlying t = some d ∧ d.isRow = false ∧ (P.info? t).map (·.size) = some 1
def Row (P : Program) (t : TypeId) (n : Nat) : Prop := ∃ d, P.underlying t = some d ∧ d.isRow = true ∧ (P.info? t).map (·.size) = some n
def Arr (P : Program) (t : TypeId) (n : Nat) (e : TypeId) : Prop := P.underlying t = some (.array n e) ∧ Sc P e
def Slc (P : Program) (t : TypeId) (e : TypeId) : Prop := P.underlying t = some (.slice e) ∧ Sc P e
def Ik (P : Program) (t : TypeId) (k : IntKind) : Prop := P.underlying t = some (.int k)
/-! ### Numbers -/
theorem w_in_i64 {n : Int} (h : -9223372036854775808 ≤ n ∧ n ≤ 9223372036854775807) : IntKind.i64.wrap n = n := IntWalk.i64_in n h
theorem w_in_u64 {n : Int} (h : 0 ≤ n ∧ n ≤ 18446744073709551615) : IntKind.u64.wrap n = n := IntWalk.u64_in n h
theorem w_in_u32 {n : Int} (h : 0 ≤ n ∧ n ≤ 4294967295) : IntKind.u32.wrap n = n := IntWalk.u32_in n h
theorem w_in_u8 {n : Int} (h : 0 ≤ n ∧ n ≤ 255) : IntKind.u8.wrap n = n := IntWalk.u8_in n h
theorem b_lt (b : UInt8) : b.toNat < 256 := b.toNat_lt
theorem w_lt (b : UInt32) : b.toNat < 4294967296 := b.toNat_lt
theorem w8_u64 (b : UInt8) : IntKind.u64.wrap (b.toNat : Int) = (b.toNat : Int) := w_in_u64 (by have := b_lt b; omega)
theorem w8_u32 (b : UInt8) : IntKind.u32.wrap (b.toNat : Int) = ((b.toUInt32).toNat : Int) := by rw [w_in_u32 (by have := b_lt b; omega)]; simp
theorem w8_u32n (b : UInt8) : IntKind.u32.wrap (b.toNat : Int) = (b.toNat : Int) := w_in_u32 (by have := b_lt b; omega)
theorem w32_u64 (b : UInt32) : IntKind.u64.wrap (b.toNat : Int) = (b.toNat : Int) := w_in_u64 (by have := w_lt b; omega)
theorem ofInt_nat (n a : Nat) (h : a < 2 ^ n) : (BitVec.ofInt n (a : Int)).toNat = a := by
  rw [BitVec.ofInt_natCast, BitVec.toNat_ofNat, Nat.mod_eq_of_lt h]
theorem k8_xor (x y : UInt8) : bits .xor .u8 (x.toNat : Int) (y.toNat : Int) = ((x ^^^ y).toNat : Int) := by
  show IntKind.u8.wrap ((BitVec.ofInt 8 (x.toNat : Int) ^^^ BitVec.ofInt 8 (y.toNat : Int)).toNat : Int) = _
  rw [BitVec.toNat_xor, ofInt_nat 8 _ x.toNat_lt, ofInt_nat 8 _ y.toNat_lt, ← UInt8.toNat_xor]
  have := b_lt (x ^^^ y)
  exact w_in_u8 (by omega)
theorem nat_rem (x n : Nat) : (x : Int).tmod (n : Int) = ((x % n : Nat) : Int) := rfl
theorem nat_add_u64 {x y : Nat} (h : x + y ≤ 18446744073709551615) : IntKind.u64.wrap ((x : Int) + (y : Int)) = ((x + y : Nat) : Int) := w_in_u64 (by omega)
theorem shr_nat (a k : Nat) : (a : Int) / 2 ^ ((k : Int)).toNat = ((a / 2 ^ k : Nat) : Int) := by
  rw [Int.toNat_natCast, Int.natCast_ediv, Int.natCast_pow]; rfl
theorem shl_nat (a k : Nat) : (a : Int) * 2 ^ ((k : Int)).toNat = ((a * 2 ^ k : Nat) : Int) := by
  rw [Int.toNat_natCast, Int.natCast_mul, Int.natCast_pow]; rfl
theorem shl_nat_u64 (a k : Nat) (h : a * 2 ^ k ≤ 18446744073709551615) : IntKind.u64.wrap ((a : Int) * 2 ^ ((k : Int)).toNat) = ((a * 2 ^ k : Nat) : Int) := by
  rw [shl_nat]; exact w_in_u64 (by omega)
theorem u8_nat (n : Nat) : IntKind.u8.wrap (n : Int) = ((UInt8.ofNat n).toNat : Int) := by
  rw [IntKind.wrap_u8, UInt8.toNat_ofNat']; omega
theorem and16 (x : Nat) (h : x < 4294967296) : bits .and .u32 (x : Int) 65535 = ((x % 65536 : Nat) : Int) := by
  show IntKind.u32.wrap ((BitVec.ofInt 32 (x : Int) &&& BitVec.ofInt 32 ((65535 : Nat) : Int)).toNat : Int) = _
  rw [BitVec.toNat_and, ofInt_nat 32 _ h, ofInt_nat 32 65535 (by decide), show (65535 : Nat) = 2 ^ 16 - 1 from rfl, Nat.and_two_pow_sub_one_eq_mod]
  exact w_in_u32 (by omega)
theorem or_disj (a b : Nat) (ha : a < 281474976710656) (hb : b < 65536) : bits .or .u64 ((a * 65536 : Nat) : Int) (b : Int) = ((a * 65536 + b : Nat) : Int) := by
  show IntKind.u64.wrap ((BitVec.ofInt 64 ((a * 65536 : Nat) : Int) ||| BitVec.ofInt 64 (b : Int)).toNat : Int) = _
  rw [BitVec.toNat_or, ofInt_nat 64 _ (by omega), ofInt_nat 64 _ (by omega)]
  have h : a * 65536 ||| b = a * 65536 + b := by
    have := Nat.two_pow_add_eq_or_of_lt (i := 16) (b := b) (by omega) a
    rw [Nat.mul_comm a 65536]
    exact this.symm
  rw [h]
  exact w_in_u64 (by omega)
theorem nat_quo_u32 (x n : Nat) (h : x ≤ 4294967295) : IntKind.u32.wrap ((x : Int).tdiv (n : Int)) = ((x / n : Nat) : Int) := by
  have h1 : (x : Int).tdiv (n : Int) = ((x / n : Nat) : Int) := rfl
  rw [h1]
  have := Nat.div_le_self x n
  generalize x / n = q at *
  exact w_in_u32 (by omega)
theorem nat_quo_u64 (x n : Nat) (h : x ≤ 18446744073709551615) : IntKind.u64.wrap ((x : Int).tdiv (n : Int)) = ((x / n : Nat) : Int) := by
  have h1 : (x : Int).tdiv (n : Int) = ((x / n : Nat) : Int) := rfl
  rw [h1]
  have := Nat.div_le_self x n
  generalize x / n = q at *
  exact w_in_u64 (by omega)
theorem nat_add_u32 {x y : Nat} (h : x + y ≤ 4294967295) : IntKind.u32.wrap ((x : Int) + (y : Int)) = ((x + y : Nat) : Int) := w_in_u32 (by omega)
theorem nat_mul_u32 (x n : Nat) (h : x * n ≤ 4294967295) : IntKind.u32.wrap ((x : Int) * (n : Int)) = ((x * n : Nat) : Int) := by
  rw [← Int.natCast_mul]; exact w_in_u32 (by omega)
theorem k32_xor (x y : UInt32) : bits .xor .u32 (x.toNat : Int) (y.toNat : Int) = ((x ^^^ y).toNat : Int) := by
  show IntKind.u32.wrap ((BitVec.ofInt 32 (x.toNat : Int) ^^^ BitVec.ofInt 32 (y.toNat : Int)).toNat : Int) = _
  rw [BitVec.toNat_xor, ofInt_nat 32 _ x.toNat_lt, ofInt_nat 32 _ y.toNat_lt, ← UInt32.toNat_xor]
  have := w_lt (x ^^^ y)
  exact w_in_u32 (by omega)
section ops
variable {P : Program} {B : Nat} {w0 : Base} {N : Nat} {D : List Deferred} {env : Env} {H : Hp} {T : Env → Hp → Prop}
variable {dst : Option Tmp} {ty : TypeId} {pos : String} {after : Array Edge} {g : Option (Nat × Bool)}
theorem op_pure {d : Nat} {op : Op} {v : Value} (hp : Pure1 P B w0 N D ⟨some d, op, ty, pos, after, g⟩ env H v) (hd : Nat.blt d N = true) (h : T ((d, v) :: env) H) : Op1 P B w0 N D ⟨some d, op, ty, pos, after, g⟩ env H T :=
  fun K Q hT a w hf hm => by
    unfold Oper.wp
    rw [hp a w hf hm]
    exact hT _ _ h _ w (hf.put hd v) hm
theorem p_move {x : Operand} {v : Value} (hx : look env x = some v) : Pure1 P B w0 N D ⟨dst, .move x, ty, pos, after, g⟩ env H v := fun a w hf _ => by
  simp [execOp, hf.eval hx]
theorem p_assign {x : Operand} {v : Value} (hx : look env x = some v) : Pure1 P B w0 N D ⟨dst, .assign x, ty, pos, after, g⟩ env H v := fun a w hf _ => by
  simp [execOp, hf.eval hx]
theorem p_pick_yes {c x y : Operand} {v : Value} (hc : look env c = some (.bool true)) (hx : look env x = some v) :
    Pure1 P B w0 N D ⟨dst, .pick c x y, ty, pos, after, g⟩ env H v := fun a w hf _ => by
  simp [execOp, hf.eval hc, hf.eval hx, asBool]
theorem p_pick_no {c x y : Operand} {v : Value} (hc : look env c = some (.bool false)) (hy : look env y = some v) :
    Pure1 P B w0 N D ⟨dst, .pick c x y, ty, pos, after, g⟩ env H v := fun a w hf _ => by
  simp [execOp, hf.eval hc, hf.eval hy, asBool]
/-- An operator on two integers. -/
theorem p_bin {op : BinOp} {xT yT : TypeId} {x y : Operand} {k k' : IntKind} {m n : Int} {r : Value} (hx : look env x = some (.int k m)) (hy : look env y = some (.int k' n))
    (hr : ∀ w, (binOp op xT (.int k m) (.int k' n)).run P w = .ok r w) : Pure1 P B w0 N D ⟨dst, .binOp op xT x y yT, ty, pos, after, g⟩ env H r := fun a w hf _ => by
  simp [execOp, hf.eval hx, hf.eval hy, eqGuard_at_int, hr w]
theorem p_bin_bool {op : BinOp} {xT yT : TypeId} {x y : Operand} {m n : Bool} {r : Value} (hx : look env x = some (.bool m)) (hy : look env y = some (.bool n))
    (hr : ∀ w, (binOp op xT (.bool m) (.bool n)).run P w = .ok r w) : Pure1 P B w0 N D ⟨dst, .binOp op xT x y yT, ty, pos, after, g⟩ env H r := fun a w hf _ => by
  simp [execOp, hf.eval hx, hf.eval hy, eqGuard_at_bool, hr w]
theorem b_add {t : TypeId} {k : IntKind} {m n r : Int} (h : k.wrap (m + n) = r) (w : World) : (binOp .add t (.int k m) (.int k n)).run P w = .ok (.int k r) w := by
  rw [binOp_add, Op.intArith, h]; rfl
theorem b_sub {t : TypeId} {k : IntKind} {m n r : Int} (h : k.wrap (m - n) = r) (w : World) : (binOp .sub t (.int k m) (.int k n)).run P w = .ok (.int k r) w := by
  rw [binOp_sub, Op.intArith, h]; rfl
theorem b_mul {t : TypeId} {k : IntKind} {m n r : Int} (h : k.wrap (m * n) = r) (w : World) : (binOp .mul t (.int k m) (.int k n)).run P w = .ok (.int k r) w := by
  rw [binOp_mul, Op.intArith, h]; rfl
theorem b_quo {t : TypeId} {k : IntKind} {m n r : Int} (h0 : n ≠ 0) (h : k.wrap (m.tdiv n) = r) (w : World) : (binOp .quo t (.int k m) (.int k n)).run P w = .ok (.int k r) w := by
  rw [binOp_quo, Op.intDiv, if_neg h0, h]; rfl
theorem b_rem {t : TypeId} {k : IntKind} {m n r : Int} (h0 : n ≠ 0) (h : m.tmod n = r) (w : World) : (binOp .rem t (.int k m) (.int k n)).run P w = .ok (.int k r) w := by
  rw [binOp_rem, Op.intDiv, if_neg h0, h]; rfl
theorem b_and {t : TypeId} {k : IntKind} {m n r : Int} (h : bits .and k m n = r) (w : World) : (binOp .and t (.int k m) (.int k n)).run P w = .ok (.int k r) w := by
  rw [binOp_and, intBits_and, h]; rfl
theorem b_or {t : TypeId} {k : IntKind} {m n r : Int} (h : bits .or k m n = r) (w : World) : (binOp .or t (.int k m) (.int k n)).run P w = .ok (.int k r) w := by
  rw [binOp_or, intBits_or, h]; rfl
theorem b_xor {t : TypeId} {k : IntKind} {m n r : Int} (h : bits .xor k m n = r) (w : World) : (binOp .xor t (.int k m) (.int k n)).run P w = .ok (.int k r) w := by
  rw [binOp_xor, intBits_xor, h]; rfl
theorem b_shl {t : TypeId} {k k' : IntKind} {m n r : Int} (h0 : 0 ≤ n) (h1 : n ≤ k.bits) (h : k.wrap (m * 2 ^ n.toNat) = r) (w : World) : (binOp .shl t (.int k m) (.int k' n)).run P w = .ok (.int k r) w := by
  rw [binOp_shl, shift_shl k k' m n h0 h1, h]; rfl
theorem b_shr {t : TypeId} {k k' : IntKind} {m n r : Int} (h0 : 0 ≤ n) (h1 : n ≤ k.bits) (h : m / 2 ^ n.toNat = r) (w : World) : (binOp .shr t (.int k m) (.int k' n)).run P w = .ok (.int k r) w := by
  rw [binOp_shr, shift_shr k k' m n h0 h1, h]; rfl
theorem b_eql {t : TypeId} {k : IntKind} {m n : Int} {r : Bool} (h : (m == n) = r) (w : World) : (binOp .eql t (.int k m) (.int k n)).run P w = .ok (.bool r) w := by
  rw [binOp_eql, h]; rfl
theorem b_neq {t : TypeId} {k : IntKind} {m n : Int} {r : Bool} (h : (m != n) = r) (w : World) : (binOp .neq t (.int k m) (.int k n)).run P w = .ok (.bool r) w := by
  rw [binOp_neq, h]; rfl
theorem b_lss {t : TypeId} {k : IntKind} {m n : Int} {r : Bool} (h : decide (m < n) = r) (w : World) : (binOp .lss t (.int k m) (.int k n)).run P w = .ok (.bool r) w := by
  rw [binOp_lss, h]; rfl
theorem b_gtr {t : TypeId} {k : IntKind} {m n : Int} {r : Bool} (h : decide (n < m) = r) (w : World) : (binOp .gtr t (.int k m) (.int k n)).run P w = .ok (.bool r) w := by
  rw [binOp_gtr, ← h]; rfl
theorem b_geq {t : TypeId} {k : IntKind} {m n : Int} {r : Bool} (h : decide (n ≤ m) = r) (w : World) : (binOp .geq t (.int k m) (.int k n)).run P w = .ok (.bool r) w := by
  rw [binOp_geq, ← h]; rfl
theorem b_neq_bool {t : TypeId} {m n r : Bool} (ht : P.underlying t = some .bool) (h : (!(m == n)) = r) (w : World) : (binOp .neq t (.bool m) (.bool n)).run P w = .ok (.bool r) w := by
  subst h
  simp [binOp, Op.equal, Op.maxDepth, run_equalIn_bool' w 9999 t m n ht]
theorem p_convert {s t : TypeId} {x : Operand} {k k' : IntKind} {m r : Int} (hx : look env x = some (.int k m)) (hs : Sc P s) (ht : Ik P t k') (hr : k'.wrap m = r) :
    Pure1 P B w0 N D ⟨dst, .convert s t x, ty, pos, after, g⟩ env H (.int k' r) := fun a w hf _ => by
  obtain ⟨d, hd, _⟩ := hs
  have ht : P.underlying t = some (.int k') := ht
  have h1 : (convert s t (.int k m)).run P w = .ok (.int k' r) w := by
    unfold convert
    simp only [Sem.run_bind, run_underlying hd, run_underlying ht, Result.andThen_ok]
    cases d <;> simp [Conv.intToInt, hr]
  simp [execOp, hf.eval hx, h1]
/-! ### Memory: reading -/
theorem p_load {t : TypeId} {x : Operand} {b off : Nat} {v : Value} {cs : List Value} {et : TypeId} {fr : Nat × Nat} (hx : look env x = some (.pointer (some ⟨b, off, none⟩))) (hsc : Sc P t)
    (hH : (b, Obj.cells cs.toArray et fr) ∈ H) (hc : cs[off]? = some v) : Pure1 P B w0 N D ⟨dst, .load t x, ty, pos, after, g⟩ env H v := fun a w hf hm => by
  obtain ⟨d, ht, hd, _⟩ := hsc
  have hcell : w.cell? ⟨b, off, none⟩ = some v := (hm.cell hH off).trans hc
  simp [execOp, hf.eval hx, Instr.loadAt, Instr.sureAddr, loadVar, isAgg_no ht hd, load, Sem.run, hcell]
theorem p_load_base {t : TypeId} {x : Operand} {b off : Nat} {v : Value} (hx : look env x = some (.pointer (some ⟨b, off, none⟩))) (hsc : Sc P t)
    (hb : b < B) (hbs : b ∉ w0.bs) (hc : w0.w.cell? ⟨b, off, none⟩ = some v) : Pure1 P B w0 N D ⟨dst, .load t x, ty, pos, after, g⟩ env H v := fun a w hf hm => by
  obtain ⟨d, ht, hd, _⟩ := hsc
  have hcell : w.cell? ⟨b, off, none⟩ = some v := (hm.base hb hbs).trans hc
  simp [execOp, hf.eval hx, Instr.loadAt, Instr.sureAddr, loadVar, isAgg_no ht hd, load, Sem.run, hcell]
theorem p_loadRow {t : TypeId} {x : Operand} {b n : Nat} {cs : List Value} {et : TypeId} {fr : Nat × Nat} (hx : look env x = some (.pointer (some ⟨b, 0, none⟩))) (hrow : Row P t n)
    (hH : (b, Obj.cells cs.toArray et fr) ∈ H) (hl : cs.length = n) : Pure1 P B w0 N D ⟨dst, .load t x, ty, pos, after, g⟩ env H (.agg cs.toArray) := fun a w hf hm => by
  obtain ⟨d, ht, hd, hi⟩ := hrow
  rw [← hl] at hi
  have h1 := run_loadAt_mid (P := P) w b 0 t cs d (fun j v hv => by rw [Nat.zero_add]; exact (hm.cell hH j).trans hv) ht hd hi
  simp only [execOp, hf.eval hx, Sem.run_bind, h1, Result.andThen_ok, Sem.run_pure]
theorem p_loadMid {t : TypeId} {x : Operand} {b off n : Nat} {cs : List Value} {et : TypeId} {fr : Nat × Nat} (hx : look env x = some (.pointer (some ⟨b, off, none⟩))) (hrow : Row P t n)
    (hH : (b, Obj.cells cs.toArray et fr) ∈ H) (hl : off + n ≤ cs.length) : Pure1 P B w0 N D ⟨dst, .load t x, ty, pos, after, g⟩ env H (.agg ((cs.drop off).take n).toArray) := fun a w hf hm => by
  obtain ⟨d, ht, hd, hi⟩ := hrow
  have h1 := run_loadAt_mid (P := P) w b off t ((cs.drop off).take n) d (fun j v hv => by
    rw [hm.cell hH]
    by_cases hj : j < n
    · rw [List.getElem?_take_of_lt hj, List.getElem?_drop] at hv; exact hv
    · rw [List.getElem?_eq_none (by simp; omega)] at hv; cases hv) ht hd (by rw [hi]; simp; omega)
  simp only [execOp, hf.eval hx, Sem.run_bind, h1, Result.andThen_ok, Sem.run_pure]
theorem p_indexArr {t e : TypeId} {x i : Operand} {b off len j : Nat} {k : IntKind} {m : Int} (hx : look env x = some (.pointer (some ⟨b, off, none⟩))) (hi : look env i = some (.int k m)) (hj : m = (j : Int)) (ha : Arr P t len e)
    (hlt : j < len) : Pure1 P B w0 N D ⟨dst, .indexAddr t x i, ty, pos, after, g⟩ env H (.pointer (some ⟨b, off + j, none⟩)) := fun a w hf _ => by
  obtain ⟨ht, _, _, _, hs⟩ := ha
  subst hj
  have h2 : ((j : Int) < (len : Int)) := by omega
  simp [execOp, hf.eval hx, hf.eval hi, Instr.indexAt, asIntOf, run_underlying ht, Instr.sureAddr, sizeOf_ok hs, h2, Addr.add_mid, hlt]
theorem p_indexArr0 {t e : TypeId} {x i : Operand} {b len j : Nat} {k : IntKind} {m : Int} (hx : look env x = some (.pointer (some ⟨b, 0, none⟩))) (hi : look env i = some (.int k m)) (hj : m = (j : Int)) (ha : Arr P t len e)
    (hlt : j < len) : Pure1 P B w0 N D ⟨dst, .indexAddr t x i, ty, pos, after, g⟩ env H (.pointer (some ⟨b, j, none⟩)) := by
  have := p_indexArr (P := P) (B := B) (w0 := w0) (N := N) (D := D) (H := H) (dst := dst) (ty := ty) (pos := pos) (after := after) (g := g) hx hi hj ha hlt
  rwa [Nat.zero_add] at this
theorem p_indexSl {t e : TypeId} {x i : Operand} {b off len cap j : Nat} {k : IntKind} {m : Int} (hx : look env x = some (.slice (some ⟨b, off, none⟩) len cap)) (hi : look env i = some (.int k m)) (hj : m = (j : Int)) (ha : Slc P t e)
    (hlt : j < len) : Pure1 P B w0 N D ⟨dst, .indexAddr t x i, ty, pos, after, g⟩ env H (.pointer (some ⟨b, off + j, none⟩)) := fun a w hf _ => by
  obtain ⟨ht, _, _, _, hs⟩ := ha
  subst hj
  have h2 : ((j : Int) < (len : Int)) := by omega
  simp [execOp, hf.eval hx, hf.eval hi, Instr.indexAt, asIntOf, run_underlying ht, sizeOf_ok hs, h2, Addr.add_mid, hlt]
theorem p_len {t : TypeId} {e : TypeId} {x : Operand} {A : Option Addr} {n c : Nat} (hx : look env x = some (.slice A n c)) (hsl : Slc P t e) :
    Pure1 P B w0 N D ⟨dst, .call { callee := .builtin .len, args := #[x], argTypes := #[t] }, ty, pos, after, g⟩ env H (.int .i64 (n : Int)) := fun a w hf _ => by
  have ht := hsl.1
  simp [execOp, resolve, hf.eval hx, invoke, builtin, Builtin.len_, Builtin.lenOf, run_underlying ht, goInt]
/-! ### Memory: making, writing -/
theorem op_box {d : Nat} {t : TypeId} {x : Operand} {v : Value} (hx : look env x = some v) (hd : Nat.blt d N = true) (hB : B ≤ w0.w.heap.size) (h : ∀ b, T ((d, .pointer (some ⟨b, 0, none⟩)) :: env) ((b, .cells v.cells t (0, 0)) :: H)) :
    Op1 P B w0 N D ⟨some d, .box t x, ty, pos, after, g⟩ env H T := fun K Q hT a w hf hm => by
  have h1 : (execOp a.eval ⟨some d, .box t x, ty, pos, after, g⟩).run P w = .ok (.value (.pointer (some ⟨w.heap.size, 0, none⟩))) (w.alloc (.cells v.cells t)) := by
    simp [execOp, hf.eval hx, Instr.box, newVar, newRow]
  unfold Oper.wp
  rw [h1]
  exact hT _ _ (h w.heap.size) _ _ (hf.put hd _) (hm.alloc hB _)
theorem op_boxRow {d : Nat} {t : TypeId} {x : Operand} {cs : List Value} (hx : look env x = some (.agg cs.toArray)) (hd : Nat.blt d N = true) (hB : B ≤ w0.w.heap.size) (h : ∀ b, T ((d, .pointer (some ⟨b, 0, none⟩)) :: env) ((b, .cells cs.toArray t (0, 0)) :: H)) :
    Op1 P B w0 N D ⟨some d, .box t x, ty, pos, after, g⟩ env H T := op_box hx hd hB h
theorem op_alloc {d : Nat} {t : TypeId} {z : Value} (hz : (P.info? t).bind (·.zero) = some z) (hd : Nat.blt d N = true) (hB : B ≤ w0.w.heap.size) (h : ∀ b, T ((d, .pointer (some ⟨b, 0, none⟩)) :: env) ((b, .cells z.cells t (0, 0)) :: H)) :
    Op1 P B w0 N D ⟨some d, .alloc t, ty, pos, after, g⟩ env H T := fun K Q hT a w hf hm => by
  have hzv : (zeroValue t).run P w = .ok z w := by
    unfold zeroValue
    cases hq : P.info? t with
    | none => simp [hq] at hz
    | some i =>
      have : i.zero = some z := by simpa [hq] using hz
      simp [typeInfo, hq, this]
  have h1 : (execOp a.eval ⟨some d, .alloc t, ty, pos, after, g⟩).run P w = .ok (.value (.pointer (some ⟨w.heap.size, 0, none⟩))) (w.alloc (.cells z.cells t)) := by
    simp [execOp, Instr.alloc, hzv, newVar, newRow]
  unfold Oper.wp
  rw [h1]
  exact hT _ _ (h w.heap.size) _ _ (hf.put hd _) (hm.alloc hB _)
def Zr (P : Program) (t : TypeId) (cs : List Value) : Prop := (P.info? t).bind (·.zero) = some (.agg cs.toArray)
def Zs (P : Program) (t : TypeId) (v : Value) : Prop := (P.info? t).bind (·.zero) = some v ∧ v.cells = #[v]
theorem op_allocRow {d : Nat} {t : TypeId} {cs : List Value} (hz : Zr P t cs) (hd : Nat.blt d N = true) (hB : B ≤ w0.w.heap.size) (h : ∀ b, T ((d, .pointer (some ⟨b, 0, none⟩)) :: env) ((b, .cells cs.toArray t (0, 0)) :: H)) :
    Op1 P B w0 N D ⟨some d, .alloc t, ty, pos, after, g⟩ env H T := op_alloc hz hd hB h
theorem op_alloc1 {d : Nat} {t : TypeId} {v : Value} (hz : Zs P t v) (hd : Nat.blt d N = true) (hB : B ≤ w0.w.heap.size) (h : ∀ b, T ((d, .pointer (some ⟨b, 0, none⟩)) :: env) ((b, .cells [v].toArray t (0, 0)) :: H)) :
    Op1 P B w0 N D ⟨some d, .alloc t, ty, pos, after, g⟩ env H T := op_alloc hz.1 hd hB (by rw [hz.2]; exact h)
theorem Mem.set {w : World} {H' : Hp} {b : Nat} {cs : List Value} {t : TypeId} (hm : Mem B w0 H w) (off : Nat) (v : Value) (hat : At H b (.cells cs.toArray t (0, 0)) (.cells (cs.set off v).toArray t (0, 0)) H') : Mem B w0 H' (w.setCell ⟨b, off, none⟩ v) := by
  have hb := hm.at_ hat
  refine hm.turn hat rfl rfl rfl (by simp [World.setCell]) ?_ (fun k hk hne => Below.heap_setCell _ _ _ _ hne)
  simp [World.setCell, Array.getElem?_modify, hb]
theorem op_store {t : TypeId} {x y : Operand} {b off : Nat} {v : Value} {cs : List Value} {et : TypeId} {H' : Hp} (hx : look env x = some (.pointer (some ⟨b, off, none⟩))) (hy : look env y = some v) (h1 : v.oneCell' = true)
    (hsc : Sc P t) (hat : At H b (.cells cs.toArray et (0, 0)) (.cells (cs.set off v).toArray et (0, 0)) H') (hlt : off < cs.length) (h : T env H') :
    Op1 P B w0 N D ⟨none, .store t x y, ty, pos, after, g⟩ env H T := fun K Q hT a w hf hm => by
  obtain ⟨_, _, _, hi⟩ := hsc
  have hb := hm.at_ hat
  have hcell : w.cell? ⟨b, off, none⟩ = some (cs[off]'hlt) := by rw [cell_of_row w b off _ _ _ hb]; simp [hlt]
  have hfz : w.frozen? ⟨b, off, none⟩ = false := frozen_of_row w b off _ _ hb
  have hrun : (execOp a.eval ⟨none, .store t x y, ty, pos, after, g⟩).run P w = .ok .skip (w.setCell ⟨b, off, none⟩ v) := by
    have hst : ∀ m, (store ⟨b, off, none⟩ v m).run P w = .ok () (w.setCell ⟨b, off, none⟩ v) := fun m => by
      rw [run_store P w _ v m h1]
      simp [stored, hcell, hfz]
    have hcs : v.cells = #[v] := by cases v <;> first | rfl | cases h1
    simp [execOp, hf.eval hx, hf.eval hy, Instr.storeAt, Instr.sureAddr, storeVar, sizeOf_ok hi, hcs, storeCells, hst, Addr.add_zero']
  unfold Oper.wp
  rw [hrun]
  exact hT _ _ h _ _ (hf.put_none _) (hm.set off v hat)
/-- A row of cells with another row laid over it from place o on. -/
def lay (cs : List Value) (o : Nat) : List Value → List Value
  | [] => cs
  | v :: r => lay (cs.set o v) (o + 1) r
theorem lay_all (r : List Value) : ∀ (cs pre : List Value), cs.length = r.length → lay (pre ++ cs) pre.length r = pre ++ r := by
  induction r with
  | nil => intro cs pre h; obtain rfl : cs = [] := List.eq_nil_of_length_eq_zero (by simpa using h); rfl
  | cons v r ih =>
    intro cs pre h
    cases cs with
    | nil => simp at h
    | cons c cs =>
      rw [lay, List.set_append_right _ _ (Nat.le_refl _)]
      simp only [Nat.sub_self, List.set_cons_zero]
      have := ih cs (pre ++ [v]) (by simpa using h)
      simpa using this
theorem lay_whole {cs r : List Value} (h : cs.length = r.length) : lay cs 0 r = r := by simpa using lay_all r cs [] h
theorem lay_eq (r : List Value) (cs : List Value) (o : Nat) (h : o + r.length ≤ cs.length) : lay cs o r = cs.take o ++ r ++ cs.drop (o + r.length) := by
  have gen : ∀ (r mid pre post : List Value), mid.length = r.length → lay (pre ++ (mid ++ post)) pre.length r = pre ++ (r ++ post) := by
    intro r
    induction r with
    | nil => intro mid pre post h; obtain rfl : mid = [] := List.eq_nil_of_length_eq_zero (by simpa using h); rfl
    | cons v r ih =>
      intro mid pre post h
      cases mid with
      | nil => simp at h
      | cons c mid =>
        rw [lay, List.set_append_right _ _ (Nat.le_refl _)]
        simp only [Nat.sub_self, List.cons_append, List.set_cons_zero]
        have := ih mid (pre ++ [v]) post (by simpa using h)
        simpa using this
  have h1 := gen r ((cs.drop o).take r.length) (cs.take o) (cs.drop (o + r.length)) (by simp; omega)
  have e : cs.take o ++ ((cs.drop o).take r.length ++ cs.drop (o + r.length)) = cs := by
    rw [← List.drop_drop, List.take_append_drop, List.take_append_drop]
  rw [e] at h1
  have hl : (cs.take o).length = o := by simp; omega
  rw [hl] at h1
  rw [h1, List.append_assoc]
theorem At.mid {H H' : Hp} {b : Nat} {o1 o2 om : Obj} (h : At H b o1 o2 H') : ∃ Hm, At H b o1 om Hm ∧ At Hm b om o2 H' := by
  induction h with
  | here => exact ⟨_, .here, .here⟩
  | @there H H' x b o o' h ih => obtain ⟨Hm, p, q⟩ := @ih; exact ⟨_, .there p, .there q⟩
theorem Mem.lay {b : Nat} {t : TypeId} (r : List Value) : ∀ (w : World) (H H' : Hp) (cs : List Value) (o : Nat), Mem B w0 H w → At H b (.cells cs.toArray t (0, 0)) (.cells (lay cs o r).toArray t (0, 0)) H' → Mem B w0 H' (w.setCells b o r) := by
  induction r with
  | nil =>
    intro w H H' cs o hm hat
    simp only [K.lay] at hat
    exact hm.turn hat rfl rfl rfl (Nat.le_refl _) (hm.at_ hat) (fun _ _ _ => rfl)
  | cons v r ih =>
    intro w H H' cs o hm hat
    obtain ⟨Hm, p, q⟩ := At.mid (om := .cells (cs.set o v).toArray t (0, 0)) hat
    exact ih _ _ _ _ (o + 1) (hm.set o v p) q
theorem op_storeRow {t : TypeId} {x y : Operand} {b off n : Nat} {cs r : List Value} {et : TypeId} {H' : Hp} (hx : look env x = some (.pointer (some ⟨b, off, none⟩))) (hy : look env y = some (.agg r.toArray)) (h1 : ∀ v ∈ r, v.oneCell' = true)
    (hrow : Row P t n) (hrl : r.length = n) (hat : At H b (.cells cs.toArray et (0, 0)) (.cells (lay cs off r).toArray et (0, 0)) H') (hlt : off + r.length ≤ cs.length) (h : T env H') :
    Op1 P B w0 N D ⟨none, .store t x y, ty, pos, after, g⟩ env H T := fun K Q hT a w hf hm => by
  have hb := hm.at_ hat
  obtain ⟨_, _, _, hi⟩ := hrow
  rw [← hrl] at hi
  have hth : w.there b off r.toArray.size := fun j hj => by
    have hj' : off + j < cs.length := by simp at hj; omega
    rw [cell_of_row w b _ _ _ _ hb, frozen_of_row w b _ _ _ hb]
    simp [hj']
  have hrun := run_storeAt_mid (P := P) w b off t r.toArray hth (by simpa using hi) (all_oneCell_toArray h1)
  have hrun2 : (execOp a.eval ⟨none, .store t x y, ty, pos, after, g⟩).run P w = .ok .skip (w.setCells b off r) := by
    simp only [execOp, hf.eval hx, hf.eval hy, Sem.run_bind, hrun, Result.andThen_ok, Sem.run_pure]
  unfold Oper.wp
  rw [hrun2]
  exact hT _ _ h _ _ (hf.put_none _) (Mem.lay r _ _ _ _ off hm hat)
/-! ### Calls -/
def looks (env : Env) : List Operand → Option (List Value)
  | [] => some []
  | x :: r => match look env x, looks env r with
    | some v, some vs => some (v :: vs)
    | _, _ => none
theorem Fits.evals {a : Act} (hf : Fits N D env a) : ∀ {xs : List Operand} {vs : List Value}, looks env xs = some vs → xs.map a.eval = vs
  | [], vs, h => by cases h; rfl
  | x :: r, vs, h => by
    simp only [looks] at h
    split at h
    · rename_i v vs' h1 h2
      cases h
      rw [List.map_cons, hf.eval h1, hf.evals h2]
    · cases h
theorem runs_callFunc {f : FuncId} {fn : Func} (hf : P.funcs[f]? = some fn) (hb : fn.body.isNone = false) (hn : (fn.name == "runtime.NumGoroutine") = false) (args : Array Value) (w : World) : (callFunc f args).run P w = .ok (.enter f args) w := by
  unfold callFunc
  simp only [Sem.run_bind, run_program, Result.andThen_ok, hf, hn, hb, Bool.false_eq_true, if_false, Sem.run_pure]
/-- A call of a function by a contract that says what is behind it. -/
theorem op_call {d : Nat} {fo : Operand} {xs : List Operand} {ts : Array TypeId} {f : FuncId} {fn : Func} {vs first cap : List Value} (hfo : look env fo = some (.func (.func f) first.toArray cap.toArray)) (hxs : looks env xs = some vs)
    (hf0 : P.funcs[f]? = some fn) (hb0 : fn.body.isNone = false) (hn0 : (fn.name == "runtime.NumGoroutine") = false) (hd : Nat.blt d N = true)
    (hc : ∀ w, Mem B w0 H w → Calls P f (first ++ vs ++ cap).toArray w fun e w' => ∃ v H', e = .returned v ∧ Mem B w0 H' w' ∧ T ((d, v) :: env) H') :
    Op1 P B w0 N D ⟨some d, .call { callee := .value fo, args := xs.toArray, argTypes := ts }, ty, pos, after, g⟩ env H T := fun K Q hT a w hf hm => by
  have hrun : (execOp a.eval ⟨some d, .call { callee := .value fo, args := xs.toArray, argTypes := ts }, ty, pos, after, g⟩).run P w = .ok (.enter f (first ++ vs ++ cap).toArray) w := by
    have h1 : (xs.toArray.map a.eval) = vs.toArray := by rw [List.map_toArray, hf.evals hxs]
    simp only [execOp, resolve, hf.eval hfo, h1, Deferred.ofValue, Sem.run_bind, Sem.run_pure, Result.andThen_ok, invoke]
    rw [runs_callFunc hf0 hb0 hn0]
    simp
  unfold Oper.wp
  rw [hrun]
  refine (hc w hm).mono ?_
  rintro e w' ⟨v, H', rfl, hm', ht⟩
  exact hT _ _ ht _ _ (hf.put hd v) hm'
/-- A call that hands back v, and leaves alone what was there. -/
theorem op_callV {d : Nat} {fo : Operand} {xs : List Operand} {ts : Array TypeId} {f : FuncId} {fn : Func} {vs first cap : List Value} {v : Value} (hfo : look env fo = some (.func (.func f) first.toArray cap.toArray)) (hxs : looks env xs = some vs)
    (hf0 : P.funcs[f]? = some fn) (hb0 : fn.body.isNone = false) (hn0 : (fn.name == "runtime.NumGoroutine") = false) (hd : Nat.blt d N = true) (hB : B ≤ w0.w.heap.size)
    (hc : ∀ w, Mem B w0 H w → Calls P f (first ++ vs ++ cap).toArray w fun e w' => e = .returned v ∧ Below w.heap.size w w') (h : T ((d, v) :: env) H) :
    Op1 P B w0 N D ⟨some d, .call { callee := .value fo, args := xs.toArray, argTypes := ts }, ty, pos, after, g⟩ env H T :=
  op_call hfo hxs hf0 hb0 hn0 hd fun w hm => (hc w hm).mono fun _ _ ⟨he, hb⟩ => ⟨v, H, he, hm.call hB hb, h⟩
theorem still_call {dst : Option Tmp} {fo : Operand} {xs : List Operand} {ts : Array TypeId} {f : FuncId} {fn : Func} {vs first cap : List Value} {v : Value} (hfo : look env fo = some (.func (.func f) first.toArray cap.toArray)) (hxs : looks env xs = some vs)
    (hf0 : P.funcs[f]? = some fn) (hb0 : fn.body.isNone = false) (hn0 : (fn.name == "runtime.NumGoroutine") = false) (hB : B ≤ w0.w.heap.size)
    (hc : ∀ w, Mem B w0 H w → Calls P f (first ++ vs ++ cap).toArray w fun e w' => e = .returned v ∧ Below w.heap.size w w') :
    Still1 P B w0 N D ⟨dst, .call { callee := .value fo, args := xs.toArray, argTypes := ts }, ty, pos, after, g⟩ env H v := fun a w hf hm => by
  have hrun : (execOp a.eval ⟨dst, .call { callee := .value fo, args := xs.toArray, argTypes := ts }, ty, pos, after, g⟩).run P w = .ok (.enter f (first ++ vs ++ cap).toArray) w := by
    have h1 : (xs.toArray.map a.eval) = vs.toArray := by rw [List.map_toArray, hf.evals hxs]
    simp only [execOp, resolve, hf.eval hfo, h1, Deferred.ofValue, Sem.run_bind, Sem.run_pure, Result.andThen_ok, invoke]
    rw [runs_callFunc hf0 hb0 hn0]
    simp
  unfold Oper.quietAt
  rw [hrun]
  exact ⟨rfl, (hc w hm).mono fun _ _ ⟨he, hb⟩ => ⟨he, hm.call hB hb⟩⟩
end ops
/-! ### Entering and leaving a function -/
section enter
variable {P : Program} {f : FuncId} {fn : Func} {c : Code} {w : World} {R : Ending → World → Prop}
def envOf : Nat → List Value → Env
  | _, [] => []
  | i, v :: r => (i, v) :: envOf (i + 1) r
theorem find_envOf : ∀ (vs : List Value) (i t : Nat) (v : Value), find (envOf i vs) t = some v → i ≤ t ∧ vs[t - i]? = some v
  | [], _, _, _, h => by cases h
  | u :: r, i, t, v, h => by
    by_cases hi : i = t
    · subst hi
      rw [envOf, find_cons_same] at h
      simpa using h
    · rw [envOf, find_cons_ne hi] at h
      obtain ⟨h1, h2⟩ := find_envOf r (i + 1) t v h
      refine ⟨by omega, ?_⟩
      rw [show t - i = (t - (i + 1)) + 1 by omega]
      simpa using h2
theorem enter_at {B : Nat} {w0 : Base} {H : Hp} {N : Nat} {args : List Value} (hf : P.funcs[f]? = some fn) (hb : fn.body = some c) (hn : fn.ntmps = N) (ha : args.length ≤ N) (hm : Mem B w0 H w)
    (h : Sx P B w0 N [] c (envOf 0 args) H (bodyPost P fn R)) : Calls P f args.toArray w R := by
  refine calls_of_wp hf hb (h _ _ ⟨rfl, ?_, ?_⟩ hm)
  · rw [hn]; simp; omega
  · intro t v hv
    obtain ⟨_, h2⟩ := find_envOf args 0 t v hv
    have hl : t < args.length := by
      rcases Nat.lt_or_ge t args.length with h | h
      · exact h
      · rw [List.getElem?_eq_none (by simpa using h)] at h2; cases h2
    rw [Array.getElem?_append_left (by simpa using hl)]
    simpa using h2
theorem enter {N : Nat} {args : List Value} (hf : P.funcs[f]? = some fn) (hb : fn.body = some c) (hn : fn.ntmps = N) (ha : args.length ≤ N)
    (h : Sx P w.heap.size ⟨w, []⟩ N [] c (envOf 0 args) [] (bodyPost P fn R)) : Calls P f args.toArray w R :=
  enter_at hf hb hn ha (Mem.start w) h
variable {B : Nat} {w0 : Base} {N : Nat} {env : Env} {H : Hp}
theorem E_end0 (hr : fn.results = #[]) (h : ∀ w, Mem B w0 H w → R (.returned (.tuple #[])) w) : Ex B w0 N [] env H (bodyPost P fn R .normal) :=
  fun _ w hf hm => bodyPost_end (results_none hr _ _ _) hf.defs (h w hm)
theorem E_ret1 {t : Nat} {v : Value} (hr : fn.results = #[.tmp t]) (hv : find env t = some v) (h : ∀ w, Mem B w0 H w → R (.returned v) w) : Ex B w0 N [] env H (bodyPost P fn R .ret) :=
  fun a w hf hm => bodyPost_ret (v := v) (by have := hf.at_ t v hv; simp [results, hr, this]) hf.defs (h w hm)
theorem E_ret2 {t u : Nat} {v x : Value} (hr : fn.results = #[.tmp t, .tmp u]) (hv : find env t = some v) (hx : find env u = some x) (h : ∀ w, Mem B w0 H w → R (.returned (.tuple #[v, x])) w) : Ex B w0 N [] env H (bodyPost P fn R .ret) :=
  fun a w hf hm => bodyPost_ret (v := .tuple #[v, x]) (by have h1 := hf.at_ t v hv; have h2 := hf.at_ u x hx; simp [results, hr, h1, h2]) hf.defs (h w hm)
/-- A result that lies in a block of its own: an array, a struct. -/
theorem E_retRow {t ty n : Nat} {b : Nat} {cs : List Value} {et : TypeId} {fr : Nat × Nat} (hr : fn.results = #[.cell t ty]) (hv : find env t = some (.pointer (some ⟨b, 0, none⟩))) (hH : (b, Obj.cells cs.toArray et fr) ∈ H)
    (hrow : Row P ty n) (hl : cs.length = n) (h : ∀ w, Mem B w0 H w → R (.returned (.agg cs.toArray)) w) : Ex B w0 N [] env H (bodyPost P fn R .ret) :=
  fun a w hf hm => bodyPost_ret (v := .agg cs.toArray) (by
    obtain ⟨d, hu, hd, hi⟩ := hrow
    rw [← hl] at hi
    have h1 := hf.at_ t _ hv
    have hg := (hm.own _ hH).2
    exact results_cell_row hr a.tmps w b et cs.toArray fr d (by simp [h1]) hg hu (by cases d <;> first | rfl | cases hd) (by simpa using hi)) hf.defs (h w hm)
end enter
end Go.K
/-
  What an argument is, out of its reading: bytes, numbers, rows of bytes, slices of bytes. Plain theorems, over any program.
-/
namespace Go.K
open Go.RowKit Go.ChangeShapes Go.WideShapes Go.ChangeAt
/-- A slice of n cells that reads as xs. -/
def Reads (w : World) (A : Option Addr) (n : Nat) (xs : List Value) : Prop :=
  xs.length = n ∧ (n ≠ 0 → ∃ b off, A = some ⟨b, off, none⟩ ∧ b < w.heap.size ∧ ∀ j u, xs[j]? = some u → w.cell? ⟨b, off + j, none⟩ = some u)
theorem Reads.nil (w : World) : Reads w none 0 [] := ⟨rfl, fun h => absurd rfl h⟩
theorem Reads.keep {w w' : World} {A : Option Addr} {n : Nat} {xs : List Value} (h : Reads w A n xs) (hs : w.heap.size ≤ w'.heap.size) (hk : ∀ k, k < w.heap.size → w'.heap[k]? = w.heap[k]?) : Reads w' A n xs :=
  ⟨h.1, fun hn => by
    obtain ⟨b, off, e, hb, hc⟩ := h.2 hn
    exact ⟨b, off, e, by omega, fun j u hu => (World.cell?_of_block (w := w) (w' := w') (a := ⟨b, off + j, none⟩) (hk b hb)).trans (hc j u hu)⟩⟩
theorem Reads.below {w w' : World} {A : Option Addr} {n : Nat} {xs : List Value} (h : Reads w A n xs) (hb : Below w.heap.size w w') : Reads w' A n xs := h.keep hb.size hb.block
theorem Reads.base {w0 w : World} {H : Hp} {A : Option Addr} {n : Nat} {xs : List Value} (h : Reads w0 A n xs) (hm : Mem w0.heap.size ⟨w0, []⟩ H w) : Reads w A n xs := h.below hm.below
section opens
variable {HT : Type} {enc : TypeId × Value → HT} {P : Program} {w : World} {base b0 : Nat} {spare : Nat → Bool} {held : Bool} {r : Reach} {t e : TypeId} {v : Value} {d : DataW HT} {ps : List MemPlace}
theorem wf_u8 {n : Int} (h : (Lit.int .u8 n).wf = true) : ∃ b : UInt8, n = (b.toNat : Int) := by
  simp [Lit.wf, IntKind.min, IntKind.max, IntKind.bits, IntKind.signed] at h
  exact ⟨UInt8.ofNat n.toNat, by rw [UInt8.toNat_ofNat']; omega⟩
theorem wf_i64 {n : Int} (h : (Lit.int .i64 n).wf = true) : -9223372036854775808 ≤ n ∧ n ≤ 9223372036854775807 := by
  simp [Lit.wf, IntKind.min, IntKind.max, IntKind.bits, IntKind.signed] at h
  exact h
theorem arg_int (ht : P.underlying t = some (.int .i64)) (hv : Value.okWide P w r b0 t v) (h : DataW.Trod enc P w base spare held t v d ps) : ∃ n : Int, v = .int .i64 n ∧ -9223372036854775808 ≤ n ∧ n ≤ 9223372036854775807 := by
  obtain ⟨n, rfl, _, _, hw⟩ := open_int ht hv h; exact ⟨n, rfl, wf_i64 hw⟩
theorem bytes_of_ints (zs : List Int) (h : ∀ n ∈ zs, (Lit.int .u8 n).wf = true) : ∃ xs : List UInt8, zs.map (fun n => Value.int .u8 n) = bytesV xs ∧ xs.length = zs.length := by
  induction zs with
  | nil => exact ⟨[], rfl, rfl⟩
  | cons z zs ih =>
    obtain ⟨xs, h1, h2⟩ := ih fun n hn => h n (by simp [hn])
    obtain ⟨b, hb⟩ := wf_u8 (h z (by simp))
    exact ⟨b :: xs, by rw [List.map_cons, h1, hb]; rfl, by simp [h2]⟩
end opens
end Go.K
/-
  More operations for the calculus: make, append, copies of a slice's head, slicing, composite literals, shifts. Plain theorems, over any program.
-/
namespace Go.K
open Go.RowKit
/-- An element type of one cell: its zero value, its bytes. -/
def El (P : Program) (e : TypeId) (z : Value) (bytes : Nat) : Prop := ∃ i, P.info? e = some i ∧ i.zero = some z ∧ i.size = 1 ∧ i.bytes = bytes ∧ z.cells = #[z]
theorem madeCells_one (z : Value) (n : Nat) : madeCells #[z] n = (List.replicate n z).toArray := by
  apply Array.ext_getElem?
  intro i
  simp only [madeCells]
  by_cases h : i < n
  · simp [h, Nat.mod_one]
  · simp [h, Array.getElem?_eq_none]
/-- The address behind a cut at k. -/
def cutA (A : Option Addr) (cap k : Nat) : Option Addr := if cap = k then A else A.map (·.add k)
theorem cutA_some (b off cap k : Nat) (h : k < cap) : cutA (some ⟨b, off, none⟩) cap k = some ⟨b, off + k, none⟩ := by
  unfold cutA
  rw [if_neg (by omega), Option.map_some, Addr.add_mid]
theorem Reads.cut {w : World} {A : Option Addr} {n : Nat} {xs : List Value} (h : Reads w A n xs) {k cap : Nat} (hk : k ≤ n) (hc : n ≤ cap) : Reads w (cutA A cap k) (n - k) (xs.drop k) := by
  refine ⟨by rw [List.length_drop, h.1], fun hn => ?_⟩
  obtain ⟨b, off, rfl, hb, hcell⟩ := h.2 (by omega)
  refine ⟨b, off + k, cutA_some b off cap k (by omega), hb, fun j u hu => ?_⟩
  rw [List.getElem?_drop] at hu
  rw [Nat.add_assoc]
  exact hcell _ u hu
theorem Reads.head {w : World} {A : Option Addr} {n : Nat} {xs : List Value} (h : Reads w A n xs) {k : Nat} (hk : k ≤ n) : Reads w A k (xs.take k) := by
  refine ⟨by rw [List.length_take, h.1]; omega, fun hn => ?_⟩
  obtain ⟨b, off, rfl, hb, hcell⟩ := h.2 (by omega)
  refine ⟨b, off, rfl, hb, fun j u hu => hcell j u ?_⟩
  rcases Nat.lt_or_ge j k with hj | hj
  · rwa [List.getElem?_take_of_lt hj] at hu
  · rw [List.getElem?_eq_none (by rw [List.length_take]; omega)] at hu; cases hu
/-- A slice that lies in a block that is known. -/
theorem Mem.reads {B : Nat} {w0 : Base} {w : World} {H : Hp} (hm : Mem B w0 H w) {b off n : Nat} {cs xs : List Value} {t : TypeId} {fr : Nat × Nat} (hH : (b, Obj.cells cs.toArray t fr) ∈ H) (hx : (cs.drop off).take n = xs) (hl : off + n ≤ cs.length) : Reads w (some ⟨b, off, none⟩) n xs := by
  subst hx
  refine ⟨by simp; omega, fun _ => ⟨b, off, rfl, hm.lt hH, fun j u hu => ?_⟩⟩
  rw [hm.cell hH]
  rcases Nat.lt_or_ge j n with hj | hj
  · rwa [List.getElem?_take_of_lt hj, List.getElem?_drop] at hu
  · rw [List.getElem?_eq_none (by simp; omega)] at hu; cases hu
theorem Mem.readsAll {B : Nat} {w0 : Base} {w : World} {H : Hp} (hm : Mem B w0 H w) {b n : Nat} {cs : List Value} {t : TypeId} {fr : Nat × Nat} (hH : (b, Obj.cells cs.toArray t fr) ∈ H) (hl : cs.length = n) : Reads w (some ⟨b, 0, none⟩) n cs :=
  hm.reads hH (by rw [List.drop_zero, ← hl, List.take_length]) (by omega)
section ops
variable {P : Program} {B : Nat} {w0 : Base} {N : Nat} {D : List Deferred} {env : Env} {H : Hp} {T : Env → Hp → Prop}
variable {dst : Option Tmp} {ty : TypeId} {pos : String} {after : Array Edge} {g : Option (Nat × Bool)}
theorem p_min2 {ts : Array TypeId} {x y : Operand} {k k' : IntKind} {m n r : Int} (hx : look env x = some (.int k m)) (hy : look env y = some (.int k' n)) (hr : (if n < m then n else m) = r) :
    Pure1 P B w0 N D ⟨dst, .call { callee := .builtin .min, args := #[x, y], argTypes := ts }, ty, pos, after, g⟩ env H (.int k r) := fun a w hf _ => by
  simp [execOp, resolve, hf.eval hx, hf.eval hy, invoke, builtin, Builtin.min_, Builtin.min2, hr]
theorem p_max2 {ts : Array TypeId} {x y : Operand} {k k' : IntKind} {m n r : Int} (hx : look env x = some (.int k m)) (hy : look env y = some (.int k' n)) (hr : (if m < n then n else m) = r) :
    Pure1 P B w0 N D ⟨dst, .call { callee := .builtin .max, args := #[x, y], argTypes := ts }, ty, pos, after, g⟩ env H (.int k r) := fun a w hf _ => by
  simp [execOp, resolve, hf.eval hx, hf.eval hy, invoke, builtin, Builtin.max_, Builtin.max2, hr]
theorem p_not {t : TypeId} {x : Operand} {b : Bool} (hx : look env x = some (.bool b)) : Pure1 P B w0 N D ⟨dst, .unOp .not t x, ty, pos, after, g⟩ env H (.bool (!b)) := fun a w hf _ => by
  simp [execOp, hf.eval hx, Op.unary]
theorem p_makeFunc {fn : Fn} {xs ys : List Operand} {us vs : List Value} (hx : looks env xs = some us) (hy : looks env ys = some vs) : Pure1 P B w0 N D ⟨dst, .makeFunc fn xs.toArray ys.toArray, ty, pos, after, g⟩ env H (.func fn us.toArray vs.toArray) := fun a w hf _ => by
  have h1 := hf.evals hx
  have h2 := hf.evals hy
  simp [execOp, Instr.makeFunc, h1, h2]
theorem p_build {t : TypeId} {ps : List (Nat × Operand)} {vs : List Value} {cs : List Value} (hx : looks env (ps.map (·.2)) = some vs) (hb : P.built t ((ps.map (·.1)).zip vs) = some cs.toArray) :
    Pure1 P B w0 N D ⟨dst, .build t ps.toArray, ty, pos, after, g⟩ env H (.agg cs.toArray) := fun a w hf _ => by
  have h1 := hf.evals hx
  have h2 : (ps.map fun p => (p.1, a.eval p.2)) = (ps.map (·.1)).zip vs := by
    rw [← h1]
    clear h1 hx hb
    induction ps with
    | nil => rfl
    | cons p ps ih => simp [ih]
  have h3 := run_build (P := P) w t ((ps.map (·.1)).zip vs).toArray cs.toArray (by simpa using hb)
  simp [execOp, h2, h3]
theorem p_buildAll {t : TypeId} {ps : List (Nat × Operand)} {vs : List Value} (hx : looks env (ps.map (·.2)) = some vs) (hb : P.built t ((ps.map (·.1)).zip vs) = some vs.toArray) :
    Pure1 P B w0 N D ⟨dst, .build t ps.toArray, ty, pos, after, g⟩ env H (.agg vs.toArray) := p_build hx hb
/-- x[:h], the slice's own head; x[l:]; x[l:h]: of a slice. -/
theorem p_sliceTo {t e : TypeId} {x hi : Operand} {A : Option Addr} {n c : Nat} {k : IntKind} {h : Nat} {m : Int} (hx : look env x = some (.slice A n c)) (hh : look env hi = some (.int k m)) (hm : m = (h : Int)) (hsl : Slc P t e) (hle : h ≤ c) :
    Pure1 P B w0 N D ⟨dst, .slice t x none (some hi) none, ty, pos, after, g⟩ env H (.slice A h c) := fun a w hf _ => by
  subst hm
  obtain ⟨ht, d, hd, hr, hs⟩ := hsl
  have h2 : ((h : Int) ≤ (c : Int)) := by omega
  simp [execOp, hf.eval hx, hf.eval hh, Instr.sliceAt, Instr.slice, run_underlying ht, sizeOf_ok hs, Instr.sliceBounds, Instr.sliceBound, asIntOf, hle]
  cases A <;> simp [Addr.add_zero']
theorem p_sliceFrom {t e : TypeId} {x lo : Operand} {A : Option Addr} {n c : Nat} {k : IntKind} {l : Nat} {m : Int} (hx : look env x = some (.slice A n c)) (hh : look env lo = some (.int k m)) (hm : m = (l : Int)) (hsl : Slc P t e) (hle : l ≤ n) :
    Pure1 P B w0 N D ⟨dst, .slice t x (some lo) none none, ty, pos, after, g⟩ env H (.slice (cutA A c l) (n - l) (c - l)) := fun a w hf _ => by
  subst hm
  obtain ⟨ht, d, hd, hr, hs⟩ := hsl
  have h2 : ((l : Int) ≤ (n : Int)) := by omega
  simp [execOp, hf.eval hx, hf.eval hh, Instr.sliceAt, Instr.slice, run_underlying ht, sizeOf_ok hs, Instr.sliceBounds, Instr.sliceBound, asIntOf, hle, cutA]
/-- x[:] of an array that lies in memory. -/
theorem p_sliceArr {t e : TypeId} {x : Operand} {b off len : Nat} (hx : look env x = some (.pointer (some ⟨b, off, none⟩))) (ha : Arr P t len e) :
    Pure1 P B w0 N D ⟨dst, .slice t x none none none, ty, pos, after, g⟩ env H (.slice (some ⟨b, off, none⟩) len len) := fun a w hf _ => by
  obtain ⟨ht, _, _, _, hs⟩ := ha
  simp [execOp, hf.eval hx, Instr.sliceAt, run_underlying ht, Instr.sureAddr, sizeOf_ok hs, Instr.sliceBounds, Addr.add_zero']
theorem op_makeSlice {d : Nat} {t e : TypeId} {x y : Operand} {kl kc : IntKind} {l c bytes : Nat} {m n : Int} {z : Value} (hx : look env x = some (.int kl m)) (hy : look env y = some (.int kc n)) (hm : m = (l : Int)) (hn : n = (c : Int)) (ht : P.underlying t = some (.slice e)) (he : El P e z bytes)
    (hlc : l ≤ c) (hby : bytes * c ≤ 281474976710656) (h63 : c ≤ 9223372036854775807) (hd : Nat.blt d N = true) (hB : B ≤ w0.w.heap.size)
    (h : ∀ b, T ((d, .slice (some ⟨b, 0, none⟩) l c) :: env) ((b, .cells (List.replicate c z).toArray e (0, 0)) :: H)) : Op1 P B w0 N D ⟨some d, .makeSlice t x y, ty, pos, after, g⟩ env H T := fun K Q hT a w hf hm' => by
  subst hm hn
  obtain ⟨i, hi, hz, hs, hb, hzc⟩ := he
  have hbi : (i.bytes : Int) * (c : Int) ≤ 281474976710656 := by
    have h2 : ((i.bytes * c : Nat) : Int) ≤ 281474976710656 := by rw [hb]; omega
    rwa [Int.natCast_mul] at h2
  have hr := run_make (P := P) w t e i z ht hi hz kl kc (l : Int) (c : Int) (by omega) (by omega) hbi (by omega)
  simp only [Int.toNat_natCast, hs, Nat.mul_one, hzc, madeCells_one] at hr
  have h1 : (execOp a.eval ⟨some d, .makeSlice t x y, ty, pos, after, g⟩).run P w = .ok (.value (.slice (some ⟨w.heap.size, 0, none⟩) l c)) (w.alloc (.cells (List.replicate c z).toArray e)) := by
    simp [execOp, hf.eval hx, hf.eval hy, hr]
  unfold Oper.wp
  rw [h1]
  exact hT _ _ (h w.heap.size) _ _ (hf.put hd _) (hm'.alloc hB _)
/-- A slice literal. -/
theorem op_buildSlice {d n : Nat} {t e : TypeId} {ps : List (Nat × Operand)} {vs cs : List Value} {z : Value} {bytes : Nat} (hx : looks env (ps.map (·.2)) = some vs) (ht : P.underlying t = some (.slice e)) (he : El P e z bytes) (hn : n ≤ 65536) (hn0 : n ≠ 0)
    (hb : Instr.fill (fun i => some (i * 1, 1)) (List.replicate n z).toArray ((ps.map (·.1)).zip vs) = some cs.toArray) (hd : Nat.blt d N = true) (hB : B ≤ w0.w.heap.size)
    (h : ∀ b, T ((d, .slice (some ⟨b, 0, none⟩) n n) :: env) ((b, .cells cs.toArray e (0, 0)) :: H)) : Op1 P B w0 N D ⟨some d, .buildSlice t n ps.toArray, ty, pos, after, g⟩ env H T := fun K Q hT a w hf hm => by
  obtain ⟨i, hi, hz, hs, _, hzc⟩ := he
  have hsz : (sizeOf e).run P w = .ok 1 w := sizeOf_ok (by rw [hi]; simp [hs]) w
  have hzv : (zeroValue e).run P w = .ok z w := by unfold zeroValue; simp [typeInfo, hi, hz]
  have h1 := hf.evals hx
  have h2 : (ps.map fun p => (p.1, a.eval p.2)) = (ps.map (·.1)).zip vs := by
    rw [← h1]
    clear h1 hx hb
    induction ps with
    | nil => rfl
    | cons p ps ih => simp [ih]
  have hmk : (Array.range n).map (fun k => #[z][k % #[z].size]!) = (List.replicate n z).toArray := madeCells_one z n
  have h3 : (execOp a.eval ⟨some d, .buildSlice t n ps.toArray, ty, pos, after, g⟩).run P w = .ok (.value (.slice (some ⟨w.heap.size, 0, none⟩) n n)) (w.alloc (.cells cs.toArray e)) := by
    have h6 : ¬ (2 ^ 24 < n * 1) := by omega
    have h7 : ¬ (n * 1 = 0) := by omega
    have hbs : (Instr.buildSlice t n ((ps.map fun p => (p.1, a.eval p.2)).toArray)).run P w = .ok (.slice (some ⟨w.heap.size, 0, none⟩) n n) (w.alloc (.cells cs.toArray e)) := by
      unfold Instr.buildSlice
      simp only [Sem.run_bind, run_underlying ht, Result.andThen_ok, hsz, gt_iff_lt]
      rw [if_neg h6, if_neg h7]
      simp only [Sem.run_bind, hzv, Result.andThen_ok, Sem.run_pure, hzc]
      simp only [Nat.mul_one, hmk, h2]
      simp only [Nat.mul_one] at hb
      rw [hb]
      simp [newRow]
    simp only [execOp, List.map_toArray, Sem.run_bind]
    rw [show (List.map (fun (x : Nat × Operand) => match x with | (i, x) => (i, a.eval x)) ps) = ps.map fun p => (p.1, a.eval p.2) from rfl, hbs]
    rfl
  unfold Oper.wp
  rw [h3]
  exact hT _ _ (h w.heap.size) _ _ (hf.put hd _) (hm.alloc hB _)
theorem op_buildSliceAll {d n : Nat} {t e : TypeId} {ps : List (Nat × Operand)} {vs : List Value} {z : Value} {bytes : Nat} (hx : looks env (ps.map (·.2)) = some vs) (ht : P.underlying t = some (.slice e)) (he : El P e z bytes) (hn : n ≤ 65536) (hn0 : n ≠ 0)
    (hb : Instr.fill (fun i => some (i * 1, 1)) (List.replicate n z).toArray ((ps.map (·.1)).zip vs) = some vs.toArray) (hd : Nat.blt d N = true) (hB : B ≤ w0.w.heap.size)
    (h : ∀ b, T ((d, .slice (some ⟨b, 0, none⟩) n n) :: env) ((b, .cells vs.toArray e (0, 0)) :: H)) : Op1 P B w0 N D ⟨some d, .buildSlice t n ps.toArray, ty, pos, after, g⟩ env H T := op_buildSlice hx ht he hn hn0 hb hd hB h
/-- append to a row of the call's own: it may move. -/
theorem op_append {d : Nat} {t e : TypeId} {x y : Operand} {z : Value} {bytes : Nat} {b n cap m c : Nat} {xs sp news : List Value} {A : Option Addr} {H' : Hp} (hx : look env x = some (.slice (some ⟨b, 0, none⟩) n cap)) (hy : look env y = some (.slice A m c))
    (ht : P.underlying t = some (.slice e)) (he : El P e z bytes) (hdel : Del H b (.cells (xs ++ sp).toArray e (0, 0)) H') (hn : xs.length = n) (hcap : (xs ++ sp).length = cap) (hcm : cap ≤ maxLen)
    (hsrc : ∀ w, Mem B w0 H w → Reads w A m news) (h1 : ∀ u ∈ news, u.oneCell' = true) (h63 : n + m ≤ maxLen) (hby : (n + m) * bytes ≤ 140737488355328) (hd : Nat.blt d N = true) (hB : B ≤ w0.w.heap.size)
    (h : ∀ b' cap' sp', (xs ++ news ++ sp').length = cap' → cap' ≤ maxLen → T ((d, .slice (some ⟨b', 0, none⟩) (n + m) cap') :: env) ((b', .cells (xs ++ news ++ sp').toArray e (0, 0)) :: H')) :
    Op1 P B w0 N D ⟨some d, .call { callee := .builtin .append, args := #[x, y], argTypes := #[t, t] }, ty, pos, after, g⟩ env H T := fun K Q hT a w hf hm => by
  obtain ⟨i, hi, hz, hs, hb, hzc⟩ := he
  have hbB := (hm.own _ hdel.mem).1
  have hown : w.ownsRow 0 e 1 (.slice (some ⟨b, 0, none⟩) n cap) n xs := by
    refine ⟨by simp [hn], .inr ⟨b, cap, _, rfl, Nat.zero_le _, (hm.own _ hdel.mem).2, ?_, hcm, by simpa using hcap, ?_⟩⟩
    · rw [← hcap, ← hn]; simp
    · simp [← hn]
  have hrd := hsrc w hm
  have hex : ∃ v' w', (Builtin.append_ #[t, t] ty #[.slice (some ⟨b, 0, none⟩) n cap, .slice A m c]).run P w = .ok v' w' ∧ w'.ownsRow 0 e 1 v' (n + m) (xs ++ news) ∧ w.grownBy w' (some b) ∧ v' ≠ .slice none 0 0 ∧ (v'.ownBlock = some b ∨ v'.ownBlock = some w.heap.size) := by
    by_cases hm0 : m = 0
    · subst hm0
      have hnl : news = [] := List.eq_nil_of_length_eq_zero hrd.1
      subst hnl
      refine ⟨.slice (some ⟨b, 0, none⟩) n cap, w, ?_, by simpa using hown, World.grownBy.refl w _, by simp, .inl rfl⟩
      have hnc : n ≤ cap := by rw [← hcap, ← hn]; simp
      have hsz : (sizeOf e).run P w = .ok 1 w := sizeOf_ok (by rw [hi]; simp [hs]) w
      cases A <;> simp [Builtin.append_, run_underlying ht, hsz, Builtin.lenOf, Builtin.firstCells, hnc, storeCells, loadCells, loadCellsFrom]
    · obtain ⟨b2, off2, rfl, _, hc2⟩ := hrd.2 hm0
      obtain ⟨v', w', hrun, h2, h3, h4, h5⟩ := run_append_own_at (P := P) w 0 t ty e i z 1 bytes ht hi hz hs hb (by rw [hzc]; rfl) (by omega) _ n xs hown ⟨b2, off2, none⟩ m c news (by simp [hrd.1]) (fun j u hu => by rw [Addr.add_mid]; exact hc2 j u hu) h1 h63 hby (Nat.zero_le _)
      exact ⟨v', w', hrun, h2, h3, fun e => by have := (h4.1 e).1; simp at this, h5⟩
  obtain ⟨v', w', hrun, h2, h3, h4, h5⟩ := hex
  have hrun2 : (execOp a.eval ⟨some d, .call { callee := .builtin .append, args := #[x, y], argTypes := #[t, t] }, ty, pos, after, g⟩).run P w = .ok (.value v') w' := by
    simp [execOp, resolve, hf.eval hx, hf.eval hy, invoke, builtin, hrun]
  unfold Oper.wp
  rw [hrun2]
  obtain ⟨hlen, hform⟩ := h2
  rcases hform with ⟨hv, _⟩ | ⟨g', cap', cur, rfl, hg', hh, hnc', hcm', hcs, htk⟩
  · exact absurd hv h4
  · have hg2 : g' = b ∨ g' = w.heap.size := by simpa [Value.ownBlock] using h5
    have hsp : cur = (xs ++ news ++ cur.toList.drop (n + m)).toArray := by
      rw [← htk]
      simp
    have hm1 := hm.del hdel
    have hbelow : Chg B w0.bs w0.w w' := hm.chg.step hB h3.os h3.tape h3.output h3.size (fun k hk hn => h3.block k (by have := hm.chg.size; omega) (fun e => by
      simp only [Option.some.injEq] at e
      subst e
      rcases hbB with h | h
      · simp only at h; omega
      · exact hn h))
    refine hT _ _ (h g' cap' (cur.toList.drop (n + m)) (by have := congrArg Array.size hsp; rw [hcs] at this; simpa using this.symm) hcm') _ _ (hf.put hd _) ⟨hm.room, hbelow, fun p hp => ?_, List.pairwise_cons.2 ⟨fun p hp => ?_, hm1.apart⟩⟩
    · rcases List.mem_cons.1 hp with rfl | hp
      · refine ⟨?_, by rw [← hsp]; exact hh⟩
        rcases hg2 with e | e
        · show B ≤ g' ∨ g' ∈ w0.bs
          rw [e]; exact hbB
        · exact .inl (by have := hm.chg.size; simp only; omega)
      · exact ⟨(hm1.own p hp).1, (h3.block p.1 (hm1.lt hp) (fun e => by simp only [Option.some.injEq] at e; exact hdel.ne hm.apart p hp e)).trans (hm1.own p hp).2⟩
    · have h6 := hdel.ne hm.apart p hp
      have h7 := hm1.lt hp
      show g' ≠ p.1
      omega
/-- append to a slice that is nil. -/
theorem op_appendNil {d : Nat} {t e : TypeId} {x y : Operand} {z : Value} {bytes : Nat} {m c : Nat} {news : List Value} {A : Option Addr} (hx : look env x = some (.slice none 0 0)) (hy : look env y = some (.slice A m c))
    (ht : P.underlying t = some (.slice e)) (he : El P e z bytes) (hsrc : ∀ w, Mem B w0 H w → Reads w A m news) (h1 : ∀ u ∈ news, u.oneCell' = true) (h63 : m ≤ maxLen) (hby : m * bytes ≤ 140737488355328) (hd : Nat.blt d N = true) (hB : B ≤ w0.w.heap.size)
    (h0 : m = 0 → T ((d, .slice none 0 0) :: env) H)
    (h : ∀ b' cap' sp', m ≠ 0 → (news ++ sp').length = cap' → cap' ≤ maxLen → T ((d, .slice (some ⟨b', 0, none⟩) m cap') :: env) ((b', .cells (news ++ sp').toArray e (0, 0)) :: H)) :
    Op1 P B w0 N D ⟨some d, .call { callee := .builtin .append, args := #[x, y], argTypes := #[t, t] }, ty, pos, after, g⟩ env H T := fun K Q hT a w hf hm => by
  obtain ⟨i, hi, hz, hs, hb, hzc⟩ := he
  have hrd := hsrc w hm
  by_cases hm0 : m = 0
  · subst hm0
    have hsz : (sizeOf e).run P w = .ok 1 w := sizeOf_ok (by rw [hi]; simp [hs]) w
    have hrun2 : (execOp a.eval ⟨some d, .call { callee := .builtin .append, args := #[x, y], argTypes := #[t, t] }, ty, pos, after, g⟩).run P w = .ok (.value (.slice none 0 0)) w := by
      cases A <;> simp [execOp, resolve, hf.eval hx, hf.eval hy, invoke, builtin, Builtin.append_, run_underlying ht, hsz, Builtin.lenOf, Builtin.firstCells, loadCells, loadCellsFrom]
    unfold Oper.wp
    rw [hrun2]
    exact hT _ _ (h0 rfl) _ _ (hf.put hd _) hm
  · obtain ⟨b2, off2, rfl, _, hc2⟩ := hrd.2 hm0
    obtain ⟨v', w', hrun, h2, h3, h4, h5⟩ := run_append_own_at (P := P) w 0 t ty e i z 1 bytes ht hi hz hs hb (by rw [hzc]; rfl) (by omega) (.slice none 0 0) 0 [] ⟨rfl, .inl ⟨rfl, rfl⟩⟩ ⟨b2, off2, none⟩ m c news (by simp [hrd.1]) (fun j u hu => by rw [Addr.add_mid]; exact hc2 j u hu) h1 (by omega) (by simpa using hby) (Nat.zero_le _)
    have hrun2 : (execOp a.eval ⟨some d, .call { callee := .builtin .append, args := #[x, y], argTypes := #[t, t] }, ty, pos, after, g⟩).run P w = .ok (.value v') w' := by
      simp [execOp, resolve, hf.eval hx, hf.eval hy, invoke, builtin, hrun]
    unfold Oper.wp
    rw [hrun2]
    obtain ⟨hlen, hform⟩ := h2
    rcases hform with ⟨hv, _⟩ | ⟨g', cap', cur, rfl, hg', hh, hnc', hcm', hcs, htk⟩
    · exact absurd (h4.1 hv).2 hm0
    · have hg2 : g' = w.heap.size := by simpa [Value.ownBlock] using h5
      simp only [Nat.zero_add, Nat.mul_one, List.nil_append] at htk hh ⊢
      have hsp : cur = (news ++ cur.toList.drop m).toArray := by
        rw [← htk]
        simp
      have hbelow : Chg B w0.bs w0.w w' := hm.chg.step hB h3.os h3.tape h3.output h3.size (fun k hk _ => h3.block k (by have := hm.chg.size; omega) (fun e => by simp [Value.ownBlock] at e))
      refine hT _ _ (h g' cap' (cur.toList.drop m) hm0 (by have := congrArg Array.size hsp; rw [hcs] at this; simpa using this.symm) hcm') _ _ (hf.put hd _) ⟨hm.room, hbelow, fun p hp => ?_, List.pairwise_cons.2 ⟨fun p hp => ?_, hm.apart⟩⟩
      · rcases List.mem_cons.1 hp with rfl | hp
        · exact ⟨.inl (by have := hm.chg.size; simp only; omega), by rw [← hsp]; exact hh⟩
        · exact ⟨(hm.own p hp).1, (h3.block p.1 (hm.lt hp) (fun e => by simp [Value.ownBlock] at e)).trans (hm.own p hp).2⟩
      · have h7 := hm.lt hp
        show g' ≠ p.1
        omega
end ops
/-! ### text -/
section text
variable {P : Program} {B : Nat} {w0 : Base} {N : Nat} {D : List Deferred} {env : Env} {H : Hp} {T : Env → Hp → Prop} {ty : TypeId} {pos : String} {after : Array Edge} {g : Option (Nat × Bool)}
end text
end Go.K
/-
  Structs, and pointers to them.
-/
namespace Go.K
open Go Go.RowKit
variable {P : Program} {B : Nat} {w0 : Base} {N : Nat} {D : List Deferred} {env : Env} {H : Hp} {T : Env → Hp → Prop} {ty : TypeId} {pos : String} {after : Array Edge} {g : Option (Nat × Bool)} {dst : Option Nat}
/-- A field of a struct: where it stands. -/
def FldAt (P : Program) (s : TypeId) (i off : Nat) : Prop := ∃ fs f n, P.underlying s = some (.struct fs) ∧ fs[i]? = some f ∧ f.offset = off ∧ (P.info? f.type).map (·.size) = some (n + 1)
theorem p_fieldAddr {s : TypeId} {x : Operand} {b o i off : Nat} (hx : look env x = some (.pointer (some ⟨b, o, none⟩))) (hf : FldAt P s i off) :
    Pure1 P B w0 N D ⟨dst, .fieldAddr s x i, ty, pos, after, g⟩ env H (.pointer (some ⟨b, o + off, none⟩)) := fun a w hfit _ => by
  obtain ⟨fs, f, n, hu, hi, rfl, hs⟩ := hf
  simp [execOp, hfit.eval hx, Instr.fieldAt, run_underlying hu, hi, Instr.sureAddr, fieldPlace, sizeOf_ok hs, Addr.add_mid]
theorem p_fieldAddr0 {s : TypeId} {x : Operand} {b i off : Nat} (hx : look env x = some (.pointer (some ⟨b, 0, none⟩))) (hf : FldAt P s i off) :
    Pure1 P B w0 N D ⟨dst, .fieldAddr s x i, ty, pos, after, g⟩ env H (.pointer (some ⟨b, off, none⟩)) := by
  have := p_fieldAddr (P := P) (B := B) (w0 := w0) (N := N) (D := D) (H := H) (dst := dst) (ty := ty) (pos := pos) (after := after) (g := g) hx hf
  rwa [Nat.zero_add] at this
theorem p_nilCheck {x : Operand} {p : Addr} (hx : look env x = some (.pointer (some p))) : Pure1 P B w0 N D ⟨dst, .nilCheck x, ty, pos, after, g⟩ env H (.pointer (some p)) := fun a w hfit _ => by
  simp [execOp, hfit.eval hx]
theorem p_neq_nil {t yT : TypeId} {x y : Operand} {p : Option Addr} (hx : look env x = some (.pointer p)) (hy : look env y = some (.pointer none)) (ht : P.underlying t = some (.pointer (P.pointee t))) :
    Pure1 P B w0 N D ⟨dst, .binOp .neq t x y yT, ty, pos, after, g⟩ env H (.bool (!p.isNone)) := fun a w hfit _ => by
  simp only [execOp, hfit.eval hx, hfit.eval hy, eqGuard_at_pointer, Sem.run_bind, Sem.run_pure, Result.andThen_ok]
  rw [run_neq_pointer_nil w t p ht]
  simp
theorem p_eql_nil {t yT : TypeId} {x y : Operand} {p : Option Addr} (hx : look env x = some (.pointer p)) (hy : look env y = some (.pointer none)) (ht : P.underlying t = some (.pointer (P.pointee t))) :
    Pure1 P B w0 N D ⟨dst, .binOp .eql t x y yT, ty, pos, after, g⟩ env H (.bool p.isNone) := fun a w hfit _ => by
  simp only [execOp, hfit.eval hx, hfit.eval hy, eqGuard_at_pointer, Sem.run_bind, Sem.run_pure, Result.andThen_ok]
  rw [run_eql_pointer_nil w t p ht]
  simp
end Go.K
/-
  More operations: minus, complement, a byte of a text, copy, a cut of an array that lies in memory; numbers of 32 bits as such.
-/
namespace Go.K
open Go Go.RowKit
variable {P : Program} {B : Nat} {w0 : Base} {N : Nat} {D : List Deferred} {env : Env} {H : Hp} {T : Env → Hp → Prop} {ty : TypeId} {pos : String} {after : Array Edge} {g : Option (Nat × Bool)} {dst : Option Nat}
theorem p_compl {t : TypeId} {x : Operand} {k : IntKind} {m r : Int} (hx : look env x = some (.int k m)) (h : bits .xor k (if k.signed then -1 else k.max) m = r) : Pure1 P B w0 N D ⟨dst, .unOp .xor t x, ty, pos, after, g⟩ env H (.int k r) := fun a w hf _ => by
  simp only [execOp, hf.eval hx, Op.unary, Sem.run_bind, intBits_xor, h, Sem.run_pure, Result.andThen_ok]
theorem k32_not (x : UInt32) : bits .xor .u32 (if IntKind.u32.signed then -1 else IntKind.u32.max) (x.toNat : Int) = ((~~~x).toNat : Int) := by
  have h1 : (if IntKind.u32.signed then -1 else IntKind.u32.max) = ((0xffffffff : UInt32).toNat : Int) := by decide
  rw [h1, k32_xor]
  congr 2
theorem p_loadPart {t : TypeId} {x : Operand} {b off n : Nat} {cs xs : List Value} {et : TypeId} {fr : Nat × Nat} (hx : look env x = some (.pointer (some ⟨b, off, none⟩))) (hrow : Row P t n)
    (hH : (b, Obj.cells cs.toArray et fr) ∈ H) (hl : off + n ≤ cs.length) (hxs : (cs.drop off).take n = xs) : Pure1 P B w0 N D ⟨dst, .load t x, ty, pos, after, g⟩ env H (.agg xs.toArray) := by
  subst hxs; exact p_loadMid hx hrow hH hl
/-- copy into a row that is known; both may not be the same. -/
theorem op_copy {d : Nat} {t u e : TypeId} {x y : Operand} {b off dn dc sn sc n : Nat} {A : Option Addr} {cs xs : List Value} {et : TypeId} {H' : Hp} (hx : look env x = some (.slice (some ⟨b, off, none⟩) dn dc)) (hy : look env y = some (.slice A sn sc))
    (ht : Slc P t e) (hn : min sn dn = n) (hsrc : ∀ w, Mem B w0 H w → Reads w A sn xs) (h1 : ∀ v ∈ xs, v.oneCell' = true)
    (hat : At H b (.cells cs.toArray et (0, 0)) (.cells (lay cs off (xs.take n)).toArray et (0, 0)) H') (hlt : off + n ≤ cs.length) (hd : Nat.blt d N = true) (h : T ((d, .int .i64 (n : Int)) :: env) H') :
    Op1 P B w0 N D ⟨some d, .call { callee := .builtin .copy, args := #[x, y], argTypes := #[t, u] }, ty, pos, after, g⟩ env H T := fun K Q hT a w hf hm => by
  obtain ⟨htu, _, _, _, hs⟩ := ht
  have hb := hm.at_ hat
  have hrd := hsrc w hm
  have key : (Builtin.copy_ #[t, u] ty #[.slice (some ⟨b, off, none⟩) dn dc, .slice A sn sc]).run P w = .ok (goInt n) (w.setCells b off (xs.take n)) := by
    by_cases hn0 : n = 0
    · subst hn0
      rw [List.take_zero]
      exact run_copy_none w t u ty e _ _ _ _ _ _ htu hs hn
    · obtain ⟨b2, o2, rfl, _, hc2⟩ := hrd.2 (by omega)
      have hlen : (xs.take n).length = n := by rw [List.length_take, hrd.1]; omega
      have := run_copy_cells (P := P) w t u ty e b off dn dc ⟨b2, o2, none⟩ sn sc (xs.take n) htu hs (by rw [hlen]; exact hn.symm) (fun j v hv => by
          rw [Addr.add_mid]
          refine hc2 j v ?_
          rcases Nat.lt_or_ge j n with hj | hj
          · rwa [List.getElem?_take_of_lt hj] at hv
          · rw [List.getElem?_eq_none (by omega)] at hv; cases hv)
        (fun j hj => by rw [cell_of_row w b _ _ _ _ hb]; simp; omega) (fun j hj => frozen_of_row w b _ _ _ hb) (fun v hv => h1 v (List.mem_of_mem_take hv))
      rw [hlen] at this
      exact this
  have hrun : (execOp a.eval ⟨some d, .call { callee := .builtin .copy, args := #[x, y], argTypes := #[t, u] }, ty, pos, after, g⟩).run P w = .ok (.value (.int .i64 (n : Int))) (w.setCells b off (xs.take n)) := by
    simp [execOp, resolve, hf.eval hx, hf.eval hy, invoke, builtin, key, goInt]
  unfold Oper.wp
  rw [hrun]
  exact hT _ _ h _ _ (hf.put hd _) (Mem.lay _ _ _ _ _ off hm hat)
end Go.K
/-
  A region that draws its order, whose last operations (stores, assignments) wait for all that stand before them: what stands before is read in the order of the text, each operation quiet; then the last ones, one by one.
-/
namespace Go.K
open Go Go.RowKit
def nopOf (o : Oper) : Oper := { dst := none, op := .move (.const (.bool true)), type := o.type, pos := o.pos, after := o.after, guard := none }
def nopTail : Nat → List Oper → List Oper
  | 0, l => l.map nopOf
  | _ + 1, [] => []
  | n + 1, o :: r => o :: nopTail n r
theorem nopTail_get (L : List Oper) : ∀ (n j : Nat), (nopTail n L)[j]? = if j < n then L[j]? else (L[j]?).map nopOf := by
  induction L with
  | nil => intro n j; cases n <;> simp [nopTail]
  | cons o r ih =>
    intro n j
    cases n with
    | zero => simp [nopTail, ← List.map_cons]
    | succ n =>
      cases j with
      | zero => simp [nopTail]
      | succ j =>
        rw [nopTail, List.getElem?_cons_succ, ih n j, List.getElem?_cons_succ]
        simp
theorem nopTail_length (L : List Oper) : ∀ n, (nopTail n L).length = L.length := by
  induction L with
  | nil => intro n; cases n <;> rfl
  | cons o r ih => intro n; cases n <;> simp [nopTail, ih]
def edgeB (L : List Oper) (k j : Nat) : Bool := match L[k]? with
  | none => false
  | some o => o.after.any fun e => Region.binds .any e && Nat.beq e.on j
/-- Each edge that binds leads back; the last operations wait, by way of others perhaps, for all that stand before them. -/
def tailB (L : List Oper) (n : Nat) : Bool :=
  Nat.blt n L.length && ((List.range L.length).all fun i => match L[i]? with
    | none => true
    | some o => o.after.all fun e => !Region.binds .any e || Nat.blt e.on i) &&
  (List.range L.length).all fun i => Nat.blt i n || (List.range i).all fun j => (List.range' (j + 1) (i - j)).any fun k => edgeB L k j
def guardsB (L : List Oper) (n : Nat) : Bool := (List.range n).all fun i => match L[i]? with
  | some o => match o.guard with
    | some (j, _) => Nat.blt j n
    | none => true
  | none => true
section
variable {P : Program} {Q : Exit → Act → World → Prop} {C : World → Prop} {L : List Oper} {n : Nat}
theorem tailB_back (h : tailB L n = true) {i : Nat} {o : Oper} (ho : L[i]? = some o) : ∀ e ∈ o.after, Region.binds .any e = true → e.on < i := by
  intro e he hb
  simp only [tailB, Bool.and_eq_true, List.all_eq_true, List.mem_range] at h
  have h1 := h.1.2 i (List.getElem?_eq_some_iff.1 ho).1
  simp only [ho, Array.all_eq_true_iff_forall_mem] at h1
  have h2 := h1 e he
  simpa [hb] using h2
theorem tailB_all (h : tailB L n = true) {i : Nat} (hil : i < L.length) (hi : n ≤ i) {j : Nat} (hj : j < i) : ∃ k o, j < k ∧ k ≤ i ∧ L[k]? = some o ∧ ∃ e ∈ o.after, Region.binds .any e = true ∧ e.on = j := by
  simp only [tailB, Bool.and_eq_true, List.all_eq_true, List.mem_range] at h
  have h1 := h.2 i hil
  simp only [Bool.or_eq_true, List.all_eq_true, List.mem_range] at h1
  have h2 := (h1.resolve_left (by simp; omega)) j hj
  rw [List.any_eq_true] at h2
  obtain ⟨k, hk, h3⟩ := h2
  have hk' := List.mem_range'_1.1 hk
  unfold edgeB at h3
  cases ho : L[k]? with
  | none => simp [ho] at h3
  | some o =>
    simp only [ho] at h3
    obtain ⟨m, hm, h4⟩ := Array.any_eq_true.1 h3
    simp only [Bool.and_eq_true] at h4
    exact ⟨k, o, by omega, by omega, ho, o.after[m], Array.getElem_mem hm, h4.1, Nat.eq_of_beq_eq_true h4.2⟩
theorem tailB_lt (h : tailB L n = true) : n < L.length := by
  simp only [tailB, Bool.and_eq_true] at h
  simpa using h.1.1
theorem after_nop (i : Nat) : ((nopTail n L).toArray[i]?).map (·.after) = (L.toArray[i]?).map (·.after) := by
  simp only [List.getElem?_toArray, nopTail_get]
  split
  · rfl
  · cases L[i]? <;> rfl
theorem ready_nop (listed : Array Bool) : Region.ready .any (nopTail n L).toArray listed = Region.ready .any L.toArray listed := by
  unfold Region.ready
  have hs : (nopTail n L).toArray.size = L.toArray.size := by simp [nopTail_length]
  rw [hs]
  refine List.filter_congr fun i _ => ?_
  have h : ∀ (o : Option Oper), (o.map (·.after.all fun e => !Region.binds .any e || listed.getD e.on false)) = (o.map (·.after)).map (·.all fun e => !Region.binds .any e || listed.getD e.on false) := fun o => by cases o <;> rfl
  rw [h, h, after_nop]
theorem wanted_nop (hg : guardsB L n = true) {i : Nat} {o : Oper} (hi : i < n) (ho : L[i]? = some o) (tm : Array Value) : Region.wanted o (yielded (nopTail n L).toArray tm) = Region.wanted o (yielded L.toArray tm) := by
  simp only [guardsB, List.all_eq_true, List.mem_range] at hg
  have h1 := hg i hi
  simp only [ho] at h1
  unfold Region.wanted
  cases hgd : o.guard with
  | none => rfl
  | some p =>
    obtain ⟨j, want⟩ := p
    simp only [hgd] at h1
    have hj : j < n := by simpa using h1
    simp only [yielded, List.getElem?_toArray, nopTail_get, hj, if_true]
/-- somebody may come up as long as not all have -/
theorem ready_live (h : tailB L n = true) {listed : Array Bool} (hs : listed.size = L.length) : ∀ j, j < L.length → listed.getD j true = false → Region.ready .any L.toArray listed ≠ [] := by
  intro j
  induction j using Nat.strongRecOn with
  | ind j ih =>
    intro hj hl
    obtain ⟨o, ho⟩ : ∃ o, L[j]? = some o := ⟨_, List.getElem?_eq_getElem hj⟩
    by_cases hall : ∀ e ∈ o.after, Region.binds .any e = true → listed.getD e.on false = true
    · intro he
      have : j ∈ Region.ready .any L.toArray listed := mem_ready.2 ⟨hl, o, by simpa using ho, hall⟩
      rw [he] at this
      cases this
    · simp only [Classical.not_forall] at hall
      obtain ⟨e, he, hb, hn⟩ := hall
      have hlt := tailB_back h ho e he hb
      refine ih e.on hlt (by omega) ?_
      have hsz : e.on < listed.size := by omega
      simp [hsz] at hn ⊢
      exact hn
/-- who has come up has waited for whom it waits -/
def Down (L : List Oper) (listed : Array Bool) : Prop := ∀ i o, L[i]? = some o → listed.getD i false = true → ∀ e ∈ o.after, Region.binds .any e = true → listed.getD e.on false = true
theorem Down.set {listed : Array Bool} (h : Down L listed) {i : Nat} (hi : i ∈ Region.ready .any L.toArray listed) : Down L (listed.setIfInBounds i true) := by
  intro k o ho hk e he hb
  by_cases hki : i = k
  · subst hki
    obtain ⟨_, o', ho', hall⟩ := mem_ready.1 hi
    have : o' = o := by simp only [List.getElem?_toArray, ho, Option.some.injEq] at ho'; exact ho'.symm
    subst this
    exact getD_set_true (hall e he hb)
  · rw [getD_set_ne false hki] at hk
    exact getD_set_true (h k o ho hk e he hb)
/-- one of the last ones comes up: all before it have -/
theorem ready_tail (h : tailB L n = true) {listed : Array Bool} (hdn : Down L listed) {i : Nat} (hi : i ∈ Region.ready .any L.toArray listed) (hn : n ≤ i) : ∀ j, j < i → listed.getD j false = true := by
  obtain ⟨_, o, ho, hall⟩ := mem_ready.1 hi
  have ho' : L[i]? = some o := by simpa using ho
  have hil := (List.getElem?_eq_some_iff.1 ho').1
  have key : ∀ d j, j < i → i - j ≤ d → listed.getD j false = true := by
    intro d
    induction d with
    | zero => intro j hj hd; omega
    | succ d ih =>
      intro j hj hd
      obtain ⟨k, ok, hjk, hki, hok, e, he, hb, hej⟩ := tailB_all h hil hn hj
      subst hej
      by_cases hk : k = i
      · subst hk
        have : ok = o := by rw [ho'] at hok; cases hok; rfl
        subst this
        exact hall e he hb
      · exact hdn k ok hok (ih k (by omega) (by omega)) e he hb
  exact fun j hj => key i j hj (by omega)
/-- So far the first k have come up, and no other. -/
def First (listed : Array Bool) (k len : Nat) : Prop := listed.size = len ∧ (∀ j, j < k → listed.getD j false = true) ∧ ∀ j, k ≤ j → j < len → listed.getD j true = false
theorem First.set {listed : Array Bool} {k len : Nat} (h : First listed k len) (hk : k < len) : First (listed.setIfInBounds k true) (k + 1) len := by
  refine ⟨by simp [h.1], fun j hj => ?_, fun j hj hl => ?_⟩
  · by_cases e : k = j
    · subst e; simp [h.1, hk]
    · exact getD_set_true (h.2.1 j (by omega))
  · rw [getD_set_ne true (by omega)]; exact h.2.2 j (by omega) hl
theorem First.down (h : tailB L n = true) {listed : Array Bool} {k : Nat} (hf : First listed k L.length) : Down L listed := by
  intro i o ho hi e he hb
  have hlt := tailB_back h ho e he hb
  have hil := (List.getElem?_eq_some_iff.1 ho).1
  have hik : i < k := by
    rcases Nat.lt_or_ge i k with h1 | h1
    · exact h1
    · have h2 := hf.2.2 i h1 hil
      have hsz : i < listed.size := by rw [hf.1]; exact hil
      simp [hsz] at hi h2
      rw [hi] at h2; cases h2
  exact hf.2.1 _ (by omega)
theorem First.ready (h : tailB L n = true) {listed : Array Bool} {k : Nat} (hf : First listed k L.length) (hn : n ≤ k) {i : Nat} (hi : i ∈ Region.ready .any L.toArray listed) : i = k := by
  obtain ⟨h0, o, ho, _⟩ := mem_ready.1 hi
  have ho' : L[i]? = some o := by simpa using ho
  have hlt := (List.getElem?_eq_some_iff.1 ho').1
  rcases Nat.lt_trichotomy i k with h1 | h1 | h1
  · have h2 := hf.2.1 i h1
    have hsz : i < listed.size := by rw [hf.1]; exact hlt
    simp [hsz] at h0 h2
    rw [h0] at h2; cases h2
  · exact h1
  · have h2 := ready_tail h (hf.down h) hi (by omega) k h1
    have h3 := hf.2.2 k (Nat.le_refl _) (by omega)
    have hsz : k < listed.size := by rw [hf.1]; omega
    simp [hsz] at h2 h3
    rw [h2] at h3; cases h3
theorem First.over (h : tailB L n = true) {listed : Array Bool} (hf : First listed L.length L.length) : Region.ready .any L.toArray listed = [] := by
  rw [List.eq_nil_iff_forall_not_mem]
  intro i hi
  obtain ⟨_, o, ho, _⟩ := mem_ready.1 hi
  have h1 := First.ready h hf (Nat.le_of_lt (tailB_lt h)) hi
  subst h1
  have h2 : L.toArray[L.length]? = none := by simp
  rw [h2] at ho; cases ho
theorem wpAny_tail (h : tailB L n = true) : ∀ (m k f : Nat) (listed : Array Bool) (a : Act) (w : World), k + m = L.length → n ≤ k → m ≤ f → First listed k L.length → wpOps P L.toArray Q (List.range' k m) a w → wpAny P .any L.toArray Q f listed a w
  | 0, k, f, listed, a, w, hk, hn, hf, hl, hw => by
    have hr : Region.ready .any L.toArray listed = [] := by
      obtain rfl : k = L.length := by omega
      exact First.over h hl
    have hq : Q .normal a w := by simpa [wpOps] using hw
    cases f with
    | zero => exact ⟨hr, hq⟩
    | succ f => exact ⟨fun _ => hq, by rw [hr]; simp⟩
  | m + 1, k, 0, listed, a, w, hk, hn, hf, hl, hw => by omega
  | m + 1, k, f + 1, listed, a, w, hk, hn, hf, hl, hw => by
    rw [List.range'_succ, wpOps_cons] at hw
    refine ⟨fun h0 => absurd h0 (ready_live h hl.1 k (by omega) (hl.2.2 k (Nat.le_refl _) (by omega))), fun i hi => ?_⟩
    obtain rfl := hl.ready h hn hi
    exact wpOp_mono (fun a' w' h' => wpAny_tail h m (i + 1) f _ a' w' (by omega) (by omega) (by omega) (hl.set (by omega)) h') hw
theorem nops_run {QT : Act → Prop} (h : tailB L n = true) {w0 : World} (hw0 : C w0) : ∀ (m k f : Nat) (listed : Array Bool) (a : Act), k + m = L.length → n ≤ k → First listed k L.length → wpAnyQ P .any (nopTail n L).toArray C QT f listed a → m ≤ f ∧ QT a
  | 0, k, f, listed, a, hk, hn, hl, hq => by
    have hr : Region.ready .any (nopTail n L).toArray listed = [] := by
      obtain rfl : k = L.length := by omega
      rw [ready_nop]
      exact First.over h hl
    cases f with
    | zero => exact ⟨Nat.le_refl _, hq.2⟩
    | succ f => exact ⟨Nat.zero_le _, hq.1 hr⟩
  | m + 1, k, f, listed, a, hk, hn, hl, hq => by
    have hne := ready_live h hl.1 k (by omega) (hl.2.2 k (Nat.le_refl _) (by omega))
    cases f with
    | zero => exact absurd (by rw [← ready_nop (n := n)]; exact hq.1) hne
    | succ f =>
      have hk' : k ∈ Region.ready .any L.toArray listed := by
        obtain ⟨x, hx⟩ := List.exists_mem_of_ne_nil _ hne
        rwa [hl.ready h hn hx] at hx
      have h1 := hq.2 k (by rw [ready_nop]; exact hk')
      obtain ⟨o, ho⟩ : ∃ o, L[k]? = some o := ⟨_, List.getElem?_eq_getElem (by omega)⟩
      have ho' : (nopTail n L).toArray[k]? = some (nopOf o) := by
        simp only [List.getElem?_toArray, nopTail_get, ho, if_neg (show ¬ k < n by omega), Option.map_some]
      obtain ⟨v, hy, hK⟩ := yieldsIn_of_qOp ho' h1
      have := nops_run h hw0 m (k + 1) f _ _ (by omega) (by omega) (hl.set (by omega)) hK
      exact ⟨by omega, this.2⟩
theorem wpAny_split (h : tailB L n = true) (hg : guardsB L n = true) {QT : Act → Prop} (hQT : ∀ a w, C w → QT a → wpOps P L.toArray Q (List.range' n (L.length - n)) a w) : ∀ (f : Nat) (listed : Array Bool) (a : Act) (w : World), listed.size = L.length → Down L listed → (∀ j, n ≤ j → j < L.length → listed.getD j true = false) → C w →
    wpAnyQ P .any (nopTail n L).toArray C QT f listed a → wpAny P .any L.toArray Q f listed a w
  | 0, listed, a, w, hs, hdn, hl, hw, hq => by
    have hn := tailB_lt h
    exact absurd (by rw [← ready_nop (n := n)]; exact hq.1) (ready_live h hs n hn (hl n (Nat.le_refl _) hn))
  | f + 1, listed, a, w, hs, hdn, hl, hw, hq => by
    have hn := tailB_lt h
    refine ⟨fun h0 => absurd h0 (ready_live h hs n hn (hl n (Nat.le_refl _) hn)), fun i hi => ?_⟩
    by_cases hin : i < n
    · obtain ⟨_, o, ho, _⟩ := mem_ready.1 hi
      have ho1 : L[i]? = some o := by simpa using ho
      have ho' : (nopTail n L).toArray[i]? = some o := by
        simp only [List.getElem?_toArray, nopTail_get, if_pos hin, ho1]
      have h1 := hq.2 i (by rw [ready_nop]; exact hi)
      have h2 : qOp P L.toArray C i (wpAnyQ P .any (nopTail n L).toArray C QT f (listed.setIfInBounds i true)) a := by
        unfold qOp at h1 ⊢
        simp only [ho', ho] at h1 ⊢
        rw [wanted_nop hg hin ho1] at h1
        exact h1
      refine wpOp_of_qOp hw (fun a' w' hw' hK => ?_) h2
      exact wpAny_split h hg hQT f _ a' w' (by simp [hs]) (hdn.set hi) (fun j hj hlt => by rw [getD_set_ne true (by omega)]; exact hl j hj hlt) hw' hK
    · have hall := ready_tail h hdn hi (by omega)
      have hin2 : i = n := by
        rcases Nat.lt_or_ge n i with h3 | h3
        · have h4 := hall n h3
          have h5 := hl n (Nat.le_refl _) hn
          have hsz : n < listed.size := by omega
          simp [hsz] at h4 h5
          rw [h4] at h5; cases h5
        · omega
      subst hin2
      have hf : First listed i L.length := ⟨hs, hall, hl⟩
      obtain ⟨hm, hQ⟩ := nops_run h hw (L.length - i) i (f + 1) listed a (by omega) (Nat.le_refl _) hf hq
      exact (wpAny_tail h (L.length - i) i (f + 1) listed a w (by omega) (Nat.le_refl _) hm hf (hQT a w hw hQ)).2 i hi
end
section rules
variable {P : Program} {B : Nat} {w0 : Base} {N : Nat} {D : List Deferred} {env : Env} {H : Hp} {Q : Exit → Act → World → Prop}
def QL (P : Program) (ops : Array Oper) (l : List Oper) (Q : Exit → Act → World → Prop) (e : Exit) (a : Act) (w : World) : Prop := e = .normal ∧ wpList P ops Q l a w
theorem S_tail {id : Nat} {L : List Oper} (n : Nat) (hm0 : P.follows .mixedOrders = true) (hB : Region.lexB .any (nopTail n L).toArray = true) (hD : tailB L n = true) (hG : guardsB L n = true)
    (h : Qx P B w0 N D (nopTail n L).toArray (nopTail n L) env H (QL P L.toArray (L.drop n) Q)) : Sx P B w0 N D (.region id L.toArray true) env H Q := by
  intro a w hf hm
  simp only [Region.lexB, Bool.and_eq_true] at hB
  refine wp_region_any hm0 ?_
  have h1 := wpAnyQ_lex (P := P) (C := Mem B w0 H) (md := .any) hB.1 (nopTail n L) 0 (Array.replicate L.length false) a (by simp) (by have := hB.2; simp only [List.size_toArray, nopTail_length] at this ⊢; exact this) (h a hf)
  rw [nopTail_length] at h1
  have h2 := wpAny_split (Q := Q) hD hG (fun a w hw hq => by
    have hn := tailB_lt hD
    have h3 := (hq w hw).2
    have h4 := wpOps_eq_wpList (P := P) (Q := Q) (ops := L.toArray) (L.drop n) n (fun j => by simp)
    rw [List.length_drop] at h4
    rw [h4]
    exact h3) L.length (Array.replicate L.length false) a w.drew (by simp) (fun i o ho hi => by have hil := (List.getElem?_eq_some_iff.1 ho).1; simp [hil] at hi) (fun j _ hj => by simp [hj]) hm.drew h1
  simpa using h2
theorem Q_nop {ops : Array Oper} {o : Oper} {rest : List Oper} (h : Qx P B w0 N D ops rest env H Q) : Qx P B w0 N D ops (nopOf o :: rest) env H Q := fun a hf => wpQuiet_step fun K hK => by
  rw [if_pos (by simp [Region.wanted, nopOf])]
  refine ⟨.bool true, fun w _ => ?_, hK _ (h _ hf)⟩
  unfold Oper.quietAt
  simp [nopOf, execOp, Act.eval, Oper.quietUpon]
theorem E_tail {ops : Array Oper} {l : List Oper} (h : Rx P B w0 N D ops l env H Q) : Ex B w0 N D env H (QL P ops l Q .normal) := fun a w hf hm => ⟨rfl, h a w hf hm⟩
end rules
end Go.K
/-
  A row of bytes that grows by append: nil, or a block of the call's own with room behind.
-/
namespace Go.K
open Go Go.RowKit
abbrev Buf := Option (Nat × List Value)
def Buf.addr : Buf → Option Addr
  | none => none
  | some p => some ⟨p.1, 0, none⟩
def Buf.cap (u : Buf) (xs : List UInt8) : Nat := match u with
  | none => 0
  | some p => xs.length + p.2.length
def Buf.hp (u : Buf) (e : TypeId) (xs : List UInt8) : Hp := match u with
  | none => []
  | some p => [(p.1, .cells (bytesV xs ++ p.2).toArray e (0, 0))]
def Buf.ok (u : Buf) (xs : List UInt8) : Prop := match u with
  | none => xs = []
  | some p => xs.length + p.2.length ≤ maxLen
abbrev Buf.val (u : Buf) (xs : List UInt8) : Value := .slice u.addr xs.length (u.cap xs)
theorem Buf.none_ok : Buf.ok none [] := rfl
theorem Buf.len_cap {u : Buf} {xs : List UInt8} (h : u.ok xs) : xs.length ≤ u.cap xs := by
  cases u with
  | none => have h : xs = [] := h; subst h; exact Nat.le_refl _
  | some p => exact Nat.le_add_right _ _
theorem Buf.cap_max {u : Buf} {xs : List UInt8} (h : u.ok xs) : u.cap xs ≤ maxLen := by
  cases u with
  | none => exact Nat.zero_le _
  | some p => exact h
/-- The list without a buffer. -/
inductive DelB (u : Buf) (e : TypeId) (xs : List UInt8) : Hp → Hp → Prop where
  | tail : DelB u e xs (u.hp e xs) []
  | at_ {H Hr : Hp} {b : Nat} {sp : List Value} (hu : u = some (b, sp)) (h : Del H b (.cells (bytesV xs ++ sp).toArray e (0, 0)) Hr) : DelB u e xs H Hr
  | there {H Hr : Hp} {x : Nat × Obj} (h : DelB u e xs H Hr) : DelB u e xs (x :: H) (x :: Hr)
  | no {H : Hp} (hu : u = none) : DelB u e xs H H
  | mid {K : Hp} : DelB u e xs (u.hp e xs ++ K) K
  | left {H Hr K : Hp} (h : DelB u e xs H Hr) : DelB u e xs (H ++ K) (Hr ++ K)
  | right {H Hr K : Hp} (h : DelB u e xs H Hr) : DelB u e xs (K ++ H) (K ++ Hr)
theorem Del.left {H Hr : Hp} {b : Nat} {o : Obj} (h : Del H b o Hr) (K : Hp) : Del (H ++ K) b o (Hr ++ K) := by
  induction h with
  | here => exact .here
  | there _ ih => exact .there ih
theorem Del.right {H Hr : Hp} {b : Nat} {o : Obj} (h : Del H b o Hr) : ∀ K : Hp, Del (K ++ H) b o (K ++ Hr)
  | [] => h
  | _ :: K => .there (Del.right h K)
theorem DelB.some {e : TypeId} {xs : List UInt8} {H Hr : Hp} {b : Nat} {sp : List Value} (h : DelB (some (b, sp)) e xs H Hr) : Del H b (.cells (bytesV xs ++ sp).toArray e (0, 0)) Hr := by
  induction h with
  | tail => exact .here
  | at_ hu h => cases hu; exact h
  | there _ ih => exact .there ih
  | no hu => cases hu
  | mid => exact .here
  | left _ ih => exact ih.left _
  | right _ ih => exact ih.right _
theorem DelB.none {e : TypeId} {xs : List UInt8} {H Hr : Hp} (h : DelB none e xs H Hr) : H = Hr := by
  induction h with
  | tail => rfl
  | at_ hu _ => cases hu
  | there _ ih => rw [ih]
  | no _ => rfl
  | mid => rfl
  | left _ ih => rw [ih]
  | right _ ih => rw [ih]
section
variable {P : Program} {B : Nat} {w0 : Base} {N : Nat} {D : List Deferred} {env : Env} {H : Hp} {T : Env → Hp → Prop} {ty : TypeId} {pos : String} {after : Array Edge} {g : Option (Nat × Bool)}
theorem Op1.perm {o : Oper} (h : Op1 P B w0 N D o env H (fun env' H' => ∃ H'', H'.Perm H'' ∧ T env' H'')) : Op1 P B w0 N D o env H T := fun K Q hT a w hf hm =>
  h K Q (fun env' H' ⟨H'', hp, ht⟩ => fun a' w' hf' hm' => hT env' H'' ht a' w' hf' (by
    exact ⟨hm'.room, hm'.chg, fun p hp' => hm'.own p (hp.mem_iff.2 hp'), (hp.pairwise_iff (fun h => Ne.symm h)).1 hm'.apart⟩)) a w hf hm
theorem Mem.readsBuf {w : World} {u : Buf} {e : TypeId} {xs : List UInt8} {Hr : Hp} (hm : Mem B w0 H w) (hd : DelB u e xs H Hr) (hok : u.ok xs) : Reads w u.addr xs.length (bytesV xs) := by
  cases u with
  | none =>
    have hok : xs = [] := hok
    subst hok
    exact Reads.nil w
  | some p => exact hm.reads (b := p.1) (off := 0) (cs := bytesV xs ++ p.2) (t := e) (fr := (0, 0)) hd.some.mem (by rw [List.drop_zero, ← bytesV_length xs, List.take_left]) (by simp [bytesV_length])
theorem op_appendBuf {d : Nat} {t e : TypeId} {x y : Operand} {u : Buf} {xs ys : List UInt8} {A : Option Addr} {m c : Nat} {Hr : Hp} (hx : look env x = some (u.val xs)) (hy : look env y = some (.slice A m c))
    (ht : P.underlying t = some (.slice e)) (he : El P e (.int .u8 0) 1) (hdel : DelB u e xs H Hr) (hok : u.ok xs) (hsrc : ∀ w, Mem B w0 H w → Reads w A m (bytesV ys)) (h63 : xs.length + ys.length ≤ 140737488355328) (hd : Nat.blt d N = true) (hB : B ≤ w0.w.heap.size)
    (h : ∀ u' : Buf, u'.ok (xs ++ ys) → ((xs ≠ [] ∨ ys ≠ []) → u' ≠ none) → T ((d, u'.val (xs ++ ys)) :: env) (Hr ++ u'.hp e (xs ++ ys))) :
    Op1 P B w0 N D ⟨some d, .call { callee := .builtin .append, args := #[x, y], argTypes := #[t, t] }, ty, pos, after, g⟩ env H T := fun K Q hT a w hf hm => by
  have hml : m = ys.length := by have := (hsrc w hm).1; rw [bytesV_length] at this; exact this.symm
  have hmax : xs.length + ys.length ≤ maxLen := by unfold maxLen; omega
  cases u with
  | none =>
    have hok : xs = [] := hok
    subst hok
    have hH := hdel.none
    refine Op1.perm (op_appendNil hx hy ht he hsrc (bytesV_one _) (by simp at hmax; omega) (by simp at h63; omega) hd hB ?_ ?_) K Q hT a w hf hm
    · intro h0
      have hy0 : ys = [] := List.eq_nil_of_length_eq_zero (by omega)
      have := h none (by show [] ++ ys = []; rw [hy0]; rfl) (by rintro (h | h) <;> simp [hy0] at h)
      rw [hy0] at this
      exact ⟨_, by rw [hH]; simp [Buf.hp], this⟩
    · intro b' cap' sp' hm0 hlen hcm
      have h1 := h (some (b', sp')) (by show ([] ++ ys).length + sp'.length ≤ maxLen; simp [bytesV_length] at hlen ⊢; omega) (fun _ => by simp)
      have hc : Buf.cap (some (b', sp')) ([] ++ ys) = cap' := by show ([] ++ ys).length + sp'.length = cap'; simp [bytesV_length] at hlen ⊢; omega
      have hv : Buf.val (some (b', sp')) ([] ++ ys) = .slice (some ⟨b', 0, none⟩) m cap' := by unfold Buf.val; rw [hc, hml]; rfl
      rw [hv] at h1
      refine ⟨_, ?_, h1⟩
      rw [hH]
      simp [Buf.hp]
      exact (List.perm_append_comm (l₁ := [_]) (l₂ := Hr))
  | some p =>
    obtain ⟨b, sp⟩ := p
    have hok : xs.length + sp.length ≤ maxLen := hok
    have hx' : look env x = some (.slice (some ⟨b, 0, none⟩) xs.length (xs.length + sp.length)) := hx
    refine Op1.perm (op_append hx' hy ht he (xs := bytesV xs) (sp := sp) (H' := Hr) hdel.some (bytesV_length xs) (by simp [bytesV_length]) hok hsrc (bytesV_one _) (by omega) (by omega) hd hB ?_) K Q hT a w hf hm
    intro b' cap' sp' hlen hcm
    have h1 := h (some (b', sp')) (by show (xs ++ ys).length + sp'.length ≤ maxLen; simp [bytesV_length] at hlen ⊢; omega) (fun _ => by simp)
    have hc : Buf.cap (some (b', sp')) (xs ++ ys) = cap' := by show (xs ++ ys).length + sp'.length = cap'; simp [bytesV_length] at hlen ⊢; omega
    have hv : Buf.val (some (b', sp')) (xs ++ ys) = .slice (some ⟨b', 0, none⟩) (xs.length + m) cap' := by unfold Buf.val; rw [hc, List.length_append, hml]; rfl
    rw [hv] at h1
    refine ⟨_, ?_, h1⟩
    simp only [Buf.hp, bytesV_append]
    exact (List.perm_append_comm (l₁ := [_]) (l₂ := Hr))
end
theorem Buf.some_of {u : Buf} {xs : List UInt8} (h : u.ok xs) (hx : xs.length ≠ 0) : ∃ g sp, u = some (g, sp) := by
  cases u with
  | none => have h : xs = [] := h; subst h; exact absurd rfl hx
  | some p => exact ⟨p.1, p.2, rfl⟩
end Go.K
/-
  What an argument is, out of its reading: slices of slices of bytes.
-/
namespace Go.K
open Go Go.RowKit Go.ChangeShapes Go.WideShapes Go.ChangeAt
theorem list_of_each {α : Type} {p : Nat → α → Prop} : ∀ (n : Nat), (∀ i, i < n → ∃ x, p i x) → ∃ l : List α, l.length = n ∧ ∀ i x, l[i]? = some x → p i x
  | 0, _ => ⟨[], rfl, fun i x h => by simp at h⟩
  | n + 1, h => by
    obtain ⟨l, hl, hp⟩ := list_of_each n fun i hi => h i (by omega)
    obtain ⟨x, hx⟩ := h n (by omega)
    refine ⟨l ++ [x], by simp [hl], fun i y hy => ?_⟩
    rcases Nat.lt_or_ge i l.length with h1 | h1
    · rw [List.getElem?_append_left h1] at hy; exact hp i y hy
    · rw [List.getElem?_append_right h1] at hy
      have : i - l.length = 0 := by
        rcases Nat.eq_zero_or_pos (i - l.length) with h2 | h2
        · exact h2
        · rw [List.getElem?_eq_none (by simp; omega)] at hy; cases hy
      rw [this] at hy
      cases hy
      have e : i = n := by omega
      rw [e]; exact hx
section opens
variable {HT : Type} {enc : TypeId × Value → HT} {P : Program} {w : World} {base b0 : Nat} {spare : Nat → Bool} {held : Bool} {r : Reach} {t e u : TypeId} {v : Value} {d : DataW HT} {ps : List MemPlace}
end opens
end Go.K
/-
  Calls that hand back bytes of their own; regions in which two or three operations may come up.
-/
namespace Go.K
open Go Go.RowKit
/-- What a callee says that hands back bytes in a block of its own. -/
def MadeBuf (e : TypeId) (xs : List UInt8) (w : World) (r : Ending) (w' : World) : Prop :=
  ∃ g sp, r = .returned (Buf.val (some (g, sp)) xs) ∧ Buf.ok (some (g, sp)) xs ∧ w.heap.size ≤ g ∧ w'.heap[g]? = some (.cells (bytesV xs ++ sp).toArray e (0, 0)) ∧ Below w.heap.size w w'
section
variable {P : Program} {B : Nat} {w0 : Base} {N : Nat} {D : List Deferred} {env : Env} {H : Hp} {T : Env → Hp → Prop} {ty : TypeId} {pos : String} {after : Array Edge} {gd : Option (Nat × Bool)} {Q : Exit → Act → World → Prop}
theorem op_callBuf {d : Nat} {fo : Operand} {asx : List Operand} {ts : Array TypeId} {f : FuncId} {fn : Func} {vs first cap : List Value} {e : TypeId} {xs : List UInt8} (hfo : look env fo = some (.func (.func f) first.toArray cap.toArray)) (hxs : looks env asx = some vs)
    (hf0 : P.funcs[f]? = some fn) (hb0 : fn.body.isNone = false) (hn0 : (fn.name == "runtime.NumGoroutine") = false) (hd : Nat.blt d N = true) (hB : B ≤ w0.w.heap.size)
    (hc : ∀ w, Mem B w0 H w → Calls P f (first ++ vs ++ cap).toArray w (MadeBuf e xs w))
    (h : ∀ g sp, Buf.ok (some (g, sp)) xs → T ((d, Buf.val (some (g, sp)) xs) :: env) ((g, .cells (bytesV xs ++ sp).toArray e (0, 0)) :: H)) :
    Op1 P B w0 N D ⟨some d, .call { callee := .value fo, args := asx.toArray, argTypes := ts }, ty, pos, after, gd⟩ env H T :=
  op_call hfo hxs hf0 hb0 hn0 hd fun w hm => (hc w hm).mono fun r w' ⟨g, sp, he, hok, hg, hgo, hb⟩ => ⟨_, _, he, hm.call1 hB hb hg hgo, h g sp hok⟩
/-- One of those that may come up comes up. -/
def DStep (P : Program) (B : Nat) (w0 : Base) (N : Nat) (D : List Deferred) (ops : Array Oper) (H₀ : Hp) (fuel : Nat) (listed : Array Bool) (env : Env) (H : Hp) (Q : Exit → Act → World → Prop) (i : Nat) : Prop :=
  ∀ a w, Fits N D env a → Mem B w0 H w → wpOp P ops Q i (fun a' w' => Mem B w0 H₀ w' ∧ wpAnyH P .any ops Q (Mem B w0 H₀) fuel (listed.setIfInBounds i true) a' w') a w
theorem step_plain {ops : Array Oper} {H₀ : Hp} {fuel : Nat} {listed : Array Bool} (i : Nat) {o : Oper} (hi : ops[i]? = some o) (hg : o.guard = none)
    (h : Op1 P B w0 N D o env H (fun env' H' => Fewer H₀ H' ∧ Dx P B w0 N D ops (Mem B w0 H₀) fuel (listed.setIfInBounds i true) env' H' Q)) : DStep P B w0 N D ops H₀ fuel listed env H Q i :=
  fun a w hfa hm => wpOp_step hi fun K' hK' => by
    rw [if_pos (by simp [Region.wanted, hg])]
    exact h K' Q (fun env' H' ⟨hF, hD⟩ a w hf hm => hK' a w ⟨hm.fewer hF, hD a w hf hm (hm.fewer hF)⟩) a w hfa hm
theorem D_two {ops : Array Oper} {fuel : Nat} {listed : Array Bool} {H₀ : Hp} (i j : Nat) (hr : Region.ready .any ops listed = [i, j]) (h1 : DStep P B w0 N D ops H₀ fuel listed env H Q i) (h2 : DStep P B w0 N D ops H₀ fuel listed env H Q j) :
    Dx P B w0 N D ops (Mem B w0 H₀) (fuel + 1) listed env H Q := fun a w hfa hm _ => wpAnyH_all hr (by simp) fun k hk => by
  simp only [List.mem_cons, List.not_mem_nil, or_false] at hk
  rcases hk with rfl | rfl
  · exact h1 a w hfa hm
  · exact h2 a w hfa hm
end
end Go.K
/-
  append(x, make([]byte, n)...), where x lies in a block of the call's own.
-/
namespace Go.K
open Go Go.RowKit
variable {P : Program} {B : Nat} {w0 : Base} {N : Nat} {D : List Deferred} {env : Env} {H : Hp} {T : Env → Hp → Prop} {ty : TypeId} {pos : String} {after : Array Edge} {gd : Option (Nat × Bool)}
theorem zeros_cells (n : Nat) : Builtin.zeroCells (Value.int .u8 0).cells n = (bytesV (List.replicate n 0)).toArray := by
  unfold Builtin.zeroCells
  apply Array.ext_getElem?
  intro i
  have hc : (Value.int .u8 0).cells = #[.int .u8 0] := rfl
  by_cases h : i < n
  · simp [hc, h, Nat.mod_one, bytesV, bv]
  · simp [hc, h, bytesV, Array.getElem?_eq_none]
theorem del_at {H Hr : Hp} {b : Nat} {o : Obj} (h : Del H b o Hr) (o' : Obj) : ∃ H', At H b o o' H' ∧ H'.Perm (Hr ++ [(b, o')]) := by
  induction h with
  | here => exact ⟨_, .here, (List.perm_append_comm (l₁ := [_]) (l₂ := _))⟩
  | @there H Hr x b o h ih =>
    obtain ⟨H', h1, h2⟩ := ih
    exact ⟨_, .there h1, h2.cons x⟩
theorem op_appendZeros {d : Nat} {t tn e : TypeId} {x y : Operand} {b : Nat} {sp : List Value} {xs : List UInt8} {k kn : IntKind} {n : Nat} {m : Int} {Hr : Hp} (hx : look env x = some (Buf.val (some (b, sp)) xs)) (hy : look env y = some (.int k m)) (hmn : m = (n : Int))
    (ht : P.underlying t = some (.slice e)) (htn : P.underlying tn = some (.int kn)) (he : El P e (.int .u8 0) 1) (hdel : Del H b (.cells (bytesV xs ++ sp).toArray e (0, 0)) Hr) (hok : Buf.ok (some (b, sp)) xs) (h63 : xs.length + n ≤ 70368744177664) (hd : Nat.blt d N = true) (hB : B ≤ w0.w.heap.size)
    (h : ∀ u' : Buf, u'.ok (xs ++ List.replicate n 0) → u' ≠ none → T ((d, u'.val (xs ++ List.replicate n 0)) :: env) (Hr ++ u'.hp e (xs ++ List.replicate n 0))) :
    Op1 P B w0 N D ⟨some d, .call { callee := .builtin .append, args := #[x, y], argTypes := #[t, tn] }, ty, pos, after, gd⟩ env H T := by
  subst hmn
  refine Op1.perm (T := T) fun K Q hT a w hf hm => ?_
  obtain ⟨i, hi, hz, hs, hb, hzc⟩ := he
  have hok : xs.length + sp.length ≤ maxLen := hok
  have hx' : look env x = some (.slice (some ⟨b, 0, none⟩) xs.length (xs.length + sp.length)) := hx
  have hbo := (hm.own _ hdel.mem).2
  have hsz : (sizeOf e).run P w = .ok 1 w := sizeOf_ok (by rw [hi]; simp [hs]) w
  have hw : IntKind.i64.wrap (n : Int) = n := by rw [IntKind.wrap_i64]; omega
  have hneg : ¬ ((n : Int) < 0) := by omega
  have hzl : (bytesV (List.replicate n 0)).length = n := by simp [bytesV]
  unfold Oper.wp
  by_cases hroom : n ≤ sp.length
  · have hneed : xs.length + n ≤ xs.length + sp.length := by omega
    have h48 : ¬ (281474976710656 < (n : Int) * (i.bytes : Int)) := by rw [hb]; omega
    have hst := run_storeCells_cells (P := P) b xs.length (bytesV (List.replicate n 0)) 0 w (fun j hj => by rw [cell_of_row w b _ _ _ _ hbo]; simp [bytesV_length] at hj ⊢; omega) (fun j hj => frozen_of_row w b _ _ _ hbo) (bytesV_one _)
    have hrun : (Builtin.append_ #[t, tn] ty #[.slice (some ⟨b, 0, none⟩) xs.length (xs.length + sp.length), .int k n]).run P w = .ok (.slice (some ⟨b, 0, none⟩) (xs.length + n) (xs.length + sp.length)) (w.setCells b xs.length (bytesV (List.replicate n 0))) := by
      by_cases hn0 : n = 0
      · subst hn0
        simp [Builtin.append_, run_underlying ht, run_underlying htn, sizeOf, typeInfo, hi, hs, asInt, asIntOf, IntKind.wrap_i64, storeCells, bytesV, World.setCells]
      · have hns : ¬ (n * 1 = 0) := by omega
        simp only [Builtin.append_, Sem.run_bind]
        simp [Builtin.append_, run_underlying ht, run_underlying htn, sizeOf, typeInfo, zeroValue, hi, hs, hz, asInt, asIntOf, hw, hneg, h48, hneed, hroom, hn0, zeros_cells, Addr.add_mid, hst]
    have hrun2 : (execOp a.eval ⟨some d, .call { callee := .builtin .append, args := #[x, y], argTypes := #[t, tn] }, ty, pos, after, gd⟩).run P w = .ok (.value (.slice (some ⟨b, 0, none⟩) (xs.length + n) (xs.length + sp.length))) (w.setCells b xs.length (bytesV (List.replicate n 0))) := by
      simp [execOp, resolve, hf.eval hx', hf.eval hy, invoke, builtin, hrun]
    rw [hrun2]
    have hlay : lay (bytesV xs ++ sp) xs.length (bytesV (List.replicate n 0)) = bytesV (xs ++ List.replicate n 0) ++ sp.drop n := by
      rw [lay_eq _ _ _ (by simp [bytesV_length]; omega), hzl, List.take_append_of_le_length (by rw [bytesV_length]; exact Nat.le_refl _), List.take_of_length_le (by rw [bytesV_length]; exact Nat.le_refl _), bytesV_append]
      congr 1
      rw [List.drop_append, List.drop_eq_nil_of_le (by rw [bytesV_length]; omega), bytesV_length, List.nil_append]
      congr 1
      omega
    obtain ⟨H', hat, hperm⟩ := del_at hdel (.cells (lay (bytesV xs ++ sp) xs.length (bytesV (List.replicate n 0))).toArray e (0, 0))
    have h1 := h (some (b, sp.drop n)) (by show (xs ++ List.replicate n 0).length + (sp.drop n).length ≤ maxLen; simp; omega) (by simp)
    have hc : Buf.cap (some (b, sp.drop n)) (xs ++ List.replicate n 0) = xs.length + sp.length := by show (xs ++ List.replicate n 0).length + (sp.drop n).length = _; simp; omega
    have hv : Buf.val (some (b, sp.drop n)) (xs ++ List.replicate n 0) = .slice (some ⟨b, 0, none⟩) (xs.length + n) (xs.length + sp.length) := by unfold Buf.val; rw [hc]; simp [Buf.addr]
    rw [hv] at h1
    refine hT _ _ ⟨_, ?_, h1⟩ _ _ (hf.put hd _) (Mem.lay _ _ _ _ _ xs.length hm hat)
    rw [hlay] at hperm
    exact hperm
  · have hloads : (Builtin.firstCells i.size xs.length (.slice (some ⟨b, 0, none⟩) xs.length (xs.length + sp.length))).run P w.drew = .ok (bytesV xs).toArray w.drew := by
      have := run_loadCells_list (P := P) w.drew ⟨b, 0, none⟩ (bytesV xs) (fun j v hv => by
        rw [Addr.add_mid, Nat.zero_add]
        show w.cell? ⟨b, j, none⟩ = some v
        rw [cell_of_row w b _ _ _ _ hbo]
        have hj : j < (bytesV xs).length := by
          rcases Nat.lt_or_ge j (bytesV xs).length with h | h
          · exact h
          · rw [List.getElem?_eq_none h] at hv; cases hv
        simp [List.getElem?_append_left hj, hv])
      rw [bytesV_length] at this
      simpa [Builtin.firstCells, hs] using this
    have hr := Lib.run_append_grow_zeros (P := P) w t tn ty e i (.int .u8 0) k kn ht htn hi hz (some ⟨b, 0, none⟩) xs.length (xs.length + sp.length) (bytesV xs) hloads n (by omega) (by omega) (by omega) (by omega) (by rw [hb]; omega) (by rw [hb]; exact growslice_fits (by omega) (by omega))
    have hrun2 : (execOp a.eval ⟨some d, .call { callee := .builtin .append, args := #[x, y], argTypes := #[t, tn] }, ty, pos, after, gd⟩).run P w = .ok (.value (.slice (some ⟨w.heap.size, 0, none⟩) (xs.length + n) (grownCap w (xs.length + n) (xs.length + sp.length) e))) (w.drew.alloc (.cells ((bytesV xs).toArray ++ Builtin.zeroCells (Value.int .u8 0).cells n ++ Builtin.zeroCells (Value.int .u8 0).cells (grownCap w (xs.length + n) (xs.length + sp.length) e - (xs.length + n))) e)) := by
      simp [execOp, resolve, hf.eval hx', hf.eval hy, invoke, builtin, hr]
    rw [hrun2]
    have hge := grownCap_ge w (xs.length + n) (xs.length + sp.length) e
    have hle := grownCap_le_maxLen w (xs.length + n) (xs.length + sp.length) e (by unfold maxLen; omega)
    generalize grownCap w (xs.length + n) (xs.length + sp.length) e = gc at hge hle
    have h1 := h (some (w.heap.size, bytesV (List.replicate (gc - (xs.length + n)) 0))) (by show (xs ++ List.replicate n 0).length + (bytesV _).length ≤ maxLen; simp [bytesV_length]; omega) (by simp)
    have hc : Buf.cap (some (w.heap.size, bytesV (List.replicate (gc - (xs.length + n)) 0))) (xs ++ List.replicate n 0) = gc := by show (xs ++ List.replicate n 0).length + (bytesV _).length = _; simp [bytesV_length]; omega
    have hv : Buf.val (some (w.heap.size, bytesV (List.replicate (gc - (xs.length + n)) 0))) (xs ++ List.replicate n 0) = .slice (some ⟨w.heap.size, 0, none⟩) (xs.length + n) gc := by unfold Buf.val; rw [hc]; simp [Buf.addr]
    rw [hv] at h1
    refine hT _ _ ⟨_, ?_, h1⟩ _ _ (hf.put hd _) ((hm.del hdel).drew.alloc hB _)
    rw [zeros_cells, zeros_cells]
    simp only [Buf.hp, bytesV_append, List.append_toArray]
    exact (List.perm_append_comm (l₁ := [_]) (l₂ := Hr))
end Go.K
/-
  What the types of this translation are, as the laws of the calculus ask it.
-/
namespace Go.Proofs.Ytfdlafjifjndeaa
open Go.K
theorem sc_u8 : Sc Try.prog 5 := ⟨_, Try.underlying5, rfl, by kernel_rfl⟩
theorem sc_int : Sc Try.prog 3 := ⟨_, Try.underlying3, rfl, by kernel_rfl⟩
theorem sc_bool : Sc Try.prog 4 := ⟨_, Try.underlying4, rfl, by kernel_rfl⟩
theorem sc_u32 : Sc Try.prog 30 := ⟨_, Try.underlying30, rfl, by kernel_rfl⟩
theorem sc_u64 : Sc Try.prog 90 := ⟨_, Try.underlying90, rfl, by kernel_rfl⟩
theorem ik_u8 : Ik Try.prog 5 .u8 := Try.underlying5
theorem ik_u32 : Ik Try.prog 30 .u32 := Try.underlying30
theorem ik_u64 : Ik Try.prog 90 .u64 := Try.underlying90
theorem slc_u8s : Slc Try.prog 40 5 := ⟨Try.underlying40, sc_u8⟩
theorem arr_both : Arr Try.prog 165 2 90 := ⟨Try.underlying165, sc_u64⟩
theorem row_both : Row Try.prog 165 2 := ⟨_, Try.underlying165, rfl, by kernel_rfl⟩
theorem el_u8 : El Try.prog 5 (.int .u8 0) 1 := by
  obtain ⟨i, h1, h2, h3, h4⟩ := info_parts (show (Try.prog.info? 5).map (fun i => (i.zero, i.size, i.bytes)) = some (some (.int .u8 0), 1, 1) from by kernel_rfl)
  exact ⟨i, h1, h2, h3, h4, rfl⟩
theorem zero_both : Zr Try.prog 165 [.int .u64 0, .int .u64 0] := by unfold Zr; kernel_rfl
theorem ut_bool : Try.prog.underlying 4 = some .bool := Try.underlying4
theorem sc_u8s : Sc Try.prog 40 := ⟨_, Try.underlying40, rfl, by kernel_rfl⟩
theorem slc_u8ss : Slc Try.prog 121 40 := ⟨Try.underlying121, sc_u8s⟩
theorem el_u8s : El Try.prog 40 (.slice none 0 0) 24 := by
  obtain ⟨i, h1, h2, h3, h4⟩ := info_parts (show (Try.prog.info? 40).map (fun i => (i.zero, i.size, i.bytes)) = some (some (.slice none 0 0), 1, 24) from by kernel_rfl)
  exact ⟨i, h1, h2, h3, h4, rfl⟩
end Go.Proofs.Ytfdlafjifjndeaa
/-
  Slices whose elements are rows: reading, cutting; sums as rows of 32 bytes. Plain theorems, over any program.
-/
namespace Go.K
open Go Go.RowKit
/-- A slice type whose elements are rows of s cells. -/
def SlR (P : Program) (t e : TypeId) (s : Nat) : Prop := P.underlying t = some (.slice e) ∧ Row P e s
section ops
variable {P : Program} {B : Nat} {w0 : Base} {N : Nat} {D : List Deferred} {env : Env} {H : Hp} {T : Env → Hp → Prop}
variable {dst : Option Tmp} {ty : TypeId} {pos : String} {after : Array Edge} {g : Option (Nat × Bool)}
theorem p_lenR {t : TypeId} {e s : Nat} {x : Operand} {A : Option Addr} {n c : Nat} (hx : look env x = some (.slice A n c)) (hsl : SlR P t e s) :
    Pure1 P B w0 N D ⟨dst, .call { callee := .builtin .len, args := #[x], argTypes := #[t] }, ty, pos, after, g⟩ env H (.int .i64 (n : Int)) := fun a w hf _ => by
  have ht := hsl.1
  simp [execOp, resolve, hf.eval hx, invoke, builtin, Builtin.len_, Builtin.lenOf, run_underlying ht, goInt]
theorem p_indexR {t e : TypeId} {s : Nat} {x i : Operand} {b off len cap j : Nat} {k : IntKind} {m : Int} (hx : look env x = some (.slice (some ⟨b, off, none⟩) len cap)) (hi : look env i = some (.int k m)) (hj : m = (j : Int)) (ha : SlR P t e s)
    (hlt : j < len) : Pure1 P B w0 N D ⟨dst, .indexAddr t x i, ty, pos, after, g⟩ env H (.pointer (some ⟨b, off + j * s, none⟩)) := fun a w hf _ => by
  obtain ⟨ht, _, _, _, hs⟩ := ha
  subst hj
  have h2 : ((j : Int) < (len : Int)) := by omega
  simp [execOp, hf.eval hx, hf.eval hi, Instr.indexAt, asIntOf, run_underlying ht, sizeOf_ok hs, h2, Addr.add_mid, hlt]
theorem p_sliceToR {t e : TypeId} {s : Nat} {x hi : Operand} {A : Option Addr} {n c : Nat} {k : IntKind} {h : Nat} {m : Int} (hx : look env x = some (.slice A n c)) (hh : look env hi = some (.int k m)) (hm : m = (h : Int)) (hsl : SlR P t e s) (hle : h ≤ c) :
    Pure1 P B w0 N D ⟨dst, .slice t x none (some hi) none, ty, pos, after, g⟩ env H (.slice A h c) := fun a w hf _ => by
  subst hm
  obtain ⟨ht, d, hd, hr, hs⟩ := hsl
  have h2 : ((h : Int) ≤ (c : Int)) := by omega
  simp [execOp, hf.eval hx, hf.eval hh, Instr.sliceAt, Instr.slice, run_underlying ht, sizeOf_ok hs, Instr.sliceBounds, Instr.sliceBound, asIntOf, hle]
  cases A <;> simp [Addr.add_zero']
end ops
end Go.K
/-
  Texts: a part, a sum, equality. Plain theorems, over any program.
-/
namespace Go.K
open Go Go.RowKit
variable {P : Program} {B : Nat} {w0 : Base} {N : Nat} {D : List Deferred} {env : Env} {H : Hp} {T : Env → Hp → Prop}
variable {dst : Option Tmp} {ty : TypeId} {pos : String} {after : Array Edge} {g : Option (Nat × Bool)}
def tx (xs : List UInt8) : Value := .string ⟨xs.toArray⟩
theorem p_eqlStr {t yT : TypeId} {x y : Operand} {a b : ByteArray} {r : Bool} (hx : look env x = some (.string a)) (hy : look env y = some (.string b)) (hr : (a.toList == b.toList) = r) :
    Pure1 P B w0 N D ⟨dst, .binOp .eql t x y yT, ty, pos, after, g⟩ env H (.bool r) := fun q w hf _ => by
  subst hr
  simp only [execOp, hf.eval hx, hf.eval hy, eqGuard_at_string, Sem.run_bind, Sem.run_pure, Result.andThen_ok, binOp, Op.stringOp]
end Go.K
/-
  Slices whose elements are sums: literals. Plain theorems, over any program.
-/
namespace Go.K
open Go Go.RowKit
/-- An element type that is a row: its zero value, its bytes. -/
def ElR (P : Program) (e : TypeId) (z : Value) (s bytes : Nat) : Prop := ∃ i, P.info? e = some i ∧ i.zero = some z ∧ i.size = s ∧ i.bytes = bytes ∧ z.cells.size = s
theorem fold_lay (cs : List Value) : ∀ (A : List Value) (o s : Nat), (cs.zipIdx s).foldl (fun (acc : Array Value) p => acc.setIfInBounds (o + p.2) p.1) A.toArray = (lay A (o + s) cs).toArray := by
  induction cs with
  | nil => intro A o s; rfl
  | cons c cs ih =>
    intro A o s
    rw [List.zipIdx_cons, List.foldl_cons]
    simp only [List.setIfInBounds_toArray]
    rw [ih, lay]
    rfl
section ops
variable {P : Program} {B : Nat} {w0 : Base} {N : Nat} {D : List Deferred} {env : Env} {H : Hp} {T : Env → Hp → Prop}
variable {dst : Option Tmp} {ty : TypeId} {pos : String} {after : Array Edge} {g : Option (Nat × Bool)}
end ops
end Go.K
/-
  What an argument is, out of its reading: structs, field by field; slices of structs. Plain theorems, over any program.
-/
namespace Go.K
open Go Go.RowKit Go.ChangeShapes Go.WideShapes Go.ChangeAt
theorem part_cons {cs p q : List Value} {o s : Nat} (h : (cs.drop o).take s = p) (hr : cs.drop (o + s) = q) : cs.drop o = p ++ q := by
  rw [← h, ← hr, ← List.drop_drop]; exact (List.take_append_drop s _).symm
theorem part_last {cs p : List Value} {o s : Nat} (h : (cs.drop o).take s = p) (hl : cs.length = o + s) : cs.drop o = p := by
  rw [← h, List.take_of_length_le (by rw [List.length_drop]; omega)]
theorem part_all {cs q : List Value} (h : cs.drop 0 = q) : cs = q := by simpa using h
theorem flat_cell {α : Type} (f : α → List Value) (s : Nat) : ∀ (l : List α), (∀ a ∈ l, (f a).length = s) → ∀ (i j : Nat) (a : α), l[i]? = some a → j < s → (l.flatMap f)[i * s + j]? = (f a)[j]?
  | [], _, i, j, a, h, _ => by simp at h
  | x :: l, hs, 0, j, a, h, hj => by
    simp only [List.getElem?_cons_zero, Option.some.injEq] at h
    subst h
    have := hs x (by simp)
    rw [List.flatMap_cons, Nat.zero_mul, Nat.zero_add, List.getElem?_append_left (by omega)]
  | x :: l, hs, i + 1, j, a, h, hj => by
    have := hs x (by simp)
    have ih := flat_cell f s l (fun b hb => hs b (by simp [hb])) i j a (by simpa using h) hj
    rw [List.flatMap_cons, List.getElem?_append_right (by rw [this, Nat.add_mul]; omega), ← ih]
    congr 1
    rw [this, Nat.add_mul]; omega
theorem flat_length {α : Type} (f : α → List Value) (s : Nat) : ∀ (l : List α), (∀ a ∈ l, (f a).length = s) → (l.flatMap f).length = l.length * s
  | [], _ => by simp
  | x :: l, hs => by
    have := hs x (by simp)
    rw [List.flatMap_cons, List.length_append, this, flat_length f s l (fun b hb => hs b (by simp [hb])), List.length_cons, Nat.add_mul]; omega
section opens
variable {HT : Type} {enc : TypeId × Value → HT} {P : Program} {w : World} {base b0 : Nat} {spare : Nat → Bool} {held : Bool} {r : Reach} {t e u : TypeId} {v : Value} {d : DataW HT} {ps : List MemPlace}
/-- one field's own reading -/
theorem fld {n i o s : Nat} {fs : Array Field} {f : Field} {ty : TypeId} {cs : List Value} {xs : List (DataW HT × List MemPlace)} (hget : ∀ (i : Nat) (f : Field), fs[i]? = some f → DataW.trod enc P w base spare held n f.type ((cs.drop f.offset).take (P.cellsOf f.type)) = xs[i]?)
    (hxl : xs.length = fs.size) (hi : fs[i]? = some f) (ho : f.offset = o) (hty : f.type = ty) (hc : P.cellsOf ty = s) : ∃ x, DataW.trod enc P w base spare held n ty ((cs.drop o).take s) = some x := by
  have h := hget i f hi
  rw [ho, hty, hc] at h
  have hl : i < xs.length := by rw [hxl]; exact (Array.getElem?_eq_some_iff.1 hi).1
  rw [List.getElem?_eq_getElem hl] at h
  exact ⟨_, h⟩
theorem open_u8 {n : Nat} {cs : List Value} {x : DataW HT × List MemPlace} (he : P.underlying e = some (.int .u8)) (h : DataW.trod enc P w base spare held n e cs = some x) : ∃ b : UInt8, cs = [.int .u8 (b.toNat : Int)] := by
  obtain ⟨z, hz, _, hw⟩ := DataW.trod_int he h
  obtain ⟨b, rfl⟩ := wf_u8 hw
  exact ⟨b, hz⟩
theorem open_i64 {n : Nat} {cs : List Value} {x : DataW HT × List MemPlace} (he : P.underlying e = some (.int .i64)) (h : DataW.trod enc P w base spare held n e cs = some x) : ∃ z : Int, cs = [.int .i64 z] ∧ -9223372036854775808 ≤ z ∧ z ≤ 9223372036854775807 := by
  obtain ⟨z, hz, _, hw⟩ := DataW.trod_int he h
  exact ⟨z, hz, wf_i64 hw⟩
/-- one cell that holds a slice of bytes -/
theorem open_bytes {n : Nat} {cs : List Value} {x : DataW HT × List MemPlace} (ht : P.underlying e = some (.slice u)) (he : P.underlying u = some (.int .u8)) (hce : P.cellsOf u = 1) (h : DataW.trod enc P w base spare held n e cs = some x) :
    ∃ (A : Option Addr) (c : Nat) (xs : List UInt8), cs = [.slice A xs.length c] ∧ Reads w A xs.length (bytesV xs) ∧ xs.length ≤ c ∧ c ≤ maxLen := by
  rcases open_ints ht he hce h with ⟨hcs, _⟩ | ⟨a, len, cap, zs, hcs, _, hl, hm, hz, hx, hcell, hwz⟩
  · exact ⟨none, 0, [], hcs, Reads.nil w, Nat.le_refl _, Nat.zero_le _⟩
  · have hzl : len ≤ zs.length := by rw [hz]; split <;> omega
    obtain ⟨xs, h1, h2⟩ := bytes_of_ints (zs.take len) (fun z hz => hwz z (List.mem_of_mem_take hz))
    have hxl : xs.length = len := by rw [h2, List.length_take]; omega
    refine ⟨some a, cap, xs, by rw [hcs, hxl], ⟨by rw [bytesV_length], fun hn => ?_⟩, by omega, hm⟩
    obtain ⟨b, off, spot⟩ := a
    have hc0 := hcell 0 (by omega)
    have hspot : spot = none := by simpa [Addr.add] using World.cell?_spot hc0
    subst hspot
    refine ⟨b, off, rfl, World.block_lt_of_cell? w (⟨b, off, none⟩ : Addr) (by simpa [Addr.add] using hc0), fun j y hy => ?_⟩
    rw [← h1] at hy
    have hj : j < len := by
      rcases Nat.lt_or_ge j len with h | h
      · exact h
      · rw [List.getElem?_eq_none (by simp; omega)] at hy; cases hy
    have hcj := hcell j (by omega)
    rw [Addr.add_mid] at hcj
    rw [hcj]
    have hz : (zs.take len)[j]? = some (zs.getD j 0) := by
      rw [List.getElem?_take_of_lt hj, List.getElem?_eq_getElem (by omega)]
      simp [List.getElem?_eq_getElem (show j < zs.length by omega)]
    rw [List.getElem?_map, hz] at hy
    simpa using hy
/-- A slice whose elements are rows of s cells, each of them told by its own reading. -/
theorem arg_rows {α : Type} (f : α → List Value) (okA : α → Prop) {s : Nat} (hs0 : 0 < s) (hlen : ∀ a, okA a → (f a).length = s) (ht : P.underlying t = some (.slice e)) (hce : P.cellsOf e = s)
    (hel : ∀ (n : Nat) (cs : List Value) (x : DataW HT × List MemPlace), DataW.trod enc P w base spare held n e cs = some x → ∃ a, cs = f a ∧ okA a) (hone : ∀ a, okA a → ∀ j, j < s → ∃ y, (f a)[j]? = some y) (hv : Value.okWide P w r b0 t v) (h : DataW.Trod enc P w base spare held t v d ps) :
    ∃ (A : Option Addr) (c : Nat) (l : List α), v = .slice A l.length c ∧ Reads w A (l.length * s) (l.flatMap f) ∧ (∀ a ∈ l, okA a) ∧ l.length ≤ c ∧ c ≤ maxLen := by
  obtain ⟨A, n, c, rfl⟩ := okWide_slice ht hv
  obtain ⟨fuel, hf⟩ := h
  rcases Deep.open_slice ht hf with ⟨hcs, _⟩ | ⟨a, len, cap, m, k, D, Pl, hcs, _, hl, hm, hmm, hxx, hel2⟩
  · simp [Value.cells] at hcs
    obtain ⟨rfl, rfl, rfl⟩ := hcs
    exact ⟨none, 0, [], rfl, by simpa using Reads.nil w, fun a ha => (by cases ha), Nat.le_refl _, by unfold maxLen; omega⟩
  · simp [Value.cells] at hcs
    obtain ⟨rfl, rfl, rfl⟩ := hcs
    have hlm : n ≤ m := by rw [hmm]; split <;> omega
    obtain ⟨l, hll, hp⟩ := list_of_each (p := fun i (x : α) => (∀ j, j < s → w.cell? ((a.add (i * s)).add j) = (f x)[j]?) ∧ okA x) n fun i hi => by
      obtain ⟨cs', h1, h2⟩ := hel2 i (by omega)
      obtain ⟨x, rfl, hx⟩ := hel _ _ _ h2
      rw [hce] at h1
      exact ⟨x, fun j hj => (World.cells?_some h1).2.2 j hj, hx⟩
    have hok : ∀ x ∈ l, okA x := fun x hx => by
      obtain ⟨j, hj⟩ := List.getElem?_of_mem hx
      exact (hp j x hj).2
    have hfl := flat_length f s l (fun x hx => hlen x (hok x hx))
    refine ⟨some a, c, l, by rw [hll], ⟨hfl, fun hn => ?_⟩, hok, by omega, hm⟩
    obtain ⟨b, off, spot⟩ := a
    have hl0 : 0 < l.length := by
      rcases Nat.eq_zero_or_pos l.length with h | h
      · rw [h, Nat.zero_mul] at hn; exact absurd rfl hn
      · exact h
    obtain ⟨s0, hs0'⟩ : ∃ s, l[0]? = some s := ⟨_, List.getElem?_eq_getElem hl0⟩
    obtain ⟨h1, h2⟩ := hp 0 s0 hs0'
    obtain ⟨y0, hy0⟩ := hone s0 h2 0 hs0
    have hc0 := h1 0 hs0
    rw [hy0] at hc0
    have hspot : spot = none := by simpa [Addr.add] using World.cell?_spot hc0
    subst hspot
    refine ⟨b, off, rfl, World.block_lt_of_cell? w (⟨b, off, none⟩ : Addr) (by simpa [Addr.add] using hc0), fun q y hy => ?_⟩
    have hq : q < l.length * s := by
      rcases Nat.lt_or_ge q (l.length * s) with h | h
      · exact h
      · rw [List.getElem?_eq_none (by omega)] at hy; cases hy
    have hi : q / s < l.length := (Nat.div_lt_iff_lt_mul hs0).2 hq
    have hq2 : q = q / s * s + q % s := by rw [Nat.mul_comm]; exact (Nat.div_add_mod q s).symm
    have hms := Nat.mod_lt q hs0
    obtain ⟨x, hx⟩ : ∃ x, l[q / s]? = some x := ⟨_, List.getElem?_eq_getElem hi⟩
    rw [hq2, flat_cell f s l (fun x hx => hlen x (hok x hx)) (q / s) (q % s) x hx hms] at hy
    have hj := (hp (q / s) x hx).1 (q % s) hms
    rw [hy] at hj
    simp only [Addr.add_mid] at hj
    rw [← hj]
    congr 2
    omega
end opens
end Go.K
/-
  Rows of rows: taking, dropping, setting one of them; a made slice of rows. Plain theorems, over any program.
-/
namespace Go.K
open Go Go.RowKit
theorem flat_take {α : Type} (f : α → List Value) (s : Nat) : ∀ (l : List α), (∀ a ∈ l, (f a).length = s) → ∀ i, i ≤ l.length → (l.flatMap f).take (i * s) = (l.take i).flatMap f
  | [], _, i, hi => by simp
  | x :: l, hs, 0, _ => by simp
  | x :: l, hs, i + 1, hi => by
    have hx := hs x (by simp)
    have ih := flat_take f s l (fun b hb => hs b (by simp [hb])) i (by simpa using hi)
    rw [List.take_succ_cons, List.flatMap_cons, List.flatMap_cons, ← ih, List.take_append, hx, List.take_of_length_le (by rw [hx, Nat.add_mul]; omega), show (i + 1) * s - s = i * s by rw [Nat.add_mul]; omega]
theorem flat_drop {α : Type} (f : α → List Value) (s : Nat) : ∀ (l : List α), (∀ a ∈ l, (f a).length = s) → ∀ i, i ≤ l.length → (l.flatMap f).drop (i * s) = (l.drop i).flatMap f
  | [], _, i, hi => by simp
  | x :: l, hs, 0, _ => by simp
  | x :: l, hs, i + 1, hi => by
    have hx := hs x (by simp)
    have ih := flat_drop f s l (fun b hb => hs b (by simp [hb])) i (by simpa using hi)
    rw [List.drop_succ_cons, List.flatMap_cons, ← ih, List.drop_append, hx, List.drop_eq_nil_of_le (by rw [hx, Nat.add_mul]; omega), List.nil_append, show (i + 1) * s - s = i * s by rw [Nat.add_mul]; omega]
theorem lay_row {α : Type} (f : α → List Value) (s : Nat) (l : List α) (hs : ∀ a ∈ l, (f a).length = s) (i : Nat) (hi : i < l.length) (x : α) (hx : (f x).length = s) : lay (l.flatMap f) (i * s) (f x) = (l.set i x).flatMap f := by
  have hl := flat_length f s l hs
  have h1 : i * s + s ≤ l.length * s := by rw [← Nat.succ_mul]; exact Nat.mul_le_mul_right s hi
  rw [lay_eq _ _ _ (by omega), hx, show i * s + s = (i + 1) * s by rw [Nat.succ_mul], flat_take f s l hs i (by omega), flat_drop f s l hs (i + 1) (by omega), List.set_eq_take_append_cons_drop, if_pos hi]
  simp
theorem madeCells_rows (zs : List Value) (s c : Nat) (hs : zs.length = s) (h0 : 0 < s) : madeCells zs.toArray (c * s) = ((List.replicate c zs).flatMap id).toArray := by
  have hl := flat_length id s (List.replicate c zs) (fun a ha => by rw [List.eq_of_mem_replicate ha]; exact hs)
  rw [List.length_replicate] at hl
  apply Array.ext_getElem?
  intro i
  simp only [madeCells, List.size_toArray, List.getElem?_toArray]
  rcases Nat.lt_or_ge i (c * s) with hi | hi
  · have hq : i / s < c := (Nat.div_lt_iff_lt_mul h0).2 hi
    have hm := Nat.mod_lt i h0
    have h1 := flat_cell id s (List.replicate c zs) (fun a ha => by rw [List.eq_of_mem_replicate ha]; exact hs) (i / s) (i % s) zs (by simp [hq]) hm
    rw [Nat.mul_comm, Nat.div_add_mod] at h1
    rw [h1]
    simp [hi, hs, List.getElem?_eq_getElem (show i % s < zs.length by omega)]
  · rw [List.getElem?_eq_none (by omega)]
    simp [hi]
theorem Fewer.inl : ∀ (H K : Hp), Fewer H (H ++ K)
  | [], _ => .nil
  | (_, _) :: H, K => .keep rfl (Fewer.inl H K)
section ops
variable {P : Program} {B : Nat} {w0 : Base} {N : Nat} {D : List Deferred} {env : Env} {H : Hp} {T : Env → Hp → Prop}
variable {dst : Option Tmp} {ty : TypeId} {pos : String} {after : Array Edge} {g : Option (Nat × Bool)}
/-- make of rows: all of them zero -/
theorem op_makeSliceR {d : Nat} {t e : TypeId} {x y : Operand} {kl kc : IntKind} {l c s bytes : Nat} {m n : Int} {z : Value} {zs : List Value} (hx : look env x = some (.int kl m)) (hy : look env y = some (.int kc n)) (hm : m = (l : Int)) (hn : n = (c : Int)) (ht : P.underlying t = some (.slice e)) (he : ElR P e z s bytes) (hzc : z.cells = zs.toArray) (h0 : 0 < s)
    (hlc : l ≤ c) (hby : bytes * c ≤ 281474976710656) (h63 : c ≤ 9223372036854775807) (hd : Nat.blt d N = true) (hB : B ≤ w0.w.heap.size)
    (h : ∀ b, T ((d, .slice (some ⟨b, 0, none⟩) l c) :: env) ((b, .cells ((List.replicate c zs).flatMap id).toArray e (0, 0)) :: H)) : Op1 P B w0 N D ⟨some d, .makeSlice t x y, ty, pos, after, g⟩ env H T := fun K Q hT a w hf hm' => by
  subst hm hn
  obtain ⟨i, hi, hz, hs, hb, hzl⟩ := he
  have hbi : (i.bytes : Int) * (c : Int) ≤ 281474976710656 := by
    have h2 : ((i.bytes * c : Nat) : Int) ≤ 281474976710656 := by rw [hb]; omega
    rwa [Int.natCast_mul] at h2
  have hr := run_make (P := P) w t e i z ht hi hz kl kc (l : Int) (c : Int) (by omega) (by omega) hbi (by omega)
  simp only [Int.toNat_natCast, hs] at hr
  have hzl' : zs.length = s := by rw [hzc] at hzl; simpa using hzl
  have h1 : (execOp a.eval ⟨some d, .makeSlice t x y, ty, pos, after, g⟩).run P w = .ok (.value (.slice (some ⟨w.heap.size, 0, none⟩) l c)) (w.alloc (.cells ((List.replicate c zs).flatMap id).toArray e)) := by
    rw [hzc, madeCells_rows zs s c hzl' h0] at hr
    simp [execOp, hf.eval hx, hf.eval hy, hr]
  unfold Oper.wp
  rw [h1]
  exact hT _ _ (h w.heap.size) _ _ (hf.put hd _) (hm'.alloc hB _)
end ops
end Go.K
/-
  Parts of several results; a row and a number handed back; slice literals whose elements are rows; a row of a slice that is read. Plain theorems, over any program.
-/
namespace Go.K
open Go Go.RowKit
theorem fill_rows (s : Nat) : ∀ (ls : List (List Value)) (k : Nat) (pre rest : List Value), (∀ x ∈ ls, x.length = s) → pre.length = k * s → rest.length = ls.length * s →
    Instr.fill (fun i => some (i * s, s)) (pre ++ rest).toArray ((List.range' k ls.length).zip (ls.map fun x => Value.agg x.toArray)) = some (pre ++ ls.flatMap id).toArray
  | [], k, pre, rest, _, _, hr => by
    obtain rfl := List.eq_nil_of_length_eq_zero (by simpa using hr)
    simp [Instr.fill]
  | x :: ls, k, pre, rest, hs, hp, hr => by
    have hx := hs x (by simp)
    rw [List.length_cons, Nat.succ_mul] at hr
    rw [List.length_cons, List.range'_succ, List.map_cons, List.zip_cons_cons]
    simp only [Instr.fill, Value.cells]
    have hc : ¬ (x.toArray.size ≠ s ∨ k * s + x.toArray.size > (pre ++ rest).toArray.size) := by
      simp only [List.size_toArray, List.length_append, hx, hp, hr]
      omega
    refine (if_neg (c := (decide (x.toArray.size ≠ s) || decide (k * s + x.toArray.size > (pre ++ rest).toArray.size)) = true) (by simpa using hc)).trans ?_
    have h1 : x.toArray.zipIdx.foldl (fun cs (p : Value × Nat) => cs.setIfInBounds (k * s + p.2) p.1) (pre ++ rest).toArray = (pre ++ x ++ rest.drop s).toArray := by
      have h2 := fold_lay x (pre ++ rest) (k * s) 0
      rw [Nat.add_zero, lay_eq _ _ _ (by simp only [List.length_append, hx, hp, hr]; omega)] at h2
      rw [← hp, List.take_left, hx] at h2
      rw [List.drop_append] at h2
      simp only [Nat.add_sub_cancel_left] at h2
      rw [List.drop_eq_nil_of_le (by omega), List.nil_append] at h2
      rw [← hp]
      simpa using h2
    have h3 := fill_rows s ls (k + 1) (pre ++ x) (rest.drop s) (fun y hy => hs y (by simp [hy])) (by rw [List.length_append, hx, hp, Nat.succ_mul]) (by rw [List.length_drop, hr]; omega)
    have h4 : (pre ++ (x :: ls).flatMap id) = pre ++ x ++ ls.flatMap id := by simp
    rw [h4]
    first
      | (rw [h1]; exact h3)
      | (simp only [] at h1 ⊢; rw [h1]; exact h3)
/-- one row of a slice that is read -/
theorem Reads.row {α : Type} {w : World} {b off s : Nat} {f : α → List Value} {l : List α} (h : Reads w (some ⟨b, off, none⟩) (l.length * s) (l.flatMap f)) (hs : ∀ a ∈ l, (f a).length = s) {i : Nat} {a : α} (hi : l[i]? = some a) : Reads w (some ⟨b, off + i * s, none⟩) s (f a) := by
  have hil := (List.getElem?_eq_some_iff.1 hi).1
  have ha : (f a).length = s := hs a (List.mem_of_getElem? hi)
  have h1 : i * s + s ≤ l.length * s := by rw [← Nat.succ_mul]; exact Nat.mul_le_mul_right s hil
  refine ⟨ha, fun hn => ?_⟩
  obtain ⟨b', off', e, hb, hc⟩ := h.2 (by omega)
  simp only [Option.some.injEq, Addr.mk.injEq] at e
  obtain ⟨rfl, rfl, _⟩ := e
  refine ⟨b, off + i * s, rfl, hb, fun j u hu => ?_⟩
  have hj : j < s := by
    rcases Nat.lt_or_ge j s with h | h
    · exact h
    · rw [List.getElem?_eq_none (by omega)] at hu; cases hu
  rw [← flat_cell f s l hs i j a hi hj] at hu
  rw [Nat.add_assoc]
  exact hc _ u hu
section ops
variable {P : Program} {B : Nat} {w0 : Base} {N : Nat} {D : List Deferred} {env : Env} {H : Hp} {T : Env → Hp → Prop}
variable {dst : Option Tmp} {ty : TypeId} {pos : String} {after : Array Edge} {g : Option (Nat × Bool)}
/-- One of several results. -/
theorem p_extract {x : Operand} {vs : List Value} {i : Nat} {v : Value} (hx : look env x = some (.tuple vs.toArray)) (hi : vs[i]? = some v) : Pure1 P B w0 N D ⟨dst, .extract x i, ty, pos, after, g⟩ env H v := fun a w hf _ => by
  simp [execOp, hf.eval hx, Instr.extract, hi]
/-- A slice literal of rows. -/
theorem op_buildSliceR {d n s : Nat} {t e : TypeId} {ps : List (Nat × Operand)} {l : List (List Value)} {z : Value} {bytes : Nat} (hx : looks env (ps.map (·.2)) = some (l.map fun x => Value.agg x.toArray)) (hps : ps.map (·.1) = List.range' 0 l.length) (ht : P.underlying t = some (.slice e)) (he : ElR P e z s bytes)
    (hs : ∀ x ∈ l, x.length = s) (hl : l.length = n) (hn : n * s ≤ 16777216) (hn0 : n * s ≠ 0) (hd : Nat.blt d N = true) (hB : B ≤ w0.w.heap.size)
    (h : ∀ b, T ((d, .slice (some ⟨b, 0, none⟩) n n) :: env) ((b, .cells (l.flatMap id).toArray e (0, 0)) :: H)) : Op1 P B w0 N D ⟨some d, .buildSlice t n ps.toArray, ty, pos, after, g⟩ env H T := fun K Q hT a w hf hm => by
  obtain ⟨i, hi, hz, hsi, _, hzc⟩ := he
  have hsz : (sizeOf e).run P w = .ok s w := sizeOf_ok (by rw [hi]; simp [hsi]) w
  have hzv : (zeroValue e).run P w = .ok z w := by unfold zeroValue; simp [typeInfo, hi, hz]
  have h1 := hf.evals hx
  have h2 : (ps.map fun p => (p.1, a.eval p.2)) = (ps.map (·.1)).zip (l.map fun x => Value.agg x.toArray) := by
    rw [← h1]
    clear h1 hx hps
    induction ps with
    | nil => rfl
    | cons p ps ih => simp [ih]
  have h3 : (execOp a.eval ⟨some d, .buildSlice t n ps.toArray, ty, pos, after, g⟩).run P w = .ok (.value (.slice (some ⟨w.heap.size, 0, none⟩) n n)) (w.alloc (.cells (l.flatMap id).toArray e)) := by
    have h6 : ¬ (2 ^ 24 < n * s) := by omega
    have h7 : ¬ (n * s = 0) := hn0
    have hbs : (Instr.buildSlice t n ((ps.map fun p => (p.1, a.eval p.2)).toArray)).run P w = .ok (.slice (some ⟨w.heap.size, 0, none⟩) n n) (w.alloc (.cells (l.flatMap id).toArray e)) := by
      unfold Instr.buildSlice
      simp only [Sem.run_bind, run_underlying ht, Result.andThen_ok, hsz, gt_iff_lt]
      rw [if_neg h6, if_neg h7]
      simp only [Sem.run_bind, hzv, Result.andThen_ok, Sem.run_pure]
      have h8 := fill_rows s l 0 [] ((Array.range (n * s)).map fun k => z.cells[k % z.cells.size]!).toList hs (by simp) (by simp [hl])
      rw [List.nil_append, List.nil_append] at h8
      simp only [Array.toArray_toList] at h8
      rw [h2, hps]
      rw [h8]
      simp [newRow]
    simp only [execOp, List.map_toArray, Sem.run_bind]
    rw [show (List.map (fun (x : Nat × Operand) => match x with | (i, x) => (i, a.eval x)) ps) = ps.map fun p => (p.1, a.eval p.2) from rfl, hbs]
    rfl
  unfold Oper.wp
  rw [h3]
  exact hT _ _ (h w.heap.size) _ _ (hf.put hd _) (hm.alloc hB _)
end ops
section ret
variable {P : Program} {fn : Func} {R : Ending → World → Prop} {B : Nat} {w0 : Base} {N : Nat} {env : Env} {H : Hp}
end ret
end Go.K
/-
  Composite values whose parts are rows; a block that a slice reads. Plain theorems, over any program.
-/
namespace Go.K
open Go Go.RowKit
theorem reads_block {w : World} {b n : Nat} {cs : List Value} {t : TypeId} {fr : Nat × Nat} (h : w.heap[b]? = some (.cells cs.toArray t fr)) (hl : cs.length = n) : Reads w (some ⟨b, 0, none⟩) n cs := by
  refine ⟨hl, fun _ => ⟨b, 0, rfl, (Array.getElem?_eq_some_iff.1 h).1, fun j u hu => ?_⟩⟩
  rw [cell_of_row w b _ _ _ _ h]
  simpa using hu
theorem below_block {w w' : World} (hb : Below w.heap.size w w') {b : Nat} {o : Obj} (h : w.heap[b]? = some o) : w'.heap[b]? = some o := (hb.block b (Array.getElem?_eq_some_iff.1 h).1).trans h
end Go.K
/-
  Ranges over functions, for the calculus: the iterator may keep state of its own in cells. Plain theorems, over any program.
-/
namespace Go.K
open Go.RowKit
/-- The wide fence, in round r or in none. -/
def Fl (r : Option Nat) : Fence := { Fence.wide with round := r }
theorem fl_calls {r : Option Nat} {n : Nat} {P : Program} {f : FuncId} {args : Array Value} {w : World} {R : Ending → World → Prop} (h : Calls P f args w R) : CallsIn (Fl r) n P f args w R :=
  (callsIn_wide (n := n)).2 h
theorem fl_rows {r : Option Nat} {n : Nat} {P : Program} {row : String} {args : Array Value} {w : World} {R : Value → World → Prop} (h : Rows P row args w R) : RowsIn (Fl r) n P row args w R :=
  fun c cs _ => let ⟨v, w', hr, hs⟩ := h c cs; ⟨v, w', hr, (stepsIn_wide (P := P)).2 hs⟩
theorem semAt_none (ρ : Operand → Value) (o : Oper) : o.semAt (Fl none).round ρ = execOp ρ o := rfl
theorem opIn_of {r : Option Nat} {n : Nat} {P : Program} {o : Oper} {a : Act} {w : World} {K : Act → World → Prop} {Q : Exit → Act → World → Prop} (hnd : ∀ c, o.op ≠ .defer c) (h : o.wp P a w K Q) : o.wpIn (Fl r) n P a w K Q := by
  refine ⟨fun _ _ => trivial, ?_⟩
  have he : o.semAt (Fl r).round a.eval = execOp a.eval o := by
    cases r with
    | none => rfl
    | some l => exact Oper.semAt_some l a.eval o hnd
  rw [he]
  unfold Oper.wp at h
  generalize (execOp a.eval o).run P w = x at h ⊢
  have hd : (Fl r).depth.isSome = true → 1 ≤ n := fun h => by cases h
  cases x with
  | ok nx w' =>
    cases nx <;> simp only [Oper.upon, Oper.uponIn] at h ⊢ <;> first | exact h | exact h.elim | exact ⟨hd, fl_calls h⟩ | exact ⟨hd, fl_rows h⟩
  | halt hh w' => cases hh <;> simp only [Oper.upon, Oper.uponIn] at h ⊢ <;> first | exact h | exact h.elim
section judge
variable (P : Program) (B : Nat) (w0 : Base) (N : Nat) (D : List Deferred) (r : Option Nat)
def SIx (c : Code) (env : Env) (H : Hp) (Q : Exit → Act → World → Prop) : Prop := ∀ a w, Fits N D env a → Mem B w0 H w → c.wpIn (Fl r) 0 P Q a w
def RIx (ops : Array Oper) (l : List Oper) (env : Env) (H : Hp) (Q : Exit → Act → World → Prop) : Prop := ∀ a w, Fits N D env a → Mem B w0 H w → wpListIn (Fl r) 0 P ops Q l a w
end judge
section rules
variable {P : Program} {B : Nat} {w0 : Base} {N : Nat} {D : List Deferred} {r : Option Nat} {env : Env} {H : Hp} {Q : Exit → Act → World → Prop}
theorem SI_seq {x y : Code} (h : SIx P B w0 N D r x env H (Exit.then (y.wpIn (Fl r) 0 P Q) Q)) : SIx P B w0 N D r (.seq x y) env H Q := fun a w hf hm => wpIn_seq (h a w hf hm)
theorem EI_seq {y : Code} {Q' : Exit → Act → World → Prop} (h : SIx P B w0 N D r y env H Q) : Ex B w0 N D env H (Exit.then (y.wpIn (Fl r) 0 P Q) Q' .normal) := h
theorem SI_skip (h : Ex B w0 N D env H (Q .normal)) : SIx P B w0 N D r .skip env H Q := fun a w hf hm => wpIn_skip (h a w hf hm)
theorem SI_exit {id : Nat} (h : Ex B w0 N D env H (Q (.exit id))) : SIx P B w0 N D r (.exit id) env H Q := fun a w hf hm => wpIn_exit (h a w hf hm)
theorem SI_block {id : Nat} {c : Code} (h : SIx P B w0 N D r c env H (Exit.inBlock id Q)) : SIx P B w0 N D r (.block id c) env H Q := fun a w hf hm => wpIn_block (h a w hf hm)
theorem SI_cond {c : Operand} {x y : Code} {t : Bool} (hc : look env c = some (.bool t)) (h1 : t = true → SIx P B w0 N D r x env H Q) (h2 : t = false → SIx P B w0 N D r y env H Q) : SIx P B w0 N D r (.cond c x y) env H Q :=
  fun a w hf hm => wpIn_cond_split (hf.eval hc) (fun ht => h1 ht a w hf hm) (fun ht => h2 ht a w hf hm)
theorem SI_yes {c : Operand} {x y : Code} {t : Bool} (hc : look env c = some (.bool t)) (ht : t = true) (h : SIx P B w0 N D r x env H Q) : SIx P B w0 N D r (.cond c x y) env H Q :=
  SI_cond hc (fun _ => h) (fun e => by rw [ht] at e; cases e)
theorem SI_no {c : Operand} {x y : Code} {t : Bool} (hc : look env c = some (.bool t)) (ht : t = false) (h : SIx P B w0 N D r y env H Q) : SIx P B w0 N D r (.cond c x y) env H Q :=
  SI_cond hc (fun e => by rw [ht] at e; cases e) (fun _ => h)
theorem EI_end {K : Act → World → Prop} {Q' : Exit → Act → World → Prop} (h : ∀ a w, Fits N D env a → Mem B w0 H w → K a w) : Ex B w0 N D env H (Exit.then K Q' .normal) := h
theorem SI_region {id : Nat} {l : List Oper} (h : RIx P B w0 N D r l.toArray l env H Q) : SIx P B w0 N D r (.region id l.toArray false) env H Q := fun a w hf hm => wpIn_region_lit (h a w hf hm)
theorem RI_nil {ops : Array Oper} (h : Ex B w0 N D env H (Q .normal)) : RIx P B w0 N D r ops [] env H Q := h
theorem RI_cons {ops : Array Oper} {o : Oper} {rest : List Oper} (hg : o.guard = none) (hnd : ∀ c, o.op ≠ .defer c) (h : Op1 P B w0 N D o env H (fun env' H' => RIx P B w0 N D r ops rest env' H' Q)) : RIx P B w0 N D r ops (o :: rest) env H Q :=
  fun a w hf hm => wpListIn_plain hg fun K hK => opIn_of hnd (h K Q (fun _ _ hR a w hf hm => hK a w (hR a w hf hm)) a w hf hm)
/-- yield, in an iterator's own text: behind it the walk may be measured against another world. -/
theorem RI_yield {ops : Array Oper} {rest : List Oper} {d : Nat} {fo : Operand} {xs : List Operand} {ts : Array TypeId} {ty : TypeId} {pos : String} {after : Array Edge} {vs : List Value} {l : Nat} (hfo : look env fo = some (.func (.yield l) #[] #[])) (hxs : looks env xs = some vs) (hd : Nat.blt d N = true)
    (hc : ∀ w, Mem B w0 H w → YieldAt Fence.wide 0 P l vs.toArray w fun e w' => ∃ v B' w1 H', e = .returned v ∧ Mem B' w1 H' w' ∧ RIx P B' w1 N D none ops rest ((d, v) :: env) H' Q) :
    RIx P B w0 N D none ops (⟨some d, .call { callee := .value fo, args := xs.toArray, argTypes := ts }, ty, pos, after, none⟩ :: rest) env H Q :=
  fun a w hf hm => wpListIn_plain rfl fun K hK => by
    obtain ⟨fn, tmps, assign, body, hy, hR⟩ := hc w hm
    refine ⟨fun _ _ => trivial, ?_⟩
    have h1 : (xs.toArray.map a.eval) = vs.toArray := by rw [List.map_toArray, hf.evals hxs]
    have hrun : ((⟨some d, .call { callee := .value fo, args := xs.toArray, argTypes := ts }, ty, pos, after, none⟩ : Oper).semAt (Fl none).round a.eval).run P w = .ok (.round l fn tmps assign body) w := by
      rw [semAt_none]
      simp only [execOp, resolve, hf.eval hfo, h1, Deferred.ofValue, Sem.run_bind, Sem.run_pure, Result.andThen_ok, invoke]
      simpa using hy
    rw [hrun]
    refine ⟨fun h => (by cases h), RoundIn.mono (F := Fence.wide) (n := 0 - 1) ⟨trivial, fun c cs _ => hR.2 c cs (room_wide _)⟩ ?_⟩
    rintro e w' ⟨v, B', w1, H', rfl, hm', ht⟩
    exact hK _ _ (ht _ _ (hf.put hd v) hm')
/-- A loop whose relation speaks of the world: each round is measured against the world in which it begins. -/
theorem SI_loopW {c : Code} {σ : Type} (envI : σ → Env) (HI : σ → Hp) (bs : List Nat) (I : σ → World → Prop) (μ : σ → Nat) (s0 : σ) {a : Act} {w : World} (hf : Fits N D (envI s0) a) (h0 : I s0 w) (hH : ∀ s W, I s W → Mem W.heap.size ⟨W, bs⟩ (HI s) W)
    (round : ∀ s W, I s W → SIx P W.heap.size ⟨W, bs⟩ N D r c (envI s) (HI s) (Exit.then (fun a w => ∃ s', μ s' < μ s ∧ Fits N D (envI s') a ∧ I s' w) Q)) : (Code.loop c).wpIn (Fl r) 0 P Q a w := by
  refine wpIn_loop (fun a w => ∃ s, Fits N D (envI s) a ∧ I s w) (fun a w => leastOf (fun n => ∃ s, μ s = n ∧ Fits N D (envI s) a ∧ I s w)) ⟨s0, hf, h0⟩ ?_
  rintro a w ⟨s, hf, hI⟩
  obtain ⟨⟨s1, hs1, hf1, hI1⟩, hmin⟩ := leastOf_spec (p := fun n => ∃ s, μ s = n ∧ Fits N D (envI s) a ∧ I s w) ⟨μ s, s, rfl, hf, hI⟩
  refine wpIn_mono (round s1 w hI1 a w hf1 (hH s1 w hI1)) ?_
  rintro e a' w' hq
  cases e with
  | normal =>
    obtain ⟨s', hlt, hf', hI'⟩ := hq
    refine ⟨⟨s', hf', hI'⟩, Nat.lt_of_le_of_lt ((leastOf_spec (p := fun n => ∃ s, μ s = n ∧ Fits N D (envI s) a' ∧ I s w') ⟨μ s', s', rfl, hf', hI'⟩).2 (μ s') ⟨s', rfl, hf', hI'⟩) ?_⟩
    rw [← hs1]
    exact hlt
  | _ => exact hq
end rules
/-- What an iterator's own steps do to memory: its own blocks 'bs' may turn, others may come. -/
structure Steps1 (bs : List Nat) (A C : World) : Prop where
  os : C.os = A.os
  tape : C.tape = A.tape
  output : C.output = A.output
  size : A.heap.size ≤ C.heap.size
  block : ∀ k, k < A.heap.size → k ∉ bs → C.heap[k]? = A.heap[k]?
theorem Steps1.of {bs : List Nat} {A C : World} {H : Hp} (hm : Mem A.heap.size ⟨A, bs⟩ H C) : Steps1 bs A C := ⟨hm.chg.os, hm.chg.tape, hm.chg.output, hm.chg.size, hm.chg.block⟩
/-- From a walk that is measured against a later world back to the earlier one. -/
theorem Mem.back {B : Nat} {w0 : Base} {HW H : Hp} {W w : World} {bs : List Nat} (hW : Mem B w0 HW W) (hbs : ∀ k ∈ bs, B ≤ k ∨ k ∈ w0.bs) (hm : Mem W.heap.size ⟨W, bs⟩ H w) : Mem B w0 H w := by
  have hBW : B ≤ W.heap.size := Nat.le_trans hW.room hW.chg.size
  refine ⟨hW.room, hW.chg.step hW.room hm.chg.os hm.chg.tape hm.chg.output hm.chg.size (fun k hk hn => hm.chg.block k (by omega) fun hin => ?_), fun p hp => ⟨?_, (hm.own p hp).2⟩, hm.apart⟩
  · rcases hbs k hin with h | h
    · omega
    · exact hn h
  · rcases (hm.own p hp).1 with h | h
    · exact .inl (by omega)
    · exact hbs _ h
/-- A walk that is measured against the world at hand. -/
theorem Mem.here {B : Nat} {w0 : Base} {H : Hp} {W : World} (hW : Mem B w0 H W) : Mem W.heap.size ⟨W, H.map (·.1)⟩ H W :=
  ⟨Nat.le_refl _, Chg.refl _ _ _, fun p hp => ⟨.inr (List.mem_map_of_mem hp), (hW.own p hp).2⟩, hW.apart⟩
theorem enter_in {P : Program} {f : FuncId} {fn : Func} {c : Code} {w : World} {R : Ending → World → Prop} {N : Nat} {args : List Value} (hf : P.funcs[f]? = some fn) (hb : fn.body = some c) (hn : fn.ntmps = N) (ha : args.length ≤ N)
    (h : ∀ a, Fits N [] (envOf 0 args) a → c.wpIn (Fl none) 0 P (bodyPost P fn R) a w) : Calls P f args.toArray w R := by
  refine calls_of_wp hf hb ((wpIn_wide (n := 0)).1 (h _ ⟨rfl, ?_, ?_⟩))
  · rw [hn]; simp; omega
  · intro t v hv
    obtain ⟨_, h2⟩ := find_envOf args 0 t v hv
    have hl : t < args.length := by
      rcases Nat.lt_or_ge t args.length with h | h
      · exact h
      · rw [List.getElem?_eq_none (by simpa using h)] at h2; cases h2
    rw [Array.getElem?_append_left (by simpa using hl)]
    simpa using h2
theorem yield_mono {F : Fence} {m l : Nat} {P : Program} {args : Array Value} {W : World} {R R' : Ending → World → Prop} (h : YieldAt F m P l args W R) (hr : ∀ e w, R e w → R' e w) : YieldAt F m P l args W R' := by
  obtain ⟨fn, tmps, assign, body, hy, hR⟩ := h
  exact ⟨fn, tmps, assign, body, hy, hR.mono hr⟩
/-- An iterator that hands out the list 'tot', one by one, to whoever keeps its blocks 'bs' and all below B, and always says 'go on'. -/
def Iter {α : Type} (P : Program) (gf : Nat) (lb : List Value) (encs : α → List Value) (B : Nat) (w0 : Base) (Hi : Hp) (tot : List α) : Prop :=
  ∀ (l : Nat) (J : List α → World → Prop) (W : World), Mem B w0 Hi W →
    (∀ xs A C, J xs A → Steps1 (Hi.map (·.1)) A C → J xs C) →
    (∀ pre x W1 H1, pre ++ [x] <+: tot → J pre W1 → H1.map (·.1) = Hi.map (·.1) → Mem B w0 H1 W1 → YieldAt Fence.wide 0 P l (encs x).toArray W1 fun e W' => e = .returned (.bool true) ∧ J (pre ++ [x]) W' ∧ Mem B w0 H1 W') →
    J [] W →
    Calls P gf (Value.func (.yield l) #[] #[] :: lb).toArray W fun e W' => (∃ v, e = .returned v) ∧ J tot W'
theorem Mem.put {B : Nat} {w0 : Base} {w : World} {H H' : Hp} {b : Nat} {o o' : Obj} (hm : Mem B w0 H w) (hat : At H b o o' H') : Mem B w0 H' (w.putObj b o') :=
  hm.turn hat rfl rfl rfl (by simp) (World.putObj_heap_same (hm.lt hat.mem)) (fun k _ hne => World.putObj_heap_other hne)
theorem mem_steps {B : Nat} {w0 : Base} {A C : World} {Hi H : Hp} (hB : B ≤ w0.w.heap.size) (hm : Mem B w0 (Hi ++ H) A) (hs : Steps1 (Hi.map (·.1)) A C) : ∃ Hj, Hj.map (·.1) = Hi.map (·.1) ∧ Mem B w0 (Hj ++ H) C := by
  refine ⟨Hi.map fun p => (p.1, C.heap[p.1]?.getD (.deferred none)), by simp, ?_⟩
  have hin : ∀ p ∈ Hi, p.1 < A.heap.size := fun p hp => hm.lt (List.mem_append_left _ hp)
  have hap := List.pairwise_append.1 hm.apart
  refine ⟨hm.room, hm.chg.step hB hs.os hs.tape hs.output hs.size (fun k hk hn => hs.block k (by have := hm.chg.size; omega) fun hin' => ?_), fun p hp => ?_, ?_⟩
  · obtain ⟨p, hp, rfl⟩ := List.mem_map.1 hin'
    rcases (hm.own p (List.mem_append_left _ hp)).1 with h | h
    · omega
    · exact hn h
  · rcases List.mem_append.1 hp with hp | hp
    · obtain ⟨q, hq, rfl⟩ := List.mem_map.1 hp
      refine ⟨(hm.own q (List.mem_append_left _ hq)).1, ?_⟩
      have hlt : q.1 < C.heap.size := Nat.lt_of_lt_of_le (hin q hq) hs.size
      simp [Array.getElem?_eq_getElem hlt]
    · have h1 := hm.own p (List.mem_append_right _ hp)
      refine ⟨h1.1, (hs.block p.1 (hm.lt (List.mem_append_right _ hp)) fun hin' => ?_).trans h1.2⟩
      obtain ⟨q, hq, he⟩ := List.mem_map.1 hin'
      exact hap.2.2 q hq p hp he
  · refine List.pairwise_append.2 ⟨List.pairwise_map.2 (hap.1.imp fun h => h), hap.2.1, fun p hp q hq => ?_⟩
    obtain ⟨p', hp', rfl⟩ := List.mem_map.1 hp
    exact hap.2.2 p' hp' q hq
theorem fewer_prefix : ∀ (H K : Hp), Fewer H (H ++ K)
  | [], _ => .nil
  | (_, _) :: r, K => .keep rfl (fewer_prefix r K)
theorem fewer_behind : ∀ (H : Hp) {K L : Hp}, Fewer K L → Fewer K (H ++ L)
  | [], _, _, h => h
  | _ :: r, _, _, h => .drop (fewer_behind r h)
theorem at_behind {H H' : Hp} {b : Nat} {o o' : Obj} : ∀ (K : Hp), At H b o o' H' → At (K ++ H) b o o' (K ++ H')
  | [], h => h
  | _ :: r, h => .there (at_behind r h)
/-- The loop's variables, as the iterator hands them over. -/
def penv (ps : List Nat) (vs : List Value) (env : Env) : Env := (ps.zip vs).foldl (fun e p => (p.1, p.2) :: e) env
theorem fits_penv {N : Nat} {D : List Deferred} : ∀ (ps : List Nat) (vs : List Value) (env : Env) (a : Act), Fits N D env a → (ps.all fun p => Nat.blt p N) = true →
    Fits N D (penv ps vs env) { tmps := (ps.zip vs).foldl (fun t p => t.setIfInBounds p.1 p.2) a.tmps, defers := D }
  | [], vs, env, a, hf, _ => by
    simp only [penv, List.zip_nil_left, List.foldl_nil]
    exact ⟨rfl, hf.size, hf.at_⟩
  | p :: ps, [], env, a, hf, _ => by
    simp only [penv, List.zip_nil_right, List.foldl_nil]
    exact ⟨rfl, hf.size, hf.at_⟩
  | p :: ps, v :: vs, env, a, hf, hp => by
    simp only [List.all_cons, Bool.and_eq_true] at hp
    have := fits_penv ps vs ((p, v) :: env) (a.put (some p) v) (hf.put hp.1 v) hp.2
    simpa only [penv, List.zip_cons_cons, List.foldl_cons, Act.put] using this
/-- How a round must end: it goes on. -/
def RoundEnd {σ : Type} (B : Nat) (w0 : Base) (I : σ → Prop) (HI : σ → Hp) (Hx : Hp) : Exit → Act → World → Prop
  | .normal, _, w => ∃ s, I s ∧ Mem B w0 (HI s ++ Hx) w
  | _, _, _ => False
theorem E_roundEnd {σ : Type} {B : Nat} {w0 : Base} {N : Nat} {D : List Deferred} {env : Env} {H : Hp} {I : σ → Prop} {HI : σ → Hp} {Hx : Hp} (s : σ) (hI : I s) (hh : Fewer (HI s ++ Hx) H) : Ex B w0 N D env H (RoundEnd B w0 I HI Hx .normal) :=
  fun _ _ _ hm => ⟨s, hI, hm.fewer hh⟩
theorem Mem.perm {B : Nat} {w0 : Base} {H H' : Hp} {w : World} (h : Mem B w0 H w) (hp : H.Perm H') : Mem B w0 H' w :=
  ⟨h.room, h.chg, fun p hp' => h.own p (hp.mem_iff.2 hp'), (hp.pairwise_iff (fun h => Ne.symm h)).1 h.apart⟩
theorem same_hp {B : Nat} {w0 : Base} {w : World} {H1 H2 : Hp} (h1 : Mem B w0 H1 w) (h2 : ∀ p ∈ H2, w.heap[p.1]? = some p.2) (he : H1.map (·.1) = H2.map (·.1)) : H1 = H2 := by
  refine List.ext_getElem (by simpa using congrArg List.length he) fun j ha hb => ?_
  have e1 : H1[j].1 = H2[j].1 := by
    have := congrArg (fun l => l[j]?) he
    simpa [ha, hb] using this
  have o1 := (h1.own H1[j] (List.getElem_mem ha)).2
  have o2 := h2 H2[j] (List.getElem_mem hb)
  rw [e1, o2] at o1
  cases h : H1[j]; cases h' : H2[j]
  simp_all
/-- **for .. := range seq { .. }**, where no round leaves the loop. -/
theorem S_range {α σ : Type} {P : Program} {B : Nat} {w0 : Base} {N : Nat} {D : List Deferred} {env : Env} {H : Hp} {Q : Exit → Act → World → Prop} {g : Operand} {ps : List Tmp} {assign body : Code} {gf : Nat} {fn : Func} {lb : List Value}
    {encs : α → List Value} {Hi : Hp} {tot : List α} (it : Iter P gf lb encs B w0 Hi tot) (hB : B ≤ w0.w.heap.size) (hg : look env g = some (.func (.func gf) #[] lb.toArray))
    (hf0 : P.funcs[gf]? = some fn) (hb0 : fn.body.isNone = false) (hn0 : (fn.name == "runtime.NumGoroutine") = false) (hps : ∀ x, (encs x).length = ps.length) (hpN : (ps.all fun p => Nat.blt p N) = true)
    (HI : σ → Hp) (I : List α → σ → Prop) (s0 : σ) (h0 : I [] s0) (hH : Fewer (Hi ++ HI s0) H) (envM : α → Env)
    (hassign : ∀ (l : Nat) (Hx : Hp) (x : α), SIx P B w0 N [] (some l) assign (penv ps (encs x) env) Hx (Exit.then (fun a w => Fits N [] (envM x) a ∧ Mem B w0 Hx w) (fun _ _ _ => False)))
    (hbody : ∀ (l Dk : Nat) (Lr : Obj) (Hj : Hp) (pre : List α) (x : α) (s : σ), pre ++ [x] <+: tot → I pre s → SIx P B w0 N [] (some l) body (envM x) (HI s ++ (Hj ++ [(l, Lr), (Dk, .deferred (some []))])) (RoundEnd B w0 (I (pre ++ [x])) HI (Hj ++ [(l, Lr), (Dk, .deferred (some []))])))
    (hdone : ∀ (Dk : Nat) (s : σ), I tot s → Ex B w0 N (⟨.collected Dk, #[]⟩ :: D) env ((Dk, .deferred (some [])) :: HI s) (Q .normal)) :
    Sx P B w0 N D (.rangeFunc g ps.toArray assign body) env H Q := by
  intro a w hf hm
  refine (wpIn_wide (n := 0)).1 (wpIn_rangeFunc ?_)
  intro fnn _
  have hm0 := hm.fewer hH
  obtain ⟨rec, hrec⟩ : ∃ rec : LoopState → Option Code → Loop, rec = fun st pe => { state := st, pending := pe, fn := fnn, tmps := a.tmps, params := ps.toArray, assign, body, defers := w.heap.size } := ⟨_, rfl⟩
  have hm1 : Mem B w0 ((w.heap.size + 1, .loop (rec .ready none)) :: (w.heap.size, .deferred (some [])) :: (Hi ++ HI s0)) ((w.alloc (.deferred (some []))).alloc (.loop (rec .ready none))) := by
    have := (hm0.alloc hB (.deferred (some []))).alloc hB (.loop (rec .ready none))
    rwa [World.size_alloc] at this
  have hap := hm1.apart
  have hm2 : ∀ {w' : World} {s : σ} {Hj : Hp} {Lr : Obj}, Mem B w0 ((w.heap.size + 1, Lr) :: (w.heap.size, .deferred (some [])) :: (Hj ++ HI s)) w' → Mem B w0 ((Hj ++ [(w.heap.size + 1, Lr), (w.heap.size, .deferred (some []))]) ++ HI s) w' := by
    intro w' s Hj Lr h
    have hp : ((w.heap.size + 1, Lr) :: (w.heap.size, Obj.deferred (some [])) :: (Hj ++ HI s)).Perm ((Hj ++ [(w.heap.size + 1, Lr), (w.heap.size, .deferred (some []))]) ++ HI s) := by
      rw [List.append_assoc, ← List.singleton_append]
      have h1 := List.perm_append_comm (l₁ := [(w.heap.size + 1, Lr), (w.heap.size, Obj.deferred (some []))]) (l₂ := Hj)
      have h2 := h1.append_right (HI s)
      simpa using h2
    exact ⟨h.room, h.chg, fun p hp' => h.own p (hp.mem_iff.2 hp'), (hp.pairwise_iff (fun h => Ne.symm h)).1 h.apart⟩
  have hm3 := hm2 hm1
  clear hm1 hap
  generalize hW : (w.alloc (.deferred (some []))).alloc (.loop (rec .ready none)) = W1 at hm3
  generalize hl : w.heap.size + 1 = l at hm3
  generalize hD : w.heap.size = Dk at hm3 hl
  refine ⟨l, [{ target := .collected Dk, args := #[] }], W1, { target := .fn (.func gf) lb.toArray, args := #[.func (.yield l) #[] #[]] }, W1, gf, #[.func (.yield l) #[] #[]] ++ lb.toArray, W1, ?_, ?_, fun _ _ => trivial, ?_, fun h => (by cases h), ?_⟩
  · rw [← hW, ← hl, ← hD, hrec]; exact run_enterLoop_outer _ _ _ _ _
  · simp only [resolve, rangeCall, hf.eval hg]
    simp [Deferred.ofValue, Act.eval]
  · simp [invoke, runs_callFunc hf0 hb0 hn0]
  · have key := it l (fun pre W => ∃ (s : σ) (Hj : Hp), I pre s ∧ Hj.map (·.1) = Hi.map (·.1) ∧ Mem B w0 ((Hj ++ [(l, .loop (rec .ready none)), (Dk, .deferred (some []))]) ++ HI s) W) W1
      (hm3.fewer (by rw [List.append_assoc]; exact fewer_prefix _ _)) ?_ ?_ ⟨s0, Hi, h0, rfl, hm3⟩
    · have e : #[Value.func (Fn.yield l) #[] #[]] ++ lb.toArray = (Value.func (.yield l) #[] #[] :: lb).toArray := by simp
      rw [e]
      refine ((callsIn_wide (n := 0 - 1)).2 key).mono ?_
      rintro e W2 ⟨⟨v, rfl⟩, s, Hj, hI, _, hmJ⟩
      have hmem : (l, Obj.loop (rec .ready none)) ∈ (Hj ++ [(l, .loop (rec .ready none)), (Dk, .deferred (some []))]) ++ HI s := by simp
      refine ⟨none, _, by have := run_endLoop (P := P) (hmJ.own _ hmem).2 (by rw [hrec]; simp); rw [hrec] at this; exact this, ?_⟩
      have h4 : Mem B w0 ((Dk, .deferred (some [])) :: HI s) W2 := hmJ.fewer (by rw [List.append_assoc]; exact fewer_behind _ (.drop (Fewer.refl _)))
      have hne : ∀ p ∈ (Dk, Obj.deferred (some [])) :: HI s, p.1 ≠ l := by
        have h5 := hmJ.apart
        rw [List.append_assoc] at h5
        have h6 := (List.pairwise_append.1 h5).2.1
        exact fun p hp => Ne.symm ((List.pairwise_cons.1 h6).1 p hp)
      have hlB := (hmJ.own _ hmem).1
      have hm5 : Mem B w0 ((Dk, .deferred (some [])) :: HI s) (W2.putObj l (.loop (rec .exhausted none))) :=
        ⟨h4.room, h4.chg.step hB rfl rfl rfl (by simp) (fun k hk hn => World.putObj_heap_other (by rintro rfl; rcases hlB with h | h <;> first | (simp only at h; omega) | exact hn h)), fun p hp => ⟨(h4.own p hp).1, (World.putObj_heap_other (hne p hp)).trans (h4.own p hp).2⟩, h4.apart⟩
      rw [hrec] at hm5
      exact hdone Dk s hI _ _ ⟨by simp [hf.defs], hf.size, hf.at_⟩ hm5
    · rintro xs A C ⟨s, Hj, hI, hj, hmJ⟩ hst
      rw [List.append_assoc] at hmJ
      rw [← hj] at hst
      obtain ⟨Hk, hk, hmk⟩ := mem_steps hB hmJ hst
      exact ⟨s, Hk, hI, hk.trans hj, by rw [List.append_assoc]; exact hmk⟩
    · rintro pre x Wr H1 hpre ⟨s, Hj, hI, hj, hmJ⟩ hj1 hm1
      have hmJ' := hmJ
      rw [List.append_assoc] at hmJ'
      obtain rfl : H1 = Hj := same_hp hm1 (fun p hp => (hmJ'.own p (List.mem_append_left _ hp)).2) (hj1.trans hj.symm)
      have hmem : (l, Obj.loop (rec .ready none)) ∈ (H1 ++ [(l, .loop (rec .ready none)), (Dk, .deferred (some []))]) ++ HI s := by simp
      have hll := (hmJ.own _ hmem).2
      have hy := run_yield (P := P) (args := (encs x).toArray) hll (by rw [hrec]; simp [hps x])
      refine ⟨_, _, _, _, hy, roundIn_of_wpIn (F := Fence.wide) trivial ?_⟩
      rw [hrec]
      have hfp : Fits N [] (penv ps (encs x) env) { tmps := (ps.zip (encs x)).foldl (fun t p => t.setIfInBounds p.1 p.2) a.tmps, defers := [] } :=
        fits_penv (D := []) ps (encs x) env { a with defers := [] } ⟨rfl, hf.size, hf.at_⟩ hpN
      have hz : ((ps.toArray.zip (encs x).toArray).foldl (fun tmps (p : Nat × Value) => tmps.setIfInBounds p.1 p.2) a.tmps) = (ps.zip (encs x)).foldl (fun t p => t.setIfInBounds p.1 p.2) a.tmps := by
        simp
      have ha := hassign l _ x _ Wr hfp hmJ
      rw [← hz] at ha
      refine wpIn_mono ha ?_
      rintro e a1 w1 hq
      cases e with
      | normal =>
        obtain ⟨hfa, hma⟩ := hq
        have hl1 := (hma.own _ hmem).2
        refine ⟨_, run_beginRound hl1 (by rw [hrec]), ?_⟩
        rw [hrec]
        have hat : ∀ (o : Obj) (s' : σ) (o0 : Obj), At ((H1 ++ [(l, o0), (Dk, .deferred (some []))]) ++ HI s') l o0 o ((H1 ++ [(l, o), (Dk, .deferred (some []))]) ++ HI s') := by
          intro o s' o0
          rw [List.append_assoc, List.append_assoc]
          exact at_behind H1 At.here
        have hmb := hma.put (hat (.loop { rec .ready none with state := .busy }) s _)
        refine wpIn_mono (hbody l Dk _ H1 pre x s hpre hI a1 _ hfa (by rw [hrec] at hmb; exact hmb.perm List.perm_append_comm)) ?_
        rintro e a2 w2 hq
        cases e with
        | normal =>
          obtain ⟨s', hI', hm'⟩ := hq
          replace hm' := hm'.perm List.perm_append_comm
          have hmem2 : (l, Obj.loop { state := .busy, pending := none, fn := fnn, tmps := a.tmps, params := ps.toArray, assign, body, defers := w.heap.size }) ∈ (H1 ++ [(l, .loop { state := .busy, pending := none, fn := fnn, tmps := a.tmps, params := ps.toArray, assign, body, defers := w.heap.size }), (Dk, .deferred (some []))]) ++ HI s' := by simp
          have hl2 := (hm'.own _ hmem2).2
          refine ⟨_, _, run_endRound none hl2, rfl, ⟨s', H1, hI', hj1, ?_⟩, ?_⟩
          · have := hm'.put (hat (.loop (rec .ready none)) s' _)
            rw [hrec] at this
            simpa using this
          · have := hm'.put (hat (.loop (rec .ready none)) s' _)
            rw [hrec] at this
            have h7 := this.fewer (H' := H1) (by rw [List.append_assoc]; exact fewer_prefix _ _)
            simpa using h7
        | _ => exact hq.elim
      | _ => exact hq.elim
/-! ### A function that ranges over a function -/
section enterM
variable {P : Program} {f : FuncId} {fn : Func} {c : Code} {w : World} {R : Ending → World → Prop}
theorem enterM {N : Nat} {args : List Value} (hf : P.funcs[f]? = some fn) (hb : fn.body = some c) (hn : fn.ntmps = N) (ha : args.length ≤ N)
    (h : Sx P w.heap.size ⟨w, []⟩ N [] c (envOf 0 args) [] (bodyPostM Fence.wide 0 P fn R)) : Calls P f args.toArray w R := by
  refine (callsIn_wide (n := 0)).1 (callsIn_of_wp_marks hf hb trivial ((wpIn_wide (n := 0)).2 (h _ _ ⟨rfl, ?_, ?_⟩ (Mem.start w))))
  · rw [hn]; simp; omega
  · intro t v hv
    obtain ⟨_, h2⟩ := find_envOf args 0 t v hv
    have hl : t < args.length := by
      rcases Nat.lt_or_ge t args.length with h | h
      · exact h
      · rw [List.getElem?_eq_none (by simpa using h)] at h2; cases h2
    rw [Array.getElem?_append_left (by simpa using hl)]
    simpa using h2
variable {B : Nat} {w0 : Base} {N : Nat} {env : Env} {H H' : Hp}
theorem E_retM1 {t Dk : Nat} {v : Value} (hr : fn.results = #[.tmp t]) (hv : find env t = some v) (hat : At H Dk (.deferred (some [])) (.deferred none) H') (h : ∀ w, Mem B w0 H' w → R (.returned v) w) : Ex B w0 N [⟨.collected Dk, #[]⟩] env H (bodyPostM Fence.wide 0 P fn R .ret) := by
  intro a w hf hm
  show LeavesInM Fence.wide 0 P fn a.tmps R a.defers .returning w
  rw [hf.defs]
  refine ⟨by simp, .inl ⟨Dk, _, rfl, run_takeDeferred (hm.at_ hat), ?_⟩⟩
  exact ⟨v, by have := hf.at_ t v hv; simp [results, hr, this], h _ (hm.put hat)⟩
end enterM
end Go.K
/-
  A callee that turns blocks that are known, and makes others; deferred calls; append and copy of rows. Plain theorems, over any program.
-/
namespace Go.K
open Go Go.RowKit
theorem perm_pick {H Hr : Hp} {b : Nat} {o : Obj} (h : Del H b o Hr) : H.Perm ((b, o) :: Hr) := by
  induction h with
  | here => exact List.Perm.refl _
  | there _ ih => exact (ih.cons _).trans (List.Perm.swap _ _ _)
section frame
variable {P : Program} {B : Nat} {w0 : Base} {N : Nat} {D : List Deferred} {env : Env} {H : Hp} {T : Env → Hp → Prop} {Q : Exit → Act → World → Prop}
variable {dst : Option Tmp} {ty : TypeId} {pos : String} {after : Array Edge} {g : Option (Nat × Bool)}
/-- What a callee was given has turned into H', all else stays. -/
theorem Mem.frame {w w' : World} {Hc K H' : Hp} (m : Mem B w0 (Hc ++ K) w) (hc : Mem w.heap.size ⟨w, Hc.map (·.1)⟩ H' w') : Mem B w0 (H' ++ K) w' := by
  have hap := List.pairwise_append.1 m.apart
  have hlt : ∀ p ∈ K, p.1 < w.heap.size := fun p hp => m.lt (by simp [hp])
  have hnK : ∀ p ∈ K, p.1 ∉ Hc.map (·.1) := fun p hp hin => by
    obtain ⟨q, hq, e⟩ := List.mem_map.1 hin
    exact hap.2.2 q hq p hp e
  have hbs : ∀ k ∈ Hc.map (·.1), B ≤ k ∨ k ∈ w0.bs := fun k hk => by
    obtain ⟨q, hq, rfl⟩ := List.mem_map.1 hk
    exact (m.own q (by simp [hq])).1
  have m' := m.back hbs hc
  have hkeep : ∀ p ∈ K, w'.heap[p.1]? = some p.2 := fun p hp => (hc.chg.block p.1 (hlt p hp) (hnK p hp)).trans (m.own p (by simp [hp])).2
  refine ⟨m.room, m'.chg, fun p hp => ?_, List.pairwise_append.2 ⟨hc.apart, hap.2.1, fun p hp q hq => ?_⟩⟩
  · rcases List.mem_append.1 hp with hp | hp
    · exact m'.own p hp
    · exact ⟨(m.own p (by simp [hp])).1, hkeep p hp⟩
  · intro e
    rcases (hc.own p hp).1 with h | h
    · have h9 := hlt q hq; rw [e] at h; exact absurd h9 (Nat.not_lt.2 h)
    · exact hnK q hq (e ▸ h)
/-- A call that may turn the blocks Hc (they stand in H, in whatever order), and hands back v. -/
theorem op_callH {d : Nat} {fo : Operand} {xs : List Operand} {ts : Array TypeId} {f : FuncId} {fn : Func} {vs first cap : List Value} {Hc K : Hp} {Post : Value → Hp → Prop} (hfo : look env fo = some (.func (.func f) first.toArray cap.toArray)) (hxs : looks env xs = some vs)
    (hf0 : P.funcs[f]? = some fn) (hb0 : fn.body.isNone = false) (hn0 : (fn.name == "runtime.NumGoroutine") = false) (hd : Nat.blt d N = true) (hp : H.Perm (Hc ++ K))
    (hc : ∀ w, Mem w.heap.size ⟨w, Hc.map (·.1)⟩ Hc w → Calls P f (first ++ vs ++ cap).toArray w fun e w' => ∃ v H', e = .returned v ∧ Mem w.heap.size ⟨w, Hc.map (·.1)⟩ H' w' ∧ Post v H') (h : ∀ v H', Post v H' → T ((d, v) :: env) (H' ++ K)) :
    Op1 P B w0 N D ⟨some d, .call { callee := .value fo, args := xs.toArray, argTypes := ts }, ty, pos, after, g⟩ env H T :=
  op_call hfo hxs hf0 hb0 hn0 hd fun w hm => by
    have hm2 := hm.perm hp
    have hm3 : Mem B w0 Hc w := hm2.fewer (Fewer.inl _ _)
    refine (hc w hm3.here).mono ?_
    rintro e w' ⟨v, H', rfl, hm4, hpo⟩
    exact ⟨v, _, rfl, hm2.frame hm4, h v H' hpo⟩
/-- .. told by what it hands back. -/
theorem op_callX {σ : Type} (val : σ → Value) (HF : σ → Hp) (I : σ → Prop) {d : Nat} {fo : Operand} {xs : List Operand} {ts : Array TypeId} {f : FuncId} {fn : Func} {vs first cap : List Value} {Hc K : Hp} (hfo : look env fo = some (.func (.func f) first.toArray cap.toArray)) (hxs : looks env xs = some vs)
    (hf0 : P.funcs[f]? = some fn) (hb0 : fn.body.isNone = false) (hn0 : (fn.name == "runtime.NumGoroutine") = false) (hd : Nat.blt d N = true) (hp : H.Perm (Hc ++ K))
    (hc : ∀ w, Mem w.heap.size ⟨w, Hc.map (·.1)⟩ Hc w → Calls P f (first ++ vs ++ cap).toArray w fun e w' => ∃ s, e = .returned (val s) ∧ Mem w.heap.size ⟨w, Hc.map (·.1)⟩ (HF s) w' ∧ I s) (h : ∀ s, I s → T ((d, val s) :: env) (HF s ++ K)) :
    Op1 P B w0 N D ⟨some d, .call { callee := .value fo, args := xs.toArray, argTypes := ts }, ty, pos, after, g⟩ env H T :=
  op_callH (Post := fun v H' => ∃ s, v = val s ∧ H' = HF s ∧ I s) hfo hxs hf0 hb0 hn0 hd hp (fun w hm => (hc w hm).mono fun _ _ ⟨s, he, hm', hI⟩ => ⟨_, _, he, hm', s, rfl, rfl, hI⟩) fun v H' ⟨s, e1, e2, hI⟩ => by
    subst e1 e2
    exact h s hI
/-- Operations that put a call off. -/
theorem R_defer {ops : Array Oper} {rest : List Oper} {fo : Operand} {ts : Array TypeId} {fv : Fn} {cs : Array Value} (hfo : look env fo = some (.func fv #[] cs))
    (h : Rx P B w0 N ({ target := .fn fv cs, args := #[] } :: D) ops rest env H Q) : Rx P B w0 N D ops (⟨none, .defer { callee := .value fo, args := #[], argTypes := ts }, ty, pos, after, none⟩ :: rest) env H Q := fun a w hf hm => wpList_plain rfl fun K hK => by
  have hrun : (execOp a.eval ⟨none, .defer { callee := .value fo, args := #[], argTypes := ts }, ty, pos, after, none⟩).run P w = .ok (.defer { target := .fn fv cs, args := #[] }) w := by
    simp [execOp, resolve, hf.eval hfo, Deferred.ofValue]
  unfold Oper.wp
  rw [hrun]
  refine hK _ _ (h _ _ ⟨?_, hf.size, hf.at_⟩ hm)
  simp [Act.put, hf.defs]
theorem enterD_at {f : FuncId} {fn : Func} {c : Code} {w : World} {R : Ending → World → Prop} {args : List Value} (hf : P.funcs[f]? = some fn) (hb : fn.body = some c) (hn : fn.ntmps = N) (ha : args.length ≤ N) (hm : Mem B w0 H w)
    (h : Sx P B w0 N [] c (envOf 0 args) H (bodyPostD P fn R)) : Calls P f args.toArray w R := by
  refine calls_of_wp_defers hf hb (h _ _ ⟨rfl, ?_, ?_⟩ hm)
  · rw [hn]; simp; omega
  · intro t v hv
    obtain ⟨_, h2⟩ := find_envOf args 0 t v hv
    have hl : t < args.length := by
      rcases Nat.lt_or_ge t args.length with h | h
      · exact h
      · rw [List.getElem?_eq_none (by simpa using h)] at h2; cases h2
    rw [Array.getElem?_append_left (by simpa using hl)]
    simpa using h2
theorem deferred_at {f : FuncId} {fn : Func} {c : Code} {w : World} {R : Ending → World → Prop} {args : List Value} {u : FrameMode} (hf : P.funcs[f]? = some fn) (hb : fn.body = some c) (hn : fn.ntmps = N) (ha : args.length ≤ N) (hm : Mem B w0 H w)
    (h : Sx P B w0 N [] c (envOf 0 args) H (bodyPost P fn R)) : CallsD P f args.toArray u w fun e u' w' => u' = u ∧ R e w' := by
  refine callsD_of_wp hf hb (h _ _ ⟨rfl, ?_, ?_⟩ hm)
  · rw [hn]; simp; omega
  · intro t v hv
    obtain ⟨_, h2⟩ := find_envOf args 0 t v hv
    have hl : t < args.length := by
      rcases Nat.lt_or_ge t args.length with h | h
      · exact h
      · rw [List.getElem?_eq_none (by simpa using h)] at h2; cases h2
    rw [Array.getElem?_append_left (by simpa using hl)]
    simpa using h2
/-- Back, where one call is put off: it turns H into H'. -/
theorem E_retD {fn : Func} {R : Ending → World → Prop} {f : FuncId} {gn : Func} {caps : List Value} {H' : Hp} (hf0 : P.funcs[f]? = some gn) (hb0 : gn.body.isNone = false) (hn0 : (gn.name == "runtime.NumGoroutine") = false)
    (hc : ∀ w, Mem B w0 H w → CallsD P f caps.toArray .returning w fun e u' w' => u' = .returning ∧ (∃ v, e = .returned v) ∧ Mem B w0 H' w')
    (h : ∀ a w, Fits N [{ target := .fn (.func f) caps.toArray, args := #[] }] env a → Mem B w0 H' w → ∃ v, (results fn a.tmps).run P w = .ok v w ∧ R (.returned v) w) : Ex B w0 N [{ target := .fn (.func f) caps.toArray, args := #[] }] env H (bodyPostD P fn R .ret) := fun a w hf hm => by
  show Leaves P fn a.tmps R a.defers .returning w
  rw [hf.defs]
  refine leaves_cons (by simp) (args := caps.toArray) (f := f) ?_ ((hc w hm).mono ?_)
  · simp only [invoke]
    rw [runs_callFunc hf0 hb0 hn0]
    simp
  · rintro e u' w' ⟨rfl, ⟨v, rfl⟩, hm'⟩
    exact h a w' hf hm'
end frame
section ops
variable {P : Program} {B : Nat} {w0 : Base} {N : Nat} {D : List Deferred} {env : Env} {H : Hp} {T : Env → Hp → Prop}
variable {dst : Option Tmp} {ty : TypeId} {pos : String} {after : Array Edge} {g : Option (Nat × Bool)}
/-- append of rows to a slice of the call's own: it may move. -/
theorem op_appendR {d s bytes : Nat} {t e : TypeId} {x y : Operand} {z : Value} {b n cap m c : Nat} {xs ys sp : List Value} {A : Option Addr} {H' : Hp} (hx : look env x = some (.slice (some ⟨b, 0, none⟩) n cap)) (hy : look env y = some (.slice A m c))
    (ht : P.underlying t = some (.slice e)) (he : ElR P e z s bytes) (hs0 : 0 < s) (hdel : Del H b (.cells (xs ++ sp).toArray e (0, 0)) H') (hxl : xs.length = n * s) (hcap : (xs ++ sp).length = cap * s) (hcm : cap ≤ maxLen)
    (hsrc : ∀ w, Mem B w0 H w → Reads w A (m * s) ys) (hone : ∀ u ∈ ys, u.oneCell' = true) (hm0 : 0 < m) (h63 : n + m ≤ 1000000) (hby : bytes ≤ 1000000) (hd : Nat.blt d N = true) (hB : B ≤ w0.w.heap.size)
    (h : ∀ b' cap' sp', (xs ++ ys ++ sp').length = cap' * s → n + m ≤ cap' → cap' ≤ maxLen → T ((d, .slice (some ⟨b', 0, none⟩) (n + m) cap') :: env) ((b', .cells (xs ++ ys ++ sp').toArray e (0, 0)) :: H')) :
    Op1 P B w0 N D ⟨some d, .call { callee := .builtin .append, args := #[x, y], argTypes := #[t, t] }, ty, pos, after, g⟩ env H T := fun K Q hT a w hf hm => by
  obtain ⟨i, hi, hz, hs, hb, hzc⟩ := he
  have hbB := (hm.own _ hdel.mem).1
  have hrd := hsrc w hm
  have hncap : n ≤ cap := by
    rw [List.length_append, hxl] at hcap
    exact Nat.le_of_mul_le_mul_right (by omega : n * s ≤ cap * s) hs0
  have hown : w.ownsRow 0 e s (.slice (some ⟨b, 0, none⟩) n cap) n xs := by
    refine ⟨hxl, .inr ⟨b, cap, _, rfl, Nat.zero_le _, (hm.own _ hdel.mem).2, hncap, hcm, by simpa using hcap, ?_⟩⟩
    rw [← hxl]; simp
  have hms : m * s ≠ 0 := Nat.mul_ne_zero (by omega) (by omega)
  have hbb : (n + m) * bytes ≤ 140737488355328 := Nat.le_trans (Nat.mul_le_mul h63 hby) (by omega)
  have hex : ∃ v' w', (Builtin.append_ #[t, t] ty #[.slice (some ⟨b, 0, none⟩) n cap, .slice A m c]).run P w = .ok v' w' ∧ w'.ownsRow 0 e s v' (n + m) (xs ++ ys) ∧ w.grownBy w' (some b) ∧ v' ≠ .slice none 0 0 ∧ (v'.ownBlock = some b ∨ v'.ownBlock = some w.heap.size) := by
    obtain ⟨b2, off2, rfl, _, hc2⟩ := hrd.2 hms
    obtain ⟨v', w', hrun, h2, h3, h4, h5⟩ := run_append_own_at (P := P) w 0 t ty e i z s bytes ht hi hz hs hb hzc hs0 _ n xs hown ⟨b2, off2, none⟩ m c ys hrd.1 (fun j u hu => by rw [Addr.add_mid]; exact hc2 j u hu) hone (by unfold maxLen; omega) hbb (Nat.zero_le _)
    exact ⟨v', w', hrun, h2, h3, fun e => by have := (h4.1 e).1; simp at this, h5⟩
  obtain ⟨v', w', hrun, h2, h3, h4, h5⟩ := hex
  have hrun2 : (execOp a.eval ⟨some d, .call { callee := .builtin .append, args := #[x, y], argTypes := #[t, t] }, ty, pos, after, g⟩).run P w = .ok (.value v') w' := by
    simp [execOp, resolve, hf.eval hx, hf.eval hy, invoke, builtin, hrun]
  unfold Oper.wp
  rw [hrun2]
  obtain ⟨hlen, hform⟩ := h2
  rcases hform with ⟨hv, _⟩ | ⟨g', cap', cur, rfl, hg', hh, hnc', hcm', hcs, htk⟩
  · exact absurd hv h4
  · have hg2 : g' = b ∨ g' = w.heap.size := by simpa [Value.ownBlock] using h5
    have hsp : cur = (xs ++ ys ++ cur.toList.drop ((n + m) * s)).toArray := by
      rw [← htk]
      simp
    have hm1 := hm.del hdel
    have hbelow : Chg B w0.bs w0.w w' := hm.chg.step hB h3.os h3.tape h3.output h3.size (fun k hk hn => h3.block k (by have := hm.chg.size; omega) (fun e => by
      simp only [Option.some.injEq] at e
      subst e
      rcases hbB with h | h
      · simp only at h; omega
      · exact hn h))
    refine hT _ _ (h g' cap' (cur.toList.drop ((n + m) * s)) (by have := congrArg Array.size hsp; rw [hcs] at this; simpa using this.symm) hnc' hcm') _ _ (hf.put hd _) ⟨hm.room, hbelow, fun p hp => ?_, List.pairwise_cons.2 ⟨fun p hp => ?_, hm1.apart⟩⟩
    · rcases List.mem_cons.1 hp with rfl | hp
      · refine ⟨?_, by rw [← hsp]; exact hh⟩
        rcases hg2 with e | e
        · show B ≤ g' ∨ g' ∈ w0.bs
          rw [e]; exact hbB
        · exact .inl (by have := hm.chg.size; simp only; omega)
      · exact ⟨(hm1.own p hp).1, (h3.block p.1 (hm1.lt hp) (fun e => by simp only [Option.some.injEq] at e; exact hdel.ne hm.apart p hp e)).trans (hm1.own p hp).2⟩
    · have h6 := hdel.ne hm.apart p hp
      have h7 := hm1.lt hp
      show g' ≠ p.1
      omega
/-- append of rows to nil. -/
theorem op_appendNilR {d s bytes : Nat} {t e : TypeId} {x y : Operand} {z : Value} {m c : Nat} {ys : List Value} {A : Option Addr} (hx : look env x = some (.slice none 0 0)) (hy : look env y = some (.slice A m c))
    (ht : P.underlying t = some (.slice e)) (he : ElR P e z s bytes) (hs0 : 0 < s) (hsrc : ∀ w, Mem B w0 H w → Reads w A (m * s) ys) (hone : ∀ u ∈ ys, u.oneCell' = true) (hm0 : 0 < m) (h63 : m ≤ 1000000) (hby : bytes ≤ 1000000) (hd : Nat.blt d N = true) (hB : B ≤ w0.w.heap.size)
    (h : ∀ b' cap' sp', (ys ++ sp').length = cap' * s → m ≤ cap' → cap' ≤ maxLen → T ((d, .slice (some ⟨b', 0, none⟩) m cap') :: env) ((b', .cells (ys ++ sp').toArray e (0, 0)) :: H)) :
    Op1 P B w0 N D ⟨some d, .call { callee := .builtin .append, args := #[x, y], argTypes := #[t, t] }, ty, pos, after, g⟩ env H T := fun K Q hT a w hf hm => by
  obtain ⟨i, hi, hz, hs, hb, hzc⟩ := he
  have hrd := hsrc w hm
  have hms : m * s ≠ 0 := Nat.mul_ne_zero (by omega) (by omega)
  have hbb : (0 + m) * bytes ≤ 140737488355328 := by rw [Nat.zero_add]; exact Nat.le_trans (Nat.mul_le_mul h63 hby) (by omega)
  obtain ⟨b2, off2, rfl, _, hc2⟩ := hrd.2 hms
  obtain ⟨v', w', hrun, h2, h3, h4, h5⟩ := run_append_own_at (P := P) w 0 t ty e i z s bytes ht hi hz hs hb hzc hs0 (.slice none 0 0) 0 [] ⟨by simp, .inl ⟨rfl, rfl⟩⟩ ⟨b2, off2, none⟩ m c ys hrd.1 (fun j u hu => by rw [Addr.add_mid]; exact hc2 j u hu) hone (by unfold maxLen; omega) hbb (Nat.zero_le _)
  have hrun2 : (execOp a.eval ⟨some d, .call { callee := .builtin .append, args := #[x, y], argTypes := #[t, t] }, ty, pos, after, g⟩).run P w = .ok (.value v') w' := by
    simp [execOp, resolve, hf.eval hx, hf.eval hy, invoke, builtin, hrun]
  unfold Oper.wp
  rw [hrun2]
  obtain ⟨hlen, hform⟩ := h2
  rcases hform with ⟨hv, _⟩ | ⟨g', cap', cur, rfl, hg', hh, hnc', hcm', hcs, htk⟩
  · exact absurd (h4.1 hv).2 (by omega)
  · have hg2 : g' = w.heap.size := by simpa [Value.ownBlock] using h5
    simp only [Nat.zero_add, List.nil_append] at htk hh hnc' ⊢
    have hsp : cur = (ys ++ cur.toList.drop (m * s)).toArray := by
      rw [← htk]
      simp
    have hbelow : Chg B w0.bs w0.w w' := hm.chg.step hB h3.os h3.tape h3.output h3.size (fun k hk _ => h3.block k (by have := hm.chg.size; omega) (fun e => by simp [Value.ownBlock] at e))
    refine hT _ _ (h g' cap' (cur.toList.drop (m * s)) (by have := congrArg Array.size hsp; rw [hcs] at this; simpa using this.symm) hnc' hcm') _ _ (hf.put hd _) ⟨hm.room, hbelow, fun p hp => ?_, List.pairwise_cons.2 ⟨fun p hp => ?_, hm.apart⟩⟩
    · rcases List.mem_cons.1 hp with rfl | hp
      · exact ⟨.inl (by have := hm.chg.size; simp only; omega), by rw [← hsp]; exact hh⟩
      · exact ⟨(hm.own p hp).1, (h3.block p.1 (hm.lt hp) (fun e => by simp [Value.ownBlock] at e)).trans (hm.own p hp).2⟩
    · have h7 := hm.lt hp
      show g' ≠ p.1
      omega
/-- A slice literal without elements. -/
theorem op_buildSlice0 {d s : Nat} {t e : TypeId} (ht : P.underlying t = some (.slice e)) (hs : (P.info? e).map (·.size) = some s) (hd : Nat.blt d N = true) (hB : B ≤ w0.w.heap.size)
    (h : ∀ b, T ((d, .slice (some ⟨b, 0, none⟩) 0 0) :: env) ((b, .cells ([] : List Value).toArray e (0, 0)) :: H)) : Op1 P B w0 N D ⟨some d, .buildSlice t 0 #[], ty, pos, after, g⟩ env H T := fun K Q hT a w hf hm => by
  have hsz : (sizeOf e).run P w = .ok s w := sizeOf_ok hs w
  have h3 : (execOp a.eval ⟨some d, .buildSlice t 0 #[], ty, pos, after, g⟩).run P w = .ok (.value (.slice (some ⟨w.heap.size, 0, none⟩) 0 0)) (w.alloc (.cells ([] : List Value).toArray e)) := by
    have h4 : Array.map (fun (_ : Nat) => (default : Value)) (Array.range 0) = #[] := Array.eq_empty_of_size_eq_zero (by simp)
    simp [execOp, Instr.buildSlice, run_underlying ht, hsz, Instr.fill, newRow, h4]
  unfold Oper.wp
  rw [h3]
  exact hT _ _ (h w.heap.size) _ _ (hf.put hd _) (hm.alloc hB _)
/-- copy of rows into rows that are known, as many as there are. -/
theorem op_copyR {d s : Nat} {t u e : TypeId} {x y : Operand} {b off dn dc sn sc n : Nat} {A : Option Addr} {cs xs : List Value} {et : TypeId} {H' : Hp} (hx : look env x = some (.slice (some ⟨b, off, none⟩) dn dc)) (hy : look env y = some (.slice A sn sc))
    (htu : P.underlying t = some (.slice e)) (hs : (P.info? e).map (·.size) = some s) (hn : Nat.min sn dn = n) (hn0 : n * s ≠ 0) (hsrc : ∀ w, Mem B w0 H w → Reads w A (n * s) xs) (h1 : ∀ v ∈ xs, v.oneCell' = true)
    (hat : At H b (.cells cs.toArray et (0, 0)) (.cells (lay cs off xs).toArray et (0, 0)) H') (hlt : off + n * s ≤ cs.length) (hd : Nat.blt d N = true) (h : T ((d, .int .i64 (n : Int)) :: env) H') :
    Op1 P B w0 N D ⟨some d, .call { callee := .builtin .copy, args := #[x, y], argTypes := #[t, u] }, ty, pos, after, g⟩ env H T := fun K Q hT a w hf hm => by
  have hb := hm.at_ hat
  have hrd := hsrc w hm
  obtain ⟨b2, o2, rfl, _, hc2⟩ := hrd.2 hn0
  have hl := run_loadCells_list (P := P) w ⟨b2, o2, none⟩ xs (fun j v hv => by rw [Addr.add_mid]; exact hc2 j v hv)
  have hst := run_storeCells_cells (P := P) b off xs 0 w (fun j hj => by rw [Nat.add_zero, cell_of_row w b _ _ _ _ hb]; rw [hrd.1] at hj; simp; omega) (fun j hj => frozen_of_row w b _ _ _ hb) h1
  rw [hrd.1] at hl
  have key : (Builtin.copy_ #[t, u] ty #[.slice (some ⟨b, off, none⟩) dn dc, .slice (some ⟨b2, o2, none⟩) sn sc]).run P w = .ok (goInt n) (w.setCells b off xs) := by
    have hsz : (sizeOf e).run P w = .ok s w := sizeOf_ok hs w
    simp [Builtin.copy_, run_underlying htu, Builtin.lenOf, Builtin.firstCells, hsz, hn, hl, hst]
  have hrun : (execOp a.eval ⟨some d, .call { callee := .builtin .copy, args := #[x, y], argTypes := #[t, u] }, ty, pos, after, g⟩).run P w = .ok (.value (.int .i64 (n : Int))) (w.setCells b off xs) := by
    simp [execOp, resolve, hf.eval hx, hf.eval hy, invoke, builtin, key, goInt]
  unfold Oper.wp
  rw [hrun]
  exact hT _ _ h _ _ (hf.put hd _) (Mem.lay _ _ _ _ _ off hm hat)
end ops
end Go.K
