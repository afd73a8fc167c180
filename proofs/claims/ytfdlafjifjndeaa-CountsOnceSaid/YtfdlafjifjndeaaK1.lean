/-
  A small calculus of its own over the model's rules: a frame is told by the slots that are known (a list of pairs), memory by the blocks that the call made itself and by what lay before. Plain definitions and theorems; over any program.
-/
import Derived.WalkKit
import Derived.OrdersHeld
import Derived.Deep.MidRow
import Derived.Laws.Tables
import Derived.Laws.Rows
import Derived.Deep.LoopGhost
import Derived.Deep.Quiet
namespace Go.K
open Go.RowKit

abbrev Env := List (Nat × Value)
abbrev Hp := List (Nat × Obj)

def find : Env → Nat → Option Value
  | [], _ => none
  | (k, v) :: r, t => match Nat.beq k t with
    | true => some v
    | false => find r t

def look (env : Env) : Operand → Option Value
  | .tmp t => find env t
  | .const v => some v
  | .global g => some (.pointer (some ⟨g, 0, none⟩))
  | .func f => some (.func (.func f) #[] #[])

structure Fits (N : Nat) (D : List Deferred) (env : Env) (a : Act) : Prop where
  defs : a.defers = D
  size : a.tmps.size = N
  at_ : ∀ t v, find env t = some v → a.tmps[t]? = some v

theorem find_cons_same (env : Env) (t : Nat) (v : Value) : find ((t, v) :: env) t = some v := by
  have h : Nat.beq t t = true := Nat.beq_refl t
  simp only [find, h]

theorem find_cons_ne {env : Env} {k t : Nat} {v : Value} (h : k ≠ t) : find ((k, v) :: env) t = find env t := by
  have h : Nat.beq k t = false := by
    cases hb : Nat.beq k t with
    | false => rfl
    | true => exact absurd (Nat.eq_of_beq_eq_true hb) h
  simp only [find, h]

section fits
variable {N : Nat} {D : List Deferred} {env : Env} {a : Act}

theorem Fits.eval (h : Fits N D env a) {x : Operand} {v : Value} (hx : look env x = some v) : a.eval x = v := by
  cases x with
  | tmp t => have := h.at_ t v hx; simp [Act.eval, this]
  | const u => simp only [look, Option.some.injEq] at hx; subst hx; rfl
  | global g => simpa [look, Act.eval] using hx
  | func f => simpa [look, Act.eval] using hx

theorem Fits.put (h : Fits N D env a) {d : Nat} (hd : Nat.blt d N = true) (v : Value) : Fits N D ((d, v) :: env) (a.put (some d) v) := by
  have hd' : d < N := by simpa using hd
  refine ⟨h.defs, by simp [Act.put, h.size], fun t u hu => ?_⟩
  by_cases hk : d = t
  · subst hk
    rw [find_cons_same] at hu
    cases hu
    simp [Act.put, h.size, hd']
  · rw [find_cons_ne hk] at hu
    simp only [Act.put]
    rw [Array.getElem?_setIfInBounds_ne hk]
    exact h.at_ t u hu

theorem Fits.put_none (h : Fits N D env a) (v : Value) : Fits N D env (a.put none v) := h

/-- The known slots of the one are known in the other. -/
def Sub (env' env : Env) : Prop := ∀ t v, find env' t = some v → find env t = some v
theorem Sub.nil {env : Env} : Sub [] env := fun _ _ h => by cases h
theorem Sub.cons {env' env : Env} {t : Nat} {v : Value} (h : find env t = some v) (hs : Sub env' env) : Sub ((t, v) :: env') env := fun k u hu => by
  by_cases hk : t = k
  · subst hk
    rw [find_cons_same] at hu
    cases hu
    exact h
  · rw [find_cons_ne hk] at hu
    exact hs k u hu
theorem Sub.refl (env : Env) : Sub env env := fun _ _ h => h
theorem Fits.sub (h : Fits N D env a) {env' : Env} (hs : Sub env' env) : Fits N D env' a := ⟨h.defs, h.size, fun t v hv => h.at_ t v (hs t v hv)⟩
end fits

/-- Block b of the list is o; with o' for it the list is H'. -/
inductive At : Hp → Nat → Obj → Obj → Hp → Prop where
  | here {H : Hp} {b : Nat} {o o' : Obj} : At ((b, o) :: H) b o o' ((b, o') :: H)
  | there {H H' : Hp} {x : Nat × Obj} {b : Nat} {o o' : Obj} (h : At H b o o' H') : At (x :: H) b o o' (x :: H')

/-- Block b of the list is o; without it the list is H'. -/
inductive Del : Hp → Nat → Obj → Hp → Prop where
  | here {H : Hp} {b : Nat} {o : Obj} : Del ((b, o) :: H) b o H
  | there {H H' : Hp} {x : Nat × Obj} {b : Nat} {o : Obj} (h : Del H b o H') : Del (x :: H) b o (x :: H')

/-- The list H' is H, without some blocks. -/
inductive Fewer : Hp → Hp → Prop where
  | nil {H : Hp} : Fewer [] H
  | keep {H' H : Hp} {b : Nat} {o' o : Obj} (ho : o' = o) (h : Fewer H' H) : Fewer ((b, o') :: H') ((b, o) :: H)
  | drop {H' H : Hp} {x : Nat × Obj} (h : Fewer H' H) : Fewer H' (x :: H)
  | pick {H' H Hr : Hp} {b : Nat} {o' o : Obj} (ho : o' = o) (hd : Del H b o Hr) (h : Fewer H' Hr) : Fewer ((b, o') :: H') H

/-- What the walk is measured against: a world, and the blocks of it that may turn. -/
structure Base where
  w : World
  bs : List Nat

/-- Below B only the blocks bs have turned. -/
structure Chg (B : Nat) (bs : List Nat) (w0 w : World) : Prop where
  os : w.os = w0.os
  tape : w.tape = w0.tape
  output : w.output = w0.output
  size : w0.heap.size ≤ w.heap.size
  block : ∀ k, k < B → k ∉ bs → w.heap[k]? = w0.heap[k]?

structure Mem (B : Nat) (w0 : Base) (H : Hp) (w : World) : Prop where
  room : B ≤ w0.w.heap.size
  chg : Chg B w0.bs w0.w w
  own : ∀ p ∈ H, (B ≤ p.1 ∨ p.1 ∈ w0.bs) ∧ w.heap[p.1]? = some p.2
  apart : H.Pairwise (fun p q => p.1 ≠ q.1)

theorem At.mem {H H' : Hp} {b : Nat} {o o' : Obj} (h : At H b o o' H') : (b, o) ∈ H := by
  induction h with
  | here => exact .head _
  | there _ ih => exact .tail _ ih
theorem At.fst {H H' : Hp} {b : Nat} {o o' : Obj} (h : At H b o o' H') : H'.map (·.1) = H.map (·.1) := by
  induction h with
  | here => rfl
  | there _ ih => simp [ih]
theorem At.new {H H' : Hp} {b : Nat} {o o' : Obj} (h : At H b o o' H') : ∀ p ∈ H', p = (b, o') ∨ (p ∈ H ∧ (H.Pairwise (fun p q => p.1 ≠ q.1) → p.1 ≠ b)) := by
  induction h with
  | here =>
    intro p hp
    rcases List.mem_cons.1 hp with rfl | hp
    · exact .inl rfl
    · exact .inr ⟨.tail _ hp, fun hpw => Ne.symm ((List.pairwise_cons.1 hpw).1 p hp)⟩
  | @there H H' x b o o' h ih =>
    intro p hp
    rcases List.mem_cons.1 hp with rfl | hp
    · exact .inr ⟨.head _, fun hpw => (List.pairwise_cons.1 hpw).1 _ h.mem⟩
    · rcases ih p hp with e | ⟨hm, hn⟩
      · exact .inl e
      · exact .inr ⟨.tail _ hm, fun hpw => hn (List.pairwise_cons.1 hpw).2⟩
theorem Del.sub {H H' : Hp} {b : Nat} {o : Obj} (h : Del H b o H') : H'.Sublist H := by
  induction h with
  | here => exact List.sublist_cons_self _ _
  | there _ ih => exact ih.cons_cons _
theorem Del.mem {H H' : Hp} {b : Nat} {o : Obj} (h : Del H b o H') : (b, o) ∈ H := by
  induction h with
  | here => exact .head _
  | there _ ih => exact .tail _ ih
theorem Del.ne {H H' : Hp} {b : Nat} {o : Obj} (h : Del H b o H') (hp : H.Pairwise (fun p q => p.1 ≠ q.1)) : ∀ p ∈ H', p.1 ≠ b := by
  induction h with
  | here => exact fun p hm => Ne.symm ((List.pairwise_cons.1 hp).1 p hm)
  | @there H H' x b o h ih =>
    intro p hm
    rcases List.mem_cons.1 hm with rfl | hm
    · exact (List.pairwise_cons.1 hp).1 _ h.mem
    · exact ih (List.pairwise_cons.1 hp).2 p hm
theorem Fewer.mem {H H' : Hp} (h : Fewer H' H) : ∀ p ∈ H', p ∈ H := by
  induction h with
  | nil => exact fun p hp => (by cases hp)
  | keep ho _ ih =>
    subst ho
    intro p hp
    rcases List.mem_cons.1 hp with rfl | hp
    · exact .head _
    · exact .tail _ (ih p hp)
  | drop _ ih => exact fun p hp => .tail _ (ih p hp)
  | pick ho hd _ ih =>
    subst ho
    intro p hp
    rcases List.mem_cons.1 hp with rfl | hp
    · exact hd.mem
    · exact hd.sub.subset (ih p hp)
theorem Fewer.apart {H H' : Hp} (h : Fewer H' H) : H.Pairwise (fun p q => p.1 ≠ q.1) → H'.Pairwise (fun p q => p.1 ≠ q.1) := by
  induction h with
  | nil => exact fun _ => List.Pairwise.nil
  | keep ho h ih =>
    subst ho
    intro hp
    have hp' := List.pairwise_cons.1 hp
    exact List.pairwise_cons.2 ⟨fun p hm => hp'.1 p (h.mem p hm), ih hp'.2⟩
  | drop _ ih => exact fun hp => ih (List.pairwise_cons.1 hp).2
  | pick ho hd h ih =>
    subst ho
    intro hp
    exact List.pairwise_cons.2 ⟨fun p hm => Ne.symm (hd.ne hp p (h.mem p hm)), ih (List.Pairwise.sublist hd.sub hp)⟩
theorem Fewer.refl : ∀ (H : Hp), Fewer H H
  | [] => .nil
  | (_, _) :: r => .keep rfl (Fewer.refl r)

section mem
variable {B : Nat} {w0 : Base} {w : World} {H H' : Hp}

theorem Chg.refl (B : Nat) (bs : List Nat) (w : World) : Chg B bs w w := ⟨rfl, rfl, rfl, Nat.le_refl _, fun _ _ _ => rfl⟩
theorem Mem.start (w : World) : Mem w.heap.size ⟨w, []⟩ [] w := ⟨Nat.le_refl _, Chg.refl _ _ _, fun _ h => (by cases h), List.Pairwise.nil⟩
theorem Mem.below {w0 : World} (m : Mem B ⟨w0, []⟩ H w) : Below B w0 w := ⟨m.chg.os, m.chg.tape, m.chg.output, m.chg.size, fun k hk => m.chg.block k hk (by simp)⟩
theorem Mem.fewer (m : Mem B w0 H w) (h : Fewer H' H) : Mem B w0 H' w := ⟨m.room, m.chg, fun p hp => m.own p (h.mem p hp), h.apart m.apart⟩
theorem Mem.del {b : Nat} {o : Obj} (m : Mem B w0 H w) (h : Del H b o H') : Mem B w0 H' w := ⟨m.room, m.chg, fun p hp => m.own p (h.sub.subset hp), List.Pairwise.sublist h.sub m.apart⟩
theorem Mem.lt (m : Mem B w0 H w) {p : Nat × Obj} (hp : p ∈ H) : p.1 < w.heap.size := (Array.getElem?_eq_some_iff.1 (m.own p hp).2).1
theorem Mem.at_ (m : Mem B w0 H w) {b : Nat} {o o' : Obj} (h : At H b o o' H') : w.heap[b]? = some o := (m.own _ h.mem).2

/-- A step that leaves alone all that is not of the list, below the heap's end. -/
theorem Chg.step (c : Chg B w0.bs w0.w w) (hB : B ≤ w0.w.heap.size) {w' : World} (hos : w'.os = w.os) (ht : w'.tape = w.tape) (hout : w'.output = w.output) (hsz : w.heap.size ≤ w'.heap.size) (hb : ∀ k, k < B → k ∉ w0.bs → w'.heap[k]? = w.heap[k]?) : Chg B w0.bs w0.w w' :=
  ⟨hos.trans c.os, ht.trans c.tape, hout.trans c.output, Nat.le_trans c.size hsz, fun k hk hn => (hb k hk hn).trans (c.block k hk hn)⟩

/-- A new block, whatever it is. -/
theorem Mem.alloc (m : Mem B w0 H w) (hB : B ≤ w0.w.heap.size) (o : Obj) : Mem B w0 ((w.heap.size, o) :: H) (w.alloc o) := by
  have hb : B ≤ w.heap.size := Nat.le_trans hB m.chg.size
  refine ⟨m.room, m.chg.step hB rfl rfl rfl (by simp) (fun k hk _ => Below.heap_alloc w o k (by omega)), fun p hp => ?_, List.pairwise_cons.2 ⟨fun p hp => Nat.ne_of_gt (m.lt hp), m.apart⟩⟩
  rcases List.mem_cons.1 hp with rfl | hp
  · exact ⟨.inl hb, heap_alloc_new w o⟩
  · exact ⟨(m.own p hp).1, (Below.heap_alloc w o p.1 (m.lt hp)).trans (m.own p hp).2⟩

theorem Mem.drew (m : Mem B w0 H w) : Mem B w0 H w.drew := ⟨m.room, ⟨m.chg.os, m.chg.tape, m.chg.output, m.chg.size, m.chg.block⟩, m.own, m.apart⟩

/-- One block has turned. -/
theorem Mem.turn (m : Mem B w0 H w) {b : Nat} {o o' : Obj} (h : At H b o o' H') {w' : World} (hos : w'.os = w.os) (ht : w'.tape = w.tape) (hout : w'.output = w.output)
    (hsz : w.heap.size ≤ w'.heap.size) (hb : w'.heap[b]? = some o') (hoth : ∀ k, k < w.heap.size → k ≠ b → w'.heap[k]? = w.heap[k]?) : Mem B w0 H' w' := by
  have hB := (m.own _ h.mem).1
  refine ⟨m.room, m.chg.step m.room hos ht hout hsz (fun k hk hn => hoth k (Nat.lt_of_lt_of_le hk (Nat.le_trans m.room m.chg.size)) fun e => ?_), fun p hp => ?_, ?_⟩
  · subst e
    rcases hB with h | h
    · simp only at h; omega
    · exact hn h
  · rcases h.new p hp with rfl | ⟨hm, hn⟩
    · exact ⟨hB, hb⟩
    · exact ⟨(m.own p hm).1, (hoth p.1 (m.lt hm) (hn m.apart)).trans (m.own p hm).2⟩
  · have h1 := m.apart
    have e := h.fst
    have h2 : (H.map (·.1)).Pairwise (· ≠ ·) := List.pairwise_map.2 h1
    rw [← e] at h2
    exact List.pairwise_map.1 h2

/-- A callee that leaves alone what was there. -/
theorem Mem.call (m : Mem B w0 H w) (hB : B ≤ w0.w.heap.size) {w' : World} (hb : Below w.heap.size w w') : Mem B w0 H w' := by
  have h1 : B ≤ w.heap.size := Nat.le_trans hB m.chg.size
  exact ⟨m.room, m.chg.step hB hb.os hb.tape hb.output hb.size (fun k hk _ => hb.block k (by omega)), fun p hp => ⟨(m.own p hp).1, (hb.block p.1 (m.lt hp)).trans (m.own p hp).2⟩, m.apart⟩

/-- .. and hands back a block of its own. -/
theorem Mem.call1 (m : Mem B w0 H w) (hB : B ≤ w0.w.heap.size) {w' : World} (hb : Below w.heap.size w w') {g : Nat} {o : Obj} (hg : w.heap.size ≤ g) (ho : w'.heap[g]? = some o) : Mem B w0 ((g, o) :: H) w' := by
  have m' := m.call hB hb
  refine ⟨m'.room, m'.chg, fun p hp => ?_, List.pairwise_cons.2 ⟨fun p hp => ?_, m'.apart⟩⟩
  · rcases List.mem_cons.1 hp with rfl | hp
    · exact ⟨.inl (Nat.le_trans (Nat.le_trans hB m.chg.size) hg), ho⟩
    · exact m'.own p hp
  · have := m.lt hp; show g ≠ p.1; omega

theorem Mem.cell (m : Mem B w0 H w) {b : Nat} {cs : List Value} {t : TypeId} {fr : Nat × Nat} (h : (b, Obj.cells cs.toArray t fr) ∈ H) (j : Nat) : w.cell? ⟨b, j, none⟩ = cs[j]? := by
  have := (m.own _ h).2
  simp only at this
  rw [cell_of_row w b j _ t fr this]
  simp
theorem Mem.base (m : Mem B w0 H w) {p : Addr} (hp : p.block < B) (hn : p.block ∉ w0.bs) : w.cell? p = w0.w.cell? p := World.cell?_of_block (w := w0.w) (m.chg.block p.block hp hn)
end mem

/-! ### The judgements -/
section judge
variable (P : Program) (B : Nat) (w0 : Base) (N : Nat) (D : List Deferred)

def Sx (c : Code) (env : Env) (H : Hp) (Q : Exit → Act → World → Prop) : Prop := ∀ a w, Fits N D env a → Mem B w0 H w → c.wp P Q a w
def Rx (ops : Array Oper) (l : List Oper) (env : Env) (H : Hp) (Q : Exit → Act → World → Prop) : Prop := ∀ a w, Fits N D env a → Mem B w0 H w → wpList P ops Q l a w
def Ex (env : Env) (H : Hp) (K : Act → World → Prop) : Prop := ∀ a w, Fits N D env a → Mem B w0 H w → K a w
/-- In a region whose order is drawn: S holds behind each operation. -/
def Dx (ops : Array Oper) (S : World → Prop) (fuel : Nat) (listed : Array Bool) (env : Env) (H : Hp) (Q : Exit → Act → World → Prop) : Prop :=
  ∀ a w, Fits N D env a → Mem B w0 H w → S w → wpAnyH P .any ops Q S fuel listed a w
/-- One operation, from this state on, comes to T. -/
def Op1 (o : Oper) (env : Env) (H : Hp) (T : Env → Hp → Prop) : Prop :=
  ∀ (K : Act → World → Prop) (Q : Exit → Act → World → Prop), (∀ env' H', T env' H' → Ex B w0 N D env' H' K) → ∀ a w, Fits N D env a → Mem B w0 H w → o.wp P a w K Q
/-- One operation yields v and leaves the world. -/
def Pure1 (o : Oper) (env : Env) (H : Hp) (v : Value) : Prop := ∀ a w, Fits N D env a → Mem B w0 H w → (execOp a.eval o).run P w = .ok (.value v) w
end judge

section rules
variable {P : Program} {B : Nat} {w0 : Base} {N : Nat} {D : List Deferred} {env : Env} {H : Hp} {Q : Exit → Act → World → Prop}

theorem S_seq {x y : Code} (h : Sx P B w0 N D x env H (Exit.then (y.wp P Q) Q)) : Sx P B w0 N D (.seq x y) env H Q := fun a w hf hm => wp_seq (h a w hf hm)
theorem E_seq {y : Code} {Q' : Exit → Act → World → Prop} (h : Sx P B w0 N D y env H Q) : Ex B w0 N D env H (Exit.then (y.wp P Q) Q' .normal) := h
theorem S_skip (h : Ex B w0 N D env H (Q .normal)) : Sx P B w0 N D .skip env H Q := fun a w hf hm => wp_skip (h a w hf hm)
theorem S_label {l : Nat} (h : Ex B w0 N D env H (Q .normal)) : Sx P B w0 N D (.label l) env H Q := fun a w hf hm => wp_label (h a w hf hm)
theorem S_exit {id : Nat} (h : Ex B w0 N D env H (Q (.exit id))) : Sx P B w0 N D (.exit id) env H Q := fun a w hf hm => wp_exit (h a w hf hm)
theorem S_ret (h : Ex B w0 N D env H (Q .ret)) : Sx P B w0 N D .ret env H Q := fun a w hf hm => wp_ret (h a w hf hm)
theorem S_block {id : Nat} {c : Code} (h : Sx P B w0 N D c env H (Exit.inBlock id Q)) : Sx P B w0 N D (.block id c) env H Q := fun a w hf hm => wp_block (h a w hf hm)
theorem S_cond {c : Operand} {x y : Code} {t : Bool} (hc : look env c = some (.bool t)) (h1 : t = true → Sx P B w0 N D x env H Q) (h2 : t = false → Sx P B w0 N D y env H Q) : Sx P B w0 N D (.cond c x y) env H Q :=
  fun a w hf hm => wp_cond_split (hf.eval hc) (fun ht => h1 ht a w hf hm) (fun ht => h2 ht a w hf hm)
theorem S_yes {c : Operand} {x y : Code} {t : Bool} (hc : look env c = some (.bool t)) (ht : t = true) (h : Sx P B w0 N D x env H Q) : Sx P B w0 N D (.cond c x y) env H Q :=
  S_cond hc (fun _ => h) (fun e => by rw [ht] at e; cases e)
theorem S_no {c : Operand} {x y : Code} {t : Bool} (hc : look env c = some (.bool t)) (ht : t = false) (h : Sx P B w0 N D y env H Q) : Sx P B w0 N D (.cond c x y) env H Q :=
  S_cond hc (fun e => by rw [ht] at e; cases e) (fun _ => h)
theorem S_region {id : Nat} {l : List Oper} (h : Rx P B w0 N D l.toArray l env H Q) : Sx P B w0 N D (.region id l.toArray false) env H Q := fun a w hf hm => wp_region_lit (h a w hf hm)
theorem S_fewer {c : Code} {env' : Env} {H' : Hp} (hs : Sub env' env) (hh : Fewer H' H) (h : Sx P B w0 N D c env' H' Q) : Sx P B w0 N D c env H Q := fun a w hf hm => h a w (hf.sub hs) (hm.fewer hh)
theorem E_fewer {K : Act → World → Prop} {env' : Env} {H' : Hp} (hs : Sub env' env) (hh : Fewer H' H) (h : Ex B w0 N D env' H' K) : Ex B w0 N D env H K := fun a w hf hm => h a w (hf.sub hs) (hm.fewer hh)

/-- What stands behind a statement is shown from a middle state. -/
def Mid (B : Nat) (w0 : Base) (N : Nat) (D : List Deferred) (env' : Env) (H' : Hp) (e : Exit) (a : Act) (w : World) : Prop := e = .normal ∧ Fits N D env' a ∧ Mem B w0 H' w
theorem S_cut {c : Code} (env' : Env) (H' : Hp) (h1 : Sx P B w0 N D c env H (Mid B w0 N D env' H')) (h2 : Ex B w0 N D env' H' (Q .normal)) : Sx P B w0 N D c env H Q :=
  fun a w hf hm => wp_mono (h1 a w hf hm) (fun e a' w' ⟨he, hf', hm'⟩ => by subst he; exact h2 a' w' hf' hm')
theorem E_mid {env' : Env} {H' : Hp} (hs : Sub env' env) (hh : Fewer H' H) : Ex B w0 N D env H (Mid B w0 N D env' H' .normal) := fun _ _ hf hm => ⟨rfl, hf.sub hs, hm.fewer hh⟩
def MidE {σ : Type} (B : Nat) (w0 : Base) (N : Nat) (D : List Deferred) (envI : σ → Env) (HI : σ → Hp) (I : σ → Prop) (e : Exit) (a : Act) (w : World) : Prop := e = .normal ∧ ∃ s, I s ∧ Fits N D (envI s) a ∧ Mem B w0 (HI s) w
theorem S_cutE {c : Code} {σ : Type} (envI : σ → Env) (HI : σ → Hp) (I : σ → Prop) (h1 : Sx P B w0 N D c env H (MidE B w0 N D envI HI I)) (h2 : ∀ s, I s → Ex B w0 N D (envI s) (HI s) (Q .normal)) : Sx P B w0 N D c env H Q :=
  fun a w hf hm => wp_mono (h1 a w hf hm) (fun e a' w' ⟨he, s, hI, hf', hm'⟩ => by subst he; exact h2 s hI a' w' hf' hm')
theorem E_midE {σ : Type} {envI : σ → Env} {HI : σ → Hp} {I : σ → Prop} (s : σ) (hI : I s) (hs : Sub (envI s) env) (hh : Fewer (HI s) H) : Ex B w0 N D env H (MidE B w0 N D envI HI I .normal) := fun _ _ hf hm => ⟨rfl, s, hI, hf.sub hs, hm.fewer hh⟩
theorem S_loop {c : Code} {σ : Type} (envI : σ → Env) (HI : σ → Hp) (I : σ → Prop) (μ : σ → Nat) (s0 : σ) (h0 : I s0) (hs : Sub (envI s0) env) (hh : Fewer (HI s0) H)
    (round : ∀ s, I s → Sx P B w0 N D c (envI s) (HI s) (Exit.then (fun a w => ∃ s', I s' ∧ μ s' < μ s ∧ Fits N D (envI s') a ∧ Mem B w0 (HI s') w) Q)) : Sx P B w0 N D (.loop c) env H Q := by
  intro a w hf hm
  refine wp_loop_ghost (fun n a w => ∃ s, I s ∧ μ s = n ∧ Fits N D (envI s) a ∧ Mem B w0 (HI s) w) (μ s0) ⟨s0, h0, rfl, hf.sub hs, hm.fewer hh⟩ ?_
  rintro n a w ⟨s, hI, rfl, hf, hm⟩
  refine wp_mono (round s hI a w hf hm) ?_
  rintro e a' w' hq
  cases e with
  | normal => obtain ⟨s', hI', hlt, hf', hm'⟩ := hq; exact ⟨μ s', hlt, s', hI', rfl, hf', hm'⟩
  | _ => exact hq
/-- The end of a round. -/
theorem E_round {σ : Type} {envI : σ → Env} {HI : σ → Hp} {I : σ → Prop} {μ : σ → Nat} {s : σ} (s' : σ) (hI : I s') (hlt : μ s' < μ s) (hs : Sub (envI s') env) (hh : Fewer (HI s') H) :
    Ex B w0 N D env H (Exit.then (fun a w => ∃ s', I s' ∧ μ s' < μ s ∧ Fits N D (envI s') a ∧ Mem B w0 (HI s') w) Q .normal) := fun _ _ hf hm => ⟨s', hI, hlt, hf.sub hs, hm.fewer hh⟩

theorem E_then_exit {K : Act → World → Prop} {id : Nat} (h : Ex B w0 N D env H (Q (.exit id))) : Ex B w0 N D env H (Exit.then K Q (.exit id)) := h
theorem E_then_ret {K : Act → World → Prop} (h : Ex B w0 N D env H (Q .ret)) : Ex B w0 N D env H (Exit.then K Q .ret) := h
theorem E_block_normal {id : Nat} (h : Ex B w0 N D env H (Q .normal)) : Ex B w0 N D env H (Exit.inBlock id Q .normal) := h
theorem E_block_ret {id : Nat} (h : Ex B w0 N D env H (Q .ret)) : Ex B w0 N D env H (Exit.inBlock id Q .ret) := h
theorem E_block_exit {id : Nat} (h : Ex B w0 N D env H (Q .normal)) : Ex B w0 N D env H (Exit.inBlock id Q (.exit id)) := by
  intro a w hf hm; simp only [Exit.inBlock, if_true]; exact h a w hf hm
theorem E_block_exit_other {id id' : Nat} (hne : Nat.beq id' id = false) (h : Ex B w0 N D env H (Q (.exit id'))) : Ex B w0 N D env H (Exit.inBlock id Q (.exit id')) := by
  intro a w hf hm
  have : id' ≠ id := fun e => by subst e; rw [Nat.beq_refl] at hne; cases hne
  simp only [Exit.inBlock, this, if_false]; exact h a w hf hm

/-- What stands behind a panic does not look at the slots. -/
def Calm (Q : Exit → Act → World → Prop) (u : Option Tmp) : Prop := ∀ v c a w, Q (.panic c) (a.put u v) w → Q (.panic c) a w
theorem calm_then {K : Act → World → Prop} {u : Option Tmp} (h : Calm Q u) : Calm (Exit.then K Q) u := h
theorem calm_block {id : Nat} {u : Option Tmp} (h : Calm Q u) : Calm (Exit.inBlock id Q) u := h
theorem calm_mid {u : Option Tmp} {env' : Env} {H' : Hp} : Calm (Mid B w0 N D env' H') u := fun _ _ _ _ h => by cases h.1
theorem calm_midE {σ : Type} {u : Option Tmp} {envI : σ → Env} {HI : σ → Hp} {I : σ → Prop} : Calm (MidE B w0 N D envI HI I) u := fun _ _ _ _ h => by cases h.1
theorem calm_body {fn : Func} {R : Ending → World → Prop} {u : Option Tmp} : Calm (bodyPost P fn R) u := by
  intro v c a w h
  cases u <;> exact h

/-! ### Regions -/
theorem R_nil {ops : Array Oper} (h : Ex B w0 N D env H (Q .normal)) : Rx P B w0 N D ops [] env H Q := h
theorem R_cons {ops : Array Oper} {o : Oper} {rest : List Oper} (hg : o.guard = none) (h : Op1 P B w0 N D o env H (fun env' H' => Rx P B w0 N D ops rest env' H' Q)) : Rx P B w0 N D ops (o :: rest) env H Q :=
  fun a w hf hm => wpList_plain hg fun K hK => h K Q (fun _ _ hR a w hf hm => hK a w (hR a w hf hm)) a w hf hm

/-- A guard that says yes | no; 'od' is the slot of the operation that it names. -/
theorem yielded_of {ops : Array Oper} {j d : Nat} {a : Act} {b : Bool} (hj : (ops[j]?).bind (·.dst) = some d) (hf : Fits N D env a) (hd : find env d = some (.bool b)) : yielded ops a.tmps j = some b := by
  have := hf.at_ d _ hd
  simp [yielded, hj, this]
theorem yielded_undef {ops : Array Oper} {j d : Nat} {a : Act} (hj : (ops[j]?).bind (·.dst) = some d) (hf : Fits N D env a) (hd : find env d = some undef) : yielded ops a.tmps j = none := by
  have := hf.at_ d _ hd
  simp [yielded, hj, this, undef]
theorem R_guard {ops : Array Oper} {o : Oper} {rest : List Oper} {j d : Nat} {want : Bool} (hg : o.guard = some (j, want)) (hj : (ops[j]?).bind (·.dst) = some d) (hd : find env d = some (.bool want))
    (h : Op1 P B w0 N D o env H (fun env' H' => Rx P B w0 N D ops rest env' H' Q)) : Rx P B w0 N D ops (o :: rest) env H Q :=
  fun a w hf hm => wpList_step fun K hK => by
    rw [if_pos (by simp [Region.wanted, hg, yielded_of hj hf hd])]
    exact h K Q (fun _ _ hR a w hf hm => hK a w (hR a w hf hm)) a w hf hm
theorem R_pass {ops : Array Oper} {op : Op} {ty : TypeId} {pos : String} {after : Array Edge} {rest : List Oper} {j d dst : Nat} {want b : Bool} (hj : (ops[j]?).bind (·.dst) = some d) (hd : find env d = some (.bool b)) (hne : b = !want)
    (hN : Nat.blt dst N = true) (h : Rx P B w0 N D ops rest ((dst, undef) :: env) H Q) : Rx P B w0 N D ops (⟨some dst, op, ty, pos, after, some (j, want)⟩ :: rest) env H Q :=
  fun a w hf hm => wpList_step fun K hK => by
    rw [if_neg (by simp [Region.wanted, yielded_of hj hf hd, hne])]
    exact hK _ _ (h _ w (hf.put hN undef) hm)
theorem R_pass_undef {ops : Array Oper} {op : Op} {ty : TypeId} {pos : String} {after : Array Edge} {rest : List Oper} {j d dst : Nat} {want : Bool} (hj : (ops[j]?).bind (·.dst) = some d) (hd : find env d = some undef)
    (hN : Nat.blt dst N = true) (h : Rx P B w0 N D ops rest ((dst, undef) :: env) H Q) : Rx P B w0 N D ops (⟨some dst, op, ty, pos, after, some (j, want)⟩ :: rest) env H Q :=
  fun a w hf hm => wpList_step fun K hK => by
    rw [if_neg (by simp [Region.wanted, yielded_undef hj hf hd])]
    exact hK _ _ (h _ w (hf.put hN undef) hm)

/-! ### A region whose order is drawn -/
theorem S_drawn {id : Nat} {l : List Oper} {H₀ : Hp} (hm0 : P.follows .mixedOrders = true) (hh : Fewer H₀ H)
    (h : Dx P B w0 N D l.toArray (Mem B w0 H₀) l.length (Array.replicate l.length false) env H Q) : Sx P B w0 N D (.region id l.toArray true) env H Q := by
  intro a w hf hm
  refine wp_region_held (S := Mem B w0 H₀) hm0 ?_
  have := h a w.drew hf hm.drew (hm.drew.fewer hh)
  simpa using this
theorem D_done {ops : Array Oper} {S : World → Prop} {fuel : Nat} {listed : Array Bool} (hr : Region.ready .any ops listed = []) (h : Ex B w0 N D env H (Q .normal)) : Dx P B w0 N D ops S fuel listed env H Q :=
  fun a w hf hm _ => wpAnyH_done hr (h a w hf hm) fuel
/-- An operation that yields in every world that meets S may be taken first. -/
theorem D_take {ops : Array Oper} {fuel : Nat} {listed : Array Bool} {H₀ : Hp} (i : Nat) {d : Nat} {op : Op} {ty : TypeId} {pos : String} {after : Array Edge} {v : Value} (hi : ops[i]? = some ⟨some d, op, ty, pos, after, none⟩)
    (hs : Region.noSelect ops = true) (hf : Region.free .any ops listed i = true) (hr : (Region.ready .any ops listed).contains i = true)
    (hQ : Calm Q (some d)) (hp : Pure1 P B w0 N D ⟨some d, op, ty, pos, after, none⟩ env H₀ v) (hN : Nat.blt d N = true)
    (h : Dx P B w0 N D ops (Mem B w0 H₀) fuel (listed.setIfInBounds i true) ((d, v) :: env) H Q) : Dx P B w0 N D ops (Mem B w0 H₀) (fuel + 1) listed env H Q :=
  fun a w hfa hm hS => wpAnyH_take hi hs hf hr (hQ _) (.inl ⟨rfl, fun w' hS' => hp a w' hfa hS'⟩) hS (h _ w (hfa.put hN v) hm hS)
theorem D_take_guard {ops : Array Oper} {fuel : Nat} {listed : Array Bool} {H₀ : Hp} (i : Nat) {d : Nat} {op : Op} {ty : TypeId} {pos : String} {after : Array Edge} {v : Value} {j dj : Nat} {want : Bool} (hi : ops[i]? = some ⟨some d, op, ty, pos, after, some (j, want)⟩)
    (hs : Region.noSelect ops = true) (hf : Region.free .any ops listed i = true) (hr : (Region.ready .any ops listed).contains i = true)
    (hQ : Calm Q (some d)) (hj : (ops[j]?).bind (·.dst) = some dj) (hd : find env dj = some (.bool want)) (hp : Pure1 P B w0 N D ⟨some d, op, ty, pos, after, some (j, want)⟩ env H₀ v) (hN : Nat.blt d N = true)
    (h : Dx P B w0 N D ops (Mem B w0 H₀) fuel (listed.setIfInBounds i true) ((d, v) :: env) H Q) : Dx P B w0 N D ops (Mem B w0 H₀) (fuel + 1) listed env H Q :=
  fun a w hfa hm hS => wpAnyH_take hi hs hf hr (hQ _) (.inl ⟨by simp [Region.wanted, yielded_of hj hfa hd], fun w' hS' => hp a w' hfa hS'⟩) hS (h _ w (hfa.put hN v) hm hS)
/-- An operation whose guard says no. -/
theorem D_pass {ops : Array Oper} {fuel : Nat} {listed : Array Bool} {S : World → Prop} (i : Nat) {d : Nat} {op : Op} {ty : TypeId} {pos : String} {after : Array Edge} {j dj : Nat} {want b : Bool} (hi : ops[i]? = some ⟨some d, op, ty, pos, after, some (j, want)⟩)
    (hs : Region.noSelect ops = true) (hf : Region.free .any ops listed i = true) (hr : (Region.ready .any ops listed).contains i = true)
    (hQ : Calm Q (some d)) (hj : (ops[j]?).bind (·.dst) = some dj) (hd : find env dj = some (.bool b)) (hne : b = !want) (hN : Nat.blt d N = true)
    (h : Dx P B w0 N D ops S fuel (listed.setIfInBounds i true) ((d, undef) :: env) H Q) : Dx P B w0 N D ops S (fuel + 1) listed env H Q :=
  fun a w hfa hm hS => wpAnyH_take hi hs hf hr (hQ _) (.inr ⟨by simp [Region.wanted, yielded_of hj hfa hd, hne], rfl⟩) hS (h _ w (hfa.put hN undef) hm hS)
theorem D_pass_undef {ops : Array Oper} {fuel : Nat} {listed : Array Bool} {S : World → Prop} (i : Nat) {d : Nat} {op : Op} {ty : TypeId} {pos : String} {after : Array Edge} {j dj : Nat} {want : Bool} (hi : ops[i]? = some ⟨some d, op, ty, pos, after, some (j, want)⟩)
    (hs : Region.noSelect ops = true) (hf : Region.free .any ops listed i = true) (hr : (Region.ready .any ops listed).contains i = true)
    (hQ : Calm Q (some d)) (hj : (ops[j]?).bind (·.dst) = some dj) (hd : find env dj = some undef) (hN : Nat.blt d N = true)
    (h : Dx P B w0 N D ops S fuel (listed.setIfInBounds i true) ((d, undef) :: env) H Q) : Dx P B w0 N D ops S (fuel + 1) listed env H Q :=
  fun a w hfa hm hS => wpAnyH_take hi hs hf hr (hQ _) (.inr ⟨by simp [Region.wanted, yielded_undef hj hfa hd], rfl⟩) hS (h _ w (hfa.put hN undef) hm hS)
/-- Only one operation may come up: it does. -/
theorem D_only {ops : Array Oper} {fuel : Nat} {listed : Array Bool} {H₀ : Hp} (i : Nat) {o : Oper} (hi : ops[i]? = some o) (hr : Region.ready .any ops listed = [i]) (hg : o.guard = none)
    (h : Op1 P B w0 N D o env H (fun env' H' => Fewer H₀ H' ∧ Dx P B w0 N D ops (Mem B w0 H₀) fuel (listed.setIfInBounds i true) env' H' Q)) : Dx P B w0 N D ops (Mem B w0 H₀) (fuel + 1) listed env H Q :=
  fun a w hfa hm _ => wpAnyH_all hr (by simp) fun j hj => by
    obtain rfl : j = i := by simpa using hj
    exact wpOp_step hi fun K' hK' => by
      rw [if_pos (by simp [Region.wanted, hg])]
      exact h K' Q (fun env' H' ⟨hF, hD⟩ a w hf hm => hK' a w ⟨hm.fewer hF, hD a w hf hm (hm.fewer hF)⟩) a w hfa hm
theorem D_only_guard {ops : Array Oper} {fuel : Nat} {listed : Array Bool} {H₀ : Hp} (i : Nat) {o : Oper} {j dj : Nat} {want : Bool} (hi : ops[i]? = some o) (hr : Region.ready .any ops listed = [i]) (hg : o.guard = some (j, want)) (hj : (ops[j]?).bind (·.dst) = some dj) (hd : find env dj = some (.bool want))
    (h : Op1 P B w0 N D o env H (fun env' H' => Fewer H₀ H' ∧ Dx P B w0 N D ops (Mem B w0 H₀) fuel (listed.setIfInBounds i true) env' H' Q)) : Dx P B w0 N D ops (Mem B w0 H₀) (fuel + 1) listed env H Q :=
  fun a w hfa hm _ => wpAnyH_all hr (by simp) fun k hk => by
    obtain rfl : k = i := by simpa using hk
    exact wpOp_step hi fun K' hK' => by
      rw [if_pos (by simp [Region.wanted, hg, yielded_of hj hfa hd])]
      exact h K' Q (fun env' H' ⟨hF, hD⟩ a w hf hm => hK' a w ⟨hm.fewer hF, hD a w hf hm (hm.fewer hF)⟩) a w hfa hm

/-! ### A region whose order is drawn, whose operations yield one value each and keep all known blocks: by the order of the text -/
def Still1 (P : Program) (B : Nat) (w0 : Base) (N : Nat) (D : List Deferred) (o : Oper) (env : Env) (H : Hp) (v : Value) : Prop := ∀ a w, Fits N D env a → Mem B w0 H w → o.quietAt P a (Mem B w0 H) w v
def Qx (P : Program) (B : Nat) (w0 : Base) (N : Nat) (D : List Deferred) (ops : Array Oper) (l : List Oper) (env : Env) (H : Hp) (Q : Exit → Act → World → Prop) : Prop :=
  ∀ a, Fits N D env a → wpQuiet P ops (Mem B w0 H) (fun a' => ∀ w', Mem B w0 H w' → Q .normal a' w') l a
theorem Still1.of_pure {o : Oper} {v : Value} (h : Pure1 P B w0 N D o env H v) : Still1 P B w0 N D o env H v := fun a w hf hm => by
  unfold Oper.quietAt
  rw [h a w hf hm]
  exact ⟨rfl, rfl⟩
theorem S_quiet {id : Nat} {l : List Oper} (hm0 : P.follows .mixedOrders = true) (hB : Region.lexB .any l.toArray = true) (h : Qx P B w0 N D l.toArray l env H Q) : Sx P B w0 N D (.region id l.toArray true) env H Q :=
  fun a w hf hm => wp_region_quiet (C := Mem B w0 H) hm0 hB hm.drew (by simpa using h a hf)
theorem Q_nil {ops : Array Oper} (h : Ex B w0 N D env H (Q .normal)) : Qx P B w0 N D ops [] env H Q := fun a hf => wpQuiet_nil fun w' hm => h a w' hf hm
theorem Q_cons {ops : Array Oper} {op : Op} {ty : TypeId} {pos : String} {after : Array Edge} {rest : List Oper} {d : Nat} {v : Value} (hs : Still1 P B w0 N D ⟨some d, op, ty, pos, after, none⟩ env H v) (hN : Nat.blt d N = true)
    (h : Qx P B w0 N D ops rest ((d, v) :: env) H Q) : Qx P B w0 N D ops (⟨some d, op, ty, pos, after, none⟩ :: rest) env H Q :=
  fun a hf => wpQuiet_step fun K hK => by
    rw [if_pos (by simp [Region.wanted])]
    exact ⟨v, fun w hm => hs a w hf hm, hK _ (h _ (hf.put hN v))⟩
theorem Q_guard {ops : Array Oper} {op : Op} {ty : TypeId} {pos : String} {after : Array Edge} {rest : List Oper} {j dj d : Nat} {want : Bool} {v : Value} (hj : (ops[j]?).bind (·.dst) = some dj) (hd : find env dj = some (.bool want))
    (hs : Still1 P B w0 N D ⟨some d, op, ty, pos, after, some (j, want)⟩ env H v) (hN : Nat.blt d N = true)
    (h : Qx P B w0 N D ops rest ((d, v) :: env) H Q) : Qx P B w0 N D ops (⟨some d, op, ty, pos, after, some (j, want)⟩ :: rest) env H Q :=
  fun a hf => wpQuiet_step fun K hK => by
    rw [if_pos (by simp [Region.wanted, yielded_of hj hf hd])]
    exact ⟨v, fun w hm => hs a w hf hm, hK _ (h _ (hf.put hN v))⟩
theorem Q_pass {ops : Array Oper} {op : Op} {ty : TypeId} {pos : String} {after : Array Edge} {rest : List Oper} {j dj d : Nat} {want b : Bool} (hj : (ops[j]?).bind (·.dst) = some dj) (hd : find env dj = some (.bool b)) (hne : b = !want) (hN : Nat.blt d N = true)
    (h : Qx P B w0 N D ops rest ((d, undef) :: env) H Q) : Qx P B w0 N D ops (⟨some d, op, ty, pos, after, some (j, want)⟩ :: rest) env H Q :=
  fun a hf => wpQuiet_step fun K hK => by
    rw [if_neg (by simp [Region.wanted, yielded_of hj hf hd, hne])]
    exact hK _ (h _ (hf.put hN undef))
theorem Q_pass_undef {ops : Array Oper} {op : Op} {ty : TypeId} {pos : String} {after : Array Edge} {rest : List Oper} {j dj d : Nat} {want : Bool} (hj : (ops[j]?).bind (·.dst) = some dj) (hd : find env dj = some undef) (hN : Nat.blt d N = true)
    (h : Qx P B w0 N D ops rest ((d, undef) :: env) H Q) : Qx P B w0 N D ops (⟨some d, op, ty, pos, after, some (j, want)⟩ :: rest) env H Q :=
  fun a hf => wpQuiet_step fun K hK => by
    rw [if_neg (by simp [Region.wanted, yielded_undef hj hf hd])]
    exact hK _ (h _ (hf.put hN undef))
end rules
end Go.K
