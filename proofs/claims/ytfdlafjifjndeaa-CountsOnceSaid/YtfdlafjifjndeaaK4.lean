/-
  Ranges over functions, for the calculus: the iterator may keep state of its own in cells. Plain theorems, over any program.
-/
import Derived.Test.YtfdlafjifjndeaaK3
import Derived.RangeFuncNested
import Derived.RangeFuncCalls
import Derived.RangeFuncLeaves
namespace Go.K
open Go.RowKit

/-- The wide fence, in round r or in none. -/
def Fl (r : Option Nat) : Fence := { Fence.wide with round := r }
theorem fl_room (r : Option Nat) (n : Nat) : (Fl r).room n := fun _ h => by simp [Fl, Fence.wide] at h
theorem fl_depth (r : Option Nat) : (Fl r).depth = none := rfl
theorem fl_calls {r : Option Nat} {n : Nat} {P : Program} {f : FuncId} {args : Array Value} {w : World} {R : Ending → World → Prop} (h : Calls P f args w R) : CallsIn (Fl r) n P f args w R :=
  (callsIn_wide (n := n)).2 h
theorem fl_rows {r : Option Nat} {n : Nat} {P : Program} {row : String} {args : Array Value} {w : World} {R : Value → World → Prop} (h : Rows P row args w R) : RowsIn (Fl r) n P row args w R :=
  fun c cs _ => let ⟨v, w', hr, hs⟩ := h c cs; ⟨v, w', hr, (stepsIn_wide (P := P)).2 hs⟩

theorem semAt_none (ρ : Operand → Value) (o : Oper) : o.semAt (Fl none).round ρ = execOp ρ o := rfl
theorem opIn_of {r : Option Nat} {n : Nat} {P : Program} {o : Oper} {a : Act} {w : World} {K : Act → World → Prop} {Q : Exit → Act → World → Prop} (hnd : ∀ c, o.op ≠ .defer c) (h : o.wp P a w K Q) : o.wpIn (Fl r) n P a w K Q := by
  refine ⟨fun _ _ => trivial, ?_⟩
  have he : o.semAt (Fl r).round a.eval = execOp a.eval o := by
    cases r with
    | none => rfl
    | some l => exact Oper.semAt_some l a.eval o hnd
  rw [he]
  unfold Oper.wp at h
  generalize (execOp a.eval o).run P w = x at h ⊢
  have hd : (Fl r).depth.isSome = true → 1 ≤ n := fun h => by cases h
  cases x with
  | ok nx w' =>
    cases nx <;> simp only [Oper.upon, Oper.uponIn] at h ⊢ <;> first | exact h | exact h.elim | exact ⟨hd, fl_calls h⟩ | exact ⟨hd, fl_rows h⟩
  | halt hh w' => cases hh <;> simp only [Oper.upon, Oper.uponIn] at h ⊢ <;> first | exact h | exact h.elim

section judge
variable (P : Program) (B : Nat) (w0 : Base) (N : Nat) (D : List Deferred) (r : Option Nat)
def SIx (c : Code) (env : Env) (H : Hp) (Q : Exit → Act → World → Prop) : Prop := ∀ a w, Fits N D env a → Mem B w0 H w → c.wpIn (Fl r) 0 P Q a w
def RIx (ops : Array Oper) (l : List Oper) (env : Env) (H : Hp) (Q : Exit → Act → World → Prop) : Prop := ∀ a w, Fits N D env a → Mem B w0 H w → wpListIn (Fl r) 0 P ops Q l a w
end judge

section rules
variable {P : Program} {B : Nat} {w0 : Base} {N : Nat} {D : List Deferred} {r : Option Nat} {env : Env} {H : Hp} {Q : Exit → Act → World → Prop}
theorem S_of_in {c : Code} (h : SIx P B w0 N D none c env H Q) : Sx P B w0 N D c env H Q := fun a w hf hm => (wpIn_wide (n := 0)).1 (h a w hf hm)
theorem SI_of {c : Code} (h : Sx P B w0 N D c env H Q) : SIx P B w0 N D none c env H Q := fun a w hf hm => (wpIn_wide (n := 0)).2 (h a w hf hm)
theorem SI_seq {x y : Code} (h : SIx P B w0 N D r x env H (Exit.then (y.wpIn (Fl r) 0 P Q) Q)) : SIx P B w0 N D r (.seq x y) env H Q := fun a w hf hm => wpIn_seq (h a w hf hm)
theorem EI_seq {y : Code} {Q' : Exit → Act → World → Prop} (h : SIx P B w0 N D r y env H Q) : Ex B w0 N D env H (Exit.then (y.wpIn (Fl r) 0 P Q) Q' .normal) := h
theorem SI_skip (h : Ex B w0 N D env H (Q .normal)) : SIx P B w0 N D r .skip env H Q := fun a w hf hm => wpIn_skip (h a w hf hm)
theorem SI_exit {id : Nat} (h : Ex B w0 N D env H (Q (.exit id))) : SIx P B w0 N D r (.exit id) env H Q := fun a w hf hm => wpIn_exit (h a w hf hm)
theorem SI_ret (h : Ex B w0 N D env H (Q .ret)) : SIx P B w0 N D r .ret env H Q := fun a w hf hm => wpIn_ret (h a w hf hm)
theorem SI_block {id : Nat} {c : Code} (h : SIx P B w0 N D r c env H (Exit.inBlock id Q)) : SIx P B w0 N D r (.block id c) env H Q := fun a w hf hm => wpIn_block (h a w hf hm)
theorem SI_cond {c : Operand} {x y : Code} {t : Bool} (hc : look env c = some (.bool t)) (h1 : t = true → SIx P B w0 N D r x env H Q) (h2 : t = false → SIx P B w0 N D r y env H Q) : SIx P B w0 N D r (.cond c x y) env H Q :=
  fun a w hf hm => wpIn_cond_split (hf.eval hc) (fun ht => h1 ht a w hf hm) (fun ht => h2 ht a w hf hm)
theorem SI_yes {c : Operand} {x y : Code} {t : Bool} (hc : look env c = some (.bool t)) (ht : t = true) (h : SIx P B w0 N D r x env H Q) : SIx P B w0 N D r (.cond c x y) env H Q :=
  SI_cond hc (fun _ => h) (fun e => by rw [ht] at e; cases e)
theorem SI_no {c : Operand} {x y : Code} {t : Bool} (hc : look env c = some (.bool t)) (ht : t = false) (h : SIx P B w0 N D r y env H Q) : SIx P B w0 N D r (.cond c x y) env H Q :=
  SI_cond hc (fun e => by rw [ht] at e; cases e) (fun _ => h)
theorem EI_end {K : Act → World → Prop} {Q' : Exit → Act → World → Prop} (h : ∀ a w, Fits N D env a → Mem B w0 H w → K a w) : Ex B w0 N D env H (Exit.then K Q' .normal) := h
theorem SI_region {id : Nat} {l : List Oper} (h : RIx P B w0 N D r l.toArray l env H Q) : SIx P B w0 N D r (.region id l.toArray false) env H Q := fun a w hf hm => wpIn_region_lit (h a w hf hm)
theorem RI_nil {ops : Array Oper} (h : Ex B w0 N D env H (Q .normal)) : RIx P B w0 N D r ops [] env H Q := h
theorem RI_cons {ops : Array Oper} {o : Oper} {rest : List Oper} (hg : o.guard = none) (hnd : ∀ c, o.op ≠ .defer c) (h : Op1 P B w0 N D o env H (fun env' H' => RIx P B w0 N D r ops rest env' H' Q)) : RIx P B w0 N D r ops (o :: rest) env H Q :=
  fun a w hf hm => wpListIn_plain hg fun K hK => opIn_of hnd (h K Q (fun _ _ hR a w hf hm => hK a w (hR a w hf hm)) a w hf hm)
theorem SI_fewer {c : Code} {env' : Env} {H' : Hp} (hs : Sub env' env) (hh : Fewer H' H) (h : SIx P B w0 N D r c env' H' Q) : SIx P B w0 N D r c env H Q := fun a w hf hm => h a w (hf.sub hs) (hm.fewer hh)

/-- yield, in an iterator's own text: behind it the walk may be measured against another world. -/
theorem RI_yield {ops : Array Oper} {rest : List Oper} {d : Nat} {fo : Operand} {xs : List Operand} {ts : Array TypeId} {ty : TypeId} {pos : String} {after : Array Edge} {vs : List Value} {l : Nat} (hfo : look env fo = some (.func (.yield l) #[] #[])) (hxs : looks env xs = some vs) (hd : Nat.blt d N = true)
    (hc : ∀ w, Mem B w0 H w → YieldAt Fence.wide 0 P l vs.toArray w fun e w' => ∃ v B' w1 H', e = .returned v ∧ Mem B' w1 H' w' ∧ RIx P B' w1 N D none ops rest ((d, v) :: env) H' Q) :
    RIx P B w0 N D none ops (⟨some d, .call { callee := .value fo, args := xs.toArray, argTypes := ts }, ty, pos, after, none⟩ :: rest) env H Q :=
  fun a w hf hm => wpListIn_plain rfl fun K hK => by
    obtain ⟨fn, tmps, assign, body, hy, hR⟩ := hc w hm
    refine ⟨fun _ _ => trivial, ?_⟩
    have h1 : (xs.toArray.map a.eval) = vs.toArray := by rw [List.map_toArray, hf.evals hxs]
    have hrun : ((⟨some d, .call { callee := .value fo, args := xs.toArray, argTypes := ts }, ty, pos, after, none⟩ : Oper).semAt (Fl none).round a.eval).run P w = .ok (.round l fn tmps assign body) w := by
      rw [semAt_none]
      simp only [execOp, resolve, hf.eval hfo, h1, Deferred.ofValue, Sem.run_bind, Sem.run_pure, Result.andThen_ok, invoke]
      simpa using hy
    rw [hrun]
    refine ⟨fun h => (by cases h), RoundIn.mono (F := Fence.wide) (n := 0 - 1) ⟨trivial, fun c cs _ => hR.2 c cs (room_wide _)⟩ ?_⟩
    rintro e w' ⟨v, B', w1, H', rfl, hm', ht⟩
    exact hK _ _ (ht _ _ (hf.put hd v) hm')

/-- A loop whose relation speaks of the world: each round is measured against the world in which it begins. -/
theorem SI_loopW {c : Code} {σ : Type} (envI : σ → Env) (HI : σ → Hp) (bs : List Nat) (I : σ → World → Prop) (μ : σ → Nat) (s0 : σ) {a : Act} {w : World} (hf : Fits N D (envI s0) a) (h0 : I s0 w) (hH : ∀ s W, I s W → Mem W.heap.size ⟨W, bs⟩ (HI s) W)
    (round : ∀ s W, I s W → SIx P W.heap.size ⟨W, bs⟩ N D r c (envI s) (HI s) (Exit.then (fun a w => ∃ s', μ s' < μ s ∧ Fits N D (envI s') a ∧ I s' w) Q)) : (Code.loop c).wpIn (Fl r) 0 P Q a w := by
  refine wpIn_loop (fun a w => ∃ s, Fits N D (envI s) a ∧ I s w) (fun a w => leastOf (fun n => ∃ s, μ s = n ∧ Fits N D (envI s) a ∧ I s w)) ⟨s0, hf, h0⟩ ?_
  rintro a w ⟨s, hf, hI⟩
  obtain ⟨⟨s1, hs1, hf1, hI1⟩, hmin⟩ := leastOf_spec (p := fun n => ∃ s, μ s = n ∧ Fits N D (envI s) a ∧ I s w) ⟨μ s, s, rfl, hf, hI⟩
  refine wpIn_mono (round s1 w hI1 a w hf1 (hH s1 w hI1)) ?_
  rintro e a' w' hq
  cases e with
  | normal =>
    obtain ⟨s', hlt, hf', hI'⟩ := hq
    refine ⟨⟨s', hf', hI'⟩, Nat.lt_of_le_of_lt ((leastOf_spec (p := fun n => ∃ s, μ s = n ∧ Fits N D (envI s) a' ∧ I s w') ⟨μ s', s', rfl, hf', hI'⟩).2 (μ s') ⟨s', rfl, hf', hI'⟩) ?_⟩
    rw [← hs1]
    exact hlt
  | _ => exact hq
end rules

/-- What an iterator's own steps do to memory: its own blocks 'bs' may turn, others may come. -/
structure Steps1 (bs : List Nat) (A C : World) : Prop where
  os : C.os = A.os
  tape : C.tape = A.tape
  output : C.output = A.output
  size : A.heap.size ≤ C.heap.size
  block : ∀ k, k < A.heap.size → k ∉ bs → C.heap[k]? = A.heap[k]?
theorem Steps1.refl (bs : List Nat) (A : World) : Steps1 bs A A := ⟨rfl, rfl, rfl, Nat.le_refl _, fun _ _ _ => rfl⟩

theorem Steps1.of {bs : List Nat} {A C : World} {H : Hp} (hm : Mem A.heap.size ⟨A, bs⟩ H C) : Steps1 bs A C := ⟨hm.chg.os, hm.chg.tape, hm.chg.output, hm.chg.size, hm.chg.block⟩
/-- From a walk that is measured against a later world back to the earlier one. -/
theorem Mem.back {B : Nat} {w0 : Base} {HW H : Hp} {W w : World} {bs : List Nat} (hW : Mem B w0 HW W) (hbs : ∀ k ∈ bs, B ≤ k ∨ k ∈ w0.bs) (hm : Mem W.heap.size ⟨W, bs⟩ H w) : Mem B w0 H w := by
  have hBW : B ≤ W.heap.size := Nat.le_trans hW.room hW.chg.size
  refine ⟨hW.room, hW.chg.step hW.room hm.chg.os hm.chg.tape hm.chg.output hm.chg.size (fun k hk hn => hm.chg.block k (by omega) fun hin => ?_), fun p hp => ⟨?_, (hm.own p hp).2⟩, hm.apart⟩
  · rcases hbs k hin with h | h
    · omega
    · exact hn h
  · rcases (hm.own p hp).1 with h | h
    · exact .inl (by omega)
    · exact hbs _ h
/-- A walk that is measured against the world at hand. -/
theorem Mem.here {B : Nat} {w0 : Base} {H : Hp} {W : World} (hW : Mem B w0 H W) : Mem W.heap.size ⟨W, H.map (·.1)⟩ H W :=
  ⟨Nat.le_refl _, Chg.refl _ _ _, fun p hp => ⟨.inr (List.mem_map_of_mem hp), (hW.own p hp).2⟩, hW.apart⟩
theorem enter_in {P : Program} {f : FuncId} {fn : Func} {c : Code} {w : World} {R : Ending → World → Prop} {N : Nat} {args : List Value} (hf : P.funcs[f]? = some fn) (hb : fn.body = some c) (hn : fn.ntmps = N) (ha : args.length ≤ N)
    (h : ∀ a, Fits N [] (envOf 0 args) a → c.wpIn (Fl none) 0 P (bodyPost P fn R) a w) : Calls P f args.toArray w R := by
  refine calls_of_wp hf hb ((wpIn_wide (n := 0)).1 (h _ ⟨rfl, ?_, ?_⟩))
  · rw [hn]; simp; omega
  · intro t v hv
    obtain ⟨_, h2⟩ := find_envOf args 0 t v hv
    have hl : t < args.length := by
      rcases Nat.lt_or_ge t args.length with h | h
      · exact h
      · rw [List.getElem?_eq_none (by simpa using h)] at h2; cases h2
    rw [Array.getElem?_append_left (by simpa using hl)]
    simpa using h2

theorem yield_mono {F : Fence} {m l : Nat} {P : Program} {args : Array Value} {W : World} {R R' : Ending → World → Prop} (h : YieldAt F m P l args W R) (hr : ∀ e w, R e w → R' e w) : YieldAt F m P l args W R' := by
  obtain ⟨fn, tmps, assign, body, hy, hR⟩ := h
  exact ⟨fn, tmps, assign, body, hy, hR.mono hr⟩

/-- An iterator that hands out the list 'tot', one by one, to whoever keeps its blocks 'bs' and all below B, and always says 'go on'. -/
def Iter {α : Type} (P : Program) (gf : Nat) (lb : List Value) (encs : α → List Value) (B : Nat) (w0 : Base) (Hi : Hp) (tot : List α) : Prop :=
  ∀ (l : Nat) (J : List α → World → Prop) (W : World), Mem B w0 Hi W →
    (∀ xs A C, J xs A → Steps1 (Hi.map (·.1)) A C → J xs C) →
    (∀ pre x W1 H1, pre ++ [x] <+: tot → J pre W1 → H1.map (·.1) = Hi.map (·.1) → Mem B w0 H1 W1 → YieldAt Fence.wide 0 P l (encs x).toArray W1 fun e W' => e = .returned (.bool true) ∧ J (pre ++ [x]) W' ∧ Mem B w0 H1 W') →
    J [] W →
    Calls P gf (Value.func (.yield l) #[] #[] :: lb).toArray W fun e W' => (∃ v, e = .returned v) ∧ J tot W'

theorem Mem.put {B : Nat} {w0 : Base} {w : World} {H H' : Hp} {b : Nat} {o o' : Obj} (hm : Mem B w0 H w) (hat : At H b o o' H') : Mem B w0 H' (w.putObj b o') :=
  hm.turn hat rfl rfl rfl (by simp) (World.putObj_heap_same (hm.lt hat.mem)) (fun k _ hne => World.putObj_heap_other hne)

theorem mem_steps {B : Nat} {w0 : Base} {A C : World} {Hi H : Hp} (hB : B ≤ w0.w.heap.size) (hm : Mem B w0 (Hi ++ H) A) (hs : Steps1 (Hi.map (·.1)) A C) : ∃ Hj, Hj.map (·.1) = Hi.map (·.1) ∧ Mem B w0 (Hj ++ H) C := by
  refine ⟨Hi.map fun p => (p.1, C.heap[p.1]?.getD (.deferred none)), by simp, ?_⟩
  have hin : ∀ p ∈ Hi, p.1 < A.heap.size := fun p hp => hm.lt (List.mem_append_left _ hp)
  have hap := List.pairwise_append.1 hm.apart
  refine ⟨hm.room, hm.chg.step hB hs.os hs.tape hs.output hs.size (fun k hk hn => hs.block k (by have := hm.chg.size; omega) fun hin' => ?_), fun p hp => ?_, ?_⟩
  · obtain ⟨p, hp, rfl⟩ := List.mem_map.1 hin'
    rcases (hm.own p (List.mem_append_left _ hp)).1 with h | h
    · omega
    · exact hn h
  · rcases List.mem_append.1 hp with hp | hp
    · obtain ⟨q, hq, rfl⟩ := List.mem_map.1 hp
      refine ⟨(hm.own q (List.mem_append_left _ hq)).1, ?_⟩
      have hlt : q.1 < C.heap.size := Nat.lt_of_lt_of_le (hin q hq) hs.size
      simp [Array.getElem?_eq_getElem hlt]
    · have h1 := hm.own p (List.mem_append_right _ hp)
      refine ⟨h1.1, (hs.block p.1 (hm.lt (List.mem_append_right _ hp)) fun hin' => ?_).trans h1.2⟩
      obtain ⟨q, hq, he⟩ := List.mem_map.1 hin'
      exact hap.2.2 q hq p hp he
  · refine List.pairwise_append.2 ⟨List.pairwise_map.2 (hap.1.imp fun h => h), hap.2.1, fun p hp q hq => ?_⟩
    obtain ⟨p', hp', rfl⟩ := List.mem_map.1 hp
    exact hap.2.2 p' hp' q hq

theorem fewer_prefix : ∀ (H K : Hp), Fewer H (H ++ K)
  | [], _ => .nil
  | (_, _) :: r, K => .keep rfl (fewer_prefix r K)
theorem fewer_behind : ∀ (H : Hp) {K L : Hp}, Fewer K L → Fewer K (H ++ L)
  | [], _, _, h => h
  | _ :: r, _, _, h => .drop (fewer_behind r h)
theorem at_behind {H H' : Hp} {b : Nat} {o o' : Obj} : ∀ (K : Hp), At H b o o' H' → At (K ++ H) b o o' (K ++ H')
  | [], h => h
  | _ :: r, h => .there (at_behind r h)

/-- The loop's variables, as the iterator hands them over. -/
def penv (ps : List Nat) (vs : List Value) (env : Env) : Env := (ps.zip vs).foldl (fun e p => (p.1, p.2) :: e) env
theorem fits_penv {N : Nat} {D : List Deferred} : ∀ (ps : List Nat) (vs : List Value) (env : Env) (a : Act), Fits N D env a → (ps.all fun p => Nat.blt p N) = true →
    Fits N D (penv ps vs env) { tmps := (ps.zip vs).foldl (fun t p => t.setIfInBounds p.1 p.2) a.tmps, defers := D }
  | [], vs, env, a, hf, _ => by
    simp only [penv, List.zip_nil_left, List.foldl_nil]
    exact ⟨rfl, hf.size, hf.at_⟩
  | p :: ps, [], env, a, hf, _ => by
    simp only [penv, List.zip_nil_right, List.foldl_nil]
    exact ⟨rfl, hf.size, hf.at_⟩
  | p :: ps, v :: vs, env, a, hf, hp => by
    simp only [List.all_cons, Bool.and_eq_true] at hp
    have := fits_penv ps vs ((p, v) :: env) (a.put (some p) v) (hf.put hp.1 v) hp.2
    simpa only [penv, List.zip_cons_cons, List.foldl_cons, Act.put] using this

/-- How a round must end: it goes on. -/
def RoundEnd {σ : Type} (B : Nat) (w0 : Base) (I : σ → Prop) (HI : σ → Hp) (Hx : Hp) : Exit → Act → World → Prop
  | .normal, _, w => ∃ s, I s ∧ Mem B w0 (HI s ++ Hx) w
  | _, _, _ => False
theorem E_roundEnd {σ : Type} {B : Nat} {w0 : Base} {N : Nat} {D : List Deferred} {env : Env} {H : Hp} {I : σ → Prop} {HI : σ → Hp} {Hx : Hp} (s : σ) (hI : I s) (hh : Fewer (HI s ++ Hx) H) : Ex B w0 N D env H (RoundEnd B w0 I HI Hx .normal) :=
  fun _ _ _ hm => ⟨s, hI, hm.fewer hh⟩

theorem Mem.perm {B : Nat} {w0 : Base} {H H' : Hp} {w : World} (h : Mem B w0 H w) (hp : H.Perm H') : Mem B w0 H' w :=
  ⟨h.room, h.chg, fun p hp' => h.own p (hp.mem_iff.2 hp'), (hp.pairwise_iff (fun h => Ne.symm h)).1 h.apart⟩
theorem same_hp {B : Nat} {w0 : Base} {w : World} {H1 H2 : Hp} (h1 : Mem B w0 H1 w) (h2 : ∀ p ∈ H2, w.heap[p.1]? = some p.2) (he : H1.map (·.1) = H2.map (·.1)) : H1 = H2 := by
  refine List.ext_getElem (by simpa using congrArg List.length he) fun j ha hb => ?_
  have e1 : H1[j].1 = H2[j].1 := by
    have := congrArg (fun l => l[j]?) he
    simpa [ha, hb] using this
  have o1 := (h1.own H1[j] (List.getElem_mem ha)).2
  have o2 := h2 H2[j] (List.getElem_mem hb)
  rw [e1, o2] at o1
  cases h : H1[j]; cases h' : H2[j]
  simp_all

/-- **for .. := range seq { .. }**, where no round leaves the loop. -/
theorem S_range {α σ : Type} {P : Program} {B : Nat} {w0 : Base} {N : Nat} {D : List Deferred} {env : Env} {H : Hp} {Q : Exit → Act → World → Prop} {g : Operand} {ps : List Tmp} {assign body : Code} {gf : Nat} {fn : Func} {lb : List Value}
    {encs : α → List Value} {Hi : Hp} {tot : List α} (it : Iter P gf lb encs B w0 Hi tot) (hB : B ≤ w0.w.heap.size) (hg : look env g = some (.func (.func gf) #[] lb.toArray))
    (hf0 : P.funcs[gf]? = some fn) (hb0 : fn.body.isNone = false) (hn0 : (fn.name == "runtime.NumGoroutine") = false) (hps : ∀ x, (encs x).length = ps.length) (hpN : (ps.all fun p => Nat.blt p N) = true)
    (HI : σ → Hp) (I : List α → σ → Prop) (s0 : σ) (h0 : I [] s0) (hH : Fewer (Hi ++ HI s0) H) (envM : α → Env)
    (hassign : ∀ (l : Nat) (Hx : Hp) (x : α), SIx P B w0 N [] (some l) assign (penv ps (encs x) env) Hx (Exit.then (fun a w => Fits N [] (envM x) a ∧ Mem B w0 Hx w) (fun _ _ _ => False)))
    (hbody : ∀ (l Dk : Nat) (Lr : Obj) (Hj : Hp) (pre : List α) (x : α) (s : σ), pre ++ [x] <+: tot → I pre s → SIx P B w0 N [] (some l) body (envM x) (HI s ++ (Hj ++ [(l, Lr), (Dk, .deferred (some []))])) (RoundEnd B w0 (I (pre ++ [x])) HI (Hj ++ [(l, Lr), (Dk, .deferred (some []))])))
    (hdone : ∀ (Dk : Nat) (s : σ), I tot s → Ex B w0 N (⟨.collected Dk, #[]⟩ :: D) env ((Dk, .deferred (some [])) :: HI s) (Q .normal)) :
    Sx P B w0 N D (.rangeFunc g ps.toArray assign body) env H Q := by
  intro a w hf hm
  refine (wpIn_wide (n := 0)).1 (wpIn_rangeFunc ?_)
  intro fnn _
  have hm0 := hm.fewer hH
  obtain ⟨rec, hrec⟩ : ∃ rec : LoopState → Option Code → Loop, rec = fun st pe => { state := st, pending := pe, fn := fnn, tmps := a.tmps, params := ps.toArray, assign, body, defers := w.heap.size } := ⟨_, rfl⟩
  have hm1 : Mem B w0 ((w.heap.size + 1, .loop (rec .ready none)) :: (w.heap.size, .deferred (some [])) :: (Hi ++ HI s0)) ((w.alloc (.deferred (some []))).alloc (.loop (rec .ready none))) := by
    have := (hm0.alloc hB (.deferred (some []))).alloc hB (.loop (rec .ready none))
    rwa [World.size_alloc] at this
  have hap := hm1.apart
  have hm2 : ∀ {w' : World} {s : σ} {Hj : Hp} {Lr : Obj}, Mem B w0 ((w.heap.size + 1, Lr) :: (w.heap.size, .deferred (some [])) :: (Hj ++ HI s)) w' → Mem B w0 ((Hj ++ [(w.heap.size + 1, Lr), (w.heap.size, .deferred (some []))]) ++ HI s) w' := by
    intro w' s Hj Lr h
    have hp : ((w.heap.size + 1, Lr) :: (w.heap.size, Obj.deferred (some [])) :: (Hj ++ HI s)).Perm ((Hj ++ [(w.heap.size + 1, Lr), (w.heap.size, .deferred (some []))]) ++ HI s) := by
      rw [List.append_assoc, ← List.singleton_append]
      have h1 := List.perm_append_comm (l₁ := [(w.heap.size + 1, Lr), (w.heap.size, Obj.deferred (some []))]) (l₂ := Hj)
      have h2 := h1.append_right (HI s)
      simpa using h2
    exact ⟨h.room, h.chg, fun p hp' => h.own p (hp.mem_iff.2 hp'), (hp.pairwise_iff (fun h => Ne.symm h)).1 h.apart⟩
  have hm3 := hm2 hm1
  clear hm1 hap
  generalize hW : (w.alloc (.deferred (some []))).alloc (.loop (rec .ready none)) = W1 at hm3
  generalize hl : w.heap.size + 1 = l at hm3
  generalize hD : w.heap.size = Dk at hm3 hl
  refine ⟨l, [{ target := .collected Dk, args := #[] }], W1, { target := .fn (.func gf) lb.toArray, args := #[.func (.yield l) #[] #[]] }, W1, gf, #[.func (.yield l) #[] #[]] ++ lb.toArray, W1, ?_, ?_, fun _ _ => trivial, ?_, fun h => (by cases h), ?_⟩
  · rw [← hW, ← hl, ← hD, hrec]; exact run_enterLoop_outer _ _ _ _ _
  · simp only [resolve, rangeCall, hf.eval hg]
    simp [Deferred.ofValue, Act.eval]
  · simp [invoke, runs_callFunc hf0 hb0 hn0]
  · have key := it l (fun pre W => ∃ (s : σ) (Hj : Hp), I pre s ∧ Hj.map (·.1) = Hi.map (·.1) ∧ Mem B w0 ((Hj ++ [(l, .loop (rec .ready none)), (Dk, .deferred (some []))]) ++ HI s) W) W1
      (hm3.fewer (by rw [List.append_assoc]; exact fewer_prefix _ _)) ?_ ?_ ⟨s0, Hi, h0, rfl, hm3⟩
    · have e : #[Value.func (Fn.yield l) #[] #[]] ++ lb.toArray = (Value.func (.yield l) #[] #[] :: lb).toArray := by simp
      rw [e]
      refine ((callsIn_wide (n := 0 - 1)).2 key).mono ?_
      rintro e W2 ⟨⟨v, rfl⟩, s, Hj, hI, _, hmJ⟩
      have hmem : (l, Obj.loop (rec .ready none)) ∈ (Hj ++ [(l, .loop (rec .ready none)), (Dk, .deferred (some []))]) ++ HI s := by simp
      refine ⟨none, _, by have := run_endLoop (P := P) (hmJ.own _ hmem).2 (by rw [hrec]; simp); rw [hrec] at this; exact this, ?_⟩
      have h4 : Mem B w0 ((Dk, .deferred (some [])) :: HI s) W2 := hmJ.fewer (by rw [List.append_assoc]; exact fewer_behind _ (.drop (Fewer.refl _)))
      have hne : ∀ p ∈ (Dk, Obj.deferred (some [])) :: HI s, p.1 ≠ l := by
        have h5 := hmJ.apart
        rw [List.append_assoc] at h5
        have h6 := (List.pairwise_append.1 h5).2.1
        exact fun p hp => Ne.symm ((List.pairwise_cons.1 h6).1 p hp)
      have hlB := (hmJ.own _ hmem).1
      have hm5 : Mem B w0 ((Dk, .deferred (some [])) :: HI s) (W2.putObj l (.loop (rec .exhausted none))) :=
        ⟨h4.room, h4.chg.step hB rfl rfl rfl (by simp) (fun k hk hn => World.putObj_heap_other (by rintro rfl; rcases hlB with h | h <;> first | (simp only at h; omega) | exact hn h)), fun p hp => ⟨(h4.own p hp).1, (World.putObj_heap_other (hne p hp)).trans (h4.own p hp).2⟩, h4.apart⟩
      rw [hrec] at hm5
      exact hdone Dk s hI _ _ ⟨by simp [hf.defs], hf.size, hf.at_⟩ hm5
    · rintro xs A C ⟨s, Hj, hI, hj, hmJ⟩ hst
      rw [List.append_assoc] at hmJ
      rw [← hj] at hst
      obtain ⟨Hk, hk, hmk⟩ := mem_steps hB hmJ hst
      exact ⟨s, Hk, hI, hk.trans hj, by rw [List.append_assoc]; exact hmk⟩
    · rintro pre x Wr H1 hpre ⟨s, Hj, hI, hj, hmJ⟩ hj1 hm1
      have hmJ' := hmJ
      rw [List.append_assoc] at hmJ'
      obtain rfl : H1 = Hj := same_hp hm1 (fun p hp => (hmJ'.own p (List.mem_append_left _ hp)).2) (hj1.trans hj.symm)
      have hmem : (l, Obj.loop (rec .ready none)) ∈ (H1 ++ [(l, .loop (rec .ready none)), (Dk, .deferred (some []))]) ++ HI s := by simp
      have hll := (hmJ.own _ hmem).2
      have hy := run_yield (P := P) (args := (encs x).toArray) hll (by rw [hrec]; simp [hps x])
      refine ⟨_, _, _, _, hy, roundIn_of_wpIn (F := Fence.wide) trivial ?_⟩
      rw [hrec]
      have hfp : Fits N [] (penv ps (encs x) env) { tmps := (ps.zip (encs x)).foldl (fun t p => t.setIfInBounds p.1 p.2) a.tmps, defers := [] } :=
        fits_penv (D := []) ps (encs x) env { a with defers := [] } ⟨rfl, hf.size, hf.at_⟩ hpN
      have hz : ((ps.toArray.zip (encs x).toArray).foldl (fun tmps (p : Nat × Value) => tmps.setIfInBounds p.1 p.2) a.tmps) = (ps.zip (encs x)).foldl (fun t p => t.setIfInBounds p.1 p.2) a.tmps := by
        simp
      have ha := hassign l _ x _ Wr hfp hmJ
      rw [← hz] at ha
      refine wpIn_mono ha ?_
      rintro e a1 w1 hq
      cases e with
      | normal =>
        obtain ⟨hfa, hma⟩ := hq
        have hl1 := (hma.own _ hmem).2
        refine ⟨_, run_beginRound hl1 (by rw [hrec]), ?_⟩
        rw [hrec]
        have hat : ∀ (o : Obj) (s' : σ) (o0 : Obj), At ((H1 ++ [(l, o0), (Dk, .deferred (some []))]) ++ HI s') l o0 o ((H1 ++ [(l, o), (Dk, .deferred (some []))]) ++ HI s') := by
          intro o s' o0
          rw [List.append_assoc, List.append_assoc]
          exact at_behind H1 At.here
        have hmb := hma.put (hat (.loop { rec .ready none with state := .busy }) s _)
        refine wpIn_mono (hbody l Dk _ H1 pre x s hpre hI a1 _ hfa (by rw [hrec] at hmb; exact hmb.perm List.perm_append_comm)) ?_
        rintro e a2 w2 hq
        cases e with
        | normal =>
          obtain ⟨s', hI', hm'⟩ := hq
          replace hm' := hm'.perm List.perm_append_comm
          have hmem2 : (l, Obj.loop { state := .busy, pending := none, fn := fnn, tmps := a.tmps, params := ps.toArray, assign, body, defers := w.heap.size }) ∈ (H1 ++ [(l, .loop { state := .busy, pending := none, fn := fnn, tmps := a.tmps, params := ps.toArray, assign, body, defers := w.heap.size }), (Dk, .deferred (some []))]) ++ HI s' := by simp
          have hl2 := (hm'.own _ hmem2).2
          refine ⟨_, _, run_endRound none hl2, rfl, ⟨s', H1, hI', hj1, ?_⟩, ?_⟩
          · have := hm'.put (hat (.loop (rec .ready none)) s' _)
            rw [hrec] at this
            simpa using this
          · have := hm'.put (hat (.loop (rec .ready none)) s' _)
            rw [hrec] at this
            have h7 := this.fewer (H' := H1) (by rw [List.append_assoc]; exact fewer_prefix _ _)
            simpa using h7
        | _ => exact hq.elim
      | _ => exact hq.elim
/-! ### A function that ranges over a function -/
section enterM
variable {P : Program} {f : FuncId} {fn : Func} {c : Code} {w : World} {R : Ending → World → Prop}
theorem enterM {N : Nat} {args : List Value} (hf : P.funcs[f]? = some fn) (hb : fn.body = some c) (hn : fn.ntmps = N) (ha : args.length ≤ N)
    (h : Sx P w.heap.size ⟨w, []⟩ N [] c (envOf 0 args) [] (bodyPostM Fence.wide 0 P fn R)) : Calls P f args.toArray w R := by
  refine (callsIn_wide (n := 0)).1 (callsIn_of_wp_marks hf hb trivial ((wpIn_wide (n := 0)).2 (h _ _ ⟨rfl, ?_, ?_⟩ (Mem.start w))))
  · rw [hn]; simp; omega
  · intro t v hv
    obtain ⟨_, h2⟩ := find_envOf args 0 t v hv
    have hl : t < args.length := by
      rcases Nat.lt_or_ge t args.length with h | h
      · exact h
      · rw [List.getElem?_eq_none (by simpa using h)] at h2; cases h2
    rw [Array.getElem?_append_left (by simpa using hl)]
    simpa using h2
variable {B : Nat} {w0 : Base} {N : Nat} {env : Env} {H H' : Hp}
theorem E_retM1 {t Dk : Nat} {v : Value} (hr : fn.results = #[.tmp t]) (hv : find env t = some v) (hat : At H Dk (.deferred (some [])) (.deferred none) H') (h : ∀ w, Mem B w0 H' w → R (.returned v) w) : Ex B w0 N [⟨.collected Dk, #[]⟩] env H (bodyPostM Fence.wide 0 P fn R .ret) := by
  intro a w hf hm
  show LeavesInM Fence.wide 0 P fn a.tmps R a.defers .returning w
  rw [hf.defs]
  refine ⟨by simp, .inl ⟨Dk, _, rfl, run_takeDeferred (hm.at_ hat), ?_⟩⟩
  exact ⟨v, by have := hf.at_ t v hv; simp [results, hr, this], h _ (hm.put hat)⟩
end enterM
end Go.K
