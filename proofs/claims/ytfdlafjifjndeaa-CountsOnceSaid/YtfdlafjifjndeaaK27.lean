/-
  A callee that turns blocks that are known, and makes others; deferred calls; append and copy of rows. Plain theorems, over any program.
-/
import Derived.Test.YtfdlafjifjndeaaK26
import Derived.Test.YtfdlafjifjndeaaK4
import Derived.Defers
namespace Go.K
open Go Go.RowKit
theorem perm_pick {H Hr : Hp} {b : Nat} {o : Obj} (h : Del H b o Hr) : H.Perm ((b, o) :: Hr) := by
  induction h with
  | here => exact List.Perm.refl _
  | there _ ih => exact (ih.cons _).trans (List.Perm.swap _ _ _)
section frame
variable {P : Program} {B : Nat} {w0 : Base} {N : Nat} {D : List Deferred} {env : Env} {H : Hp} {T : Env → Hp → Prop} {Q : Exit → Act → World → Prop}
variable {dst : Option Tmp} {ty : TypeId} {pos : String} {after : Array Edge} {g : Option (Nat × Bool)}
/-- What a callee was given has turned into H', all else stays. -/
theorem Mem.frame {w w' : World} {Hc K H' : Hp} (m : Mem B w0 (Hc ++ K) w) (hc : Mem w.heap.size ⟨w, Hc.map (·.1)⟩ H' w') : Mem B w0 (H' ++ K) w' := by
  have hap := List.pairwise_append.1 m.apart
  have hlt : ∀ p ∈ K, p.1 < w.heap.size := fun p hp => m.lt (by simp [hp])
  have hnK : ∀ p ∈ K, p.1 ∉ Hc.map (·.1) := fun p hp hin => by
    obtain ⟨q, hq, e⟩ := List.mem_map.1 hin
    exact hap.2.2 q hq p hp e
  have hbs : ∀ k ∈ Hc.map (·.1), B ≤ k ∨ k ∈ w0.bs := fun k hk => by
    obtain ⟨q, hq, rfl⟩ := List.mem_map.1 hk
    exact (m.own q (by simp [hq])).1
  have m' := m.back hbs hc
  have hkeep : ∀ p ∈ K, w'.heap[p.1]? = some p.2 := fun p hp => (hc.chg.block p.1 (hlt p hp) (hnK p hp)).trans (m.own p (by simp [hp])).2
  refine ⟨m.room, m'.chg, fun p hp => ?_, List.pairwise_append.2 ⟨hc.apart, hap.2.1, fun p hp q hq => ?_⟩⟩
  · rcases List.mem_append.1 hp with hp | hp
    · exact m'.own p hp
    · exact ⟨(m.own p (by simp [hp])).1, hkeep p hp⟩
  · intro e
    rcases (hc.own p hp).1 with h | h
    · have h9 := hlt q hq; rw [e] at h; exact absurd h9 (Nat.not_lt.2 h)
    · exact hnK q hq (e ▸ h)
/-- A call that may turn the blocks Hc (they stand in H, in whatever order), and hands back v. -/
theorem op_callH {d : Nat} {fo : Operand} {xs : List Operand} {ts : Array TypeId} {f : FuncId} {fn : Func} {vs first cap : List Value} {Hc K : Hp} {Post : Value → Hp → Prop} (hfo : look env fo = some (.func (.func f) first.toArray cap.toArray)) (hxs : looks env xs = some vs)
    (hf0 : P.funcs[f]? = some fn) (hb0 : fn.body.isNone = false) (hn0 : (fn.name == "runtime.NumGoroutine") = false) (hd : Nat.blt d N = true) (hp : H.Perm (Hc ++ K))
    (hc : ∀ w, Mem w.heap.size ⟨w, Hc.map (·.1)⟩ Hc w → Calls P f (first ++ vs ++ cap).toArray w fun e w' => ∃ v H', e = .returned v ∧ Mem w.heap.size ⟨w, Hc.map (·.1)⟩ H' w' ∧ Post v H') (h : ∀ v H', Post v H' → T ((d, v) :: env) (H' ++ K)) :
    Op1 P B w0 N D ⟨some d, .call { callee := .value fo, args := xs.toArray, argTypes := ts }, ty, pos, after, g⟩ env H T :=
  op_call hfo hxs hf0 hb0 hn0 hd fun w hm => by
    have hm2 := hm.perm hp
    have hm3 : Mem B w0 Hc w := hm2.fewer (Fewer.inl _ _)
    refine (hc w hm3.here).mono ?_
    rintro e w' ⟨v, H', rfl, hm4, hpo⟩
    exact ⟨v, _, rfl, hm2.frame hm4, h v H' hpo⟩
/-- .. told by what it hands back. -/
theorem op_callX {σ : Type} (val : σ → Value) (HF : σ → Hp) (I : σ → Prop) {d : Nat} {fo : Operand} {xs : List Operand} {ts : Array TypeId} {f : FuncId} {fn : Func} {vs first cap : List Value} {Hc K : Hp} (hfo : look env fo = some (.func (.func f) first.toArray cap.toArray)) (hxs : looks env xs = some vs)
    (hf0 : P.funcs[f]? = some fn) (hb0 : fn.body.isNone = false) (hn0 : (fn.name == "runtime.NumGoroutine") = false) (hd : Nat.blt d N = true) (hp : H.Perm (Hc ++ K))
    (hc : ∀ w, Mem w.heap.size ⟨w, Hc.map (·.1)⟩ Hc w → Calls P f (first ++ vs ++ cap).toArray w fun e w' => ∃ s, e = .returned (val s) ∧ Mem w.heap.size ⟨w, Hc.map (·.1)⟩ (HF s) w' ∧ I s) (h : ∀ s, I s → T ((d, val s) :: env) (HF s ++ K)) :
    Op1 P B w0 N D ⟨some d, .call { callee := .value fo, args := xs.toArray, argTypes := ts }, ty, pos, after, g⟩ env H T :=
  op_callH (Post := fun v H' => ∃ s, v = val s ∧ H' = HF s ∧ I s) hfo hxs hf0 hb0 hn0 hd hp (fun w hm => (hc w hm).mono fun _ _ ⟨s, he, hm', hI⟩ => ⟨_, _, he, hm', s, rfl, rfl, hI⟩) fun v H' ⟨s, e1, e2, hI⟩ => by
    subst e1 e2
    exact h s hI
/-- A contract of a callee that only looks at the blocks Hc. -/
theorem keeps_of {f : FuncId} {args : Array Value} {w : World} {Hc : Hp} {v : Value} (hm : Mem w.heap.size ⟨w, Hc.map (·.1)⟩ Hc w) (h : Calls P f args w fun e w' => e = .returned v ∧ Mem w.heap.size ⟨w, Hc.map (·.1)⟩ Hc w') : Calls P f args w fun e w' => e = .returned v ∧ Below w.heap.size w w' :=
  h.mono fun e w' ⟨he, hm'⟩ => ⟨he, hm'.chg.os, hm'.chg.tape, hm'.chg.output, hm'.chg.size, fun k hk => by
    by_cases hin : k ∈ Hc.map (·.1)
    · obtain ⟨p, hp, rfl⟩ := List.mem_map.1 hin
      rw [(hm'.own p hp).2, (hm.own p hp).2]
    · exact hm'.chg.block k hk hin⟩
/-- What stands in a world, to be measured against it. -/
theorem Mem.sub {w w1 : World} {Hc H' : Hp} (m : Mem B w0 Hc w) (hf : Fewer H' Hc) : Mem w.heap.size ⟨w, H'.map (·.1)⟩ H' w := (m.fewer hf).here
/-- Operations that put a call off. -/
theorem R_defer {ops : Array Oper} {rest : List Oper} {fo : Operand} {ts : Array TypeId} {fv : Fn} {cs : Array Value} (hfo : look env fo = some (.func fv #[] cs))
    (h : Rx P B w0 N ({ target := .fn fv cs, args := #[] } :: D) ops rest env H Q) : Rx P B w0 N D ops (⟨none, .defer { callee := .value fo, args := #[], argTypes := ts }, ty, pos, after, none⟩ :: rest) env H Q := fun a w hf hm => wpList_plain rfl fun K hK => by
  have hrun : (execOp a.eval ⟨none, .defer { callee := .value fo, args := #[], argTypes := ts }, ty, pos, after, none⟩).run P w = .ok (.defer { target := .fn fv cs, args := #[] }) w := by
    simp [execOp, resolve, hf.eval hfo, Deferred.ofValue]
  unfold Oper.wp
  rw [hrun]
  refine hK _ _ (h _ _ ⟨?_, hf.size, hf.at_⟩ hm)
  simp [Act.put, hf.defs]
theorem enterD_at {f : FuncId} {fn : Func} {c : Code} {w : World} {R : Ending → World → Prop} {args : List Value} (hf : P.funcs[f]? = some fn) (hb : fn.body = some c) (hn : fn.ntmps = N) (ha : args.length ≤ N) (hm : Mem B w0 H w)
    (h : Sx P B w0 N [] c (envOf 0 args) H (bodyPostD P fn R)) : Calls P f args.toArray w R := by
  refine calls_of_wp_defers hf hb (h _ _ ⟨rfl, ?_, ?_⟩ hm)
  · rw [hn]; simp; omega
  · intro t v hv
    obtain ⟨_, h2⟩ := find_envOf args 0 t v hv
    have hl : t < args.length := by
      rcases Nat.lt_or_ge t args.length with h | h
      · exact h
      · rw [List.getElem?_eq_none (by simpa using h)] at h2; cases h2
    rw [Array.getElem?_append_left (by simpa using hl)]
    simpa using h2
theorem deferred_at {f : FuncId} {fn : Func} {c : Code} {w : World} {R : Ending → World → Prop} {args : List Value} {u : FrameMode} (hf : P.funcs[f]? = some fn) (hb : fn.body = some c) (hn : fn.ntmps = N) (ha : args.length ≤ N) (hm : Mem B w0 H w)
    (h : Sx P B w0 N [] c (envOf 0 args) H (bodyPost P fn R)) : CallsD P f args.toArray u w fun e u' w' => u' = u ∧ R e w' := by
  refine callsD_of_wp hf hb (h _ _ ⟨rfl, ?_, ?_⟩ hm)
  · rw [hn]; simp; omega
  · intro t v hv
    obtain ⟨_, h2⟩ := find_envOf args 0 t v hv
    have hl : t < args.length := by
      rcases Nat.lt_or_ge t args.length with h | h
      · exact h
      · rw [List.getElem?_eq_none (by simpa using h)] at h2; cases h2
    rw [Array.getElem?_append_left (by simpa using hl)]
    simpa using h2
/-- Back, where one call is put off: it turns H into H'. -/
theorem E_retD {fn : Func} {R : Ending → World → Prop} {f : FuncId} {gn : Func} {caps : List Value} {H' : Hp} (hf0 : P.funcs[f]? = some gn) (hb0 : gn.body.isNone = false) (hn0 : (gn.name == "runtime.NumGoroutine") = false)
    (hc : ∀ w, Mem B w0 H w → CallsD P f caps.toArray .returning w fun e u' w' => u' = .returning ∧ (∃ v, e = .returned v) ∧ Mem B w0 H' w')
    (h : ∀ a w, Fits N [{ target := .fn (.func f) caps.toArray, args := #[] }] env a → Mem B w0 H' w → ∃ v, (results fn a.tmps).run P w = .ok v w ∧ R (.returned v) w) : Ex B w0 N [{ target := .fn (.func f) caps.toArray, args := #[] }] env H (bodyPostD P fn R .ret) := fun a w hf hm => by
  show Leaves P fn a.tmps R a.defers .returning w
  rw [hf.defs]
  refine leaves_cons (by simp) (args := caps.toArray) (f := f) ?_ ((hc w hm).mono ?_)
  · simp only [invoke]
    rw [runs_callFunc hf0 hb0 hn0]
    simp
  · rintro e u' w' ⟨rfl, ⟨v, rfl⟩, hm'⟩
    exact h a w' hf hm'
end frame
section ops
variable {P : Program} {B : Nat} {w0 : Base} {N : Nat} {D : List Deferred} {env : Env} {H : Hp} {T : Env → Hp → Prop}
variable {dst : Option Tmp} {ty : TypeId} {pos : String} {after : Array Edge} {g : Option (Nat × Bool)}
/-- append of rows to a slice of the call's own: it may move. -/
theorem op_appendR {d s bytes : Nat} {t e : TypeId} {x y : Operand} {z : Value} {b n cap m c : Nat} {xs ys sp : List Value} {A : Option Addr} {H' : Hp} (hx : look env x = some (.slice (some ⟨b, 0, none⟩) n cap)) (hy : look env y = some (.slice A m c))
    (ht : P.underlying t = some (.slice e)) (he : ElR P e z s bytes) (hs0 : 0 < s) (hdel : Del H b (.cells (xs ++ sp).toArray e (0, 0)) H') (hxl : xs.length = n * s) (hcap : (xs ++ sp).length = cap * s) (hcm : cap ≤ maxLen)
    (hsrc : ∀ w, Mem B w0 H w → Reads w A (m * s) ys) (hone : ∀ u ∈ ys, u.oneCell' = true) (hm0 : 0 < m) (h63 : n + m ≤ 1000000) (hby : bytes ≤ 1000000) (hd : Nat.blt d N = true) (hB : B ≤ w0.w.heap.size)
    (h : ∀ b' cap' sp', (xs ++ ys ++ sp').length = cap' * s → n + m ≤ cap' → cap' ≤ maxLen → T ((d, .slice (some ⟨b', 0, none⟩) (n + m) cap') :: env) ((b', .cells (xs ++ ys ++ sp').toArray e (0, 0)) :: H')) :
    Op1 P B w0 N D ⟨some d, .call { callee := .builtin .append, args := #[x, y], argTypes := #[t, t] }, ty, pos, after, g⟩ env H T := fun K Q hT a w hf hm => by
  obtain ⟨i, hi, hz, hs, hb, hzc⟩ := he
  have hbB := (hm.own _ hdel.mem).1
  have hrd := hsrc w hm
  have hncap : n ≤ cap := by
    rw [List.length_append, hxl] at hcap
    exact Nat.le_of_mul_le_mul_right (by omega : n * s ≤ cap * s) hs0
  have hown : w.ownsRow 0 e s (.slice (some ⟨b, 0, none⟩) n cap) n xs := by
    refine ⟨hxl, .inr ⟨b, cap, _, rfl, Nat.zero_le _, (hm.own _ hdel.mem).2, hncap, hcm, by simpa using hcap, ?_⟩⟩
    rw [← hxl]; simp
  have hms : m * s ≠ 0 := Nat.mul_ne_zero (by omega) (by omega)
  have hbb : (n + m) * bytes ≤ 140737488355328 := Nat.le_trans (Nat.mul_le_mul h63 hby) (by omega)
  have hex : ∃ v' w', (Builtin.append_ #[t, t] ty #[.slice (some ⟨b, 0, none⟩) n cap, .slice A m c]).run P w = .ok v' w' ∧ w'.ownsRow 0 e s v' (n + m) (xs ++ ys) ∧ w.grownBy w' (some b) ∧ v' ≠ .slice none 0 0 ∧ (v'.ownBlock = some b ∨ v'.ownBlock = some w.heap.size) := by
    obtain ⟨b2, off2, rfl, _, hc2⟩ := hrd.2 hms
    obtain ⟨v', w', hrun, h2, h3, h4, h5⟩ := run_append_own_at (P := P) w 0 t ty e i z s bytes ht hi hz hs hb hzc hs0 _ n xs hown ⟨b2, off2, none⟩ m c ys hrd.1 (fun j u hu => by rw [Addr.add_mid]; exact hc2 j u hu) hone (by unfold maxLen; omega) hbb (Nat.zero_le _)
    exact ⟨v', w', hrun, h2, h3, fun e => by have := (h4.1 e).1; simp at this, h5⟩
  obtain ⟨v', w', hrun, h2, h3, h4, h5⟩ := hex
  have hrun2 : (execOp a.eval ⟨some d, .call { callee := .builtin .append, args := #[x, y], argTypes := #[t, t] }, ty, pos, after, g⟩).run P w = .ok (.value v') w' := by
    simp [execOp, resolve, hf.eval hx, hf.eval hy, invoke, builtin, hrun]
  unfold Oper.wp
  rw [hrun2]
  obtain ⟨hlen, hform⟩ := h2
  rcases hform with ⟨hv, _⟩ | ⟨g', cap', cur, rfl, hg', hh, hnc', hcm', hcs, htk⟩
  · exact absurd hv h4
  · have hg2 : g' = b ∨ g' = w.heap.size := by simpa [Value.ownBlock] using h5
    have hsp : cur = (xs ++ ys ++ cur.toList.drop ((n + m) * s)).toArray := by
      rw [← htk]
      simp
    have hm1 := hm.del hdel
    have hbelow : Chg B w0.bs w0.w w' := hm.chg.step hB h3.os h3.tape h3.output h3.size (fun k hk hn => h3.block k (by have := hm.chg.size; omega) (fun e => by
      simp only [Option.some.injEq] at e
      subst e
      rcases hbB with h | h
      · simp only at h; omega
      · exact hn h))
    refine hT _ _ (h g' cap' (cur.toList.drop ((n + m) * s)) (by have := congrArg Array.size hsp; rw [hcs] at this; simpa using this.symm) hnc' hcm') _ _ (hf.put hd _) ⟨hm.room, hbelow, fun p hp => ?_, List.pairwise_cons.2 ⟨fun p hp => ?_, hm1.apart⟩⟩
    · rcases List.mem_cons.1 hp with rfl | hp
      · refine ⟨?_, by rw [← hsp]; exact hh⟩
        rcases hg2 with e | e
        · show B ≤ g' ∨ g' ∈ w0.bs
          rw [e]; exact hbB
        · exact .inl (by have := hm.chg.size; simp only; omega)
      · exact ⟨(hm1.own p hp).1, (h3.block p.1 (hm1.lt hp) (fun e => by simp only [Option.some.injEq] at e; exact hdel.ne hm.apart p hp e)).trans (hm1.own p hp).2⟩
    · have h6 := hdel.ne hm.apart p hp
      have h7 := hm1.lt hp
      show g' ≠ p.1
      omega
/-- append of rows to nil. -/
theorem op_appendNilR {d s bytes : Nat} {t e : TypeId} {x y : Operand} {z : Value} {m c : Nat} {ys : List Value} {A : Option Addr} (hx : look env x = some (.slice none 0 0)) (hy : look env y = some (.slice A m c))
    (ht : P.underlying t = some (.slice e)) (he : ElR P e z s bytes) (hs0 : 0 < s) (hsrc : ∀ w, Mem B w0 H w → Reads w A (m * s) ys) (hone : ∀ u ∈ ys, u.oneCell' = true) (hm0 : 0 < m) (h63 : m ≤ 1000000) (hby : bytes ≤ 1000000) (hd : Nat.blt d N = true) (hB : B ≤ w0.w.heap.size)
    (h : ∀ b' cap' sp', (ys ++ sp').length = cap' * s → m ≤ cap' → cap' ≤ maxLen → T ((d, .slice (some ⟨b', 0, none⟩) m cap') :: env) ((b', .cells (ys ++ sp').toArray e (0, 0)) :: H)) :
    Op1 P B w0 N D ⟨some d, .call { callee := .builtin .append, args := #[x, y], argTypes := #[t, t] }, ty, pos, after, g⟩ env H T := fun K Q hT a w hf hm => by
  obtain ⟨i, hi, hz, hs, hb, hzc⟩ := he
  have hrd := hsrc w hm
  have hms : m * s ≠ 0 := Nat.mul_ne_zero (by omega) (by omega)
  have hbb : (0 + m) * bytes ≤ 140737488355328 := by rw [Nat.zero_add]; exact Nat.le_trans (Nat.mul_le_mul h63 hby) (by omega)
  obtain ⟨b2, off2, rfl, _, hc2⟩ := hrd.2 hms
  obtain ⟨v', w', hrun, h2, h3, h4, h5⟩ := run_append_own_at (P := P) w 0 t ty e i z s bytes ht hi hz hs hb hzc hs0 (.slice none 0 0) 0 [] ⟨by simp, .inl ⟨rfl, rfl⟩⟩ ⟨b2, off2, none⟩ m c ys hrd.1 (fun j u hu => by rw [Addr.add_mid]; exact hc2 j u hu) hone (by unfold maxLen; omega) hbb (Nat.zero_le _)
  have hrun2 : (execOp a.eval ⟨some d, .call { callee := .builtin .append, args := #[x, y], argTypes := #[t, t] }, ty, pos, after, g⟩).run P w = .ok (.value v') w' := by
    simp [execOp, resolve, hf.eval hx, hf.eval hy, invoke, builtin, hrun]
  unfold Oper.wp
  rw [hrun2]
  obtain ⟨hlen, hform⟩ := h2
  rcases hform with ⟨hv, _⟩ | ⟨g', cap', cur, rfl, hg', hh, hnc', hcm', hcs, htk⟩
  · exact absurd (h4.1 hv).2 (by omega)
  · have hg2 : g' = w.heap.size := by simpa [Value.ownBlock] using h5
    simp only [Nat.zero_add, List.nil_append] at htk hh hnc' ⊢
    have hsp : cur = (ys ++ cur.toList.drop (m * s)).toArray := by
      rw [← htk]
      simp
    have hbelow : Chg B w0.bs w0.w w' := hm.chg.step hB h3.os h3.tape h3.output h3.size (fun k hk _ => h3.block k (by have := hm.chg.size; omega) (fun e => by simp [Value.ownBlock] at e))
    refine hT _ _ (h g' cap' (cur.toList.drop (m * s)) (by have := congrArg Array.size hsp; rw [hcs] at this; simpa using this.symm) hnc' hcm') _ _ (hf.put hd _) ⟨hm.room, hbelow, fun p hp => ?_, List.pairwise_cons.2 ⟨fun p hp => ?_, hm.apart⟩⟩
    · rcases List.mem_cons.1 hp with rfl | hp
      · exact ⟨.inl (by have := hm.chg.size; simp only; omega), by rw [← hsp]; exact hh⟩
      · exact ⟨(hm.own p hp).1, (h3.block p.1 (hm.lt hp) (fun e => by simp [Value.ownBlock] at e)).trans (hm.own p hp).2⟩
    · have h7 := hm.lt hp
      show g' ≠ p.1
      omega
/-- A slice literal without elements. -/
theorem op_buildSlice0 {d s : Nat} {t e : TypeId} (ht : P.underlying t = some (.slice e)) (hs : (P.info? e).map (·.size) = some s) (hd : Nat.blt d N = true) (hB : B ≤ w0.w.heap.size)
    (h : ∀ b, T ((d, .slice (some ⟨b, 0, none⟩) 0 0) :: env) ((b, .cells ([] : List Value).toArray e (0, 0)) :: H)) : Op1 P B w0 N D ⟨some d, .buildSlice t 0 #[], ty, pos, after, g⟩ env H T := fun K Q hT a w hf hm => by
  have hsz : (sizeOf e).run P w = .ok s w := sizeOf_ok hs w
  have h3 : (execOp a.eval ⟨some d, .buildSlice t 0 #[], ty, pos, after, g⟩).run P w = .ok (.value (.slice (some ⟨w.heap.size, 0, none⟩) 0 0)) (w.alloc (.cells ([] : List Value).toArray e)) := by
    have h4 : Array.map (fun (_ : Nat) => (default : Value)) (Array.range 0) = #[] := Array.eq_empty_of_size_eq_zero (by simp)
    simp [execOp, Instr.buildSlice, run_underlying ht, hsz, Instr.fill, newRow, h4]
  unfold Oper.wp
  rw [h3]
  exact hT _ _ (h w.heap.size) _ _ (hf.put hd _) (hm.alloc hB _)
/-- copy of rows into rows that are known, as many as there are. -/
theorem op_copyR {d s : Nat} {t u e : TypeId} {x y : Operand} {b off dn dc sn sc n : Nat} {A : Option Addr} {cs xs : List Value} {et : TypeId} {H' : Hp} (hx : look env x = some (.slice (some ⟨b, off, none⟩) dn dc)) (hy : look env y = some (.slice A sn sc))
    (htu : P.underlying t = some (.slice e)) (hs : (P.info? e).map (·.size) = some s) (hn : Nat.min sn dn = n) (hn0 : n * s ≠ 0) (hsrc : ∀ w, Mem B w0 H w → Reads w A (n * s) xs) (h1 : ∀ v ∈ xs, v.oneCell' = true)
    (hat : At H b (.cells cs.toArray et (0, 0)) (.cells (lay cs off xs).toArray et (0, 0)) H') (hlt : off + n * s ≤ cs.length) (hd : Nat.blt d N = true) (h : T ((d, .int .i64 (n : Int)) :: env) H') :
    Op1 P B w0 N D ⟨some d, .call { callee := .builtin .copy, args := #[x, y], argTypes := #[t, u] }, ty, pos, after, g⟩ env H T := fun K Q hT a w hf hm => by
  have hb := hm.at_ hat
  have hrd := hsrc w hm
  obtain ⟨b2, o2, rfl, _, hc2⟩ := hrd.2 hn0
  have hl := run_loadCells_list (P := P) w ⟨b2, o2, none⟩ xs (fun j v hv => by rw [Addr.add_mid]; exact hc2 j v hv)
  have hst := run_storeCells_cells (P := P) b off xs 0 w (fun j hj => by rw [Nat.add_zero, cell_of_row w b _ _ _ _ hb]; rw [hrd.1] at hj; simp; omega) (fun j hj => frozen_of_row w b _ _ _ hb) h1
  rw [hrd.1] at hl
  have key : (Builtin.copy_ #[t, u] ty #[.slice (some ⟨b, off, none⟩) dn dc, .slice (some ⟨b2, o2, none⟩) sn sc]).run P w = .ok (goInt n) (w.setCells b off xs) := by
    have hsz : (sizeOf e).run P w = .ok s w := sizeOf_ok hs w
    simp [Builtin.copy_, run_underlying htu, Builtin.lenOf, Builtin.firstCells, hsz, hn, hl, hst]
  have hrun : (execOp a.eval ⟨some d, .call { callee := .builtin .copy, args := #[x, y], argTypes := #[t, u] }, ty, pos, after, g⟩).run P w = .ok (.value (.int .i64 (n : Int))) (w.setCells b off xs) := by
    simp [execOp, resolve, hf.eval hx, hf.eval hy, invoke, builtin, key, goInt]
  unfold Oper.wp
  rw [hrun]
  exact hT _ _ h _ _ (hf.put hd _) (Mem.lay _ _ _ _ _ off hm hat)
end ops
end Go.K
