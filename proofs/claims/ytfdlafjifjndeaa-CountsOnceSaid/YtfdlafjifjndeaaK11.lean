/-
  Calls that hand back bytes of their own; regions in which two or three operations may come up.
-/
import Derived.Test.YtfdlafjifjndeaaK10
namespace Go.K
open Go Go.RowKit
/-- What a callee says that hands back bytes in a block of its own. -/
def MadeBuf (e : TypeId) (xs : List UInt8) (w : World) (r : Ending) (w' : World) : Prop :=
  ∃ g sp, r = .returned (Buf.val (some (g, sp)) xs) ∧ Buf.ok (some (g, sp)) xs ∧ w.heap.size ≤ g ∧ w'.heap[g]? = some (.cells (bytesV xs ++ sp).toArray e (0, 0)) ∧ Below w.heap.size w w'
section
variable {P : Program} {B : Nat} {w0 : Base} {N : Nat} {D : List Deferred} {env : Env} {H : Hp} {T : Env → Hp → Prop} {ty : TypeId} {pos : String} {after : Array Edge} {gd : Option (Nat × Bool)} {Q : Exit → Act → World → Prop}
theorem op_callBuf {d : Nat} {fo : Operand} {as : List Operand} {ts : Array TypeId} {f : FuncId} {fn : Func} {vs first cap : List Value} {e : TypeId} {xs : List UInt8} (hfo : look env fo = some (.func (.func f) first.toArray cap.toArray)) (hxs : looks env as = some vs)
    (hf0 : P.funcs[f]? = some fn) (hb0 : fn.body.isNone = false) (hn0 : (fn.name == "runtime.NumGoroutine") = false) (hd : Nat.blt d N = true) (hB : B ≤ w0.w.heap.size)
    (hc : ∀ w, Mem B w0 H w → Calls P f (first ++ vs ++ cap).toArray w (MadeBuf e xs w))
    (h : ∀ g sp, Buf.ok (some (g, sp)) xs → T ((d, Buf.val (some (g, sp)) xs) :: env) ((g, .cells (bytesV xs ++ sp).toArray e (0, 0)) :: H)) :
    Op1 P B w0 N D ⟨some d, .call { callee := .value fo, args := as.toArray, argTypes := ts }, ty, pos, after, gd⟩ env H T :=
  op_call hfo hxs hf0 hb0 hn0 hd fun w hm => (hc w hm).mono fun r w' ⟨g, sp, he, hok, hg, hgo, hb⟩ => ⟨_, _, he, hm.call1 hB hb hg hgo, h g sp hok⟩

/-- One of those that may come up comes up. -/
def DStep (P : Program) (B : Nat) (w0 : Base) (N : Nat) (D : List Deferred) (ops : Array Oper) (H₀ : Hp) (fuel : Nat) (listed : Array Bool) (env : Env) (H : Hp) (Q : Exit → Act → World → Prop) (i : Nat) : Prop :=
  ∀ a w, Fits N D env a → Mem B w0 H w → wpOp P ops Q i (fun a' w' => Mem B w0 H₀ w' ∧ wpAnyH P .any ops Q (Mem B w0 H₀) fuel (listed.setIfInBounds i true) a' w') a w
theorem step_plain {ops : Array Oper} {H₀ : Hp} {fuel : Nat} {listed : Array Bool} (i : Nat) {o : Oper} (hi : ops[i]? = some o) (hg : o.guard = none)
    (h : Op1 P B w0 N D o env H (fun env' H' => Fewer H₀ H' ∧ Dx P B w0 N D ops (Mem B w0 H₀) fuel (listed.setIfInBounds i true) env' H' Q)) : DStep P B w0 N D ops H₀ fuel listed env H Q i :=
  fun a w hfa hm => wpOp_step hi fun K' hK' => by
    rw [if_pos (by simp [Region.wanted, hg])]
    exact h K' Q (fun env' H' ⟨hF, hD⟩ a w hf hm => hK' a w ⟨hm.fewer hF, hD a w hf hm (hm.fewer hF)⟩) a w hfa hm
theorem step_guard {ops : Array Oper} {H₀ : Hp} {fuel : Nat} {listed : Array Bool} (i : Nat) {o : Oper} {j dj : Nat} {want : Bool} (hi : ops[i]? = some o) (hg : o.guard = some (j, want)) (hj : (ops[j]?).bind (·.dst) = some dj) (hd : find env dj = some (.bool want))
    (h : Op1 P B w0 N D o env H (fun env' H' => Fewer H₀ H' ∧ Dx P B w0 N D ops (Mem B w0 H₀) fuel (listed.setIfInBounds i true) env' H' Q)) : DStep P B w0 N D ops H₀ fuel listed env H Q i :=
  fun a w hfa hm => wpOp_step hi fun K' hK' => by
    rw [if_pos (by simp [Region.wanted, hg, yielded_of hj hfa hd])]
    exact h K' Q (fun env' H' ⟨hF, hD⟩ a w hf hm => hK' a w ⟨hm.fewer hF, hD a w hf hm (hm.fewer hF)⟩) a w hfa hm
theorem D_two {ops : Array Oper} {fuel : Nat} {listed : Array Bool} {H₀ : Hp} (i j : Nat) (hr : Region.ready .any ops listed = [i, j]) (h1 : DStep P B w0 N D ops H₀ fuel listed env H Q i) (h2 : DStep P B w0 N D ops H₀ fuel listed env H Q j) :
    Dx P B w0 N D ops (Mem B w0 H₀) (fuel + 1) listed env H Q := fun a w hfa hm _ => wpAnyH_all hr (by simp) fun k hk => by
  simp only [List.mem_cons, List.not_mem_nil, or_false] at hk
  rcases hk with rfl | rfl
  · exact h1 a w hfa hm
  · exact h2 a w hfa hm
theorem D_three {ops : Array Oper} {fuel : Nat} {listed : Array Bool} {H₀ : Hp} (i j k : Nat) (hr : Region.ready .any ops listed = [i, j, k]) (h1 : DStep P B w0 N D ops H₀ fuel listed env H Q i) (h2 : DStep P B w0 N D ops H₀ fuel listed env H Q j) (h3 : DStep P B w0 N D ops H₀ fuel listed env H Q k) :
    Dx P B w0 N D ops (Mem B w0 H₀) (fuel + 1) listed env H Q := fun a w hfa hm _ => wpAnyH_all hr (by simp) fun m hk => by
  simp only [List.mem_cons, List.not_mem_nil, or_false] at hk
  rcases hk with rfl | rfl | rfl
  · exact h1 a w hfa hm
  · exact h2 a w hfa hm
  · exact h3 a w hfa hm
theorem R_callRe {ops : Array Oper} {rest : List Oper} {d : Nat} {fo : Operand} {as : List Operand} {ts : Array TypeId} {f : FuncId} {fn : Func} {vs first cap : List Value} (hfo : look env fo = some (.func (.func f) first.toArray cap.toArray)) (hxs : looks env as = some vs)
    (hf0 : P.funcs[f]? = some fn) (hb0 : fn.body.isNone = false) (hn0 : (fn.name == "runtime.NumGoroutine") = false) (hd : Nat.blt d N = true)
    (hc : ∀ w, Mem B w0 H w → Calls P f (first ++ vs ++ cap).toArray w fun e w' => ∃ v, e = .returned v ∧ Rx P w'.heap.size ⟨w', []⟩ N D ops rest ((d, v) :: env) [] Q) :
    Rx P B w0 N D ops (⟨some d, .call { callee := .value fo, args := as.toArray, argTypes := ts }, ty, pos, after, none⟩ :: rest) env H Q := fun a w hf hm => wpList_plain rfl fun K hK => by
  have hrun : (execOp a.eval ⟨some d, .call { callee := .value fo, args := as.toArray, argTypes := ts }, ty, pos, after, none⟩).run P w = .ok (.enter f (first ++ vs ++ cap).toArray) w := by
    have h1 : (as.toArray.map a.eval) = vs.toArray := by rw [List.map_toArray, hf.evals hxs]
    simp only [execOp, resolve, hf.eval hfo, h1, Deferred.ofValue, Sem.run_bind, Sem.run_pure, Result.andThen_ok, invoke]
    rw [runs_callFunc hf0 hb0 hn0]
    simp
  unfold Oper.wp
  rw [hrun]
  refine (hc w hm).mono ?_
  rintro e w' ⟨v, rfl, hR⟩
  exact hK _ _ (hR _ _ (hf.put hd v) (Mem.start w'))
end
end Go.K
