
/-
  The layer counts: as long as nothing fails; the statements' own example.
-/
import Derived.Test.YtfdlafjifjndeaaCnt4
namespace Go.K
open Go Go.RowKit
section
variable {P : Program} {B : Nat} {w0 : Base} {N : Nat} {D : List Deferred} {env : Env} {H : Hp} {T : Env → Hp → Prop} {ty : TypeId} {pos : String} {after : Array Edge} {g : Option (Nat × Bool)}
theorem op_callNX {σ : Type} (val : σ → Value) (HF : σ → Hp) (I : σ → Prop) {d : Nat} {fo : Operand} {xs : List Operand} {ts : Array TypeId} {f : FuncId} {fn : Func} {vs first cap : List Value} (hfo : look env fo = some (.func (.func f) first.toArray cap.toArray)) (hxs : looks env xs = some vs)
    (hf0 : P.funcs[f]? = some fn) (hb0 : fn.body.isNone = false) (hn0 : (fn.name == "runtime.NumGoroutine") = false) (hd : Nat.blt d N = true)
    (hc : ∀ w, Mem B w0 H w → Calls P f (first ++ vs ++ cap).toArray w fun e w' => ∃ s, e = .returned (val s) ∧ Mem w.heap.size ⟨w, []⟩ (HF s) w' ∧ I s) (h : ∀ s, I s → T ((d, val s) :: env) (HF s ++ H)) :
    Op1 P B w0 N D ⟨some d, .call { callee := .value fo, args := xs.toArray, argTypes := ts }, ty, pos, after, g⟩ env H T :=
  op_callN (Post := fun v H' => ∃ s, v = val s ∧ H' = HF s ∧ I s) hfo hxs hf0 hb0 hn0 hd (fun w hm => (hc w hm).mono fun _ _ ⟨s, he, hm', hI⟩ => ⟨_, _, he, hm', s, rfl, rfl, hI⟩) fun v H' ⟨s, e1, e2, hI⟩ => by
    subst e1 e2
    exact h s hI
end
theorem free_blown : blownS (-1) false = false := by decide
theorem free_left : leftS (-1) false = -1 := by decide
theorem zeroSecs (n : Nat) : Secs (List.replicate n (List.replicate 64 0)) := fun x hx => by rw [List.eq_of_mem_replicate hx]; exact List.length_replicate
end Go.K
namespace Go.Proofs.Ytfdlafjifjndeaa
open Go.RowKit Go.K
attribute [local irreducible] Exit.then Exit.inBlock Exit.noGoto bodyPost Code.wp QL Sx Rx Qx Ex Dx Op1 Pure1 Still1 K.Sub Calm Code.wpIn
set_option linter.unusedVariables false
theorem opened_zero : openedS (List.replicate 64 0) = some 0 := by unfold openedS; rw [if_pos (by decide)]
theorem opened_told : ∀ k, k < 16 → openedS (toldS (k + 1)) = some (k + 1) := by decide +kernel
attribute [local irreducible] digitsB onNat sumU Buf.hp Buf.cap Buf.addr secV toldS getP leftS blownS openedS
/-- a new disk -/
theorem dnewX (n : Nat) (hn : n ≠ 0) (hn2 : n ≤ 4096) (w : World) :
    Calls Try.prog 19 [.int .i64 (n : Int)].toArray w fun e w' => ∃ s : Nat × Nat × Nat × Nat × List Value, e = .returned (.tuple [.pointer (some ⟨s.1, 0, none⟩), .int .i64 0].toArray) ∧ Mem w.heap.size ⟨w, []⟩ ([(s.1, .cells (diskC (.slice (some ⟨s.2.1, 0, none⟩) n n) (.slice (some ⟨s.2.2.1, 0, none⟩) n s.2.2.2.1) (.slice none 0 0) (-1) false).toArray 113 (0, 0)), (s.2.1, .cells (secV (List.replicate n (List.replicate 64 0)) ++ ([] : List Value)).toArray 115 (0, 0)), (s.2.2.1, .cells (secV (List.replicate n (List.replicate 64 0)) ++ s.2.2.2.2).toArray 115 (0, 0))]) w' ∧ True :=
  (dnew_any n hn hn2 w).mono fun e w' ⟨v, H', he, hm, bd, bs, bn, cn, spn, hv, _, hH⟩ => by
    subst hv hH
    exact ⟨(bd, bs, bn, cn, spn), he, hm, trivial⟩
/-- a count opened: the sector is one's -/
theorem copenX (k : Nat) (bd bn n cs cn : Nat) (As : Option Addr) (vw : Value) (left : Int) (bl : Bool) (now : List (List UInt8)) (sp : List Value) (hS : Secs now) (hnl : now.length = n) (i : Nat) (hi : i < n) (x : List UInt8) (hx : now[i]? = some x) (ho : openedS x = some k) (w : World)
    (hb : w.heap[bd]? = some (.cells (diskC (.slice As n cs) (.slice (some ⟨bn, 0, none⟩) n cn) vw left bl).toArray 113 (0, 0))) (hbn : w.heap[bn]? = some (.cells (secV now ++ sp).toArray 115 (0, 0))) :
    Calls Try.prog 20 [.pointer (some ⟨bd, 0, none⟩), .int .i64 (i : Int)].toArray w fun e w' => ∃ bc : Nat, e = .returned (.tuple [.pointer (some ⟨bc, 0, none⟩), .int .i64 0].toArray) ∧ Mem w.heap.size ⟨w, []⟩ [(bc, .cells (cntC k bd i false).toArray 103 (0, 0))] w' ∧ True :=
  (copen_any bd bn n cs cn As vw left bl now sp hS hnl i hi x hx w hb hbn).mono fun e w' ⟨v, H', he, hm, hp⟩ => by
    rcases hp with ⟨k', bc, ho', hv, hH⟩ | ⟨h0, _⟩
    · rw [ho] at ho'
      cases ho'
      subst hv hH
      exact ⟨bc, he, hm, trivial⟩
    · rw [ho] at h0; cases h0
/-- .. or is none -/
theorem copenNone (bd bn n cs cn : Nat) (As : Option Addr) (vw : Value) (left : Int) (bl : Bool) (now : List (List UInt8)) (sp : List Value) (hS : Secs now) (hnl : now.length = n) (i : Nat) (hi : i < n) (x : List UInt8) (hx : now[i]? = some x) (ho : openedS x = none) (w : World)
    (hb : w.heap[bd]? = some (.cells (diskC (.slice As n cs) (.slice (some ⟨bn, 0, none⟩) n cn) vw left bl).toArray 113 (0, 0))) (hbn : w.heap[bn]? = some (.cells (secV now ++ sp).toArray 115 (0, 0))) :
    Calls Try.prog 20 [.pointer (some ⟨bd, 0, none⟩), .int .i64 (i : Int)].toArray w fun e w' => e = .returned (.tuple [.pointer none, .int .i64 4].toArray) ∧ Below w.heap.size w w' :=
  (copen_any bd bn n cs cn As vw left bl now sp hS hnl i hi x hx w hb hbn).mono fun e w' ⟨v, H', he, hm, hp⟩ => by
    rcases hp with ⟨k', bc, ho', hv, hH⟩ | ⟨h0, hv, hH⟩
    · rw [ho] at ho'; cases ho'
    · subst hv hH
      exact ⟨he, hm.below⟩
/-- .. or there is no such sector -/
theorem copenArg (bd n cs : Nat) (As : Option Addr) (vn vw : Value) (left : Int) (bl : Bool) (hn : n ≠ 0) (i : Nat) (hi : n ≤ i) (w : World)
    (hb : w.heap[bd]? = some (.cells (diskC (.slice As n cs) vn vw left bl).toArray 113 (0, 0))) :
    Calls Try.prog 20 [.pointer (some ⟨bd, 0, none⟩), .int .i64 (i : Int)].toArray w fun e w' => e = .returned (.tuple [.pointer none, .int .i64 1].toArray) ∧ Below w.heap.size w w' := by
  have g1 : (((n : Nat) : Int) == 0) = false := beq_eq_false_iff_ne.2 (by omega)
  have g2 : decide ((i : Int) < 0) = false := decide_eq_false (by omega)
  have g3 : decide ((n : Int) ≤ (i : Int)) = true := decide_eq_true (by omega)
  refine enter Try.func20 rfl Try.ntmps20 (by simp) ?_
  repeat (first | refine S_scope ?_ | refine S_label ?_ | refine E_noGoto_normal ?_ | refine E_noGoto_ret ?_ | refine E_noGoto_exit ?_ | refine S_yes rfl (by first | with_reducible rfl | decide) ?_ | refine S_no rfl (by first | with_reducible rfl | decide) ?_ | refine S_seq ?_ | refine E_seq ?_ | refine S_block ?_ | refine E_block_normal ?_ | refine S_skip ?_ | refine S_exit ?_ | refine S_ret ?_ | refine E_then_exit ?_ | refine E_then_ret ?_ | refine E_block_ret ?_ | refine E_block_exit ?_ | refine E_block_exit_other rfl ?_)
  refine S_region ?_
  refine R_cons rfl (op_pure (p_assign rfl) rfl ?_)
  refine R_cons rfl (op_pure (p_assign rfl) rfl ?_)
  refine R_nil ?_
  repeat (first | refine S_scope ?_ | refine S_label ?_ | refine E_noGoto_normal ?_ | refine E_noGoto_ret ?_ | refine E_noGoto_exit ?_ | refine S_yes rfl (by first | with_reducible rfl | decide) ?_ | refine S_no rfl (by first | with_reducible rfl | decide) ?_ | refine S_seq ?_ | refine E_seq ?_ | refine S_block ?_ | refine E_block_normal ?_ | refine S_skip ?_ | refine S_exit ?_ | refine S_ret ?_ | refine E_then_exit ?_ | refine E_then_ret ?_ | refine E_block_ret ?_ | refine E_block_exit ?_ | refine E_block_exit_other rfl ?_)
  refine S_region ?_
  refine R_cons rfl (op_pure (p_move rfl) rfl ?_)
  refine R_cons rfl (op_callV rfl rfl Try.func52 rfl (by kernel_rfl) rfl (Nat.le_refl _) (fun w' hm => dlen_any bd n cs As vn vw left bl hn w' (below_block hm.below hb)) ?_)
  refine R_cons rfl (op_pure (p_bin rfl rfl (b_eql g1)) rfl ?_)
  refine R_cons rfl (op_pure (p_assign rfl) rfl ?_)
  refine R_nil ?_
  repeat (first | refine S_scope ?_ | refine S_label ?_ | refine E_noGoto_normal ?_ | refine E_noGoto_ret ?_ | refine E_noGoto_exit ?_ | refine S_yes rfl (by first | with_reducible rfl | decide) ?_ | refine S_no rfl (by first | with_reducible rfl | decide) ?_ | refine S_seq ?_ | refine E_seq ?_ | refine S_block ?_ | refine E_block_normal ?_ | refine S_skip ?_ | refine S_exit ?_ | refine S_ret ?_ | refine E_then_exit ?_ | refine E_then_ret ?_ | refine E_block_ret ?_ | refine E_block_exit ?_ | refine E_block_exit_other rfl ?_)
  refine S_region ?_
  refine R_cons rfl (op_pure (p_move rfl) rfl ?_)
  refine R_cons rfl (op_pure (p_bin rfl rfl (b_lss g2)) rfl ?_)
  refine R_cons rfl (op_pure (p_move rfl) rfl ?_)
  first | refine R_pass rfl rfl rfl rfl ?_ | refine R_pass_undef rfl rfl rfl ?_ | refine R_guard rfl rfl rfl (op_pure (p_move rfl) rfl ?_)
  first | refine R_pass rfl rfl rfl rfl ?_ | refine R_pass_undef rfl rfl rfl ?_ | refine R_guard rfl rfl rfl (op_pure (p_move rfl) rfl ?_)
  first | refine R_pass rfl rfl rfl rfl ?_ | refine R_pass_undef rfl rfl rfl ?_ | refine R_guard rfl rfl rfl (op_callV rfl rfl Try.func52 rfl (by kernel_rfl) rfl (Nat.le_refl _) (fun w' hm => dlen_any bd n cs As vn vw left bl hn w' (below_block hm.below hb)) ?_)
  first | refine R_pass rfl rfl rfl rfl ?_ | refine R_pass_undef rfl rfl rfl ?_ | refine R_guard rfl rfl rfl (op_pure (p_bin rfl rfl (b_geq g3)) rfl ?_)
  refine R_cons rfl (op_pure (by first | exact p_pick_yes rfl rfl | exact p_pick_no rfl rfl | exact p_pick rfl rfl rfl) rfl ?_)
  refine R_cons rfl (op_pure (p_assign rfl) rfl ?_)
  refine R_nil ?_
  repeat (first | refine S_scope ?_ | refine S_label ?_ | refine E_noGoto_normal ?_ | refine E_noGoto_ret ?_ | refine E_noGoto_exit ?_ | refine S_yes rfl (by first | with_reducible rfl | decide) ?_ | refine S_no rfl (by first | with_reducible rfl | decide) ?_ | refine S_seq ?_ | refine E_seq ?_ | refine S_block ?_ | refine E_block_normal ?_ | refine S_skip ?_ | refine S_exit ?_ | refine S_ret ?_ | refine E_then_exit ?_ | refine E_then_ret ?_ | refine E_block_ret ?_ | refine E_block_exit ?_ | refine E_block_exit_other rfl ?_)
  refine S_region ?_
  refine R_cons rfl (op_pure (p_assign rfl) rfl ?_)
  refine R_cons rfl (op_pure (p_assign rfl) rfl ?_)
  refine R_nil ?_
  repeat (first | refine S_scope ?_ | refine S_label ?_ | refine E_noGoto_normal ?_ | refine E_noGoto_ret ?_ | refine E_noGoto_exit ?_ | refine S_yes rfl (by first | with_reducible rfl | decide) ?_ | refine S_no rfl (by first | with_reducible rfl | decide) ?_ | refine S_seq ?_ | refine E_seq ?_ | refine S_block ?_ | refine E_block_normal ?_ | refine S_skip ?_ | refine S_exit ?_ | refine S_ret ?_ | refine E_then_exit ?_ | refine E_then_ret ?_ | refine E_block_ret ?_ | refine E_block_exit ?_ | refine E_block_exit_other rfl ?_)
  exact E_ret2 rfl rfl rfl fun w' hm => ⟨rfl, hm.below⟩
/-- the next number, as long as nothing fails -/
theorem cnextX (bc used bd bs bn at_ n cs cn : Nat) (sure now : List (List UInt8)) (sps spn : List Value) (hS : Secs sure) (hN : Secs now) (hsl : sure.length = n) (hnl : now.length = n) (hn2 : n ≤ 4096) (hat : at_ < n) (hu : used < 16) (w : World)
    (hm : Mem w.heap.size ⟨w, [bc, bd, bs, bn]⟩ ((bc, .cells (cntC used bd at_ false).toArray 103 (0, 0)) :: [(bd, .cells (diskC (.slice (some ⟨bs, 0, none⟩) n cs) (.slice (some ⟨bn, 0, none⟩) n cn) (.slice none 0 0) (-1) false).toArray 113 (0, 0)), (bs, .cells (secV sure ++ sps).toArray 115 (0, 0)), (bn, .cells (secV now ++ spn).toArray 115 (0, 0))]) w) :
    Calls Try.prog 21 [.pointer (some ⟨bc, 0, none⟩)].toArray w fun e w' => ∃ s : Unit, e = .returned (.tuple [.int .u32 (used : Int), .int .i64 0].toArray) ∧ Mem w.heap.size ⟨w, [bc, bd, bs, bn]⟩ ((bc, .cells (cntC (used + 1) bd at_ false).toArray 103 (0, 0)) :: [(bd, .cells (diskC (.slice (some ⟨bs, 0, none⟩) n cs) (.slice (some ⟨bn, 0, none⟩) n cn) (.slice none 0 0) (-1) false).toArray 113 (0, 0)), (bs, .cells (secV (now.set at_ (toldS (used + 1))) ++ sps).toArray 115 (0, 0)), (bn, .cells (secV (now.set at_ (toldS (used + 1))) ++ spn).toArray 115 (0, 0))]) w' ∧ True :=
  (cnext_ok bc used bd bs bn at_ n cs cn (-1) false (by omega) (by omega) sure now sps spn hS hN hsl hnl hn2 hat hu free_blown (by rw [free_left]; exact free_blown) w hm).mono fun e w' ⟨v, H', he, hm', h1, h2⟩ => by
    rw [free_left, free_left] at h2
    subst h1 h2
    exact ⟨(), he, hm', trivial⟩

set_option maxHeartbeats 4000000 in
theorem lives22 (w : World) : Calls Try.prog 23 #[] w fun e w' => e = .returned (.bool true) ∧ Below w.heap.size w w' := by
  have hS0 := zeroSecs 2
  have hl0 : (List.replicate 2 (List.replicate 64 (0 : UInt8))).length = 2 := List.length_replicate
  have hx0 : ((List.replicate 2 (List.replicate 64 0)) : List (List UInt8))[1]? = some (List.replicate 64 0) := by rw [List.getElem?_replicate]; rfl
  have hS1 := hS0.set 1 (toldS_length 1)
  have hl1 : ((List.replicate 2 (List.replicate 64 0)).set 1 (toldS 1)).length = 2 := by rw [List.length_set, hl0]
  have hS2 := hS1.set 1 (toldS_length 2)
  have hl2 : (((List.replicate 2 (List.replicate 64 0)).set 1 (toldS 1)).set 1 (toldS 2)).length = 2 := by rw [List.length_set, hl1]
  refine enter Try.func23 rfl Try.ntmps23 (by simp) ?_
  repeat (first | refine S_scope ?_ | refine S_label ?_ | refine E_noGoto_normal ?_ | refine E_noGoto_ret ?_ | refine E_noGoto_exit ?_ | refine S_yes rfl (by first | with_reducible rfl | decide) ?_ | refine S_no rfl (by first | with_reducible rfl | decide) ?_ | refine S_seq ?_ | refine E_seq ?_ | refine S_block ?_ | refine E_block_normal ?_ | refine S_skip ?_ | refine S_exit ?_ | refine S_ret ?_ | refine E_then_exit ?_ | refine E_then_ret ?_ | refine E_block_ret ?_ | refine E_block_exit ?_ | refine E_block_exit_other rfl ?_)
  refine S_region ?_
  refine R_cons rfl (op_pure (p_assign rfl) rfl ?_)
  refine R_nil ?_
  repeat (first | refine S_scope ?_ | refine S_label ?_ | refine E_noGoto_normal ?_ | refine E_noGoto_ret ?_ | refine E_noGoto_exit ?_ | refine S_yes rfl (by first | with_reducible rfl | decide) ?_ | refine S_no rfl (by first | with_reducible rfl | decide) ?_ | refine S_seq ?_ | refine E_seq ?_ | refine S_block ?_ | refine E_block_normal ?_ | refine S_skip ?_ | refine S_exit ?_ | refine S_ret ?_ | refine E_then_exit ?_ | refine E_then_ret ?_ | refine E_block_ret ?_ | refine E_block_exit ?_ | refine E_block_exit_other rfl ?_)
  refine S_region ?_
  refine R_cons rfl (op_callNX (fun s : Nat × Nat × Nat × Nat × List Value => Value.tuple ([Value.pointer (some ⟨s.1, 0, none⟩), Value.int .i64 0] : List Value).toArray) (fun s => [(s.1, .cells (diskC (.slice (some ⟨s.2.1, 0, none⟩) 2 2) (.slice (some ⟨s.2.2.1, 0, none⟩) 2 s.2.2.2.1) (.slice none 0 0) (-1) false).toArray 113 (0, 0)), (s.2.1, .cells (secV (List.replicate 2 (List.replicate 64 0)) ++ ([] : List Value)).toArray 115 (0, 0)), (s.2.2.1, .cells (secV (List.replicate 2 (List.replicate 64 0)) ++ s.2.2.2.2).toArray 115 (0, 0))]) (fun _ => True) rfl rfl Try.func19 rfl (by kernel_rfl) rfl (fun w' _ => dnewX 2 (by omega) (by omega) w') (fun s _ => ?_))
  refine R_cons rfl (op_pure (p_move rfl) rfl ?_)
  refine R_cons rfl (op_pure (p_extract (i := 0) rfl rfl) rfl ?_)
  refine R_cons rfl (op_pure (p_extract (i := 1) rfl rfl) rfl ?_)
  refine R_cons rfl (op_pure (p_assign rfl) rfl ?_)
  refine R_cons rfl (op_pure (p_assign rfl) rfl ?_)
  refine R_nil ?_
  repeat (first | refine S_scope ?_ | refine S_label ?_ | refine E_noGoto_normal ?_ | refine E_noGoto_ret ?_ | refine E_noGoto_exit ?_ | refine S_yes rfl (by first | with_reducible rfl | decide) ?_ | refine S_no rfl (by first | with_reducible rfl | decide) ?_ | refine S_seq ?_ | refine E_seq ?_ | refine S_block ?_ | refine E_block_normal ?_ | refine S_skip ?_ | refine S_exit ?_ | refine S_ret ?_ | refine E_then_exit ?_ | refine E_then_ret ?_ | refine E_block_ret ?_ | refine E_block_exit ?_ | refine E_block_exit_other rfl ?_)
  obtain ⟨bd, bs, bn, cn, spn⟩ := s
  dsimp only
  refine S_region ?_
  refine R_cons rfl (op_pure (p_move rfl) rfl ?_)
  refine R_cons rfl (op_callNX (fun q : Nat => Value.tuple ([Value.pointer (some ⟨q, 0, none⟩), Value.int .i64 0] : List Value).toArray) (fun q => [(q, .cells (cntC 0 bd 1 false).toArray 103 (0, 0))]) (fun _ => True) rfl rfl Try.func20 rfl (by kernel_rfl) rfl (fun w' hm => copenX 0 bd bn 2 _ _ _ _ _ _ _ _ hS0 hl0 1 (by omega) _ hx0 opened_zero w' (hm.own (bd, _) (by (try simp only [List.cons_append, List.nil_append]); repeat (first | exact List.Mem.head _ | apply List.Mem.tail))).2 (hm.own (bn, _) (by (try simp only [List.cons_append, List.nil_append]); repeat (first | exact List.Mem.head _ | apply List.Mem.tail))).2) (fun bc _ => ?_))
  refine R_cons rfl (op_pure (p_move rfl) rfl ?_)
  refine R_cons rfl (op_pure (p_extract (i := 0) rfl rfl) rfl ?_)
  refine R_cons rfl (op_pure (p_extract (i := 1) rfl rfl) rfl ?_)
  refine R_cons rfl (op_pure (p_assign rfl) rfl ?_)
  refine R_cons rfl (op_pure (p_assign rfl) rfl ?_)
  refine R_nil ?_
  repeat (first | refine S_scope ?_ | refine S_label ?_ | refine E_noGoto_normal ?_ | refine E_noGoto_ret ?_ | refine E_noGoto_exit ?_ | refine S_yes rfl (by first | with_reducible rfl | decide) ?_ | refine S_no rfl (by first | with_reducible rfl | decide) ?_ | refine S_seq ?_ | refine E_seq ?_ | refine S_block ?_ | refine E_block_normal ?_ | refine S_skip ?_ | refine S_exit ?_ | refine S_ret ?_ | refine E_then_exit ?_ | refine E_then_ret ?_ | refine E_block_ret ?_ | refine E_block_exit ?_ | refine E_block_exit_other rfl ?_)
  refine S_region ?_
  refine R_cons rfl (op_pure (p_move rfl) rfl ?_)
  refine R_cons rfl (op_pure (p_bin rfl rfl (b_neq (by first | assumption | exact bne_iff_ne.2 (by omega) | exact bne_eq_false_iff_eq.2 (by omega) | rfl))) rfl ?_)
  refine R_cons rfl (op_pure (p_move rfl) rfl ?_)
  first | refine R_pass rfl rfl rfl rfl ?_ | refine R_pass_undef rfl rfl rfl ?_ | refine R_guard rfl rfl rfl (op_pure (p_move rfl) rfl ?_)
  first | refine R_pass rfl rfl rfl rfl ?_ | refine R_pass_undef rfl rfl rfl ?_ | refine R_guard rfl rfl rfl (op_pure (p_bin rfl rfl (b_neq (by first | assumption | exact bne_iff_ne.2 (by omega) | exact bne_eq_false_iff_eq.2 (by omega) | rfl))) rfl ?_)
  refine R_cons rfl (op_pure (by first | exact p_pick_yes rfl rfl | exact p_pick_no rfl rfl | exact p_pick rfl rfl rfl) rfl ?_)
  refine R_nil ?_
  repeat (first | refine S_scope ?_ | refine S_label ?_ | refine E_noGoto_normal ?_ | refine E_noGoto_ret ?_ | refine E_noGoto_exit ?_ | refine S_yes rfl (by first | with_reducible rfl | decide) ?_ | refine S_no rfl (by first | with_reducible rfl | decide) ?_ | refine S_seq ?_ | refine E_seq ?_ | refine S_block ?_ | refine E_block_normal ?_ | refine S_skip ?_ | refine S_exit ?_ | refine S_ret ?_ | refine E_then_exit ?_ | refine E_then_ret ?_ | refine E_block_ret ?_ | refine E_block_exit ?_ | refine E_block_exit_other rfl ?_)
  refine S_region ?_
  refine R_cons rfl (op_pure (p_move rfl) rfl ?_)
  refine R_cons rfl (op_callV rfl rfl Try.func22 rfl (by kernel_rfl) rfl (Nat.le_refl _) (fun w' hm => cused_any bc 0 bd 1 false w' (hm.own (bc, _) (by (try simp only [List.cons_append, List.nil_append]); repeat (first | exact List.Mem.head _ | apply List.Mem.tail))).2) ?_)
  refine R_cons rfl (op_pure (p_assign rfl) rfl ?_)
  refine R_nil ?_
  repeat (first | refine S_scope ?_ | refine S_label ?_ | refine E_noGoto_normal ?_ | refine E_noGoto_ret ?_ | refine E_noGoto_exit ?_ | refine S_yes rfl (by first | with_reducible rfl | decide) ?_ | refine S_no rfl (by first | with_reducible rfl | decide) ?_ | refine S_seq ?_ | refine E_seq ?_ | refine S_block ?_ | refine E_block_normal ?_ | refine S_skip ?_ | refine S_exit ?_ | refine S_ret ?_ | refine E_then_exit ?_ | refine E_then_ret ?_ | refine E_block_ret ?_ | refine E_block_exit ?_ | refine E_block_exit_other rfl ?_)
  refine S_region ?_
  refine R_cons rfl (op_pure (p_move rfl) rfl ?_)
  refine R_cons rfl (op_callX (fun _ : Unit => Value.tuple ([Value.int .u32 ((0 : Nat) : Int), Value.int .i64 0] : List Value).toArray) (fun _ => [(bc, .cells (cntC (0 + 1) bd 1 false).toArray 103 (0, 0)), (bd, .cells (diskC (.slice (some ⟨bs, 0, none⟩) 2 2) (.slice (some ⟨bn, 0, none⟩) 2 cn) (.slice none 0 0) (-1) false).toArray 113 (0, 0)), (bs, .cells (secV ((List.replicate 2 (List.replicate 64 0)).set 1 (toldS (0 + 1))) ++ ([] : List Value)).toArray 115 (0, 0)), (bn, .cells (secV ((List.replicate 2 (List.replicate 64 0)).set 1 (toldS (0 + 1))) ++ spn).toArray 115 (0, 0))]) (fun _ => True) (Hc := [(bc, .cells (cntC 0 bd 1 false).toArray 103 (0, 0)), (bd, .cells (diskC (.slice (some ⟨bs, 0, none⟩) 2 2) (.slice (some ⟨bn, 0, none⟩) 2 cn) (.slice none 0 0) (-1) false).toArray 113 (0, 0)), (bs, .cells (secV (List.replicate 2 (List.replicate 64 0)) ++ ([] : List Value)).toArray 115 (0, 0)), (bn, .cells (secV (List.replicate 2 (List.replicate 64 0)) ++ spn).toArray 115 (0, 0))]) (K := []) rfl rfl Try.func21 rfl (by kernel_rfl) rfl (by simp only [List.cons_append, List.nil_append, List.append_nil]; (repeat (first | exact List.Perm.refl _ | refine List.Perm.cons _ ?_ | refine (perm_pick (by repeat (first | exact Del.here | apply Del.there))).trans (List.Perm.cons _ ?_)))) (fun w' hm => cnextX bc 0 bd bs bn 1 2 2 cn (List.replicate 2 (List.replicate 64 0)) (List.replicate 2 (List.replicate 64 0)) ([] : List Value) spn hS0 hS0 hl0 hl0 (by omega) (by omega) (by omega) w' hm) (fun _ _ => ?_))
  refine R_cons rfl (op_pure (p_move rfl) rfl ?_)
  refine R_cons rfl (op_pure (p_extract (i := 0) rfl rfl) rfl ?_)
  refine R_cons rfl (op_pure (p_extract (i := 1) rfl rfl) rfl ?_)
  refine R_cons rfl (op_pure (p_assign rfl) rfl ?_)
  refine R_cons rfl (op_pure (p_assign rfl) rfl ?_)
  refine R_nil ?_
  repeat (first | refine S_scope ?_ | refine S_label ?_ | refine E_noGoto_normal ?_ | refine E_noGoto_ret ?_ | refine E_noGoto_exit ?_ | refine S_yes rfl (by first | with_reducible rfl | decide) ?_ | refine S_no rfl (by first | with_reducible rfl | decide) ?_ | refine S_seq ?_ | refine E_seq ?_ | refine S_block ?_ | refine E_block_normal ?_ | refine S_skip ?_ | refine S_exit ?_ | refine S_ret ?_ | refine E_then_exit ?_ | refine E_then_ret ?_ | refine E_block_ret ?_ | refine E_block_exit ?_ | refine E_block_exit_other rfl ?_)
  refine S_region ?_
  refine R_cons rfl (op_pure (p_move rfl) rfl ?_)
  refine R_cons rfl (op_callX (fun _ : Unit => Value.tuple ([Value.int .u32 ((1 : Nat) : Int), Value.int .i64 0] : List Value).toArray) (fun _ => [(bc, .cells (cntC (1 + 1) bd 1 false).toArray 103 (0, 0)), (bd, .cells (diskC (.slice (some ⟨bs, 0, none⟩) 2 2) (.slice (some ⟨bn, 0, none⟩) 2 cn) (.slice none 0 0) (-1) false).toArray 113 (0, 0)), (bs, .cells (secV (((List.replicate 2 (List.replicate 64 0)).set 1 (toldS (0 + 1))).set 1 (toldS (1 + 1))) ++ ([] : List Value)).toArray 115 (0, 0)), (bn, .cells (secV (((List.replicate 2 (List.replicate 64 0)).set 1 (toldS (0 + 1))).set 1 (toldS (1 + 1))) ++ spn).toArray 115 (0, 0))]) (fun _ => True) (Hc := [(bc, .cells (cntC 1 bd 1 false).toArray 103 (0, 0)), (bd, .cells (diskC (.slice (some ⟨bs, 0, none⟩) 2 2) (.slice (some ⟨bn, 0, none⟩) 2 cn) (.slice none 0 0) (-1) false).toArray 113 (0, 0)), (bs, .cells (secV ((List.replicate 2 (List.replicate 64 0)).set 1 (toldS (0 + 1))) ++ ([] : List Value)).toArray 115 (0, 0)), (bn, .cells (secV ((List.replicate 2 (List.replicate 64 0)).set 1 (toldS (0 + 1))) ++ spn).toArray 115 (0, 0))]) (K := []) rfl rfl Try.func21 rfl (by kernel_rfl) rfl (by simp only [List.cons_append, List.nil_append, List.append_nil]; (repeat (first | exact List.Perm.refl _ | refine List.Perm.cons _ ?_ | refine (perm_pick (by repeat (first | exact Del.here | apply Del.there))).trans (List.Perm.cons _ ?_)))) (fun w' hm => cnextX bc 1 bd bs bn 1 2 2 cn ((List.replicate 2 (List.replicate 64 0)).set 1 (toldS (0 + 1))) ((List.replicate 2 (List.replicate 64 0)).set 1 (toldS (0 + 1))) ([] : List Value) spn hS1 hS1 hl1 hl1 (by omega) (by omega) (by omega) w' hm) (fun _ _ => ?_))
  refine R_cons rfl (op_pure (p_move rfl) rfl ?_)
  refine R_cons rfl (op_pure (p_extract (i := 0) rfl rfl) rfl ?_)
  refine R_cons rfl (op_pure (p_extract (i := 1) rfl rfl) rfl ?_)
  refine R_cons rfl (op_pure (p_assign rfl) rfl ?_)
  refine R_cons rfl (op_pure (p_assign rfl) rfl ?_)
  refine R_nil ?_
  repeat (first | refine S_scope ?_ | refine S_label ?_ | refine E_noGoto_normal ?_ | refine E_noGoto_ret ?_ | refine E_noGoto_exit ?_ | refine S_yes rfl (by first | with_reducible rfl | decide) ?_ | refine S_no rfl (by first | with_reducible rfl | decide) ?_ | refine S_seq ?_ | refine E_seq ?_ | refine S_block ?_ | refine E_block_normal ?_ | refine S_skip ?_ | refine S_exit ?_ | refine S_ret ?_ | refine E_then_exit ?_ | refine E_then_ret ?_ | refine E_block_ret ?_ | refine E_block_exit ?_ | refine E_block_exit_other rfl ?_)
  refine S_region ?_
  refine R_cons rfl (op_pure (p_move rfl) rfl ?_)
  refine R_cons rfl (op_callV rfl rfl Try.func20 rfl (by kernel_rfl) rfl (Nat.le_refl _) (fun w' hm => copenArg bd 2 2 _ _ _ _ _ (by omega) 2 (by omega) w' (hm.own (bd, _) (by (try simp only [List.cons_append, List.nil_append]); repeat (first | exact List.Mem.head _ | apply List.Mem.tail))).2) ?_)
  refine R_cons rfl (op_pure (p_move rfl) rfl ?_)
  refine R_cons rfl (op_pure (p_extract (i := 0) rfl rfl) rfl ?_)
  refine R_cons rfl (op_pure (p_extract (i := 1) rfl rfl) rfl ?_)
  refine R_cons rfl (op_pure (p_assign rfl) rfl ?_)
  refine R_cons rfl (op_pure (p_assign rfl) rfl ?_)
  refine R_nil ?_
  repeat (first | refine S_scope ?_ | refine S_label ?_ | refine E_noGoto_normal ?_ | refine E_noGoto_ret ?_ | refine E_noGoto_exit ?_ | refine S_yes rfl (by first | with_reducible rfl | decide) ?_ | refine S_no rfl (by first | with_reducible rfl | decide) ?_ | refine S_seq ?_ | refine E_seq ?_ | refine S_block ?_ | refine E_block_normal ?_ | refine S_skip ?_ | refine S_exit ?_ | refine S_ret ?_ | refine E_then_exit ?_ | refine E_then_ret ?_ | refine E_block_ret ?_ | refine E_block_exit ?_ | refine E_block_exit_other rfl ?_)
  refine S_region ?_
  refine R_cons rfl (op_pure (p_assign rfl) rfl ?_)
  refine R_nil ?_
  repeat (first | refine S_scope ?_ | refine S_label ?_ | refine E_noGoto_normal ?_ | refine E_noGoto_ret ?_ | refine E_noGoto_exit ?_ | refine S_yes rfl (by first | with_reducible rfl | decide) ?_ | refine S_no rfl (by first | with_reducible rfl | decide) ?_ | refine S_seq ?_ | refine E_seq ?_ | refine S_block ?_ | refine E_block_normal ?_ | refine S_skip ?_ | refine S_exit ?_ | refine S_ret ?_ | refine E_then_exit ?_ | refine E_then_ret ?_ | refine E_block_ret ?_ | refine E_block_exit ?_ | refine E_block_exit_other rfl ?_)
  refine S_region ?_
  refine R_cons rfl (op_pure (p_move rfl) rfl ?_)
  refine R_cons rfl (op_callV rfl rfl Try.func21 rfl (by kernel_rfl) rfl (Nat.le_refl _) (fun w' hm => cnext_nil w') ?_)
  refine R_cons rfl (op_pure (p_move rfl) rfl ?_)
  refine R_cons rfl (op_pure (p_extract (i := 0) rfl rfl) rfl ?_)
  refine R_cons rfl (op_pure (p_extract (i := 1) rfl rfl) rfl ?_)
  refine R_cons rfl (op_pure (p_assign rfl) rfl ?_)
  refine R_cons rfl (op_pure (p_assign rfl) rfl ?_)
  refine R_nil ?_
  repeat (first | refine S_scope ?_ | refine S_label ?_ | refine E_noGoto_normal ?_ | refine E_noGoto_ret ?_ | refine E_noGoto_exit ?_ | refine S_yes rfl (by first | with_reducible rfl | decide) ?_ | refine S_no rfl (by first | with_reducible rfl | decide) ?_ | refine S_seq ?_ | refine E_seq ?_ | refine S_block ?_ | refine E_block_normal ?_ | refine S_skip ?_ | refine S_exit ?_ | refine S_ret ?_ | refine E_then_exit ?_ | refine E_then_ret ?_ | refine E_block_ret ?_ | refine E_block_exit ?_ | refine E_block_exit_other rfl ?_)
  refine S_region ?_
  refine R_cons rfl (op_pure (p_move rfl) rfl ?_)
  refine R_cons rfl (op_pure (p_bin rfl rfl (b_eql (by first | assumption | exact beq_iff_eq.2 (by omega) | exact beq_eq_false_iff_ne.2 (by omega) | rfl))) rfl ?_)
  refine R_cons rfl (op_pure (p_move rfl) rfl ?_)
  first | refine R_pass rfl rfl rfl rfl ?_ | refine R_pass_undef rfl rfl rfl ?_ | refine R_guard rfl rfl rfl (op_pure (p_move rfl) rfl ?_)
  first | refine R_pass rfl rfl rfl rfl ?_ | refine R_pass_undef rfl rfl rfl ?_ | refine R_guard rfl rfl rfl (op_pure (p_bin rfl rfl (b_eql (by first | assumption | exact beq_iff_eq.2 (by omega) | exact beq_eq_false_iff_ne.2 (by omega) | rfl))) rfl ?_)
  refine R_cons rfl (op_pure (by first | exact p_pick_yes rfl rfl | exact p_pick_no rfl rfl | exact p_pick rfl rfl rfl) rfl ?_)
  refine R_cons rfl (op_pure (p_move rfl) rfl ?_)
  first | refine R_pass rfl rfl rfl rfl ?_ | refine R_pass_undef rfl rfl rfl ?_ | refine R_guard rfl rfl rfl (op_pure (p_move rfl) rfl ?_)
  first | refine R_pass rfl rfl rfl rfl ?_ | refine R_pass_undef rfl rfl rfl ?_ | refine R_guard rfl rfl rfl (op_pure (p_bin rfl rfl (b_eql (by first | assumption | exact beq_iff_eq.2 (by omega) | exact beq_eq_false_iff_ne.2 (by omega) | rfl))) rfl ?_)
  refine R_cons rfl (op_pure (by first | exact p_pick_yes rfl rfl | exact p_pick_no rfl rfl | exact p_pick rfl rfl rfl) rfl ?_)
  refine R_cons rfl (op_pure (p_move rfl) rfl ?_)
  first | refine R_pass rfl rfl rfl rfl ?_ | refine R_pass_undef rfl rfl rfl ?_ | refine R_guard rfl rfl rfl (op_pure (p_move rfl) rfl ?_)
  first | refine R_pass rfl rfl rfl rfl ?_ | refine R_pass_undef rfl rfl rfl ?_ | refine R_guard rfl rfl rfl (op_pure (p_bin rfl rfl (b_eql (by first | assumption | exact beq_iff_eq.2 (by omega) | exact beq_eq_false_iff_ne.2 (by omega) | rfl))) rfl ?_)
  refine R_cons rfl (op_pure (by first | exact p_pick_yes rfl rfl | exact p_pick_no rfl rfl | exact p_pick rfl rfl rfl) rfl ?_)
  refine R_cons rfl (op_pure (p_move rfl) rfl ?_)
  first | refine R_pass rfl rfl rfl rfl ?_ | refine R_pass_undef rfl rfl rfl ?_ | refine R_guard rfl rfl rfl (op_pure (p_move rfl) rfl ?_)
  first | refine R_pass rfl rfl rfl rfl ?_ | refine R_pass_undef rfl rfl rfl ?_ | refine R_guard rfl rfl rfl (op_pure (p_bin rfl rfl (b_eql (by first | assumption | exact beq_iff_eq.2 (by omega) | exact beq_eq_false_iff_ne.2 (by omega) | rfl))) rfl ?_)
  refine R_cons rfl (op_pure (by first | exact p_pick_yes rfl rfl | exact p_pick_no rfl rfl | exact p_pick rfl rfl rfl) rfl ?_)
  refine R_cons rfl (op_pure (p_move rfl) rfl ?_)
  first | refine R_pass rfl rfl rfl rfl ?_ | refine R_pass_undef rfl rfl rfl ?_ | refine R_guard rfl rfl rfl (op_pure (p_move rfl) rfl ?_)
  first | refine R_pass rfl rfl rfl rfl ?_ | refine R_pass_undef rfl rfl rfl ?_ | refine R_guard rfl rfl rfl (op_callV rfl rfl Try.func22 rfl (by kernel_rfl) rfl (Nat.le_refl _) (fun w' hm => cused_any bc 2 bd 1 false w' (hm.own (bc, _) (by (try simp only [List.cons_append, List.nil_append]); repeat (first | exact List.Mem.head _ | apply List.Mem.tail))).2) ?_)
  first | refine R_pass rfl rfl rfl rfl ?_ | refine R_pass_undef rfl rfl rfl ?_ | refine R_guard rfl rfl rfl (op_pure (p_bin rfl rfl (b_eql (by first | assumption | exact beq_iff_eq.2 (by omega) | exact beq_eq_false_iff_ne.2 (by omega) | rfl))) rfl ?_)
  refine R_cons rfl (op_pure (by first | exact p_pick_yes rfl rfl | exact p_pick_no rfl rfl | exact p_pick rfl rfl rfl) rfl ?_)
  refine R_cons rfl (op_pure (p_move rfl) rfl ?_)
  first | refine R_pass rfl rfl rfl rfl ?_ | refine R_pass_undef rfl rfl rfl ?_ | refine R_guard rfl rfl rfl (op_pure (p_move rfl) rfl ?_)
  first | refine R_pass rfl rfl rfl rfl ?_ | refine R_pass_undef rfl rfl rfl ?_ | refine R_guard rfl rfl rfl (op_pure (p_bin rfl rfl (b_eql (by first | assumption | exact beq_iff_eq.2 (by omega) | exact beq_eq_false_iff_ne.2 (by omega) | rfl))) rfl ?_)
  refine R_cons rfl (op_pure (by first | exact p_pick_yes rfl rfl | exact p_pick_no rfl rfl | exact p_pick rfl rfl rfl) rfl ?_)
  refine R_cons rfl (op_pure (p_move rfl) rfl ?_)
  first | refine R_pass rfl rfl rfl rfl ?_ | refine R_pass_undef rfl rfl rfl ?_ | refine R_guard rfl rfl rfl (op_pure (p_move rfl) rfl ?_)
  first | refine R_pass rfl rfl rfl rfl ?_ | refine R_pass_undef rfl rfl rfl ?_ | refine R_guard rfl rfl rfl (op_pure (p_bin rfl rfl (b_eql (by first | assumption | exact beq_iff_eq.2 (by omega) | exact beq_eq_false_iff_ne.2 (by omega) | rfl))) rfl ?_)
  refine R_cons rfl (op_pure (by first | exact p_pick_yes rfl rfl | exact p_pick_no rfl rfl | exact p_pick rfl rfl rfl) rfl ?_)
  refine R_cons rfl (op_pure (p_move rfl) rfl ?_)
  first | refine R_pass rfl rfl rfl rfl ?_ | refine R_pass_undef rfl rfl rfl ?_ | refine R_guard rfl rfl rfl (op_pure (p_move rfl) rfl ?_)
  first | refine R_pass rfl rfl rfl rfl ?_ | refine R_pass_undef rfl rfl rfl ?_ | refine R_guard rfl rfl rfl (op_callV rfl rfl Try.func22 rfl (by kernel_rfl) rfl (Nat.le_refl _) (fun w' hm => cused_nil w') ?_)
  first | refine R_pass rfl rfl rfl rfl ?_ | refine R_pass_undef rfl rfl rfl ?_ | refine R_guard rfl rfl rfl (op_pure (p_bin rfl rfl (b_eql (by first | assumption | exact beq_iff_eq.2 (by omega) | exact beq_eq_false_iff_ne.2 (by omega) | rfl))) rfl ?_)
  refine R_cons rfl (op_pure (by first | exact p_pick_yes rfl rfl | exact p_pick_no rfl rfl | exact p_pick rfl rfl rfl) rfl ?_)
  refine R_cons rfl (op_pure (p_assign rfl) rfl ?_)
  refine R_nil ?_
  repeat (first | refine S_scope ?_ | refine S_label ?_ | refine E_noGoto_normal ?_ | refine E_noGoto_ret ?_ | refine E_noGoto_exit ?_ | refine S_yes rfl (by first | with_reducible rfl | decide) ?_ | refine S_no rfl (by first | with_reducible rfl | decide) ?_ | refine S_seq ?_ | refine E_seq ?_ | refine S_block ?_ | refine E_block_normal ?_ | refine S_skip ?_ | refine S_exit ?_ | refine S_ret ?_ | refine E_then_exit ?_ | refine E_then_ret ?_ | refine E_block_ret ?_ | refine E_block_exit ?_ | refine E_block_exit_other rfl ?_)
  exact E_ret1 rfl rfl fun w' hm => ⟨rfl, hm.below⟩
end Go.Proofs.Ytfdlafjifjndeaa
