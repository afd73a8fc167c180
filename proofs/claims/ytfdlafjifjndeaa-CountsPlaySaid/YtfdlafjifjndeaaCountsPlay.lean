/-
  Proved: whatever is asked, fails, and is turned, what a count tells, and what it leaves, is the chapter's answer. No condition.
-/
import Derived.Test.YtfdlafjifjndeaaCountsPlayP6
import Derived.Test.YtfdlafjifjndeaaRows
namespace Go.Proofs.Ytfdlafjifjndeaa.countsPlay
open Go.ChangeShapes Go.WideShapes Go.ChangeAt
section
open Go Go.RowKit Go.K
variable {P : Program} {B : Nat} {w0 : Base} {N : Nat} {Df : List Deferred} {env : Env} {H : Hp}
theorem S_drop {c : Code} {Q : Exit → Act → World → Prop} {H' : Hp} (hh : Fewer H' H) (h : Sx P B w0 N Df c env H' Q) : Sx P B w0 N Df c env H Q := fun a w hf hm => h a w hf (hm.fewer hh)
end
open Go.RowKit Go.K
attribute [local irreducible] Exit.then Exit.inBlock Exit.noGoto bodyPost Code.wp QL Sx Rx Qx Ex Dx Op1 Pure1 Still1 K.Sub Calm Code.wpIn
set_option linter.unusedVariables false
theorem row_almonerlaw22_Act : Row Try.prog 75 6 := ⟨_, Try.underlying75, rfl, by kernel_rfl⟩
theorem zero_almonerlaw22_Act : Zr Try.prog 75 (([Value.int .u8 0] ++ ([Value.int .i64 0] ++ ([Value.slice none 0 0] ++ ([Value.int .i64 0] ++ ([Value.int .u8 0] ++ ([Value.slice none 0 0]))))))) := by unfold Zr; kernel_rfl
theorem fd_almonerlaw22_Act_0 : FldAt Try.prog 75 0 0 := ⟨_, _, 0, Try.underlying75, rfl, rfl, by kernel_rfl⟩
theorem fd_almonerlaw22_Act_1 : FldAt Try.prog 75 1 1 := ⟨_, _, 0, Try.underlying75, rfl, rfl, by kernel_rfl⟩
theorem fd_almonerlaw22_Act_2 : FldAt Try.prog 75 2 2 := ⟨_, _, 0, Try.underlying75, rfl, rfl, by kernel_rfl⟩
theorem fd_almonerlaw22_Act_3 : FldAt Try.prog 75 3 3 := ⟨_, _, 0, Try.underlying75, rfl, rfl, by kernel_rfl⟩
theorem fd_almonerlaw22_Act_4 : FldAt Try.prog 75 4 4 := ⟨_, _, 0, Try.underlying75, rfl, rfl, by kernel_rfl⟩
theorem fd_almonerlaw22_Act_5 : FldAt Try.prog 75 5 5 := ⟨_, _, 0, Try.underlying75, rfl, rfl, by kernel_rfl⟩
theorem slr_almonerlaw22_Act : SlR Try.prog 67 75 6 := ⟨Try.underlying67, row_almonerlaw22_Act⟩
theorem ptr_counts_Count : Try.prog.underlying 48 = some (.pointer (Try.prog.pointee 48)) := by kernel_rfl
theorem ptr_almonerref22_Count : Try.prog.underlying 71 = some (.pointer (Try.prog.pointee 71)) := by kernel_rfl
theorem sc_bools : Sc Try.prog 60 := ⟨_, Try.underlying60, rfl, by kernel_rfl⟩
structure PlayS where
  i : Nat
  s : DS
  p : PS
  q : QS
  D : Hp
  c : CC
theorem start (s : Nat × Nat × Nat × Nat × List Value) (t : Nat × (Nat × Nat × List Value) × Nat × Nat × Nat) :
    ∃ (d : DS) (p : PS) (q : QS) (D : Hp), p.bd = s.1 ∧ q.br = t.1 ∧ Rel 0 d q ∧ wbOk p.wb d.ws ∧ q.dat D ∧
      (refH ⟨t.1, t.2.1.1, t.2.1.2.1, t.2.1.2.2, none, [⟨t.2.2.1, 64, [], List.replicate 64 0⟩, ⟨t.2.2.2.1, 64, [], List.replicate 64 0⟩, ⟨t.2.2.2.2, 64, [], List.replicate 64 0⟩], []⟩ (-1) false ++ [RS.ob ⟨t.2.2.1, 64, [], List.replicate 64 0⟩, RS.ob ⟨t.2.2.2.1, 64, [], List.replicate 64 0⟩, RS.ob ⟨t.2.2.2.2, 64, [], List.replicate 64 0⟩]) ++
        ([(s.1, .cells (diskC (.slice (some ⟨s.2.1, 0, none⟩) 3 3) (.slice (some ⟨s.2.2.1, 0, none⟩) 3 s.2.2.2.1) (.slice none 0 0) (-1) false).toArray 113 (0, 0)), (s.2.1, .cells (secV (List.replicate 3 (List.replicate 64 0)) ++ ([] : List Value)).toArray 115 (0, 0)), (s.2.2.1, .cells (secV (List.replicate 3 (List.replicate 64 0)) ++ s.2.2.2.2).toArray 115 (0, 0))] ++ []) = (refH q (lowL d.left) d.bl ++ D) ++ progH p d := by
  refine ⟨⟨List.replicate 3 (List.replicate 64 0), [], -1, false⟩, ⟨s.1, s.2.1, 3, s.2.2.1, s.2.2.2.1, [], s.2.2.2.2, none⟩, ⟨t.1, t.2.1.1, t.2.1.2.1, t.2.1.2.2, none, [⟨t.2.2.1, 64, [], List.replicate 64 0⟩, ⟨t.2.2.2.1, 64, [], List.replicate 64 0⟩, ⟨t.2.2.2.2, 64, [], List.replicate 64 0⟩], []⟩, [RS.ob ⟨t.2.2.1, 64, [], List.replicate 64 0⟩, RS.ob ⟨t.2.2.2.1, 64, [], List.replicate 64 0⟩, RS.ob ⟨t.2.2.2.2, 64, [], List.replicate 64 0⟩], rfl, rfl, ⟨⟨List.length_replicate, zeroSecs 3, (fun v hv => by cases hv), ⟨by show (-9223372036854775808 : Int) ≤ -1; omega, by show (-1 : Int) ≤ 9223372036854775807; omega⟩, Nat.le_refl 0⟩, rfl, rfl, rfl⟩, rfl, ⟨fun r hr => ?_, (fun v hv => by cases hv)⟩, ?_⟩
  · have h64 : (List.replicate 64 (0 : UInt8)).length = 64 := List.length_replicate
    simp only [List.mem_cons, List.not_mem_nil, or_false] at hr
    rcases hr with rfl | rfl | rfl
    · exact ⟨List.mem_cons_self .., h64⟩
    · exact ⟨List.mem_cons_of_mem _ (List.mem_cons_self ..), h64⟩
    · exact ⟨List.mem_cons_of_mem _ (List.mem_cons_of_mem _ (List.mem_cons_self ..)), h64⟩
  · have e1 : lowL (-1) = -1 := by unfold lowL; rfl
    dsimp only
    rw [e1]
    unfold progH
    rw [nowOf_nil]
    rfl
theorem rel_fuse {m : Nat} {s : DS} {q : QS} (h : Rel m s q) (n : Int) (hn : -9223372036854775808 ≤ n ∧ n ≤ 9223372036854775807) : Rel (m + 1) ⟨s.sure, s.ws, n, false⟩ q :=
  ⟨⟨h.ok.1, h.ok.2.1, h.ok.2.2.1, hn, Nat.le_succ_of_le h.ok.2.2.2.2⟩, h.lok, h.sure, h.wss⟩
attribute [local irreducible] digitsB onNat sumU Buf.hp Buf.cap Buf.addr leftS blownS rwV nowOf lastR suV syncQ keptJ keptOf toldS getP openedS lowL secV wsV opn refH progH DS.write failS turnS nextS DS.ok
set_option maxHeartbeats 4000000 in
theorem walk (w : World) (at_ : Int) (hlo : -9223372036854775808 ≤ at_) (hhi : at_ ≤ 9223372036854775807) (A : Option Addr) (c : Nat) (l : List Deed) (hrd : Reads w A (l.length * 6) (l.flatMap Deed.val)) (hok : ∀ s ∈ l, s.ok w) (hnc : l.length ≤ c) (hcm : c ≤ maxLen) :
    Calls Try.prog 11 [.int .i64 at_, .slice A l.length c].toArray w fun e w' => e = .returned (.bool true) ∧ Below w.heap.size w w' := by
  refine enter Try.func11 rfl Try.ntmps11 (by simp) ?_
  by_cases hlong : 200 < l.length
  · have g1 : decide ((200 : Int) < (l.length : Int)) = true := decide_eq_true (by omega)
    repeat (first | refine S_scope ?_ | refine S_label ?_ | refine E_noGoto_normal ?_ | refine E_noGoto_ret ?_ | refine E_noGoto_exit ?_ | refine S_yes rfl (by first | with_reducible rfl | decide) ?_ | refine S_no rfl (by first | with_reducible rfl | decide) ?_ | refine S_seq ?_ | refine E_seq ?_ | refine S_block ?_ | refine E_block_normal ?_ | refine S_skip ?_ | refine S_exit ?_ | refine S_ret ?_ | refine E_then_exit ?_ | refine E_then_ret ?_ | refine E_block_ret ?_ | refine E_block_exit ?_ | refine E_block_exit_other rfl ?_)
    refine S_region ?_
    refine R_cons rfl (op_pure (p_assign rfl) rfl ?_)
    refine R_nil ?_
    repeat (first | refine S_scope ?_ | refine S_label ?_ | refine E_noGoto_normal ?_ | refine E_noGoto_ret ?_ | refine E_noGoto_exit ?_ | refine S_yes rfl (by first | with_reducible rfl | decide) ?_ | refine S_no rfl (by first | with_reducible rfl | decide) ?_ | refine S_seq ?_ | refine E_seq ?_ | refine S_block ?_ | refine E_block_normal ?_ | refine S_skip ?_ | refine S_exit ?_ | refine S_ret ?_ | refine E_then_exit ?_ | refine E_then_ret ?_ | refine E_block_ret ?_ | refine E_block_exit ?_ | refine E_block_exit_other rfl ?_)
    refine S_region ?_
    refine R_cons rfl (op_pure (p_move rfl) rfl ?_)
    refine R_cons rfl (op_pure (p_lenR rfl slr_almonerlaw22_Act) rfl ?_)
    refine R_cons rfl (op_pure (p_bin rfl rfl (b_gtr g1)) rfl ?_)
    refine R_nil ?_
    repeat (first | refine S_scope ?_ | refine S_label ?_ | refine E_noGoto_normal ?_ | refine E_noGoto_ret ?_ | refine E_noGoto_exit ?_ | refine S_yes rfl (by first | with_reducible rfl | decide) ?_ | refine S_no rfl (by first | with_reducible rfl | decide) ?_ | refine S_seq ?_ | refine E_seq ?_ | refine S_block ?_ | refine E_block_normal ?_ | refine S_skip ?_ | refine S_exit ?_ | refine S_ret ?_ | refine E_then_exit ?_ | refine E_then_ret ?_ | refine E_block_ret ?_ | refine E_block_exit ?_ | refine E_block_exit_other rfl ?_)
    refine S_region ?_
    refine R_cons rfl (op_callV rfl rfl Try.func23 rfl (by kernel_rfl) rfl (Nat.le_refl _) (fun w' _ => lives22 w') ?_)
    refine R_cons rfl (op_pure (p_assign rfl) rfl ?_)
    refine R_nil ?_
    repeat (first | refine S_scope ?_ | refine S_label ?_ | refine E_noGoto_normal ?_ | refine E_noGoto_ret ?_ | refine E_noGoto_exit ?_ | refine S_yes rfl (by first | with_reducible rfl | decide) ?_ | refine S_no rfl (by first | with_reducible rfl | decide) ?_ | refine S_seq ?_ | refine E_seq ?_ | refine S_block ?_ | refine E_block_normal ?_ | refine S_skip ?_ | refine S_exit ?_ | refine S_ret ?_ | refine E_then_exit ?_ | refine E_then_ret ?_ | refine E_block_ret ?_ | refine E_block_exit ?_ | refine E_block_exit_other rfl ?_)
    exact E_ret1 rfl rfl fun w' hm => ⟨rfl, hm.below⟩
  have g1 : decide ((200 : Int) < (l.length : Int)) = false := decide_eq_false (by omega)
  repeat (first | refine S_scope ?_ | refine S_label ?_ | refine E_noGoto_normal ?_ | refine E_noGoto_ret ?_ | refine E_noGoto_exit ?_ | refine S_yes rfl (by first | with_reducible rfl | decide) ?_ | refine S_no rfl (by first | with_reducible rfl | decide) ?_ | refine S_seq ?_ | refine E_seq ?_ | refine S_block ?_ | refine E_block_normal ?_ | refine S_skip ?_ | refine S_exit ?_ | refine S_ret ?_ | refine E_then_exit ?_ | refine E_then_ret ?_ | refine E_block_ret ?_ | refine E_block_exit ?_ | refine E_block_exit_other rfl ?_)
  refine S_region ?_
  refine R_cons rfl (op_pure (p_assign rfl) rfl ?_)
  refine R_nil ?_
  repeat (first | refine S_scope ?_ | refine S_label ?_ | refine E_noGoto_normal ?_ | refine E_noGoto_ret ?_ | refine E_noGoto_exit ?_ | refine S_yes rfl (by first | with_reducible rfl | decide) ?_ | refine S_no rfl (by first | with_reducible rfl | decide) ?_ | refine S_seq ?_ | refine E_seq ?_ | refine S_block ?_ | refine E_block_normal ?_ | refine S_skip ?_ | refine S_exit ?_ | refine S_ret ?_ | refine E_then_exit ?_ | refine E_then_ret ?_ | refine E_block_ret ?_ | refine E_block_exit ?_ | refine E_block_exit_other rfl ?_)
  refine S_region ?_
  refine R_cons rfl (op_pure (p_move rfl) rfl ?_)
  refine R_cons rfl (op_pure (p_lenR rfl slr_almonerlaw22_Act) rfl ?_)
  refine R_cons rfl (op_pure (p_bin rfl rfl (b_gtr g1)) rfl ?_)
  refine R_nil ?_
  repeat (first | refine S_scope ?_ | refine S_label ?_ | refine E_noGoto_normal ?_ | refine E_noGoto_ret ?_ | refine E_noGoto_exit ?_ | refine S_yes rfl (by first | with_reducible rfl | decide) ?_ | refine S_no rfl (by first | with_reducible rfl | decide) ?_ | refine S_seq ?_ | refine E_seq ?_ | refine S_block ?_ | refine E_block_normal ?_ | refine S_skip ?_ | refine S_exit ?_ | refine S_ret ?_ | refine E_then_exit ?_ | refine E_then_ret ?_ | refine E_block_ret ?_ | refine E_block_exit ?_ | refine E_block_exit_other rfl ?_)
  refine S_region ?_
  refine R_cons rfl (op_callNX (fun s : Nat × Nat × Nat × Nat × List Value => Value.tuple ([Value.pointer (some ⟨s.1, 0, none⟩), Value.int .i64 0] : List Value).toArray) (fun s => [(s.1, .cells (diskC (.slice (some ⟨s.2.1, 0, none⟩) 3 3) (.slice (some ⟨s.2.2.1, 0, none⟩) 3 s.2.2.2.1) (.slice none 0 0) (-1) false).toArray 113 (0, 0)), (s.2.1, .cells (secV (List.replicate 3 (List.replicate 64 0)) ++ ([] : List Value)).toArray 115 (0, 0)), (s.2.2.1, .cells (secV (List.replicate 3 (List.replicate 64 0)) ++ s.2.2.2.2).toArray 115 (0, 0))]) (fun _ => True) rfl rfl Try.func19 rfl (by kernel_rfl) rfl (fun w' _ => dnewX 3 (by omega) (by omega) w') (fun s _ => ?_))
  refine R_cons rfl (op_pure (p_move rfl) rfl ?_)
  refine R_cons rfl (op_pure (p_extract (i := 0) rfl rfl) rfl ?_)
  refine R_cons rfl (op_pure (p_extract (i := 1) rfl rfl) rfl ?_)
  refine R_cons rfl (op_pure (p_assign rfl) rfl ?_)
  refine R_cons rfl (op_pure (p_assign rfl) rfl ?_)
  refine R_nil ?_
  repeat (first | refine S_scope ?_ | refine S_label ?_ | refine E_noGoto_normal ?_ | refine E_noGoto_ret ?_ | refine E_noGoto_exit ?_ | refine S_yes rfl (by first | with_reducible rfl | decide) ?_ | refine S_no rfl (by first | with_reducible rfl | decide) ?_ | refine S_seq ?_ | refine E_seq ?_ | refine S_block ?_ | refine E_block_normal ?_ | refine S_skip ?_ | refine S_exit ?_ | refine S_ret ?_ | refine E_then_exit ?_ | refine E_then_ret ?_ | refine E_block_ret ?_ | refine E_block_exit ?_ | refine E_block_exit_other rfl ?_)
  refine S_region ?_
  refine R_cons rfl (op_callNX (fun s : Nat × (Nat × Nat × List Value) × Nat × Nat × Nat => Value.tuple ([Value.pointer (some ⟨s.1, 0, none⟩), Value.int .i64 0] : List Value).toArray) (fun s => refH ⟨s.1, s.2.1.1, s.2.1.2.1, s.2.1.2.2, none, [⟨s.2.2.1, 64, [], List.replicate 64 0⟩, ⟨s.2.2.2.1, 64, [], List.replicate 64 0⟩, ⟨s.2.2.2.2, 64, [], List.replicate 64 0⟩], []⟩ (-1) false ++ [RS.ob ⟨s.2.2.1, 64, [], List.replicate 64 0⟩, RS.ob ⟨s.2.2.2.1, 64, [], List.replicate 64 0⟩, RS.ob ⟨s.2.2.2.2, 64, [], List.replicate 64 0⟩]) (fun _ => True) rfl rfl Try.func27 rfl (by kernel_rfl) rfl (fun w' _ => rnew w') (fun t _ => ?_))
  refine R_cons rfl (op_pure (p_move rfl) rfl ?_)
  refine R_cons rfl (op_pure (p_extract (i := 0) rfl rfl) rfl ?_)
  refine R_cons rfl (op_pure (p_extract (i := 1) rfl rfl) rfl ?_)
  refine R_cons rfl (op_pure (p_assign rfl) rfl ?_)
  refine R_cons rfl (op_pure (p_assign rfl) rfl ?_)
  refine R_nil ?_
  repeat (first | refine S_scope ?_ | refine S_label ?_ | refine E_noGoto_normal ?_ | refine E_noGoto_ret ?_ | refine E_noGoto_exit ?_ | refine S_yes rfl (by first | with_reducible rfl | decide) ?_ | refine S_no rfl (by first | with_reducible rfl | decide) ?_ | refine S_seq ?_ | refine E_seq ?_ | refine S_block ?_ | refine E_block_normal ?_ | refine S_skip ?_ | refine S_exit ?_ | refine S_ret ?_ | refine E_then_exit ?_ | refine E_then_ret ?_ | refine E_block_ret ?_ | refine E_block_exit ?_ | refine E_block_exit_other rfl ?_)
  refine S_region ?_
  refine R_cons rfl (op_pure (p_move rfl) rfl ?_)
  refine R_cons rfl (op_pure (p_bin rfl rfl (b_neq (by first | assumption | exact bne_iff_ne.2 (by omega) | exact bne_eq_false_iff_eq.2 (by omega) | rfl))) rfl ?_)
  refine R_cons rfl (op_pure (p_move rfl) rfl ?_)
  first | refine R_pass rfl rfl rfl rfl ?_ | refine R_pass_undef rfl rfl rfl ?_ | refine R_guard rfl rfl rfl (op_pure (p_move rfl) rfl ?_)
  first | refine R_pass rfl rfl rfl rfl ?_ | refine R_pass_undef rfl rfl rfl ?_ | refine R_guard rfl rfl rfl (op_pure (p_bin rfl rfl (b_neq (by first | assumption | exact bne_iff_ne.2 (by omega) | exact bne_eq_false_iff_eq.2 (by omega) | rfl))) rfl ?_)
  refine R_cons rfl (op_pure (by first | exact p_pick_yes rfl rfl | exact p_pick_no rfl rfl | exact p_pick rfl rfl rfl) rfl ?_)
  refine R_nil ?_
  repeat (first | refine S_scope ?_ | refine S_label ?_ | refine E_noGoto_normal ?_ | refine E_noGoto_ret ?_ | refine E_noGoto_exit ?_ | refine S_yes rfl (by first | with_reducible rfl | decide) ?_ | refine S_no rfl (by first | with_reducible rfl | decide) ?_ | refine S_seq ?_ | refine E_seq ?_ | refine S_block ?_ | refine E_block_normal ?_ | refine S_skip ?_ | refine S_exit ?_ | refine S_ret ?_ | refine E_then_exit ?_ | refine E_then_ret ?_ | refine E_block_ret ?_ | refine E_block_exit ?_ | refine E_block_exit_other rfl ?_)
  obtain ⟨d, p, q, D, ebd, ebr, hr, hwb, hd, eH⟩ := start s t
  rw [eH, ← ebd, ← ebr]
  clear eH ebd ebr s t
  refine S_region ?_
  refine R_cons rfl (op_pure (p_move rfl) rfl ?_)
  refine R_cons rfl (op_pure (p_move rfl) rfl ?_)
  refine R_cons rfl (op_callNX (fun b : Nat => Value.tuple ([cPtr (mkC (opn d at_).1 b 0), Value.int .i64 (opn d at_).2] : List Value).toArray) (fun b => cHp (mkC (opn d at_).1 b 0) p.bd at_.toNat) (fun _ => True) rfl rfl Try.func20 rfl (by kernel_rfl) rfl (fun w' hm => copenU 0 p d hr.ok at_ w' (prog_at hm (fun x hx => by simp only [List.mem_append, List.mem_cons, hx, true_or, or_true])).1 (prog_at hm (fun x hx => by simp only [List.mem_append, List.mem_cons, hx, true_or, or_true])).2.2) (fun bc _ => ?_))
  refine R_cons rfl (op_pure (p_move rfl) rfl ?_)
  refine R_cons rfl (op_pure (p_extract (i := 0) rfl rfl) rfl ?_)
  refine R_cons rfl (op_pure (p_extract (i := 1) rfl rfl) rfl ?_)
  refine R_cons rfl (op_pure (p_assign rfl) rfl ?_)
  refine R_cons rfl (op_pure (p_assign rfl) rfl ?_)
  refine R_nil ?_
  repeat (first | refine S_scope ?_ | refine S_label ?_ | refine E_noGoto_normal ?_ | refine E_noGoto_ret ?_ | refine E_noGoto_exit ?_ | refine S_yes rfl (by first | with_reducible rfl | decide) ?_ | refine S_no rfl (by first | with_reducible rfl | decide) ?_ | refine S_seq ?_ | refine E_seq ?_ | refine S_block ?_ | refine E_block_normal ?_ | refine S_skip ?_ | refine S_exit ?_ | refine S_ret ?_ | refine E_then_exit ?_ | refine E_then_ret ?_ | refine E_block_ret ?_ | refine E_block_exit ?_ | refine E_block_exit_other rfl ?_)
  refine S_region ?_
  refine R_cons rfl (op_pure (p_move rfl) rfl ?_)
  refine R_cons rfl (op_pure (p_move rfl) rfl ?_)
  refine R_cons rfl (op_callNX (fun b : Nat => Value.tuple ([rPtr (mkC (opn d at_).1 0 b), Value.int .i64 (opn d at_).2] : List Value).toArray) (fun b => rHp (mkC (opn d at_).1 0 b) q.br at_.toNat) (fun _ => True) rfl rfl Try.func28 rfl (by kernel_rfl) rfl (fun w' hm => ropenU 0 (by omega) d q hr at_ w' (at_of hm hr (fun x hx => by simp only [List.mem_append, List.mem_cons, hx, true_or, or_true]) (fun x hx => by simp only [List.mem_append, List.mem_cons, hx, true_or, or_true]) hd)) (fun rc _ => ?_))
  refine R_cons rfl (op_pure (p_move rfl) rfl ?_)
  refine R_cons rfl (op_pure (p_extract (i := 0) rfl rfl) rfl ?_)
  refine R_cons rfl (op_pure (p_extract (i := 1) rfl rfl) rfl ?_)
  refine R_cons rfl (op_pure (p_assign rfl) rfl ?_)
  refine R_cons rfl (op_pure (p_assign rfl) rfl ?_)
  refine R_nil ?_
  repeat (first | refine S_scope ?_ | refine S_label ?_ | refine E_noGoto_normal ?_ | refine E_noGoto_ret ?_ | refine E_noGoto_exit ?_ | refine S_yes rfl (by first | with_reducible rfl | decide) ?_ | refine S_no rfl (by first | with_reducible rfl | decide) ?_ | refine S_seq ?_ | refine E_seq ?_ | refine S_block ?_ | refine E_block_normal ?_ | refine S_skip ?_ | refine S_exit ?_ | refine S_ret ?_ | refine E_then_exit ?_ | refine E_then_ret ?_ | refine E_block_ret ?_ | refine E_block_exit ?_ | refine E_block_exit_other rfl ?_)
  refine S_region ?_
  refine R_cons rfl (op_pure (p_move rfl) rfl ?_)
  refine R_cons rfl (op_pure (p_move rfl) rfl ?_)
  refine R_cons rfl (op_pure (p_bin rfl rfl (b_neq (show ((opn d at_).2 != (opn d at_).2) = false by simp))) rfl ?_)
  refine R_nil ?_
  repeat (first | refine S_scope ?_ | refine S_label ?_ | refine E_noGoto_normal ?_ | refine E_noGoto_ret ?_ | refine E_noGoto_exit ?_ | refine S_yes rfl (by first | with_reducible rfl | decide) ?_ | refine S_no rfl (by first | with_reducible rfl | decide) ?_ | refine S_seq ?_ | refine E_seq ?_ | refine S_block ?_ | refine E_block_normal ?_ | refine S_skip ?_ | refine S_exit ?_ | refine S_ret ?_ | refine E_then_exit ?_ | refine E_then_ret ?_ | refine E_block_ret ?_ | refine E_block_exit ?_ | refine E_block_exit_other rfl ?_)
  refine S_region ?_
  refine R_cons rfl (op_pure (p_assign rfl) rfl ?_)
  refine R_nil ?_
  repeat (first | refine S_scope ?_ | refine S_label ?_ | refine E_noGoto_normal ?_ | refine E_noGoto_ret ?_ | refine E_noGoto_exit ?_ | refine S_yes rfl (by first | with_reducible rfl | decide) ?_ | refine S_no rfl (by first | with_reducible rfl | decide) ?_ | refine S_seq ?_ | refine E_seq ?_ | refine S_block ?_ | refine E_block_normal ?_ | refine S_skip ?_ | refine S_exit ?_ | refine S_ret ?_ | refine E_then_exit ?_ | refine E_then_ret ?_ | refine E_block_ret ?_ | refine E_block_exit ?_ | refine E_block_exit_other rfl ?_)
  rw [cPtr_mk _ bc rc, cHp_mk _ bc rc, rPtr_mk _ bc rc, rHp_mk _ bc rc]
  have hcc := opn_ok d at_ bc rc
  generalize mkC (opn d at_).1 bc rc = cc at hcc ⊢
  refine S_perm (perm6 _ _ _ _) ?_
  refine S_loop (σ := PlayS) (fun x => [(11, .int .i64 (x.i : Int)), (10, rPtr x.c), (9, cPtr x.c), (7, .pointer (some ⟨x.q.br, 0, none⟩)), (5, .pointer (some ⟨x.p.bd, 0, none⟩)), (1, .slice A l.length c), (0, .int .i64 at_)]) (fun x => ((cHp x.c x.p.bd at_.toNat ++ rHp x.c x.q.br at_.toNat) ++ (progH x.p x.s ++ (refH x.q (lowL x.s.left) x.s.bl ++ x.D)))) (fun x => x.i ≤ l.length ∧ (Rel x.i x.s x.q ∧ wbOk x.p.wb x.s.ws ∧ x.q.dat x.D ∧ cOk at_ x.c)) (fun x => l.length - x.i) ⟨0, d, p, q, D, cc⟩ ⟨Nat.zero_le _, hr, hwb, hd, hcc⟩ (by repeat (first | exact Sub.nil | refine Sub.cons rfl ?_)) (Fewer.refl _) ?_
  clear hr hwb hd hcc bc rc d p q D cc
  rintro ⟨i, s, p, q, D, cc⟩ ⟨hi, hr, hwb, hd, hcc⟩
  dsimp only at hi hr hwb hd hcc ⊢
  by_cases hlt : i < l.length
  · have g3 : decide ((i : Int) < (l.length : Int)) = true := decide_eq_true (by omega)
    have hinc : IntKind.i64.wrap ((i : Int) + 1) = ((i + 1 : Nat) : Int) := by rw [w_in_i64 (by omega)]; omega
    obtain ⟨ba, offa, rfl, hbal, hca⟩ := hrd.2 (by omega)
    obtain ⟨t, ht⟩ : ∃ t, l[i]? = some t := ⟨_, List.getElem?_eq_getElem hlt⟩
    have hcell : ∀ j v, t.val[j]? = some v → w.cell? ⟨ba, offa + i * 6 + j, none⟩ = some v := by
      intro j v hv
      have hj : j < 6 := (List.getElem?_eq_some_iff.1 hv).1
      have h := hca (i * 6 + j) v ((flat_cell Deed.val 6 l (fun _ _ => rfl) i j t ht hj).trans hv)
      rwa [← Nat.add_assoc] at h
    have htok := hok t (List.mem_of_getElem? ht)
    obtain ⟨k, n, kA, kc, kl, a, b, bA, bc, bx⟩ := t
    obtain ⟨⟨hn1, hn2⟩, ⟨hkr, hk1, hk2⟩, ⟨ha1, ha2⟩, hbr, hb1, hb2⟩ := htok
    dsimp only [Deed.val] at hcell hn1 hn2 hkr hk1 hk2 ha1 ha2 hbr hb1 hb2
    have hK : (k.toNat : Int).tmod 10 = ((k.toNat % 10 : Nat) : Int) := nat_rem _ 10
    have hK10 : k.toNat % 10 < 10 := by omega
    repeat (first | refine S_scope ?_ | refine S_label ?_ | refine E_noGoto_normal ?_ | refine E_noGoto_ret ?_ | refine E_noGoto_exit ?_ | refine S_yes rfl (by first | with_reducible rfl | decide) ?_ | refine S_no rfl (by first | with_reducible rfl | decide) ?_ | refine S_seq ?_ | refine E_seq ?_ | refine S_block ?_ | refine E_block_normal ?_ | refine S_skip ?_ | refine S_exit ?_ | refine S_ret ?_ | refine E_then_exit ?_ | refine E_then_ret ?_ | refine E_block_ret ?_ | refine E_block_exit ?_ | refine E_block_exit_other rfl ?_)
    refine S_region ?_
    refine R_cons rfl (op_pure (p_move rfl) rfl ?_)
    refine R_cons rfl (op_pure (p_move rfl) rfl ?_)
    refine R_cons rfl (op_pure (p_lenR rfl slr_almonerlaw22_Act) rfl ?_)
    refine R_cons rfl (op_pure (p_bin rfl rfl (b_lss g3)) rfl ?_)
    refine R_nil ?_
    repeat (first | refine S_scope ?_ | refine S_label ?_ | refine E_noGoto_normal ?_ | refine E_noGoto_ret ?_ | refine E_noGoto_exit ?_ | refine S_yes rfl (by first | with_reducible rfl | decide) ?_ | refine S_no rfl (by first | with_reducible rfl | decide) ?_ | refine S_seq ?_ | refine E_seq ?_ | refine S_block ?_ | refine E_block_normal ?_ | refine S_skip ?_ | refine S_exit ?_ | refine S_ret ?_ | refine E_then_exit ?_ | refine E_then_ret ?_ | refine E_block_ret ?_ | refine E_block_exit ?_ | refine E_block_exit_other rfl ?_)
    refine S_region ?_
    refine R_cons rfl (op_pure (p_move rfl) rfl ?_)
    refine R_cons rfl (op_pure (p_move rfl) rfl ?_)
    refine R_cons rfl (op_pure (p_indexR (j := i) rfl rfl rfl slr_almonerlaw22_Act hlt) rfl ?_)
    refine R_cons rfl (op_pure (p_loadRowBase rfl row_almonerlaw22_Act rfl hbal (by simp) hcell) rfl ?_)
    refine R_cons rfl (op_allocRow zero_almonerlaw22_Act rfl (Nat.le_refl _) (fun b12 => ?_))
    refine R_cons rfl (op_storeRow rfl rfl (by first | exact bytesV_one _ | exact wordsV_one _ | (repeat (first | exact ones_nil | refine ones_cons rfl ?_))) row_almonerlaw22_Act rfl (by repeat (first | exact At.here | apply At.there)) (by exact Nat.le_of_ble_eq_true rfl) ?_)
    refine R_nil ?_
    repeat (first | refine S_scope ?_ | refine S_label ?_ | refine E_noGoto_normal ?_ | refine E_noGoto_ret ?_ | refine E_noGoto_exit ?_ | refine S_yes rfl (by first | with_reducible rfl | decide) ?_ | refine S_no rfl (by first | with_reducible rfl | decide) ?_ | refine S_seq ?_ | refine E_seq ?_ | refine S_block ?_ | refine E_block_normal ?_ | refine S_skip ?_ | refine S_exit ?_ | refine S_ret ?_ | refine E_then_exit ?_ | refine E_then_ret ?_ | refine E_block_ret ?_ | refine E_block_exit ?_ | refine E_block_exit_other rfl ?_)
    refine S_region ?_
    refine R_cons rfl (op_pure (by first | exact p_fieldAddr0 rfl fd_almonerlaw22_Act_0 | exact p_fieldAddr rfl fd_almonerlaw22_Act_0) rfl ?_)
    refine R_cons rfl (op_pure (p_load rfl sc_u8 (by repeat (first | exact List.Mem.head _ | apply List.Mem.tail)) (by rfl)) rfl ?_)
    refine R_cons rfl (op_pure (p_bin rfl rfl (b_rem (by decide) hK)) rfl ?_)
    refine R_nil ?_
    refine E_fewer (env' := [(62, .int .u8 ((k.toNat % 10 : Nat) : Int)), (12, .pointer (some ⟨b12, 0, none⟩)), (11, .int .i64 (i : Int)), (10, rPtr cc), (9, cPtr cc), (7, .pointer (some ⟨q.br, 0, none⟩)), (5, .pointer (some ⟨p.bd, 0, none⟩)), (1, .slice (some ⟨ba, offa, none⟩) l.length c), (0, .int .i64 at_)]) (H' := (b12, .cells [Value.int .u8 (k.toNat : Int), .int .i64 n, .slice kA kl.length kc, .int .i64 a, .int .u8 (b.toNat : Int), .slice bA bx.length bc].toArray 75 (0, 0)) :: ((cHp cc p.bd at_.toNat ++ rHp cc q.br at_.toNat) ++ (progH p s ++ (refH q (lowL s.left) s.bl ++ D)))) (by repeat (first | exact Sub.nil | refine Sub.cons rfl ?_)) (.keep rfl (Fewer.refl _)) ?_
    clear hK hcell hca ht hbal
    generalize k.toNat % 10 = K at hK10 ⊢
    by_cases hnone : K < 5 ∧ cc = none
    · obtain ⟨hK5, rfl⟩ := hnone
      have g5 : ((K : Int) == 5) = false := beq_eq_false_iff_ne.2 (by omega)
      have g6 : ((K : Int) == 6) = false := beq_eq_false_iff_ne.2 (by omega)
      have g7 : ((K : Int) == 7) = false := beq_eq_false_iff_ne.2 (by omega)
      have g8 : ((K : Int) == 8) = false := beq_eq_false_iff_ne.2 (by omega)
      have g9 : ((K : Int) == 9) = false := beq_eq_false_iff_ne.2 (by omega)
      repeat (first | refine S_scope ?_ | refine S_label ?_ | refine E_noGoto_normal ?_ | refine E_noGoto_ret ?_ | refine E_noGoto_exit ?_ | refine S_yes rfl (by first | with_reducible rfl | decide) ?_ | refine S_no rfl (by first | with_reducible rfl | decide) ?_ | refine S_seq ?_ | refine E_seq ?_ | refine S_block ?_ | refine E_block_normal ?_ | refine S_skip ?_ | refine S_exit ?_ | refine S_ret ?_ | refine E_then_exit ?_ | refine E_then_ret ?_ | refine E_block_ret ?_ | refine E_block_exit ?_ | refine E_block_exit_other rfl ?_)
      refine S_region ?_
      refine R_cons rfl (op_pure (p_bin rfl rfl (b_eql g5)) rfl ?_)
      refine R_cons rfl (op_pure (p_assign rfl) rfl ?_)
      refine R_nil ?_
      repeat (first | refine S_scope ?_ | refine S_label ?_ | refine E_noGoto_normal ?_ | refine E_noGoto_ret ?_ | refine E_noGoto_exit ?_ | refine S_yes rfl (by first | with_reducible rfl | decide) ?_ | refine S_no rfl (by first | with_reducible rfl | decide) ?_ | refine S_seq ?_ | refine E_seq ?_ | refine S_block ?_ | refine E_block_normal ?_ | refine S_skip ?_ | refine S_exit ?_ | refine S_ret ?_ | refine E_then_exit ?_ | refine E_then_ret ?_ | refine E_block_ret ?_ | refine E_block_exit ?_ | refine E_block_exit_other rfl ?_)
      refine S_region ?_
      refine R_cons rfl (op_pure (p_bin rfl rfl (b_eql g6)) rfl ?_)
      refine R_cons rfl (op_pure (p_assign rfl) rfl ?_)
      refine R_nil ?_
      repeat (first | refine S_scope ?_ | refine S_label ?_ | refine E_noGoto_normal ?_ | refine E_noGoto_ret ?_ | refine E_noGoto_exit ?_ | refine S_yes rfl (by first | with_reducible rfl | decide) ?_ | refine S_no rfl (by first | with_reducible rfl | decide) ?_ | refine S_seq ?_ | refine E_seq ?_ | refine S_block ?_ | refine E_block_normal ?_ | refine S_skip ?_ | refine S_exit ?_ | refine S_ret ?_ | refine E_then_exit ?_ | refine E_then_ret ?_ | refine E_block_ret ?_ | refine E_block_exit ?_ | refine E_block_exit_other rfl ?_)
      refine S_region ?_
      refine R_cons rfl (op_pure (p_bin rfl rfl (b_eql g7)) rfl ?_)
      refine R_cons rfl (op_pure (p_assign rfl) rfl ?_)
      refine R_nil ?_
      repeat (first | refine S_scope ?_ | refine S_label ?_ | refine E_noGoto_normal ?_ | refine E_noGoto_ret ?_ | refine E_noGoto_exit ?_ | refine S_yes rfl (by first | with_reducible rfl | decide) ?_ | refine S_no rfl (by first | with_reducible rfl | decide) ?_ | refine S_seq ?_ | refine E_seq ?_ | refine S_block ?_ | refine E_block_normal ?_ | refine S_skip ?_ | refine S_exit ?_ | refine S_ret ?_ | refine E_then_exit ?_ | refine E_then_ret ?_ | refine E_block_ret ?_ | refine E_block_exit ?_ | refine E_block_exit_other rfl ?_)
      refine S_region ?_
      refine R_cons rfl (op_pure (p_bin rfl rfl (b_eql g8)) rfl ?_)
      refine R_cons rfl (op_pure (p_assign rfl) rfl ?_)
      refine R_nil ?_
      repeat (first | refine S_scope ?_ | refine S_label ?_ | refine E_noGoto_normal ?_ | refine E_noGoto_ret ?_ | refine E_noGoto_exit ?_ | refine S_yes rfl (by first | with_reducible rfl | decide) ?_ | refine S_no rfl (by first | with_reducible rfl | decide) ?_ | refine S_seq ?_ | refine E_seq ?_ | refine S_block ?_ | refine E_block_normal ?_ | refine S_skip ?_ | refine S_exit ?_ | refine S_ret ?_ | refine E_then_exit ?_ | refine E_then_ret ?_ | refine E_block_ret ?_ | refine E_block_exit ?_ | refine E_block_exit_other rfl ?_)
      refine S_region ?_
      refine R_cons rfl (op_pure (p_bin rfl rfl (b_eql g9)) rfl ?_)
      refine R_cons rfl (op_pure (p_assign rfl) rfl ?_)
      refine R_nil ?_
      repeat (first | refine S_scope ?_ | refine S_label ?_ | refine E_noGoto_normal ?_ | refine E_noGoto_ret ?_ | refine E_noGoto_exit ?_ | refine S_yes rfl (by first | with_reducible rfl | decide) ?_ | refine S_no rfl (by first | with_reducible rfl | decide) ?_ | refine S_seq ?_ | refine E_seq ?_ | refine S_block ?_ | refine E_block_normal ?_ | refine S_skip ?_ | refine S_exit ?_ | refine S_ret ?_ | refine E_then_exit ?_ | refine E_then_ret ?_ | refine E_block_ret ?_ | refine E_block_exit ?_ | refine E_block_exit_other rfl ?_)
      refine S_region ?_
      refine R_cons rfl (op_pure (p_move rfl) rfl ?_)
      refine R_cons rfl (op_pure (p_eql_nil (p := none) rfl rfl ptr_almonerref22_Count) rfl ?_)
      refine R_nil ?_
      repeat (first | refine S_scope ?_ | refine S_label ?_ | refine E_noGoto_normal ?_ | refine E_noGoto_ret ?_ | refine E_noGoto_exit ?_ | refine S_yes rfl (by first | with_reducible rfl | decide) ?_ | refine S_no rfl (by first | with_reducible rfl | decide) ?_ | refine S_seq ?_ | refine E_seq ?_ | refine S_block ?_ | refine E_block_normal ?_ | refine S_skip ?_ | refine S_exit ?_ | refine S_ret ?_ | refine E_then_exit ?_ | refine E_then_ret ?_ | refine E_block_ret ?_ | refine E_block_exit ?_ | refine E_block_exit_other rfl ?_)
      refine S_region ?_
      refine R_cons rfl (op_pure (p_move rfl) rfl ?_)
      refine R_cons rfl (op_pure (p_bin rfl rfl (b_add hinc)) rfl ?_)
      refine R_cons rfl (op_pure (p_assign rfl) rfl ?_)
      refine R_nil ?_
      repeat (first | refine S_scope ?_ | refine S_label ?_ | refine E_noGoto_normal ?_ | refine E_noGoto_ret ?_ | refine E_noGoto_exit ?_ | refine S_yes rfl (by first | with_reducible rfl | decide) ?_ | refine S_no rfl (by first | with_reducible rfl | decide) ?_ | refine S_seq ?_ | refine E_seq ?_ | refine S_block ?_ | refine E_block_normal ?_ | refine S_skip ?_ | refine S_exit ?_ | refine S_ret ?_ | refine E_then_exit ?_ | refine E_then_ret ?_ | refine E_block_ret ?_ | refine E_block_exit ?_ | refine E_block_exit_other rfl ?_)
      exact E_round (σ := PlayS) (s := ⟨i, s, p, q, D, none⟩) ⟨i + 1, s, p, q, D, none⟩ ⟨(by show i + 1 ≤ l.length; omega), rel_mono hr (Nat.le_succ i), hwb, hd, hcc⟩ (by show l.length - (i + 1) < l.length - i; omega) (by repeat (first | exact Sub.nil | refine Sub.cons rfl ?_)) (.drop (Fewer.refl _))
    repeat (first | refine E_noGoto_normal ?_ | refine E_seq ?_)
    refine S_cutE (σ := PlayS) (fun x => [(11, .int .i64 (i : Int)),(11, .int .i64 (i : Int)), (10, rPtr x.c), (9, cPtr x.c), (7, .pointer (some ⟨x.q.br, 0, none⟩)), (5, .pointer (some ⟨x.p.bd, 0, none⟩)), (1, .slice (some ⟨ba, offa, none⟩) l.length c), (0, .int .i64 at_)]) (fun x => ((cHp x.c x.p.bd at_.toNat ++ rHp x.c x.q.br at_.toNat) ++ (progH x.p x.s ++ (refH x.q (lowL x.s.left) x.s.bl ++ x.D)))) (fun x => (Rel (i + 1) x.s x.q ∧ wbOk x.p.wb x.s.ws ∧ x.q.dat x.D ∧ cOk at_ x.c)) ?_ ?_
    · rcases (by omega : K < 5 ∨ K = 5 ∨ K = 6 ∨ K = 7 ∨ K = 8 ∨ K = 9) with hK5 | rfl | rfl | rfl | rfl | rfl
      · -- the next
        cases cc with
        | none => exact absurd ⟨hK5, rfl⟩ hnone
        | some t =>
        clear hnone
        obtain ⟨cb, rb, u, dn⟩ := t
        obtain ⟨⟨hat0, hat3'⟩, hu16⟩ := hcc _ rfl
        dsimp only at hu16
        have hat3 : at_.toNat < 3 := by omega
        have g5 : ((K : Int) == 5) = false := beq_eq_false_iff_ne.2 (by omega)
        have g6 : ((K : Int) == 6) = false := beq_eq_false_iff_ne.2 (by omega)
        have g7 : ((K : Int) == 7) = false := beq_eq_false_iff_ne.2 (by omega)
        have g8 : ((K : Int) == 8) = false := beq_eq_false_iff_ne.2 (by omega)
        have g9 : ((K : Int) == 9) = false := beq_eq_false_iff_ne.2 (by omega)
        refine S_fewer (env' := [(62, .int .u8 (K : Int)), (11, .int .i64 (i : Int)), (10, .pointer (some ⟨rb, 0, none⟩)), (9, .pointer (some ⟨cb, 0, none⟩)), (7, .pointer (some ⟨q.br, 0, none⟩)), (5, .pointer (some ⟨p.bd, 0, none⟩)), (1, .slice (some ⟨ba, offa, none⟩) l.length c), (0, .int .i64 at_)]) (H' := (b12, .cells [Value.int .u8 (k.toNat : Int), .int .i64 n, .slice kA kl.length kc, .int .i64 a, .int .u8 (b.toNat : Int), .slice bA bx.length bc].toArray 75 (0, 0)) :: (cb, .cells (cntC u p.bd at_.toNat dn).toArray 103 (0, 0)) :: (rb, .cells (rcntC q.br at_.toNat u dn).toArray 126 (0, 0)) :: (progH p s ++ (refH q (lowL s.left) s.bl ++ D))) (by repeat (first | exact Sub.nil | refine Sub.cons rfl ?_)) (.keep rfl (.keep rfl (.keep rfl (Fewer.refl _)))) ?_
        repeat (first | refine S_scope ?_ | refine S_label ?_ | refine E_noGoto_normal ?_ | refine E_noGoto_ret ?_ | refine E_noGoto_exit ?_ | refine S_yes rfl (by first | with_reducible rfl | decide) ?_ | refine S_no rfl (by first | with_reducible rfl | decide) ?_ | refine S_seq ?_ | refine E_seq ?_ | refine S_block ?_ | refine E_block_normal ?_ | refine S_skip ?_ | refine S_exit ?_ | refine S_ret ?_ | refine E_then_exit ?_ | refine E_then_ret ?_ | refine E_block_ret ?_ | refine E_block_exit ?_ | refine E_block_exit_other rfl ?_)
        refine S_region ?_
        refine R_cons rfl (op_pure (p_bin rfl rfl (b_eql g5)) rfl ?_)
        refine R_cons rfl (op_pure (p_assign rfl) rfl ?_)
        refine R_nil ?_
        repeat (first | refine S_scope ?_ | refine S_label ?_ | refine E_noGoto_normal ?_ | refine E_noGoto_ret ?_ | refine E_noGoto_exit ?_ | refine S_yes rfl (by first | with_reducible rfl | decide) ?_ | refine S_no rfl (by first | with_reducible rfl | decide) ?_ | refine S_seq ?_ | refine E_seq ?_ | refine S_block ?_ | refine E_block_normal ?_ | refine S_skip ?_ | refine S_exit ?_ | refine S_ret ?_ | refine E_then_exit ?_ | refine E_then_ret ?_ | refine E_block_ret ?_ | refine E_block_exit ?_ | refine E_block_exit_other rfl ?_)
        refine S_region ?_
        refine R_cons rfl (op_pure (p_bin rfl rfl (b_eql g6)) rfl ?_)
        refine R_cons rfl (op_pure (p_assign rfl) rfl ?_)
        refine R_nil ?_
        repeat (first | refine S_scope ?_ | refine S_label ?_ | refine E_noGoto_normal ?_ | refine E_noGoto_ret ?_ | refine E_noGoto_exit ?_ | refine S_yes rfl (by first | with_reducible rfl | decide) ?_ | refine S_no rfl (by first | with_reducible rfl | decide) ?_ | refine S_seq ?_ | refine E_seq ?_ | refine S_block ?_ | refine E_block_normal ?_ | refine S_skip ?_ | refine S_exit ?_ | refine S_ret ?_ | refine E_then_exit ?_ | refine E_then_ret ?_ | refine E_block_ret ?_ | refine E_block_exit ?_ | refine E_block_exit_other rfl ?_)
        refine S_region ?_
        refine R_cons rfl (op_pure (p_bin rfl rfl (b_eql g7)) rfl ?_)
        refine R_cons rfl (op_pure (p_assign rfl) rfl ?_)
        refine R_nil ?_
        repeat (first | refine S_scope ?_ | refine S_label ?_ | refine E_noGoto_normal ?_ | refine E_noGoto_ret ?_ | refine E_noGoto_exit ?_ | refine S_yes rfl (by first | with_reducible rfl | decide) ?_ | refine S_no rfl (by first | with_reducible rfl | decide) ?_ | refine S_seq ?_ | refine E_seq ?_ | refine S_block ?_ | refine E_block_normal ?_ | refine S_skip ?_ | refine S_exit ?_ | refine S_ret ?_ | refine E_then_exit ?_ | refine E_then_ret ?_ | refine E_block_ret ?_ | refine E_block_exit ?_ | refine E_block_exit_other rfl ?_)
        refine S_region ?_
        refine R_cons rfl (op_pure (p_bin rfl rfl (b_eql g8)) rfl ?_)
        refine R_cons rfl (op_pure (p_assign rfl) rfl ?_)
        refine R_nil ?_
        repeat (first | refine S_scope ?_ | refine S_label ?_ | refine E_noGoto_normal ?_ | refine E_noGoto_ret ?_ | refine E_noGoto_exit ?_ | refine S_yes rfl (by first | with_reducible rfl | decide) ?_ | refine S_no rfl (by first | with_reducible rfl | decide) ?_ | refine S_seq ?_ | refine E_seq ?_ | refine S_block ?_ | refine E_block_normal ?_ | refine S_skip ?_ | refine S_exit ?_ | refine S_ret ?_ | refine E_then_exit ?_ | refine E_then_ret ?_ | refine E_block_ret ?_ | refine E_block_exit ?_ | refine E_block_exit_other rfl ?_)
        refine S_region ?_
        refine R_cons rfl (op_pure (p_bin rfl rfl (b_eql g9)) rfl ?_)
        refine R_cons rfl (op_pure (p_assign rfl) rfl ?_)
        refine R_nil ?_
        repeat (first | refine S_scope ?_ | refine S_label ?_ | refine E_noGoto_normal ?_ | refine E_noGoto_ret ?_ | refine E_noGoto_exit ?_ | refine S_yes rfl (by first | with_reducible rfl | decide) ?_ | refine S_no rfl (by first | with_reducible rfl | decide) ?_ | refine S_seq ?_ | refine E_seq ?_ | refine S_block ?_ | refine E_block_normal ?_ | refine S_skip ?_ | refine S_exit ?_ | refine S_ret ?_ | refine E_then_exit ?_ | refine E_then_ret ?_ | refine E_block_ret ?_ | refine E_block_exit ?_ | refine E_block_exit_other rfl ?_)
        refine S_region ?_
        refine R_cons rfl (op_pure (p_move rfl) rfl ?_)
        refine R_cons rfl (op_pure (p_eql_nil (p := some ⟨rb, 0, none⟩) rfl rfl ptr_almonerref22_Count) rfl ?_)
        refine R_nil ?_
        rw [Option.isNone_some]
        repeat (first | refine S_scope ?_ | refine S_label ?_ | refine E_noGoto_normal ?_ | refine E_noGoto_ret ?_ | refine E_noGoto_exit ?_ | refine S_yes rfl (by first | with_reducible rfl | decide) ?_ | refine S_no rfl (by first | with_reducible rfl | decide) ?_ | refine S_seq ?_ | refine E_seq ?_ | refine S_block ?_ | refine E_block_normal ?_ | refine S_skip ?_ | refine S_exit ?_ | refine S_ret ?_ | refine E_then_exit ?_ | refine E_then_ret ?_ | refine E_block_ret ?_ | refine E_block_exit ?_ | refine E_block_exit_other rfl ?_)
        by_cases hno : 16 ≤ u ∨ dn = true
        · have hne : ((if 16 ≤ u then (12 : Int) else 9) != (if 16 ≤ u then 12 else 9)) = false := by simp
          refine S_region ?_
          refine R_cons rfl (op_pure (p_move rfl) rfl ?_)
          refine R_cons rfl (op_callV rfl rfl Try.func21 rfl (by kernel_rfl) rfl (Nat.le_refl _) (fun w' hm => cnext_no cb u p.bd at_.toNat dn (by omega) hno w' (hm.own (cb, _) (by (try simp only [List.cons_append, List.nil_append]); repeat (first | exact List.Mem.head _ | apply List.Mem.tail))).2) ?_)
          refine R_cons rfl (op_pure (p_move rfl) rfl ?_)
          refine R_cons rfl (op_pure (p_extract (i := 0) rfl rfl) rfl ?_)
          refine R_cons rfl (op_pure (p_extract (i := 1) rfl rfl) rfl ?_)
          refine R_cons rfl (op_pure (p_assign rfl) rfl ?_)
          refine R_cons rfl (op_pure (p_assign rfl) rfl ?_)
          refine R_nil ?_
          repeat (first | refine S_scope ?_ | refine S_label ?_ | refine E_noGoto_normal ?_ | refine E_noGoto_ret ?_ | refine E_noGoto_exit ?_ | refine S_yes rfl (by first | with_reducible rfl | decide) ?_ | refine S_no rfl (by first | with_reducible rfl | decide) ?_ | refine S_seq ?_ | refine E_seq ?_ | refine S_block ?_ | refine E_block_normal ?_ | refine S_skip ?_ | refine S_exit ?_ | refine S_ret ?_ | refine E_then_exit ?_ | refine E_then_ret ?_ | refine E_block_ret ?_ | refine E_block_exit ?_ | refine E_block_exit_other rfl ?_)
          refine S_region ?_
          refine R_cons rfl (op_pure (p_move rfl) rfl ?_)
          refine R_cons rfl (op_callV rfl rfl Try.func34 rfl (by kernel_rfl) rfl (Nat.le_refl _) (fun w' hm => rnext_no rb q.br at_.toNat u dn hno w' (hm.own (rb, _) (by (try simp only [List.cons_append, List.nil_append]); repeat (first | exact List.Mem.head _ | apply List.Mem.tail))).2) ?_)
          refine R_cons rfl (op_pure (p_move rfl) rfl ?_)
          refine R_cons rfl (op_pure (p_extract (i := 0) rfl rfl) rfl ?_)
          refine R_cons rfl (op_pure (p_extract (i := 1) rfl rfl) rfl ?_)
          refine R_cons rfl (op_pure (p_assign rfl) rfl ?_)
          refine R_cons rfl (op_pure (p_assign rfl) rfl ?_)
          refine R_nil ?_
          repeat (first | refine S_scope ?_ | refine S_label ?_ | refine E_noGoto_normal ?_ | refine E_noGoto_ret ?_ | refine E_noGoto_exit ?_ | refine S_yes rfl (by first | with_reducible rfl | decide) ?_ | refine S_no rfl (by first | with_reducible rfl | decide) ?_ | refine S_seq ?_ | refine E_seq ?_ | refine S_block ?_ | refine E_block_normal ?_ | refine S_skip ?_ | refine S_exit ?_ | refine S_ret ?_ | refine E_then_exit ?_ | refine E_then_ret ?_ | refine E_block_ret ?_ | refine E_block_exit ?_ | refine E_block_exit_other rfl ?_)
          refine S_region ?_
          refine R_cons rfl (op_pure (p_move rfl) rfl ?_)
          refine R_cons rfl (op_pure (p_move rfl) rfl ?_)
          refine R_cons rfl (op_pure (p_bin rfl rfl (b_neq (r := false) rfl)) rfl ?_)
          refine R_cons rfl (op_pure (p_move rfl) rfl ?_)
          first | refine R_pass rfl rfl rfl rfl ?_ | refine R_pass_undef rfl rfl rfl ?_ | refine R_guard rfl rfl rfl (op_pure (p_move rfl) rfl ?_)
          first | refine R_pass rfl rfl rfl rfl ?_ | refine R_pass_undef rfl rfl rfl ?_ | refine R_guard rfl rfl rfl (op_pure (p_move rfl) rfl ?_)
          first | refine R_pass rfl rfl rfl rfl ?_ | refine R_pass_undef rfl rfl rfl ?_ | refine R_guard rfl rfl rfl (op_pure (p_bin rfl rfl (b_neq hne)) rfl ?_)
          refine R_cons rfl (op_pure (by first | exact p_pick_yes rfl rfl | exact p_pick_no rfl rfl | exact p_pick rfl rfl rfl) rfl ?_)
          refine R_nil ?_
          repeat (first | refine S_scope ?_ | refine S_label ?_ | refine E_noGoto_normal ?_ | refine E_noGoto_ret ?_ | refine E_noGoto_exit ?_ | refine S_yes rfl (by first | with_reducible rfl | decide) ?_ | refine S_no rfl (by first | with_reducible rfl | decide) ?_ | refine S_seq ?_ | refine E_seq ?_ | refine S_block ?_ | refine E_block_normal ?_ | refine S_skip ?_ | refine S_exit ?_ | refine S_ret ?_ | refine E_then_exit ?_ | refine E_then_ret ?_ | refine E_block_ret ?_ | refine E_block_exit ?_ | refine E_block_exit_other rfl ?_)
          exact E_midE ⟨i, s, p, q, D, some (cb, rb, u, dn)⟩ ⟨rel_mono hr (Nat.le_succ i), hwb, hd, hcc⟩ (by repeat (first | exact Sub.nil | refine Sub.cons rfl ?_)) (.drop (Fewer.refl _))
        have hu : u < 16 := by omega
        have hdn : dn = false := by
          cases dn with
          | false => rfl
          | true => exact absurd (.inr rfl) hno
        subst hdn
        have hn : (((nextS s at_.toNat u).n : Int) != ((nextS s at_.toNat u).n : Int)) = false := by simp
        have he : ((nextS s at_.toNat u).e != (nextS s at_.toNat u).e) = false := by simp
        have hud := nextS_used s at_.toNat u
        refine S_region ?_
        refine R_cons rfl (op_pure (p_move rfl) rfl ?_)
        refine R_cons rfl (op_callXK (fun _ : Option (Nat × Nat × List Value) => (Value.tuple ([Value.int .u32 ((nextS s at_.toNat u).n : Int), Value.int .i64 (nextS s at_.toNat u).e] : List Value).toArray)) (fun wb => (cb, .cells (cntC (nextS s at_.toNat u).used p.bd at_.toNat (nextS s at_.toNat u).down).toArray 103 (0, 0)) :: progH (⟨p.bd, p.bs, p.cs, p.bn, p.cn, p.sps, p.spn, wb⟩ : PS) (nextS s at_.toNat u).s) (fun wb => wbOk wb (nextS s at_.toNat u).s.ws) (Hc := (cb, .cells (cntC u p.bd at_.toNat false).toArray 103 (0, 0)) :: progH p s) (K := (b12, .cells [Value.int .u8 (k.toNat : Int), .int .i64 n, .slice kA kl.length kc, .int .i64 a, .int .u8 (b.toNat : Int), .slice bA bx.length bc].toArray 75 (0, 0)) :: (rb, .cells (rcntC q.br at_.toNat u false).toArray 126 (0, 0)) :: (refH q (lowL s.left) s.bl ++ D)) rfl rfl Try.func21 rfl (by kernel_rfl) rfl (List.Perm.cons _ ((List.Perm.swap _ _ _).trans (List.Perm.cons _ (List.perm_append_comm (l₁ := (cb, .cells (cntC u p.bd at_.toNat false).toArray 103 (0, 0)) :: progH p s) (l₂ := refH q (lowL s.left) s.bl ++ D))))) (fun w' _ hm => cnextG i (by omega) p s hr.ok hwb cb u at_.toNat hat3 hu w' hm) (fun wb hwb2 => ?_))
        refine R_cons rfl (op_pure (p_move rfl) rfl ?_)
        refine R_cons rfl (op_pure (p_extract (i := 0) rfl rfl) rfl ?_)
        refine R_cons rfl (op_pure (p_extract (i := 1) rfl rfl) rfl ?_)
        refine R_cons rfl (op_pure (p_assign rfl) rfl ?_)
        refine R_cons rfl (op_pure (p_assign rfl) rfl ?_)
        refine R_nil ?_
        repeat (first | refine S_scope ?_ | refine S_label ?_ | refine E_noGoto_normal ?_ | refine E_noGoto_ret ?_ | refine E_noGoto_exit ?_ | refine S_yes rfl (by first | with_reducible rfl | decide) ?_ | refine S_no rfl (by first | with_reducible rfl | decide) ?_ | refine S_seq ?_ | refine E_seq ?_ | refine S_block ?_ | refine E_block_normal ?_ | refine S_skip ?_ | refine S_exit ?_ | refine S_ret ?_ | refine E_then_exit ?_ | refine E_then_ret ?_ | refine E_block_ret ?_ | refine E_block_exit ?_ | refine E_block_exit_other rfl ?_)
        refine S_region ?_
        refine R_cons rfl (op_pure (p_move rfl) rfl ?_)
        refine R_cons rfl (op_callXK (fun _ : QS × Hp => (Value.tuple ([Value.int .u32 ((nextS s at_.toNat u).n : Int), Value.int .i64 (nextS s at_.toNat u).e] : List Value).toArray)) (fun t => (rb, .cells (rcntC q.br at_.toNat (nextS s at_.toNat u).used (nextS s at_.toNat u).down).toArray 126 (0, 0)) :: (t.2 ++ refH t.1 (lowL (nextS s at_.toNat u).s.left) (nextS s at_.toNat u).s.bl)) (fun t => t.1.br = q.br ∧ Rel (i + 1) (nextS s at_.toNat u).s t.1 ∧ ∀ D, q.dat D → t.1.dat (t.2 ++ D)) (Hc := (rb, .cells (rcntC q.br at_.toNat u false).toArray 126 (0, 0)) :: refH q (lowL s.left) s.bl) (K := (b12, .cells [Value.int .u8 (k.toNat : Int), .int .i64 n, .slice kA kl.length kc, .int .i64 a, .int .u8 (b.toNat : Int), .slice bA bx.length bc].toArray 75 (0, 0)) :: (cb, .cells (cntC (nextS s at_.toNat u).used p.bd at_.toNat (nextS s at_.toNat u).down).toArray 103 (0, 0)) :: (progH (⟨p.bd, p.bs, p.cs, p.bn, p.cn, p.sps, p.spn, wb⟩ : PS) (nextS s at_.toNat u).s ++ D)) rfl rfl Try.func34 rfl (by kernel_rfl) rfl (perm7 _ _ _ _ _ _) (fun w' _ hm => rnextX i (by omega) s q hr rb u at_.toNat hat3 hu w' hm) (fun t ht => ?_))
        refine R_cons rfl (op_pure (p_move rfl) rfl ?_)
        refine R_cons rfl (op_pure (p_extract (i := 0) rfl rfl) rfl ?_)
        refine R_cons rfl (op_pure (p_extract (i := 1) rfl rfl) rfl ?_)
        refine R_cons rfl (op_pure (p_assign rfl) rfl ?_)
        refine R_cons rfl (op_pure (p_assign rfl) rfl ?_)
        refine R_nil ?_
        repeat (first | refine S_scope ?_ | refine S_label ?_ | refine E_noGoto_normal ?_ | refine E_noGoto_ret ?_ | refine E_noGoto_exit ?_ | refine S_yes rfl (by first | with_reducible rfl | decide) ?_ | refine S_no rfl (by first | with_reducible rfl | decide) ?_ | refine S_seq ?_ | refine E_seq ?_ | refine S_block ?_ | refine E_block_normal ?_ | refine S_skip ?_ | refine S_exit ?_ | refine S_ret ?_ | refine E_then_exit ?_ | refine E_then_ret ?_ | refine E_block_ret ?_ | refine E_block_exit ?_ | refine E_block_exit_other rfl ?_)
        refine S_region ?_
        refine R_cons rfl (op_pure (p_move rfl) rfl ?_)
        refine R_cons rfl (op_pure (p_move rfl) rfl ?_)
        refine R_cons rfl (op_pure (p_bin rfl rfl (b_neq hn)) rfl ?_)
        refine R_cons rfl (op_pure (p_move rfl) rfl ?_)
        first | refine R_pass rfl rfl rfl rfl ?_ | refine R_pass_undef rfl rfl rfl ?_ | refine R_guard rfl rfl rfl (op_pure (p_move rfl) rfl ?_)
        first | refine R_pass rfl rfl rfl rfl ?_ | refine R_pass_undef rfl rfl rfl ?_ | refine R_guard rfl rfl rfl (op_pure (p_move rfl) rfl ?_)
        first | refine R_pass rfl rfl rfl rfl ?_ | refine R_pass_undef rfl rfl rfl ?_ | refine R_guard rfl rfl rfl (op_pure (p_bin rfl rfl (b_neq he)) rfl ?_)
        refine R_cons rfl (op_pure (by first | exact p_pick_yes rfl rfl | exact p_pick_no rfl rfl | exact p_pick rfl rfl rfl) rfl ?_)
        refine R_nil ?_
        repeat (first | refine S_scope ?_ | refine S_label ?_ | refine E_noGoto_normal ?_ | refine E_noGoto_ret ?_ | refine E_noGoto_exit ?_ | refine S_yes rfl (by first | with_reducible rfl | decide) ?_ | refine S_no rfl (by first | with_reducible rfl | decide) ?_ | refine S_seq ?_ | refine E_seq ?_ | refine S_block ?_ | refine E_block_normal ?_ | refine S_skip ?_ | refine S_exit ?_ | refine S_ret ?_ | refine E_then_exit ?_ | refine E_then_ret ?_ | refine E_block_ret ?_ | refine E_block_exit ?_ | refine E_block_exit_other rfl ?_)
        obtain ⟨⟨br', bS', cS', spS', lb', su', ws'⟩, ds⟩ := t
        obtain ⟨hbr', hr', hd'⟩ := ht
        dsimp only at hbr'
        subst hbr'
        refine E_perm (perm8 _ _ _ _ _ _ _) ?_
        exact E_midE ⟨i, (nextS s at_.toNat u).s, (⟨p.bd, p.bs, p.cs, p.bn, p.cn, p.sps, p.spn, wb⟩ : PS), ⟨q.br, bS', cS', spS', lb', su', ws'⟩, ds ++ D, some (cb, rb, (nextS s at_.toNat u).used, (nextS s at_.toNat u).down)⟩ ⟨hr', hwb2, hd' D hd, (fun t ht => by cases ht; exact ⟨⟨hat0, hat3'⟩, by show (nextS s at_.toNat u).used ≤ 16; omega⟩)⟩ (by repeat (first | exact Sub.nil | refine Sub.cons rfl ?_)) (.drop (Fewer.refl _))
      · -- the disk lets only so much be
        have hn5 : -9223372036854775808 ≤ n.tmod 5 ∧ n.tmod 5 ≤ 9223372036854775807 := by have h1 := Int.tmod_lt_of_pos n (show (0 : Int) < 5 by decide); have h2 := Int.lt_tmod_of_pos n (show (0 : Int) < 5 by decide); omega
        have hr' : Rel (i + 1) ⟨s.sure, s.ws, n.tmod 5, false⟩ q := rel_fuse hr (n.tmod 5) hn5
        repeat (first | refine S_scope ?_ | refine S_label ?_ | refine E_noGoto_normal ?_ | refine E_noGoto_ret ?_ | refine E_noGoto_exit ?_ | refine S_yes rfl (by first | with_reducible rfl | decide) ?_ | refine S_no rfl (by first | with_reducible rfl | decide) ?_ | refine S_seq ?_ | refine E_seq ?_ | refine S_block ?_ | refine E_block_normal ?_ | refine S_skip ?_ | refine S_exit ?_ | refine S_ret ?_ | refine E_then_exit ?_ | refine E_then_ret ?_ | refine E_block_ret ?_ | refine E_block_exit ?_ | refine E_block_exit_other rfl ?_)
        refine S_region ?_
        refine R_cons rfl (op_pure (p_bin rfl rfl (b_eql (r := true) rfl)) rfl ?_)
        refine R_cons rfl (op_pure (p_assign rfl) rfl ?_)
        refine R_nil ?_
        repeat (first | refine S_scope ?_ | refine S_label ?_ | refine E_noGoto_normal ?_ | refine E_noGoto_ret ?_ | refine E_noGoto_exit ?_ | refine S_yes rfl (by first | with_reducible rfl | decide) ?_ | refine S_no rfl (by first | with_reducible rfl | decide) ?_ | refine S_seq ?_ | refine E_seq ?_ | refine S_block ?_ | refine E_block_normal ?_ | refine S_skip ?_ | refine S_exit ?_ | refine S_ret ?_ | refine E_then_exit ?_ | refine E_then_ret ?_ | refine E_block_ret ?_ | refine E_block_exit ?_ | refine E_block_exit_other rfl ?_)
        refine S_cutE (σ := PlayS) (fun x => [(95, .bool false),(11, .int .i64 (i : Int)), (10, rPtr x.c), (9, cPtr x.c), (7, .pointer (some ⟨x.q.br, 0, none⟩)), (5, .pointer (some ⟨x.p.bd, 0, none⟩)), (1, .slice (some ⟨ba, offa, none⟩) l.length c), (0, .int .i64 at_)]) (fun x => ((cHp x.c x.p.bd at_.toNat ++ rHp x.c x.q.br at_.toNat) ++ (progH x.p x.s ++ (refH x.q (lowL x.s.left) x.s.bl ++ x.D)))) (fun x => (Rel (i + 1) x.s x.q ∧ wbOk x.p.wb x.s.ws ∧ x.q.dat x.D ∧ cOk at_ x.c)) ?_ ?_
        · refine S_drawn (by kernel_rfl) (.keep rfl .nil) ?_
          refine D_take 0 rfl (by kernel_rfl) (by kernel_rfl) (by kernel_rfl) (by repeat (first | exact calm_body | exact calm_mid | apply calm_noGoto | exact calm_midE | apply calm_then | apply calm_block)) (p_move rfl) rfl ?_
          refine D_take 1 rfl (by kernel_rfl) (by kernel_rfl) (by kernel_rfl) (by repeat (first | exact calm_body | exact calm_mid | apply calm_noGoto | exact calm_midE | apply calm_then | apply calm_block)) (by first | exact p_fieldAddr0 rfl fd_almonerlaw22_Act_1 | exact p_fieldAddr rfl fd_almonerlaw22_Act_1) rfl ?_
          refine D_take 2 rfl (by kernel_rfl) (by kernel_rfl) (by kernel_rfl) (by repeat (first | exact calm_body | exact calm_mid | apply calm_noGoto | exact calm_midE | apply calm_then | apply calm_block)) (p_load rfl sc_int (by repeat (first | exact List.Mem.head _ | apply List.Mem.tail)) (by rfl)) rfl ?_
          refine D_take 3 rfl (by kernel_rfl) (by kernel_rfl) (by kernel_rfl) (by repeat (first | exact calm_body | exact calm_mid | apply calm_noGoto | exact calm_midE | apply calm_then | apply calm_block)) (p_bin rfl rfl (b_rem (by decide) rfl)) rfl ?_
          refine D_take 5 rfl (by kernel_rfl) (by kernel_rfl) (by kernel_rfl) (by repeat (first | exact calm_body | exact calm_mid | apply calm_noGoto | exact calm_midE | apply calm_then | apply calm_block)) (p_move rfl) rfl ?_
          refine D_take 6 rfl (by kernel_rfl) (by kernel_rfl) (by kernel_rfl) (by repeat (first | exact calm_body | exact calm_mid | apply calm_noGoto | exact calm_midE | apply calm_then | apply calm_block)) (by first | exact p_fieldAddr0 rfl fd_almonerlaw22_Act_1 | exact p_fieldAddr rfl fd_almonerlaw22_Act_1) rfl ?_
          refine D_take 7 rfl (by kernel_rfl) (by kernel_rfl) (by kernel_rfl) (by repeat (first | exact calm_body | exact calm_mid | apply calm_noGoto | exact calm_midE | apply calm_then | apply calm_block)) (p_load rfl sc_int (by repeat (first | exact List.Mem.head _ | apply List.Mem.tail)) (by rfl)) rfl ?_
          refine D_take 8 rfl (by kernel_rfl) (by kernel_rfl) (by kernel_rfl) (by repeat (first | exact calm_body | exact calm_mid | apply calm_noGoto | exact calm_midE | apply calm_then | apply calm_block)) (p_bin rfl rfl (b_rem (by decide) rfl)) rfl ?_
          refine D_only 4 rfl (by kernel_rfl) rfl (op_callXK (fun _ : Unit => .int .i64 0) (fun _ => progH p ⟨s.sure, s.ws, n.tmod 5, false⟩) (fun _ => True) (Hc := progH p s) (K := ((b12, .cells [Value.int .u8 (k.toNat : Int), .int .i64 n, .slice kA kl.length kc, .int .i64 a, .int .u8 (b.toNat : Int), .slice bA bx.length bc].toArray 75 (0, 0)) :: (cHp cc p.bd at_.toNat ++ rHp cc q.br at_.toNat)) ++ (refH q (lowL s.left) s.bl ++ D)) rfl rfl Try.func25 rfl (by kernel_rfl) rfl (perm1 ((b12, .cells [Value.int .u8 (k.toNat : Int), .int .i64 n, .slice kA kl.length kc, .int .i64 a, .int .u8 (b.toNat : Int), .slice bA bx.length bc].toArray 75 (0, 0)) :: (cHp cc p.bd at_.toNat ++ rHp cc q.br at_.toNat)) _ _) (fun w' _ hm => dfuseG p s (n.tmod 5) w' hm) (fun _ _ => ?_))
          refine ⟨(by repeat (first | exact Fewer.nil | refine Fewer.keep rfl ?_ | refine Fewer.drop ?_ | exact Fewer.refl _ | exact Fewer.inl _ _ | (simp only [List.append_nil]; first | exact Fewer.inl _ _ | exact Fewer.refl _))), ?_⟩
          refine D_only 9 rfl (by kernel_rfl) rfl (op_callXK (fun _ : Unit => .int .i64 0) (fun _ => refH q (lowL (n.tmod 5)) false) (fun _ => True) (Hc := refH q (lowL s.left) s.bl) (K := (((b12, .cells [Value.int .u8 (k.toNat : Int), .int .i64 n, .slice kA kl.length kc, .int .i64 a, .int .u8 (b.toNat : Int), .slice bA bx.length bc].toArray 75 (0, 0)) :: (cHp cc p.bd at_.toNat ++ rHp cc q.br at_.toNat)) ++ progH p ⟨s.sure, s.ws, n.tmod 5, false⟩) ++ D) rfl rfl Try.func29 rfl (by kernel_rfl) rfl (perm2 _ _ _ _) (fun w' _ hm => rfuseX q _ _ (n.tmod 5) w' hm) (fun _ _ => ?_))
          refine ⟨(by repeat (first | exact Fewer.nil | refine Fewer.keep rfl ?_ | refine Fewer.drop ?_ | exact Fewer.refl _ | exact Fewer.inl _ _ | (simp only [List.append_nil]; first | exact Fewer.inl _ _ | exact Fewer.refl _))), ?_⟩
          refine D_take 10 rfl (by kernel_rfl) (by kernel_rfl) (by kernel_rfl) (by repeat (first | exact calm_body | exact calm_mid | apply calm_noGoto | exact calm_midE | apply calm_then | apply calm_block)) (p_bin rfl rfl (b_neq (r := false) rfl)) rfl ?_
          refine D_done (by kernel_rfl) ?_
          exact E_perm (perm3 ((b12, .cells [Value.int .u8 (k.toNat : Int), .int .i64 n, .slice kA kl.length kc, .int .i64 a, .int .u8 (b.toNat : Int), .slice bA bx.length bc].toArray 75 (0, 0)) :: (cHp cc p.bd at_.toNat ++ rHp cc q.br at_.toNat)) _ D [] _) (E_midE ⟨i, ⟨s.sure, s.ws, n.tmod 5, false⟩, p, q, D, cc⟩ ⟨hr', hwb, hd, hcc⟩ (by repeat (first | exact Sub.nil | refine Sub.cons rfl ?_)) (.drop (Fewer.refl _)))
        rintro ⟨j, s2, p2, q2, D2, c2⟩ hg
        dsimp only at hg ⊢
        repeat (first | refine S_scope ?_ | refine S_label ?_ | refine E_noGoto_normal ?_ | refine E_noGoto_ret ?_ | refine E_noGoto_exit ?_ | refine S_yes rfl (by first | with_reducible rfl | decide) ?_ | refine S_no rfl (by first | with_reducible rfl | decide) ?_ | refine S_seq ?_ | refine E_seq ?_ | refine S_block ?_ | refine E_block_normal ?_ | refine S_skip ?_ | refine S_exit ?_ | refine S_ret ?_ | refine E_then_exit ?_ | refine E_then_ret ?_ | refine E_block_ret ?_ | refine E_block_exit ?_ | refine E_block_exit_other rfl ?_)
        exact E_midE ⟨i, s2, p2, q2, D2, c2⟩ hg (by repeat (first | exact Sub.nil | refine Sub.cons rfl ?_)) (Fewer.refl _)
      · -- a fall
        repeat (first | refine S_scope ?_ | refine S_label ?_ | refine E_noGoto_normal ?_ | refine E_noGoto_ret ?_ | refine E_noGoto_exit ?_ | refine S_yes rfl (by first | with_reducible rfl | decide) ?_ | refine S_no rfl (by first | with_reducible rfl | decide) ?_ | refine S_seq ?_ | refine E_seq ?_ | refine S_block ?_ | refine E_block_normal ?_ | refine S_skip ?_ | refine S_exit ?_ | refine S_ret ?_ | refine E_then_exit ?_ | refine E_then_ret ?_ | refine E_block_ret ?_ | refine E_block_exit ?_ | refine E_block_exit_other rfl ?_)
        refine S_region ?_
        refine R_cons rfl (op_pure (p_bin rfl rfl (b_eql (r := false) rfl)) rfl ?_)
        refine R_cons rfl (op_pure (p_assign rfl) rfl ?_)
        refine R_nil ?_
        repeat (first | refine S_scope ?_ | refine S_label ?_ | refine E_noGoto_normal ?_ | refine E_noGoto_ret ?_ | refine E_noGoto_exit ?_ | refine S_yes rfl (by first | with_reducible rfl | decide) ?_ | refine S_no rfl (by first | with_reducible rfl | decide) ?_ | refine S_seq ?_ | refine E_seq ?_ | refine S_block ?_ | refine E_block_normal ?_ | refine S_skip ?_ | refine S_exit ?_ | refine S_ret ?_ | refine E_then_exit ?_ | refine E_then_ret ?_ | refine E_block_ret ?_ | refine E_block_exit ?_ | refine E_block_exit_other rfl ?_)
        refine S_region ?_
        refine R_cons rfl (op_pure (p_bin rfl rfl (b_eql (r := true) rfl)) rfl ?_)
        refine R_cons rfl (op_pure (p_assign rfl) rfl ?_)
        refine R_nil ?_
        repeat (first | refine S_scope ?_ | refine S_label ?_ | refine E_noGoto_normal ?_ | refine E_noGoto_ret ?_ | refine E_noGoto_exit ?_ | refine S_yes rfl (by first | with_reducible rfl | decide) ?_ | refine S_no rfl (by first | with_reducible rfl | decide) ?_ | refine S_seq ?_ | refine E_seq ?_ | refine S_block ?_ | refine E_block_normal ?_ | refine S_skip ?_ | refine S_exit ?_ | refine S_ret ?_ | refine E_then_exit ?_ | refine E_then_ret ?_ | refine E_block_ret ?_ | refine E_block_exit ?_ | refine E_block_exit_other rfl ?_)
        refine S_region ?_
        refine R_cons rfl (op_pure (p_move rfl) rfl ?_)
        refine R_cons rfl (op_pure (by first | exact p_fieldAddr0 rfl fd_almonerlaw22_Act_2 | exact p_fieldAddr rfl fd_almonerlaw22_Act_2) rfl ?_)
        refine R_cons rfl (op_pure (p_load rfl sc_bools (by repeat (first | exact List.Mem.head _ | apply List.Mem.tail)) (by rfl)) rfl ?_)
        refine R_cons rfl (op_callNX (fun p2 : PS => Value.tuple ([Value.pointer (some ⟨p2.bd, 0, none⟩), Value.int .i64 0] : List Value).toArray) (fun p2 => progH p2 (failS s kl)) (fun p2 => p2.wb = none) rfl rfl Try.func26 rfl (by kernel_rfl) rfl (fun w' hm => by obtain ⟨W, cw, hwv, hcw, hW⟩ := wb_reads hr.ok hwb hm (fun x hx => by simp only [List.mem_append, List.mem_cons, hx, true_or, or_true]); exact dfailG i (by omega) p s hr.ok W cw hwv hcw kA kc kl w' hW (hkr.base hm) (prog_at hm (fun x hx => by simp only [List.mem_append, List.mem_cons, hx, true_or, or_true])).1 (prog_at hm (fun x hx => by simp only [List.mem_append, List.mem_cons, hx, true_or, or_true])).2.1) (fun p2 hp2 => ?_))
        refine R_cons rfl (op_pure (p_move rfl) rfl ?_)
        refine R_cons rfl (op_pure (p_extract (i := 0) rfl rfl) rfl ?_)
        refine R_cons rfl (op_pure (p_extract (i := 1) rfl rfl) rfl ?_)
        refine R_cons rfl (op_pure (p_assign rfl) rfl ?_)
        refine R_cons rfl (op_pure (p_assign rfl) rfl ?_)
        refine R_nil ?_
        repeat (first | refine S_scope ?_ | refine S_label ?_ | refine E_noGoto_normal ?_ | refine E_noGoto_ret ?_ | refine E_noGoto_exit ?_ | refine S_yes rfl (by first | with_reducible rfl | decide) ?_ | refine S_no rfl (by first | with_reducible rfl | decide) ?_ | refine S_seq ?_ | refine E_seq ?_ | refine S_block ?_ | refine E_block_normal ?_ | refine S_skip ?_ | refine S_exit ?_ | refine S_ret ?_ | refine E_then_exit ?_ | refine E_then_ret ?_ | refine E_block_ret ?_ | refine E_block_exit ?_ | refine E_block_exit_other rfl ?_)
        refine S_region ?_
        refine R_cons rfl (op_pure (p_move rfl) rfl ?_)
        refine R_cons rfl (op_pure (by first | exact p_fieldAddr0 rfl fd_almonerlaw22_Act_2 | exact p_fieldAddr rfl fd_almonerlaw22_Act_2) rfl ?_)
        refine R_cons rfl (op_pure (p_load rfl sc_bools (List.mem_append_right _ (List.mem_cons_self ..)) (by rfl)) rfl ?_)
        refine R_cons rfl (op_callNX (fun t : QS × Hp => .pointer (some ⟨t.1.br, 0, none⟩)) (fun t => refH t.1 (lowL (failS s kl).left) (failS s kl).bl ++ t.2) (fun t => Rel i (failS s kl) t.1 ∧ t.1.dat t.2) rfl rfl Try.func30 rfl (by kernel_rfl) rfl (fun w' hm => rfailX i (by omega) s q hr kA kc kl w' (hkr.base hm) (at_of hm hr (fun x hx => by simp only [List.mem_append, List.mem_cons, hx, true_or, or_true]) (fun x hx => by simp only [List.mem_append, List.mem_cons, hx, true_or, or_true]) hd)) (fun t ht => ?_))
        refine R_cons rfl (op_pure (p_assign rfl) rfl ?_)
        refine R_nil ?_
        repeat (first | refine S_scope ?_ | refine S_label ?_ | refine E_noGoto_normal ?_ | refine E_noGoto_ret ?_ | refine E_noGoto_exit ?_ | refine S_yes rfl (by first | with_reducible rfl | decide) ?_ | refine S_no rfl (by first | with_reducible rfl | decide) ?_ | refine S_seq ?_ | refine E_seq ?_ | refine S_block ?_ | refine E_block_normal ?_ | refine S_skip ?_ | refine S_exit ?_ | refine S_ret ?_ | refine E_then_exit ?_ | refine E_then_ret ?_ | refine E_block_ret ?_ | refine E_block_exit ?_ | refine E_block_exit_other rfl ?_)
        obtain ⟨q2, D2⟩ := t
        obtain ⟨hr2, hd2⟩ := ht
        dsimp only at hr2 hd2 ⊢
        refine S_perm (List.Perm.of_eq (List.append_assoc _ _ _).symm) ?_
        refine S_drop (Fewer.inl _ _) ?_
        have hwb2 : wbOk p2.wb (failS s kl).ws := by rw [hp2]; show (failS s kl).ws = []; unfold failS; rfl
        refine S_region ?_
        refine R_cons rfl (op_pure (p_move rfl) rfl ?_)
        refine R_cons rfl (op_pure (p_bin rfl rfl (b_neq (r := false) rfl)) rfl ?_)
        refine R_nil ?_
        repeat (first | refine S_scope ?_ | refine S_label ?_ | refine E_noGoto_normal ?_ | refine E_noGoto_ret ?_ | refine E_noGoto_exit ?_ | refine S_yes rfl (by first | with_reducible rfl | decide) ?_ | refine S_no rfl (by first | with_reducible rfl | decide) ?_ | refine S_seq ?_ | refine E_seq ?_ | refine S_block ?_ | refine E_block_normal ?_ | refine S_skip ?_ | refine S_exit ?_ | refine S_ret ?_ | refine E_then_exit ?_ | refine E_then_ret ?_ | refine E_block_ret ?_ | refine E_block_exit ?_ | refine E_block_exit_other rfl ?_)
        refine S_region ?_
        refine R_cons rfl (op_pure (p_move rfl) rfl ?_)
        refine R_cons rfl (op_pure (p_move rfl) rfl ?_)
        refine R_cons rfl (op_callNX (fun b : Nat => Value.tuple ([cPtr (mkC (opn (failS s kl) at_).1 b 0), Value.int .i64 (opn (failS s kl) at_).2] : List Value).toArray) (fun b => cHp (mkC (opn (failS s kl) at_).1 b 0) p2.bd at_.toNat) (fun _ => True) rfl rfl Try.func20 rfl (by kernel_rfl) rfl (fun w' hm => copenU i p2 (failS s kl) hr2.ok at_ w' (prog_at hm (fun x hx => by simp only [List.mem_append, List.mem_cons, hx, true_or, or_true])).1 (prog_at hm (fun x hx => by simp only [List.mem_append, List.mem_cons, hx, true_or, or_true])).2.2) (fun c1 _ => ?_))
        refine R_cons rfl (op_pure (p_move rfl) rfl ?_)
        refine R_cons rfl (op_pure (p_extract (i := 0) rfl rfl) rfl ?_)
        refine R_cons rfl (op_pure (p_extract (i := 1) rfl rfl) rfl ?_)
        refine R_cons rfl (op_pure (p_assign rfl) rfl ?_)
        refine R_cons rfl (op_pure (p_assign rfl) rfl ?_)
        refine R_nil ?_
        repeat (first | refine S_scope ?_ | refine S_label ?_ | refine E_noGoto_normal ?_ | refine E_noGoto_ret ?_ | refine E_noGoto_exit ?_ | refine S_yes rfl (by first | with_reducible rfl | decide) ?_ | refine S_no rfl (by first | with_reducible rfl | decide) ?_ | refine S_seq ?_ | refine E_seq ?_ | refine S_block ?_ | refine E_block_normal ?_ | refine S_skip ?_ | refine S_exit ?_ | refine S_ret ?_ | refine E_then_exit ?_ | refine E_then_ret ?_ | refine E_block_ret ?_ | refine E_block_exit ?_ | refine E_block_exit_other rfl ?_)
        refine S_region ?_
        refine R_cons rfl (op_pure (p_move rfl) rfl ?_)
        refine R_cons rfl (op_pure (p_move rfl) rfl ?_)
        refine R_cons rfl (op_callNX (fun b : Nat => Value.tuple ([rPtr (mkC (opn (failS s kl) at_).1 0 b), Value.int .i64 (opn (failS s kl) at_).2] : List Value).toArray) (fun b => rHp (mkC (opn (failS s kl) at_).1 0 b) q2.br at_.toNat) (fun _ => True) rfl rfl Try.func28 rfl (by kernel_rfl) rfl (fun w' hm => ropenU i (by omega) (failS s kl) q2 hr2 at_ w' (at_of hm hr2 (fun x hx => by simp only [List.mem_append, List.mem_cons, hx, true_or, or_true]) (fun x hx => by simp only [List.mem_append, List.mem_cons, hx, true_or, or_true]) hd2)) (fun c2 _ => ?_))
        refine R_cons rfl (op_pure (p_move rfl) rfl ?_)
        refine R_cons rfl (op_pure (p_extract (i := 0) rfl rfl) rfl ?_)
        refine R_cons rfl (op_pure (p_extract (i := 1) rfl rfl) rfl ?_)
        refine R_cons rfl (op_pure (p_assign rfl) rfl ?_)
        refine R_cons rfl (op_pure (p_assign rfl) rfl ?_)
        refine R_nil ?_
        repeat (first | refine S_scope ?_ | refine S_label ?_ | refine E_noGoto_normal ?_ | refine E_noGoto_ret ?_ | refine E_noGoto_exit ?_ | refine S_yes rfl (by first | with_reducible rfl | decide) ?_ | refine S_no rfl (by first | with_reducible rfl | decide) ?_ | refine S_seq ?_ | refine E_seq ?_ | refine S_block ?_ | refine E_block_normal ?_ | refine S_skip ?_ | refine S_exit ?_ | refine S_ret ?_ | refine E_then_exit ?_ | refine E_then_ret ?_ | refine E_block_ret ?_ | refine E_block_exit ?_ | refine E_block_exit_other rfl ?_)
        refine S_region ?_
        refine R_cons rfl (op_pure (p_move rfl) rfl ?_)
        refine R_cons rfl (op_pure (p_move rfl) rfl ?_)
        refine R_cons rfl (op_pure (p_bin rfl rfl (b_neq (show ((opn (failS s kl) at_).2 != (opn (failS s kl) at_).2) = false by simp))) rfl ?_)
        refine R_nil ?_
        repeat (first | refine S_scope ?_ | refine S_label ?_ | refine E_noGoto_normal ?_ | refine E_noGoto_ret ?_ | refine E_noGoto_exit ?_ | refine S_yes rfl (by first | with_reducible rfl | decide) ?_ | refine S_no rfl (by first | with_reducible rfl | decide) ?_ | refine S_seq ?_ | refine E_seq ?_ | refine S_block ?_ | refine E_block_normal ?_ | refine S_skip ?_ | refine S_exit ?_ | refine S_ret ?_ | refine E_then_exit ?_ | refine E_then_ret ?_ | refine E_block_ret ?_ | refine E_block_exit ?_ | refine E_block_exit_other rfl ?_)
        rw [cPtr_mk _ c1 c2, cHp_mk _ c1 c2, rPtr_mk _ c1 c2, rHp_mk _ c1 c2]; have hcc2 := opn_ok (failS s kl) at_ c1 c2; generalize mkC (opn (failS s kl) at_).1 c1 c2 = c3 at hcc2 ⊢; exact E_perm (perm6 _ _ _ _) (E_midE ⟨i, (failS s kl), p2, q2, D2, c3⟩ ⟨rel_mono hr2 (Nat.le_succ i), hwb2, hd2, hcc2⟩ (by repeat (first | exact Sub.nil | refine Sub.cons rfl ?_)) (Fewer.refl _))
      · -- a sector turned
        repeat (first | refine S_scope ?_ | refine S_label ?_ | refine E_noGoto_normal ?_ | refine E_noGoto_ret ?_ | refine E_noGoto_exit ?_ | refine S_yes rfl (by first | with_reducible rfl | decide) ?_ | refine S_no rfl (by first | with_reducible rfl | decide) ?_ | refine S_seq ?_ | refine E_seq ?_ | refine S_block ?_ | refine E_block_normal ?_ | refine S_skip ?_ | refine S_exit ?_ | refine S_ret ?_ | refine E_then_exit ?_ | refine E_then_ret ?_ | refine E_block_ret ?_ | refine E_block_exit ?_ | refine E_block_exit_other rfl ?_)
        refine S_region ?_
        refine R_cons rfl (op_pure (p_bin rfl rfl (b_eql (r := false) rfl)) rfl ?_)
        refine R_cons rfl (op_pure (p_assign rfl) rfl ?_)
        refine R_nil ?_
        repeat (first | refine S_scope ?_ | refine S_label ?_ | refine E_noGoto_normal ?_ | refine E_noGoto_ret ?_ | refine E_noGoto_exit ?_ | refine S_yes rfl (by first | with_reducible rfl | decide) ?_ | refine S_no rfl (by first | with_reducible rfl | decide) ?_ | refine S_seq ?_ | refine E_seq ?_ | refine S_block ?_ | refine E_block_normal ?_ | refine S_skip ?_ | refine S_exit ?_ | refine S_ret ?_ | refine E_then_exit ?_ | refine E_then_ret ?_ | refine E_block_ret ?_ | refine E_block_exit ?_ | refine E_block_exit_other rfl ?_)
        refine S_region ?_
        refine R_cons rfl (op_pure (p_bin rfl rfl (b_eql (r := false) rfl)) rfl ?_)
        refine R_cons rfl (op_pure (p_assign rfl) rfl ?_)
        refine R_nil ?_
        repeat (first | refine S_scope ?_ | refine S_label ?_ | refine E_noGoto_normal ?_ | refine E_noGoto_ret ?_ | refine E_noGoto_exit ?_ | refine S_yes rfl (by first | with_reducible rfl | decide) ?_ | refine S_no rfl (by first | with_reducible rfl | decide) ?_ | refine S_seq ?_ | refine E_seq ?_ | refine S_block ?_ | refine E_block_normal ?_ | refine S_skip ?_ | refine S_exit ?_ | refine S_ret ?_ | refine E_then_exit ?_ | refine E_then_ret ?_ | refine E_block_ret ?_ | refine E_block_exit ?_ | refine E_block_exit_other rfl ?_)
        refine S_region ?_
        refine R_cons rfl (op_pure (p_bin rfl rfl (b_eql (r := true) rfl)) rfl ?_)
        refine R_cons rfl (op_pure (p_assign rfl) rfl ?_)
        refine R_nil ?_
        repeat (first | refine S_scope ?_ | refine S_label ?_ | refine E_noGoto_normal ?_ | refine E_noGoto_ret ?_ | refine E_noGoto_exit ?_ | refine S_yes rfl (by first | with_reducible rfl | decide) ?_ | refine S_no rfl (by first | with_reducible rfl | decide) ?_ | refine S_seq ?_ | refine E_seq ?_ | refine S_block ?_ | refine E_block_normal ?_ | refine S_skip ?_ | refine S_exit ?_ | refine S_ret ?_ | refine E_then_exit ?_ | refine E_then_ret ?_ | refine E_block_ret ?_ | refine E_block_exit ?_ | refine E_block_exit_other rfl ?_)
        refine S_cutE (σ := PlayS) (fun x => [(142, .bool false),(11, .int .i64 (i : Int)), (10, rPtr x.c), (9, cPtr x.c), (7, .pointer (some ⟨x.q.br, 0, none⟩)), (5, .pointer (some ⟨x.p.bd, 0, none⟩)), (1, .slice (some ⟨ba, offa, none⟩) l.length c), (0, .int .i64 at_)]) (fun x => ((cHp x.c x.p.bd at_.toNat ++ rHp x.c x.q.br at_.toNat) ++ (progH x.p x.s ++ (refH x.q (lowL x.s.left) x.s.bl ++ x.D)))) (fun x => (Rel (i + 1) x.s x.q ∧ wbOk x.p.wb x.s.ws ∧ x.q.dat x.D ∧ cOk at_ x.c)) ?_ ?_
        · by_cases hbad : at_ < 0 ∨ 3 ≤ at_ ∨ a < 0 ∨ 64 ≤ a
          · skip
            refine S_drawn (by kernel_rfl) (.keep rfl .nil) ?_
            refine D_take 0 rfl (by kernel_rfl) (by kernel_rfl) (by kernel_rfl) (by repeat (first | exact calm_body | exact calm_mid | apply calm_noGoto | exact calm_midE | apply calm_then | apply calm_block)) (p_move rfl) rfl ?_
            refine D_take 1 rfl (by kernel_rfl) (by kernel_rfl) (by kernel_rfl) (by repeat (first | exact calm_body | exact calm_mid | apply calm_noGoto | exact calm_midE | apply calm_then | apply calm_block)) (p_move rfl) rfl ?_
            refine D_take 2 rfl (by kernel_rfl) (by kernel_rfl) (by kernel_rfl) (by repeat (first | exact calm_body | exact calm_mid | apply calm_noGoto | exact calm_midE | apply calm_then | apply calm_block)) (by first | exact p_fieldAddr0 rfl fd_almonerlaw22_Act_3 | exact p_fieldAddr rfl fd_almonerlaw22_Act_3) rfl ?_
            refine D_take 3 rfl (by kernel_rfl) (by kernel_rfl) (by kernel_rfl) (by repeat (first | exact calm_body | exact calm_mid | apply calm_noGoto | exact calm_midE | apply calm_then | apply calm_block)) (p_load rfl sc_int (by repeat (first | exact List.Mem.head _ | apply List.Mem.tail)) (by rfl)) rfl ?_
            refine D_take 4 rfl (by kernel_rfl) (by kernel_rfl) (by kernel_rfl) (by repeat (first | exact calm_body | exact calm_mid | apply calm_noGoto | exact calm_midE | apply calm_then | apply calm_block)) (by first | exact p_fieldAddr0 rfl fd_almonerlaw22_Act_4 | exact p_fieldAddr rfl fd_almonerlaw22_Act_4) rfl ?_
            refine D_take 5 rfl (by kernel_rfl) (by kernel_rfl) (by kernel_rfl) (by repeat (first | exact calm_body | exact calm_mid | apply calm_noGoto | exact calm_midE | apply calm_then | apply calm_block)) (p_load rfl sc_u8 (by repeat (first | exact List.Mem.head _ | apply List.Mem.tail)) (by rfl)) rfl ?_
            refine D_take 7 rfl (by kernel_rfl) (by kernel_rfl) (by kernel_rfl) (by repeat (first | exact calm_body | exact calm_mid | apply calm_noGoto | exact calm_midE | apply calm_then | apply calm_block)) (p_move rfl) rfl ?_
            refine D_take 8 rfl (by kernel_rfl) (by kernel_rfl) (by kernel_rfl) (by repeat (first | exact calm_body | exact calm_mid | apply calm_noGoto | exact calm_midE | apply calm_then | apply calm_block)) (p_move rfl) rfl ?_
            refine D_take 9 rfl (by kernel_rfl) (by kernel_rfl) (by kernel_rfl) (by repeat (first | exact calm_body | exact calm_mid | apply calm_noGoto | exact calm_midE | apply calm_then | apply calm_block)) (by first | exact p_fieldAddr0 rfl fd_almonerlaw22_Act_3 | exact p_fieldAddr rfl fd_almonerlaw22_Act_3) rfl ?_
            refine D_take 10 rfl (by kernel_rfl) (by kernel_rfl) (by kernel_rfl) (by repeat (first | exact calm_body | exact calm_mid | apply calm_noGoto | exact calm_midE | apply calm_then | apply calm_block)) (p_load rfl sc_int (by repeat (first | exact List.Mem.head _ | apply List.Mem.tail)) (by rfl)) rfl ?_
            refine D_take 11 rfl (by kernel_rfl) (by kernel_rfl) (by kernel_rfl) (by repeat (first | exact calm_body | exact calm_mid | apply calm_noGoto | exact calm_midE | apply calm_then | apply calm_block)) (by first | exact p_fieldAddr0 rfl fd_almonerlaw22_Act_4 | exact p_fieldAddr rfl fd_almonerlaw22_Act_4) rfl ?_
            refine D_take 12 rfl (by kernel_rfl) (by kernel_rfl) (by kernel_rfl) (by repeat (first | exact calm_body | exact calm_mid | apply calm_noGoto | exact calm_midE | apply calm_then | apply calm_block)) (p_load rfl sc_u8 (by repeat (first | exact List.Mem.head _ | apply List.Mem.tail)) (by rfl)) rfl ?_
            refine D_only 6 rfl (by kernel_rfl) rfl (op_callV rfl rfl Try.func24 rfl (by kernel_rfl) rfl (Nat.le_refl _) (fun w' hm => dturn_arg p s at_ a b hbad w' (prog_at hm (fun x hx => by simp only [List.mem_append, List.mem_cons, hx, true_or, or_true])).1) ?_)
            refine ⟨(by repeat (first | exact Fewer.nil | refine Fewer.keep rfl ?_ | refine Fewer.drop ?_ | exact Fewer.refl _ | exact Fewer.inl _ _ | (simp only [List.append_nil]; first | exact Fewer.inl _ _ | exact Fewer.refl _))), ?_⟩
            refine D_only 13 rfl (by kernel_rfl) rfl (op_callV rfl rfl Try.func31 rfl (by kernel_rfl) rfl (Nat.le_refl _) (fun w' hm => rturn_arg q (lowL s.left) s.bl at_ a b hbad w' (at_of hm hr (fun x hx => by simp only [List.mem_append, List.mem_cons, hx, true_or, or_true]) (fun x hx => by simp only [List.mem_append, List.mem_cons, hx, true_or, or_true]) hd).row) ?_)
            refine ⟨(by repeat (first | exact Fewer.nil | refine Fewer.keep rfl ?_ | refine Fewer.drop ?_ | exact Fewer.refl _ | exact Fewer.inl _ _ | (simp only [List.append_nil]; first | exact Fewer.inl _ _ | exact Fewer.refl _))), ?_⟩
            refine D_take 14 rfl (by kernel_rfl) (by kernel_rfl) (by kernel_rfl) (by repeat (first | exact calm_body | exact calm_mid | apply calm_noGoto | exact calm_midE | apply calm_then | apply calm_block)) (p_bin rfl rfl (b_neq (r := false) rfl)) rfl ?_
            refine D_done (by kernel_rfl) ?_
            exact E_midE ⟨i, s, p, q, D, cc⟩ ⟨rel_mono hr (Nat.le_succ i), hwb, hd, hcc⟩ (by repeat (first | exact Sub.nil | refine Sub.cons rfl ?_)) (.drop (Fewer.refl _))
          have hat : at_ = ((at_.toNat : Nat) : Int) := by omega
          have haa : a = ((a.toNat : Nat) : Int) := by omega
          have hat3 : at_.toNat < 3 := by omega
          have ha3 : a.toNat < 64 := by omega
          by_cases hbl : s.bl = true
          · skip
            refine S_drawn (by kernel_rfl) (.keep rfl .nil) ?_
            refine D_take 0 rfl (by kernel_rfl) (by kernel_rfl) (by kernel_rfl) (by repeat (first | exact calm_body | exact calm_mid | apply calm_noGoto | exact calm_midE | apply calm_then | apply calm_block)) (p_move rfl) rfl ?_
            refine D_take 1 rfl (by kernel_rfl) (by kernel_rfl) (by kernel_rfl) (by repeat (first | exact calm_body | exact calm_mid | apply calm_noGoto | exact calm_midE | apply calm_then | apply calm_block)) (p_move rfl) rfl ?_
            refine D_take 2 rfl (by kernel_rfl) (by kernel_rfl) (by kernel_rfl) (by repeat (first | exact calm_body | exact calm_mid | apply calm_noGoto | exact calm_midE | apply calm_then | apply calm_block)) (by first | exact p_fieldAddr0 rfl fd_almonerlaw22_Act_3 | exact p_fieldAddr rfl fd_almonerlaw22_Act_3) rfl ?_
            refine D_take 3 rfl (by kernel_rfl) (by kernel_rfl) (by kernel_rfl) (by repeat (first | exact calm_body | exact calm_mid | apply calm_noGoto | exact calm_midE | apply calm_then | apply calm_block)) (p_load rfl sc_int (by repeat (first | exact List.Mem.head _ | apply List.Mem.tail)) (by rfl)) rfl ?_
            refine D_take 4 rfl (by kernel_rfl) (by kernel_rfl) (by kernel_rfl) (by repeat (first | exact calm_body | exact calm_mid | apply calm_noGoto | exact calm_midE | apply calm_then | apply calm_block)) (by first | exact p_fieldAddr0 rfl fd_almonerlaw22_Act_4 | exact p_fieldAddr rfl fd_almonerlaw22_Act_4) rfl ?_
            refine D_take 5 rfl (by kernel_rfl) (by kernel_rfl) (by kernel_rfl) (by repeat (first | exact calm_body | exact calm_mid | apply calm_noGoto | exact calm_midE | apply calm_then | apply calm_block)) (p_load rfl sc_u8 (by repeat (first | exact List.Mem.head _ | apply List.Mem.tail)) (by rfl)) rfl ?_
            refine D_take 7 rfl (by kernel_rfl) (by kernel_rfl) (by kernel_rfl) (by repeat (first | exact calm_body | exact calm_mid | apply calm_noGoto | exact calm_midE | apply calm_then | apply calm_block)) (p_move rfl) rfl ?_
            refine D_take 8 rfl (by kernel_rfl) (by kernel_rfl) (by kernel_rfl) (by repeat (first | exact calm_body | exact calm_mid | apply calm_noGoto | exact calm_midE | apply calm_then | apply calm_block)) (p_move rfl) rfl ?_
            refine D_take 9 rfl (by kernel_rfl) (by kernel_rfl) (by kernel_rfl) (by repeat (first | exact calm_body | exact calm_mid | apply calm_noGoto | exact calm_midE | apply calm_then | apply calm_block)) (by first | exact p_fieldAddr0 rfl fd_almonerlaw22_Act_3 | exact p_fieldAddr rfl fd_almonerlaw22_Act_3) rfl ?_
            refine D_take 10 rfl (by kernel_rfl) (by kernel_rfl) (by kernel_rfl) (by repeat (first | exact calm_body | exact calm_mid | apply calm_noGoto | exact calm_midE | apply calm_then | apply calm_block)) (p_load rfl sc_int (by repeat (first | exact List.Mem.head _ | apply List.Mem.tail)) (by rfl)) rfl ?_
            refine D_take 11 rfl (by kernel_rfl) (by kernel_rfl) (by kernel_rfl) (by repeat (first | exact calm_body | exact calm_mid | apply calm_noGoto | exact calm_midE | apply calm_then | apply calm_block)) (by first | exact p_fieldAddr0 rfl fd_almonerlaw22_Act_4 | exact p_fieldAddr rfl fd_almonerlaw22_Act_4) rfl ?_
            refine D_take 12 rfl (by kernel_rfl) (by kernel_rfl) (by kernel_rfl) (by repeat (first | exact calm_body | exact calm_mid | apply calm_noGoto | exact calm_midE | apply calm_then | apply calm_block)) (p_load rfl sc_u8 (by repeat (first | exact List.Mem.head _ | apply List.Mem.tail)) (by rfl)) rfl ?_
            refine D_only 6 rfl (by kernel_rfl) rfl (op_callV rfl rfl Try.func24 rfl (by kernel_rfl) rfl (Nat.le_refl _) (fun w' hm => by have h := dturn_blown p s at_.toNat a.toNat hat3 ha3 b hbl w' (prog_at hm (fun x hx => by simp only [List.mem_append, List.mem_cons, hx, true_or, or_true])).1; rw [← hat, ← haa] at h; exact h) ?_)
            refine ⟨(by repeat (first | exact Fewer.nil | refine Fewer.keep rfl ?_ | refine Fewer.drop ?_ | exact Fewer.refl _ | exact Fewer.inl _ _ | (simp only [List.append_nil]; first | exact Fewer.inl _ _ | exact Fewer.refl _))), ?_⟩
            refine D_only 13 rfl (by kernel_rfl) rfl (op_callV rfl rfl Try.func31 rfl (by kernel_rfl) rfl (Nat.le_refl _) (fun w' hm => by have h2 := (at_of (left := lowL s.left) (bl := s.bl) hm hr (fun x hx => by simp only [List.mem_append, List.mem_cons, hx, true_or, or_true]) (fun x hx => by simp only [List.mem_append, List.mem_cons, hx, true_or, or_true]) hd).row; rw [hbl] at h2; have h := rturn_blown q (lowL s.left) at_.toNat a.toNat hat3 ha3 b w' h2; rw [← hat, ← haa] at h; exact h) ?_)
            refine ⟨(by repeat (first | exact Fewer.nil | refine Fewer.keep rfl ?_ | refine Fewer.drop ?_ | exact Fewer.refl _ | exact Fewer.inl _ _ | (simp only [List.append_nil]; first | exact Fewer.inl _ _ | exact Fewer.refl _))), ?_⟩
            refine D_take 14 rfl (by kernel_rfl) (by kernel_rfl) (by kernel_rfl) (by repeat (first | exact calm_body | exact calm_mid | apply calm_noGoto | exact calm_midE | apply calm_then | apply calm_block)) (p_bin rfl rfl (b_neq (r := false) rfl)) rfl ?_
            refine D_done (by kernel_rfl) ?_
            exact E_midE ⟨i, s, p, q, D, cc⟩ ⟨rel_mono hr (Nat.le_succ i), hwb, hd, hcc⟩ (by repeat (first | exact Sub.nil | refine Sub.cons rfl ?_)) (.drop (Fewer.refl _))
          have hbl0 : s.bl = false := by revert hbl; cases s.bl <;> simp
          refine S_drawn (by kernel_rfl) (.keep rfl .nil) ?_
          refine D_take 0 rfl (by kernel_rfl) (by kernel_rfl) (by kernel_rfl) (by repeat (first | exact calm_body | exact calm_mid | apply calm_noGoto | exact calm_midE | apply calm_then | apply calm_block)) (p_move rfl) rfl ?_
          refine D_take 1 rfl (by kernel_rfl) (by kernel_rfl) (by kernel_rfl) (by repeat (first | exact calm_body | exact calm_mid | apply calm_noGoto | exact calm_midE | apply calm_then | apply calm_block)) (p_move rfl) rfl ?_
          refine D_take 2 rfl (by kernel_rfl) (by kernel_rfl) (by kernel_rfl) (by repeat (first | exact calm_body | exact calm_mid | apply calm_noGoto | exact calm_midE | apply calm_then | apply calm_block)) (by first | exact p_fieldAddr0 rfl fd_almonerlaw22_Act_3 | exact p_fieldAddr rfl fd_almonerlaw22_Act_3) rfl ?_
          refine D_take 3 rfl (by kernel_rfl) (by kernel_rfl) (by kernel_rfl) (by repeat (first | exact calm_body | exact calm_mid | apply calm_noGoto | exact calm_midE | apply calm_then | apply calm_block)) (p_load rfl sc_int (by repeat (first | exact List.Mem.head _ | apply List.Mem.tail)) (by rfl)) rfl ?_
          refine D_take 4 rfl (by kernel_rfl) (by kernel_rfl) (by kernel_rfl) (by repeat (first | exact calm_body | exact calm_mid | apply calm_noGoto | exact calm_midE | apply calm_then | apply calm_block)) (by first | exact p_fieldAddr0 rfl fd_almonerlaw22_Act_4 | exact p_fieldAddr rfl fd_almonerlaw22_Act_4) rfl ?_
          refine D_take 5 rfl (by kernel_rfl) (by kernel_rfl) (by kernel_rfl) (by repeat (first | exact calm_body | exact calm_mid | apply calm_noGoto | exact calm_midE | apply calm_then | apply calm_block)) (p_load rfl sc_u8 (by repeat (first | exact List.Mem.head _ | apply List.Mem.tail)) (by rfl)) rfl ?_
          refine D_take 7 rfl (by kernel_rfl) (by kernel_rfl) (by kernel_rfl) (by repeat (first | exact calm_body | exact calm_mid | apply calm_noGoto | exact calm_midE | apply calm_then | apply calm_block)) (p_move rfl) rfl ?_
          refine D_take 8 rfl (by kernel_rfl) (by kernel_rfl) (by kernel_rfl) (by repeat (first | exact calm_body | exact calm_mid | apply calm_noGoto | exact calm_midE | apply calm_then | apply calm_block)) (p_move rfl) rfl ?_
          refine D_take 9 rfl (by kernel_rfl) (by kernel_rfl) (by kernel_rfl) (by repeat (first | exact calm_body | exact calm_mid | apply calm_noGoto | exact calm_midE | apply calm_then | apply calm_block)) (by first | exact p_fieldAddr0 rfl fd_almonerlaw22_Act_3 | exact p_fieldAddr rfl fd_almonerlaw22_Act_3) rfl ?_
          refine D_take 10 rfl (by kernel_rfl) (by kernel_rfl) (by kernel_rfl) (by repeat (first | exact calm_body | exact calm_mid | apply calm_noGoto | exact calm_midE | apply calm_then | apply calm_block)) (p_load rfl sc_int (by repeat (first | exact List.Mem.head _ | apply List.Mem.tail)) (by rfl)) rfl ?_
          refine D_take 11 rfl (by kernel_rfl) (by kernel_rfl) (by kernel_rfl) (by repeat (first | exact calm_body | exact calm_mid | apply calm_noGoto | exact calm_midE | apply calm_then | apply calm_block)) (by first | exact p_fieldAddr0 rfl fd_almonerlaw22_Act_4 | exact p_fieldAddr rfl fd_almonerlaw22_Act_4) rfl ?_
          refine D_take 12 rfl (by kernel_rfl) (by kernel_rfl) (by kernel_rfl) (by repeat (first | exact calm_body | exact calm_mid | apply calm_noGoto | exact calm_midE | apply calm_then | apply calm_block)) (p_load rfl sc_u8 (by repeat (first | exact List.Mem.head _ | apply List.Mem.tail)) (by rfl)) rfl ?_
          refine D_only 6 rfl (by kernel_rfl) rfl (op_callXK (fun _ : Unit => .int .i64 0) (fun _ => progH (⟨p.bd, p.bs, p.cs, p.bn, p.cn, p.sps, p.spn, none⟩ : PS) (turnS s at_.toNat a.toNat b)) (fun _ => True) (Hc := progH p s) (K := ((b12, .cells [Value.int .u8 (k.toNat : Int), .int .i64 n, .slice kA kl.length kc, .int .i64 a, .int .u8 (b.toNat : Int), .slice bA bx.length bc].toArray 75 (0, 0)) :: (cHp cc p.bd at_.toNat ++ rHp cc q.br at_.toNat)) ++ (refH q (lowL s.left) s.bl ++ D)) rfl rfl Try.func24 rfl (by kernel_rfl) rfl (perm1 ((b12, .cells [Value.int .u8 (k.toNat : Int), .int .i64 n, .slice kA kl.length kc, .int .i64 a, .int .u8 (b.toNat : Int), .slice bA bx.length bc].toArray 75 (0, 0)) :: (cHp cc p.bd at_.toNat ++ rHp cc q.br at_.toNat)) _ _) (fun w' _ hm => by have h := dturnG i p s hr.ok at_.toNat a.toNat hat3 ha3 b hbl0 w' hm; rw [← hat, ← haa] at h; exact h) (fun _ _ => ?_))
          refine ⟨(by repeat (first | exact Fewer.nil | refine Fewer.keep rfl ?_ | refine Fewer.drop ?_ | exact Fewer.refl _ | exact Fewer.inl _ _ | (simp only [List.append_nil]; first | exact Fewer.inl _ _ | exact Fewer.refl _))), ?_⟩
          refine D_only 13 rfl (by kernel_rfl) rfl (op_callXK (fun _ : QS × Hp => .int .i64 0) (fun t => t.2 ++ refH t.1 (lowL (turnS s at_.toNat a.toNat b).left) (turnS s at_.toNat a.toNat b).bl) (fun t => t.1.br = q.br ∧ Rel i (turnS s at_.toNat a.toNat b) t.1 ∧ ∀ D, q.dat D → t.1.dat (t.2 ++ D)) (Hc := refH q (lowL s.left) s.bl) (K := (((b12, .cells [Value.int .u8 (k.toNat : Int), .int .i64 n, .slice kA kl.length kc, .int .i64 a, .int .u8 (b.toNat : Int), .slice bA bx.length bc].toArray 75 (0, 0)) :: (cHp cc p.bd at_.toNat ++ rHp cc q.br at_.toNat)) ++ progH (⟨p.bd, p.bs, p.cs, p.bn, p.cn, p.sps, p.spn, none⟩ : PS) (turnS s at_.toNat a.toNat b)) ++ D) rfl rfl Try.func31 rfl (by kernel_rfl) rfl (perm2 _ _ _ _) (fun w' hm0 hm => by have hq := at_of (left := lowL s.left) (bl := s.bl) hm0 hr (fun x hx => by simp only [List.mem_append, List.mem_cons, hx, true_or, or_true]) (fun x hx => by simp only [List.mem_append, List.mem_cons, hx, true_or, or_true]) hd; have h := rturnX i (by omega) s q hr hbl0 at_.toNat a.toNat hat3 ha3 b w' hq.sua hq.wsa hm; rw [← hat, ← haa] at h; exact h) (fun t ht => ?_))
          refine ⟨(by repeat (first | exact Fewer.nil | refine Fewer.keep rfl ?_ | refine Fewer.drop ?_ | exact Fewer.refl _ | exact Fewer.inl _ _ | (simp only [List.append_nil]; first | exact Fewer.inl _ _ | exact Fewer.refl _))), ?_⟩
          refine D_take 14 rfl (by kernel_rfl) (by kernel_rfl) (by kernel_rfl) (by repeat (first | exact calm_body | exact calm_mid | apply calm_noGoto | exact calm_midE | apply calm_then | apply calm_block)) (p_bin rfl rfl (b_neq (r := false) rfl)) rfl ?_
          refine D_done (by kernel_rfl) ?_
          obtain ⟨⟨br', bS', cS', spS', lb', su', ws'⟩, ds⟩ := t
          obtain ⟨hbr', hr', hd'⟩ := ht
          dsimp only at hbr'
          subst hbr'
          exact E_perm (perm3 ((b12, .cells [Value.int .u8 (k.toNat : Int), .int .i64 n, .slice kA kl.length kc, .int .i64 a, .int .u8 (b.toNat : Int), .slice bA bx.length bc].toArray 75 (0, 0)) :: (cHp cc p.bd at_.toNat ++ rHp cc q.br at_.toNat)) _ D ds _) (E_midE ⟨i, turnS s at_.toNat a.toNat b, (⟨p.bd, p.bs, p.cs, p.bn, p.cn, p.sps, p.spn, none⟩ : PS), ⟨q.br, bS', cS', spS', lb', su', ws'⟩, ds ++ D, cc⟩ ⟨rel_mono hr' (Nat.le_succ i), (by show (turnS s at_.toNat a.toNat b).ws = []; unfold turnS; rfl), hd' D hd, hcc⟩ (by repeat (first | exact Sub.nil | refine Sub.cons rfl ?_)) (.drop (Fewer.refl _)))
        rintro ⟨j, s2, p2, q2, D2, c2⟩ hg
        dsimp only at hg ⊢
        repeat (first | refine S_scope ?_ | refine S_label ?_ | refine E_noGoto_normal ?_ | refine E_noGoto_ret ?_ | refine E_noGoto_exit ?_ | refine S_yes rfl (by first | with_reducible rfl | decide) ?_ | refine S_no rfl (by first | with_reducible rfl | decide) ?_ | refine S_seq ?_ | refine E_seq ?_ | refine S_block ?_ | refine E_block_normal ?_ | refine S_skip ?_ | refine S_exit ?_ | refine S_ret ?_ | refine E_then_exit ?_ | refine E_then_ret ?_ | refine E_block_ret ?_ | refine E_block_exit ?_ | refine E_block_exit_other rfl ?_)
        exact E_midE ⟨i, s2, p2, q2, D2, c2⟩ hg (by repeat (first | exact Sub.nil | refine Sub.cons rfl ?_)) (Fewer.refl _)
      · -- a sector written
        repeat (first | refine S_scope ?_ | refine S_label ?_ | refine E_noGoto_normal ?_ | refine E_noGoto_ret ?_ | refine E_noGoto_exit ?_ | refine S_yes rfl (by first | with_reducible rfl | decide) ?_ | refine S_no rfl (by first | with_reducible rfl | decide) ?_ | refine S_seq ?_ | refine E_seq ?_ | refine S_block ?_ | refine E_block_normal ?_ | refine S_skip ?_ | refine S_exit ?_ | refine S_ret ?_ | refine E_then_exit ?_ | refine E_then_ret ?_ | refine E_block_ret ?_ | refine E_block_exit ?_ | refine E_block_exit_other rfl ?_)
        refine S_region ?_
        refine R_cons rfl (op_pure (p_bin rfl rfl (b_eql (r := false) rfl)) rfl ?_)
        refine R_cons rfl (op_pure (p_assign rfl) rfl ?_)
        refine R_nil ?_
        repeat (first | refine S_scope ?_ | refine S_label ?_ | refine E_noGoto_normal ?_ | refine E_noGoto_ret ?_ | refine E_noGoto_exit ?_ | refine S_yes rfl (by first | with_reducible rfl | decide) ?_ | refine S_no rfl (by first | with_reducible rfl | decide) ?_ | refine S_seq ?_ | refine E_seq ?_ | refine S_block ?_ | refine E_block_normal ?_ | refine S_skip ?_ | refine S_exit ?_ | refine S_ret ?_ | refine E_then_exit ?_ | refine E_then_ret ?_ | refine E_block_ret ?_ | refine E_block_exit ?_ | refine E_block_exit_other rfl ?_)
        refine S_region ?_
        refine R_cons rfl (op_pure (p_bin rfl rfl (b_eql (r := false) rfl)) rfl ?_)
        refine R_cons rfl (op_pure (p_assign rfl) rfl ?_)
        refine R_nil ?_
        repeat (first | refine S_scope ?_ | refine S_label ?_ | refine E_noGoto_normal ?_ | refine E_noGoto_ret ?_ | refine E_noGoto_exit ?_ | refine S_yes rfl (by first | with_reducible rfl | decide) ?_ | refine S_no rfl (by first | with_reducible rfl | decide) ?_ | refine S_seq ?_ | refine E_seq ?_ | refine S_block ?_ | refine E_block_normal ?_ | refine S_skip ?_ | refine S_exit ?_ | refine S_ret ?_ | refine E_then_exit ?_ | refine E_then_ret ?_ | refine E_block_ret ?_ | refine E_block_exit ?_ | refine E_block_exit_other rfl ?_)
        refine S_region ?_
        refine R_cons rfl (op_pure (p_bin rfl rfl (b_eql (r := false) rfl)) rfl ?_)
        refine R_cons rfl (op_pure (p_assign rfl) rfl ?_)
        refine R_nil ?_
        repeat (first | refine S_scope ?_ | refine S_label ?_ | refine E_noGoto_normal ?_ | refine E_noGoto_ret ?_ | refine E_noGoto_exit ?_ | refine S_yes rfl (by first | with_reducible rfl | decide) ?_ | refine S_no rfl (by first | with_reducible rfl | decide) ?_ | refine S_seq ?_ | refine E_seq ?_ | refine S_block ?_ | refine E_block_normal ?_ | refine S_skip ?_ | refine S_exit ?_ | refine S_ret ?_ | refine E_then_exit ?_ | refine E_then_ret ?_ | refine E_block_ret ?_ | refine E_block_exit ?_ | refine E_block_exit_other rfl ?_)
        refine S_region ?_
        refine R_cons rfl (op_pure (p_bin rfl rfl (b_eql (r := true) rfl)) rfl ?_)
        refine R_cons rfl (op_pure (p_assign rfl) rfl ?_)
        refine R_nil ?_
        repeat (first | refine S_scope ?_ | refine S_label ?_ | refine E_noGoto_normal ?_ | refine E_noGoto_ret ?_ | refine E_noGoto_exit ?_ | refine S_yes rfl (by first | with_reducible rfl | decide) ?_ | refine S_no rfl (by first | with_reducible rfl | decide) ?_ | refine S_seq ?_ | refine E_seq ?_ | refine S_block ?_ | refine E_block_normal ?_ | refine S_skip ?_ | refine S_exit ?_ | refine S_ret ?_ | refine E_then_exit ?_ | refine E_then_ret ?_ | refine E_block_ret ?_ | refine E_block_exit ?_ | refine E_block_exit_other rfl ?_)
        refine S_cutE (σ := PlayS) (fun x => [(155, .bool false),(11, .int .i64 (i : Int)), (10, rPtr x.c), (9, cPtr x.c), (7, .pointer (some ⟨x.q.br, 0, none⟩)), (5, .pointer (some ⟨x.p.bd, 0, none⟩)), (1, .slice (some ⟨ba, offa, none⟩) l.length c), (0, .int .i64 at_)]) (fun x => ((cHp x.c x.p.bd at_.toNat ++ rHp x.c x.q.br at_.toNat) ++ (progH x.p x.s ++ (refH x.q (lowL x.s.left) x.s.bl ++ x.D)))) (fun x => (Rel (i + 1) x.s x.q ∧ wbOk x.p.wb x.s.ws ∧ x.q.dat x.D ∧ cOk at_ x.c)) ?_ ?_
        · by_cases hbad : at_ < 0 ∨ 3 ≤ at_ ∨ 64 < bx.length
          · skip
            refine S_drawn (by kernel_rfl) (.keep rfl .nil) ?_
            refine D_take 0 rfl (by kernel_rfl) (by kernel_rfl) (by kernel_rfl) (by repeat (first | exact calm_body | exact calm_mid | apply calm_noGoto | exact calm_midE | apply calm_then | apply calm_block)) (p_move rfl) rfl ?_
            refine D_take 1 rfl (by kernel_rfl) (by kernel_rfl) (by kernel_rfl) (by repeat (first | exact calm_body | exact calm_mid | apply calm_noGoto | exact calm_midE | apply calm_then | apply calm_block)) (p_move rfl) rfl ?_
            refine D_take 2 rfl (by kernel_rfl) (by kernel_rfl) (by kernel_rfl) (by repeat (first | exact calm_body | exact calm_mid | apply calm_noGoto | exact calm_midE | apply calm_then | apply calm_block)) (by first | exact p_fieldAddr0 rfl fd_almonerlaw22_Act_5 | exact p_fieldAddr rfl fd_almonerlaw22_Act_5) rfl ?_
            refine D_take 3 rfl (by kernel_rfl) (by kernel_rfl) (by kernel_rfl) (by repeat (first | exact calm_body | exact calm_mid | apply calm_noGoto | exact calm_midE | apply calm_then | apply calm_block)) (p_load rfl sc_u8s (by repeat (first | exact List.Mem.head _ | apply List.Mem.tail)) (by rfl)) rfl ?_
            refine D_take 5 rfl (by kernel_rfl) (by kernel_rfl) (by kernel_rfl) (by repeat (first | exact calm_body | exact calm_mid | apply calm_noGoto | exact calm_midE | apply calm_then | apply calm_block)) (p_move rfl) rfl ?_
            refine D_take 6 rfl (by kernel_rfl) (by kernel_rfl) (by kernel_rfl) (by repeat (first | exact calm_body | exact calm_mid | apply calm_noGoto | exact calm_midE | apply calm_then | apply calm_block)) (p_move rfl) rfl ?_
            refine D_take 7 rfl (by kernel_rfl) (by kernel_rfl) (by kernel_rfl) (by repeat (first | exact calm_body | exact calm_mid | apply calm_noGoto | exact calm_midE | apply calm_then | apply calm_block)) (by first | exact p_fieldAddr0 rfl fd_almonerlaw22_Act_5 | exact p_fieldAddr rfl fd_almonerlaw22_Act_5) rfl ?_
            refine D_take 8 rfl (by kernel_rfl) (by kernel_rfl) (by kernel_rfl) (by repeat (first | exact calm_body | exact calm_mid | apply calm_noGoto | exact calm_midE | apply calm_then | apply calm_block)) (p_load rfl sc_u8s (by repeat (first | exact List.Mem.head _ | apply List.Mem.tail)) (by rfl)) rfl ?_
            refine D_only 4 rfl (by kernel_rfl) rfl (op_callV rfl rfl Try.func32 rfl (by kernel_rfl) rfl (Nat.le_refl _) (fun w' hm => dwrite_arg p s at_ bA bx.length bc hbad w' (prog_at hm (fun x hx => by simp only [List.mem_append, List.mem_cons, hx, true_or, or_true])).1) ?_)
            refine ⟨(by repeat (first | exact Fewer.nil | refine Fewer.keep rfl ?_ | refine Fewer.drop ?_ | exact Fewer.refl _ | exact Fewer.inl _ _ | (simp only [List.append_nil]; first | exact Fewer.inl _ _ | exact Fewer.refl _))), ?_⟩
            refine D_only 9 rfl (by kernel_rfl) rfl (op_callV rfl rfl Try.func33 rfl (by kernel_rfl) rfl (Nat.le_refl _) (fun w' hm => rwrite_arg q (lowL s.left) s.bl at_ bA bx.length bc hbad w' (at_of hm hr (fun x hx => by simp only [List.mem_append, List.mem_cons, hx, true_or, or_true]) (fun x hx => by simp only [List.mem_append, List.mem_cons, hx, true_or, or_true]) hd).row) ?_)
            refine ⟨(by repeat (first | exact Fewer.nil | refine Fewer.keep rfl ?_ | refine Fewer.drop ?_ | exact Fewer.refl _ | exact Fewer.inl _ _ | (simp only [List.append_nil]; first | exact Fewer.inl _ _ | exact Fewer.refl _))), ?_⟩
            refine D_take 10 rfl (by kernel_rfl) (by kernel_rfl) (by kernel_rfl) (by repeat (first | exact calm_body | exact calm_mid | apply calm_noGoto | exact calm_midE | apply calm_then | apply calm_block)) (p_bin rfl rfl (b_neq (r := false) rfl)) rfl ?_
            refine D_done (by kernel_rfl) ?_
            exact E_midE ⟨i, s, p, q, D, cc⟩ ⟨rel_mono hr (Nat.le_succ i), hwb, hd, hcc⟩ (by repeat (first | exact Sub.nil | refine Sub.cons rfl ?_)) (.drop (Fewer.refl _))
          have hat : at_ = ((at_.toNat : Nat) : Int) := by omega
          have hat3 : at_.toNat < 3 := by omega
          have hx64 : bx.length ≤ 64 := by omega
          have hne : ((if blownS s.left s.bl then (9 : Int) else 0) != (if blownS s.left s.bl then (9 : Int) else 0)) = false := by simp
          refine S_drawn (by kernel_rfl) (.keep rfl .nil) ?_
          refine D_take 0 rfl (by kernel_rfl) (by kernel_rfl) (by kernel_rfl) (by repeat (first | exact calm_body | exact calm_mid | apply calm_noGoto | exact calm_midE | apply calm_then | apply calm_block)) (p_move rfl) rfl ?_
          refine D_take 1 rfl (by kernel_rfl) (by kernel_rfl) (by kernel_rfl) (by repeat (first | exact calm_body | exact calm_mid | apply calm_noGoto | exact calm_midE | apply calm_then | apply calm_block)) (p_move rfl) rfl ?_
          refine D_take 2 rfl (by kernel_rfl) (by kernel_rfl) (by kernel_rfl) (by repeat (first | exact calm_body | exact calm_mid | apply calm_noGoto | exact calm_midE | apply calm_then | apply calm_block)) (by first | exact p_fieldAddr0 rfl fd_almonerlaw22_Act_5 | exact p_fieldAddr rfl fd_almonerlaw22_Act_5) rfl ?_
          refine D_take 3 rfl (by kernel_rfl) (by kernel_rfl) (by kernel_rfl) (by repeat (first | exact calm_body | exact calm_mid | apply calm_noGoto | exact calm_midE | apply calm_then | apply calm_block)) (p_load rfl sc_u8s (by repeat (first | exact List.Mem.head _ | apply List.Mem.tail)) (by rfl)) rfl ?_
          refine D_take 5 rfl (by kernel_rfl) (by kernel_rfl) (by kernel_rfl) (by repeat (first | exact calm_body | exact calm_mid | apply calm_noGoto | exact calm_midE | apply calm_then | apply calm_block)) (p_move rfl) rfl ?_
          refine D_take 6 rfl (by kernel_rfl) (by kernel_rfl) (by kernel_rfl) (by repeat (first | exact calm_body | exact calm_mid | apply calm_noGoto | exact calm_midE | apply calm_then | apply calm_block)) (p_move rfl) rfl ?_
          refine D_take 7 rfl (by kernel_rfl) (by kernel_rfl) (by kernel_rfl) (by repeat (first | exact calm_body | exact calm_mid | apply calm_noGoto | exact calm_midE | apply calm_then | apply calm_block)) (by first | exact p_fieldAddr0 rfl fd_almonerlaw22_Act_5 | exact p_fieldAddr rfl fd_almonerlaw22_Act_5) rfl ?_
          refine D_take 8 rfl (by kernel_rfl) (by kernel_rfl) (by kernel_rfl) (by repeat (first | exact calm_body | exact calm_mid | apply calm_noGoto | exact calm_midE | apply calm_then | apply calm_block)) (p_load rfl sc_u8s (by repeat (first | exact List.Mem.head _ | apply List.Mem.tail)) (by rfl)) rfl ?_
          refine D_only 4 rfl (by kernel_rfl) rfl (op_callXK (fun _ : Option (Nat × Nat × List Value) => .int .i64 (if blownS s.left s.bl then 9 else 0)) (fun wb => progH (⟨p.bd, p.bs, p.cs, p.bn, p.cn, p.sps, p.spn, wb⟩ : PS) (s.write at_.toNat (pad bx))) (fun wb => wbOk wb (s.write at_.toNat (pad bx)).ws) (Hc := progH p s) (K := ((b12, .cells [Value.int .u8 (k.toNat : Int), .int .i64 n, .slice kA kl.length kc, .int .i64 a, .int .u8 (b.toNat : Int), .slice bA bx.length bc].toArray 75 (0, 0)) :: (cHp cc p.bd at_.toNat ++ rHp cc q.br at_.toNat)) ++ (refH q (lowL s.left) s.bl ++ D)) rfl rfl Try.func32 rfl (by kernel_rfl) rfl (perm1 ((b12, .cells [Value.int .u8 (k.toNat : Int), .int .i64 n, .slice kA kl.length kc, .int .i64 a, .int .u8 (b.toNat : Int), .slice bA bx.length bc].toArray 75 (0, 0)) :: (cHp cc p.bd at_.toNat ++ rHp cc q.br at_.toNat)) _ _) (fun w' hm0 hm => by have h := dwriteX i (by omega) p s hr.ok hwb at_.toNat hat3 bA bc bx hx64 w' (src_of hbr hm0) hm; rw [← hat] at h; exact h) (fun wb hwb2 => ?_))
          refine ⟨(by repeat (first | exact Fewer.nil | refine Fewer.keep rfl ?_ | refine Fewer.drop ?_ | exact Fewer.refl _ | exact Fewer.inl _ _ | (simp only [List.append_nil]; first | exact Fewer.inl _ _ | exact Fewer.refl _))), ?_⟩
          refine D_only 9 rfl (by kernel_rfl) rfl (op_callXK (fun _ : QS × Hp => .int .i64 (if blownS s.left s.bl then 9 else 0)) (fun t => t.2 ++ refH t.1 (lowL (s.write at_.toNat (pad bx)).left) (s.write at_.toNat (pad bx)).bl) (fun t => t.1.br = q.br ∧ Rel (i + 1) (s.write at_.toNat (pad bx)) t.1 ∧ ∀ D, q.dat D → t.1.dat (t.2 ++ D)) (Hc := refH q (lowL s.left) s.bl) (K := (((b12, .cells [Value.int .u8 (k.toNat : Int), .int .i64 n, .slice kA kl.length kc, .int .i64 a, .int .u8 (b.toNat : Int), .slice bA bx.length bc].toArray 75 (0, 0)) :: (cHp cc p.bd at_.toNat ++ rHp cc q.br at_.toNat)) ++ progH (⟨p.bd, p.bs, p.cs, p.bn, p.cn, p.sps, p.spn, wb⟩ : PS) (s.write at_.toNat (pad bx))) ++ D) rfl rfl Try.func33 rfl (by kernel_rfl) rfl (perm2 _ _ _ _) (fun w' hm0 hm => by have h := rwriteX i (by omega) s q hr at_.toNat hat3 bA bc bx hx64 w' (src_of hbr hm0) hm; rw [← hat] at h; exact h) (fun t ht => ?_))
          refine ⟨(by repeat (first | exact Fewer.nil | refine Fewer.keep rfl ?_ | refine Fewer.drop ?_ | exact Fewer.refl _ | exact Fewer.inl _ _ | (simp only [List.append_nil]; first | exact Fewer.inl _ _ | exact Fewer.refl _))), ?_⟩
          refine D_take 10 rfl (by kernel_rfl) (by kernel_rfl) (by kernel_rfl) (by repeat (first | exact calm_body | exact calm_mid | apply calm_noGoto | exact calm_midE | apply calm_then | apply calm_block)) (p_bin rfl rfl (b_neq hne)) rfl ?_
          refine D_done (by kernel_rfl) ?_
          obtain ⟨⟨br', bS', cS', spS', lb', su', ws'⟩, ds⟩ := t
          obtain ⟨hbr', hr', hd'⟩ := ht
          dsimp only at hbr'
          subst hbr'
          exact E_perm (perm3 ((b12, .cells [Value.int .u8 (k.toNat : Int), .int .i64 n, .slice kA kl.length kc, .int .i64 a, .int .u8 (b.toNat : Int), .slice bA bx.length bc].toArray 75 (0, 0)) :: (cHp cc p.bd at_.toNat ++ rHp cc q.br at_.toNat)) _ D ds _) (E_midE ⟨i, s.write at_.toNat (pad bx), (⟨p.bd, p.bs, p.cs, p.bn, p.cn, p.sps, p.spn, wb⟩ : PS), ⟨q.br, bS', cS', spS', lb', su', ws'⟩, ds ++ D, cc⟩ ⟨hr', hwb2, hd' D hd, hcc⟩ (by repeat (first | exact Sub.nil | refine Sub.cons rfl ?_)) (.drop (Fewer.refl _)))
        rintro ⟨j, s2, p2, q2, D2, c2⟩ hg
        dsimp only at hg ⊢
        repeat (first | refine S_scope ?_ | refine S_label ?_ | refine E_noGoto_normal ?_ | refine E_noGoto_ret ?_ | refine E_noGoto_exit ?_ | refine S_yes rfl (by first | with_reducible rfl | decide) ?_ | refine S_no rfl (by first | with_reducible rfl | decide) ?_ | refine S_seq ?_ | refine E_seq ?_ | refine S_block ?_ | refine E_block_normal ?_ | refine S_skip ?_ | refine S_exit ?_ | refine S_ret ?_ | refine E_then_exit ?_ | refine E_then_ret ?_ | refine E_block_ret ?_ | refine E_block_exit ?_ | refine E_block_exit_other rfl ?_)
        exact E_midE ⟨i, s2, p2, q2, D2, c2⟩ hg (by repeat (first | exact Sub.nil | refine Sub.cons rfl ?_)) (Fewer.refl _)
      · -- opened again
        (refine S_drop (.drop (Fewer.refl _)) ?_; refine S_perm List.perm_append_comm ?_; refine S_drop (Fewer.inl _ _) ?_; refine S_perm List.perm_append_comm ?_)
        repeat (first | refine S_scope ?_ | refine S_label ?_ | refine E_noGoto_normal ?_ | refine E_noGoto_ret ?_ | refine E_noGoto_exit ?_ | refine S_yes rfl (by first | with_reducible rfl | decide) ?_ | refine S_no rfl (by first | with_reducible rfl | decide) ?_ | refine S_seq ?_ | refine E_seq ?_ | refine S_block ?_ | refine E_block_normal ?_ | refine S_skip ?_ | refine S_exit ?_ | refine S_ret ?_ | refine E_then_exit ?_ | refine E_then_ret ?_ | refine E_block_ret ?_ | refine E_block_exit ?_ | refine E_block_exit_other rfl ?_)
        refine S_region ?_
        refine R_cons rfl (op_pure (p_bin rfl rfl (b_eql (r := false) rfl)) rfl ?_)
        refine R_cons rfl (op_pure (p_assign rfl) rfl ?_)
        refine R_nil ?_
        repeat (first | refine S_scope ?_ | refine S_label ?_ | refine E_noGoto_normal ?_ | refine E_noGoto_ret ?_ | refine E_noGoto_exit ?_ | refine S_yes rfl (by first | with_reducible rfl | decide) ?_ | refine S_no rfl (by first | with_reducible rfl | decide) ?_ | refine S_seq ?_ | refine E_seq ?_ | refine S_block ?_ | refine E_block_normal ?_ | refine S_skip ?_ | refine S_exit ?_ | refine S_ret ?_ | refine E_then_exit ?_ | refine E_then_ret ?_ | refine E_block_ret ?_ | refine E_block_exit ?_ | refine E_block_exit_other rfl ?_)
        refine S_region ?_
        refine R_cons rfl (op_pure (p_bin rfl rfl (b_eql (r := false) rfl)) rfl ?_)
        refine R_cons rfl (op_pure (p_assign rfl) rfl ?_)
        refine R_nil ?_
        repeat (first | refine S_scope ?_ | refine S_label ?_ | refine E_noGoto_normal ?_ | refine E_noGoto_ret ?_ | refine E_noGoto_exit ?_ | refine S_yes rfl (by first | with_reducible rfl | decide) ?_ | refine S_no rfl (by first | with_reducible rfl | decide) ?_ | refine S_seq ?_ | refine E_seq ?_ | refine S_block ?_ | refine E_block_normal ?_ | refine S_skip ?_ | refine S_exit ?_ | refine S_ret ?_ | refine E_then_exit ?_ | refine E_then_ret ?_ | refine E_block_ret ?_ | refine E_block_exit ?_ | refine E_block_exit_other rfl ?_)
        refine S_region ?_
        refine R_cons rfl (op_pure (p_bin rfl rfl (b_eql (r := false) rfl)) rfl ?_)
        refine R_cons rfl (op_pure (p_assign rfl) rfl ?_)
        refine R_nil ?_
        repeat (first | refine S_scope ?_ | refine S_label ?_ | refine E_noGoto_normal ?_ | refine E_noGoto_ret ?_ | refine E_noGoto_exit ?_ | refine S_yes rfl (by first | with_reducible rfl | decide) ?_ | refine S_no rfl (by first | with_reducible rfl | decide) ?_ | refine S_seq ?_ | refine E_seq ?_ | refine S_block ?_ | refine E_block_normal ?_ | refine S_skip ?_ | refine S_exit ?_ | refine S_ret ?_ | refine E_then_exit ?_ | refine E_then_ret ?_ | refine E_block_ret ?_ | refine E_block_exit ?_ | refine E_block_exit_other rfl ?_)
        refine S_region ?_
        refine R_cons rfl (op_pure (p_bin rfl rfl (b_eql (r := false) rfl)) rfl ?_)
        refine R_cons rfl (op_pure (p_assign rfl) rfl ?_)
        refine R_nil ?_
        repeat (first | refine S_scope ?_ | refine S_label ?_ | refine E_noGoto_normal ?_ | refine E_noGoto_ret ?_ | refine E_noGoto_exit ?_ | refine S_yes rfl (by first | with_reducible rfl | decide) ?_ | refine S_no rfl (by first | with_reducible rfl | decide) ?_ | refine S_seq ?_ | refine E_seq ?_ | refine S_block ?_ | refine E_block_normal ?_ | refine S_skip ?_ | refine S_exit ?_ | refine S_ret ?_ | refine E_then_exit ?_ | refine E_then_ret ?_ | refine E_block_ret ?_ | refine E_block_exit ?_ | refine E_block_exit_other rfl ?_)
        refine S_region ?_
        refine R_cons rfl (op_pure (p_bin rfl rfl (b_eql (r := true) rfl)) rfl ?_)
        refine R_cons rfl (op_pure (p_assign rfl) rfl ?_)
        refine R_nil ?_
        repeat (first | refine S_scope ?_ | refine S_label ?_ | refine E_noGoto_normal ?_ | refine E_noGoto_ret ?_ | refine E_noGoto_exit ?_ | refine S_yes rfl (by first | with_reducible rfl | decide) ?_ | refine S_no rfl (by first | with_reducible rfl | decide) ?_ | refine S_seq ?_ | refine E_seq ?_ | refine S_block ?_ | refine E_block_normal ?_ | refine S_skip ?_ | refine S_exit ?_ | refine S_ret ?_ | refine E_then_exit ?_ | refine E_then_ret ?_ | refine E_block_ret ?_ | refine E_block_exit ?_ | refine E_block_exit_other rfl ?_)
        refine S_region ?_
        refine R_cons rfl (op_pure (p_move rfl) rfl ?_)
        refine R_cons rfl (op_pure (p_move rfl) rfl ?_)
        refine R_cons rfl (op_callNX (fun b : Nat => Value.tuple ([cPtr (mkC (opn s at_).1 b 0), Value.int .i64 (opn s at_).2] : List Value).toArray) (fun b => cHp (mkC (opn s at_).1 b 0) p.bd at_.toNat) (fun _ => True) rfl rfl Try.func20 rfl (by kernel_rfl) rfl (fun w' hm => copenU i p s hr.ok at_ w' (prog_at hm (fun x hx => by simp only [List.mem_append, List.mem_cons, hx, true_or, or_true])).1 (prog_at hm (fun x hx => by simp only [List.mem_append, List.mem_cons, hx, true_or, or_true])).2.2) (fun c1 _ => ?_))
        refine R_cons rfl (op_pure (p_move rfl) rfl ?_)
        refine R_cons rfl (op_pure (p_extract (i := 0) rfl rfl) rfl ?_)
        refine R_cons rfl (op_pure (p_extract (i := 1) rfl rfl) rfl ?_)
        refine R_cons rfl (op_pure (p_assign rfl) rfl ?_)
        refine R_cons rfl (op_pure (p_assign rfl) rfl ?_)
        refine R_nil ?_
        repeat (first | refine S_scope ?_ | refine S_label ?_ | refine E_noGoto_normal ?_ | refine E_noGoto_ret ?_ | refine E_noGoto_exit ?_ | refine S_yes rfl (by first | with_reducible rfl | decide) ?_ | refine S_no rfl (by first | with_reducible rfl | decide) ?_ | refine S_seq ?_ | refine E_seq ?_ | refine S_block ?_ | refine E_block_normal ?_ | refine S_skip ?_ | refine S_exit ?_ | refine S_ret ?_ | refine E_then_exit ?_ | refine E_then_ret ?_ | refine E_block_ret ?_ | refine E_block_exit ?_ | refine E_block_exit_other rfl ?_)
        refine S_region ?_
        refine R_cons rfl (op_pure (p_move rfl) rfl ?_)
        refine R_cons rfl (op_pure (p_move rfl) rfl ?_)
        refine R_cons rfl (op_callNX (fun b : Nat => Value.tuple ([rPtr (mkC (opn s at_).1 0 b), Value.int .i64 (opn s at_).2] : List Value).toArray) (fun b => rHp (mkC (opn s at_).1 0 b) q.br at_.toNat) (fun _ => True) rfl rfl Try.func28 rfl (by kernel_rfl) rfl (fun w' hm => ropenU i (by omega) s q hr at_ w' (at_of hm hr (fun x hx => by simp only [List.mem_append, List.mem_cons, hx, true_or, or_true]) (fun x hx => by simp only [List.mem_append, List.mem_cons, hx, true_or, or_true]) hd)) (fun c2 _ => ?_))
        refine R_cons rfl (op_pure (p_move rfl) rfl ?_)
        refine R_cons rfl (op_pure (p_extract (i := 0) rfl rfl) rfl ?_)
        refine R_cons rfl (op_pure (p_extract (i := 1) rfl rfl) rfl ?_)
        refine R_cons rfl (op_pure (p_assign rfl) rfl ?_)
        refine R_cons rfl (op_pure (p_assign rfl) rfl ?_)
        refine R_nil ?_
        repeat (first | refine S_scope ?_ | refine S_label ?_ | refine E_noGoto_normal ?_ | refine E_noGoto_ret ?_ | refine E_noGoto_exit ?_ | refine S_yes rfl (by first | with_reducible rfl | decide) ?_ | refine S_no rfl (by first | with_reducible rfl | decide) ?_ | refine S_seq ?_ | refine E_seq ?_ | refine S_block ?_ | refine E_block_normal ?_ | refine S_skip ?_ | refine S_exit ?_ | refine S_ret ?_ | refine E_then_exit ?_ | refine E_then_ret ?_ | refine E_block_ret ?_ | refine E_block_exit ?_ | refine E_block_exit_other rfl ?_)
        refine S_region ?_
        refine R_cons rfl (op_pure (p_move rfl) rfl ?_)
        refine R_cons rfl (op_pure (p_move rfl) rfl ?_)
        refine R_cons rfl (op_pure (p_bin rfl rfl (b_neq (show ((opn s at_).2 != (opn s at_).2) = false by simp))) rfl ?_)
        refine R_nil ?_
        repeat (first | refine S_scope ?_ | refine S_label ?_ | refine E_noGoto_normal ?_ | refine E_noGoto_ret ?_ | refine E_noGoto_exit ?_ | refine S_yes rfl (by first | with_reducible rfl | decide) ?_ | refine S_no rfl (by first | with_reducible rfl | decide) ?_ | refine S_seq ?_ | refine E_seq ?_ | refine S_block ?_ | refine E_block_normal ?_ | refine S_skip ?_ | refine S_exit ?_ | refine S_ret ?_ | refine E_then_exit ?_ | refine E_then_ret ?_ | refine E_block_ret ?_ | refine E_block_exit ?_ | refine E_block_exit_other rfl ?_)
        rw [cPtr_mk _ c1 c2, cHp_mk _ c1 c2, rPtr_mk _ c1 c2, rHp_mk _ c1 c2]; have hcc2 := opn_ok s at_ c1 c2; generalize mkC (opn s at_).1 c1 c2 = c3 at hcc2 ⊢; exact E_perm (perm6 _ _ _ _) (E_midE ⟨i, s, p, q, D, c3⟩ ⟨rel_mono hr (Nat.le_succ i), hwb, hd, hcc2⟩ (by repeat (first | exact Sub.nil | refine Sub.cons rfl ?_)) (Fewer.refl _))
    rintro ⟨j, s2, p2, q2, D2, c2⟩ ⟨hr2, hwb2, hd2, hcc2⟩
    dsimp only at hr2 hwb2 hd2 hcc2 ⊢
    cases c2 with
    | none =>
      repeat (first | refine S_scope ?_ | refine S_label ?_ | refine E_noGoto_normal ?_ | refine E_noGoto_ret ?_ | refine E_noGoto_exit ?_ | refine S_yes rfl (by first | with_reducible rfl | decide) ?_ | refine S_no rfl (by first | with_reducible rfl | decide) ?_ | refine S_seq ?_ | refine E_seq ?_ | refine S_block ?_ | refine E_block_normal ?_ | refine S_skip ?_ | refine S_exit ?_ | refine S_ret ?_ | refine E_then_exit ?_ | refine E_then_ret ?_ | refine E_block_ret ?_ | refine E_block_exit ?_ | refine E_block_exit_other rfl ?_)
      refine S_region ?_
      refine R_cons rfl (op_pure (p_move rfl) rfl ?_)
      refine R_cons rfl (op_pure (p_eql_nil (p := none) rfl rfl ptr_counts_Count) rfl ?_)
      refine R_cons rfl (op_pure (p_move rfl) rfl ?_)
      refine R_cons rfl (op_pure (p_eql_nil (p := none) rfl rfl ptr_almonerref22_Count) rfl ?_)
      refine R_cons rfl (op_pure (p_bin_bool rfl rfl (b_neq_bool ut_bool (by first | assumption | exact beq_self_eq_true _ | rfl))) rfl ?_)
      refine R_cons rfl (op_pure (p_move rfl) rfl ?_)
      first | refine R_pass rfl rfl rfl rfl ?_ | refine R_pass_undef rfl rfl rfl ?_ | refine R_guard rfl rfl rfl (op_pure (p_move rfl) rfl ?_)
      first | refine R_pass rfl rfl rfl rfl ?_ | refine R_pass_undef rfl rfl rfl ?_ | refine R_guard rfl rfl rfl (op_pure (p_neq_nil (p := none) rfl rfl ptr_almonerref22_Count) rfl ?_)
      first | refine R_pass rfl rfl rfl rfl ?_ | refine R_pass_undef rfl rfl rfl ?_ | refine R_guard rfl rfl rfl (op_pure (p_move rfl) rfl ?_)
      first | refine R_pass rfl rfl rfl rfl ?_ | refine R_pass_undef rfl rfl rfl ?_ | refine R_guard rfl rfl rfl (op_pure (p_move rfl) rfl ?_)
      first | refine R_pass rfl rfl rfl rfl ?_ | refine R_pass_undef rfl rfl rfl ?_ | refine R_guard rfl rfl rfl (op_undef ?_)
      first | refine R_pass rfl rfl rfl rfl ?_ | refine R_pass_undef rfl rfl rfl ?_ | refine R_guard rfl rfl rfl (op_pure (p_move rfl) rfl ?_)
      first | refine R_pass rfl rfl rfl rfl ?_ | refine R_pass_undef rfl rfl rfl ?_ | refine R_guard rfl rfl rfl (op_undef ?_)
      first | refine R_pass rfl rfl rfl rfl ?_ | refine R_pass_undef rfl rfl rfl ?_ | refine R_guard rfl rfl rfl (op_pure (p_bin rfl rfl (b_neq (by first | assumption | exact bne_iff_ne.2 (by omega) | exact bne_eq_false_iff_eq.2 (by omega) | rfl))) rfl ?_)
      first | refine R_pass rfl rfl rfl rfl ?_ | refine R_pass_undef rfl rfl rfl ?_ | refine R_guard rfl rfl rfl (op_pure (by first | exact p_pick_yes rfl rfl | exact p_pick_no rfl rfl | exact p_pick rfl rfl rfl) rfl ?_)
      refine R_cons rfl (op_pure (by first | exact p_pick_yes rfl rfl | exact p_pick_no rfl rfl | exact p_pick rfl rfl rfl) rfl ?_)
      refine R_nil ?_
      repeat (first | refine S_scope ?_ | refine S_label ?_ | refine E_noGoto_normal ?_ | refine E_noGoto_ret ?_ | refine E_noGoto_exit ?_ | refine S_yes rfl (by first | with_reducible rfl | decide) ?_ | refine S_no rfl (by first | with_reducible rfl | decide) ?_ | refine S_seq ?_ | refine E_seq ?_ | refine S_block ?_ | refine E_block_normal ?_ | refine S_skip ?_ | refine S_exit ?_ | refine S_ret ?_ | refine E_then_exit ?_ | refine E_then_ret ?_ | refine E_block_ret ?_ | refine E_block_exit ?_ | refine E_block_exit_other rfl ?_)
      refine S_region ?_
      refine R_cons rfl (op_pure (p_move rfl) rfl ?_)
      refine R_cons rfl (op_pure (p_bin rfl rfl (b_add hinc)) rfl ?_)
      refine R_cons rfl (op_pure (p_assign rfl) rfl ?_)
      refine R_nil ?_
      repeat (first | refine S_scope ?_ | refine S_label ?_ | refine E_noGoto_normal ?_ | refine E_noGoto_ret ?_ | refine E_noGoto_exit ?_ | refine S_yes rfl (by first | with_reducible rfl | decide) ?_ | refine S_no rfl (by first | with_reducible rfl | decide) ?_ | refine S_seq ?_ | refine E_seq ?_ | refine S_block ?_ | refine E_block_normal ?_ | refine S_skip ?_ | refine S_exit ?_ | refine S_ret ?_ | refine E_then_exit ?_ | refine E_then_ret ?_ | refine E_block_ret ?_ | refine E_block_exit ?_ | refine E_block_exit_other rfl ?_)
      exact E_round (σ := PlayS) (s := ⟨i, s, p, q, D, cc⟩) ⟨i + 1, s2, p2, q2, D2, none⟩ ⟨(by show i + 1 ≤ l.length; omega), hr2, hwb2, hd2, hcc2⟩ (by show l.length - (i + 1) < l.length - i; omega) (by repeat (first | exact Sub.nil | refine Sub.cons rfl ?_)) (Fewer.refl _)
    | some t =>
      obtain ⟨cb, rb, u, dn⟩ := t
      refine E_fewer (env' := [(11, .int .i64 (i : Int)), (10, .pointer (some ⟨rb, 0, none⟩)), (9, .pointer (some ⟨cb, 0, none⟩)), (7, .pointer (some ⟨q2.br, 0, none⟩)), (5, .pointer (some ⟨p2.bd, 0, none⟩)), (1, .slice (some ⟨ba, offa, none⟩) l.length c), (0, .int .i64 at_)]) (H' := (cb, .cells (cntC u p2.bd at_.toNat dn).toArray 103 (0, 0)) :: (rb, .cells (rcntC q2.br at_.toNat u dn).toArray 126 (0, 0)) :: (progH p2 s2 ++ (refH q2 (lowL s2.left) s2.bl ++ D2))) (by repeat (first | exact Sub.nil | refine Sub.cons rfl ?_)) (.keep rfl (.keep rfl (Fewer.refl _))) ?_
      have hne : ((u : Int) != (u : Int)) = false := by simp
      repeat (first | refine S_scope ?_ | refine S_label ?_ | refine E_noGoto_normal ?_ | refine E_noGoto_ret ?_ | refine E_noGoto_exit ?_ | refine S_yes rfl (by first | with_reducible rfl | decide) ?_ | refine S_no rfl (by first | with_reducible rfl | decide) ?_ | refine S_seq ?_ | refine E_seq ?_ | refine S_block ?_ | refine E_block_normal ?_ | refine S_skip ?_ | refine S_exit ?_ | refine S_ret ?_ | refine E_then_exit ?_ | refine E_then_ret ?_ | refine E_block_ret ?_ | refine E_block_exit ?_ | refine E_block_exit_other rfl ?_)
      refine S_region ?_
      refine R_cons rfl (op_pure (p_move rfl) rfl ?_)
      refine R_cons rfl (op_pure (p_eql_nil (p := some ⟨cb, 0, none⟩) rfl rfl ptr_counts_Count) rfl ?_)
      refine R_cons rfl (op_pure (p_move rfl) rfl ?_)
      refine R_cons rfl (op_pure (p_eql_nil (p := some ⟨rb, 0, none⟩) rfl rfl ptr_almonerref22_Count) rfl ?_)
      refine R_cons rfl (op_pure (p_bin_bool rfl rfl (b_neq_bool ut_bool (by first | assumption | exact beq_self_eq_true _ | rfl))) rfl ?_)
      refine R_cons rfl (op_pure (p_move rfl) rfl ?_)
      first | refine R_pass rfl rfl rfl rfl ?_ | refine R_pass_undef rfl rfl rfl ?_ | refine R_guard rfl rfl rfl (op_pure (p_move rfl) rfl ?_)
      first | refine R_pass rfl rfl rfl rfl ?_ | refine R_pass_undef rfl rfl rfl ?_ | refine R_guard rfl rfl rfl (op_pure (p_neq_nil (p := some ⟨rb, 0, none⟩) rfl rfl ptr_almonerref22_Count) rfl ?_)
      first | refine R_pass rfl rfl rfl rfl ?_ | refine R_pass_undef rfl rfl rfl ?_ | refine R_guard rfl rfl rfl (op_pure (p_move rfl) rfl ?_)
      first | refine R_pass rfl rfl rfl rfl ?_ | refine R_pass_undef rfl rfl rfl ?_ | refine R_guard rfl rfl rfl (op_pure (p_move rfl) rfl ?_)
      first | refine R_pass rfl rfl rfl rfl ?_ | refine R_pass_undef rfl rfl rfl ?_ | refine R_guard rfl rfl rfl (op_callV rfl rfl Try.func22 rfl (by kernel_rfl) rfl (Nat.le_refl _) (fun w' hm => cused_any cb u p2.bd at_.toNat dn w' (hm.own (cb, _) (by (try simp only [List.cons_append, List.nil_append]); repeat (first | exact List.Mem.head _ | apply List.Mem.tail))).2) ?_)
      first | refine R_pass rfl rfl rfl rfl ?_ | refine R_pass_undef rfl rfl rfl ?_ | refine R_guard rfl rfl rfl (op_pure (p_move rfl) rfl ?_)
      first | refine R_pass rfl rfl rfl rfl ?_ | refine R_pass_undef rfl rfl rfl ?_ | refine R_guard rfl rfl rfl (op_callV rfl rfl Try.func35 rfl (by kernel_rfl) rfl (Nat.le_refl _) (fun w' hm => rused rb q2.br at_.toNat u dn w' (hm.own (rb, _) (by (try simp only [List.cons_append, List.nil_append]); repeat (first | exact List.Mem.head _ | apply List.Mem.tail))).2) ?_)
      first | refine R_pass rfl rfl rfl rfl ?_ | refine R_pass_undef rfl rfl rfl ?_ | refine R_guard rfl rfl rfl (op_pure (p_bin rfl rfl (b_neq hne)) rfl ?_)
      first | refine R_pass rfl rfl rfl rfl ?_ | refine R_pass_undef rfl rfl rfl ?_ | refine R_guard rfl rfl rfl (op_pure (by first | exact p_pick_yes rfl rfl | exact p_pick_no rfl rfl | exact p_pick rfl rfl rfl) rfl ?_)
      refine R_cons rfl (op_pure (by first | exact p_pick_yes rfl rfl | exact p_pick_no rfl rfl | exact p_pick rfl rfl rfl) rfl ?_)
      refine R_nil ?_
      repeat (first | refine S_scope ?_ | refine S_label ?_ | refine E_noGoto_normal ?_ | refine E_noGoto_ret ?_ | refine E_noGoto_exit ?_ | refine S_yes rfl (by first | with_reducible rfl | decide) ?_ | refine S_no rfl (by first | with_reducible rfl | decide) ?_ | refine S_seq ?_ | refine E_seq ?_ | refine S_block ?_ | refine E_block_normal ?_ | refine S_skip ?_ | refine S_exit ?_ | refine S_ret ?_ | refine E_then_exit ?_ | refine E_then_ret ?_ | refine E_block_ret ?_ | refine E_block_exit ?_ | refine E_block_exit_other rfl ?_)
      refine S_region ?_
      refine R_cons rfl (op_pure (p_move rfl) rfl ?_)
      refine R_cons rfl (op_pure (p_bin rfl rfl (b_add hinc)) rfl ?_)
      refine R_cons rfl (op_pure (p_assign rfl) rfl ?_)
      refine R_nil ?_
      repeat (first | refine S_scope ?_ | refine S_label ?_ | refine E_noGoto_normal ?_ | refine E_noGoto_ret ?_ | refine E_noGoto_exit ?_ | refine S_yes rfl (by first | with_reducible rfl | decide) ?_ | refine S_no rfl (by first | with_reducible rfl | decide) ?_ | refine S_seq ?_ | refine E_seq ?_ | refine S_block ?_ | refine E_block_normal ?_ | refine S_skip ?_ | refine S_exit ?_ | refine S_ret ?_ | refine E_then_exit ?_ | refine E_then_ret ?_ | refine E_block_ret ?_ | refine E_block_exit ?_ | refine E_block_exit_other rfl ?_)
      exact E_round (σ := PlayS) (s := ⟨i, s, p, q, D, cc⟩) ⟨i + 1, s2, p2, q2, D2, some (cb, rb, u, dn)⟩ ⟨(by show i + 1 ≤ l.length; omega), hr2, hwb2, hd2, hcc2⟩ (by show l.length - (i + 1) < l.length - i; omega) (by repeat (first | exact Sub.nil | refine Sub.cons rfl ?_)) (Fewer.refl _)
  have g3 : decide ((i : Int) < (l.length : Int)) = false := decide_eq_false (by omega)
  repeat (first | refine S_scope ?_ | refine S_label ?_ | refine E_noGoto_normal ?_ | refine E_noGoto_ret ?_ | refine E_noGoto_exit ?_ | refine S_yes rfl (by first | with_reducible rfl | decide) ?_ | refine S_no rfl (by first | with_reducible rfl | decide) ?_ | refine S_seq ?_ | refine E_seq ?_ | refine S_block ?_ | refine E_block_normal ?_ | refine S_skip ?_ | refine S_exit ?_ | refine S_ret ?_ | refine E_then_exit ?_ | refine E_then_ret ?_ | refine E_block_ret ?_ | refine E_block_exit ?_ | refine E_block_exit_other rfl ?_)
  refine S_region ?_
  refine R_cons rfl (op_pure (p_move rfl) rfl ?_)
  refine R_cons rfl (op_pure (p_move rfl) rfl ?_)
  refine R_cons rfl (op_pure (p_lenR rfl slr_almonerlaw22_Act) rfl ?_)
  refine R_cons rfl (op_pure (p_bin rfl rfl (b_lss g3)) rfl ?_)
  refine R_nil ?_
  repeat (first | refine S_scope ?_ | refine S_label ?_ | refine E_noGoto_normal ?_ | refine E_noGoto_ret ?_ | refine E_noGoto_exit ?_ | refine S_yes rfl (by first | with_reducible rfl | decide) ?_ | refine S_no rfl (by first | with_reducible rfl | decide) ?_ | refine S_seq ?_ | refine E_seq ?_ | refine S_block ?_ | refine E_block_normal ?_ | refine S_skip ?_ | refine S_exit ?_ | refine S_ret ?_ | refine E_then_exit ?_ | refine E_then_ret ?_ | refine E_block_ret ?_ | refine E_block_exit ?_ | refine E_block_exit_other rfl ?_)
  refine S_region ?_
  refine R_cons rfl (op_callV rfl rfl Try.func23 rfl (by kernel_rfl) rfl (Nat.le_refl _) (fun w' _ => lives22 w') ?_)
  refine R_cons rfl (op_pure (p_assign rfl) rfl ?_)
  refine R_nil ?_
  repeat (first | refine S_scope ?_ | refine S_label ?_ | refine E_noGoto_normal ?_ | refine E_noGoto_ret ?_ | refine E_noGoto_exit ?_ | refine S_yes rfl (by first | with_reducible rfl | decide) ?_ | refine S_no rfl (by first | with_reducible rfl | decide) ?_ | refine S_seq ?_ | refine E_seq ?_ | refine S_block ?_ | refine E_block_normal ?_ | refine S_skip ?_ | refine S_exit ?_ | refine S_ret ?_ | refine E_then_exit ?_ | refine E_then_ret ?_ | refine E_block_ret ?_ | refine E_block_exit ?_ | refine E_block_exit_other rfl ?_)
  exact E_ret1 rfl rfl fun w' hm => ⟨rfl, hm.below⟩
theorem own : ownKnob Try.prog.godebug = none := by kernel_rfl
theorem laidOut : laidOutB Try.prog = true := by kernel_rfl
set_option maxRecDepth 100000 in
theorem lifted (os : Os) (started : os.Started) (H : Type) (enc : TypeId × Value → H) :
    ReturnsInHanded {} Try.checked os 11 .any (Rows.countsPlaySpec.pre6 enc Try.prog Try.f11 Rows.countsPlayRow.domain false) (Rows.countsPlaySpec.post enc Try.prog Try.f11 false true false false) := by
  refine returnsInHanded_of_change (C := Try.checked) own started (by kernel_rfl) Try.func11
    (ChangeSpec.witness6 (enc := enc) (C := Try.checked) false ⟨#[], #[.int .i64 0, .slice none 0 0], []⟩ 8 (by kernel_rfl) (by kernel_rfl) (by kernel_rfl) (by kernel_rfl)) ?_
  intro W base args ds gs before hval0 hW hcnd _
  have hval : ∀ (j : Nat) t v, Try.f11.params[j]? = some t → args[j]? = some v → Value.okWide Try.prog W .any base t v := hval0
  have hW' := hW
  obtain ⟨p, q, hA0, hV, rfl, hfz, hnd⟩ := hW
  have hA : DataW.TrodAll enc Try.prog W 0 (fun _ => true) true Try.f11.params.toList args.toList ds p := hA0
  rw [Try.params11] at hA hval
  obtain ⟨v0, vs0, d0, ds0, p0, q0, hargs, rfl, rfl, h0, r0⟩ := trodAll_cons hA
  obtain ⟨v1, vs1, d1, ds1, p1, q1, rfl, rfl, rfl, h1, r1⟩ := trodAll_cons r0
  obtain ⟨rfl, rfl, rfl⟩ := trodAll_nil r1
  obtain rfl : args = #[v0, v1] := by cases args; simp_all
  obtain ⟨rfl, rfl⟩ := trodVars_none hV
  have k0 := h0
  have lt0 : ∀ x ∈ p0, x.block < W.heap.size := by obtain ⟨m, hm⟩ := k0; exact DataW.trod_lt m _ _ _ hm
  have k1 := h1
  have lt1 : ∀ x ∈ p1, x.block < W.heap.size := by obtain ⟨m, hm⟩ := k1; exact DataW.trod_lt m _ _ _ hm
  obtain ⟨a0, rfl, lo0, hi0⟩ := arg_int Try.underlying3 (hval 0 3 v0 rfl rfl) k0
  obtain ⟨A1, c1, a1, rfl, rd1, ok1, lc1, cm1⟩ := arg_deeds Try.underlying67 Try.underlying75 Try.underlying5 Try.underlying3 Try.underlying60 Try.underlying4 Try.underlying40 (by kernel_rfl) (by kernel_rfl) (by kernel_rfl) (by kernel_rfl) (by kernel_rfl) (by kernel_rfl) rfl rfl rfl rfl rfl rfl (hval 1 67 v1 rfl rfl) k1
  clear hA0 hval0
  refine (walk W a0 lo0 hi0 A1 c1 a1 rd1 ok1 lc1 cm1).mono fun e W' ⟨he, bel⟩ => ?_
  subst he
  exact ⟨_, rfl, _, _, _, [], _, [], hW', trodAll_mk1 (shut_bool Try.underlying4 _), (trodAll_cons_mk (Below.trod laidOut (by kernel_rfl) (of_decide_eq_true (by kernel_rfl)) k0 bel lt0) (trodAll_cons_mk (Below.trod laidOut (by kernel_rfl) (of_decide_eq_true (by kernel_rfl)) k1 bel lt1) trodAll_mk0)), rfl, bel.frame _, fun h => by cases h⟩
/-- The statement. -/
theorem proved : Rows.CountsPlaySaid :=
  OpenClaim.holds_of_wide 11 Try.f11 rfl rfl rfl rfl rfl rfl rfl ⟨rfl, rfl, rfl, rfl, rfl⟩ rfl rfl rfl rfl rfl (by kernel_rfl) Try.func11 (by kernel_rfl)
    (of_decide_eq_true (by kernel_rfl)) (by unfold Func.isWrapper; first | (rw [if_pos (by decide +kernel)]; kernel_rfl) | (rw [if_neg (by decide +kernel)]; exact ⟨rfl, rfl⟩))
    (fun os started H enc _ => lifted os started H enc)
#print axioms proved
end Go.Proofs.Ytfdlafjifjndeaa.countsPlay
