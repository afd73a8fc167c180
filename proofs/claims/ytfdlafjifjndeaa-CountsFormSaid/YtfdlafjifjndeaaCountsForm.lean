/-
  Proved: a count's sector of which one byte is turned is no count's. No condition.
-/
import Derived.Test.YtfdlafjifjndeaaRows
import Derived.Test.YtfdlafjifjndeaaCnt6
import Derived.Test.YtfdlafjifjndeaaDisk4
namespace Go.Proofs.Ytfdlafjifjndeaa.countsForm
open Go.ChangeShapes Go.WideShapes Go.ChangeAt
open Go.RowKit Go.K
attribute [local irreducible] Exit.then Exit.inBlock Exit.noGoto bodyPost Code.wp QL Sx Rx Qx Ex Dx Op1 Pure1 Still1 K.Sub Calm Code.wpIn
set_option linter.unusedVariables false
theorem told3 : ∀ k, k < 17 → ∀ j, j < 17 → j ≠ k → (toldS j).getD 3 0 ≠ (toldS k).getD 3 0 ∧ (toldS j).getD 7 0 ≠ (toldS k).getD 7 0 := by decide +kernel
theorem told0 : ∀ k, k < 16 → (toldS (k + 1)).getD 3 0 ≠ 0 ∧ (toldS (k + 1)).getD 7 0 ≠ 0 := by decide +kernel
theorem getD_set_ne (l : List UInt8) (p q : Nat) (v : UInt8) (h : p ≠ q) : (l.set p v).getD q 0 = l.getD q 0 := by
  rw [List.getD_eq_getElem?_getD, List.getD_eq_getElem?_getD, List.getElem?_set_ne h]
theorem getD_set_eq (l : List UInt8) (p : Nat) (v : UInt8) (h : p < l.length) : (l.set p v).getD p 0 = v := by
  rw [List.getD_eq_getElem?_getD, List.getElem?_set_self h]; rfl
theorem turned_none (m : Nat) (h1 : 1 ≤ m) (h2 : m ≤ 16) (p : Nat) (hp : p < 64) (b : UInt8) (hb : b ≠ 0) : openedS ((toldS m).set p ((toldS m).getD p 0 ^^^ b)) = none := by
  have hv : (toldS m).getD p 0 ^^^ b ≠ (toldS m).getD p 0 := fun e => by
    have := congrArg (fun z => (toldS m).getD p 0 ^^^ z) e
    simp only [← UInt8.xor_assoc, UInt8.xor_self, UInt8.zero_xor] at this
    exact hb this
  generalize (toldS m).getD p 0 ^^^ b = v at hv
  have hl := toldS_length m
  have hz := told0 (m - 1) (by omega)
  rw [Nat.sub_add_cancel h1] at hz
  unfold openedS
  by_cases ha : ((toldS m).set p v).any (· != 0) = false
  · exfalso
    have hall : ∀ q, ((toldS m).set p v).getD q 0 = 0 := fun q => by
      rw [List.getD_eq_getElem?_getD]
      cases hq : ((toldS m).set p v)[q]? with
      | none => rfl
      | some y =>
        have := List.any_eq_false.1 ha y (List.mem_of_getElem? hq)
        simpa using this
    by_cases h3 : p = 3
    · have := hall 7
      rw [getD_set_ne _ _ _ _ (by omega)] at this
      exact hz.2 this
    · have := hall 3
      rw [getD_set_ne _ _ _ _ h3] at this
      exact hz.1 this
  · rw [if_neg ha, if_neg]
    rintro ⟨hj, he⟩
    generalize getP ((toldS m).set p v) 4 = j at hj he
    by_cases hjm : j = m
    · subst hjm
      have := congrArg (fun l => l.getD p 0) he
      simp only [getD_set_eq _ _ _ (show p < (toldS j).length by omega)] at this
      exact hv this.symm
    · have ht := told3 m (by omega) j (by omega) hjm
      by_cases h3 : p = 3
      · have := congrArg (fun l => l.getD 7 0) he
        simp only [getD_set_ne _ p 7 v (show p ≠ 7 by omega)] at this
        exact ht.2 this
      · have := congrArg (fun l => l.getD 3 0) he
        simp only [getD_set_ne _ p 3 v h3] at this
        exact ht.1 this
theorem set_same (l : List UInt8) (p : Nat) (hp : p < l.length) : l.set p (l.getD p 0) = l := by
  rw [List.getD_eq_getElem?_getD, List.getElem?_eq_getElem hp]
  exact List.set_getElem_self hp
attribute [local irreducible] digitsB onNat sumU Buf.hp Buf.cap Buf.addr secV toldS getP leftS blownS openedS diskN

set_option maxHeartbeats 4000000 in
theorem walk (w : World) (many : UInt8) (at_ : UInt8) (by_ : UInt8) :
    Calls Try.prog 8 [.int .u8 (many.toNat : Int), .int .u8 (at_.toNat : Int), .int .u8 (by_.toNat : Int)].toArray w fun e w' => e = .returned (.bool true) ∧ Below w.heap.size w w' := by
  have hatl := b_lt at_
  have hml := b_lt many
  have hcv : IntKind.i64.wrap (at_.toNat : Int) = (at_.toNat : Int) := w_in_i64 (by omega)
  have hcm : IntKind.u32.wrap (many.toNat : Int) = (many.toNat : Int) := w_in_u32 (by omega)
  have hr3 : (many.toNat : Int).tmod 16 = ((many.toNat % 16 : Nat) : Int) := nat_rem _ 16
  have hr1 : (at_.toNat : Int).tmod 64 = ((at_.toNat % 64 : Nat) : Int) := nat_rem _ 64
  have hpl : at_.toNat % 64 < 64 := by omega
  generalize at_.toNat % 64 = p at hr1 hpl
  have ha1 : IntKind.u32.wrap (1 + ((many.toNat % 16 : Nat) : Int)) = ((many.toNat % 16 + 1 : Nat) : Int) := by rw [w_in_u32 (by omega)]; omega
  have hm1 : 1 ≤ many.toNat % 16 + 1 := by omega
  have hm16 : many.toNat % 16 + 1 ≤ 16 := by omega
  generalize many.toNat % 16 = m0 at hr3 ha1 hm1 hm16
  generalize m0 + 1 = m at ha1 hm1 hm16
  obtain ⟨x0, hx0, ho0⟩ := diskN_at 1 0 0 (by omega) (by omega)
  have hS0 := diskN_secs 1 0 0
  have hl0 := diskN_length 1 0 0
  refine enter Try.func8 rfl Try.ntmps8 (by simp) ?_
  repeat (first | refine S_scope ?_ | refine S_label ?_ | refine E_noGoto_normal ?_ | refine E_noGoto_ret ?_ | refine E_noGoto_exit ?_ | refine S_yes rfl (by first | with_reducible rfl | decide) ?_ | refine S_no rfl (by first | with_reducible rfl | decide) ?_ | refine S_seq ?_ | refine E_seq ?_ | refine S_block ?_ | refine E_block_normal ?_ | refine S_skip ?_ | refine S_exit ?_ | refine S_ret ?_ | refine E_then_exit ?_ | refine E_then_ret ?_ | refine E_block_ret ?_ | refine E_block_exit ?_ | refine E_block_exit_other rfl ?_)
  refine S_region ?_
  refine R_cons rfl (op_pure (p_assign rfl) rfl ?_)
  refine R_nil ?_
  repeat (first | refine S_scope ?_ | refine S_label ?_ | refine E_noGoto_normal ?_ | refine E_noGoto_ret ?_ | refine E_noGoto_exit ?_ | refine S_yes rfl (by first | with_reducible rfl | decide) ?_ | refine S_no rfl (by first | with_reducible rfl | decide) ?_ | refine S_seq ?_ | refine E_seq ?_ | refine S_block ?_ | refine E_block_normal ?_ | refine S_skip ?_ | refine S_exit ?_ | refine S_ret ?_ | refine E_then_exit ?_ | refine E_then_ret ?_ | refine E_block_ret ?_ | refine E_block_exit ?_ | refine E_block_exit_other rfl ?_)
  refine S_region ?_
  refine R_cons rfl (op_callNX (fun s : Nat × Nat × Nat × Nat × List Value => Value.tuple ([Value.pointer (some ⟨s.1, 0, none⟩), Value.int .i64 0] : List Value).toArray) (fun s => [(s.1, .cells (diskC (.slice (some ⟨s.2.1, 0, none⟩) 1 1) (.slice (some ⟨s.2.2.1, 0, none⟩) 1 s.2.2.2.1) (.slice none 0 0) (-1) false).toArray 113 (0, 0)), (s.2.1, .cells (secV (List.replicate 1 (List.replicate 64 0)) ++ ([] : List Value)).toArray 115 (0, 0)), (s.2.2.1, .cells (secV (List.replicate 1 (List.replicate 64 0)) ++ s.2.2.2.2).toArray 115 (0, 0))]) (fun _ => True) rfl rfl Try.func19 rfl (by kernel_rfl) rfl (fun w' _ => dnewX 1 (by omega) (by omega) w') (fun s _ => ?_))
  refine R_cons rfl (op_pure (p_move rfl) rfl ?_)
  refine R_cons rfl (op_pure (p_extract (i := 0) rfl rfl) rfl ?_)
  refine R_cons rfl (op_pure (p_extract (i := 1) rfl rfl) rfl ?_)
  refine R_cons rfl (op_pure (p_assign rfl) rfl ?_)
  refine R_cons rfl (op_pure (p_assign rfl) rfl ?_)
  refine R_nil ?_
  repeat (first | refine S_scope ?_ | refine S_label ?_ | refine E_noGoto_normal ?_ | refine E_noGoto_ret ?_ | refine E_noGoto_exit ?_ | refine S_yes rfl (by first | with_reducible rfl | decide) ?_ | refine S_no rfl (by first | with_reducible rfl | decide) ?_ | refine S_seq ?_ | refine E_seq ?_ | refine S_block ?_ | refine E_block_normal ?_ | refine S_skip ?_ | refine S_exit ?_ | refine S_ret ?_ | refine E_then_exit ?_ | refine E_then_ret ?_ | refine E_block_ret ?_ | refine E_block_exit ?_ | refine E_block_exit_other rfl ?_)
  obtain ⟨bd, bs, bn, cn, spn⟩ := s
  dsimp only
  rw [diskN_zero 1 0]
  refine S_region ?_
  refine R_cons rfl (op_pure (p_move rfl) rfl ?_)
  refine R_cons rfl (op_callNX (fun q : Nat => Value.tuple ([Value.pointer (some ⟨q, 0, none⟩), Value.int .i64 0] : List Value).toArray) (fun q => [(q, .cells (cntC 0 bd 0 false).toArray 103 (0, 0))]) (fun _ => True) rfl rfl Try.func20 rfl (by kernel_rfl) rfl (fun w' hm => copenX 0 bd bn 1 _ _ _ _ _ _ _ _ hS0 hl0 0 (by omega) _ hx0 ho0 w' (hm.own (bd, _) (by (try simp only [List.cons_append, List.nil_append]); repeat (first | exact List.Mem.head _ | apply List.Mem.tail))).2 (hm.own (bn, _) (by (try simp only [List.cons_append, List.nil_append]); repeat (first | exact List.Mem.head _ | apply List.Mem.tail))).2) (fun bc _ => ?_))
  refine R_cons rfl (op_pure (p_move rfl) rfl ?_)
  refine R_cons rfl (op_pure (p_extract (i := 0) rfl rfl) rfl ?_)
  refine R_cons rfl (op_pure (p_extract (i := 1) rfl rfl) rfl ?_)
  refine R_cons rfl (op_pure (p_assign rfl) rfl ?_)
  refine R_cons rfl (op_pure (p_assign rfl) rfl ?_)
  refine R_nil ?_
  repeat (first | refine S_scope ?_ | refine S_label ?_ | refine E_noGoto_normal ?_ | refine E_noGoto_ret ?_ | refine E_noGoto_exit ?_ | refine S_yes rfl (by first | with_reducible rfl | decide) ?_ | refine S_no rfl (by first | with_reducible rfl | decide) ?_ | refine S_seq ?_ | refine E_seq ?_ | refine S_block ?_ | refine E_block_normal ?_ | refine S_skip ?_ | refine S_exit ?_ | refine S_ret ?_ | refine E_then_exit ?_ | refine E_then_ret ?_ | refine E_block_ret ?_ | refine E_block_exit ?_ | refine E_block_exit_other rfl ?_)
  refine S_region ?_
  refine R_cons rfl (op_pure (p_move rfl) rfl ?_)
  refine R_cons rfl (op_pure (p_bin rfl rfl (b_neq (by first | assumption | exact bne_iff_ne.2 (by omega) | exact bne_eq_false_iff_eq.2 (by omega) | rfl))) rfl ?_)
  refine R_cons rfl (op_pure (p_move rfl) rfl ?_)
  first | refine R_pass rfl rfl rfl rfl ?_ | refine R_pass_undef rfl rfl rfl ?_ | refine R_guard rfl rfl rfl (op_pure (p_move rfl) rfl ?_)
  first | refine R_pass rfl rfl rfl rfl ?_ | refine R_pass_undef rfl rfl rfl ?_ | refine R_guard rfl rfl rfl (op_pure (p_bin rfl rfl (b_neq (by first | assumption | exact bne_iff_ne.2 (by omega) | exact bne_eq_false_iff_eq.2 (by omega) | rfl))) rfl ?_)
  refine R_cons rfl (op_pure (by first | exact p_pick_yes rfl rfl | exact p_pick_no rfl rfl | exact p_pick rfl rfl rfl) rfl ?_)
  refine R_nil ?_
  repeat (first | refine S_scope ?_ | refine S_label ?_ | refine E_noGoto_normal ?_ | refine E_noGoto_ret ?_ | refine E_noGoto_exit ?_ | refine S_yes rfl (by first | with_reducible rfl | decide) ?_ | refine S_no rfl (by first | with_reducible rfl | decide) ?_ | refine S_seq ?_ | refine E_seq ?_ | refine S_block ?_ | refine E_block_normal ?_ | refine S_skip ?_ | refine S_exit ?_ | refine S_ret ?_ | refine E_then_exit ?_ | refine E_then_ret ?_ | refine E_block_ret ?_ | refine E_block_exit ?_ | refine E_block_exit_other rfl ?_)
  refine S_region ?_
  refine R_cons rfl (op_pure (p_move rfl) rfl ?_)
  refine R_cons rfl (op_pure (p_convert rfl sc_u8 ik_u32 hcm) rfl ?_)
  refine R_cons rfl (op_pure (p_bin rfl rfl (b_rem (by decide) hr3)) rfl ?_)
  refine R_cons rfl (op_pure (p_bin rfl rfl (b_add ha1)) rfl ?_)
  refine R_cons rfl (op_pure (p_assign rfl) rfl ?_)
  refine R_nil ?_
  repeat (first | refine S_scope ?_ | refine S_label ?_ | refine E_noGoto_normal ?_ | refine E_noGoto_ret ?_ | refine E_noGoto_exit ?_ | refine S_yes rfl (by first | with_reducible rfl | decide) ?_ | refine S_no rfl (by first | with_reducible rfl | decide) ?_ | refine S_seq ?_ | refine E_seq ?_ | refine S_block ?_ | refine E_block_normal ?_ | refine S_skip ?_ | refine S_exit ?_ | refine S_ret ?_ | refine E_then_exit ?_ | refine E_then_ret ?_ | refine E_block_ret ?_ | refine E_block_exit ?_ | refine E_block_exit_other rfl ?_)
  refine S_region ?_
  refine R_cons rfl (op_pure (p_assign rfl) rfl ?_)
  refine R_nil ?_
  repeat (first | refine S_scope ?_ | refine S_label ?_ | refine E_noGoto_normal ?_ | refine E_noGoto_ret ?_ | refine E_noGoto_exit ?_ | refine S_yes rfl (by first | with_reducible rfl | decide) ?_ | refine S_no rfl (by first | with_reducible rfl | decide) ?_ | refine S_seq ?_ | refine E_seq ?_ | refine S_block ?_ | refine E_block_normal ?_ | refine S_skip ?_ | refine S_exit ?_ | refine S_ret ?_ | refine E_then_exit ?_ | refine E_then_ret ?_ | refine E_block_ret ?_ | refine E_block_exit ?_ | refine E_block_exit_other rfl ?_)
  refine S_loop (fun i : Nat => [(12, .int .u32 (i : Int)), (11, .int .u32 (m : Int)), (9, .pointer (some ⟨bc, 0, none⟩)), (7, .pointer (some ⟨bd, 0, none⟩)), (2, .int .u8 (by_.toNat : Int)), (1, .int .u8 (at_.toNat : Int))])
    (fun i => [(bc, .cells (cntC i bd 0 false).toArray 103 (0, 0)), (bd, .cells (diskC (.slice (some ⟨bs, 0, none⟩) 1 1) (.slice (some ⟨bn, 0, none⟩) 1 cn) (.slice none 0 0) (-1) false).toArray 113 (0, 0)), (bs, .cells (secV (diskN 1 0 i) ++ ([] : List Value)).toArray 115 (0, 0)), (bn, .cells (secV (diskN 1 0 i) ++ spn).toArray 115 (0, 0))]) (fun i => i ≤ m) (fun i => m - i) 0 (Nat.zero_le _) (by repeat (first | exact Sub.nil | refine Sub.cons rfl ?_)) (Fewer.refl _) ?_
  intro i hi
  by_cases hlt : i < m
  · have g1 : decide ((i : Int) < (m : Int)) = true := decide_eq_true (by omega)
    have hinc : IntKind.u32.wrap ((i : Int) + 1) = ((i + 1 : Nat) : Int) := by rw [w_in_u32 (by omega)]; omega
    repeat (first | refine S_scope ?_ | refine S_label ?_ | refine E_noGoto_normal ?_ | refine E_noGoto_ret ?_ | refine E_noGoto_exit ?_ | refine S_yes rfl (by first | with_reducible rfl | decide) ?_ | refine S_no rfl (by first | with_reducible rfl | decide) ?_ | refine S_seq ?_ | refine E_seq ?_ | refine S_block ?_ | refine E_block_normal ?_ | refine S_skip ?_ | refine S_exit ?_ | refine S_ret ?_ | refine E_then_exit ?_ | refine E_then_ret ?_ | refine E_block_ret ?_ | refine E_block_exit ?_ | refine E_block_exit_other rfl ?_)
    refine S_region ?_
    refine R_cons rfl (op_pure (p_move rfl) rfl ?_)
    refine R_cons rfl (op_pure (p_move rfl) rfl ?_)
    refine R_cons rfl (op_pure (p_bin rfl rfl (b_lss g1)) rfl ?_)
    refine R_nil ?_
    repeat (first | refine S_scope ?_ | refine S_label ?_ | refine E_noGoto_normal ?_ | refine E_noGoto_ret ?_ | refine E_noGoto_exit ?_ | refine S_yes rfl (by first | with_reducible rfl | decide) ?_ | refine S_no rfl (by first | with_reducible rfl | decide) ?_ | refine S_seq ?_ | refine E_seq ?_ | refine S_block ?_ | refine E_block_normal ?_ | refine S_skip ?_ | refine S_exit ?_ | refine S_ret ?_ | refine E_then_exit ?_ | refine E_then_ret ?_ | refine E_block_ret ?_ | refine E_block_exit ?_ | refine E_block_exit_other rfl ?_)
    refine S_region ?_
    refine R_cons rfl (op_pure (p_move rfl) rfl ?_)
    refine R_cons rfl (op_callX (fun _ : Unit => Value.tuple ([Value.int .u32 ((i : Nat) : Int), Value.int .i64 0] : List Value).toArray) (fun _ => [(bc, .cells (cntC (i + 1) bd 0 false).toArray 103 (0, 0)), (bd, .cells (diskC (.slice (some ⟨bs, 0, none⟩) 1 1) (.slice (some ⟨bn, 0, none⟩) 1 cn) (.slice none 0 0) (-1) false).toArray 113 (0, 0)), (bs, .cells (secV ((diskN 1 0 i).set 0 (toldS (i + 1))) ++ ([] : List Value)).toArray 115 (0, 0)), (bn, .cells (secV ((diskN 1 0 i).set 0 (toldS (i + 1))) ++ spn).toArray 115 (0, 0))]) (fun _ => True) (Hc := [(bc, .cells (cntC i bd 0 false).toArray 103 (0, 0)), (bd, .cells (diskC (.slice (some ⟨bs, 0, none⟩) 1 1) (.slice (some ⟨bn, 0, none⟩) 1 cn) (.slice none 0 0) (-1) false).toArray 113 (0, 0)), (bs, .cells (secV (diskN 1 0 i) ++ ([] : List Value)).toArray 115 (0, 0)), (bn, .cells (secV (diskN 1 0 i) ++ spn).toArray 115 (0, 0))]) (K := []) rfl rfl Try.func21 rfl (by kernel_rfl) rfl (by simp only [List.cons_append, List.nil_append, List.append_nil]; (repeat (first | exact List.Perm.refl _ | refine List.Perm.cons _ ?_ | refine (perm_pick (by repeat (first | exact Del.here | apply Del.there))).trans (List.Perm.cons _ ?_)))) (fun w' hm => cnextX bc i bd bs bn 0 1 1 cn (diskN 1 0 i) (diskN 1 0 i) ([] : List Value) spn (diskN_secs 1 0 i) (diskN_secs 1 0 i) (diskN_length 1 0 i) (diskN_length 1 0 i) (by omega) (by omega) (by omega) w' hm) (fun _ _ => ?_))
    refine R_cons rfl (op_pure (p_move rfl) rfl ?_)
    refine R_cons rfl (op_pure (p_extract (i := 0) rfl rfl) rfl ?_)
    refine R_cons rfl (op_pure (p_extract (i := 1) rfl rfl) rfl ?_)
    refine R_cons rfl (op_pure (p_assign rfl) rfl ?_)
    refine R_cons rfl (op_pure (p_assign rfl) rfl ?_)
    refine R_nil ?_
    repeat (first | refine S_scope ?_ | refine S_label ?_ | refine E_noGoto_normal ?_ | refine E_noGoto_ret ?_ | refine E_noGoto_exit ?_ | refine S_yes rfl (by first | with_reducible rfl | decide) ?_ | refine S_no rfl (by first | with_reducible rfl | decide) ?_ | refine S_seq ?_ | refine E_seq ?_ | refine S_block ?_ | refine E_block_normal ?_ | refine S_skip ?_ | refine S_exit ?_ | refine S_ret ?_ | refine E_then_exit ?_ | refine E_then_ret ?_ | refine E_block_ret ?_ | refine E_block_exit ?_ | refine E_block_exit_other rfl ?_)
    refine S_region ?_
    refine R_cons rfl (op_pure (p_move rfl) rfl ?_)
    refine R_cons rfl (op_pure (p_bin rfl rfl (b_neq (by first | assumption | exact bne_iff_ne.2 (by omega) | exact bne_eq_false_iff_eq.2 (by omega) | rfl))) rfl ?_)
    refine R_nil ?_
    repeat (first | refine S_scope ?_ | refine S_label ?_ | refine E_noGoto_normal ?_ | refine E_noGoto_ret ?_ | refine E_noGoto_exit ?_ | refine S_yes rfl (by first | with_reducible rfl | decide) ?_ | refine S_no rfl (by first | with_reducible rfl | decide) ?_ | refine S_seq ?_ | refine E_seq ?_ | refine S_block ?_ | refine E_block_normal ?_ | refine S_skip ?_ | refine S_exit ?_ | refine S_ret ?_ | refine E_then_exit ?_ | refine E_then_ret ?_ | refine E_block_ret ?_ | refine E_block_exit ?_ | refine E_block_exit_other rfl ?_)
    refine S_region ?_
    refine R_cons rfl (op_pure (p_move rfl) rfl ?_)
    refine R_cons rfl (op_pure (p_bin rfl rfl (b_add hinc)) rfl ?_)
    refine R_cons rfl (op_pure (p_assign rfl) rfl ?_)
    refine R_nil ?_
    repeat (first | refine S_scope ?_ | refine S_label ?_ | refine E_noGoto_normal ?_ | refine E_noGoto_ret ?_ | refine E_noGoto_exit ?_ | refine S_yes rfl (by first | with_reducible rfl | decide) ?_ | refine S_no rfl (by first | with_reducible rfl | decide) ?_ | refine S_seq ?_ | refine E_seq ?_ | refine S_block ?_ | refine E_block_normal ?_ | refine S_skip ?_ | refine S_exit ?_ | refine S_ret ?_ | refine E_then_exit ?_ | refine E_then_ret ?_ | refine E_block_ret ?_ | refine E_block_exit ?_ | refine E_block_exit_other rfl ?_)
    rw [diskN_set]
    exact E_round (i + 1) (by omega) (by omega) (by repeat (first | exact Sub.nil | refine Sub.cons rfl ?_)) (Fewer.refl _)
  have him : i = m := by omega
  subst him
  have g1 : decide ((i : Int) < (i : Int)) = false := decide_eq_false (by omega)
  have gi : ((i : Int) == (i : Int)) = true := by simp
  have hxi : (diskN 1 0 i)[0]? = some (toldS i) := by
    unfold diskN
    rw [if_neg (by omega)]
    rfl
  have hSi := diskN_secs 1 0 i
  have hli := diskN_length 1 0 i
  have hti := toldS_length i
  generalize hy : (toldS i).set p ((toldS i).getD p 0 ^^^ by_) = y
  have hyl : y.length = 64 := by rw [← hy, List.length_set, hti]
  have hSy : Secs ((diskN 1 0 i).set 0 y) := hSi.set 0 hyl
  have hly : ((diskN 1 0 i).set 0 y).length = 1 := by rw [List.length_set, hli]
  have hxy : ((diskN 1 0 i).set 0 y)[0]? = some y := List.getElem?_set_self (by rw [hli]; omega)
  repeat (first | refine S_scope ?_ | refine S_label ?_ | refine E_noGoto_normal ?_ | refine E_noGoto_ret ?_ | refine E_noGoto_exit ?_ | refine S_yes rfl (by first | with_reducible rfl | decide) ?_ | refine S_no rfl (by first | with_reducible rfl | decide) ?_ | refine S_seq ?_ | refine E_seq ?_ | refine S_block ?_ | refine E_block_normal ?_ | refine S_skip ?_ | refine S_exit ?_ | refine S_ret ?_ | refine E_then_exit ?_ | refine E_then_ret ?_ | refine E_block_ret ?_ | refine E_block_exit ?_ | refine E_block_exit_other rfl ?_)
  refine S_region ?_
  refine R_cons rfl (op_pure (p_move rfl) rfl ?_)
  refine R_cons rfl (op_pure (p_move rfl) rfl ?_)
  refine R_cons rfl (op_pure (p_bin rfl rfl (b_lss g1)) rfl ?_)
  refine R_nil ?_
  repeat (first | refine S_scope ?_ | refine S_label ?_ | refine E_noGoto_normal ?_ | refine E_noGoto_ret ?_ | refine E_noGoto_exit ?_ | refine S_yes rfl (by first | with_reducible rfl | decide) ?_ | refine S_no rfl (by first | with_reducible rfl | decide) ?_ | refine S_seq ?_ | refine E_seq ?_ | refine S_block ?_ | refine E_block_normal ?_ | refine S_skip ?_ | refine S_exit ?_ | refine S_ret ?_ | refine E_then_exit ?_ | refine E_then_ret ?_ | refine E_block_ret ?_ | refine E_block_exit ?_ | refine E_block_exit_other rfl ?_)
  refine S_region ?_
  refine R_cons rfl (op_pure (p_move rfl) rfl ?_)
  refine R_cons rfl (op_pure (p_move rfl) rfl ?_)
  refine R_cons rfl (op_pure (p_convert rfl sc_u8 ik_int hcv) rfl ?_)
  refine R_cons rfl (op_pure (p_bin rfl rfl (b_rem (by decide) hr1)) rfl ?_)
  refine R_cons rfl (op_pure (p_move rfl) rfl ?_)
  refine R_cons rfl (op_callX (fun _ : Unit => Value.int .i64 0) (fun _ => [(bd, .cells (diskC (.slice (some ⟨bs, 0, none⟩) 1 1) (.slice (some ⟨bn, 0, none⟩) 1 cn) (.slice none 0 0) (-1) false).toArray 113 (0, 0)), (bs, .cells (secV ((diskN 1 0 i).set 0 y) ++ ([] : List Value)).toArray 115 (0, 0)), (bn, .cells (secV ((diskN 1 0 i).set 0 y) ++ spn).toArray 115 (0, 0))]) (fun _ => True) (Hc := [(bd, .cells (diskC (.slice (some ⟨bs, 0, none⟩) 1 1) (.slice (some ⟨bn, 0, none⟩) 1 cn) (.slice none 0 0) (-1) false).toArray 113 (0, 0)), (bs, .cells (secV (diskN 1 0 i) ++ ([] : List Value)).toArray 115 (0, 0)), (bn, .cells (secV (diskN 1 0 i) ++ spn).toArray 115 (0, 0))]) (K := [(bc, .cells (cntC i bd 0 false).toArray 103 (0, 0))]) rfl rfl Try.func24 rfl (by kernel_rfl) rfl (by simp only [List.cons_append, List.nil_append, List.append_nil]; (repeat (first | exact List.Perm.refl _ | refine List.Perm.cons _ ?_ | refine (perm_pick (by repeat (first | exact Del.here | apply Del.there))).trans (List.Perm.cons _ ?_)))) (fun w' hm => by have h := dturn_any bd bs bn 1 1 cn _ _ (diskN 1 0 i) (diskN 1 0 i) [] spn hSi hSi hli hli 0 (by omega) (toldS i) hxi p hpl by_ w' hm; rw [hy] at h; exact h) (fun _ _ => ?_))
  refine R_cons rfl (op_pure (p_bin rfl rfl (b_neq (by first | assumption | exact bne_iff_ne.2 (by omega) | exact bne_eq_false_iff_eq.2 (by omega) | rfl))) rfl ?_)
  refine R_nil ?_
  repeat (first | refine S_scope ?_ | refine S_label ?_ | refine E_noGoto_normal ?_ | refine E_noGoto_ret ?_ | refine E_noGoto_exit ?_ | refine S_yes rfl (by first | with_reducible rfl | decide) ?_ | refine S_no rfl (by first | with_reducible rfl | decide) ?_ | refine S_seq ?_ | refine E_seq ?_ | refine S_block ?_ | refine E_block_normal ?_ | refine S_skip ?_ | refine S_exit ?_ | refine S_ret ?_ | refine E_then_exit ?_ | refine E_then_ret ?_ | refine E_block_ret ?_ | refine E_block_exit ?_ | refine E_block_exit_other rfl ?_)
  by_cases hb : by_ = 0
  · subst hb
    have hyt : y = toldS i := by rw [← hy, UInt8.xor_zero]; exact set_same _ _ (by omega)
    have hoy : openedS y = some i := by
      rw [hyt]
      have := opened_told (i - 1) (by omega)
      rwa [Nat.sub_add_cancel (by omega)] at this
    have g0 : (((0 : UInt8).toNat : Int) == 0) = true := rfl
    refine S_region ?_
    refine R_cons rfl (op_pure (p_move rfl) rfl ?_)
    refine R_cons rfl (op_callNX (fun q : Nat => Value.tuple ([Value.pointer (some ⟨q, 0, none⟩), Value.int .i64 0] : List Value).toArray) (fun q => [(q, .cells (cntC i bd 0 false).toArray 103 (0, 0))]) (fun _ => True) rfl rfl Try.func20 rfl (by kernel_rfl) rfl (fun w' hm => copenX i bd bn 1 _ _ _ _ _ _ _ _ hSy hly 0 (by omega) _ hxy hoy w' (hm.own (bd, _) (by (try simp only [List.cons_append, List.nil_append]); repeat (first | exact List.Mem.head _ | apply List.Mem.tail))).2 (hm.own (bn, _) (by (try simp only [List.cons_append, List.nil_append]); repeat (first | exact List.Mem.head _ | apply List.Mem.tail))).2) (fun bc2 _ => ?_))
    refine R_cons rfl (op_pure (p_move rfl) rfl ?_)
    refine R_cons rfl (op_pure (p_extract (i := 0) rfl rfl) rfl ?_)
    refine R_cons rfl (op_pure (p_extract (i := 1) rfl rfl) rfl ?_)
    refine R_cons rfl (op_pure (p_assign rfl) rfl ?_)
    refine R_cons rfl (op_pure (p_assign rfl) rfl ?_)
    refine R_nil ?_
    repeat (first | refine S_scope ?_ | refine S_label ?_ | refine E_noGoto_normal ?_ | refine E_noGoto_ret ?_ | refine E_noGoto_exit ?_ | refine S_yes rfl (by first | with_reducible rfl | decide) ?_ | refine S_no rfl (by first | with_reducible rfl | decide) ?_ | refine S_seq ?_ | refine E_seq ?_ | refine S_block ?_ | refine E_block_normal ?_ | refine S_skip ?_ | refine S_exit ?_ | refine S_ret ?_ | refine E_then_exit ?_ | refine E_then_ret ?_ | refine E_block_ret ?_ | refine E_block_exit ?_ | refine E_block_exit_other rfl ?_)
    refine S_region ?_
    refine R_cons rfl (op_pure (p_move rfl) rfl ?_)
    refine R_cons rfl (op_pure (p_bin rfl rfl (b_eql g0)) rfl ?_)
    refine R_nil ?_
    repeat (first | refine S_scope ?_ | refine S_label ?_ | refine E_noGoto_normal ?_ | refine E_noGoto_ret ?_ | refine E_noGoto_exit ?_ | refine S_yes rfl (by first | with_reducible rfl | decide) ?_ | refine S_no rfl (by first | with_reducible rfl | decide) ?_ | refine S_seq ?_ | refine E_seq ?_ | refine S_block ?_ | refine E_block_normal ?_ | refine S_skip ?_ | refine S_exit ?_ | refine S_ret ?_ | refine E_then_exit ?_ | refine E_then_ret ?_ | refine E_block_ret ?_ | refine E_block_exit ?_ | refine E_block_exit_other rfl ?_)
    refine S_region ?_
    refine R_cons rfl (op_pure (p_move rfl) rfl ?_)
    refine R_cons rfl (op_pure (p_bin rfl rfl (b_eql (by first | assumption | exact beq_iff_eq.2 (by omega) | exact beq_eq_false_iff_ne.2 (by omega) | rfl))) rfl ?_)
    refine R_cons rfl (op_pure (p_move rfl) rfl ?_)
    first | refine R_pass rfl rfl rfl rfl ?_ | refine R_pass_undef rfl rfl rfl ?_ | refine R_guard rfl rfl rfl (op_pure (p_move rfl) rfl ?_)
    first | refine R_pass rfl rfl rfl rfl ?_ | refine R_pass_undef rfl rfl rfl ?_ | refine R_guard rfl rfl rfl (op_callV rfl rfl Try.func22 rfl (by kernel_rfl) rfl (Nat.le_refl _) (fun w' hm => cused_any bc2 i bd 0 false w' (hm.own (bc2, _) (by (try simp only [List.cons_append, List.nil_append]); repeat (first | exact List.Mem.head _ | apply List.Mem.tail))).2) ?_)
    first | refine R_pass rfl rfl rfl rfl ?_ | refine R_pass_undef rfl rfl rfl ?_ | refine R_guard rfl rfl rfl (op_pure (p_move rfl) rfl ?_)
    first | refine R_pass rfl rfl rfl rfl ?_ | refine R_pass_undef rfl rfl rfl ?_ | refine R_guard rfl rfl rfl (op_pure (p_bin rfl rfl (b_eql gi)) rfl ?_)
    refine R_cons rfl (op_pure (by first | exact p_pick_yes rfl rfl | exact p_pick_no rfl rfl | exact p_pick rfl rfl rfl) rfl ?_)
    refine R_cons rfl (op_pure (p_move rfl) rfl ?_)
    first | refine R_pass rfl rfl rfl rfl ?_ | refine R_pass_undef rfl rfl rfl ?_ | refine R_guard rfl rfl rfl (op_callV rfl rfl Try.func23 rfl (by kernel_rfl) rfl (Nat.le_refl _) (fun w' _ => lives22 w') ?_)
    refine R_cons rfl (op_pure (by first | exact p_pick_yes rfl rfl | exact p_pick_no rfl rfl | exact p_pick rfl rfl rfl) rfl ?_)
    refine R_cons rfl (op_pure (p_assign rfl) rfl ?_)
    refine R_nil ?_
    repeat (first | refine S_scope ?_ | refine S_label ?_ | refine E_noGoto_normal ?_ | refine E_noGoto_ret ?_ | refine E_noGoto_exit ?_ | refine S_yes rfl (by first | with_reducible rfl | decide) ?_ | refine S_no rfl (by first | with_reducible rfl | decide) ?_ | refine S_seq ?_ | refine E_seq ?_ | refine S_block ?_ | refine E_block_normal ?_ | refine S_skip ?_ | refine S_exit ?_ | refine S_ret ?_ | refine E_then_exit ?_ | refine E_then_ret ?_ | refine E_block_ret ?_ | refine E_block_exit ?_ | refine E_block_exit_other rfl ?_)
    exact E_ret1 rfl rfl fun w' hm => ⟨rfl, hm.below⟩
  · have hoy : openedS y = none := by rw [← hy]; exact turned_none i (by omega) (by omega) p hpl by_ hb
    have g0 : ((by_.toNat : Int) == 0) = false := beq_eq_false_iff_ne.2 (fun h => hb (by
      have : by_.toNat = 0 := by omega
      exact UInt8.toNat_inj.1 this))
    refine S_region ?_
    refine R_cons rfl (op_pure (p_move rfl) rfl ?_)
    refine R_cons rfl (op_callV rfl rfl Try.func20 rfl (by kernel_rfl) rfl (Nat.le_refl _) (fun w' hm => copenNone bd bn 1 _ _ _ _ _ _ _ _ hSy hly 0 (by omega) _ hxy hoy w' (hm.own (bd, _) (by (try simp only [List.cons_append, List.nil_append]); repeat (first | exact List.Mem.head _ | apply List.Mem.tail))).2 (hm.own (bn, _) (by (try simp only [List.cons_append, List.nil_append]); repeat (first | exact List.Mem.head _ | apply List.Mem.tail))).2) ?_)
    refine R_cons rfl (op_pure (p_move rfl) rfl ?_)
    refine R_cons rfl (op_pure (p_extract (i := 0) rfl rfl) rfl ?_)
    refine R_cons rfl (op_pure (p_extract (i := 1) rfl rfl) rfl ?_)
    refine R_cons rfl (op_pure (p_assign rfl) rfl ?_)
    refine R_cons rfl (op_pure (p_assign rfl) rfl ?_)
    refine R_nil ?_
    repeat (first | refine S_scope ?_ | refine S_label ?_ | refine E_noGoto_normal ?_ | refine E_noGoto_ret ?_ | refine E_noGoto_exit ?_ | refine S_yes rfl (by first | with_reducible rfl | decide) ?_ | refine S_no rfl (by first | with_reducible rfl | decide) ?_ | refine S_seq ?_ | refine E_seq ?_ | refine S_block ?_ | refine E_block_normal ?_ | refine S_skip ?_ | refine S_exit ?_ | refine S_ret ?_ | refine E_then_exit ?_ | refine E_then_ret ?_ | refine E_block_ret ?_ | refine E_block_exit ?_ | refine E_block_exit_other rfl ?_)
    refine S_region ?_
    refine R_cons rfl (op_pure (p_move rfl) rfl ?_)
    refine R_cons rfl (op_pure (p_bin rfl rfl (b_eql g0)) rfl ?_)
    refine R_nil ?_
    repeat (first | refine S_scope ?_ | refine S_label ?_ | refine E_noGoto_normal ?_ | refine E_noGoto_ret ?_ | refine E_noGoto_exit ?_ | refine S_yes rfl (by first | with_reducible rfl | decide) ?_ | refine S_no rfl (by first | with_reducible rfl | decide) ?_ | refine S_seq ?_ | refine E_seq ?_ | refine S_block ?_ | refine E_block_normal ?_ | refine S_skip ?_ | refine S_exit ?_ | refine S_ret ?_ | refine E_then_exit ?_ | refine E_then_ret ?_ | refine E_block_ret ?_ | refine E_block_exit ?_ | refine E_block_exit_other rfl ?_)
    refine S_region ?_
    refine R_cons rfl (op_pure (p_move rfl) rfl ?_)
    refine R_cons rfl (op_pure (p_bin rfl rfl (b_eql (by first | assumption | exact beq_iff_eq.2 (by omega) | exact beq_eq_false_iff_ne.2 (by omega) | rfl))) rfl ?_)
    refine R_cons rfl (op_pure (p_move rfl) rfl ?_)
    first | refine R_pass rfl rfl rfl rfl ?_ | refine R_pass_undef rfl rfl rfl ?_ | refine R_guard rfl rfl rfl (op_callV rfl rfl Try.func23 rfl (by kernel_rfl) rfl (Nat.le_refl _) (fun w' _ => lives22 w') ?_)
    refine R_cons rfl (op_pure (by first | exact p_pick_yes rfl rfl | exact p_pick_no rfl rfl | exact p_pick rfl rfl rfl) rfl ?_)
    refine R_cons rfl (op_pure (p_assign rfl) rfl ?_)
    refine R_nil ?_
    repeat (first | refine S_scope ?_ | refine S_label ?_ | refine E_noGoto_normal ?_ | refine E_noGoto_ret ?_ | refine E_noGoto_exit ?_ | refine S_yes rfl (by first | with_reducible rfl | decide) ?_ | refine S_no rfl (by first | with_reducible rfl | decide) ?_ | refine S_seq ?_ | refine E_seq ?_ | refine S_block ?_ | refine E_block_normal ?_ | refine S_skip ?_ | refine S_exit ?_ | refine S_ret ?_ | refine E_then_exit ?_ | refine E_then_ret ?_ | refine E_block_ret ?_ | refine E_block_exit ?_ | refine E_block_exit_other rfl ?_)
    exact E_ret1 rfl rfl fun w' hm => ⟨rfl, hm.below⟩

theorem own : ownKnob Try.prog.godebug = none := by kernel_rfl
theorem laidOut : laidOutB Try.prog = true := by kernel_rfl
set_option maxRecDepth 100000 in
theorem lifted (os : Os) (started : os.Started) (H : Type) (enc : TypeId × Value → H) :
    ReturnsInHanded {} Try.checked os 8 .any (Rows.countsFormSpec.pre6 enc Try.prog Try.f8 Rows.countsFormRow.domain false) (Rows.countsFormSpec.post enc Try.prog Try.f8 false true false false) := by
  refine returnsInHanded_of_change (C := Try.checked) own started (by kernel_rfl) Try.func8
    (ChangeSpec.witness6 (enc := enc) (C := Try.checked) false ⟨#[], #[.int .u8 0, .int .u8 0, .int .u8 0], []⟩ 8 (by kernel_rfl) (by kernel_rfl) (by kernel_rfl) (by kernel_rfl)) ?_
  intro W base args ds gs before hval0 hW hcnd _
  have hval : ∀ (j : Nat) t v, Try.f8.params[j]? = some t → args[j]? = some v → Value.okWide Try.prog W .any base t v := hval0
  have hW' := hW
  obtain ⟨p, q, hA0, hV, rfl, hfz, hnd⟩ := hW
  have hA : DataW.TrodAll enc Try.prog W 0 (fun _ => true) true Try.f8.params.toList args.toList ds p := hA0
  rw [Try.params8] at hA hval
  obtain ⟨v0, vs0, d0, ds0, p0, q0, hargs, rfl, rfl, h0, r0⟩ := trodAll_cons hA
  obtain ⟨v1, vs1, d1, ds1, p1, q1, rfl, rfl, rfl, h1, r1⟩ := trodAll_cons r0
  obtain ⟨v2, vs2, d2, ds2, p2, q2, rfl, rfl, rfl, h2, r2⟩ := trodAll_cons r1
  obtain ⟨rfl, rfl, rfl⟩ := trodAll_nil r2
  obtain rfl : args = #[v0, v1, v2] := by cases args; simp_all
  obtain ⟨rfl, rfl⟩ := trodVars_none hV
  have k0 := h0
  have lt0 : ∀ x ∈ p0, x.block < W.heap.size := by obtain ⟨m, hm⟩ := k0; exact DataW.trod_lt m _ _ _ hm
  have k1 := h1
  have lt1 : ∀ x ∈ p1, x.block < W.heap.size := by obtain ⟨m, hm⟩ := k1; exact DataW.trod_lt m _ _ _ hm
  have k2 := h2
  have lt2 : ∀ x ∈ p2, x.block < W.heap.size := by obtain ⟨m, hm⟩ := k2; exact DataW.trod_lt m _ _ _ hm
  obtain ⟨a0, rfl⟩ := arg_u8 Try.underlying5 (hval 0 5 v0 rfl rfl) k0
  obtain ⟨a1, rfl⟩ := arg_u8 Try.underlying5 (hval 1 5 v1 rfl rfl) k1
  obtain ⟨a2, rfl⟩ := arg_u8 Try.underlying5 (hval 2 5 v2 rfl rfl) k2
  clear hA0 hval0
  refine (walk W a0 a1 a2).mono fun e W' ⟨he, bel⟩ => ?_
  subst he
  exact ⟨_, rfl, _, _, _, [], _, [], hW', trodAll_mk1 (shut_bool Try.underlying4 _), (trodAll_cons_mk (Below.trod laidOut (by kernel_rfl) (of_decide_eq_true (by kernel_rfl)) k0 bel lt0) (trodAll_cons_mk (Below.trod laidOut (by kernel_rfl) (of_decide_eq_true (by kernel_rfl)) k1 bel lt1) (trodAll_cons_mk (Below.trod laidOut (by kernel_rfl) (of_decide_eq_true (by kernel_rfl)) k2 bel lt2) trodAll_mk0))), rfl, bel.frame _, fun h => by cases h⟩
/-- The statement. -/
theorem proved : Rows.CountsFormSaid :=
  OpenClaim.holds_of_wide 8 Try.f8 rfl rfl rfl rfl rfl rfl rfl ⟨rfl, rfl, rfl, rfl, rfl⟩ rfl rfl rfl rfl rfl (by kernel_rfl) Try.func8 (by kernel_rfl)
    (of_decide_eq_true (by kernel_rfl)) (by unfold Func.isWrapper; first | (rw [if_pos (by decide +kernel)]; kernel_rfl) | (rw [if_neg (by decide +kernel)]; exact ⟨rfl, rfl⟩))
    (fun os started H enc _ => lifted os started H enc)
#print axioms proved
end Go.Proofs.Ytfdlafjifjndeaa.countsForm
