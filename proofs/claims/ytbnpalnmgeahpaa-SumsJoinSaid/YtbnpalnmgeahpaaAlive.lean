/-
  The layer sums: what the statements' own example asks.
-/
import Derived.Test.YtbnpalnmgeahpaaSums
namespace Go.Proofs.Ytbnpalnmgeahpaa
open Go.RowKit Go.K
attribute [local irreducible] Exit.then Exit.inBlock bodyPost Code.wp Sx Rx Qx Ex Dx Op1 Pure1 Still1 K.Sub Calm SIx RIx Code.wpIn
attribute [local irreducible] onNat
def wiki : List UInt8 := [87, 105, 107, 105, 112, 101, 100, 105, 97]
theorem refOf_any (A : Option Addr) (n c : Nat) (xs : List UInt8) (w : World) (hl : xs.length = n) (hrd : Reads w A n (bytesV xs)) (hnc : n ≤ c) (hcm : c ≤ maxLen) :
    Calls Try.prog 14 [.slice A n c].toArray w fun e w' => e = .returned (.int .u32 (onNat 1 xs : Int)) ∧ Below w.heap.size w w' := by
  refine enter Try.func14 rfl Try.ntmps14 (by simp) ?_
  repeat (first | refine S_yes rfl rfl ?_ | refine S_no rfl rfl ?_ | refine S_seq ?_ | refine E_seq ?_ | refine S_block ?_ | refine E_block_normal ?_ | refine S_skip ?_ | refine S_exit ?_ | refine S_ret ?_ | refine E_then_exit ?_ | refine E_then_ret ?_ | refine E_block_ret ?_ | refine E_block_exit ?_ | refine E_block_exit_other rfl ?_)
  refine S_region ?_
  refine R_cons rfl (op_pure (p_assign rfl) rfl ?_)
  refine R_nil ?_
  repeat (first | refine S_yes rfl rfl ?_ | refine S_no rfl rfl ?_ | refine S_seq ?_ | refine E_seq ?_ | refine S_block ?_ | refine E_block_normal ?_ | refine S_skip ?_ | refine S_exit ?_ | refine S_ret ?_ | refine E_then_exit ?_ | refine E_then_ret ?_ | refine E_block_ret ?_ | refine E_block_exit ?_ | refine E_block_exit_other rfl ?_)
  refine S_region ?_
  refine R_cons rfl (op_pure (p_move rfl) rfl ?_)
  refine R_cons rfl (op_callV rfl rfl Try.func16 rfl (by kernel_rfl) rfl (Nat.le_refl _) (fun w' hm => refOn_any 1 (by decide) A n c xs w' hl (hrd.base hm) hnc hcm) ?_)
  refine R_cons rfl (op_pure (p_assign rfl) rfl ?_)
  refine R_nil ?_
  repeat (first | refine S_yes rfl rfl ?_ | refine S_no rfl rfl ?_ | refine S_seq ?_ | refine E_seq ?_ | refine S_block ?_ | refine E_block_normal ?_ | refine S_skip ?_ | refine S_exit ?_ | refine S_ret ?_ | refine E_then_exit ?_ | refine E_then_ret ?_ | refine E_block_ret ?_ | refine E_block_exit ?_ | refine E_block_exit_other rfl ?_)
  exact E_ret1 rfl rfl fun w' hm => ⟨rfl, hm.below⟩
theorem alive4 (w : World) : Calls Try.prog 18 #[] w fun e w' => e = .returned (.bool true) ∧ Below w.heap.size w w' := by
  have h1 : (((onNat 1 [] : Nat) : Int) == 1) = true := by decide +kernel
  have h2 : (((onNat 1 wiki : Nat) : Int) == 300286872) = true := by decide +kernel
  have h3 : (((onNat 1 [97] : Nat) : Int) == 6422626) = true := by decide +kernel
  have h4 : (((onNat 65537 [] : Nat) : Int) == 65537) = true := by decide +kernel
  have h5 : (((onNat 65521 [] : Nat) : Int) == 0) = true := by decide +kernel
  refine enter Try.func18 rfl Try.ntmps18 (by simp) ?_
  repeat (first | refine S_yes rfl rfl ?_ | refine S_no rfl rfl ?_ | refine S_seq ?_ | refine E_seq ?_ | refine S_block ?_ | refine E_block_normal ?_ | refine S_skip ?_ | refine S_exit ?_ | refine S_ret ?_ | refine E_then_exit ?_ | refine E_then_ret ?_ | refine E_block_ret ?_ | refine E_block_exit ?_ | refine E_block_exit_other rfl ?_)
  refine S_region ?_
  refine R_cons rfl (op_pure (p_assign rfl) rfl ?_)
  refine R_nil ?_
  repeat (first | refine S_yes rfl rfl ?_ | refine S_no rfl rfl ?_ | refine S_seq ?_ | refine E_seq ?_ | refine S_block ?_ | refine E_block_normal ?_ | refine S_skip ?_ | refine S_exit ?_ | refine S_ret ?_ | refine E_then_exit ?_ | refine E_then_ret ?_ | refine E_block_ret ?_ | refine E_block_exit ?_ | refine E_block_exit_other rfl ?_)
  refine S_region ?_
  refine R_cons rfl (op_callV rfl rfl Try.func13 rfl (by kernel_rfl) rfl (Nat.le_refl _) (fun w' hm => of_any none 0 0 [] w' rfl (Reads.nil _) (Nat.le_refl _) (Nat.zero_le _)) ?_)
  refine R_cons rfl (op_pure (p_bin rfl rfl (b_eql (by first | assumption | exact beq_iff_eq.2 (by omega) | exact beq_eq_false_iff_ne.2 (by omega) | rfl))) rfl ?_)
  refine R_cons rfl (op_pure (p_move rfl) rfl ?_)
  first | refine R_pass rfl rfl rfl rfl ?_ | refine R_pass_undef rfl rfl rfl ?_ | refine R_guard rfl rfl rfl (op_buildSliceAll (ps := [(0, .const (.int .u8 87)), (1, .const (.int .u8 105)), (2, .const (.int .u8 107)), (3, .const (.int .u8 105)), (4, .const (.int .u8 112)), (5, .const (.int .u8 101)), (6, .const (.int .u8 100)), (7, .const (.int .u8 105)), (8, .const (.int .u8 97))]) rfl slc_u8s.1 el_u8 (by decide) (by decide) (by rfl) rfl (Nat.le_refl _) (fun b4 => ?_))
  first | refine R_pass rfl rfl rfl rfl ?_ | refine R_pass_undef rfl rfl rfl ?_ | refine R_guard rfl rfl rfl (op_convBytes rfl slc_u8s.1 Try.underlying5 (by repeat (first | exact At.here | apply At.there)) rfl ?_)
  first | refine R_pass rfl rfl rfl rfl ?_ | refine R_pass_undef rfl rfl rfl ?_ | refine R_guard rfl rfl rfl (op_callV rfl rfl Try.func13 rfl (by kernel_rfl) rfl (Nat.le_refl _) (fun w' hm => of_any _ 9 9 wiki w' rfl (hm.readsAll (by repeat (first | exact List.Mem.head _ | apply List.Mem.tail)) rfl) (Nat.le_refl _) (by unfold maxLen; omega)) ?_)
  first | refine R_pass rfl rfl rfl rfl ?_ | refine R_pass_undef rfl rfl rfl ?_ | refine R_guard rfl rfl rfl (op_pure (p_bin rfl rfl (b_eql (by first | assumption | exact beq_iff_eq.2 (by omega) | exact beq_eq_false_iff_ne.2 (by omega) | rfl))) rfl ?_)
  refine R_cons rfl (op_pure (by first | exact p_pick_yes rfl rfl | exact p_pick_no rfl rfl | exact p_pick rfl rfl rfl) rfl ?_)
  refine R_cons rfl (op_pure (p_move rfl) rfl ?_)
  first | refine R_pass rfl rfl rfl rfl ?_ | refine R_pass_undef rfl rfl rfl ?_ | refine R_guard rfl rfl rfl (op_buildSliceAll (ps := [(0, .const (.int .u8 97))]) rfl slc_u8s.1 el_u8 (by decide) (by decide) (by rfl) rfl (Nat.le_refl _) (fun b10 => ?_))
  first | refine R_pass rfl rfl rfl rfl ?_ | refine R_pass_undef rfl rfl rfl ?_ | refine R_guard rfl rfl rfl (op_convBytes rfl slc_u8s.1 Try.underlying5 (by repeat (first | exact At.here | apply At.there)) rfl ?_)
  first | refine R_pass rfl rfl rfl rfl ?_ | refine R_pass_undef rfl rfl rfl ?_ | refine R_guard rfl rfl rfl (op_callV rfl rfl Try.func13 rfl (by kernel_rfl) rfl (Nat.le_refl _) (fun w' hm => of_any _ 1 1 [97] w' rfl (hm.readsAll (by repeat (first | exact List.Mem.head _ | apply List.Mem.tail)) rfl) (Nat.le_refl _) (by unfold maxLen; omega)) ?_)
  first | refine R_pass rfl rfl rfl rfl ?_ | refine R_pass_undef rfl rfl rfl ?_ | refine R_guard rfl rfl rfl (op_pure (p_bin rfl rfl (b_eql (by first | assumption | exact beq_iff_eq.2 (by omega) | exact beq_eq_false_iff_ne.2 (by omega) | rfl))) rfl ?_)
  refine R_cons rfl (op_pure (by first | exact p_pick_yes rfl rfl | exact p_pick_no rfl rfl | exact p_pick rfl rfl rfl) rfl ?_)
  refine R_cons rfl (op_pure (p_move rfl) rfl ?_)
  first | refine R_pass rfl rfl rfl rfl ?_ | refine R_pass_undef rfl rfl rfl ?_ | refine R_guard rfl rfl rfl (op_buildSliceAll (ps := [(0, .const (.int .u8 97))]) rfl slc_u8s.1 el_u8 (by decide) (by decide) (by rfl) rfl (Nat.le_refl _) (fun b16 => ?_))
  first | refine R_pass rfl rfl rfl rfl ?_ | refine R_pass_undef rfl rfl rfl ?_ | refine R_guard rfl rfl rfl (op_convBytes rfl slc_u8s.1 Try.underlying5 (by repeat (first | exact At.here | apply At.there)) rfl ?_)
  first | refine R_pass rfl rfl rfl rfl ?_ | refine R_pass_undef rfl rfl rfl ?_ | refine R_guard rfl rfl rfl (op_callV rfl rfl Try.func15 rfl (by kernel_rfl) rfl (Nat.le_refl _) (fun w' hm => on_any 1 (by omega) _ 1 1 [97] w' rfl (hm.readsAll (by repeat (first | exact List.Mem.head _ | apply List.Mem.tail)) rfl) (Nat.le_refl _) (by unfold maxLen; omega)) ?_)
  first | refine R_pass rfl rfl rfl rfl ?_ | refine R_pass_undef rfl rfl rfl ?_ | refine R_guard rfl rfl rfl (op_pure (p_bin rfl rfl (b_eql (by first | assumption | exact beq_iff_eq.2 (by omega) | exact beq_eq_false_iff_ne.2 (by omega) | rfl))) rfl ?_)
  refine R_cons rfl (op_pure (by first | exact p_pick_yes rfl rfl | exact p_pick_no rfl rfl | exact p_pick rfl rfl rfl) rfl ?_)
  refine R_cons rfl (op_pure (p_move rfl) rfl ?_)
  first | refine R_pass rfl rfl rfl rfl ?_ | refine R_pass_undef rfl rfl rfl ?_ | refine R_guard rfl rfl rfl (op_callV rfl rfl Try.func15 rfl (by kernel_rfl) rfl (Nat.le_refl _) (fun w' hm => on_any 65537 (by omega) none 0 0 [] w' rfl (Reads.nil _) (Nat.le_refl _) (Nat.zero_le _)) ?_)
  first | refine R_pass rfl rfl rfl rfl ?_ | refine R_pass_undef rfl rfl rfl ?_ | refine R_guard rfl rfl rfl (op_pure (p_bin rfl rfl (b_eql (by first | assumption | exact beq_iff_eq.2 (by omega) | exact beq_eq_false_iff_ne.2 (by omega) | rfl))) rfl ?_)
  refine R_cons rfl (op_pure (by first | exact p_pick_yes rfl rfl | exact p_pick_no rfl rfl | exact p_pick rfl rfl rfl) rfl ?_)
  refine R_cons rfl (op_pure (p_move rfl) rfl ?_)
  first | refine R_pass rfl rfl rfl rfl ?_ | refine R_pass_undef rfl rfl rfl ?_ | refine R_guard rfl rfl rfl (op_callV rfl rfl Try.func15 rfl (by kernel_rfl) rfl (Nat.le_refl _) (fun w' hm => on_any 65521 (by omega) none 0 0 [] w' rfl (Reads.nil _) (Nat.le_refl _) (Nat.zero_le _)) ?_)
  first | refine R_pass rfl rfl rfl rfl ?_ | refine R_pass_undef rfl rfl rfl ?_ | refine R_guard rfl rfl rfl (op_pure (p_bin rfl rfl (b_eql (by first | assumption | exact beq_iff_eq.2 (by omega) | exact beq_eq_false_iff_ne.2 (by omega) | rfl))) rfl ?_)
  refine R_cons rfl (op_pure (by first | exact p_pick_yes rfl rfl | exact p_pick_no rfl rfl | exact p_pick rfl rfl rfl) rfl ?_)
  refine R_cons rfl (op_pure (p_assign rfl) rfl ?_)
  refine R_nil ?_
  repeat (first | refine S_yes rfl rfl ?_ | refine S_no rfl rfl ?_ | refine S_seq ?_ | refine E_seq ?_ | refine S_block ?_ | refine E_block_normal ?_ | refine S_skip ?_ | refine S_exit ?_ | refine S_ret ?_ | refine E_then_exit ?_ | refine E_then_ret ?_ | refine E_block_ret ?_ | refine E_block_exit ?_ | refine E_block_exit_other rfl ?_)
  exact E_ret1 rfl rfl fun w' hm => ⟨rfl, hm.below⟩
end Go.Proofs.Ytbnpalnmgeahpaa
