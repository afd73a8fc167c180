/-
  The layer shas and the chapter's document: turns of numbers, what a block makes of eight numbers; each function by one walk.
-/
import Derived.Test.YtfdlafjifjndeaaTy
import Derived.Test.YtfdlafjifjndeaaShaLaw
namespace Go.Proofs.Ytfdlafjifjndeaa
open Go.Sha
open Go.RowKit Go.K
attribute [local irreducible] Exit.then Exit.inBlock Exit.noGoto bodyPost Code.wp QL Sx Rx Qx Ex Dx Op1 Pure1 Still1 K.Sub Calm Code.wpIn

theorem rot_any (x : UInt32) (n : Nat) (h1 : 1 ≤ n) (h31 : n ≤ 31) (m : Int) (hm : m = -(n : Int)) (w : World) :
    Calls Try.prog 100 [.int .u32 (x.toNat : Int), .int .i64 m].toArray w fun e w' => e = .returned (.int .u32 ((rotr x n).toNat : Int)) ∧ Below w.heap.size w w' := by
  subst hm
  have hw : IntKind.u64.wrap (-(n : Int)) = ((18446744073709551616 - n : Nat) : Int) := by rw [IntKind.wrap_u64]; omega
  have ha : bits .and .u64 ((18446744073709551616 - n : Nat) : Int) 31 = ((32 - n : Nat) : Int) := by
    show IntKind.u64.wrap ((BitVec.ofInt 64 ((18446744073709551616 - n : Nat) : Int) &&& BitVec.ofInt 64 ((31 : Nat) : Int)).toNat : Int) = _
    rw [BitVec.toNat_and, ofInt_nat 64 _ (by omega), ofInt_nat 64 31 (by decide), show (31 : Nat) = 2 ^ 5 - 1 from rfl, Nat.and_two_pow_sub_one_eq_mod, IntKind.wrap_u64]
    omega
  have hs : IntKind.u64.wrap (32 - ((32 - n : Nat) : Int)) = (n : Int) := by rw [IntKind.wrap_u64]; omega
  have he : (x <<< UInt32.ofNat (32 - n)) ||| (x >>> UInt32.ofNat n) = rotr x n := by unfold rotr; exact UInt32.or_comm _ _
  generalize hq : (18446744073709551616 - n : Nat) = q at hw ha
  refine enter Try.func100 rfl Try.ntmps100 (by simp) ?_
  repeat (first | refine S_scope ?_ | refine S_label ?_ | refine E_noGoto_normal ?_ | refine E_noGoto_ret ?_ | refine E_noGoto_exit ?_ | refine S_yes rfl (by first | with_reducible rfl | decide) ?_ | refine S_no rfl (by first | with_reducible rfl | decide) ?_ | refine S_seq ?_ | refine E_seq ?_ | refine S_block ?_ | refine E_block_normal ?_ | refine S_skip ?_ | refine S_exit ?_ | refine S_ret ?_ | refine E_then_exit ?_ | refine E_then_ret ?_ | refine E_block_ret ?_ | refine E_block_exit ?_ | refine E_block_exit_other rfl ?_)
  refine S_region ?_
  refine R_cons rfl (op_pure (p_assign rfl) rfl ?_)
  refine R_nil ?_
  repeat (first | refine S_scope ?_ | refine S_label ?_ | refine E_noGoto_normal ?_ | refine E_noGoto_ret ?_ | refine E_noGoto_exit ?_ | refine S_yes rfl (by first | with_reducible rfl | decide) ?_ | refine S_no rfl (by first | with_reducible rfl | decide) ?_ | refine S_seq ?_ | refine E_seq ?_ | refine S_block ?_ | refine E_block_normal ?_ | refine S_skip ?_ | refine S_exit ?_ | refine S_ret ?_ | refine E_then_exit ?_ | refine E_then_ret ?_ | refine E_block_ret ?_ | refine E_block_exit ?_ | refine E_block_exit_other rfl ?_)
  refine S_region ?_
  refine R_cons rfl (op_pure (p_move rfl) rfl ?_)
  refine R_cons rfl (op_pure (by exact p_convert rfl sc_int ik_uint (by first | assumption | exact u8_nat _ | exact w8_i64 _ | exact w8_u64 _ | exact w8_u32n _ | exact w32_u64 _ | exact w32_i64 _ | exact w_in_i64 (by omega) | exact w_in_u64 (by omega) | exact w_in_u32 (by omega))) rfl ?_)
  refine R_cons rfl (op_pure (by exact p_bin rfl rfl (b_and (by assumption))) rfl ?_)
  refine R_cons rfl (op_pure (p_assign rfl) rfl ?_)
  refine R_nil ?_
  repeat (first | refine S_scope ?_ | refine S_label ?_ | refine E_noGoto_normal ?_ | refine E_noGoto_ret ?_ | refine E_noGoto_exit ?_ | refine S_yes rfl (by first | with_reducible rfl | decide) ?_ | refine S_no rfl (by first | with_reducible rfl | decide) ?_ | refine S_seq ?_ | refine E_seq ?_ | refine S_block ?_ | refine E_block_normal ?_ | refine S_skip ?_ | refine S_exit ?_ | refine S_ret ?_ | refine E_then_exit ?_ | refine E_then_ret ?_ | refine E_block_ret ?_ | refine E_block_exit ?_ | refine E_block_exit_other rfl ?_)
  refine S_region ?_
  refine R_cons rfl (op_pure (p_move rfl) rfl ?_)
  refine R_cons rfl (op_pure (p_move rfl) rfl ?_)
  refine R_cons rfl (op_pure (by exact p_bin rfl rfl (b_shl (by omega) (by show _ ≤ (32 : Int); omega) (k32_shl _ _ (by omega)))) rfl ?_)
  refine R_cons rfl (op_pure (p_move rfl) rfl ?_)
  refine R_cons rfl (op_pure (p_move rfl) rfl ?_)
  refine R_cons rfl (op_pure (by first | exact p_bin rfl rfl (b_sub (by assumption)) | exact p_bin rfl rfl (b_sub (w_in_u64 (by omega)))) rfl ?_)
  refine R_cons rfl (op_pure (by first | exact p_bin rfl rfl (b_shr (by omega) (by show _ ≤ (32 : Int); omega) (by assumption)) | exact p_bin rfl rfl (b_shr (by omega) (by show _ ≤ (32 : Int); omega) (k32_shr _ _ (by omega)))) rfl ?_)
  refine R_cons rfl (op_pure (by exact p_bin rfl rfl (b_or (k32_or _ _))) rfl ?_)
  refine R_cons rfl (op_pure (p_assign rfl) rfl ?_)
  refine R_nil ?_
  repeat (first | refine S_scope ?_ | refine S_label ?_ | refine E_noGoto_normal ?_ | refine E_noGoto_ret ?_ | refine E_noGoto_exit ?_ | refine S_yes rfl (by first | with_reducible rfl | decide) ?_ | refine S_no rfl (by first | with_reducible rfl | decide) ?_ | refine S_seq ?_ | refine E_seq ?_ | refine S_block ?_ | refine E_block_normal ?_ | refine S_skip ?_ | refine S_exit ?_ | refine S_ret ?_ | refine E_then_exit ?_ | refine E_then_ret ?_ | refine E_block_ret ?_ | refine E_block_exit ?_ | refine E_block_exit_other rfl ?_)
  exact E_ret1 rfl rfl fun w' hm => ⟨by rw [he], hm.below⟩

theorem three_any (x : UInt32) (a b c : Nat) (ha : 1 ≤ a ∧ a ≤ 31) (hb : 1 ≤ b ∧ b ≤ 31) (hc : 1 ≤ c ∧ c ≤ 31) (w : World) :
    Calls Try.prog 96 [.int .u32 (x.toNat : Int), .int .i64 (a : Int), .int .i64 (b : Int), .int .i64 (c : Int)].toArray w fun e w' => e = .returned (.int .u32 ((sig3 x a b c).toNat : Int)) ∧ Below w.heap.size w w' := by
  refine enter Try.func96 rfl Try.ntmps96 (by simp) ?_
  repeat (first | refine S_scope ?_ | refine S_label ?_ | refine E_noGoto_normal ?_ | refine E_noGoto_ret ?_ | refine E_noGoto_exit ?_ | refine S_yes rfl (by first | with_reducible rfl | decide) ?_ | refine S_no rfl (by first | with_reducible rfl | decide) ?_ | refine S_seq ?_ | refine E_seq ?_ | refine S_block ?_ | refine E_block_normal ?_ | refine S_skip ?_ | refine S_exit ?_ | refine S_ret ?_ | refine E_then_exit ?_ | refine E_then_ret ?_ | refine E_block_ret ?_ | refine E_block_exit ?_ | refine E_block_exit_other rfl ?_)
  refine S_region ?_
  refine R_cons rfl (op_pure (p_assign rfl) rfl ?_)
  refine R_nil ?_
  repeat (first | refine S_scope ?_ | refine S_label ?_ | refine E_noGoto_normal ?_ | refine E_noGoto_ret ?_ | refine E_noGoto_exit ?_ | refine S_yes rfl (by first | with_reducible rfl | decide) ?_ | refine S_no rfl (by first | with_reducible rfl | decide) ?_ | refine S_seq ?_ | refine E_seq ?_ | refine S_block ?_ | refine E_block_normal ?_ | refine S_skip ?_ | refine S_exit ?_ | refine S_ret ?_ | refine E_then_exit ?_ | refine E_then_ret ?_ | refine E_block_ret ?_ | refine E_block_exit ?_ | refine E_block_exit_other rfl ?_)
  refine S_region ?_
  refine R_cons rfl (op_pure (p_move rfl) rfl ?_)
  refine R_cons rfl (op_pure (p_move rfl) rfl ?_)
  refine R_cons rfl (op_pure (by exact p_neg rfl (w_in_i64 (by omega))) rfl ?_)
  refine R_cons rfl (op_callV rfl rfl Try.func100 rfl (by kernel_rfl) rfl (Nat.le_refl _) (fun w' _ => rot_any x a ha.1 ha.2 _ (by omega) w') ?_)
  refine R_cons rfl (op_pure (p_move rfl) rfl ?_)
  refine R_cons rfl (op_pure (p_move rfl) rfl ?_)
  refine R_cons rfl (op_pure (by exact p_neg rfl (w_in_i64 (by omega))) rfl ?_)
  refine R_cons rfl (op_callV rfl rfl Try.func100 rfl (by kernel_rfl) rfl (Nat.le_refl _) (fun w' _ => rot_any x b hb.1 hb.2 _ (by omega) w') ?_)
  refine R_cons rfl (op_pure (by exact p_bin rfl rfl (b_xor (k32_xor _ _))) rfl ?_)
  refine R_cons rfl (op_pure (p_move rfl) rfl ?_)
  refine R_cons rfl (op_pure (p_move rfl) rfl ?_)
  refine R_cons rfl (op_pure (by exact p_neg rfl (w_in_i64 (by omega))) rfl ?_)
  refine R_cons rfl (op_callV rfl rfl Try.func100 rfl (by kernel_rfl) rfl (Nat.le_refl _) (fun w' _ => rot_any x c hc.1 hc.2 _ (by omega) w') ?_)
  refine R_cons rfl (op_pure (by exact p_bin rfl rfl (b_xor (k32_xor _ _))) rfl ?_)
  refine R_cons rfl (op_pure (p_assign rfl) rfl ?_)
  refine R_nil ?_
  repeat (first | refine S_scope ?_ | refine S_label ?_ | refine E_noGoto_normal ?_ | refine E_noGoto_ret ?_ | refine E_noGoto_exit ?_ | refine S_yes rfl (by first | with_reducible rfl | decide) ?_ | refine S_no rfl (by first | with_reducible rfl | decide) ?_ | refine S_seq ?_ | refine E_seq ?_ | refine S_block ?_ | refine E_block_normal ?_ | refine S_skip ?_ | refine S_exit ?_ | refine S_ret ?_ | refine E_then_exit ?_ | refine E_then_ret ?_ | refine E_block_ret ?_ | refine E_block_exit ?_ | refine E_block_exit_other rfl ?_)
  exact E_ret1 rfl rfl fun w' hm => ⟨rfl, hm.below⟩

theorem two_any (x : UInt32) (a b c : Nat) (ha : 1 ≤ a ∧ a ≤ 31) (hb : 1 ≤ b ∧ b ≤ 31) (hc : 1 ≤ c ∧ c ≤ 31) (w : World) :
    Calls Try.prog 95 [.int .u32 (x.toNat : Int), .int .i64 (a : Int), .int .i64 (b : Int), .int .i64 (c : Int)].toArray w fun e w' => e = .returned (.int .u32 ((sig2 x a b c).toNat : Int)) ∧ Below w.heap.size w w' := by
  refine enter Try.func95 rfl Try.ntmps95 (by simp) ?_
  repeat (first | refine S_scope ?_ | refine S_label ?_ | refine E_noGoto_normal ?_ | refine E_noGoto_ret ?_ | refine E_noGoto_exit ?_ | refine S_yes rfl (by first | with_reducible rfl | decide) ?_ | refine S_no rfl (by first | with_reducible rfl | decide) ?_ | refine S_seq ?_ | refine E_seq ?_ | refine S_block ?_ | refine E_block_normal ?_ | refine S_skip ?_ | refine S_exit ?_ | refine S_ret ?_ | refine E_then_exit ?_ | refine E_then_ret ?_ | refine E_block_ret ?_ | refine E_block_exit ?_ | refine E_block_exit_other rfl ?_)
  refine S_region ?_
  refine R_cons rfl (op_pure (p_assign rfl) rfl ?_)
  refine R_nil ?_
  repeat (first | refine S_scope ?_ | refine S_label ?_ | refine E_noGoto_normal ?_ | refine E_noGoto_ret ?_ | refine E_noGoto_exit ?_ | refine S_yes rfl (by first | with_reducible rfl | decide) ?_ | refine S_no rfl (by first | with_reducible rfl | decide) ?_ | refine S_seq ?_ | refine E_seq ?_ | refine S_block ?_ | refine E_block_normal ?_ | refine S_skip ?_ | refine S_exit ?_ | refine S_ret ?_ | refine E_then_exit ?_ | refine E_then_ret ?_ | refine E_block_ret ?_ | refine E_block_exit ?_ | refine E_block_exit_other rfl ?_)
  refine S_quiet (by kernel_rfl) (by kernel_rfl) ?_
  refine Q_cons (Still1.of_pure (p_move rfl)) rfl ?_
  refine Q_cons (Still1.of_pure (p_move rfl)) rfl ?_
  refine Q_cons (Still1.of_pure (by exact p_neg rfl (w_in_i64 (by omega)))) rfl ?_
  refine Q_cons (still_call rfl rfl Try.func100 rfl (by kernel_rfl) (Nat.le_refl _) (fun w' _ => rot_any x a ha.1 ha.2 _ (by omega) w')) rfl ?_
  refine Q_cons (Still1.of_pure (p_move rfl)) rfl ?_
  refine Q_cons (Still1.of_pure (p_move rfl)) rfl ?_
  refine Q_cons (Still1.of_pure (by exact p_neg rfl (w_in_i64 (by omega)))) rfl ?_
  refine Q_cons (still_call rfl rfl Try.func100 rfl (by kernel_rfl) (Nat.le_refl _) (fun w' _ => rot_any x b hb.1 hb.2 _ (by omega) w')) rfl ?_
  refine Q_cons (Still1.of_pure (by exact p_bin rfl rfl (b_xor (k32_xor _ _)))) rfl ?_
  refine Q_cons (Still1.of_pure (p_move rfl)) rfl ?_
  refine Q_cons (Still1.of_pure (p_move rfl)) rfl ?_
  refine Q_cons (Still1.of_pure (by first | exact p_bin rfl rfl (b_shr (by omega) (by show _ ≤ (32 : Int); omega) (by assumption)) | exact p_bin rfl rfl (b_shr (by omega) (by show _ ≤ (32 : Int); omega) (k32_shr _ _ (by omega))))) rfl ?_
  refine Q_cons (Still1.of_pure (by exact p_bin rfl rfl (b_xor (k32_xor _ _)))) rfl ?_
  refine Q_cons (Still1.of_pure (p_assign rfl)) rfl ?_
  refine Q_nil ?_
  repeat (first | refine S_scope ?_ | refine S_label ?_ | refine E_noGoto_normal ?_ | refine E_noGoto_ret ?_ | refine E_noGoto_exit ?_ | refine S_yes rfl (by first | with_reducible rfl | decide) ?_ | refine S_no rfl (by first | with_reducible rfl | decide) ?_ | refine S_seq ?_ | refine E_seq ?_ | refine S_block ?_ | refine E_block_normal ?_ | refine S_skip ?_ | refine S_exit ?_ | refine S_ret ?_ | refine E_then_exit ?_ | refine E_then_ret ?_ | refine E_block_ret ?_ | refine E_block_exit ?_ | refine E_block_exit_other rfl ?_)
  exact E_ret1 rfl rfl fun w' hm => ⟨rfl, hm.below⟩

theorem r_any (x : UInt32) (n : Nat) (h1 : 1 ≤ n) (h31 : n ≤ 31) (w : World) :
    Calls Try.prog 91 [.int .u32 (x.toNat : Int), .int .i64 (n : Int)].toArray w fun e w' => e = .returned (.int .u32 ((rotr x n).toNat : Int)) ∧ Below w.heap.size w w' := by
  have hw : IntKind.u64.wrap (32 - (n : Int)) = ((32 - n : Nat) : Int) := by rw [IntKind.wrap_u64]; omega
  have hw2 : IntKind.u64.wrap (n : Int) = (n : Int) := w_in_u64 (by omega)
  refine enter Try.func91 rfl Try.ntmps91 (by simp) ?_
  repeat (first | refine S_scope ?_ | refine S_label ?_ | refine E_noGoto_normal ?_ | refine E_noGoto_ret ?_ | refine E_noGoto_exit ?_ | refine S_yes rfl (by first | with_reducible rfl | decide) ?_ | refine S_no rfl (by first | with_reducible rfl | decide) ?_ | refine S_seq ?_ | refine E_seq ?_ | refine S_block ?_ | refine E_block_normal ?_ | refine S_skip ?_ | refine S_exit ?_ | refine S_ret ?_ | refine E_then_exit ?_ | refine E_then_ret ?_ | refine E_block_ret ?_ | refine E_block_exit ?_ | refine E_block_exit_other rfl ?_)
  refine S_region ?_
  refine R_cons rfl (op_pure (p_assign rfl) rfl ?_)
  refine R_nil ?_
  repeat (first | refine S_scope ?_ | refine S_label ?_ | refine E_noGoto_normal ?_ | refine E_noGoto_ret ?_ | refine E_noGoto_exit ?_ | refine S_yes rfl (by first | with_reducible rfl | decide) ?_ | refine S_no rfl (by first | with_reducible rfl | decide) ?_ | refine S_seq ?_ | refine E_seq ?_ | refine S_block ?_ | refine E_block_normal ?_ | refine S_skip ?_ | refine S_exit ?_ | refine S_ret ?_ | refine E_then_exit ?_ | refine E_then_ret ?_ | refine E_block_ret ?_ | refine E_block_exit ?_ | refine E_block_exit_other rfl ?_)
  refine S_region ?_
  refine R_cons rfl (op_pure (p_move rfl) rfl ?_)
  refine R_cons rfl (op_pure (p_move rfl) rfl ?_)
  refine R_cons rfl (op_pure (by exact p_convert rfl sc_int ik_uint (by first | assumption | exact u8_nat _ | exact w8_i64 _ | exact w8_u64 _ | exact w8_u32n _ | exact w32_u64 _ | exact w32_i64 _ | exact w_in_i64 (by omega) | exact w_in_u64 (by omega) | exact w_in_u32 (by omega))) rfl ?_)
  refine R_cons rfl (op_pure (by first | exact p_bin rfl rfl (b_shr (by omega) (by show _ ≤ (32 : Int); omega) (by assumption)) | exact p_bin rfl rfl (b_shr (by omega) (by show _ ≤ (32 : Int); omega) (k32_shr _ _ (by omega)))) rfl ?_)
  refine R_cons rfl (op_pure (p_move rfl) rfl ?_)
  refine R_cons rfl (op_pure (p_move rfl) rfl ?_)
  refine R_cons rfl (op_pure (by exact p_bin rfl rfl (b_sub (w_in_i64 (by omega)))) rfl ?_)
  refine R_cons rfl (op_pure (by exact p_convert rfl sc_int ik_uint (by first | assumption | exact u8_nat _ | exact w8_i64 _ | exact w8_u64 _ | exact w8_u32n _ | exact w32_u64 _ | exact w32_i64 _ | exact w_in_i64 (by omega) | exact w_in_u64 (by omega) | exact w_in_u32 (by omega))) rfl ?_)
  refine R_cons rfl (op_pure (by exact p_bin rfl rfl (b_shl (by omega) (by show _ ≤ (32 : Int); omega) (k32_shl _ _ (by omega)))) rfl ?_)
  refine R_cons rfl (op_pure (by exact p_bin rfl rfl (b_or (k32_or _ _))) rfl ?_)
  refine R_cons rfl (op_pure (p_assign rfl) rfl ?_)
  refine R_nil ?_
  repeat (first | refine S_scope ?_ | refine S_label ?_ | refine E_noGoto_normal ?_ | refine E_noGoto_ret ?_ | refine E_noGoto_exit ?_ | refine S_yes rfl (by first | with_reducible rfl | decide) ?_ | refine S_no rfl (by first | with_reducible rfl | decide) ?_ | refine S_seq ?_ | refine E_seq ?_ | refine S_block ?_ | refine E_block_normal ?_ | refine S_skip ?_ | refine S_exit ?_ | refine S_ret ?_ | refine E_then_exit ?_ | refine E_then_ret ?_ | refine E_block_ret ?_ | refine E_block_exit ?_ | refine E_block_exit_other rfl ?_)
  exact E_ret1 rfl rfl fun w' hm => ⟨rfl, hm.below⟩

theorem table_any (w : World) : Calls Try.prog 94 #[] w fun e w' => e = .returned (.agg (wordsV kTab).toArray) ∧ Below w.heap.size w w' := by
  refine enter Try.func94 rfl Try.ntmps94 (by simp) ?_
  repeat (first | refine S_scope ?_ | refine S_label ?_ | refine E_noGoto_normal ?_ | refine E_noGoto_ret ?_ | refine E_noGoto_exit ?_ | refine S_yes rfl (by first | with_reducible rfl | decide) ?_ | refine S_no rfl (by first | with_reducible rfl | decide) ?_ | refine S_seq ?_ | refine E_seq ?_ | refine S_block ?_ | refine E_block_normal ?_ | refine S_skip ?_ | refine S_exit ?_ | refine S_ret ?_ | refine E_then_exit ?_ | refine E_then_ret ?_ | refine E_block_ret ?_ | refine E_block_exit ?_ | refine E_block_exit_other rfl ?_)
  refine S_region ?_
  refine R_cons rfl (op_allocRow zero_w64 rfl (Nat.le_refl _) (fun b0 => ?_))
  refine R_nil ?_
  repeat (first | refine S_scope ?_ | refine S_label ?_ | refine E_noGoto_normal ?_ | refine E_noGoto_ret ?_ | refine E_noGoto_exit ?_ | refine S_yes rfl (by first | with_reducible rfl | decide) ?_ | refine S_no rfl (by first | with_reducible rfl | decide) ?_ | refine S_seq ?_ | refine E_seq ?_ | refine S_block ?_ | refine E_block_normal ?_ | refine S_skip ?_ | refine S_exit ?_ | refine S_ret ?_ | refine E_then_exit ?_ | refine E_then_ret ?_ | refine E_block_ret ?_ | refine E_block_exit ?_ | refine E_block_exit_other rfl ?_)
  refine S_region ?_
  refine R_cons rfl (op_pure (p_buildAll (ps := [(0, .const (.int .u32 1116352408)), (1, .const (.int .u32 1899447441)), (2, .const (.int .u32 3049323471)), (3, .const (.int .u32 3921009573)), (4, .const (.int .u32 961987163)), (5, .const (.int .u32 1508970993)), (6, .const (.int .u32 2453635748)), (7, .const (.int .u32 2870763221)), (8, .const (.int .u32 3624381080)), (9, .const (.int .u32 310598401)), (10, .const (.int .u32 607225278)), (11, .const (.int .u32 1426881987)), (12, .const (.int .u32 1925078388)), (13, .const (.int .u32 2162078206)), (14, .const (.int .u32 2614888103)), (15, .const (.int .u32 3248222580)), (16, .const (.int .u32 3835390401)), (17, .const (.int .u32 4022224774)), (18, .const (.int .u32 264347078)), (19, .const (.int .u32 604807628)), (20, .const (.int .u32 770255983)), (21, .const (.int .u32 1249150122)), (22, .const (.int .u32 1555081692)), (23, .const (.int .u32 1996064986)), (24, .const (.int .u32 2554220882)), (25, .const (.int .u32 2821834349)), (26, .const (.int .u32 2952996808)), (27, .const (.int .u32 3210313671)), (28, .const (.int .u32 3336571891)), (29, .const (.int .u32 3584528711)), (30, .const (.int .u32 113926993)), (31, .const (.int .u32 338241895)), (32, .const (.int .u32 666307205)), (33, .const (.int .u32 773529912)), (34, .const (.int .u32 1294757372)), (35, .const (.int .u32 1396182291)), (36, .const (.int .u32 1695183700)), (37, .const (.int .u32 1986661051)), (38, .const (.int .u32 2177026350)), (39, .const (.int .u32 2456956037)), (40, .const (.int .u32 2730485921)), (41, .const (.int .u32 2820302411)), (42, .const (.int .u32 3259730800)), (43, .const (.int .u32 3345764771)), (44, .const (.int .u32 3516065817)), (45, .const (.int .u32 3600352804)), (46, .const (.int .u32 4094571909)), (47, .const (.int .u32 275423344)), (48, .const (.int .u32 430227734)), (49, .const (.int .u32 506948616)), (50, .const (.int .u32 659060556)), (51, .const (.int .u32 883997877)), (52, .const (.int .u32 958139571)), (53, .const (.int .u32 1322822218)), (54, .const (.int .u32 1537002063)), (55, .const (.int .u32 1747873779)), (56, .const (.int .u32 1955562222)), (57, .const (.int .u32 2024104815)), (58, .const (.int .u32 2227730452)), (59, .const (.int .u32 2361852424)), (60, .const (.int .u32 2428436474)), (61, .const (.int .u32 2756734187)), (62, .const (.int .u32 3204031479)), (63, .const (.int .u32 3329325298))]) rfl (by kernel_rfl)) rfl ?_)
  refine R_cons rfl (op_storeRow rfl rfl (by first | exact bytesV_one _ | exact wordsV_one _ | (repeat (first | exact ones_nil | refine ones_cons rfl ?_))) row_w64 (by first | assumption | rfl | (simp only [bytesV_length, wordsV_length]; omega) | (rw [bytesV_length]; exact Sha.sha_length _)) (by repeat (first | exact At.here | apply At.there)) (by first | exact Nat.le_of_ble_eq_true rfl | omega | (simp only [bytesV_length, wordsV_length, List.length_cons, List.length_nil, List.length_replicate]; omega) | (simp only [bytesV_length, Sha.sha_length, List.length_replicate] <;> omega)) ?_)
  refine R_nil ?_
  repeat (first | refine S_scope ?_ | refine S_label ?_ | refine E_noGoto_normal ?_ | refine E_noGoto_ret ?_ | refine E_noGoto_exit ?_ | refine S_yes rfl (by first | with_reducible rfl | decide) ?_ | refine S_no rfl (by first | with_reducible rfl | decide) ?_ | refine S_seq ?_ | refine E_seq ?_ | refine S_block ?_ | refine E_block_normal ?_ | refine S_skip ?_ | refine S_exit ?_ | refine S_ret ?_ | refine E_then_exit ?_ | refine E_then_ret ?_ | refine E_block_ret ?_ | refine E_block_exit ?_ | refine E_block_exit_other rfl ?_)
  exact E_retRow (cs := wordsV kTab) rfl rfl (by repeat (first | exact List.Mem.head _ | apply List.Mem.tail)) row_w64 rfl fun w' hm => ⟨rfl, hm.below⟩

theorem begin_any (w : World) : Calls Try.prog 83 #[] w fun e w' => e = .returned (.agg (wordsV begin8.list).toArray) ∧ Below w.heap.size w w' := by
  refine enter Try.func83 rfl Try.ntmps83 (by simp) ?_
  repeat (first | refine S_scope ?_ | refine S_label ?_ | refine E_noGoto_normal ?_ | refine E_noGoto_ret ?_ | refine E_noGoto_exit ?_ | refine S_yes rfl (by first | with_reducible rfl | decide) ?_ | refine S_no rfl (by first | with_reducible rfl | decide) ?_ | refine S_seq ?_ | refine E_seq ?_ | refine S_block ?_ | refine E_block_normal ?_ | refine S_skip ?_ | refine S_exit ?_ | refine S_ret ?_ | refine E_then_exit ?_ | refine E_then_ret ?_ | refine E_block_ret ?_ | refine E_block_exit ?_ | refine E_block_exit_other rfl ?_)
  refine S_region ?_
  refine R_cons rfl (op_allocRow zero_eight rfl (Nat.le_refl _) (fun b0 => ?_))
  refine R_nil ?_
  repeat (first | refine S_scope ?_ | refine S_label ?_ | refine E_noGoto_normal ?_ | refine E_noGoto_ret ?_ | refine E_noGoto_exit ?_ | refine S_yes rfl (by first | with_reducible rfl | decide) ?_ | refine S_no rfl (by first | with_reducible rfl | decide) ?_ | refine S_seq ?_ | refine E_seq ?_ | refine S_block ?_ | refine E_block_normal ?_ | refine S_skip ?_ | refine S_exit ?_ | refine S_ret ?_ | refine E_then_exit ?_ | refine E_then_ret ?_ | refine E_block_ret ?_ | refine E_block_exit ?_ | refine E_block_exit_other rfl ?_)
  refine S_region ?_
  refine R_cons rfl (op_pure (p_buildAll (ps := [(0, .const (.int .u32 1779033703)), (1, .const (.int .u32 3144134277)), (2, .const (.int .u32 1013904242)), (3, .const (.int .u32 2773480762)), (4, .const (.int .u32 1359893119)), (5, .const (.int .u32 2600822924)), (6, .const (.int .u32 528734635)), (7, .const (.int .u32 1541459225))]) rfl (by kernel_rfl)) rfl ?_)
  refine R_cons rfl (op_storeRow rfl rfl (by first | exact bytesV_one _ | exact wordsV_one _ | (repeat (first | exact ones_nil | refine ones_cons rfl ?_))) row_eight (by first | assumption | rfl | (simp only [bytesV_length, wordsV_length]; omega) | (rw [bytesV_length]; exact Sha.sha_length _)) (by repeat (first | exact At.here | apply At.there)) (by first | exact Nat.le_of_ble_eq_true rfl | omega | (simp only [bytesV_length, wordsV_length, List.length_cons, List.length_nil, List.length_replicate]; omega) | (simp only [bytesV_length, Sha.sha_length, List.length_replicate] <;> omega)) ?_)
  refine R_nil ?_
  repeat (first | refine S_scope ?_ | refine S_label ?_ | refine E_noGoto_normal ?_ | refine E_noGoto_ret ?_ | refine E_noGoto_exit ?_ | refine S_yes rfl (by first | with_reducible rfl | decide) ?_ | refine S_no rfl (by first | with_reducible rfl | decide) ?_ | refine S_seq ?_ | refine E_seq ?_ | refine S_block ?_ | refine E_block_normal ?_ | refine S_skip ?_ | refine S_exit ?_ | refine S_ret ?_ | refine E_then_exit ?_ | refine E_then_ret ?_ | refine E_block_ret ?_ | refine E_block_exit ?_ | refine E_block_exit_other rfl ?_)
  exact E_retRow (cs := wordsV begin8.list) rfl rfl (by repeat (first | exact List.Mem.head _ | apply List.Mem.tail)) row_eight rfl fun w' hm => ⟨rfl, hm.below⟩

theorem refBegin_any (w : World) : Calls Try.prog 76 #[] w fun e w' => e = .returned (.agg (wordsV begin8.list).toArray) ∧ Below w.heap.size w w' := by
  refine enter Try.func76 rfl Try.ntmps76 (by simp) ?_
  repeat (first | refine S_scope ?_ | refine S_label ?_ | refine E_noGoto_normal ?_ | refine E_noGoto_ret ?_ | refine E_noGoto_exit ?_ | refine S_yes rfl (by first | with_reducible rfl | decide) ?_ | refine S_no rfl (by first | with_reducible rfl | decide) ?_ | refine S_seq ?_ | refine E_seq ?_ | refine S_block ?_ | refine E_block_normal ?_ | refine S_skip ?_ | refine S_exit ?_ | refine S_ret ?_ | refine E_then_exit ?_ | refine E_then_ret ?_ | refine E_block_ret ?_ | refine E_block_exit ?_ | refine E_block_exit_other rfl ?_)
  refine S_region ?_
  refine R_cons rfl (op_allocRow zero_refEight rfl (Nat.le_refl _) (fun b0 => ?_))
  refine R_nil ?_
  repeat (first | refine S_scope ?_ | refine S_label ?_ | refine E_noGoto_normal ?_ | refine E_noGoto_ret ?_ | refine E_noGoto_exit ?_ | refine S_yes rfl (by first | with_reducible rfl | decide) ?_ | refine S_no rfl (by first | with_reducible rfl | decide) ?_ | refine S_seq ?_ | refine E_seq ?_ | refine S_block ?_ | refine E_block_normal ?_ | refine S_skip ?_ | refine S_exit ?_ | refine S_ret ?_ | refine E_then_exit ?_ | refine E_then_ret ?_ | refine E_block_ret ?_ | refine E_block_exit ?_ | refine E_block_exit_other rfl ?_)
  refine S_region ?_
  refine R_cons rfl (op_pure (p_buildAll (ps := [(0, .const (.int .u32 1779033703)), (1, .const (.int .u32 3144134277)), (2, .const (.int .u32 1013904242)), (3, .const (.int .u32 2773480762)), (4, .const (.int .u32 1359893119)), (5, .const (.int .u32 2600822924)), (6, .const (.int .u32 528734635)), (7, .const (.int .u32 1541459225))]) rfl (by kernel_rfl)) rfl ?_)
  refine R_cons rfl (op_storeRow rfl rfl (by first | exact bytesV_one _ | exact wordsV_one _ | (repeat (first | exact ones_nil | refine ones_cons rfl ?_))) row_refEight (by first | assumption | rfl | (simp only [bytesV_length, wordsV_length]; omega) | (rw [bytesV_length]; exact Sha.sha_length _)) (by repeat (first | exact At.here | apply At.there)) (by first | exact Nat.le_of_ble_eq_true rfl | omega | (simp only [bytesV_length, wordsV_length, List.length_cons, List.length_nil, List.length_replicate]; omega) | (simp only [bytesV_length, Sha.sha_length, List.length_replicate] <;> omega)) ?_)
  refine R_nil ?_
  repeat (first | refine S_scope ?_ | refine S_label ?_ | refine E_noGoto_normal ?_ | refine E_noGoto_ret ?_ | refine E_noGoto_exit ?_ | refine S_yes rfl (by first | with_reducible rfl | decide) ?_ | refine S_no rfl (by first | with_reducible rfl | decide) ?_ | refine S_seq ?_ | refine E_seq ?_ | refine S_block ?_ | refine E_block_normal ?_ | refine S_skip ?_ | refine S_exit ?_ | refine S_ret ?_ | refine E_then_exit ?_ | refine E_then_ret ?_ | refine E_block_ret ?_ | refine E_block_exit ?_ | refine E_block_exit_other rfl ?_)
  exact E_retRow (cs := wordsV begin8.list) rfl rfl (by repeat (first | exact List.Mem.head _ | apply List.Mem.tail)) row_refEight rfl fun w' hm => ⟨rfl, hm.below⟩
end Go.Proofs.Ytfdlafjifjndeaa
