/-
  Proved: whoever knows a sum, and of how many bytes, knows the sum of these, their end, and whatever stands behind, by taking blocks from there on. No condition.
-/
import Derived.Test.YtcjjhiafcefocaaRows
import Derived.Test.YtcjjhiafcefocaaSha5
import Derived.Test.YtcjjhiafcefocaaSha7
namespace Go.Proofs.Ytcjjhiafcefocaa.shasGoOn
open Go.ChangeShapes Go.WideShapes Go.ChangeAt Go.Sha
open Go.RowKit Go.K
attribute [local irreducible] Exit.then Exit.inBlock bodyPost Code.wp QL Sx Rx Qx Ex Dx Op1 Pure1 Still1 K.Sub Calm Code.wpIn
attribute [local irreducible] sha took stOf blocks outB pad w8P Buf.hp Buf.cap Buf.addr
set_option linter.unusedVariables false

theorem eight_any (s : S8) (w : World) : Calls Try.prog 16 [.agg (bytesV (outB s)).toArray].toArray w fun e w' => e = .returned (.agg (wordsV s.list).toArray) ∧ Below w.heap.size w w' := by
  have hol := outB_length s
  refine enter Try.func16 rfl Try.ntmps16 (by simp) ?_
  repeat (first | refine S_yes rfl rfl ?_ | refine S_no rfl rfl ?_ | refine S_seq ?_ | refine E_seq ?_ | refine S_block ?_ | refine E_block_normal ?_ | refine S_skip ?_ | refine S_exit ?_ | refine S_ret ?_ | refine E_then_exit ?_ | refine E_then_ret ?_ | refine E_block_ret ?_ | refine E_block_exit ?_ | refine E_block_exit_other rfl ?_)
  refine S_region ?_
  refine R_cons rfl (op_boxRow rfl rfl (Nat.le_refl _) (fun b1 => ?_))
  refine R_cons rfl (op_allocRow zero_refEight rfl (Nat.le_refl _) (fun b2 => ?_))
  refine R_nil ?_
  repeat (first | refine S_yes rfl rfl ?_ | refine S_no rfl rfl ?_ | refine S_seq ?_ | refine E_seq ?_ | refine S_block ?_ | refine E_block_normal ?_ | refine S_skip ?_ | refine S_exit ?_ | refine S_ret ?_ | refine E_then_exit ?_ | refine E_then_ret ?_ | refine E_block_ret ?_ | refine E_block_exit ?_ | refine E_block_exit_other rfl ?_)
  refine S_region ?_
  refine R_cons rfl (op_allocRow zero_w8 rfl (Nat.le_refl _) (fun b3 => ?_))
  refine R_nil ?_
  repeat (first | refine S_yes rfl rfl ?_ | refine S_no rfl rfl ?_ | refine S_seq ?_ | refine E_seq ?_ | refine S_block ?_ | refine E_block_normal ?_ | refine S_skip ?_ | refine S_exit ?_ | refine S_ret ?_ | refine E_then_exit ?_ | refine E_then_ret ?_ | refine E_block_ret ?_ | refine E_block_exit ?_ | refine E_block_exit_other rfl ?_)
  refine S_region ?_
  refine R_cons rfl (op_pure (p_assign rfl) rfl ?_)
  refine R_nil ?_
  repeat (first | refine S_yes rfl rfl ?_ | refine S_no rfl rfl ?_ | refine S_seq ?_ | refine E_seq ?_ | refine S_block ?_ | refine E_block_normal ?_ | refine S_skip ?_ | refine S_exit ?_ | refine S_ret ?_ | refine E_then_exit ?_ | refine E_then_ret ?_ | refine E_block_ret ?_ | refine E_block_exit ?_ | refine E_block_exit_other rfl ?_)
  refine S_loop (fun i : Nat => [(4, .int .i64 (i : Int)), (3, .pointer (some ⟨b3, 0, none⟩)), (2, .pointer (some ⟨b2, 0, none⟩)), (1, .pointer (some ⟨b1, 0, none⟩))])
    (fun i => [(b3, .cells (wordsV (w8P (outB s) i)).toArray 37 (0, 0)), (b2, .cells (wordsV (List.replicate 8 0)).toArray 32 (0, 0)), (b1, .cells (bytesV (outB s)).toArray 25 (0, 0))])
    (fun i => i ≤ 32) (fun i => 32 - i) 0 (by omega) (by repeat (first | exact Sub.nil | refine Sub.cons rfl ?_)) (.keep (by rw [w8P_zero]) (Fewer.refl _)) ?_
  intro i hi
  have hwl := w8P_length (outB s) i
  repeat (first | refine S_yes rfl rfl ?_ | refine S_no rfl rfl ?_ | refine S_seq ?_ | refine E_seq ?_ | refine S_block ?_ | refine E_block_normal ?_ | refine S_skip ?_ | refine S_exit ?_ | refine S_ret ?_ | refine E_then_exit ?_ | refine E_then_ret ?_ | refine E_block_ret ?_ | refine E_block_exit ?_ | refine E_block_exit_other rfl ?_)
  refine S_region ?_
  refine R_cons rfl (op_pure (p_move rfl) rfl ?_)
  refine R_cons rfl (op_pure (p_bin rfl rfl (b_lss (by first | assumption | exact decide_eq_true (by omega) | exact decide_eq_false (by omega) | rfl))) rfl ?_)
  refine R_nil ?_
  repeat (first | refine S_yes rfl rfl ?_ | refine S_no rfl rfl ?_ | refine S_seq ?_ | refine E_seq ?_ | refine S_block ?_ | refine E_block_normal ?_ | refine S_skip ?_ | refine S_exit ?_ | refine S_ret ?_ | refine E_then_exit ?_ | refine E_then_ret ?_ | refine E_block_ret ?_ | refine E_block_exit ?_ | refine E_block_exit_other rfl ?_)
  refine S_cond rfl (fun hlt => ?_) (fun hge => ?_)
  · have hlt' : i < 32 := by simp at hlt; omega
    repeat (first | refine S_yes rfl rfl ?_ | refine S_no rfl rfl ?_ | refine S_seq ?_ | refine E_seq ?_ | refine S_block ?_ | refine E_block_normal ?_ | refine S_skip ?_ | refine S_exit ?_ | refine S_ret ?_ | refine E_then_exit ?_ | refine E_then_ret ?_ | refine E_block_ret ?_ | refine E_block_exit ?_ | refine E_block_exit_other rfl ?_)
    refine S_tail 13 (by kernel_rfl) (by kernel_rfl) (by kernel_rfl) (by kernel_rfl) ?_
    refine Q_cons (Still1.of_pure (p_move rfl)) rfl ?_
    refine Q_cons (Still1.of_pure (by exact p_bin rfl rfl (b_quo (by decide) (nat_quo_i64 _ 4 (by omega))))) rfl ?_
    refine Q_cons (Still1.of_pure (p_move rfl)) rfl ?_
    refine Q_cons (Still1.of_pure (by exact p_bin rfl rfl (b_quo (by decide) (nat_quo_i64 _ 4 (by omega))))) rfl ?_
    refine Q_cons (Still1.of_pure (by first | exact p_indexArr0 rfl rfl (by repeat (first | assumption | exact lit0 | exact lit1 | apply IntWalk.up_add | apply IntWalk.up_div | apply IntWalk.up_mod | apply IntWalk.up_mul | rfl)) arr_w8 (by omega) | exact p_indexArr rfl rfl (by repeat (first | assumption | exact lit0 | exact lit1 | apply IntWalk.up_add | apply IntWalk.up_div | apply IntWalk.up_mod | apply IntWalk.up_mul | rfl)) arr_w8 (by omega))) rfl ?_
    refine Q_cons (Still1.of_pure (by first | exact p_load rfl sc_u32 (by repeat (first | exact List.Mem.head _ | apply List.Mem.tail)) (by first | assumption | exact bytesV_get (by omega) | exact wordsV_get (by omega) | rfl) | exact p_load_base rfl sc_u32 (by assumption) (by simp) (by assumption))) rfl ?_
    refine Q_cons (Still1.of_pure (by first | exact p_bin rfl rfl (b_mul (k32_mul _ _)) | exact p_bin rfl rfl (b_mul (k32_mul_lit 256 _ rfl)) | exact p_bin rfl rfl (b_mul (k32_mul_lit 16 _ rfl)))) rfl ?_
    refine Q_cons (Still1.of_pure (p_move rfl)) rfl ?_
    refine Q_cons (Still1.of_pure (by first | exact p_indexArr0 rfl rfl (by repeat (first | assumption | exact lit0 | exact lit1 | apply IntWalk.up_add | apply IntWalk.up_div | apply IntWalk.up_mod | apply IntWalk.up_mul | rfl)) arr_Sum (by omega) | exact p_indexArr rfl rfl (by repeat (first | assumption | exact lit0 | exact lit1 | apply IntWalk.up_add | apply IntWalk.up_div | apply IntWalk.up_mod | apply IntWalk.up_mul | rfl)) arr_Sum (by omega))) rfl ?_
    refine Q_cons (Still1.of_pure (by first | exact p_load rfl sc_u8 (by repeat (first | exact List.Mem.head _ | apply List.Mem.tail)) (by first | assumption | exact bytesV_get (by omega) | exact wordsV_get (by omega) | rfl) | exact p_load_base rfl sc_u8 (by assumption) (by simp) (by assumption))) rfl ?_
    refine Q_cons (Still1.of_pure (by exact p_convert rfl sc_u8 ik_u32 (w8_u32 _))) rfl ?_
    refine Q_cons (Still1.of_pure (by first | exact p_bin rfl rfl (b_add (k32_add _ _)) | exact p_bin rfl rfl (b_add (nat_add_u32 (by omega))) | exact p_bin rfl rfl (b_add (w_in_u32 (by omega))))) rfl ?_
    refine Q_cons (Still1.of_pure (by first | exact p_indexArr0 rfl rfl (by repeat (first | assumption | exact lit0 | exact lit1 | apply IntWalk.up_add | apply IntWalk.up_div | apply IntWalk.up_mod | apply IntWalk.up_mul | rfl)) arr_w8 (by omega) | exact p_indexArr rfl rfl (by repeat (first | assumption | exact lit0 | exact lit1 | apply IntWalk.up_add | apply IntWalk.up_div | apply IntWalk.up_mod | apply IntWalk.up_mul | rfl)) arr_w8 (by omega))) rfl ?_
    refine Q_nop ?_
    refine Q_nil ?_
    refine E_tail ?_
    refine R_cons rfl (op_store rfl rfl rfl sc_u32 (by repeat (first | exact At.here | apply At.there)) (by first | exact Nat.le_of_ble_eq_true rfl | omega | (simp only [bytesV_length, wordsV_length]; omega) | (simp only [bytesV_length, wordsV_length, List.length_cons, List.length_nil, List.length_set, List.length_append]; omega) | decide) ?_)
    refine R_nil ?_
    repeat (first | refine S_yes rfl rfl ?_ | refine S_no rfl rfl ?_ | refine S_seq ?_ | refine E_seq ?_ | refine S_block ?_ | refine E_block_normal ?_ | refine S_skip ?_ | refine S_exit ?_ | refine S_ret ?_ | refine E_then_exit ?_ | refine E_then_ret ?_ | refine E_block_ret ?_ | refine E_block_exit ?_ | refine E_block_exit_other rfl ?_)
    refine S_region ?_
    refine R_cons rfl (op_pure (p_move rfl) rfl ?_)
    refine R_cons rfl (op_pure (by exact p_bin rfl rfl (b_add (w_in_i64 (by omega)))) rfl ?_)
    refine R_cons rfl (op_pure (p_assign rfl) rfl ?_)
    refine R_nil ?_
    repeat (first | refine S_yes rfl rfl ?_ | refine S_no rfl rfl ?_ | refine S_seq ?_ | refine E_seq ?_ | refine S_block ?_ | refine E_block_normal ?_ | refine S_skip ?_ | refine S_exit ?_ | refine S_ret ?_ | refine E_then_exit ?_ | refine E_then_ret ?_ | refine E_block_ret ?_ | refine E_block_exit ?_ | refine E_block_exit_other rfl ?_)
    exact E_round (i + 1) (by omega) (by omega) (by repeat (first | exact Sub.nil | refine Sub.cons rfl ?_)) (.keep (by rw [wordsV_set, w8P_step _ i hlt']) (Fewer.refl _))
  have hge' : i = 32 := by simp at hge; omega
  subst hge'
  rw [w8P_out]
  have d0 : (wordsV s.list)[0]? = some (.int .u32 (s.a.toNat : Int)) := rfl
  have d1 : (wordsV s.list)[1]? = some (.int .u32 (s.b.toNat : Int)) := rfl
  have d2 : (wordsV s.list)[2]? = some (.int .u32 (s.c.toNat : Int)) := rfl
  have d3 : (wordsV s.list)[3]? = some (.int .u32 (s.d.toNat : Int)) := rfl
  have d4 : (wordsV s.list)[4]? = some (.int .u32 (s.e.toNat : Int)) := rfl
  have d5 : (wordsV s.list)[5]? = some (.int .u32 (s.f.toNat : Int)) := rfl
  have d6 : (wordsV s.list)[6]? = some (.int .u32 (s.g.toNat : Int)) := rfl
  have d7 : (wordsV s.list)[7]? = some (.int .u32 (s.h.toNat : Int)) := rfl
  repeat (first | refine S_yes rfl rfl ?_ | refine S_no rfl rfl ?_ | refine S_seq ?_ | refine E_seq ?_ | refine S_block ?_ | refine E_block_normal ?_ | refine S_skip ?_ | refine S_exit ?_ | refine S_ret ?_ | refine E_then_exit ?_ | refine E_then_ret ?_ | refine E_block_ret ?_ | refine E_block_exit ?_ | refine E_block_exit_other rfl ?_)
  refine S_region ?_
  refine R_cons rfl (op_pure (by first | exact p_indexArr0 (j := 0) rfl rfl rfl arr_w8 (by decide) | exact p_indexArr (j := 0) rfl rfl rfl arr_w8 (by decide)) rfl ?_)
  refine R_cons rfl (op_pure (by first | exact p_load rfl sc_u32 (by repeat (first | exact List.Mem.head _ | apply List.Mem.tail)) (by first | assumption | exact bytesV_get (by omega) | exact wordsV_get (by omega) | rfl) | exact p_load_base rfl sc_u32 (by assumption) (by simp) (by assumption)) rfl ?_)
  refine R_cons rfl (op_pure (by first | exact p_indexArr0 (j := 1) rfl rfl rfl arr_w8 (by decide) | exact p_indexArr (j := 1) rfl rfl rfl arr_w8 (by decide)) rfl ?_)
  refine R_cons rfl (op_pure (by first | exact p_load rfl sc_u32 (by repeat (first | exact List.Mem.head _ | apply List.Mem.tail)) (by first | assumption | exact bytesV_get (by omega) | exact wordsV_get (by omega) | rfl) | exact p_load_base rfl sc_u32 (by assumption) (by simp) (by assumption)) rfl ?_)
  refine R_cons rfl (op_pure (by first | exact p_indexArr0 (j := 2) rfl rfl rfl arr_w8 (by decide) | exact p_indexArr (j := 2) rfl rfl rfl arr_w8 (by decide)) rfl ?_)
  refine R_cons rfl (op_pure (by first | exact p_load rfl sc_u32 (by repeat (first | exact List.Mem.head _ | apply List.Mem.tail)) (by first | assumption | exact bytesV_get (by omega) | exact wordsV_get (by omega) | rfl) | exact p_load_base rfl sc_u32 (by assumption) (by simp) (by assumption)) rfl ?_)
  refine R_cons rfl (op_pure (by first | exact p_indexArr0 (j := 3) rfl rfl rfl arr_w8 (by decide) | exact p_indexArr (j := 3) rfl rfl rfl arr_w8 (by decide)) rfl ?_)
  refine R_cons rfl (op_pure (by first | exact p_load rfl sc_u32 (by repeat (first | exact List.Mem.head _ | apply List.Mem.tail)) (by first | assumption | exact bytesV_get (by omega) | exact wordsV_get (by omega) | rfl) | exact p_load_base rfl sc_u32 (by assumption) (by simp) (by assumption)) rfl ?_)
  refine R_cons rfl (op_pure (by first | exact p_indexArr0 (j := 4) rfl rfl rfl arr_w8 (by decide) | exact p_indexArr (j := 4) rfl rfl rfl arr_w8 (by decide)) rfl ?_)
  refine R_cons rfl (op_pure (by first | exact p_load rfl sc_u32 (by repeat (first | exact List.Mem.head _ | apply List.Mem.tail)) (by first | assumption | exact bytesV_get (by omega) | exact wordsV_get (by omega) | rfl) | exact p_load_base rfl sc_u32 (by assumption) (by simp) (by assumption)) rfl ?_)
  refine R_cons rfl (op_pure (by first | exact p_indexArr0 (j := 5) rfl rfl rfl arr_w8 (by decide) | exact p_indexArr (j := 5) rfl rfl rfl arr_w8 (by decide)) rfl ?_)
  refine R_cons rfl (op_pure (by first | exact p_load rfl sc_u32 (by repeat (first | exact List.Mem.head _ | apply List.Mem.tail)) (by first | assumption | exact bytesV_get (by omega) | exact wordsV_get (by omega) | rfl) | exact p_load_base rfl sc_u32 (by assumption) (by simp) (by assumption)) rfl ?_)
  refine R_cons rfl (op_pure (by first | exact p_indexArr0 (j := 6) rfl rfl rfl arr_w8 (by decide) | exact p_indexArr (j := 6) rfl rfl rfl arr_w8 (by decide)) rfl ?_)
  refine R_cons rfl (op_pure (by first | exact p_load rfl sc_u32 (by repeat (first | exact List.Mem.head _ | apply List.Mem.tail)) (by first | assumption | exact bytesV_get (by omega) | exact wordsV_get (by omega) | rfl) | exact p_load_base rfl sc_u32 (by assumption) (by simp) (by assumption)) rfl ?_)
  refine R_cons rfl (op_pure (by first | exact p_indexArr0 (j := 7) rfl rfl rfl arr_w8 (by decide) | exact p_indexArr (j := 7) rfl rfl rfl arr_w8 (by decide)) rfl ?_)
  refine R_cons rfl (op_pure (by first | exact p_load rfl sc_u32 (by repeat (first | exact List.Mem.head _ | apply List.Mem.tail)) (by first | assumption | exact bytesV_get (by omega) | exact wordsV_get (by omega) | rfl) | exact p_load_base rfl sc_u32 (by assumption) (by simp) (by assumption)) rfl ?_)
  refine R_cons rfl (op_pure (p_buildAll (ps := [(0, .tmp 23), (1, .tmp 25), (2, .tmp 27), (3, .tmp 29), (4, .tmp 31), (5, .tmp 33), (6, .tmp 35), (7, .tmp 37)]) rfl (by kernel_rfl)) rfl ?_)
  refine R_cons rfl (op_storeRow rfl rfl (by first | exact bytesV_one _ | exact wordsV_one _ | (repeat (first | exact ones_nil | refine ones_cons rfl ?_))) row_refEight (by first | rfl | (simp only [bytesV_length, wordsV_length]; omega)) (by repeat (first | exact At.here | apply At.there)) (by first | exact Nat.le_of_ble_eq_true rfl | omega | (simp only [bytesV_length, wordsV_length, List.length_cons, List.length_nil, List.length_replicate]; omega)) ?_)
  refine R_nil ?_
  repeat (first | refine S_yes rfl rfl ?_ | refine S_no rfl rfl ?_ | refine S_seq ?_ | refine E_seq ?_ | refine S_block ?_ | refine E_block_normal ?_ | refine S_skip ?_ | refine S_exit ?_ | refine S_ret ?_ | refine E_then_exit ?_ | refine E_then_ret ?_ | refine E_block_ret ?_ | refine E_block_exit ?_ | refine E_block_exit_other rfl ?_)
  refine E_fewer (Sub.refl _) (H' := [(b2, .cells (wordsV s.list).toArray 32 (0, 0))]) ?_ (E_retRow rfl rfl (by repeat (first | exact List.Mem.head _ | apply List.Mem.tail)) row_refEight rfl fun w' hm => ⟨rfl, hm.below⟩)
  exact .drop (.keep rfl .nil)

set_option maxHeartbeats 2000000 in
theorem walk (w : World) (A : Option Addr) (c : Nat) (xs : List UInt8) (hrd : Reads w A xs.length (bytesV xs)) (hnc : xs.length ≤ c) (hcm : c ≤ maxLen) (A2 : Option Addr) (c2 : Nat) (ys : List UInt8) (hrd2 : Reads w A2 ys.length (bytesV ys)) (hnc2 : ys.length ≤ c2) (hcm2 : c2 ≤ maxLen) :
    Calls Try.prog 4 [.slice A xs.length c, .slice A2 ys.length c2].toArray w fun e w' => e = .returned (.bool true) ∧ Below w.heap.size w w' := by
  have hsl := sha_length xs
  refine enter Try.func4 rfl Try.ntmps4 (by simp) ?_
  by_cases hbig : 20000 < xs.length ∨ 20000 < ys.length
  · have hb : (decide ((20000 : Int) < (xs.length : Int))) = true ∨ (decide ((20000 : Int) < (xs.length : Int))) = false ∧ (decide ((20000 : Int) < (ys.length : Int))) = true := by
      rcases Nat.lt_or_ge 20000 xs.length with h | h
      · exact .inl (by simp; omega)
      · exact .inr ⟨by simp; omega, by simp; omega⟩
    rcases hb with h1 | ⟨h1, h2⟩
    · repeat (first | refine S_yes rfl rfl ?_ | refine S_no rfl rfl ?_ | refine S_seq ?_ | refine E_seq ?_ | refine S_block ?_ | refine E_block_normal ?_ | refine S_skip ?_ | refine S_exit ?_ | refine S_ret ?_ | refine E_then_exit ?_ | refine E_then_ret ?_ | refine E_block_ret ?_ | refine E_block_exit ?_ | refine E_block_exit_other rfl ?_)
      refine S_region ?_
      refine R_cons rfl (op_pure (p_assign rfl) rfl ?_)
      refine R_nil ?_
      repeat (first | refine S_yes rfl rfl ?_ | refine S_no rfl rfl ?_ | refine S_seq ?_ | refine E_seq ?_ | refine S_block ?_ | refine E_block_normal ?_ | refine S_skip ?_ | refine S_exit ?_ | refine S_ret ?_ | refine E_then_exit ?_ | refine E_then_ret ?_ | refine E_block_ret ?_ | refine E_block_exit ?_ | refine E_block_exit_other rfl ?_)
      refine S_region ?_
      refine R_cons rfl (op_pure (p_move rfl) rfl ?_)
      refine R_cons rfl (op_pure (p_len rfl slc_u8s) rfl ?_)
      refine R_cons rfl (op_pure (p_bin rfl rfl (b_gtr (by first | assumption | exact decide_eq_true (by omega) | exact decide_eq_false (by omega) | rfl))) rfl ?_)
      refine R_cons rfl (op_pure (p_move rfl) rfl ?_)
      first | refine R_pass rfl rfl rfl rfl ?_ | refine R_pass_undef rfl rfl rfl ?_ | refine R_guard rfl rfl rfl (op_pure (p_move rfl) rfl ?_)
      first | refine R_pass rfl rfl rfl rfl ?_ | refine R_pass_undef rfl rfl rfl ?_ | refine R_guard rfl rfl rfl (op_pure (p_len rfl slc_u8s) rfl ?_)
      first | refine R_pass rfl rfl rfl rfl ?_ | refine R_pass_undef rfl rfl rfl ?_ | refine R_guard rfl rfl rfl (op_pure (p_bin rfl rfl (b_gtr (by first | assumption | exact decide_eq_true (by omega) | exact decide_eq_false (by omega) | rfl))) rfl ?_)
      refine R_cons rfl (op_pure (by first | exact p_pick_yes rfl rfl | exact p_pick_no rfl rfl | exact p_pick rfl rfl rfl) rfl ?_)
      refine R_nil ?_
      repeat (first | refine S_yes rfl rfl ?_ | refine S_no rfl rfl ?_ | refine S_seq ?_ | refine E_seq ?_ | refine S_block ?_ | refine E_block_normal ?_ | refine S_skip ?_ | refine S_exit ?_ | refine S_ret ?_ | refine E_then_exit ?_ | refine E_then_ret ?_ | refine E_block_ret ?_ | refine E_block_exit ?_ | refine E_block_exit_other rfl ?_)
      refine S_region ?_
      refine R_cons rfl (op_pure (p_assign rfl) rfl ?_)
      refine R_nil ?_
      repeat (first | refine S_yes rfl rfl ?_ | refine S_no rfl rfl ?_ | refine S_seq ?_ | refine E_seq ?_ | refine S_block ?_ | refine E_block_normal ?_ | refine S_skip ?_ | refine S_exit ?_ | refine S_ret ?_ | refine E_then_exit ?_ | refine E_then_ret ?_ | refine E_block_ret ?_ | refine E_block_exit ?_ | refine E_block_exit_other rfl ?_)
      exact E_ret1 rfl rfl fun w' hm => ⟨rfl, hm.below⟩
    · repeat (first | refine S_yes rfl rfl ?_ | refine S_no rfl rfl ?_ | refine S_seq ?_ | refine E_seq ?_ | refine S_block ?_ | refine E_block_normal ?_ | refine S_skip ?_ | refine S_exit ?_ | refine S_ret ?_ | refine E_then_exit ?_ | refine E_then_ret ?_ | refine E_block_ret ?_ | refine E_block_exit ?_ | refine E_block_exit_other rfl ?_)
      refine S_region ?_
      refine R_cons rfl (op_pure (p_assign rfl) rfl ?_)
      refine R_nil ?_
      repeat (first | refine S_yes rfl rfl ?_ | refine S_no rfl rfl ?_ | refine S_seq ?_ | refine E_seq ?_ | refine S_block ?_ | refine E_block_normal ?_ | refine S_skip ?_ | refine S_exit ?_ | refine S_ret ?_ | refine E_then_exit ?_ | refine E_then_ret ?_ | refine E_block_ret ?_ | refine E_block_exit ?_ | refine E_block_exit_other rfl ?_)
      refine S_region ?_
      refine R_cons rfl (op_pure (p_move rfl) rfl ?_)
      refine R_cons rfl (op_pure (p_len rfl slc_u8s) rfl ?_)
      refine R_cons rfl (op_pure (p_bin rfl rfl (b_gtr (by first | assumption | exact decide_eq_true (by omega) | exact decide_eq_false (by omega) | rfl))) rfl ?_)
      refine R_cons rfl (op_pure (p_move rfl) rfl ?_)
      first | refine R_pass rfl rfl rfl rfl ?_ | refine R_pass_undef rfl rfl rfl ?_ | refine R_guard rfl rfl rfl (op_pure (p_move rfl) rfl ?_)
      first | refine R_pass rfl rfl rfl rfl ?_ | refine R_pass_undef rfl rfl rfl ?_ | refine R_guard rfl rfl rfl (op_pure (p_len rfl slc_u8s) rfl ?_)
      first | refine R_pass rfl rfl rfl rfl ?_ | refine R_pass_undef rfl rfl rfl ?_ | refine R_guard rfl rfl rfl (op_pure (p_bin rfl rfl (b_gtr (by first | assumption | exact decide_eq_true (by omega) | exact decide_eq_false (by omega) | rfl))) rfl ?_)
      refine R_cons rfl (op_pure (by first | exact p_pick_yes rfl rfl | exact p_pick_no rfl rfl | exact p_pick rfl rfl rfl) rfl ?_)
      refine R_nil ?_
      repeat (first | refine S_yes rfl rfl ?_ | refine S_no rfl rfl ?_ | refine S_seq ?_ | refine E_seq ?_ | refine S_block ?_ | refine E_block_normal ?_ | refine S_skip ?_ | refine S_exit ?_ | refine S_ret ?_ | refine E_then_exit ?_ | refine E_then_ret ?_ | refine E_block_ret ?_ | refine E_block_exit ?_ | refine E_block_exit_other rfl ?_)
      refine S_region ?_
      refine R_cons rfl (op_pure (p_assign rfl) rfl ?_)
      refine R_nil ?_
      repeat (first | refine S_yes rfl rfl ?_ | refine S_no rfl rfl ?_ | refine S_seq ?_ | refine E_seq ?_ | refine S_block ?_ | refine E_block_normal ?_ | refine S_skip ?_ | refine S_exit ?_ | refine S_ret ?_ | refine E_then_exit ?_ | refine E_then_ret ?_ | refine E_block_ret ?_ | refine E_block_exit ?_ | refine E_block_exit_other rfl ?_)
      exact E_ret1 rfl rfl fun w' hm => ⟨rfl, hm.below⟩
  have hx : xs.length ≤ 20000 := by omega
  have hy : ys.length ≤ 20000 := by omega
  have h1 : decide ((20000 : Int) < (xs.length : Int)) = false := by simp; omega
  have h2 : decide ((20000 : Int) < (ys.length : Int)) = false := by simp; omega
  have hp1 := pad_small xs.length
  repeat (first | refine S_yes rfl rfl ?_ | refine S_no rfl rfl ?_ | refine S_seq ?_ | refine E_seq ?_ | refine S_block ?_ | refine E_block_normal ?_ | refine S_skip ?_ | refine S_exit ?_ | refine S_ret ?_ | refine E_then_exit ?_ | refine E_then_ret ?_ | refine E_block_ret ?_ | refine E_block_exit ?_ | refine E_block_exit_other rfl ?_)
  refine S_region ?_
  refine R_cons rfl (op_pure (p_assign rfl) rfl ?_)
  refine R_nil ?_
  repeat (first | refine S_yes rfl rfl ?_ | refine S_no rfl rfl ?_ | refine S_seq ?_ | refine E_seq ?_ | refine S_block ?_ | refine E_block_normal ?_ | refine S_skip ?_ | refine S_exit ?_ | refine S_ret ?_ | refine E_then_exit ?_ | refine E_then_ret ?_ | refine E_block_ret ?_ | refine E_block_exit ?_ | refine E_block_exit_other rfl ?_)
  refine S_region ?_
  refine R_cons rfl (op_pure (p_move rfl) rfl ?_)
  refine R_cons rfl (op_pure (p_len rfl slc_u8s) rfl ?_)
  refine R_cons rfl (op_pure (p_bin rfl rfl (b_gtr (by first | assumption | exact decide_eq_true (by omega) | exact decide_eq_false (by omega) | rfl))) rfl ?_)
  refine R_cons rfl (op_pure (p_move rfl) rfl ?_)
  first | refine R_pass rfl rfl rfl rfl ?_ | refine R_pass_undef rfl rfl rfl ?_ | refine R_guard rfl rfl rfl (op_pure (p_move rfl) rfl ?_)
  first | refine R_pass rfl rfl rfl rfl ?_ | refine R_pass_undef rfl rfl rfl ?_ | refine R_guard rfl rfl rfl (op_pure (p_len rfl slc_u8s) rfl ?_)
  first | refine R_pass rfl rfl rfl rfl ?_ | refine R_pass_undef rfl rfl rfl ?_ | refine R_guard rfl rfl rfl (op_pure (p_bin rfl rfl (b_gtr (by first | assumption | exact decide_eq_true (by omega) | exact decide_eq_false (by omega) | rfl))) rfl ?_)
  refine R_cons rfl (op_pure (by first | exact p_pick_yes rfl rfl | exact p_pick_no rfl rfl | exact p_pick rfl rfl rfl) rfl ?_)
  refine R_nil ?_
  repeat (first | refine S_yes rfl rfl ?_ | refine S_no rfl rfl ?_ | refine S_seq ?_ | refine E_seq ?_ | refine S_block ?_ | refine E_block_normal ?_ | refine S_skip ?_ | refine S_exit ?_ | refine S_ret ?_ | refine E_then_exit ?_ | refine E_then_ret ?_ | refine E_block_ret ?_ | refine E_block_exit ?_ | refine E_block_exit_other rfl ?_)
  refine S_region ?_
  refine R_cons rfl (op_pure (p_move rfl) rfl ?_)
  refine R_cons rfl (op_pure (p_len rfl slc_u8s) rfl ?_)
  refine R_cons rfl (op_call rfl rfl Try.func15 rfl (by kernel_rfl) rfl fun w1 hm => (end_any xs.length (by omega) w1).mono ?_)
  rintro e w2 ⟨g, sp, rfl, hokp, hg, hgo, hbel⟩
  refine ⟨_, _, rfl, hm.call1 (Nat.le_refl _) hbel hg hgo, ?_⟩
  refine R_cons rfl (op_pure (p_assign rfl) rfl ?_)
  refine R_nil ?_
  repeat (first | refine S_yes rfl rfl ?_ | refine S_no rfl rfl ?_ | refine S_seq ?_ | refine E_seq ?_ | refine S_block ?_ | refine E_block_normal ?_ | refine S_skip ?_ | refine S_exit ?_ | refine S_ret ?_ | refine E_then_exit ?_ | refine E_then_ret ?_ | refine E_block_ret ?_ | refine E_block_exit ?_ | refine E_block_exit_other rfl ?_)
  refine S_region ?_
  refine R_cons rfl (op_pure (p_move rfl) rfl ?_)
  refine R_cons rfl (op_appendBuf (u := none) (xs := []) (ys := xs) (by unfold Buf.val Buf.addr Buf.cap; rfl) rfl slc_u8s.1 el_u8 (.no rfl) Buf.none_ok (fun w hm => hrd.base hm) (by simp; omega) rfl (Nat.le_refl _) (fun u hok hne => ?_))
  rw [List.nil_append] at hok ⊢
  refine R_cons rfl (op_pure (p_move rfl) rfl ?_)
  refine R_cons rfl (op_appendBuf (u := u) (xs := xs) (ys := pad xs.length) rfl rfl slc_u8s.1 el_u8 (by exact .there .tail) hok (fun w hm => hm.readsBuf (e := 5) (by exact .at_ rfl .here) hokp) (by omega) rfl (Nat.le_refl _) (fun u2 hok2 hne2 => ?_))
  refine R_cons rfl (op_pure (p_move rfl) rfl ?_)
  refine R_cons rfl (op_appendBuf (u := u2) (xs := xs ++ pad xs.length) (ys := ys) rfl rfl slc_u8s.1 el_u8 (by exact .there .tail) hok2 (fun w hm => hrd2.base hm) (by rw [List.length_append]; omega) rfl (Nat.le_refl _) (fun v hokv hnev => ?_))
  have hgoon := sha_on xs ys
  have hwl : (xs ++ pad xs.length ++ ys).length ≤ 40072 := by simp only [List.length_append]; omega
  have hst : outB (stOf (xs ++ pad xs.length)) = sha xs := by unfold sha; rfl
  generalize hS : stOf (xs ++ pad xs.length) = S at hgoon hst
  generalize hW : xs ++ pad xs.length ++ ys = W at hgoon hwl hokv hnev ⊢
  have hlcv := Buf.len_cap hokv
  have hcmv := Buf.cap_max hokv
  refine R_cons rfl (op_pure (p_assign rfl) rfl ?_)
  refine R_nil ?_
  repeat (first | refine S_yes rfl rfl ?_ | refine S_no rfl rfl ?_ | refine S_seq ?_ | refine E_seq ?_ | refine S_block ?_ | refine E_block_normal ?_ | refine S_skip ?_ | refine S_exit ?_ | refine S_ret ?_ | refine E_then_exit ?_ | refine E_then_ret ?_ | refine E_block_ret ?_ | refine E_block_exit ?_ | refine E_block_exit_other rfl ?_)
  refine S_region ?_
  refine R_cons rfl (op_pure (p_move rfl) rfl ?_)
  refine R_cons rfl (op_callV rfl rfl Try.func12 rfl (by kernel_rfl) rfl (Nat.le_refl _) (fun w' hm => of_any A xs.length c xs w' rfl (hrd.base hm) hnc hcm (by omega)) ?_)
  rw [← hst]
  refine R_cons rfl (op_callV rfl rfl Try.func16 rfl (by kernel_rfl) rfl (Nat.le_refl _) (fun w' _ => eight_any S w') ?_)
  refine R_cons rfl (op_allocRow zero_refEight rfl (Nat.le_refl _) (fun b7 => ?_))
  refine R_cons rfl (op_storeRow rfl rfl (by first | exact bytesV_one _ | exact wordsV_one _ | (repeat (first | exact ones_nil | refine ones_cons rfl ?_))) row_refEight (by first | rfl | (simp only [bytesV_length, wordsV_length]; omega)) (by repeat (first | exact At.here | apply At.there)) (by first | exact Nat.le_of_ble_eq_true rfl | omega | (simp only [bytesV_length, wordsV_length, List.length_cons, List.length_nil, List.length_replicate]; omega)) ?_)
  refine R_nil ?_
  repeat (first | refine S_yes rfl rfl ?_ | refine S_no rfl rfl ?_ | refine S_seq ?_ | refine E_seq ?_ | refine S_block ?_ | refine E_block_normal ?_ | refine S_skip ?_ | refine S_exit ?_ | refine S_ret ?_ | refine E_then_exit ?_ | refine E_then_ret ?_ | refine E_block_ret ?_ | refine E_block_exit ?_ | refine E_block_exit_other rfl ?_)
  obtain ⟨⟨gv, spv⟩, rfl⟩ : ∃ p, v = some p := by
    cases v with
    | none => exact absurd rfl (hnev (.inl (fun e => by have := congrArg List.length e; simp only [List.length_append, List.length_nil] at this; omega)))
    | some p => exact ⟨p, rfl⟩
  refine S_fewer (env' := [(0, .slice A xs.length c), (1, .slice A2 ys.length c2), (6, Buf.val (some (gv, spv)) W), (7, .pointer (some ⟨b7, 0, none⟩))]) (H' := [(b7, .cells (wordsV S.list).toArray 32 (0, 0)), (gv, .cells (bytesV W ++ spv).toArray 5 (0, 0))]) (by repeat (first | exact Sub.nil | refine Sub.cons rfl ?_)) (.keep (by rw [lay_whole (by simp [wordsV_length, list_length])]) (.drop (by unfold Buf.hp; exact Fewer.refl _))) ?_
  refine S_region ?_
  refine R_cons rfl (op_pure (p_move rfl) rfl ?_)
  refine R_cons rfl (op_appendBuf (u := none) (xs := []) (ys := ys) (by unfold Buf.val Buf.addr Buf.cap; rfl) rfl slc_u8s.1 el_u8 (.no rfl) Buf.none_ok (fun w hm => hrd2.base hm) (by simp; omega) rfl (Nat.le_refl _) (fun u3 hok3 hne3 => ?_))
  rw [List.nil_append] at hok3 ⊢
  refine R_cons rfl (op_pure (p_move rfl) rfl ?_)
  refine R_cons rfl (op_pure (p_len rfl slc_u8s) rfl ?_)
  refine R_cons rfl (op_call rfl rfl Try.func15 rfl (by kernel_rfl) rfl fun w1 hm => (end_any W.length (by omega) w1).mono ?_)
  rintro e w3 ⟨g2, sp2, rfl, hokp2, hg2, hgo2, hbel2⟩
  refine ⟨_, _, rfl, hm.call1 (Nat.le_refl _) hbel2 hg2 hgo2, ?_⟩
  have hp2 := pad_small W.length
  have hpw2 := pad_whole W.length
  have hpw1 := pad_whole xs.length
  have hWl : W.length = xs.length + (pad xs.length).length + ys.length := by rw [← hW]; simp only [List.length_append]
  refine R_cons rfl (op_appendBuf (u := u3) (xs := ys) (ys := pad W.length) rfl rfl slc_u8s.1 el_u8 (by exact .there (.there (.there .tail))) hok3 (fun w hm => hm.readsBuf (e := 5) (by exact .at_ rfl .here) hokp2) (by omega) rfl (Nat.le_refl _) (fun v2 hokv2 hnev2 => ?_))
  refine R_cons rfl (op_pure (p_assign rfl) rfl ?_)
  refine R_nil ?_
  generalize hR : ys ++ pad W.length = R at hgoon hokv2 hnev2 ⊢
  obtain ⟨M, hM⟩ : ∃ M, R.length = 64 * M := ⟨R.length / 64, by rw [← hR, List.length_append]; omega⟩
  have hRl : R.length ≤ 20072 := by rw [← hR, List.length_append]; omega
  repeat (first | refine S_yes rfl rfl ?_ | refine S_no rfl rfl ?_ | refine S_seq ?_ | refine E_seq ?_ | refine S_block ?_ | refine E_block_normal ?_ | refine S_skip ?_ | refine S_exit ?_ | refine S_ret ?_ | refine E_then_exit ?_ | refine E_then_ret ?_ | refine E_block_ret ?_ | refine E_block_exit ?_ | refine E_block_exit_other rfl ?_)
  refine S_region ?_
  refine R_cons rfl (op_pure (p_move rfl) rfl ?_)
  refine R_cons rfl (op_pure (p_len rfl slc_u8s) rfl ?_)
  refine R_cons rfl (op_pure (by first | exact p_bin rfl rfl (b_rem (by decide) (by assumption)) | exact p_bin rfl rfl (b_rem (by decide) (nat_rem _ 64))) rfl ?_)
  refine R_cons rfl (op_pure (p_bin rfl rfl (b_neq (by first | assumption | exact bne_iff_ne.2 (by omega) | exact bne_eq_false_iff_eq.2 (by omega) | rfl))) rfl ?_)
  refine R_nil ?_
  repeat (first | refine S_yes rfl rfl ?_ | refine S_no rfl rfl ?_ | refine S_seq ?_ | refine E_seq ?_ | refine S_block ?_ | refine E_block_normal ?_ | refine S_skip ?_ | refine S_exit ?_ | refine S_ret ?_ | refine E_then_exit ?_ | refine E_then_ret ?_ | refine E_block_ret ?_ | refine E_block_exit ?_ | refine E_block_exit_other rfl ?_)
  refine S_region ?_
  refine R_cons rfl (op_pure (p_assign rfl) rfl ?_)
  refine R_nil ?_
  repeat (first | refine S_yes rfl rfl ?_ | refine S_no rfl rfl ?_ | refine S_seq ?_ | refine E_seq ?_ | refine S_block ?_ | refine E_block_normal ?_ | refine S_skip ?_ | refine S_exit ?_ | refine S_ret ?_ | refine E_then_exit ?_ | refine E_then_ret ?_ | refine E_block_ret ?_ | refine E_block_exit ?_ | refine E_block_exit_other rfl ?_)
  refine S_loop (fun k : Nat => [(9, .int .i64 ((64 * k : Nat) : Int)), (8, v2.val R), (7, .pointer (some ⟨b7, 0, none⟩)), (6, Buf.val (some (gv, spv)) W)])
    (fun k => (b7, .cells (wordsV (blocks k S R).list).toArray 32 (0, 0)) :: (gv, .cells (bytesV W ++ spv).toArray 5 (0, 0)) :: v2.hp 5 R)
    (fun k => k ≤ M) (fun k => M - k) 0 (Nat.zero_le _) (by repeat (first | exact Sub.nil | refine Sub.cons rfl ?_)) (.drop (.keep (by rw [show blocks 0 S R = S by unfold blocks; rfl]) (.keep rfl (Fewer.refl _)))) ?_
  intro k hk
  repeat (first | refine S_yes rfl rfl ?_ | refine S_no rfl rfl ?_ | refine S_seq ?_ | refine E_seq ?_ | refine S_block ?_ | refine E_block_normal ?_ | refine S_skip ?_ | refine S_exit ?_ | refine S_ret ?_ | refine E_then_exit ?_ | refine E_then_ret ?_ | refine E_block_ret ?_ | refine E_block_exit ?_ | refine E_block_exit_other rfl ?_)
  refine S_region ?_
  refine R_cons rfl (op_pure (p_move rfl) rfl ?_)
  refine R_cons rfl (op_pure (p_move rfl) rfl ?_)
  refine R_cons rfl (op_pure (p_len rfl slc_u8s) rfl ?_)
  refine R_cons rfl (op_pure (p_bin rfl rfl (b_lss (by first | assumption | exact decide_eq_true (by omega) | exact decide_eq_false (by omega) | rfl))) rfl ?_)
  refine R_nil ?_
  repeat (first | refine S_yes rfl rfl ?_ | refine S_no rfl rfl ?_ | refine S_seq ?_ | refine E_seq ?_ | refine S_block ?_ | refine E_block_normal ?_ | refine S_skip ?_ | refine S_exit ?_ | refine S_ret ?_ | refine E_then_exit ?_ | refine E_then_ret ?_ | refine E_block_ret ?_ | refine E_block_exit ?_ | refine E_block_exit_other rfl ?_)
  have hlc := Buf.len_cap hokv2
  refine S_cond rfl (fun hlt => ?_) (fun hge => ?_)
  · have hlt' : k < M := by simp at hlt; omega
    have e64 : ((64 * k : Nat) : Int) + 64 = ((64 * k + 64 : Nat) : Int) := by omega
    have hbl : ((R.drop (64 * k)).take 64).length = 64 := by simp; omega
    repeat (first | refine S_yes rfl rfl ?_ | refine S_no rfl rfl ?_ | refine S_seq ?_ | refine E_seq ?_ | refine S_block ?_ | refine E_block_normal ?_ | refine S_skip ?_ | refine S_exit ?_ | refine S_ret ?_ | refine E_then_exit ?_ | refine E_then_ret ?_ | refine E_block_ret ?_ | refine E_block_exit ?_ | refine E_block_exit_other rfl ?_)
    refine S_tail 7 (by kernel_rfl) (by kernel_rfl) (by kernel_rfl) (by kernel_rfl) ?_
    refine Q_cons (Still1.of_pure (by first | exact p_loadRow rfl row_refEight (by repeat (first | exact List.Mem.head _ | apply List.Mem.tail)) (by first | assumption | rfl | (simp only [bytesV_length, wordsV_length]; omega)) | exact p_loadPart rfl row_refEight (by repeat (first | exact List.Mem.head _ | apply List.Mem.tail)) (by first | exact Nat.le_of_ble_eq_true rfl | omega | (simp only [bytesV_length, wordsV_length, List.length_cons, List.length_nil, List.length_replicate]; omega)) (by first | assumption | rfl))) rfl ?_
    refine Q_cons (Still1.of_pure (p_move rfl)) rfl ?_
    refine Q_cons (Still1.of_pure (p_move rfl)) rfl ?_
    refine Q_cons (Still1.of_pure (p_move rfl)) rfl ?_
    refine Q_cons (Still1.of_pure (by exact p_bin rfl rfl (b_add (w_in_i64 (by omega))))) rfl ?_
    refine Q_cons (Still1.of_pure (p_sliceMid rfl rfl rfl (by repeat (first | assumption | exact lit0 | exact lit1 | apply IntWalk.up_add | apply IntWalk.up_div | apply IntWalk.up_mod | apply IntWalk.up_mul | rfl)) (by repeat (first | assumption | exact lit0 | exact lit1 | apply IntWalk.up_add | apply IntWalk.up_div | apply IntWalk.up_mod | apply IntWalk.up_mul | rfl)) slc_u8s (by omega) (by omega))) rfl ?_
    refine Q_cons (still_call rfl rfl Try.func17 rfl (by kernel_rfl) (Nat.le_refl _) (fun w' hm => take_any' _ ((R.drop (64 * k)).take 64) hbl _ _ _ (by omega) w' (by have h1 := hm.readsBuf (u := v2) (e := 5) (xs := R) (.there (.there .tail)) hokv2; have h2 := (h1.cut (k := 64 * k) (cap := v2.cap R) (by omega) hlc).head (k := 64) (by omega); simpa [bytesV, List.map_take, List.map_drop] using h2))) rfl ?_
    refine Q_nop ?_
    refine Q_nil ?_
    refine E_tail ?_
    refine R_cons rfl (op_storeRow rfl rfl (by first | exact bytesV_one _ | exact wordsV_one _ | (repeat (first | exact ones_nil | refine ones_cons rfl ?_))) row_refEight (by first | rfl | (simp only [bytesV_length, wordsV_length]; omega)) (by repeat (first | exact At.here | apply At.there)) (by first | exact Nat.le_of_ble_eq_true rfl | omega | (simp only [bytesV_length, wordsV_length, List.length_cons, List.length_nil, List.length_replicate]; omega)) ?_)
    refine R_nil ?_
    repeat (first | refine S_yes rfl rfl ?_ | refine S_no rfl rfl ?_ | refine S_seq ?_ | refine E_seq ?_ | refine S_block ?_ | refine E_block_normal ?_ | refine S_skip ?_ | refine S_exit ?_ | refine S_ret ?_ | refine E_then_exit ?_ | refine E_then_ret ?_ | refine E_block_ret ?_ | refine E_block_exit ?_ | refine E_block_exit_other rfl ?_)
    refine S_region ?_
    refine R_cons rfl (op_pure (p_move rfl) rfl ?_)
    refine R_cons rfl (op_pure (by exact p_bin rfl rfl (b_add (w_in_i64 (by omega)))) rfl ?_)
    refine R_cons rfl (op_pure (p_assign rfl) rfl ?_)
    refine R_nil ?_
    repeat (first | refine S_yes rfl rfl ?_ | refine S_no rfl rfl ?_ | refine S_seq ?_ | refine E_seq ?_ | refine S_block ?_ | refine E_block_normal ?_ | refine S_skip ?_ | refine S_exit ?_ | refine S_ret ?_ | refine E_then_exit ?_ | refine E_then_ret ?_ | refine E_block_ret ?_ | refine E_block_exit ?_ | refine E_block_exit_other rfl ?_)
    exact E_round (k + 1) (by omega) (by omega) (by repeat (first | exact Sub.nil | refine Sub.cons rfl ?_)) (.keep (by rw [lay_whole (by simp [wordsV_length, list_length]), blocks_succ]) (Fewer.refl _))
  · have hge' : k = M := by simp at hge; omega
    subst hge'
    have hol := outB_length (blocks k S R)
    have hfin : (sha W == outB (blocks k S R)) = true := beq_iff_eq.2 (hgoon k hM)
    repeat (first | refine S_yes rfl rfl ?_ | refine S_no rfl rfl ?_ | refine S_seq ?_ | refine E_seq ?_ | refine S_block ?_ | refine E_block_normal ?_ | refine S_skip ?_ | refine S_exit ?_ | refine S_ret ?_ | refine E_then_exit ?_ | refine E_then_ret ?_ | refine E_block_ret ?_ | refine E_block_exit ?_ | refine E_block_exit_other rfl ?_)
    refine S_quiet (by kernel_rfl) (by kernel_rfl) ?_
    refine Q_cons (Still1.of_pure (p_move rfl)) rfl ?_
    refine Q_cons (still_call rfl rfl Try.func12 rfl (by kernel_rfl) (Nat.le_refl _) (fun w' hm => of_any _ W.length _ W w' rfl (hm.readsBuf (u := some (gv, spv)) (e := 5) (.at_ rfl (.there .here)) hokv) hlcv hcmv (by omega))) rfl ?_
    refine Q_cons (Still1.of_pure (by first | exact p_loadRow rfl row_refEight (by repeat (first | exact List.Mem.head _ | apply List.Mem.tail)) (by first | assumption | rfl | (simp only [bytesV_length, wordsV_length]; omega)) | exact p_loadPart rfl row_refEight (by repeat (first | exact List.Mem.head _ | apply List.Mem.tail)) (by first | exact Nat.le_of_ble_eq_true rfl | omega | (simp only [bytesV_length, wordsV_length, List.length_cons, List.length_nil, List.length_replicate]; omega)) (by first | assumption | rfl))) rfl ?_
    refine Q_cons (still_call rfl rfl Try.func18 rfl (by kernel_rfl) (Nat.le_refl _) (fun w' _ => refSum_any _ w')) rfl ?_
    refine Q_cons (Still1.of_pure (by exact p_eql_bytesR rfl rfl arr_Sum.1 Try.underlying5 (by kernel_rfl) (by kernel_rfl) (by first | assumption | exact Sha.sha_length _ | rfl) (by first | assumption | exact Sha.sha_length _ | rfl) (by first | assumption | exact beq_self_eq_true _ | rfl))) rfl ?_
    refine Q_cons (Still1.of_pure (p_assign rfl)) rfl ?_
    refine Q_nil ?_
    repeat (first | refine S_yes rfl rfl ?_ | refine S_no rfl rfl ?_ | refine S_seq ?_ | refine E_seq ?_ | refine S_block ?_ | refine E_block_normal ?_ | refine S_skip ?_ | refine S_exit ?_ | refine S_ret ?_ | refine E_then_exit ?_ | refine E_then_ret ?_ | refine E_block_ret ?_ | refine E_block_exit ?_ | refine E_block_exit_other rfl ?_)
    exact E_ret1 rfl rfl fun w' hm => ⟨rfl, hm.below⟩

theorem own : ownKnob Try.prog.godebug = none := by kernel_rfl
theorem laidOut : laidOutB Try.prog = true := by kernel_rfl
set_option maxRecDepth 100000 in
theorem lifted (os : Os) (started : os.Started) (H : Type) (enc : TypeId × Value → H) :
    ReturnsInHanded {} Try.checked os 4 .any (Rows.shasGoOnSpec.pre6 enc Try.prog Try.f4 Rows.shasGoOnRow.domain false) (Rows.shasGoOnSpec.post enc Try.prog Try.f4 false true false false) := by
  refine returnsInHanded_of_change (C := Try.checked) own started (by kernel_rfl) Try.func4
    (ChangeSpec.witness6 (enc := enc) (C := Try.checked) false ⟨#[], #[.slice none 0 0, .slice none 0 0], []⟩ 8 (by kernel_rfl) (by kernel_rfl) (by kernel_rfl) (by kernel_rfl)) ?_
  intro W base args ds gs before hval0 hW hcnd _
  have hval : ∀ (j : Nat) t v, Try.f4.params[j]? = some t → args[j]? = some v → Value.okWide Try.prog W .any base t v := hval0
  have hW' := hW
  obtain ⟨p, q, hA0, hV, rfl, hfz, hnd⟩ := hW
  have hA : DataW.TrodAll enc Try.prog W 0 (fun _ => true) true Try.f4.params.toList args.toList ds p := hA0
  rw [Try.params4] at hA hval
  obtain ⟨v0, vs0, d0, ds0, p0, q0, hargs, rfl, rfl, h0, r0⟩ := trodAll_cons hA
  obtain ⟨v1, vs1, d1, ds1, p1, q1, rfl, rfl, rfl, h1, r1⟩ := trodAll_cons r0
  obtain ⟨rfl, rfl, rfl⟩ := trodAll_nil r1
  obtain rfl : args = #[v0, v1] := by cases args; simp_all
  obtain ⟨rfl, rfl⟩ := trodVars_none hV
  have k0 := h0
  have lt0 : ∀ x ∈ p0, x.block < W.heap.size := by obtain ⟨m, hm⟩ := k0; exact DataW.trod_lt m _ _ _ hm
  have k1 := h1
  have lt1 : ∀ x ∈ p1, x.block < W.heap.size := by obtain ⟨m, hm⟩ := k1; exact DataW.trod_lt m _ _ _ hm
  obtain ⟨A0, c0, a0, rfl, rd0, lc0, cm0⟩ := arg_slice Try.underlying22 Try.underlying5 (by kernel_rfl) (hval 0 22 v0 rfl rfl) k0 lt0
  obtain ⟨A1, c1, a1, rfl, rd1, lc1, cm1⟩ := arg_slice Try.underlying22 Try.underlying5 (by kernel_rfl) (hval 1 22 v1 rfl rfl) k1 lt1
  clear hA0 hval0
  refine (walk W A0 c0 a0 rd0 lc0 cm0 A1 c1 a1 rd1 lc1 cm1).mono fun e W' ⟨he, bel⟩ => ?_
  subst he
  exact ⟨_, rfl, _, _, _, [], _, [], hW', trodAll_mk1 (shut_bool Try.underlying4 _), (trodAll_cons_mk (Below.trod laidOut (by kernel_rfl) (of_decide_eq_true (by kernel_rfl)) k0 bel lt0) (trodAll_cons_mk (Below.trod laidOut (by kernel_rfl) (of_decide_eq_true (by kernel_rfl)) k1 bel lt1) trodAll_mk0)), rfl, bel.frame _, fun h => by cases h⟩
/-- The statement. -/
theorem proved : Rows.ShasGoOnSaid :=
  OpenClaim.holds_of_wide 4 Try.f4 rfl rfl rfl rfl rfl rfl rfl ⟨rfl, rfl, rfl, rfl, rfl⟩ rfl rfl rfl rfl rfl (by kernel_rfl) Try.func4 (by kernel_rfl)
    (of_decide_eq_true (by kernel_rfl)) (by unfold Func.isWrapper; first | (rw [if_pos (by decide +kernel)]; kernel_rfl) | (rw [if_neg (by decide +kernel)]; exact ⟨rfl, rfl⟩))
    (fun os started H enc _ => lifted os started H enc)
#print axioms proved
end Go.Proofs.Ytcjjhiafcefocaa.shasGoOn
