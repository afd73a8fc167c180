/-
  Proved: any tenant's key, any bit, and what is summed up at any depth, of any bytes, of any two sides, are exactly as documented. No condition.
-/
import Derived.Test.YthkogneaimjhjaaRows
import Derived.Test.YthkogneaimjhjaaKeys5
import Derived.Test.YthkogneaimjhjaaTwin
namespace Go.Proofs.Ythkogneaimjhjaa.keysOf
open Go.ChangeShapes Go.WideShapes Go.ChangeAt Go.Sha
open Go.RowKit Go.K
attribute [local irreducible] Exit.then Exit.inBlock Exit.noGoto bodyPost Code.wp QL Sx Rx Qx Ex Dx Op1 Pure1 Still1 K.Sub Calm Code.wpIn
attribute [local irreducible] sha total Buf.hp Buf.cap Buf.addr keyS empS sideS valueS bitZ levels
set_option linter.unusedVariables false

section
attribute [local irreducible] askedV
set_option maxHeartbeats 4000000 in
theorem walk (w : World) (t : UInt32) (z : Int) (zlo : -9223372036854775808 ≤ z) (zhi : z ≤ 9223372036854775807) (d : Int) (dlo : -9223372036854775808 ≤ d) (dhi : d ≤ 9223372036854775807)
    (l : List UInt8) (hl : l.length = 32) (r : List UInt8) (hr : r.length = 32) (A : Option Addr) (c : Nat) (v : List UInt8) (hrd : Reads w A v.length (bytesV v)) (hnc : v.length ≤ c) (hcm : c ≤ maxLen) :
    Calls Try.prog 5 [.agg (askedV t z d l r (.slice A v.length c)).toArray].toArray w fun e w' => e = .returned (.bool true) ∧ Below w.heap.size w w' := by
  have f0 := asked_0 t z d l r (.slice A v.length c)
  have f1 := asked_1 t z d l r (.slice A v.length c)
  have f2 := asked_2 t z d l r (.slice A v.length c)
  have f3 := asked_3 t z d l r (.slice A v.length c) hl
  have f4 := asked_4 t z d l r (.slice A v.length c) hl hr
  have f5 := asked_5 t z d l r (.slice A v.length c) hl hr
  have fl := asked_len t z d l r (.slice A v.length c) hl hr
  generalize askedV t z d l r (.slice A v.length c) = cs at *
  have hrow : ∀ o, o ≤ 36 → o + 32 ≤ cs.length := fun o ho => by omega
  have dd : -9223372036854775808 ≤ d ∧ d ≤ 9223372036854775807 := ⟨dlo, dhi⟩
  have e1 := keyS_length t.toNat z
  have e2 := empS_length (levels d)
  have e3 := valueS_length l v
  have e4 := sideS_length l r
  clear fl zlo zhi dlo dhi
  refine enter Try.func5 rfl Try.ntmps5 (by simp) ?_
  by_cases hbig : 20000 < v.length
  · have g1 : decide ((20000 : Int) < (v.length : Int)) = true := decide_eq_true (by omega)
    clear hbig dd
    repeat (first | refine S_scope ?_ | refine S_label ?_ | refine E_noGoto_normal ?_ | refine E_noGoto_ret ?_ | refine E_noGoto_exit ?_ | refine S_yes rfl (by first | with_reducible rfl | decide) ?_ | refine S_no rfl (by first | with_reducible rfl | decide) ?_ | refine S_seq ?_ | refine E_seq ?_ | refine S_block ?_ | refine E_block_normal ?_ | refine S_skip ?_ | refine S_exit ?_ | refine S_ret ?_ | refine E_then_exit ?_ | refine E_then_ret ?_ | refine E_block_ret ?_ | refine E_block_exit ?_ | refine E_block_exit_other rfl ?_)
    refine S_region ?_
    refine R_cons rfl (op_boxRow rfl rfl (Nat.le_refl _) (fun b1 => ?_))
    refine R_cons rfl (op_pure (p_assign rfl) rfl ?_)
    refine R_nil ?_
    repeat (first | refine S_scope ?_ | refine S_label ?_ | refine E_noGoto_normal ?_ | refine E_noGoto_ret ?_ | refine E_noGoto_exit ?_ | refine S_yes rfl (by first | with_reducible rfl | decide) ?_ | refine S_no rfl (by first | with_reducible rfl | decide) ?_ | refine S_seq ?_ | refine E_seq ?_ | refine S_block ?_ | refine E_block_normal ?_ | refine S_skip ?_ | refine S_exit ?_ | refine S_ret ?_ | refine E_then_exit ?_ | refine E_then_ret ?_ | refine E_block_ret ?_ | refine E_block_exit ?_ | refine E_block_exit_other rfl ?_)
    refine S_region ?_
    refine R_cons rfl (op_pure (by first | exact p_fieldAddr0 rfl fd_Asked_5 | exact p_fieldAddr rfl fd_Asked_5) rfl ?_)
    refine R_cons rfl (op_pure (by first | exact p_load rfl sc_u8s (by repeat (first | exact List.Mem.head _ | apply List.Mem.tail)) (by first | assumption | exact bytesV_get (by omega) | exact wordsV_get (by omega) | rfl) | exact p_load_base rfl sc_u8s (by assumption) (by simp) (by assumption)) rfl ?_)
    refine R_cons rfl (op_pure (p_len rfl slc_u8s) rfl ?_)
    refine R_cons rfl (op_pure (p_bin rfl rfl (b_gtr g1)) rfl ?_)
    refine R_nil ?_
    repeat (first | refine S_scope ?_ | refine S_label ?_ | refine E_noGoto_normal ?_ | refine E_noGoto_ret ?_ | refine E_noGoto_exit ?_ | refine S_yes rfl (by first | with_reducible rfl | decide) ?_ | refine S_no rfl (by first | with_reducible rfl | decide) ?_ | refine S_seq ?_ | refine E_seq ?_ | refine S_block ?_ | refine E_block_normal ?_ | refine S_skip ?_ | refine S_exit ?_ | refine S_ret ?_ | refine E_then_exit ?_ | refine E_then_ret ?_ | refine E_block_ret ?_ | refine E_block_exit ?_ | refine E_block_exit_other rfl ?_)
    refine S_region ?_
    refine R_cons rfl (op_pure (p_assign rfl) rfl ?_)
    refine R_nil ?_
    repeat (first | refine S_scope ?_ | refine S_label ?_ | refine E_noGoto_normal ?_ | refine E_noGoto_ret ?_ | refine E_noGoto_exit ?_ | refine S_yes rfl (by first | with_reducible rfl | decide) ?_ | refine S_no rfl (by first | with_reducible rfl | decide) ?_ | refine S_seq ?_ | refine E_seq ?_ | refine S_block ?_ | refine E_block_normal ?_ | refine S_skip ?_ | refine S_exit ?_ | refine S_ret ?_ | refine E_then_exit ?_ | refine E_then_ret ?_ | refine E_block_ret ?_ | refine E_block_exit ?_ | refine E_block_exit_other rfl ?_)
    exact E_ret1 rfl rfl fun w' hm => ⟨rfl, hm.below⟩
  have g1 : decide ((20000 : Int) < (v.length : Int)) = false := decide_eq_false (by omega)
  have hn1 : v.length ≤ 1000000 ∧ v.length ≤ 1000000000 ∧ v.length ≤ 1048576 := by omega
  clear hbig
  have hh := And.intro dd hn1
  clear dd hn1
  repeat (first | refine S_scope ?_ | refine S_label ?_ | refine E_noGoto_normal ?_ | refine E_noGoto_ret ?_ | refine E_noGoto_exit ?_ | refine S_yes rfl (by first | with_reducible rfl | decide) ?_ | refine S_no rfl (by first | with_reducible rfl | decide) ?_ | refine S_seq ?_ | refine E_seq ?_ | refine S_block ?_ | refine E_block_normal ?_ | refine S_skip ?_ | refine S_exit ?_ | refine S_ret ?_ | refine E_then_exit ?_ | refine E_then_ret ?_ | refine E_block_ret ?_ | refine E_block_exit ?_ | refine E_block_exit_other rfl ?_)
  refine S_region ?_
  refine R_cons rfl (op_boxRow rfl rfl (Nat.le_refl _) (fun b1 => ?_))
  refine R_cons rfl (op_pure (p_assign rfl) rfl ?_)
  refine R_nil ?_
  repeat (first | refine S_scope ?_ | refine S_label ?_ | refine E_noGoto_normal ?_ | refine E_noGoto_ret ?_ | refine E_noGoto_exit ?_ | refine S_yes rfl (by first | with_reducible rfl | decide) ?_ | refine S_no rfl (by first | with_reducible rfl | decide) ?_ | refine S_seq ?_ | refine E_seq ?_ | refine S_block ?_ | refine E_block_normal ?_ | refine S_skip ?_ | refine S_exit ?_ | refine S_ret ?_ | refine E_then_exit ?_ | refine E_then_ret ?_ | refine E_block_ret ?_ | refine E_block_exit ?_ | refine E_block_exit_other rfl ?_)
  refine S_region ?_
  refine R_cons rfl (op_pure (by first | exact p_fieldAddr0 rfl fd_Asked_5 | exact p_fieldAddr rfl fd_Asked_5) rfl ?_)
  refine R_cons rfl (op_pure (by first | exact p_load rfl sc_u8s (by repeat (first | exact List.Mem.head _ | apply List.Mem.tail)) (by first | assumption | exact bytesV_get (by omega) | exact wordsV_get (by omega) | rfl) | exact p_load_base rfl sc_u8s (by assumption) (by simp) (by assumption)) rfl ?_)
  refine R_cons rfl (op_pure (p_len rfl slc_u8s) rfl ?_)
  refine R_cons rfl (op_pure (p_bin rfl rfl (b_gtr g1)) rfl ?_)
  refine R_nil ?_
  repeat (first | refine S_scope ?_ | refine S_label ?_ | refine E_noGoto_normal ?_ | refine E_noGoto_ret ?_ | refine E_noGoto_exit ?_ | refine S_yes rfl (by first | with_reducible rfl | decide) ?_ | refine S_no rfl (by first | with_reducible rfl | decide) ?_ | refine S_seq ?_ | refine E_seq ?_ | refine S_block ?_ | refine E_block_normal ?_ | refine S_skip ?_ | refine S_exit ?_ | refine S_ret ?_ | refine E_then_exit ?_ | refine E_then_ret ?_ | refine E_block_ret ?_ | refine E_block_exit ?_ | refine E_block_exit_other rfl ?_)
  refine S_region ?_
  refine R_cons rfl (op_pure (by first | exact p_fieldAddr0 rfl fd_Asked_5 | exact p_fieldAddr rfl fd_Asked_5) rfl ?_)
  refine R_cons rfl (op_pure (by first | exact p_load rfl sc_u8s (by repeat (first | exact List.Mem.head _ | apply List.Mem.tail)) (by first | assumption | exact bytesV_get (by omega) | exact wordsV_get (by omega) | rfl) | exact p_load_base rfl sc_u8s (by assumption) (by simp) (by assumption)) rfl ?_)
  refine R_cons rfl (op_call rfl rfl Try.func19 rfl (by kernel_rfl) rfl fun w1 hm => (twin_any A v.length c v w1 rfl (hrd.base hm) hh.2.2.2).mono ?_)
  rintro e w2 ⟨g, cap, sp, rfl, hg, hgo, hlen, hcapm, hbel⟩
  refine ⟨_, _, rfl, hm.call1 (Nat.le_refl _) hbel hg hgo, ?_⟩
  have hxl := bytesV_length v
  have hxl2 := bytesV_length (v ++ [77])
  simp only [List.length_append, List.length_cons, List.length_nil] at hxl2 hlen
  have hpre : ((bytesV (v ++ [77]) ++ sp).drop 0).take v.length = bytesV v := by rw [List.drop_zero, bytesV_append, List.append_assoc, ← hxl, List.take_left]
  have hpre2 : ((bytesV (v ++ [77]) ++ sp).drop 0).take (v.length + 1) = bytesV (v ++ [77]) := by rw [List.drop_zero, show v.length + 1 = (bytesV (v ++ [77])).length by omega, List.take_left]
  have hfit : 0 + v.length ≤ (bytesV (v ++ [77]) ++ sp).length := by simp only [List.length_append]; omega
  have hfit2 : 0 + (v.length + 1) ≤ (bytesV (v ++ [77]) ++ sp).length := by simp only [List.length_append]; omega
  have hcap1 : v.length + 1 ≤ cap := by omega
  have hcap0 : v.length ≤ cap := by omega
  clear hxl hxl2 hlen hg hgo hbel
  refine R_cons rfl (op_pure (p_assign rfl) rfl ?_)
  refine R_nil ?_
  repeat (first | refine S_scope ?_ | refine S_label ?_ | refine E_noGoto_normal ?_ | refine E_noGoto_ret ?_ | refine E_noGoto_exit ?_ | refine S_yes rfl (by first | with_reducible rfl | decide) ?_ | refine S_no rfl (by first | with_reducible rfl | decide) ?_ | refine S_seq ?_ | refine E_seq ?_ | refine S_block ?_ | refine E_block_normal ?_ | refine S_skip ?_ | refine S_exit ?_ | refine S_ret ?_ | refine E_then_exit ?_ | refine E_then_ret ?_ | refine E_block_ret ?_ | refine E_block_exit ?_ | refine E_block_exit_other rfl ?_)
  refine S_quiet (by kernel_rfl) (by kernel_rfl) ?_
  refine Q_cons (Still1.of_pure (by first | exact p_fieldAddr0 rfl fd_Asked_0 | exact p_fieldAddr rfl fd_Asked_0)) rfl ?_
  refine Q_cons (Still1.of_pure (by first | exact p_load rfl sc_u32 (by repeat (first | exact List.Mem.head _ | apply List.Mem.tail)) (by first | assumption | exact bytesV_get (by omega) | exact wordsV_get (by omega) | rfl) | exact p_load_base rfl sc_u32 (by assumption) (by simp) (by assumption))) rfl ?_
  refine Q_cons (Still1.of_pure (by first | exact p_fieldAddr0 rfl fd_Asked_1 | exact p_fieldAddr rfl fd_Asked_1)) rfl ?_
  refine Q_cons (Still1.of_pure (by first | exact p_load rfl sc_int (by repeat (first | exact List.Mem.head _ | apply List.Mem.tail)) (by first | assumption | exact bytesV_get (by omega) | exact wordsV_get (by omega) | rfl) | exact p_load_base rfl sc_int (by assumption) (by simp) (by assumption))) rfl ?_
  refine Q_cons (still_call rfl rfl Try.func20 rfl (by kernel_rfl) (Nat.le_refl _) (fun w' _ => keyOf_any t z w')) rfl ?_
  refine Q_cons (Still1.of_pure (by first | exact p_fieldAddr0 rfl fd_Asked_0 | exact p_fieldAddr rfl fd_Asked_0)) rfl ?_
  refine Q_cons (Still1.of_pure (by first | exact p_load rfl sc_u32 (by repeat (first | exact List.Mem.head _ | apply List.Mem.tail)) (by first | assumption | exact bytesV_get (by omega) | exact wordsV_get (by omega) | rfl) | exact p_load_base rfl sc_u32 (by assumption) (by simp) (by assumption))) rfl ?_
  refine Q_cons (Still1.of_pure (by first | exact p_fieldAddr0 rfl fd_Asked_1 | exact p_fieldAddr rfl fd_Asked_1)) rfl ?_
  refine Q_cons (Still1.of_pure (by first | exact p_load rfl sc_int (by repeat (first | exact List.Mem.head _ | apply List.Mem.tail)) (by first | assumption | exact bytesV_get (by omega) | exact wordsV_get (by omega) | rfl) | exact p_load_base rfl sc_int (by assumption) (by simp) (by assumption))) rfl ?_
  refine Q_cons (still_call rfl rfl Try.func21 rfl (by kernel_rfl) (Nat.le_refl _) (fun w' _ => refKeyOf_any t z w')) rfl ?_
  refine Q_cons (Still1.of_pure (p_eql_bytesR rfl rfl arr_Sum.1 Try.underlying5 (by kernel_rfl) (by kernel_rfl) e1 e1 (r := true) (beq_self_eq_true _))) rfl ?_
  refine Q_cons (Still1.of_pure (p_move rfl)) rfl ?_
  first | refine Q_pass rfl rfl rfl rfl ?_ | refine Q_pass_undef rfl rfl rfl ?_ | refine Q_guard rfl rfl (Still1.of_pure (by first | exact p_fieldAddr0 rfl fd_Asked_3 | exact p_fieldAddr rfl fd_Asked_3)) rfl ?_
  first | refine Q_pass rfl rfl rfl rfl ?_ | refine Q_pass_undef rfl rfl rfl ?_ | refine Q_guard rfl rfl (Still1.of_pure (p_loadPart rfl row_Sum (by repeat (first | exact List.Mem.head _ | apply List.Mem.tail)) (hrow 3 (by decide)) f3)) rfl ?_
  first | refine Q_pass rfl rfl rfl rfl ?_ | refine Q_pass_undef rfl rfl rfl ?_ | refine Q_guard rfl rfl (Still1.of_pure (by first | exact p_fieldAddr0 rfl fd_Asked_2 | exact p_fieldAddr rfl fd_Asked_2)) rfl ?_
  first | refine Q_pass rfl rfl rfl rfl ?_ | refine Q_pass_undef rfl rfl rfl ?_ | refine Q_guard rfl rfl (Still1.of_pure (by first | exact p_load rfl sc_int (by repeat (first | exact List.Mem.head _ | apply List.Mem.tail)) (by first | assumption | exact bytesV_get (by omega) | exact wordsV_get (by omega) | rfl) | exact p_load_base rfl sc_int (by assumption) (by simp) (by assumption))) rfl ?_
  first | refine Q_pass rfl rfl rfl rfl ?_ | refine Q_pass_undef rfl rfl rfl ?_ | refine Q_guard rfl rfl (still_call rfl rfl Try.func15 rfl (by kernel_rfl) (Nat.le_refl _) (fun w' _ => bit_any l hl d hh.1 w')) rfl ?_
  first | refine Q_pass rfl rfl rfl rfl ?_ | refine Q_pass_undef rfl rfl rfl ?_ | refine Q_guard rfl rfl (Still1.of_pure (by first | exact p_fieldAddr0 rfl fd_Asked_3 | exact p_fieldAddr rfl fd_Asked_3)) rfl ?_
  first | refine Q_pass rfl rfl rfl rfl ?_ | refine Q_pass_undef rfl rfl rfl ?_ | refine Q_guard rfl rfl (Still1.of_pure (p_loadPart rfl row_Sum (by repeat (first | exact List.Mem.head _ | apply List.Mem.tail)) (hrow 3 (by decide)) f3)) rfl ?_
  first | refine Q_pass rfl rfl rfl rfl ?_ | refine Q_pass_undef rfl rfl rfl ?_ | refine Q_guard rfl rfl (Still1.of_pure (by first | exact p_fieldAddr0 rfl fd_Asked_2 | exact p_fieldAddr rfl fd_Asked_2)) rfl ?_
  first | refine Q_pass rfl rfl rfl rfl ?_ | refine Q_pass_undef rfl rfl rfl ?_ | refine Q_guard rfl rfl (Still1.of_pure (by first | exact p_load rfl sc_int (by repeat (first | exact List.Mem.head _ | apply List.Mem.tail)) (by first | assumption | exact bytesV_get (by omega) | exact wordsV_get (by omega) | rfl) | exact p_load_base rfl sc_int (by assumption) (by simp) (by assumption))) rfl ?_
  first | refine Q_pass rfl rfl rfl rfl ?_ | refine Q_pass_undef rfl rfl rfl ?_ | refine Q_guard rfl rfl (still_call rfl rfl Try.func22 rfl (by kernel_rfl) (Nat.le_refl _) (fun w' _ => refBit_any l hl d hh.1 w')) rfl ?_
  first | refine Q_pass rfl rfl rfl rfl ?_ | refine Q_pass_undef rfl rfl rfl ?_ | refine Q_guard rfl rfl (Still1.of_pure (p_bin rfl rfl (b_eql (beq_self_eq_true _)))) rfl ?_
  refine Q_cons (Still1.of_pure (by first | exact p_pick_yes rfl rfl | exact p_pick_no rfl rfl | exact p_pick rfl rfl rfl)) rfl ?_
  refine Q_cons (Still1.of_pure (p_move rfl)) rfl ?_
  first | refine Q_pass rfl rfl rfl rfl ?_ | refine Q_pass_undef rfl rfl rfl ?_ | refine Q_guard rfl rfl (Still1.of_pure (by first | exact p_fieldAddr0 rfl fd_Asked_2 | exact p_fieldAddr rfl fd_Asked_2)) rfl ?_
  first | refine Q_pass rfl rfl rfl rfl ?_ | refine Q_pass_undef rfl rfl rfl ?_ | refine Q_guard rfl rfl (Still1.of_pure (by first | exact p_load rfl sc_int (by repeat (first | exact List.Mem.head _ | apply List.Mem.tail)) (by first | assumption | exact bytesV_get (by omega) | exact wordsV_get (by omega) | rfl) | exact p_load_base rfl sc_int (by assumption) (by simp) (by assumption))) rfl ?_
  first | refine Q_pass rfl rfl rfl rfl ?_ | refine Q_pass_undef rfl rfl rfl ?_ | refine Q_guard rfl rfl (still_call rfl rfl Try.func17 rfl (by kernel_rfl) (Nat.le_refl _) (fun w' _ => empty_any d hh.1 w')) rfl ?_
  first | refine Q_pass rfl rfl rfl rfl ?_ | refine Q_pass_undef rfl rfl rfl ?_ | refine Q_guard rfl rfl (Still1.of_pure (by first | exact p_fieldAddr0 rfl fd_Asked_2 | exact p_fieldAddr rfl fd_Asked_2)) rfl ?_
  first | refine Q_pass rfl rfl rfl rfl ?_ | refine Q_pass_undef rfl rfl rfl ?_ | refine Q_guard rfl rfl (Still1.of_pure (by first | exact p_load rfl sc_int (by repeat (first | exact List.Mem.head _ | apply List.Mem.tail)) (by first | assumption | exact bytesV_get (by omega) | exact wordsV_get (by omega) | rfl) | exact p_load_base rfl sc_int (by assumption) (by simp) (by assumption))) rfl ?_
  first | refine Q_pass rfl rfl rfl rfl ?_ | refine Q_pass_undef rfl rfl rfl ?_ | refine Q_guard rfl rfl (still_call rfl rfl Try.func23 rfl (by kernel_rfl) (Nat.le_refl _) (fun w' _ => refEmpty_any d w')) rfl ?_
  first | refine Q_pass rfl rfl rfl rfl ?_ | refine Q_pass_undef rfl rfl rfl ?_ | refine Q_guard rfl rfl (Still1.of_pure (p_eql_bytesR rfl rfl arr_Sum.1 Try.underlying5 (by kernel_rfl) (by kernel_rfl) e2 e2 (r := true) (beq_self_eq_true _))) rfl ?_
  refine Q_cons (Still1.of_pure (by first | exact p_pick_yes rfl rfl | exact p_pick_no rfl rfl | exact p_pick rfl rfl rfl)) rfl ?_
  refine Q_cons (Still1.of_pure (p_move rfl)) rfl ?_
  first | refine Q_pass rfl rfl rfl rfl ?_ | refine Q_pass_undef rfl rfl rfl ?_ | refine Q_guard rfl rfl (Still1.of_pure (by first | exact p_fieldAddr0 rfl fd_Asked_3 | exact p_fieldAddr rfl fd_Asked_3)) rfl ?_
  first | refine Q_pass rfl rfl rfl rfl ?_ | refine Q_pass_undef rfl rfl rfl ?_ | refine Q_guard rfl rfl (Still1.of_pure (p_loadPart rfl row_Sum (by repeat (first | exact List.Mem.head _ | apply List.Mem.tail)) (hrow 3 (by decide)) f3)) rfl ?_
  first | refine Q_pass rfl rfl rfl rfl ?_ | refine Q_pass_undef rfl rfl rfl ?_ | refine Q_guard rfl rfl (Still1.of_pure (p_move rfl)) rfl ?_
  first | refine Q_pass rfl rfl rfl rfl ?_ | refine Q_pass_undef rfl rfl rfl ?_ | refine Q_guard rfl rfl (still_call rfl rfl Try.func24 rfl (by kernel_rfl) (Nat.le_refl _) (fun w' hm => value_any l hl _ _ cap v w' rfl (hm.reads (by repeat (first | exact List.Mem.head _ | apply List.Mem.tail)) hpre hfit) hcap0 hcapm hh.2.2.1)) rfl ?_
  first | refine Q_pass rfl rfl rfl rfl ?_ | refine Q_pass_undef rfl rfl rfl ?_ | refine Q_guard rfl rfl (Still1.of_pure (by first | exact p_fieldAddr0 rfl fd_Asked_3 | exact p_fieldAddr rfl fd_Asked_3)) rfl ?_
  first | refine Q_pass rfl rfl rfl rfl ?_ | refine Q_pass_undef rfl rfl rfl ?_ | refine Q_guard rfl rfl (Still1.of_pure (p_loadPart rfl row_Sum (by repeat (first | exact List.Mem.head _ | apply List.Mem.tail)) (hrow 3 (by decide)) f3)) rfl ?_
  first | refine Q_pass rfl rfl rfl rfl ?_ | refine Q_pass_undef rfl rfl rfl ?_ | refine Q_guard rfl rfl (Still1.of_pure (by first | exact p_fieldAddr0 rfl fd_Asked_5 | exact p_fieldAddr rfl fd_Asked_5)) rfl ?_
  first | refine Q_pass rfl rfl rfl rfl ?_ | refine Q_pass_undef rfl rfl rfl ?_ | refine Q_guard rfl rfl (Still1.of_pure (by first | exact p_load rfl sc_u8s (by repeat (first | exact List.Mem.head _ | apply List.Mem.tail)) (by first | assumption | exact bytesV_get (by omega) | exact wordsV_get (by omega) | rfl) | exact p_load_base rfl sc_u8s (by assumption) (by simp) (by assumption))) rfl ?_
  first | refine Q_pass rfl rfl rfl rfl ?_ | refine Q_pass_undef rfl rfl rfl ?_ | refine Q_guard rfl rfl (still_call rfl rfl Try.func25 rfl (by kernel_rfl) (Nat.le_refl _) (fun w' hm => refValue_any l hl A _ c v w' rfl (hrd.base hm) hh.2.2.1)) rfl ?_
  first | refine Q_pass rfl rfl rfl rfl ?_ | refine Q_pass_undef rfl rfl rfl ?_ | refine Q_guard rfl rfl (Still1.of_pure (p_eql_bytesR rfl rfl arr_Sum.1 Try.underlying5 (by kernel_rfl) (by kernel_rfl) e3 e3 (r := true) (beq_self_eq_true _))) rfl ?_
  refine Q_cons (Still1.of_pure (by first | exact p_pick_yes rfl rfl | exact p_pick_no rfl rfl | exact p_pick rfl rfl rfl)) rfl ?_
  refine Q_cons (Still1.of_pure (p_move rfl)) rfl ?_
  first | refine Q_pass rfl rfl rfl rfl ?_ | refine Q_pass_undef rfl rfl rfl ?_ | refine Q_guard rfl rfl (Still1.of_pure (by first | exact p_fieldAddr0 rfl fd_Asked_3 | exact p_fieldAddr rfl fd_Asked_3)) rfl ?_
  first | refine Q_pass rfl rfl rfl rfl ?_ | refine Q_pass_undef rfl rfl rfl ?_ | refine Q_guard rfl rfl (Still1.of_pure (p_loadPart rfl row_Sum (by repeat (first | exact List.Mem.head _ | apply List.Mem.tail)) (hrow 3 (by decide)) f3)) rfl ?_
  first | refine Q_pass rfl rfl rfl rfl ?_ | refine Q_pass_undef rfl rfl rfl ?_ | refine Q_guard rfl rfl (Still1.of_pure (by first | exact p_fieldAddr0 rfl fd_Asked_4 | exact p_fieldAddr rfl fd_Asked_4)) rfl ?_
  first | refine Q_pass rfl rfl rfl rfl ?_ | refine Q_pass_undef rfl rfl rfl ?_ | refine Q_guard rfl rfl (Still1.of_pure (p_loadPart rfl row_Sum (by repeat (first | exact List.Mem.head _ | apply List.Mem.tail)) (hrow 35 (by decide)) f4)) rfl ?_
  first | refine Q_pass rfl rfl rfl rfl ?_ | refine Q_pass_undef rfl rfl rfl ?_ | refine Q_guard rfl rfl (still_call rfl rfl Try.func18 rfl (by kernel_rfl) (Nat.le_refl _) (fun w' _ => side_any l r hl hr w')) rfl ?_
  first | refine Q_pass rfl rfl rfl rfl ?_ | refine Q_pass_undef rfl rfl rfl ?_ | refine Q_guard rfl rfl (Still1.of_pure (by first | exact p_fieldAddr0 rfl fd_Asked_3 | exact p_fieldAddr rfl fd_Asked_3)) rfl ?_
  first | refine Q_pass rfl rfl rfl rfl ?_ | refine Q_pass_undef rfl rfl rfl ?_ | refine Q_guard rfl rfl (Still1.of_pure (p_loadPart rfl row_Sum (by repeat (first | exact List.Mem.head _ | apply List.Mem.tail)) (hrow 3 (by decide)) f3)) rfl ?_
  first | refine Q_pass rfl rfl rfl rfl ?_ | refine Q_pass_undef rfl rfl rfl ?_ | refine Q_guard rfl rfl (Still1.of_pure (by first | exact p_fieldAddr0 rfl fd_Asked_4 | exact p_fieldAddr rfl fd_Asked_4)) rfl ?_
  first | refine Q_pass rfl rfl rfl rfl ?_ | refine Q_pass_undef rfl rfl rfl ?_ | refine Q_guard rfl rfl (Still1.of_pure (p_loadPart rfl row_Sum (by repeat (first | exact List.Mem.head _ | apply List.Mem.tail)) (hrow 35 (by decide)) f4)) rfl ?_
  first | refine Q_pass rfl rfl rfl rfl ?_ | refine Q_pass_undef rfl rfl rfl ?_ | refine Q_guard rfl rfl (still_call rfl rfl Try.func26 rfl (by kernel_rfl) (Nat.le_refl _) (fun w' _ => refSide_any l r hl hr w')) rfl ?_
  first | refine Q_pass rfl rfl rfl rfl ?_ | refine Q_pass_undef rfl rfl rfl ?_ | refine Q_guard rfl rfl (Still1.of_pure (p_eql_bytesR rfl rfl arr_Sum.1 Try.underlying5 (by kernel_rfl) (by kernel_rfl) e4 e4 (r := true) (beq_self_eq_true _))) rfl ?_
  refine Q_cons (Still1.of_pure (by first | exact p_pick_yes rfl rfl | exact p_pick_no rfl rfl | exact p_pick rfl rfl rfl)) rfl ?_
  refine Q_cons (Still1.of_pure (p_move rfl)) rfl ?_
  first | refine Q_pass rfl rfl rfl rfl ?_ | refine Q_pass_undef rfl rfl rfl ?_ | refine Q_guard rfl rfl (Still1.of_pure (p_move rfl)) rfl ?_
  first | refine Q_pass rfl rfl rfl rfl ?_ | refine Q_pass_undef rfl rfl rfl ?_ | refine Q_guard rfl rfl (Still1.of_pure (by first | exact p_fieldAddr0 rfl fd_Asked_5 | exact p_fieldAddr rfl fd_Asked_5)) rfl ?_
  first | refine Q_pass rfl rfl rfl rfl ?_ | refine Q_pass_undef rfl rfl rfl ?_ | refine Q_guard rfl rfl (Still1.of_pure (by first | exact p_load rfl sc_u8s (by repeat (first | exact List.Mem.head _ | apply List.Mem.tail)) (by first | assumption | exact bytesV_get (by omega) | exact wordsV_get (by omega) | rfl) | exact p_load_base rfl sc_u8s (by assumption) (by simp) (by assumption))) rfl ?_
  first | refine Q_pass rfl rfl rfl rfl ?_ | refine Q_pass_undef rfl rfl rfl ?_ | refine Q_guard rfl rfl (still_call rfl rfl Try.func27 rfl (by kernel_rfl) (Nat.le_refl _) (fun w' hm => left_bytes _ A v.length cap c v w' rfl (hm.reads (by repeat (first | exact List.Mem.head _ | apply List.Mem.tail)) hpre2 hfit2) hcap1 hcapm (hrd.base hm))) rfl ?_
  refine Q_cons (Still1.of_pure (by first | exact p_pick_yes rfl rfl | exact p_pick_no rfl rfl | exact p_pick rfl rfl rfl)) rfl ?_
  refine Q_cons (Still1.of_pure (p_assign rfl)) rfl ?_
  refine Q_nil ?_
  repeat (first | refine S_scope ?_ | refine S_label ?_ | refine E_noGoto_normal ?_ | refine E_noGoto_ret ?_ | refine E_noGoto_exit ?_ | refine S_yes rfl (by first | with_reducible rfl | decide) ?_ | refine S_no rfl (by first | with_reducible rfl | decide) ?_ | refine S_seq ?_ | refine E_seq ?_ | refine S_block ?_ | refine E_block_normal ?_ | refine S_skip ?_ | refine S_exit ?_ | refine S_ret ?_ | refine E_then_exit ?_ | refine E_then_ret ?_ | refine E_block_ret ?_ | refine E_block_exit ?_ | refine E_block_exit_other rfl ?_)
  exact E_ret1 rfl rfl fun w' hm => ⟨rfl, hm.below⟩

end
theorem own : ownKnob Try.prog.godebug = none := by kernel_rfl
theorem laidOut : laidOutB Try.prog = true := by kernel_rfl
set_option maxRecDepth 100000 in
theorem lifted (os : Os) (started : os.Started) (H : Type) (enc : TypeId × Value → H) :
    ReturnsInHanded {} Try.checked os 5 .any (Rows.keysOfSpec.pre6 enc Try.prog Try.f5 Rows.keysOfRow.domain false) (Rows.keysOfSpec.post enc Try.prog Try.f5 false true false false) := by
  refine returnsInHanded_of_change (C := Try.checked) own started (by kernel_rfl) Try.func5
    (ChangeSpec.witness6 (enc := enc) (C := Try.checked) false ⟨#[], #[.agg (([Value.int .u32 0] ++ ([Value.int .i64 0] ++ ([Value.int .i64 0] ++ (bytesV (List.replicate 32 0) ++ (bytesV (List.replicate 32 0) ++ ([Value.slice none 0 0]))))))).toArray], []⟩ 8 (by kernel_rfl) (by kernel_rfl) (by kernel_rfl) (by kernel_rfl)) ?_
  intro W base args ds gs before hval0 hW hcnd _
  have hval : ∀ (j : Nat) t v, Try.f5.params[j]? = some t → args[j]? = some v → Value.okWide Try.prog W .any base t v := hval0
  have hW' := hW
  obtain ⟨p, q, hA0, hV, rfl, hfz, hnd⟩ := hW
  have hA : DataW.TrodAll enc Try.prog W 0 (fun _ => true) true Try.f5.params.toList args.toList ds p := hA0
  rw [Try.params5] at hA hval
  obtain ⟨v0, vs0, d0, ds0, p0, q0, hargs, rfl, rfl, h0, r0⟩ := trodAll_cons hA
  obtain ⟨rfl, rfl, rfl⟩ := trodAll_nil r0
  obtain rfl : args = #[v0] := by cases args; simp_all
  obtain ⟨rfl, rfl⟩ := trodVars_none hV
  have k0 := h0
  have lt0 : ∀ x ∈ p0, x.block < W.heap.size := by obtain ⟨m, hm⟩ := k0; exact DataW.trod_lt m _ _ _ hm
  obtain ⟨⟨cs0⟩, rfl, _⟩ := okWide_struct Try.underlying34 (hval 0 34 v0 rfl rfl)
  have q0 := k0
  obtain ⟨fu0, g0⟩ := q0
  obtain ⟨ys0, m0, _, _, hl0, hy0, hg0⟩ := DataW.trod_struct Try.underlying34 g0
  obtain ⟨x0_0, r0_0⟩ := fld (i := 0) (o := 0) (s := 1) (ty := 31) hg0 hy0 rfl rfl rfl (by kernel_rfl)
  obtain ⟨a0_0, e0_0⟩ := open_u32 Try.underlying31 r0_0
  obtain ⟨x0_1, r0_1⟩ := fld (i := 1) (o := 1) (s := 1) (ty := 3) hg0 hy0 rfl rfl rfl (by kernel_rfl)
  obtain ⟨a0_1, e0_1, lo0_1, hi0_1⟩ := open_i64 Try.underlying3 r0_1
  obtain ⟨x0_2, r0_2⟩ := fld (i := 2) (o := 2) (s := 1) (ty := 3) hg0 hy0 rfl rfl rfl (by kernel_rfl)
  obtain ⟨a0_2, e0_2, lo0_2, hi0_2⟩ := open_i64 Try.underlying3 r0_2
  obtain ⟨x0_3, r0_3⟩ := fld (i := 3) (o := 3) (s := 32) (ty := 23) hg0 hy0 rfl rfl rfl (by kernel_rfl)
  obtain ⟨a0_3, e0_3, l0_3⟩ := open_sum Try.underlying23 Try.underlying5 (by kernel_rfl) (by kernel_rfl) r0_3
  obtain ⟨x0_4, r0_4⟩ := fld (i := 4) (o := 35) (s := 32) (ty := 23) hg0 hy0 rfl rfl rfl (by kernel_rfl)
  obtain ⟨a0_4, e0_4, l0_4⟩ := open_sum Try.underlying23 Try.underlying5 (by kernel_rfl) (by kernel_rfl) r0_4
  obtain ⟨x0_5, r0_5⟩ := fld (i := 5) (o := 67) (s := 1) (ty := 32) hg0 hy0 rfl rfl rfl (by kernel_rfl)
  obtain ⟨A0_5, c0_5, a0_5, e0_5, rd0_5, lc0_5, cm0_5⟩ := open_bytes Try.underlying32 Try.underlying5 (by kernel_rfl) r0_5
  have e0 := part_all (part_cons e0_0 (part_cons e0_1 (part_cons e0_2 (part_cons e0_3 (part_cons e0_4 (part_last e0_5 (by rw [hl0]; kernel_rfl)))))))
  simp only [Value.cells] at e0
  subst e0
  clear hA0 hval0
  refine (walk W a0_0 a0_1 lo0_1 hi0_1 a0_2 lo0_2 hi0_2 a0_3 l0_3 a0_4 l0_4 A0_5 c0_5 a0_5 rd0_5 lc0_5 cm0_5).mono fun e W' ⟨he, bel⟩ => ?_
  subst he
  exact ⟨_, rfl, _, _, _, [], _, [], hW', trodAll_mk1 (shut_bool Try.underlying4 _), (trodAll_cons_mk (Below.trod laidOut (by kernel_rfl) (of_decide_eq_true (by kernel_rfl)) k0 bel lt0) trodAll_mk0), rfl, bel.frame _, fun h => by cases h⟩
/-- The statement. -/
theorem proved : Rows.KeysOfSaid :=
  OpenClaim.holds_of_wide 5 Try.f5 rfl rfl rfl rfl rfl rfl rfl ⟨rfl, rfl, rfl, rfl, rfl⟩ rfl rfl rfl rfl rfl (by kernel_rfl) Try.func5 (by kernel_rfl)
    (of_decide_eq_true (by kernel_rfl)) (by unfold Func.isWrapper; first | (rw [if_pos (by decide +kernel)]; kernel_rfl) | (rw [if_neg (by decide +kernel)]; exact ⟨rfl, rfl⟩))
    (fun os started H enc _ => lifted os started H enc)
#print axioms proved
end Go.Proofs.Ythkogneaimjhjaa.keysOf
