/-
  Proved: the sum of any leaf, of any two sums, and the root of any, are exactly as documented. No condition.
-/
import Derived.Test.YthkogneaimjhjaaRows
import Derived.Test.YthkogneaimjhjaaLv6
import Derived.Test.YthkogneaimjhjaaK20
import Derived.Test.YthkogneaimjhjaaTwin
namespace Go.Proofs.Ythkogneaimjhjaa.leavesOf
open Go.ChangeShapes Go.WideShapes Go.ChangeAt Go.Sha
open Go.RowKit Go.K
attribute [local irreducible] Exit.then Exit.inBlock Exit.noGoto bodyPost Code.wp QL Sx Rx Qx Ex Dx Op1 Pure1 Still1 K.Sub Calm Code.wpIn
attribute [local irreducible] sha total Buf.hp Buf.cap Buf.addr leafS nodeS cutN sumsV
set_option linter.unusedVariables false

set_option maxHeartbeats 4000000 in
theorem walk (w : World) (A : Option Addr) (c : Nat) (v : List UInt8) (hrd : Reads w A v.length (bytesV v)) (hnc : v.length ≤ c) (hcm : c ≤ maxLen) (z : List (List UInt8)) (hz : Sums z) (hz2 : z.length = 2)
    (A2 : Option Addr) (c2 : Nat) (l : List (List UInt8)) (hrd2 : ReadsS w A2 l) (hnc2 : l.length ≤ c2) (hcm2 : c2 ≤ maxLen) :
    Calls Try.prog 10 [.slice A v.length c, .agg (sumsV z).toArray, .slice A2 l.length c2].toArray w fun e w' => e = .returned (.bool true) ∧ Below w.heap.size w w' := by
  obtain ⟨x, y, rfl⟩ : ∃ x y, z = [x, y] := by
    match z, hz2 with
    | [x, y], _ => exact ⟨x, y, rfl⟩
  have hx : x.length = 32 := hz x (by simp)
  have hy : y.length = 32 := hz y (by simp)
  have e1 := leafS_length v
  have e2 := nodeS_length x y
  have e3 := rootS_length l hrd2.1
  refine enter Try.func10 rfl Try.ntmps10 (by simp) ?_
  by_cases hbig : 20000 < v.length
  · have g1 : decide ((20000 : Int) < (v.length : Int)) = true := decide_eq_true (by omega)
    clear hbig
    repeat (first | refine S_scope ?_ | refine S_label ?_ | refine E_noGoto_normal ?_ | refine E_noGoto_ret ?_ | refine E_noGoto_exit ?_ | refine S_yes rfl (by first | with_reducible rfl | decide) ?_ | refine S_no rfl (by first | with_reducible rfl | decide) ?_ | refine S_seq ?_ | refine E_seq ?_ | refine S_block ?_ | refine E_block_normal ?_ | refine S_skip ?_ | refine S_exit ?_ | refine S_ret ?_ | refine E_then_exit ?_ | refine E_then_ret ?_ | refine E_block_ret ?_ | refine E_block_exit ?_ | refine E_block_exit_other rfl ?_)
    refine S_region ?_
    refine R_cons rfl (op_boxRow rfl rfl (Nat.le_refl _) (fun b4 => ?_))
    refine R_cons rfl (op_pure (p_assign rfl) rfl ?_)
    refine R_nil ?_
    repeat (first | refine S_scope ?_ | refine S_label ?_ | refine E_noGoto_normal ?_ | refine E_noGoto_ret ?_ | refine E_noGoto_exit ?_ | refine S_yes rfl (by first | with_reducible rfl | decide) ?_ | refine S_no rfl (by first | with_reducible rfl | decide) ?_ | refine S_seq ?_ | refine E_seq ?_ | refine S_block ?_ | refine E_block_normal ?_ | refine S_skip ?_ | refine S_exit ?_ | refine S_ret ?_ | refine E_then_exit ?_ | refine E_then_ret ?_ | refine E_block_ret ?_ | refine E_block_exit ?_ | refine E_block_exit_other rfl ?_)
    refine S_region ?_
    refine R_cons rfl (op_pure (p_move rfl) rfl ?_)
    refine R_cons rfl (op_pure (p_len rfl slc_u8s) rfl ?_)
    refine R_cons rfl (op_pure (p_bin rfl rfl (b_gtr g1)) rfl ?_)
    refine R_cons rfl (op_pure (p_move rfl) rfl ?_)
    first | refine R_pass rfl rfl rfl rfl ?_ | refine R_pass_undef rfl rfl rfl ?_ | refine R_guard rfl rfl rfl (op_pure (p_move rfl) rfl ?_)
    first | refine R_pass rfl rfl rfl rfl ?_ | refine R_pass_undef rfl rfl rfl ?_ | refine R_guard rfl rfl rfl (op_pure (p_lenR rfl slr_api_Sum) rfl ?_)
    first | refine R_pass rfl rfl rfl rfl ?_ | refine R_pass_undef rfl rfl rfl ?_ | refine R_guard rfl rfl rfl (op_pure (p_bin rfl rfl (b_gtr (by first | assumption | exact decide_eq_true (by omega) | exact decide_eq_false (by omega) | rfl))) rfl ?_)
    refine R_cons rfl (op_pure (by first | exact p_pick_yes rfl rfl | exact p_pick_no rfl rfl | exact p_pick rfl rfl rfl) rfl ?_)
    refine R_nil ?_
    repeat (first | refine S_scope ?_ | refine S_label ?_ | refine E_noGoto_normal ?_ | refine E_noGoto_ret ?_ | refine E_noGoto_exit ?_ | refine S_yes rfl (by first | with_reducible rfl | decide) ?_ | refine S_no rfl (by first | with_reducible rfl | decide) ?_ | refine S_seq ?_ | refine E_seq ?_ | refine S_block ?_ | refine E_block_normal ?_ | refine S_skip ?_ | refine S_exit ?_ | refine S_ret ?_ | refine E_then_exit ?_ | refine E_then_ret ?_ | refine E_block_ret ?_ | refine E_block_exit ?_ | refine E_block_exit_other rfl ?_)
    refine S_region ?_
    refine R_cons rfl (op_pure (p_assign rfl) rfl ?_)
    refine R_nil ?_
    repeat (first | refine S_scope ?_ | refine S_label ?_ | refine E_noGoto_normal ?_ | refine E_noGoto_ret ?_ | refine E_noGoto_exit ?_ | refine S_yes rfl (by first | with_reducible rfl | decide) ?_ | refine S_no rfl (by first | with_reducible rfl | decide) ?_ | refine S_seq ?_ | refine E_seq ?_ | refine S_block ?_ | refine E_block_normal ?_ | refine S_skip ?_ | refine S_exit ?_ | refine S_ret ?_ | refine E_then_exit ?_ | refine E_then_ret ?_ | refine E_block_ret ?_ | refine E_block_exit ?_ | refine E_block_exit_other rfl ?_)
    exact E_ret1 rfl rfl fun w' hm => ⟨rfl, hm.below⟩
  have g1 : decide ((20000 : Int) < (v.length : Int)) = false := decide_eq_false (by omega)
  by_cases hbig2 : 100 < l.length
  · have g2 : decide ((100 : Int) < (l.length : Int)) = true := decide_eq_true (by omega)
    clear hbig hbig2
    repeat (first | refine S_scope ?_ | refine S_label ?_ | refine E_noGoto_normal ?_ | refine E_noGoto_ret ?_ | refine E_noGoto_exit ?_ | refine S_yes rfl (by first | with_reducible rfl | decide) ?_ | refine S_no rfl (by first | with_reducible rfl | decide) ?_ | refine S_seq ?_ | refine E_seq ?_ | refine S_block ?_ | refine E_block_normal ?_ | refine S_skip ?_ | refine S_exit ?_ | refine S_ret ?_ | refine E_then_exit ?_ | refine E_then_ret ?_ | refine E_block_ret ?_ | refine E_block_exit ?_ | refine E_block_exit_other rfl ?_)
    refine S_region ?_
    refine R_cons rfl (op_boxRow rfl rfl (Nat.le_refl _) (fun b4 => ?_))
    refine R_cons rfl (op_pure (p_assign rfl) rfl ?_)
    refine R_nil ?_
    repeat (first | refine S_scope ?_ | refine S_label ?_ | refine E_noGoto_normal ?_ | refine E_noGoto_ret ?_ | refine E_noGoto_exit ?_ | refine S_yes rfl (by first | with_reducible rfl | decide) ?_ | refine S_no rfl (by first | with_reducible rfl | decide) ?_ | refine S_seq ?_ | refine E_seq ?_ | refine S_block ?_ | refine E_block_normal ?_ | refine S_skip ?_ | refine S_exit ?_ | refine S_ret ?_ | refine E_then_exit ?_ | refine E_then_ret ?_ | refine E_block_ret ?_ | refine E_block_exit ?_ | refine E_block_exit_other rfl ?_)
    refine S_region ?_
    refine R_cons rfl (op_pure (p_move rfl) rfl ?_)
    refine R_cons rfl (op_pure (p_len rfl slc_u8s) rfl ?_)
    refine R_cons rfl (op_pure (p_bin rfl rfl (b_gtr g1)) rfl ?_)
    refine R_cons rfl (op_pure (p_move rfl) rfl ?_)
    first | refine R_pass rfl rfl rfl rfl ?_ | refine R_pass_undef rfl rfl rfl ?_ | refine R_guard rfl rfl rfl (op_pure (p_move rfl) rfl ?_)
    first | refine R_pass rfl rfl rfl rfl ?_ | refine R_pass_undef rfl rfl rfl ?_ | refine R_guard rfl rfl rfl (op_pure (p_lenR rfl slr_api_Sum) rfl ?_)
    first | refine R_pass rfl rfl rfl rfl ?_ | refine R_pass_undef rfl rfl rfl ?_ | refine R_guard rfl rfl rfl (op_pure (p_bin rfl rfl (b_gtr g2)) rfl ?_)
    refine R_cons rfl (op_pure (by first | exact p_pick_yes rfl rfl | exact p_pick_no rfl rfl | exact p_pick rfl rfl rfl) rfl ?_)
    refine R_nil ?_
    repeat (first | refine S_scope ?_ | refine S_label ?_ | refine E_noGoto_normal ?_ | refine E_noGoto_ret ?_ | refine E_noGoto_exit ?_ | refine S_yes rfl (by first | with_reducible rfl | decide) ?_ | refine S_no rfl (by first | with_reducible rfl | decide) ?_ | refine S_seq ?_ | refine E_seq ?_ | refine S_block ?_ | refine E_block_normal ?_ | refine S_skip ?_ | refine S_exit ?_ | refine S_ret ?_ | refine E_then_exit ?_ | refine E_then_ret ?_ | refine E_block_ret ?_ | refine E_block_exit ?_ | refine E_block_exit_other rfl ?_)
    refine S_region ?_
    refine R_cons rfl (op_pure (p_assign rfl) rfl ?_)
    refine R_nil ?_
    repeat (first | refine S_scope ?_ | refine S_label ?_ | refine E_noGoto_normal ?_ | refine E_noGoto_ret ?_ | refine E_noGoto_exit ?_ | refine S_yes rfl (by first | with_reducible rfl | decide) ?_ | refine S_no rfl (by first | with_reducible rfl | decide) ?_ | refine S_seq ?_ | refine E_seq ?_ | refine S_block ?_ | refine E_block_normal ?_ | refine S_skip ?_ | refine S_exit ?_ | refine S_ret ?_ | refine E_then_exit ?_ | refine E_then_ret ?_ | refine E_block_ret ?_ | refine E_block_exit ?_ | refine E_block_exit_other rfl ?_)
    exact E_ret1 rfl rfl fun w' hm => ⟨rfl, hm.below⟩
  have g2 : decide ((100 : Int) < (l.length : Int)) = false := decide_eq_false (by omega)
  have hn1 : v.length ≤ 1000000 ∧ v.length ≤ 1000000000 ∧ v.length ≤ 1048576 := by omega
  have hn2 : l.length ≤ 1000 ∧ l.length < 65536 := by omega
  clear hbig hbig2
  repeat (first | refine S_scope ?_ | refine S_label ?_ | refine E_noGoto_normal ?_ | refine E_noGoto_ret ?_ | refine E_noGoto_exit ?_ | refine S_yes rfl (by first | with_reducible rfl | decide) ?_ | refine S_no rfl (by first | with_reducible rfl | decide) ?_ | refine S_seq ?_ | refine E_seq ?_ | refine S_block ?_ | refine E_block_normal ?_ | refine S_skip ?_ | refine S_exit ?_ | refine S_ret ?_ | refine E_then_exit ?_ | refine E_then_ret ?_ | refine E_block_ret ?_ | refine E_block_exit ?_ | refine E_block_exit_other rfl ?_)
  refine S_region ?_
  refine R_cons rfl (op_boxRow rfl rfl (Nat.le_refl _) (fun b4 => ?_))
  refine R_cons rfl (op_pure (p_assign rfl) rfl ?_)
  refine R_nil ?_
  repeat (first | refine S_scope ?_ | refine S_label ?_ | refine E_noGoto_normal ?_ | refine E_noGoto_ret ?_ | refine E_noGoto_exit ?_ | refine S_yes rfl (by first | with_reducible rfl | decide) ?_ | refine S_no rfl (by first | with_reducible rfl | decide) ?_ | refine S_seq ?_ | refine E_seq ?_ | refine S_block ?_ | refine E_block_normal ?_ | refine S_skip ?_ | refine S_exit ?_ | refine S_ret ?_ | refine E_then_exit ?_ | refine E_then_ret ?_ | refine E_block_ret ?_ | refine E_block_exit ?_ | refine E_block_exit_other rfl ?_)
  refine S_region ?_
  refine R_cons rfl (op_pure (p_move rfl) rfl ?_)
  refine R_cons rfl (op_pure (p_len rfl slc_u8s) rfl ?_)
  refine R_cons rfl (op_pure (p_bin rfl rfl (b_gtr g1)) rfl ?_)
  refine R_cons rfl (op_pure (p_move rfl) rfl ?_)
  first | refine R_pass rfl rfl rfl rfl ?_ | refine R_pass_undef rfl rfl rfl ?_ | refine R_guard rfl rfl rfl (op_pure (p_move rfl) rfl ?_)
  first | refine R_pass rfl rfl rfl rfl ?_ | refine R_pass_undef rfl rfl rfl ?_ | refine R_guard rfl rfl rfl (op_pure (p_lenR rfl slr_api_Sum) rfl ?_)
  first | refine R_pass rfl rfl rfl rfl ?_ | refine R_pass_undef rfl rfl rfl ?_ | refine R_guard rfl rfl rfl (op_pure (p_bin rfl rfl (b_gtr g2)) rfl ?_)
  refine R_cons rfl (op_pure (by first | exact p_pick_yes rfl rfl | exact p_pick_no rfl rfl | exact p_pick rfl rfl rfl) rfl ?_)
  refine R_nil ?_
  repeat (first | refine S_scope ?_ | refine S_label ?_ | refine E_noGoto_normal ?_ | refine E_noGoto_ret ?_ | refine E_noGoto_exit ?_ | refine S_yes rfl (by first | with_reducible rfl | decide) ?_ | refine S_no rfl (by first | with_reducible rfl | decide) ?_ | refine S_seq ?_ | refine E_seq ?_ | refine S_block ?_ | refine E_block_normal ?_ | refine S_skip ?_ | refine S_exit ?_ | refine S_ret ?_ | refine E_then_exit ?_ | refine E_then_ret ?_ | refine E_block_ret ?_ | refine E_block_exit ?_ | refine E_block_exit_other rfl ?_)
  refine S_region ?_
  refine R_cons rfl (op_pure (p_move rfl) rfl ?_)
  refine R_cons rfl (op_call rfl rfl Try.func19 rfl (by kernel_rfl) rfl fun w1 hm => (twin_any A v.length c v w1 rfl (hrd.base hm) hn1.2.2).mono ?_)
  rintro e w2 ⟨g, cap, sp, rfl, hg, hgo, hlen, hcapm, hbel⟩
  refine ⟨_, _, rfl, hm.call1 (Nat.le_refl _) hbel hg hgo, ?_⟩
  have hxl := bytesV_length v
  have hxl2 := bytesV_length (v ++ [77])
  simp only [List.length_append, List.length_cons, List.length_nil] at hxl2 hlen
  have hpre : ((bytesV (v ++ [77]) ++ sp).drop 0).take v.length = bytesV v := by rw [List.drop_zero, bytesV_append, List.append_assoc, ← hxl, List.take_left]
  have hpre2 : ((bytesV (v ++ [77]) ++ sp).drop 0).take (v.length + 1) = bytesV (v ++ [77]) := by rw [List.drop_zero, show v.length + 1 = (bytesV (v ++ [77])).length by omega, List.take_left]
  have hfit : 0 + v.length ≤ (bytesV (v ++ [77]) ++ sp).length := by simp only [List.length_append]; omega
  have hfit2 : 0 + (v.length + 1) ≤ (bytesV (v ++ [77]) ++ sp).length := by simp only [List.length_append]; omega
  have hcap1 : v.length + 1 ≤ cap := by omega
  refine R_cons rfl (op_pure (p_assign rfl) rfl ?_)
  refine R_nil ?_
  repeat (first | refine S_scope ?_ | refine S_label ?_ | refine E_noGoto_normal ?_ | refine E_noGoto_ret ?_ | refine E_noGoto_exit ?_ | refine S_yes rfl (by first | with_reducible rfl | decide) ?_ | refine S_no rfl (by first | with_reducible rfl | decide) ?_ | refine S_seq ?_ | refine E_seq ?_ | refine S_block ?_ | refine E_block_normal ?_ | refine S_skip ?_ | refine S_exit ?_ | refine S_ret ?_ | refine E_then_exit ?_ | refine E_then_ret ?_ | refine E_block_ret ?_ | refine E_block_exit ?_ | refine E_block_exit_other rfl ?_)
  refine S_region ?_
  refine R_cons rfl (op_pure (p_move rfl) rfl ?_)
  refine R_cons rfl (op_call rfl rfl Try.func34 rfl (by kernel_rfl) rfl fun w1 hm => (twinSums_any A2 l.length c2 l w1 rfl (hrd2.base hm) hn2.1).mono ?_)
  rintro e w4 ⟨g', cap', sp', rfl, hg', hgo', hlen', hcap', hcapm', hbel'⟩
  refine ⟨_, _, rfl, hm.call1 (Nat.le_refl _) hbel' hg' hgo', ?_⟩
  have hsm : Sums (l ++ [markS]) := hrd2.1.append sums_mark
  have htk : (l ++ [markS]).take l.length = l := List.take_left
  clear hxl hxl2 hlen hg hgo hbel hg' hgo' hbel'
  refine R_cons rfl (op_pure (p_assign rfl) rfl ?_)
  refine R_nil ?_
  repeat (first | refine S_scope ?_ | refine S_label ?_ | refine E_noGoto_normal ?_ | refine E_noGoto_ret ?_ | refine E_noGoto_exit ?_ | refine S_yes rfl (by first | with_reducible rfl | decide) ?_ | refine S_no rfl (by first | with_reducible rfl | decide) ?_ | refine S_seq ?_ | refine E_seq ?_ | refine S_block ?_ | refine E_block_normal ?_ | refine S_skip ?_ | refine S_exit ?_ | refine S_ret ?_ | refine E_then_exit ?_ | refine E_then_ret ?_ | refine E_block_ret ?_ | refine E_block_exit ?_ | refine E_block_exit_other rfl ?_)
  refine S_cut [(6, .bool true)] [] ?_ ?_
  · refine S_drawn (by kernel_rfl) (Fewer.refl _) ?_
    refine D_take 0 rfl (by kernel_rfl) (by kernel_rfl) (by kernel_rfl) (by repeat (first | exact calm_body | exact calm_mid | apply calm_noGoto | exact calm_midE | apply calm_then | apply calm_block)) (p_move rfl) rfl ?_
    refine D_take 2 rfl (by kernel_rfl) (by kernel_rfl) (by kernel_rfl) (by repeat (first | exact calm_body | exact calm_mid | apply calm_noGoto | exact calm_midE | apply calm_then | apply calm_block)) (p_move rfl) rfl ?_
    refine D_only 1 rfl (by kernel_rfl) rfl (op_callV rfl rfl Try.func35 rfl (by kernel_rfl) rfl (Nat.le_refl _) (fun w' hm => leaf_any _ _ cap v w' rfl (hm.reads (by repeat (first | exact List.Mem.head _ | apply List.Mem.tail)) hpre hfit) (by omega) hcapm hn1.2.1) ?_)
    refine ⟨(by repeat (first | exact Fewer.nil | refine Fewer.keep rfl ?_ | refine Fewer.drop ?_)), ?_⟩
    refine D_only 3 rfl (by kernel_rfl) rfl (op_callV rfl rfl Try.func36 rfl (by kernel_rfl) rfl (Nat.le_refl _) (fun w' hm => refLeaf_any A _ c v w' rfl (hrd.base hm) hn1.2.1) ?_)
    refine ⟨(by repeat (first | exact Fewer.nil | refine Fewer.keep rfl ?_ | refine Fewer.drop ?_)), ?_⟩
    refine D_take 4 rfl (by kernel_rfl) (by kernel_rfl) (by kernel_rfl) (by repeat (first | exact calm_body | exact calm_mid | apply calm_noGoto | exact calm_midE | apply calm_then | apply calm_block)) (p_eql_bytesR rfl rfl arr_Sum.1 Try.underlying5 (by kernel_rfl) (by kernel_rfl) e1 e1 (r := true) (beq_self_eq_true _)) rfl ?_
    refine D_take 5 rfl (by kernel_rfl) (by kernel_rfl) (by kernel_rfl) (by repeat (first | exact calm_body | exact calm_mid | apply calm_noGoto | exact calm_midE | apply calm_then | apply calm_block)) (p_move rfl) rfl ?_
    first | refine D_pass 6 rfl (by kernel_rfl) (by kernel_rfl) (by kernel_rfl) (by repeat (first | exact calm_body | exact calm_mid | apply calm_noGoto | exact calm_midE | apply calm_then | apply calm_block)) rfl rfl rfl rfl ?_ | refine D_pass_undef 6 rfl (by kernel_rfl) (by kernel_rfl) (by kernel_rfl) (by repeat (first | exact calm_body | exact calm_mid | apply calm_noGoto | exact calm_midE | apply calm_then | apply calm_block)) rfl rfl rfl ?_ | refine D_take_guard 6 rfl (by kernel_rfl) (by kernel_rfl) (by kernel_rfl) (by repeat (first | exact calm_body | exact calm_mid | apply calm_noGoto | exact calm_midE | apply calm_then | apply calm_block)) rfl rfl (p_indexArrR (j := 0) rfl rfl rfl Try.underlying53 row_Sum (by decide)) rfl ?_
    first | refine D_pass 7 rfl (by kernel_rfl) (by kernel_rfl) (by kernel_rfl) (by repeat (first | exact calm_body | exact calm_mid | apply calm_noGoto | exact calm_midE | apply calm_then | apply calm_block)) rfl rfl rfl rfl ?_ | refine D_pass_undef 7 rfl (by kernel_rfl) (by kernel_rfl) (by kernel_rfl) (by repeat (first | exact calm_body | exact calm_mid | apply calm_noGoto | exact calm_midE | apply calm_then | apply calm_block)) rfl rfl rfl ?_ | refine D_take_guard 7 rfl (by kernel_rfl) (by kernel_rfl) (by kernel_rfl) (by repeat (first | exact calm_body | exact calm_mid | apply calm_noGoto | exact calm_midE | apply calm_then | apply calm_block)) rfl rfl (p_loadR rfl row_Sum (cs := bytesV x) (fun w' hm => (hm.readsS (b := b4) hz (by repeat (first | exact List.Mem.head _ | apply List.Mem.tail))).at_ (j := 0) (by simp))) rfl ?_
    first | refine D_pass 8 rfl (by kernel_rfl) (by kernel_rfl) (by kernel_rfl) (by repeat (first | exact calm_body | exact calm_mid | apply calm_noGoto | exact calm_midE | apply calm_then | apply calm_block)) rfl rfl rfl rfl ?_ | refine D_pass_undef 8 rfl (by kernel_rfl) (by kernel_rfl) (by kernel_rfl) (by repeat (first | exact calm_body | exact calm_mid | apply calm_noGoto | exact calm_midE | apply calm_then | apply calm_block)) rfl rfl rfl ?_ | refine D_take_guard 8 rfl (by kernel_rfl) (by kernel_rfl) (by kernel_rfl) (by repeat (first | exact calm_body | exact calm_mid | apply calm_noGoto | exact calm_midE | apply calm_then | apply calm_block)) rfl rfl (p_indexArrR (j := 1) rfl rfl rfl Try.underlying53 row_Sum (by decide)) rfl ?_
    first | refine D_pass 9 rfl (by kernel_rfl) (by kernel_rfl) (by kernel_rfl) (by repeat (first | exact calm_body | exact calm_mid | apply calm_noGoto | exact calm_midE | apply calm_then | apply calm_block)) rfl rfl rfl rfl ?_ | refine D_pass_undef 9 rfl (by kernel_rfl) (by kernel_rfl) (by kernel_rfl) (by repeat (first | exact calm_body | exact calm_mid | apply calm_noGoto | exact calm_midE | apply calm_then | apply calm_block)) rfl rfl rfl ?_ | refine D_take_guard 9 rfl (by kernel_rfl) (by kernel_rfl) (by kernel_rfl) (by repeat (first | exact calm_body | exact calm_mid | apply calm_noGoto | exact calm_midE | apply calm_then | apply calm_block)) rfl rfl (p_loadR rfl row_Sum (cs := bytesV y) (fun w' hm => (hm.readsS (b := b4) hz (by repeat (first | exact List.Mem.head _ | apply List.Mem.tail))).at_ (j := 1) (by simp))) rfl ?_
    first | refine D_pass 11 rfl (by kernel_rfl) (by kernel_rfl) (by kernel_rfl) (by repeat (first | exact calm_body | exact calm_mid | apply calm_noGoto | exact calm_midE | apply calm_then | apply calm_block)) rfl rfl rfl rfl ?_ | refine D_pass_undef 11 rfl (by kernel_rfl) (by kernel_rfl) (by kernel_rfl) (by repeat (first | exact calm_body | exact calm_mid | apply calm_noGoto | exact calm_midE | apply calm_then | apply calm_block)) rfl rfl rfl ?_ | refine D_take_guard 11 rfl (by kernel_rfl) (by kernel_rfl) (by kernel_rfl) (by repeat (first | exact calm_body | exact calm_mid | apply calm_noGoto | exact calm_midE | apply calm_then | apply calm_block)) rfl rfl (p_indexArrR (j := 0) rfl rfl rfl Try.underlying53 row_Sum (by decide)) rfl ?_
    first | refine D_pass 12 rfl (by kernel_rfl) (by kernel_rfl) (by kernel_rfl) (by repeat (first | exact calm_body | exact calm_mid | apply calm_noGoto | exact calm_midE | apply calm_then | apply calm_block)) rfl rfl rfl rfl ?_ | refine D_pass_undef 12 rfl (by kernel_rfl) (by kernel_rfl) (by kernel_rfl) (by repeat (first | exact calm_body | exact calm_mid | apply calm_noGoto | exact calm_midE | apply calm_then | apply calm_block)) rfl rfl rfl ?_ | refine D_take_guard 12 rfl (by kernel_rfl) (by kernel_rfl) (by kernel_rfl) (by repeat (first | exact calm_body | exact calm_mid | apply calm_noGoto | exact calm_midE | apply calm_then | apply calm_block)) rfl rfl (p_loadR rfl row_Sum (cs := bytesV x) (fun w' hm => (hm.readsS (b := b4) hz (by repeat (first | exact List.Mem.head _ | apply List.Mem.tail))).at_ (j := 0) (by simp))) rfl ?_
    first | refine D_pass 13 rfl (by kernel_rfl) (by kernel_rfl) (by kernel_rfl) (by repeat (first | exact calm_body | exact calm_mid | apply calm_noGoto | exact calm_midE | apply calm_then | apply calm_block)) rfl rfl rfl rfl ?_ | refine D_pass_undef 13 rfl (by kernel_rfl) (by kernel_rfl) (by kernel_rfl) (by repeat (first | exact calm_body | exact calm_mid | apply calm_noGoto | exact calm_midE | apply calm_then | apply calm_block)) rfl rfl rfl ?_ | refine D_take_guard 13 rfl (by kernel_rfl) (by kernel_rfl) (by kernel_rfl) (by repeat (first | exact calm_body | exact calm_mid | apply calm_noGoto | exact calm_midE | apply calm_then | apply calm_block)) rfl rfl (p_indexArrR (j := 1) rfl rfl rfl Try.underlying53 row_Sum (by decide)) rfl ?_
    first | refine D_pass 14 rfl (by kernel_rfl) (by kernel_rfl) (by kernel_rfl) (by repeat (first | exact calm_body | exact calm_mid | apply calm_noGoto | exact calm_midE | apply calm_then | apply calm_block)) rfl rfl rfl rfl ?_ | refine D_pass_undef 14 rfl (by kernel_rfl) (by kernel_rfl) (by kernel_rfl) (by repeat (first | exact calm_body | exact calm_mid | apply calm_noGoto | exact calm_midE | apply calm_then | apply calm_block)) rfl rfl rfl ?_ | refine D_take_guard 14 rfl (by kernel_rfl) (by kernel_rfl) (by kernel_rfl) (by repeat (first | exact calm_body | exact calm_mid | apply calm_noGoto | exact calm_midE | apply calm_then | apply calm_block)) rfl rfl (p_loadR rfl row_Sum (cs := bytesV y) (fun w' hm => (hm.readsS (b := b4) hz (by repeat (first | exact List.Mem.head _ | apply List.Mem.tail))).at_ (j := 1) (by simp))) rfl ?_
    first | refine D_pass 10 rfl (by kernel_rfl) (by kernel_rfl) (by kernel_rfl) (by repeat (first | exact calm_body | exact calm_mid | apply calm_noGoto | exact calm_midE | apply calm_then | apply calm_block)) rfl rfl rfl rfl ?_ | refine D_pass_undef 10 rfl (by kernel_rfl) (by kernel_rfl) (by kernel_rfl) (by repeat (first | exact calm_body | exact calm_mid | apply calm_noGoto | exact calm_midE | apply calm_then | apply calm_block)) rfl rfl rfl ?_ | (refine D_only_guard 10 rfl (by kernel_rfl) rfl rfl rfl (op_callV rfl rfl Try.func37 rfl (by kernel_rfl) rfl (Nat.le_refl _) (fun w' _ => node_any x y hx hy w') ?_); refine ⟨(by repeat (first | exact Fewer.nil | refine Fewer.keep rfl ?_ | refine Fewer.drop ?_)), ?_⟩)
    first | refine D_pass 15 rfl (by kernel_rfl) (by kernel_rfl) (by kernel_rfl) (by repeat (first | exact calm_body | exact calm_mid | apply calm_noGoto | exact calm_midE | apply calm_then | apply calm_block)) rfl rfl rfl rfl ?_ | refine D_pass_undef 15 rfl (by kernel_rfl) (by kernel_rfl) (by kernel_rfl) (by repeat (first | exact calm_body | exact calm_mid | apply calm_noGoto | exact calm_midE | apply calm_then | apply calm_block)) rfl rfl rfl ?_ | (refine D_only_guard 15 rfl (by kernel_rfl) rfl rfl rfl (op_callV rfl rfl Try.func38 rfl (by kernel_rfl) rfl (Nat.le_refl _) (fun w' _ => refNode_any x y hx hy w') ?_); refine ⟨(by repeat (first | exact Fewer.nil | refine Fewer.keep rfl ?_ | refine Fewer.drop ?_)), ?_⟩)
    first | refine D_pass 16 rfl (by kernel_rfl) (by kernel_rfl) (by kernel_rfl) (by repeat (first | exact calm_body | exact calm_mid | apply calm_noGoto | exact calm_midE | apply calm_then | apply calm_block)) rfl rfl rfl rfl ?_ | refine D_pass_undef 16 rfl (by kernel_rfl) (by kernel_rfl) (by kernel_rfl) (by repeat (first | exact calm_body | exact calm_mid | apply calm_noGoto | exact calm_midE | apply calm_then | apply calm_block)) rfl rfl rfl ?_ | refine D_take_guard 16 rfl (by kernel_rfl) (by kernel_rfl) (by kernel_rfl) (by repeat (first | exact calm_body | exact calm_mid | apply calm_noGoto | exact calm_midE | apply calm_then | apply calm_block)) rfl rfl (p_eql_bytesR rfl rfl arr_Sum.1 Try.underlying5 (by kernel_rfl) (by kernel_rfl) e2 e2 (r := true) (beq_self_eq_true _)) rfl ?_
    refine D_take 17 rfl (by kernel_rfl) (by kernel_rfl) (by kernel_rfl) (by repeat (first | exact calm_body | exact calm_mid | apply calm_noGoto | exact calm_midE | apply calm_then | apply calm_block)) (by first | exact p_pick_yes rfl rfl | exact p_pick_no rfl rfl | exact p_pick rfl rfl rfl) rfl ?_
    refine D_take 18 rfl (by kernel_rfl) (by kernel_rfl) (by kernel_rfl) (by repeat (first | exact calm_body | exact calm_mid | apply calm_noGoto | exact calm_midE | apply calm_then | apply calm_block)) (p_move rfl) rfl ?_
    first | refine D_pass 19 rfl (by kernel_rfl) (by kernel_rfl) (by kernel_rfl) (by repeat (first | exact calm_body | exact calm_mid | apply calm_noGoto | exact calm_midE | apply calm_then | apply calm_block)) rfl rfl rfl rfl ?_ | refine D_pass_undef 19 rfl (by kernel_rfl) (by kernel_rfl) (by kernel_rfl) (by repeat (first | exact calm_body | exact calm_mid | apply calm_noGoto | exact calm_midE | apply calm_then | apply calm_block)) rfl rfl rfl ?_ | refine D_take_guard 19 rfl (by kernel_rfl) (by kernel_rfl) (by kernel_rfl) (by repeat (first | exact calm_body | exact calm_mid | apply calm_noGoto | exact calm_midE | apply calm_then | apply calm_block)) rfl rfl (p_move rfl) rfl ?_
    first | refine D_pass 21 rfl (by kernel_rfl) (by kernel_rfl) (by kernel_rfl) (by repeat (first | exact calm_body | exact calm_mid | apply calm_noGoto | exact calm_midE | apply calm_then | apply calm_block)) rfl rfl rfl rfl ?_ | refine D_pass_undef 21 rfl (by kernel_rfl) (by kernel_rfl) (by kernel_rfl) (by repeat (first | exact calm_body | exact calm_mid | apply calm_noGoto | exact calm_midE | apply calm_then | apply calm_block)) rfl rfl rfl ?_ | refine D_take_guard 21 rfl (by kernel_rfl) (by kernel_rfl) (by kernel_rfl) (by repeat (first | exact calm_body | exact calm_mid | apply calm_noGoto | exact calm_midE | apply calm_then | apply calm_block)) rfl rfl (p_move rfl) rfl ?_
    first | refine D_pass 20 rfl (by kernel_rfl) (by kernel_rfl) (by kernel_rfl) (by repeat (first | exact calm_body | exact calm_mid | apply calm_noGoto | exact calm_midE | apply calm_then | apply calm_block)) rfl rfl rfl rfl ?_ | refine D_pass_undef 20 rfl (by kernel_rfl) (by kernel_rfl) (by kernel_rfl) (by repeat (first | exact calm_body | exact calm_mid | apply calm_noGoto | exact calm_midE | apply calm_then | apply calm_block)) rfl rfl rfl ?_ | (refine D_only_guard 20 rfl (by kernel_rfl) rfl rfl rfl (op_callV rfl rfl Try.func39 rfl (by kernel_rfl) rfl (Nat.le_refl _) (fun w' hm => root_any _ _ cap' l w' rfl hn2.2 (by omega) hcapm' (by have h := (hm.readsSp (b := g') (sp := sp') hsm (by repeat (first | exact List.Mem.head _ | apply List.Mem.tail))).head (k := l.length) (by simp); rw [htk] at h; exact h)) ?_); refine ⟨(by repeat (first | exact Fewer.nil | refine Fewer.keep rfl ?_ | refine Fewer.drop ?_)), ?_⟩)
    first | refine D_pass 22 rfl (by kernel_rfl) (by kernel_rfl) (by kernel_rfl) (by repeat (first | exact calm_body | exact calm_mid | apply calm_noGoto | exact calm_midE | apply calm_then | apply calm_block)) rfl rfl rfl rfl ?_ | refine D_pass_undef 22 rfl (by kernel_rfl) (by kernel_rfl) (by kernel_rfl) (by repeat (first | exact calm_body | exact calm_mid | apply calm_noGoto | exact calm_midE | apply calm_then | apply calm_block)) rfl rfl rfl ?_ | (refine D_only_guard 22 rfl (by kernel_rfl) rfl rfl rfl (op_callV rfl rfl Try.func40 rfl (by kernel_rfl) rfl (Nat.le_refl _) (fun w' hm => refRoot_any (l.length + 1) l (by omega) A2 _ c2 w' rfl hn2.2 hnc2 hcm2 (hrd2.base hm)) ?_); refine ⟨(by repeat (first | exact Fewer.nil | refine Fewer.keep rfl ?_ | refine Fewer.drop ?_)), ?_⟩)
    first | refine D_pass 23 rfl (by kernel_rfl) (by kernel_rfl) (by kernel_rfl) (by repeat (first | exact calm_body | exact calm_mid | apply calm_noGoto | exact calm_midE | apply calm_then | apply calm_block)) rfl rfl rfl rfl ?_ | refine D_pass_undef 23 rfl (by kernel_rfl) (by kernel_rfl) (by kernel_rfl) (by repeat (first | exact calm_body | exact calm_mid | apply calm_noGoto | exact calm_midE | apply calm_then | apply calm_block)) rfl rfl rfl ?_ | refine D_take_guard 23 rfl (by kernel_rfl) (by kernel_rfl) (by kernel_rfl) (by repeat (first | exact calm_body | exact calm_mid | apply calm_noGoto | exact calm_midE | apply calm_then | apply calm_block)) rfl rfl (p_eql_bytesR rfl rfl arr_Sum.1 Try.underlying5 (by kernel_rfl) (by kernel_rfl) e3 e3 (r := true) (beq_self_eq_true _)) rfl ?_
    refine D_take 24 rfl (by kernel_rfl) (by kernel_rfl) (by kernel_rfl) (by repeat (first | exact calm_body | exact calm_mid | apply calm_noGoto | exact calm_midE | apply calm_then | apply calm_block)) (by first | exact p_pick_yes rfl rfl | exact p_pick_no rfl rfl | exact p_pick rfl rfl rfl) rfl ?_
    refine D_take 25 rfl (by kernel_rfl) (by kernel_rfl) (by kernel_rfl) (by repeat (first | exact calm_body | exact calm_mid | apply calm_noGoto | exact calm_midE | apply calm_then | apply calm_block)) (p_move rfl) rfl ?_
    first | refine D_pass 26 rfl (by kernel_rfl) (by kernel_rfl) (by kernel_rfl) (by repeat (first | exact calm_body | exact calm_mid | apply calm_noGoto | exact calm_midE | apply calm_then | apply calm_block)) rfl rfl rfl rfl ?_ | refine D_pass_undef 26 rfl (by kernel_rfl) (by kernel_rfl) (by kernel_rfl) (by repeat (first | exact calm_body | exact calm_mid | apply calm_noGoto | exact calm_midE | apply calm_then | apply calm_block)) rfl rfl rfl ?_ | refine D_take_guard 26 rfl (by kernel_rfl) (by kernel_rfl) (by kernel_rfl) (by repeat (first | exact calm_body | exact calm_mid | apply calm_noGoto | exact calm_midE | apply calm_then | apply calm_block)) rfl rfl (p_move rfl) rfl ?_
    first | refine D_pass 27 rfl (by kernel_rfl) (by kernel_rfl) (by kernel_rfl) (by repeat (first | exact calm_body | exact calm_mid | apply calm_noGoto | exact calm_midE | apply calm_then | apply calm_block)) rfl rfl rfl rfl ?_ | refine D_pass_undef 27 rfl (by kernel_rfl) (by kernel_rfl) (by kernel_rfl) (by repeat (first | exact calm_body | exact calm_mid | apply calm_noGoto | exact calm_midE | apply calm_then | apply calm_block)) rfl rfl rfl ?_ | refine D_take_guard 27 rfl (by kernel_rfl) (by kernel_rfl) (by kernel_rfl) (by repeat (first | exact calm_body | exact calm_mid | apply calm_noGoto | exact calm_midE | apply calm_then | apply calm_block)) rfl rfl (p_move rfl) rfl ?_
    first | refine D_pass 28 rfl (by kernel_rfl) (by kernel_rfl) (by kernel_rfl) (by repeat (first | exact calm_body | exact calm_mid | apply calm_noGoto | exact calm_midE | apply calm_then | apply calm_block)) rfl rfl rfl rfl ?_ | refine D_pass_undef 28 rfl (by kernel_rfl) (by kernel_rfl) (by kernel_rfl) (by repeat (first | exact calm_body | exact calm_mid | apply calm_noGoto | exact calm_midE | apply calm_then | apply calm_block)) rfl rfl rfl ?_ | (refine D_only_guard 28 rfl (by kernel_rfl) rfl rfl rfl (op_callV rfl rfl Try.func27 rfl (by kernel_rfl) rfl (Nat.le_refl _) (fun w' hm => left_bytes _ A v.length cap c v w' rfl (hm.reads (by repeat (first | exact List.Mem.head _ | apply List.Mem.tail)) hpre2 hfit2) hcap1 hcapm (hrd.base hm)) ?_); refine ⟨(by repeat (first | exact Fewer.nil | refine Fewer.keep rfl ?_ | refine Fewer.drop ?_)), ?_⟩)
    refine D_take 29 rfl (by kernel_rfl) (by kernel_rfl) (by kernel_rfl) (by repeat (first | exact calm_body | exact calm_mid | apply calm_noGoto | exact calm_midE | apply calm_then | apply calm_block)) (by first | exact p_pick_yes rfl rfl | exact p_pick_no rfl rfl | exact p_pick rfl rfl rfl) rfl ?_
    refine D_take 30 rfl (by kernel_rfl) (by kernel_rfl) (by kernel_rfl) (by repeat (first | exact calm_body | exact calm_mid | apply calm_noGoto | exact calm_midE | apply calm_then | apply calm_block)) (p_move rfl) rfl ?_
    first | refine D_pass 31 rfl (by kernel_rfl) (by kernel_rfl) (by kernel_rfl) (by repeat (first | exact calm_body | exact calm_mid | apply calm_noGoto | exact calm_midE | apply calm_then | apply calm_block)) rfl rfl rfl rfl ?_ | refine D_pass_undef 31 rfl (by kernel_rfl) (by kernel_rfl) (by kernel_rfl) (by repeat (first | exact calm_body | exact calm_mid | apply calm_noGoto | exact calm_midE | apply calm_then | apply calm_block)) rfl rfl rfl ?_ | refine D_take_guard 31 rfl (by kernel_rfl) (by kernel_rfl) (by kernel_rfl) (by repeat (first | exact calm_body | exact calm_mid | apply calm_noGoto | exact calm_midE | apply calm_then | apply calm_block)) rfl rfl (p_move rfl) rfl ?_
    first | refine D_pass 32 rfl (by kernel_rfl) (by kernel_rfl) (by kernel_rfl) (by repeat (first | exact calm_body | exact calm_mid | apply calm_noGoto | exact calm_midE | apply calm_then | apply calm_block)) rfl rfl rfl rfl ?_ | refine D_pass_undef 32 rfl (by kernel_rfl) (by kernel_rfl) (by kernel_rfl) (by repeat (first | exact calm_body | exact calm_mid | apply calm_noGoto | exact calm_midE | apply calm_then | apply calm_block)) rfl rfl rfl ?_ | refine D_take_guard 32 rfl (by kernel_rfl) (by kernel_rfl) (by kernel_rfl) (by repeat (first | exact calm_body | exact calm_mid | apply calm_noGoto | exact calm_midE | apply calm_then | apply calm_block)) rfl rfl (p_move rfl) rfl ?_
    first | refine D_pass 33 rfl (by kernel_rfl) (by kernel_rfl) (by kernel_rfl) (by repeat (first | exact calm_body | exact calm_mid | apply calm_noGoto | exact calm_midE | apply calm_then | apply calm_block)) rfl rfl rfl rfl ?_ | refine D_pass_undef 33 rfl (by kernel_rfl) (by kernel_rfl) (by kernel_rfl) (by repeat (first | exact calm_body | exact calm_mid | apply calm_noGoto | exact calm_midE | apply calm_then | apply calm_block)) rfl rfl rfl ?_ | (refine D_only_guard 33 rfl (by kernel_rfl) rfl rfl rfl (op_callV rfl rfl Try.func41 rfl (by kernel_rfl) rfl (Nat.le_refl _) (fun w' hm => left_sums _ A2 l.length cap' c2 l w' rfl hn2.1 (hm.readsSp (b := g') (sp := sp') hsm (by repeat (first | exact List.Mem.head _ | apply List.Mem.tail))) hcap' hcapm' (hrd2.base hm)) ?_); refine ⟨(by repeat (first | exact Fewer.nil | refine Fewer.keep rfl ?_ | refine Fewer.drop ?_)), ?_⟩)
    refine D_take 34 rfl (by kernel_rfl) (by kernel_rfl) (by kernel_rfl) (by repeat (first | exact calm_body | exact calm_mid | apply calm_noGoto | exact calm_midE | apply calm_then | apply calm_block)) (by first | exact p_pick_yes rfl rfl | exact p_pick_no rfl rfl | exact p_pick rfl rfl rfl) rfl ?_
    refine D_take 35 rfl (by kernel_rfl) (by kernel_rfl) (by kernel_rfl) (by repeat (first | exact calm_body | exact calm_mid | apply calm_noGoto | exact calm_midE | apply calm_then | apply calm_block)) (p_assign rfl) rfl ?_
    refine D_done (by kernel_rfl) ?_
    exact E_mid (by repeat (first | exact Sub.nil | refine Sub.cons rfl ?_)) .nil
  · repeat (first | refine S_scope ?_ | refine S_label ?_ | refine E_noGoto_normal ?_ | refine E_noGoto_ret ?_ | refine E_noGoto_exit ?_ | refine S_yes rfl (by first | with_reducible rfl | decide) ?_ | refine S_no rfl (by first | with_reducible rfl | decide) ?_ | refine S_seq ?_ | refine E_seq ?_ | refine S_block ?_ | refine E_block_normal ?_ | refine S_skip ?_ | refine S_exit ?_ | refine S_ret ?_ | refine E_then_exit ?_ | refine E_then_ret ?_ | refine E_block_ret ?_ | refine E_block_exit ?_ | refine E_block_exit_other rfl ?_)
    exact E_ret1 rfl rfl fun w' hm => ⟨rfl, hm.below⟩

theorem own : ownKnob Try.prog.godebug = none := by kernel_rfl
theorem laidOut : laidOutB Try.prog = true := by kernel_rfl
set_option maxRecDepth 100000 in
theorem lifted (os : Os) (started : os.Started) (H : Type) (enc : TypeId × Value → H) :
    ReturnsInHanded {} Try.checked os 10 .any (Rows.leavesOfSpec.pre6 enc Try.prog Try.f10 Rows.leavesOfRow.domain false) (Rows.leavesOfSpec.post enc Try.prog Try.f10 false true false false) := by
  refine returnsInHanded_of_change (C := Try.checked) own started (by kernel_rfl) Try.func10
    (ChangeSpec.witness6 (enc := enc) (C := Try.checked) false ⟨#[], #[.slice none 0 0, .agg #[.int .u8 0, .int .u8 0, .int .u8 0, .int .u8 0, .int .u8 0, .int .u8 0, .int .u8 0, .int .u8 0, .int .u8 0, .int .u8 0, .int .u8 0, .int .u8 0, .int .u8 0, .int .u8 0, .int .u8 0, .int .u8 0, .int .u8 0, .int .u8 0, .int .u8 0, .int .u8 0, .int .u8 0, .int .u8 0, .int .u8 0, .int .u8 0, .int .u8 0, .int .u8 0, .int .u8 0, .int .u8 0, .int .u8 0, .int .u8 0, .int .u8 0, .int .u8 0, .int .u8 0, .int .u8 0, .int .u8 0, .int .u8 0, .int .u8 0, .int .u8 0, .int .u8 0, .int .u8 0, .int .u8 0, .int .u8 0, .int .u8 0, .int .u8 0, .int .u8 0, .int .u8 0, .int .u8 0, .int .u8 0, .int .u8 0, .int .u8 0, .int .u8 0, .int .u8 0, .int .u8 0, .int .u8 0, .int .u8 0, .int .u8 0, .int .u8 0, .int .u8 0, .int .u8 0, .int .u8 0, .int .u8 0, .int .u8 0, .int .u8 0, .int .u8 0], .slice none 0 0], []⟩ 8 (by kernel_rfl) (by kernel_rfl) (by kernel_rfl) (by kernel_rfl)) ?_
  intro W base args ds gs before hval0 hW hcnd _
  have hval : ∀ (j : Nat) t v, Try.f10.params[j]? = some t → args[j]? = some v → Value.okWide Try.prog W .any base t v := hval0
  have hW' := hW
  obtain ⟨p, q, hA0, hV, rfl, hfz, hnd⟩ := hW
  have hA : DataW.TrodAll enc Try.prog W 0 (fun _ => true) true Try.f10.params.toList args.toList ds p := hA0
  rw [Try.params10] at hA hval
  obtain ⟨v0, vs0, d0, ds0, p0, q0, hargs, rfl, rfl, h0, r0⟩ := trodAll_cons hA
  obtain ⟨v1, vs1, d1, ds1, p1, q1, rfl, rfl, rfl, h1, r1⟩ := trodAll_cons r0
  obtain ⟨v2, vs2, d2, ds2, p2, q2, rfl, rfl, rfl, h2, r2⟩ := trodAll_cons r1
  obtain ⟨rfl, rfl, rfl⟩ := trodAll_nil r2
  obtain rfl : args = #[v0, v1, v2] := by cases args; simp_all
  obtain ⟨rfl, rfl⟩ := trodVars_none hV
  have k0 := h0
  have lt0 : ∀ x ∈ p0, x.block < W.heap.size := by obtain ⟨m, hm⟩ := k0; exact DataW.trod_lt m _ _ _ hm
  have k1 := h1
  have lt1 : ∀ x ∈ p1, x.block < W.heap.size := by obtain ⟨m, hm⟩ := k1; exact DataW.trod_lt m _ _ _ hm
  have k2 := h2
  have lt2 : ∀ x ∈ p2, x.block < W.heap.size := by obtain ⟨m, hm⟩ := k2; exact DataW.trod_lt m _ _ _ hm
  obtain ⟨A0, c0, a0, rfl, rd0, lc0, cm0⟩ := arg_slice Try.underlying32 Try.underlying5 (by kernel_rfl) (hval 0 32 v0 rfl rfl) k0 lt0
  obtain ⟨a1, rfl, ss1, l1⟩ := arg_sumRow Try.underlying53 Try.underlying23 Try.underlying5 (by kernel_rfl) (by kernel_rfl) (by kernel_rfl) (hval 1 53 v1 rfl rfl) k1
  obtain ⟨A2, c2, a2, rfl, rd2, lc2, cm2⟩ := arg_sums Try.underlying51 Try.underlying23 Try.underlying5 (by kernel_rfl) (by kernel_rfl) (hval 2 51 v2 rfl rfl) k2
  clear hA0 hval0
  refine (walk W A0 c0 a0 rd0 lc0 cm0 a1 ss1 l1 A2 c2 a2 rd2 lc2 cm2).mono fun e W' ⟨he, bel⟩ => ?_
  subst he
  exact ⟨_, rfl, _, _, _, [], _, [], hW', trodAll_mk1 (shut_bool Try.underlying4 _), (trodAll_cons_mk (Below.trod laidOut (by kernel_rfl) (of_decide_eq_true (by kernel_rfl)) k0 bel lt0) (trodAll_cons_mk (Below.trod laidOut (by kernel_rfl) (of_decide_eq_true (by kernel_rfl)) k1 bel lt1) (trodAll_cons_mk (Below.trod laidOut (by kernel_rfl) (of_decide_eq_true (by kernel_rfl)) k2 bel lt2) trodAll_mk0))), rfl, bel.frame _, fun h => by cases h⟩
/-- The statement. -/
theorem proved : Rows.LeavesOfSaid :=
  OpenClaim.holds_of_wide 10 Try.f10 rfl rfl rfl rfl rfl rfl rfl ⟨rfl, rfl, rfl, rfl, rfl⟩ rfl rfl rfl rfl rfl (by kernel_rfl) Try.func10 (by kernel_rfl)
    (of_decide_eq_true (by kernel_rfl)) (by unfold Func.isWrapper; first | (rw [if_pos (by decide +kernel)]; kernel_rfl) | (rw [if_neg (by decide +kernel)]; exact ⟨rfl, rfl⟩))
    (fun os started H enc _ => lifted os started H enc)
#print axioms proved
end Go.Proofs.Ythkogneaimjhjaa.leavesOf
