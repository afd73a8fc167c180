
/-
  Proved: two counts on one disk, in two sectors, do nothing to one another, whatever fails. No condition.
-/
import Derived.Test.YtfdlafjifjndeaaRows
import Derived.Test.YtfdlafjifjndeaaCnt7
namespace Go.Proofs.Ytfdlafjifjndeaa.countsApart
open Go.ChangeShapes Go.WideShapes Go.ChangeAt
open Go.RowKit Go.K
attribute [local irreducible] Exit.then Exit.inBlock Exit.noGoto bodyPost Code.wp QL Sx Rx Qx Ex Dx Op1 Pure1 Still1 K.Sub Calm Code.wpIn
set_option linter.unusedVariables false
theorem row_2_uint32 : Row Try.prog 65 2 := ⟨_, Try.underlying65, rfl, by kernel_rfl⟩
theorem zero_2_uint32 : Zr Try.prog 65 ((List.replicate 2 ([Value.int .u32 0])).flatten) := by unfold Zr; kernel_rfl
theorem elr_2_uint32 : ElR Try.prog 65 (.agg ((List.replicate 2 ([Value.int .u32 0])).flatten).toArray) 2 8 := by
  obtain ⟨i, h1, h2, h3, h4⟩ := info_parts (show (Try.prog.info? 65).map (fun i => (i.zero, i.size, i.bytes)) = some (some (.agg ((List.replicate 2 ([Value.int .u32 0])).flatten).toArray), 2, 8) from by kernel_rfl)
  exact ⟨i, h1, h2, h3, h4, rfl⟩
theorem blt_2_uint32 : ∀ parts, Try.prog.built 65 parts = Instr.fill (fun i => some (i * 1, 1)) ((List.replicate 2 ([Value.int .u32 0])).flatten).toArray parts := fun parts => by kernel_rfl
theorem ut_2_uint32 : Try.prog.underlying 65 = some (.array 2 30) := Try.underlying65
theorem arr_2_uint32 : Arr Try.prog 65 2 30 := ⟨Try.underlying65, sc_u32⟩
/-- what stands on the disk, and waits -/
def waitH (bd bs bn cn k0 k1 : Nat) : Nat × Int × Bool × Option (Nat × Nat × List Value) → Hp
  | (k, left, bl, none) => [(bd, .cells (diskC (.slice (some ⟨bs, 0, none⟩) 2 2) (.slice (some ⟨bn, 0, none⟩) 2 cn) (.slice none 0 0) left bl).toArray 113 (0, 0)), (bs, .cells (secV (dks [k, k1]) ++ ([] : List Value)).toArray 115 (0, 0))]
  | (_, left, bl, some (bw, cw, spw)) => [(bd, .cells (diskC (.slice (some ⟨bs, 0, none⟩) 2 2) (.slice (some ⟨bn, 0, none⟩) 2 cn) (.slice (some ⟨bw, 0, none⟩) 1 cw) left bl).toArray 113 (0, 0)), (bs, .cells (secV (dks [k0, k1]) ++ ([] : List Value)).toArray 115 (0, 0)), (bw, .cells ((Value.int .i64 ((0 : Nat) : Int) :: bytesV (toldS (k0 + 1))) ++ spw).toArray 120 (0, 0))]
attribute [local irreducible] digitsB onNat sumU Buf.hp Buf.cap Buf.addr secV toldS getP leftS blownS openedS diskN secT dks

set_option maxHeartbeats 8000000 in
theorem walk (w : World) (A : Option Addr) (c : Nat) (l : List Bool) (hrd : Reads w A l.length (boolsV l)) (hnc : l.length ≤ c) (hcm : c ≤ maxLen) (A2 : Option Addr) (c2 : Nat) (l2 : List Bool) (hrd2 : Reads w A2 l2.length (boolsV l2)) (hnc2 : l2.length ≤ c2) (hcm2 : c2 ≤ maxLen) (by_ : UInt8) :
    Calls Try.prog 10 [.slice A l.length c, .slice A2 l2.length c2, .int .u8 (by_.toNat : Int)].toArray w fun e w' => e = .returned (.bool true) ∧ Below w.heap.size w w' := by
  have hbyl := b_lt by_
  have hcv : IntKind.i64.wrap (by_.toNat : Int) = (by_.toNat : Int) := w_in_i64 (by omega)
  have hr3 : (by_.toNat : Int).tmod 3 = ((by_.toNat % 3 : Nat) : Int) := nat_rem _ 3
  have hL3 : by_.toNat % 3 < 3 := by omega
  generalize by_.toNat % 3 = L at hr3 hL3
  have hS00 := dks_secs [0, 0]
  have hl00 : (dks [0, 0]).length = 2 := dks_length [0, 0]
  have hx00 : (dks [0, 0])[0]? = some (secT 0) := dks_at [0, 0] 0 0 rfl
  have hx01 : (dks [0, 0])[1]? = some (secT 0) := dks_at [0, 0] 1 0 rfl
  refine enter Try.func10 rfl Try.ntmps10 (by simp) ?_
  by_cases hlong : 40 < l.length
  · have g1 : decide ((40 : Int) < (l.length : Int)) = true := decide_eq_true (by omega)
    repeat (first | refine S_scope ?_ | refine S_label ?_ | refine E_noGoto_normal ?_ | refine E_noGoto_ret ?_ | refine E_noGoto_exit ?_ | refine S_yes rfl (by first | with_reducible rfl | decide) ?_ | refine S_no rfl (by first | with_reducible rfl | decide) ?_ | refine S_seq ?_ | refine E_seq ?_ | refine S_block ?_ | refine E_block_normal ?_ | refine S_skip ?_ | refine S_exit ?_ | refine S_ret ?_ | refine E_then_exit ?_ | refine E_then_ret ?_ | refine E_block_ret ?_ | refine E_block_exit ?_ | refine E_block_exit_other rfl ?_)
    refine S_region ?_
    refine R_cons rfl (op_pure (p_assign rfl) rfl ?_)
    refine R_nil ?_
    repeat (first | refine S_scope ?_ | refine S_label ?_ | refine E_noGoto_normal ?_ | refine E_noGoto_ret ?_ | refine E_noGoto_exit ?_ | refine S_yes rfl (by first | with_reducible rfl | decide) ?_ | refine S_no rfl (by first | with_reducible rfl | decide) ?_ | refine S_seq ?_ | refine E_seq ?_ | refine S_block ?_ | refine E_block_normal ?_ | refine S_skip ?_ | refine S_exit ?_ | refine S_ret ?_ | refine E_then_exit ?_ | refine E_then_ret ?_ | refine E_block_ret ?_ | refine E_block_exit ?_ | refine E_block_exit_other rfl ?_)
    refine S_region ?_
    refine R_cons rfl (op_pure (p_move rfl) rfl ?_)
    refine R_cons rfl (op_pure (p_len rfl slc_bool) rfl ?_)
    refine R_cons rfl (op_pure (p_bin rfl rfl (b_gtr g1)) rfl ?_)
    refine R_cons rfl (op_pure (p_move rfl) rfl ?_)
    first | refine R_pass rfl rfl rfl rfl ?_ | refine R_pass_undef rfl rfl rfl ?_ | refine R_guard rfl rfl rfl (op_pure (p_move rfl) rfl ?_)
    first | refine R_pass rfl rfl rfl rfl ?_ | refine R_pass_undef rfl rfl rfl ?_ | refine R_guard rfl rfl rfl (op_pure (p_len rfl slc_bool) rfl ?_)
    first | refine R_pass rfl rfl rfl rfl ?_ | refine R_pass_undef rfl rfl rfl ?_ | refine R_guard rfl rfl rfl (op_pure (p_bin rfl rfl (b_gtr (by first | assumption | exact decide_eq_true (by omega) | exact decide_eq_false (by omega) | rfl))) rfl ?_)
    refine R_cons rfl (op_pure (by first | exact p_pick_yes rfl rfl | exact p_pick_no rfl rfl | exact p_pick rfl rfl rfl) rfl ?_)
    refine R_nil ?_
    repeat (first | refine S_scope ?_ | refine S_label ?_ | refine E_noGoto_normal ?_ | refine E_noGoto_ret ?_ | refine E_noGoto_exit ?_ | refine S_yes rfl (by first | with_reducible rfl | decide) ?_ | refine S_no rfl (by first | with_reducible rfl | decide) ?_ | refine S_seq ?_ | refine E_seq ?_ | refine S_block ?_ | refine E_block_normal ?_ | refine S_skip ?_ | refine S_exit ?_ | refine S_ret ?_ | refine E_then_exit ?_ | refine E_then_ret ?_ | refine E_block_ret ?_ | refine E_block_exit ?_ | refine E_block_exit_other rfl ?_)
    refine S_region ?_
    refine R_cons rfl (op_callV rfl rfl Try.func23 rfl (by kernel_rfl) rfl (Nat.le_refl _) (fun w' _ => lives22 w') ?_)
    refine R_cons rfl (op_pure (p_assign rfl) rfl ?_)
    refine R_nil ?_
    repeat (first | refine S_scope ?_ | refine S_label ?_ | refine E_noGoto_normal ?_ | refine E_noGoto_ret ?_ | refine E_noGoto_exit ?_ | refine S_yes rfl (by first | with_reducible rfl | decide) ?_ | refine S_no rfl (by first | with_reducible rfl | decide) ?_ | refine S_seq ?_ | refine E_seq ?_ | refine S_block ?_ | refine E_block_normal ?_ | refine S_skip ?_ | refine S_exit ?_ | refine S_ret ?_ | refine E_then_exit ?_ | refine E_then_ret ?_ | refine E_block_ret ?_ | refine E_block_exit ?_ | refine E_block_exit_other rfl ?_)
    exact E_ret1 rfl rfl fun w' hm => ⟨rfl, hm.below⟩
  have g1 : decide ((40 : Int) < (l.length : Int)) = false := decide_eq_false (by omega)
  by_cases hlong2 : 100 < l2.length
  · have g2 : decide ((100 : Int) < (l2.length : Int)) = true := decide_eq_true (by omega)
    repeat (first | refine S_scope ?_ | refine S_label ?_ | refine E_noGoto_normal ?_ | refine E_noGoto_ret ?_ | refine E_noGoto_exit ?_ | refine S_yes rfl (by first | with_reducible rfl | decide) ?_ | refine S_no rfl (by first | with_reducible rfl | decide) ?_ | refine S_seq ?_ | refine E_seq ?_ | refine S_block ?_ | refine E_block_normal ?_ | refine S_skip ?_ | refine S_exit ?_ | refine S_ret ?_ | refine E_then_exit ?_ | refine E_then_ret ?_ | refine E_block_ret ?_ | refine E_block_exit ?_ | refine E_block_exit_other rfl ?_)
    refine S_region ?_
    refine R_cons rfl (op_pure (p_assign rfl) rfl ?_)
    refine R_nil ?_
    repeat (first | refine S_scope ?_ | refine S_label ?_ | refine E_noGoto_normal ?_ | refine E_noGoto_ret ?_ | refine E_noGoto_exit ?_ | refine S_yes rfl (by first | with_reducible rfl | decide) ?_ | refine S_no rfl (by first | with_reducible rfl | decide) ?_ | refine S_seq ?_ | refine E_seq ?_ | refine S_block ?_ | refine E_block_normal ?_ | refine S_skip ?_ | refine S_exit ?_ | refine S_ret ?_ | refine E_then_exit ?_ | refine E_then_ret ?_ | refine E_block_ret ?_ | refine E_block_exit ?_ | refine E_block_exit_other rfl ?_)
    refine S_region ?_
    refine R_cons rfl (op_pure (p_move rfl) rfl ?_)
    refine R_cons rfl (op_pure (p_len rfl slc_bool) rfl ?_)
    refine R_cons rfl (op_pure (p_bin rfl rfl (b_gtr g1)) rfl ?_)
    refine R_cons rfl (op_pure (p_move rfl) rfl ?_)
    first | refine R_pass rfl rfl rfl rfl ?_ | refine R_pass_undef rfl rfl rfl ?_ | refine R_guard rfl rfl rfl (op_pure (p_move rfl) rfl ?_)
    first | refine R_pass rfl rfl rfl rfl ?_ | refine R_pass_undef rfl rfl rfl ?_ | refine R_guard rfl rfl rfl (op_pure (p_len rfl slc_bool) rfl ?_)
    first | refine R_pass rfl rfl rfl rfl ?_ | refine R_pass_undef rfl rfl rfl ?_ | refine R_guard rfl rfl rfl (op_pure (p_bin rfl rfl (b_gtr g2)) rfl ?_)
    refine R_cons rfl (op_pure (by first | exact p_pick_yes rfl rfl | exact p_pick_no rfl rfl | exact p_pick rfl rfl rfl) rfl ?_)
    refine R_nil ?_
    repeat (first | refine S_scope ?_ | refine S_label ?_ | refine E_noGoto_normal ?_ | refine E_noGoto_ret ?_ | refine E_noGoto_exit ?_ | refine S_yes rfl (by first | with_reducible rfl | decide) ?_ | refine S_no rfl (by first | with_reducible rfl | decide) ?_ | refine S_seq ?_ | refine E_seq ?_ | refine S_block ?_ | refine E_block_normal ?_ | refine S_skip ?_ | refine S_exit ?_ | refine S_ret ?_ | refine E_then_exit ?_ | refine E_then_ret ?_ | refine E_block_ret ?_ | refine E_block_exit ?_ | refine E_block_exit_other rfl ?_)
    refine S_region ?_
    refine R_cons rfl (op_callV rfl rfl Try.func23 rfl (by kernel_rfl) rfl (Nat.le_refl _) (fun w' _ => lives22 w') ?_)
    refine R_cons rfl (op_pure (p_assign rfl) rfl ?_)
    refine R_nil ?_
    repeat (first | refine S_scope ?_ | refine S_label ?_ | refine E_noGoto_normal ?_ | refine E_noGoto_ret ?_ | refine E_noGoto_exit ?_ | refine S_yes rfl (by first | with_reducible rfl | decide) ?_ | refine S_no rfl (by first | with_reducible rfl | decide) ?_ | refine S_seq ?_ | refine E_seq ?_ | refine S_block ?_ | refine E_block_normal ?_ | refine S_skip ?_ | refine S_exit ?_ | refine S_ret ?_ | refine E_then_exit ?_ | refine E_then_ret ?_ | refine E_block_ret ?_ | refine E_block_exit ?_ | refine E_block_exit_other rfl ?_)
    exact E_ret1 rfl rfl fun w' hm => ⟨rfl, hm.below⟩
  have g2 : decide ((100 : Int) < (l2.length : Int)) = false := decide_eq_false (by omega)
  repeat (first | refine S_scope ?_ | refine S_label ?_ | refine E_noGoto_normal ?_ | refine E_noGoto_ret ?_ | refine E_noGoto_exit ?_ | refine S_yes rfl (by first | with_reducible rfl | decide) ?_ | refine S_no rfl (by first | with_reducible rfl | decide) ?_ | refine S_seq ?_ | refine E_seq ?_ | refine S_block ?_ | refine E_block_normal ?_ | refine S_skip ?_ | refine S_exit ?_ | refine S_ret ?_ | refine E_then_exit ?_ | refine E_then_ret ?_ | refine E_block_ret ?_ | refine E_block_exit ?_ | refine E_block_exit_other rfl ?_)
  refine S_region ?_
  refine R_cons rfl (op_pure (p_assign rfl) rfl ?_)
  refine R_nil ?_
  repeat (first | refine S_scope ?_ | refine S_label ?_ | refine E_noGoto_normal ?_ | refine E_noGoto_ret ?_ | refine E_noGoto_exit ?_ | refine S_yes rfl (by first | with_reducible rfl | decide) ?_ | refine S_no rfl (by first | with_reducible rfl | decide) ?_ | refine S_seq ?_ | refine E_seq ?_ | refine S_block ?_ | refine E_block_normal ?_ | refine S_skip ?_ | refine S_exit ?_ | refine S_ret ?_ | refine E_then_exit ?_ | refine E_then_ret ?_ | refine E_block_ret ?_ | refine E_block_exit ?_ | refine E_block_exit_other rfl ?_)
  refine S_region ?_
  refine R_cons rfl (op_pure (p_move rfl) rfl ?_)
  refine R_cons rfl (op_pure (p_len rfl slc_bool) rfl ?_)
  refine R_cons rfl (op_pure (p_bin rfl rfl (b_gtr g1)) rfl ?_)
  refine R_cons rfl (op_pure (p_move rfl) rfl ?_)
  first | refine R_pass rfl rfl rfl rfl ?_ | refine R_pass_undef rfl rfl rfl ?_ | refine R_guard rfl rfl rfl (op_pure (p_move rfl) rfl ?_)
  first | refine R_pass rfl rfl rfl rfl ?_ | refine R_pass_undef rfl rfl rfl ?_ | refine R_guard rfl rfl rfl (op_pure (p_len rfl slc_bool) rfl ?_)
  first | refine R_pass rfl rfl rfl rfl ?_ | refine R_pass_undef rfl rfl rfl ?_ | refine R_guard rfl rfl rfl (op_pure (p_bin rfl rfl (b_gtr g2)) rfl ?_)
  refine R_cons rfl (op_pure (by first | exact p_pick_yes rfl rfl | exact p_pick_no rfl rfl | exact p_pick rfl rfl rfl) rfl ?_)
  refine R_nil ?_
  repeat (first | refine S_scope ?_ | refine S_label ?_ | refine E_noGoto_normal ?_ | refine E_noGoto_ret ?_ | refine E_noGoto_exit ?_ | refine S_yes rfl (by first | with_reducible rfl | decide) ?_ | refine S_no rfl (by first | with_reducible rfl | decide) ?_ | refine S_seq ?_ | refine E_seq ?_ | refine S_block ?_ | refine E_block_normal ?_ | refine S_skip ?_ | refine S_exit ?_ | refine S_ret ?_ | refine E_then_exit ?_ | refine E_then_ret ?_ | refine E_block_ret ?_ | refine E_block_exit ?_ | refine E_block_exit_other rfl ?_)
  refine S_region ?_
  refine R_cons rfl (op_callNX (fun s : Nat × Nat × Nat × Nat × List Value => Value.tuple ([Value.pointer (some ⟨s.1, 0, none⟩), Value.int .i64 0] : List Value).toArray) (fun s => [(s.1, .cells (diskC (.slice (some ⟨s.2.1, 0, none⟩) 2 2) (.slice (some ⟨s.2.2.1, 0, none⟩) 2 s.2.2.2.1) (.slice none 0 0) (-1) false).toArray 113 (0, 0)), (s.2.1, .cells (secV (List.replicate 2 (List.replicate 64 0)) ++ ([] : List Value)).toArray 115 (0, 0)), (s.2.2.1, .cells (secV (List.replicate 2 (List.replicate 64 0)) ++ s.2.2.2.2).toArray 115 (0, 0))]) (fun _ => True) rfl rfl Try.func19 rfl (by kernel_rfl) rfl (fun w' _ => dnewX 2 (by omega) (by omega) w') (fun s _ => ?_))
  refine R_cons rfl (op_pure (p_move rfl) rfl ?_)
  refine R_cons rfl (op_pure (p_extract (i := 0) rfl rfl) rfl ?_)
  refine R_cons rfl (op_pure (p_extract (i := 1) rfl rfl) rfl ?_)
  refine R_cons rfl (op_pure (p_assign rfl) rfl ?_)
  refine R_cons rfl (op_pure (p_assign rfl) rfl ?_)
  refine R_nil ?_
  repeat (first | refine S_scope ?_ | refine S_label ?_ | refine E_noGoto_normal ?_ | refine E_noGoto_ret ?_ | refine E_noGoto_exit ?_ | refine S_yes rfl (by first | with_reducible rfl | decide) ?_ | refine S_no rfl (by first | with_reducible rfl | decide) ?_ | refine S_seq ?_ | refine E_seq ?_ | refine S_block ?_ | refine E_block_normal ?_ | refine S_skip ?_ | refine S_exit ?_ | refine S_ret ?_ | refine E_then_exit ?_ | refine E_then_ret ?_ | refine E_block_ret ?_ | refine E_block_exit ?_ | refine E_block_exit_other rfl ?_)
  obtain ⟨bd, bs, bn, cn, spn⟩ := s
  dsimp only
  rw [show List.replicate 2 (List.replicate 64 (0 : UInt8)) = dks [0, 0] by unfold dks secT; rfl]
  refine S_region ?_
  refine R_cons rfl (op_pure (p_move rfl) rfl ?_)
  refine R_cons rfl (op_callNX (fun q : Nat => Value.tuple ([Value.pointer (some ⟨q, 0, none⟩), Value.int .i64 0] : List Value).toArray) (fun q => [(q, .cells (cntC 0 bd 0 false).toArray 103 (0, 0))]) (fun _ => True) rfl rfl Try.func20 rfl (by kernel_rfl) rfl (fun w' hm => copenX 0 bd bn 2 _ _ _ _ _ _ _ _ hS00 hl00 0 (by omega) _ hx00 (secT_opened 0 (by omega)) w' (hm.own (bd, _) (by (try simp only [List.cons_append, List.nil_append]); repeat (first | exact List.Mem.head _ | apply List.Mem.tail))).2 (hm.own (bn, _) (by (try simp only [List.cons_append, List.nil_append]); repeat (first | exact List.Mem.head _ | apply List.Mem.tail))).2) (fun bc0 _ => ?_))
  refine R_cons rfl (op_pure (p_move rfl) rfl ?_)
  refine R_cons rfl (op_pure (p_extract (i := 0) rfl rfl) rfl ?_)
  refine R_cons rfl (op_pure (p_extract (i := 1) rfl rfl) rfl ?_)
  refine R_cons rfl (op_pure (p_assign rfl) rfl ?_)
  refine R_cons rfl (op_pure (p_assign rfl) rfl ?_)
  refine R_nil ?_
  repeat (first | refine S_scope ?_ | refine S_label ?_ | refine E_noGoto_normal ?_ | refine E_noGoto_ret ?_ | refine E_noGoto_exit ?_ | refine S_yes rfl (by first | with_reducible rfl | decide) ?_ | refine S_no rfl (by first | with_reducible rfl | decide) ?_ | refine S_seq ?_ | refine E_seq ?_ | refine S_block ?_ | refine E_block_normal ?_ | refine S_skip ?_ | refine S_exit ?_ | refine S_ret ?_ | refine E_then_exit ?_ | refine E_then_ret ?_ | refine E_block_ret ?_ | refine E_block_exit ?_ | refine E_block_exit_other rfl ?_)
  refine S_region ?_
  refine R_cons rfl (op_pure (p_move rfl) rfl ?_)
  refine R_cons rfl (op_callNX (fun q : Nat => Value.tuple ([Value.pointer (some ⟨q, 0, none⟩), Value.int .i64 0] : List Value).toArray) (fun q => [(q, .cells (cntC 0 bd 1 false).toArray 103 (0, 0))]) (fun _ => True) rfl rfl Try.func20 rfl (by kernel_rfl) rfl (fun w' hm => copenX 0 bd bn 2 _ _ _ _ _ _ _ _ hS00 hl00 1 (by omega) _ hx01 (secT_opened 0 (by omega)) w' (hm.own (bd, _) (by (try simp only [List.cons_append, List.nil_append]); repeat (first | exact List.Mem.head _ | apply List.Mem.tail))).2 (hm.own (bn, _) (by (try simp only [List.cons_append, List.nil_append]); repeat (first | exact List.Mem.head _ | apply List.Mem.tail))).2) (fun bc1 _ => ?_))
  refine R_cons rfl (op_pure (p_move rfl) rfl ?_)
  refine R_cons rfl (op_pure (p_extract (i := 0) rfl rfl) rfl ?_)
  refine R_cons rfl (op_pure (p_extract (i := 1) rfl rfl) rfl ?_)
  refine R_cons rfl (op_pure (p_assign rfl) rfl ?_)
  refine R_cons rfl (op_pure (p_assign rfl) rfl ?_)
  refine R_nil ?_
  repeat (first | refine S_scope ?_ | refine S_label ?_ | refine E_noGoto_normal ?_ | refine E_noGoto_ret ?_ | refine E_noGoto_exit ?_ | refine S_yes rfl (by first | with_reducible rfl | decide) ?_ | refine S_no rfl (by first | with_reducible rfl | decide) ?_ | refine S_seq ?_ | refine E_seq ?_ | refine S_block ?_ | refine E_block_normal ?_ | refine S_skip ?_ | refine S_exit ?_ | refine S_ret ?_ | refine E_then_exit ?_ | refine E_then_ret ?_ | refine E_block_ret ?_ | refine E_block_exit ?_ | refine E_block_exit_other rfl ?_)
  refine S_region ?_
  refine R_cons rfl (op_pure (p_move rfl) rfl ?_)
  refine R_cons rfl (op_pure (p_bin rfl rfl (b_neq (by first | assumption | exact bne_iff_ne.2 (by omega) | exact bne_eq_false_iff_eq.2 (by omega) | rfl))) rfl ?_)
  refine R_cons rfl (op_pure (p_move rfl) rfl ?_)
  first | refine R_pass rfl rfl rfl rfl ?_ | refine R_pass_undef rfl rfl rfl ?_ | refine R_guard rfl rfl rfl (op_pure (p_move rfl) rfl ?_)
  first | refine R_pass rfl rfl rfl rfl ?_ | refine R_pass_undef rfl rfl rfl ?_ | refine R_guard rfl rfl rfl (op_pure (p_bin rfl rfl (b_neq (by first | assumption | exact bne_iff_ne.2 (by omega) | exact bne_eq_false_iff_eq.2 (by omega) | rfl))) rfl ?_)
  refine R_cons rfl (op_pure (by first | exact p_pick_yes rfl rfl | exact p_pick_no rfl rfl | exact p_pick rfl rfl rfl) rfl ?_)
  refine R_cons rfl (op_pure (p_move rfl) rfl ?_)
  first | refine R_pass rfl rfl rfl rfl ?_ | refine R_pass_undef rfl rfl rfl ?_ | refine R_guard rfl rfl rfl (op_pure (p_move rfl) rfl ?_)
  first | refine R_pass rfl rfl rfl rfl ?_ | refine R_pass_undef rfl rfl rfl ?_ | refine R_guard rfl rfl rfl (op_pure (p_bin rfl rfl (b_neq (by first | assumption | exact bne_iff_ne.2 (by omega) | exact bne_eq_false_iff_eq.2 (by omega) | rfl))) rfl ?_)
  refine R_cons rfl (op_pure (by first | exact p_pick_yes rfl rfl | exact p_pick_no rfl rfl | exact p_pick rfl rfl rfl) rfl ?_)
  refine R_nil ?_
  repeat (first | refine S_scope ?_ | refine S_label ?_ | refine E_noGoto_normal ?_ | refine E_noGoto_ret ?_ | refine E_noGoto_exit ?_ | refine S_yes rfl (by first | with_reducible rfl | decide) ?_ | refine S_no rfl (by first | with_reducible rfl | decide) ?_ | refine S_seq ?_ | refine E_seq ?_ | refine S_block ?_ | refine E_block_normal ?_ | refine S_skip ?_ | refine S_exit ?_ | refine S_ret ?_ | refine E_then_exit ?_ | refine E_then_ret ?_ | refine E_block_ret ?_ | refine E_block_exit ?_ | refine E_block_exit_other rfl ?_)
  refine S_region ?_
  refine R_cons rfl (op_allocRow zero_2_uint32 rfl (Nat.le_refl _) (fun b13 => ?_))
  refine R_nil ?_
  repeat (first | refine S_scope ?_ | refine S_label ?_ | refine E_noGoto_normal ?_ | refine E_noGoto_ret ?_ | refine E_noGoto_exit ?_ | refine S_yes rfl (by first | with_reducible rfl | decide) ?_ | refine S_no rfl (by first | with_reducible rfl | decide) ?_ | refine S_seq ?_ | refine E_seq ?_ | refine S_block ?_ | refine E_block_normal ?_ | refine S_skip ?_ | refine S_exit ?_ | refine S_ret ?_ | refine E_then_exit ?_ | refine E_then_ret ?_ | refine E_block_ret ?_ | refine E_block_exit ?_ | refine E_block_exit_other rfl ?_)
  refine S_region ?_
  refine R_cons rfl (op_pure (p_assign rfl) rfl ?_)
  refine R_nil ?_
  repeat (first | refine S_scope ?_ | refine S_label ?_ | refine E_noGoto_normal ?_ | refine E_noGoto_ret ?_ | refine E_noGoto_exit ?_ | refine S_yes rfl (by first | with_reducible rfl | decide) ?_ | refine S_no rfl (by first | with_reducible rfl | decide) ?_ | refine S_seq ?_ | refine E_seq ?_ | refine S_block ?_ | refine E_block_normal ?_ | refine S_skip ?_ | refine S_exit ?_ | refine S_ret ?_ | refine E_then_exit ?_ | refine E_then_ret ?_ | refine E_block_ret ?_ | refine E_block_exit ?_ | refine E_block_exit_other rfl ?_)
  refine S_loop (σ := Nat × Nat × Nat) (fun s => [(14, .int .i64 (s.1 : Int)), (13, .pointer (some ⟨b13, 0, none⟩)), (11, .pointer (some ⟨bc1, 0, none⟩)), (9, .pointer (some ⟨bc0, 0, none⟩)), (7, .pointer (some ⟨bd, 0, none⟩)), (2, .int .u8 (by_.toNat : Int)), (1, .slice A2 l2.length c2), (0, .slice A l.length c)])
    (fun s => [(bc0, .cells (cntC s.2.1 bd 0 false).toArray 103 (0, 0)), (bc1, .cells (cntC s.2.2 bd 1 false).toArray 103 (0, 0)), (bd, .cells (diskC (.slice (some ⟨bs, 0, none⟩) 2 2) (.slice (some ⟨bn, 0, none⟩) 2 cn) (.slice none 0 0) (-1) false).toArray 113 (0, 0)), (bs, .cells (secV (dks [s.2.1, s.2.2]) ++ ([] : List Value)).toArray 115 (0, 0)), (bn, .cells (secV (dks [s.2.1, s.2.2]) ++ spn).toArray 115 (0, 0)), (b13, .cells [Value.int .u32 ((s.2.1 : Nat) : Int), Value.int .u32 ((s.2.2 : Nat) : Int)].toArray 65 (0, 0))]) (fun s => s.1 ≤ l.length ∧ s.2.1 ≤ 16 ∧ s.2.2 ≤ 16) (fun s => l.length - s.1) (0, 0, 0) ⟨Nat.zero_le _, Nat.zero_le _, Nat.zero_le _⟩ (by repeat (first | exact Sub.nil | refine Sub.cons rfl ?_)) (by repeat (first | exact Fewer.nil | exact Fewer.refl _ | refine Fewer.pick rfl (by repeat (first | exact Del.here | apply Del.there)) ?_)) ?_
  rintro ⟨i, k0, k1⟩ ⟨hi, hk0, hk1⟩
  dsimp only at hi hk0 hk1 ⊢
  have hS := dks_secs [k0, k1]
  have hl : (dks [k0, k1]).length = 2 := dks_length [k0, k1]
  by_cases hlt : i < l.length
  · have g3 : decide ((i : Int) < (l.length : Int)) = true := decide_eq_true (by omega)
    have hinc : IntKind.i64.wrap ((i : Int) + 1) = ((i + 1 : Nat) : Int) := by rw [w_in_i64 (by omega)]; omega
    obtain ⟨ba, offa, rfl, hbal, hca⟩ := hrd.2 (by omega)
    have hcell := hca i (.bool (l.getD i false)) (boolsV_get hlt)
    repeat (first | refine S_scope ?_ | refine S_label ?_ | refine E_noGoto_normal ?_ | refine E_noGoto_ret ?_ | refine E_noGoto_exit ?_ | refine S_yes rfl (by first | with_reducible rfl | decide) ?_ | refine S_no rfl (by first | with_reducible rfl | decide) ?_ | refine S_seq ?_ | refine E_seq ?_ | refine S_block ?_ | refine E_block_normal ?_ | refine S_skip ?_ | refine S_exit ?_ | refine S_ret ?_ | refine E_then_exit ?_ | refine E_then_ret ?_ | refine E_block_ret ?_ | refine E_block_exit ?_ | refine E_block_exit_other rfl ?_)
    refine S_region ?_
    refine R_cons rfl (op_pure (p_move rfl) rfl ?_)
    refine R_cons rfl (op_pure (p_move rfl) rfl ?_)
    refine R_cons rfl (op_pure (p_len rfl slc_bool) rfl ?_)
    refine R_cons rfl (op_pure (p_bin rfl rfl (b_lss g3)) rfl ?_)
    refine R_nil ?_
    repeat (first | refine S_scope ?_ | refine S_label ?_ | refine E_noGoto_normal ?_ | refine E_noGoto_ret ?_ | refine E_noGoto_exit ?_ | refine S_yes rfl (by first | with_reducible rfl | decide) ?_ | refine S_no rfl (by first | with_reducible rfl | decide) ?_ | refine S_seq ?_ | refine E_seq ?_ | refine S_block ?_ | refine E_block_normal ?_ | refine S_skip ?_ | refine S_exit ?_ | refine S_ret ?_ | refine E_then_exit ?_ | refine E_then_ret ?_ | refine E_block_ret ?_ | refine E_block_exit ?_ | refine E_block_exit_other rfl ?_)
    refine S_region ?_
    refine R_cons rfl (op_pure (p_move rfl) rfl ?_)
    refine R_cons rfl (op_pure (p_assign rfl) rfl ?_)
    refine R_nil ?_
    repeat (first | refine S_scope ?_ | refine S_label ?_ | refine E_noGoto_normal ?_ | refine E_noGoto_ret ?_ | refine E_noGoto_exit ?_ | refine S_yes rfl (by first | with_reducible rfl | decide) ?_ | refine S_no rfl (by first | with_reducible rfl | decide) ?_ | refine S_seq ?_ | refine E_seq ?_ | refine S_block ?_ | refine E_block_normal ?_ | refine S_skip ?_ | refine S_exit ?_ | refine S_ret ?_ | refine E_then_exit ?_ | refine E_then_ret ?_ | refine E_block_ret ?_ | refine E_block_exit ?_ | refine E_block_exit_other rfl ?_)
    refine S_region ?_
    refine R_cons rfl (op_pure (p_assign rfl) rfl ?_)
    refine R_nil ?_
    repeat (first | refine S_scope ?_ | refine S_label ?_ | refine E_noGoto_normal ?_ | refine E_noGoto_ret ?_ | refine E_noGoto_exit ?_ | refine S_yes rfl (by first | with_reducible rfl | decide) ?_ | refine S_no rfl (by first | with_reducible rfl | decide) ?_ | refine S_seq ?_ | refine E_seq ?_ | refine S_block ?_ | refine E_block_normal ?_ | refine S_skip ?_ | refine S_exit ?_ | refine S_ret ?_ | refine E_then_exit ?_ | refine E_then_ret ?_ | refine E_block_ret ?_ | refine E_block_exit ?_ | refine E_block_exit_other rfl ?_)
    refine S_region ?_
    refine R_cons rfl (op_pure (p_move rfl) rfl ?_)
    refine R_cons rfl (op_pure (p_move rfl) rfl ?_)
    refine R_cons rfl (op_pure (p_indexSl (j := i) rfl rfl rfl slc_bool hlt) rfl ?_)
    refine R_cons rfl (op_pure (p_load_base rfl sc_bool hbal (by simp) hcell) rfl ?_)
    refine R_nil ?_
    repeat (first | refine S_scope ?_ | refine S_label ?_ | refine E_noGoto_normal ?_ | refine E_noGoto_ret ?_ | refine E_noGoto_exit ?_ | refine S_yes rfl (by first | with_reducible rfl | decide) ?_ | refine S_no rfl (by first | with_reducible rfl | decide) ?_ | refine S_seq ?_ | refine E_seq ?_ | refine S_block ?_ | refine E_block_normal ?_ | refine S_skip ?_ | refine S_exit ?_ | refine S_ret ?_ | refine E_then_exit ?_ | refine E_then_ret ?_ | refine E_block_ret ?_ | refine E_block_exit ?_ | refine E_block_exit_other rfl ?_)
    cases hbi : l.getD i false with
    | false =>
      by_cases hfull : k0 = 16
      · skip
        have g5 : decide ((k0 : Int) < 16) = false := decide_eq_false (by omega)
        repeat (first | refine S_scope ?_ | refine S_label ?_ | refine E_noGoto_normal ?_ | refine E_noGoto_ret ?_ | refine E_noGoto_exit ?_ | refine S_yes rfl (by first | with_reducible rfl | decide) ?_ | refine S_no rfl (by first | with_reducible rfl | decide) ?_ | refine S_seq ?_ | refine E_seq ?_ | refine S_block ?_ | refine E_block_normal ?_ | refine S_skip ?_ | refine S_exit ?_ | refine S_ret ?_ | refine E_then_exit ?_ | refine E_then_ret ?_ | refine E_block_ret ?_ | refine E_block_exit ?_ | refine E_block_exit_other rfl ?_)
        refine S_region ?_
        refine R_cons rfl (op_pure (p_move rfl) rfl ?_)
        refine R_cons rfl (op_callV rfl rfl Try.func21 rfl (by kernel_rfl) rfl (Nat.le_refl _) (fun w' hm => cnext_no bc0 k0 bd 0 false (by omega) (.inl (by omega)) w' (hm.own (bc0, _) (by (try simp only [List.cons_append, List.nil_append]); repeat (first | exact List.Mem.head _ | apply List.Mem.tail))).2) ?_)
        refine R_cons rfl (op_pure (p_move rfl) rfl ?_)
        refine R_cons rfl (op_pure (p_extract (i := 0) rfl rfl) rfl ?_)
        refine R_cons rfl (op_pure (p_extract (i := 1) rfl rfl) rfl ?_)
        refine R_cons rfl (op_pure (p_assign rfl) rfl ?_)
        refine R_cons rfl (op_pure (p_assign rfl) rfl ?_)
        refine R_nil ?_
        repeat (first | refine S_scope ?_ | refine S_label ?_ | refine E_noGoto_normal ?_ | refine E_noGoto_ret ?_ | refine E_noGoto_exit ?_ | refine S_yes rfl (by first | with_reducible rfl | decide) ?_ | refine S_no rfl (by first | with_reducible rfl | decide) ?_ | refine S_seq ?_ | refine E_seq ?_ | refine S_block ?_ | refine E_block_normal ?_ | refine S_skip ?_ | refine S_exit ?_ | refine S_ret ?_ | refine E_then_exit ?_ | refine E_then_ret ?_ | refine E_block_ret ?_ | refine E_block_exit ?_ | refine E_block_exit_other rfl ?_)
        refine S_region ?_
        refine R_cons rfl (op_pure (p_move rfl) rfl ?_)
        refine R_cons rfl (op_pure (p_indexArr0 (j := 0) rfl rfl rfl arr_2_uint32 (by omega)) rfl ?_)
        refine R_cons rfl (op_pure (p_load rfl sc_u32 (by repeat (first | exact List.Mem.head _ | apply List.Mem.tail)) (by rfl)) rfl ?_)
        refine R_cons rfl (op_pure (p_bin rfl rfl (b_lss g5)) rfl ?_)
        refine R_nil ?_
        repeat (first | refine S_scope ?_ | refine S_label ?_ | refine E_noGoto_normal ?_ | refine E_noGoto_ret ?_ | refine E_noGoto_exit ?_ | refine S_yes rfl (by first | with_reducible rfl | decide) ?_ | refine S_no rfl (by first | with_reducible rfl | decide) ?_ | refine S_seq ?_ | refine E_seq ?_ | refine S_block ?_ | refine E_block_normal ?_ | refine S_skip ?_ | refine S_exit ?_ | refine S_ret ?_ | refine E_then_exit ?_ | refine E_then_ret ?_ | refine E_block_ret ?_ | refine E_block_exit ?_ | refine E_block_exit_other rfl ?_)
        refine S_region ?_
        refine R_cons rfl (op_pure (p_move rfl) rfl ?_)
        refine R_cons rfl (op_pure (p_bin rfl rfl (b_add hinc)) rfl ?_)
        refine R_cons rfl (op_pure (p_assign rfl) rfl ?_)
        refine R_nil ?_
        repeat (first | refine S_scope ?_ | refine S_label ?_ | refine E_noGoto_normal ?_ | refine E_noGoto_ret ?_ | refine E_noGoto_exit ?_ | refine S_yes rfl (by first | with_reducible rfl | decide) ?_ | refine S_no rfl (by first | with_reducible rfl | decide) ?_ | refine S_seq ?_ | refine E_seq ?_ | refine S_block ?_ | refine E_block_normal ?_ | refine S_skip ?_ | refine S_exit ?_ | refine S_ret ?_ | refine E_then_exit ?_ | refine E_then_ret ?_ | refine E_block_ret ?_ | refine E_block_exit ?_ | refine E_block_exit_other rfl ?_)
        exact E_round (s := (i, k0, k1)) (i + 1, k0, k1) (by refine ⟨?_, ?_, ?_⟩ <;> first | omega | (dsimp only; omega)) (by first | omega | (dsimp only; omega)) (by repeat (first | exact Sub.nil | refine Sub.cons rfl ?_)) (by repeat (first | exact Fewer.nil | exact Fewer.refl _ | refine Fewer.pick rfl (by repeat (first | exact Del.here | apply Del.there)) ?_))
      · have hu : k0 < 16 := by omega
        have g5 : decide ((k0 : Int) < 16) = true := decide_eq_true (by omega)
        have g6 : ((k0 : Int) != (k0 : Int)) = false := by simp
        have hk : IntKind.u32.wrap ((k0 : Int) + 1) = ((k0 + 1 : Nat) : Int) := by rw [w_in_u32 (by omega)]; omega
        repeat (first | refine S_scope ?_ | refine S_label ?_ | refine E_noGoto_normal ?_ | refine E_noGoto_ret ?_ | refine E_noGoto_exit ?_ | refine S_yes rfl (by first | with_reducible rfl | decide) ?_ | refine S_no rfl (by first | with_reducible rfl | decide) ?_ | refine S_seq ?_ | refine E_seq ?_ | refine S_block ?_ | refine E_block_normal ?_ | refine S_skip ?_ | refine S_exit ?_ | refine S_ret ?_ | refine E_then_exit ?_ | refine E_then_ret ?_ | refine E_block_ret ?_ | refine E_block_exit ?_ | refine E_block_exit_other rfl ?_)
        refine S_region ?_
        refine R_cons rfl (op_pure (p_move rfl) rfl ?_)
        refine R_cons rfl (op_callX (fun _ : Unit => Value.tuple ([Value.int .u32 ((k0 : Nat) : Int), Value.int .i64 0] : List Value).toArray) (fun _ => [(bc0, .cells (cntC (k0 + 1) bd 0 false).toArray 103 (0, 0)), (bd, .cells (diskC (.slice (some ⟨bs, 0, none⟩) 2 2) (.slice (some ⟨bn, 0, none⟩) 2 cn) (.slice none 0 0) (-1) false).toArray 113 (0, 0)), (bs, .cells (secV ((dks [k0, k1]).set 0 (toldS (k0 + 1))) ++ ([] : List Value)).toArray 115 (0, 0)), (bn, .cells (secV ((dks [k0, k1]).set 0 (toldS (k0 + 1))) ++ spn).toArray 115 (0, 0))]) (fun _ => True) (Hc := [(bc0, .cells (cntC k0 bd 0 false).toArray 103 (0, 0)), (bd, .cells (diskC (.slice (some ⟨bs, 0, none⟩) 2 2) (.slice (some ⟨bn, 0, none⟩) 2 cn) (.slice none 0 0) (-1) false).toArray 113 (0, 0)), (bs, .cells (secV (dks [k0, k1]) ++ ([] : List Value)).toArray 115 (0, 0)), (bn, .cells (secV (dks [k0, k1]) ++ spn).toArray 115 (0, 0))]) (K := [(bc1, .cells (cntC k1 bd 1 false).toArray 103 (0, 0)), (b13, .cells [Value.int .u32 ((k0 : Nat) : Int), Value.int .u32 ((k1 : Nat) : Int)].toArray 65 (0, 0))]) rfl rfl Try.func21 rfl (by kernel_rfl) rfl (by simp only [List.cons_append, List.nil_append, List.append_nil]; (repeat (first | exact List.Perm.refl _ | refine List.Perm.cons _ ?_ | refine (perm_pick (by repeat (first | exact Del.here | apply Del.there))).trans (List.Perm.cons _ ?_)))) (fun w' hm => cnextX bc0 k0 bd bs bn 0 2 2 cn (dks [k0, k1]) (dks [k0, k1]) ([] : List Value) spn hS hS hl hl (by omega) (by omega) hu w' hm) (fun _ _ => ?_))
        refine R_cons rfl (op_pure (p_move rfl) rfl ?_)
        refine R_cons rfl (op_pure (p_extract (i := 0) rfl rfl) rfl ?_)
        refine R_cons rfl (op_pure (p_extract (i := 1) rfl rfl) rfl ?_)
        refine R_cons rfl (op_pure (p_assign rfl) rfl ?_)
        refine R_cons rfl (op_pure (p_assign rfl) rfl ?_)
        refine R_nil ?_
        repeat (first | refine S_scope ?_ | refine S_label ?_ | refine E_noGoto_normal ?_ | refine E_noGoto_ret ?_ | refine E_noGoto_exit ?_ | refine S_yes rfl (by first | with_reducible rfl | decide) ?_ | refine S_no rfl (by first | with_reducible rfl | decide) ?_ | refine S_seq ?_ | refine E_seq ?_ | refine S_block ?_ | refine E_block_normal ?_ | refine S_skip ?_ | refine S_exit ?_ | refine S_ret ?_ | refine E_then_exit ?_ | refine E_then_ret ?_ | refine E_block_ret ?_ | refine E_block_exit ?_ | refine E_block_exit_other rfl ?_)
        rw [dks_set, show [k0, k1].set 0 (k0 + 1) = [k0 + 1, k1] from rfl]
        simp only [List.cons_append, List.nil_append]
        refine S_region ?_
        refine R_cons rfl (op_pure (p_move rfl) rfl ?_)
        refine R_cons rfl (op_pure (p_indexArr0 (j := 0) rfl rfl rfl arr_2_uint32 (by omega)) rfl ?_)
        refine R_cons rfl (op_pure (p_load rfl sc_u32 (by repeat (first | exact List.Mem.head _ | apply List.Mem.tail)) (by rfl)) rfl ?_)
        refine R_cons rfl (op_pure (p_bin rfl rfl (b_lss g5)) rfl ?_)
        refine R_nil ?_
        repeat (first | refine S_scope ?_ | refine S_label ?_ | refine E_noGoto_normal ?_ | refine E_noGoto_ret ?_ | refine E_noGoto_exit ?_ | refine S_yes rfl (by first | with_reducible rfl | decide) ?_ | refine S_no rfl (by first | with_reducible rfl | decide) ?_ | refine S_seq ?_ | refine E_seq ?_ | refine S_block ?_ | refine E_block_normal ?_ | refine S_skip ?_ | refine S_exit ?_ | refine S_ret ?_ | refine E_then_exit ?_ | refine E_then_ret ?_ | refine E_block_ret ?_ | refine E_block_exit ?_ | refine E_block_exit_other rfl ?_)
        refine S_region ?_
        refine R_cons rfl (op_pure (p_move rfl) rfl ?_)
        refine R_cons rfl (op_pure (p_bin rfl rfl (b_neq (by first | assumption | exact bne_iff_ne.2 (by omega) | exact bne_eq_false_iff_eq.2 (by omega) | rfl))) rfl ?_)
        refine R_cons rfl (op_pure (p_move rfl) rfl ?_)
        first | refine R_pass rfl rfl rfl rfl ?_ | refine R_pass_undef rfl rfl rfl ?_ | refine R_guard rfl rfl rfl (op_pure (p_move rfl) rfl ?_)
        first | refine R_pass rfl rfl rfl rfl ?_ | refine R_pass_undef rfl rfl rfl ?_ | refine R_guard rfl rfl rfl (op_pure (p_move rfl) rfl ?_)
        first | refine R_pass rfl rfl rfl rfl ?_ | refine R_pass_undef rfl rfl rfl ?_ | refine R_guard rfl rfl rfl (op_pure (p_indexArr0 (j := 0) rfl rfl rfl arr_2_uint32 (by omega)) rfl ?_)
        first | refine R_pass rfl rfl rfl rfl ?_ | refine R_pass_undef rfl rfl rfl ?_ | refine R_guard rfl rfl rfl (op_pure (p_load rfl sc_u32 (by repeat (first | exact List.Mem.head _ | apply List.Mem.tail)) (by rfl)) rfl ?_)
        first | refine R_pass rfl rfl rfl rfl ?_ | refine R_pass_undef rfl rfl rfl ?_ | refine R_guard rfl rfl rfl (op_pure (p_bin rfl rfl (b_neq g6)) rfl ?_)
        refine R_cons rfl (op_pure (by first | exact p_pick_yes rfl rfl | exact p_pick_no rfl rfl | exact p_pick rfl rfl rfl) rfl ?_)
        refine R_nil ?_
        repeat (first | refine S_scope ?_ | refine S_label ?_ | refine E_noGoto_normal ?_ | refine E_noGoto_ret ?_ | refine E_noGoto_exit ?_ | refine S_yes rfl (by first | with_reducible rfl | decide) ?_ | refine S_no rfl (by first | with_reducible rfl | decide) ?_ | refine S_seq ?_ | refine E_seq ?_ | refine S_block ?_ | refine E_block_normal ?_ | refine S_skip ?_ | refine S_exit ?_ | refine S_ret ?_ | refine E_then_exit ?_ | refine E_then_ret ?_ | refine E_block_ret ?_ | refine E_block_exit ?_ | refine E_block_exit_other rfl ?_)
        refine S_region ?_
        refine R_cons rfl (op_pure (p_move rfl) rfl ?_)
        refine R_cons rfl (op_pure (p_indexArr0 (j := 0) rfl rfl rfl arr_2_uint32 (by omega)) rfl ?_)
        refine R_cons rfl (op_pure (p_load rfl sc_u32 (by repeat (first | exact List.Mem.head _ | apply List.Mem.tail)) (by rfl)) rfl ?_)
        refine R_cons rfl (op_pure (p_bin rfl rfl (b_add hk)) rfl ?_)
        refine R_cons rfl (op_pure (p_indexArr0 (j := 0) rfl rfl rfl arr_2_uint32 (by omega)) rfl ?_)
        refine R_cons rfl (op_store rfl rfl rfl sc_u32 (by repeat (first | exact At.here | apply At.there)) (by exact Nat.le_of_ble_eq_true rfl) ?_)
        refine R_nil ?_
        repeat (first | refine S_scope ?_ | refine S_label ?_ | refine E_noGoto_normal ?_ | refine E_noGoto_ret ?_ | refine E_noGoto_exit ?_ | refine S_yes rfl (by first | with_reducible rfl | decide) ?_ | refine S_no rfl (by first | with_reducible rfl | decide) ?_ | refine S_seq ?_ | refine E_seq ?_ | refine S_block ?_ | refine E_block_normal ?_ | refine S_skip ?_ | refine S_exit ?_ | refine S_ret ?_ | refine E_then_exit ?_ | refine E_then_ret ?_ | refine E_block_ret ?_ | refine E_block_exit ?_ | refine E_block_exit_other rfl ?_)
        refine S_region ?_
        refine R_cons rfl (op_pure (p_move rfl) rfl ?_)
        refine R_cons rfl (op_pure (p_bin rfl rfl (b_add hinc)) rfl ?_)
        refine R_cons rfl (op_pure (p_assign rfl) rfl ?_)
        refine R_nil ?_
        repeat (first | refine S_scope ?_ | refine S_label ?_ | refine E_noGoto_normal ?_ | refine E_noGoto_ret ?_ | refine E_noGoto_exit ?_ | refine S_yes rfl (by first | with_reducible rfl | decide) ?_ | refine S_no rfl (by first | with_reducible rfl | decide) ?_ | refine S_seq ?_ | refine E_seq ?_ | refine S_block ?_ | refine E_block_normal ?_ | refine S_skip ?_ | refine S_exit ?_ | refine S_ret ?_ | refine E_then_exit ?_ | refine E_then_ret ?_ | refine E_block_ret ?_ | refine E_block_exit ?_ | refine E_block_exit_other rfl ?_)
        exact E_round (s := (i, k0, k1)) (i + 1, k0 + 1, k1) (by refine ⟨?_, ?_, ?_⟩ <;> first | omega | (dsimp only; omega)) (by first | omega | (dsimp only; omega)) (by repeat (first | exact Sub.nil | refine Sub.cons rfl ?_)) (by repeat (first | exact Fewer.nil | exact Fewer.refl _ | refine Fewer.pick rfl (by repeat (first | exact Del.here | apply Del.there)) ?_))
    | true =>
      repeat (first | refine S_scope ?_ | refine S_label ?_ | refine E_noGoto_normal ?_ | refine E_noGoto_ret ?_ | refine E_noGoto_exit ?_ | refine S_yes rfl (by first | with_reducible rfl | decide) ?_ | refine S_no rfl (by first | with_reducible rfl | decide) ?_ | refine S_seq ?_ | refine E_seq ?_ | refine S_block ?_ | refine E_block_normal ?_ | refine S_skip ?_ | refine S_exit ?_ | refine S_ret ?_ | refine E_then_exit ?_ | refine E_then_ret ?_ | refine E_block_ret ?_ | refine E_block_exit ?_ | refine E_block_exit_other rfl ?_)
      refine S_region ?_
      refine R_cons rfl (op_pure (p_move rfl) rfl ?_)
      refine R_cons rfl (op_pure (p_assign rfl) rfl ?_)
      refine R_nil ?_
      repeat (first | refine S_scope ?_ | refine S_label ?_ | refine E_noGoto_normal ?_ | refine E_noGoto_ret ?_ | refine E_noGoto_exit ?_ | refine S_yes rfl (by first | with_reducible rfl | decide) ?_ | refine S_no rfl (by first | with_reducible rfl | decide) ?_ | refine S_seq ?_ | refine E_seq ?_ | refine S_block ?_ | refine E_block_normal ?_ | refine S_skip ?_ | refine S_exit ?_ | refine S_ret ?_ | refine E_then_exit ?_ | refine E_then_ret ?_ | refine E_block_ret ?_ | refine E_block_exit ?_ | refine E_block_exit_other rfl ?_)
      refine S_region ?_
      refine R_cons rfl (op_pure (p_assign rfl) rfl ?_)
      refine R_nil ?_
      by_cases hfull : k1 = 16
      · skip
        have g5 : decide ((k1 : Int) < 16) = false := decide_eq_false (by omega)
        repeat (first | refine S_scope ?_ | refine S_label ?_ | refine E_noGoto_normal ?_ | refine E_noGoto_ret ?_ | refine E_noGoto_exit ?_ | refine S_yes rfl (by first | with_reducible rfl | decide) ?_ | refine S_no rfl (by first | with_reducible rfl | decide) ?_ | refine S_seq ?_ | refine E_seq ?_ | refine S_block ?_ | refine E_block_normal ?_ | refine S_skip ?_ | refine S_exit ?_ | refine S_ret ?_ | refine E_then_exit ?_ | refine E_then_ret ?_ | refine E_block_ret ?_ | refine E_block_exit ?_ | refine E_block_exit_other rfl ?_)
        refine S_region ?_
        refine R_cons rfl (op_pure (p_move rfl) rfl ?_)
        refine R_cons rfl (op_callV rfl rfl Try.func21 rfl (by kernel_rfl) rfl (Nat.le_refl _) (fun w' hm => cnext_no bc1 k1 bd 1 false (by omega) (.inl (by omega)) w' (hm.own (bc1, _) (by (try simp only [List.cons_append, List.nil_append]); repeat (first | exact List.Mem.head _ | apply List.Mem.tail))).2) ?_)
        refine R_cons rfl (op_pure (p_move rfl) rfl ?_)
        refine R_cons rfl (op_pure (p_extract (i := 0) rfl rfl) rfl ?_)
        refine R_cons rfl (op_pure (p_extract (i := 1) rfl rfl) rfl ?_)
        refine R_cons rfl (op_pure (p_assign rfl) rfl ?_)
        refine R_cons rfl (op_pure (p_assign rfl) rfl ?_)
        refine R_nil ?_
        repeat (first | refine S_scope ?_ | refine S_label ?_ | refine E_noGoto_normal ?_ | refine E_noGoto_ret ?_ | refine E_noGoto_exit ?_ | refine S_yes rfl (by first | with_reducible rfl | decide) ?_ | refine S_no rfl (by first | with_reducible rfl | decide) ?_ | refine S_seq ?_ | refine E_seq ?_ | refine S_block ?_ | refine E_block_normal ?_ | refine S_skip ?_ | refine S_exit ?_ | refine S_ret ?_ | refine E_then_exit ?_ | refine E_then_ret ?_ | refine E_block_ret ?_ | refine E_block_exit ?_ | refine E_block_exit_other rfl ?_)
        refine S_region ?_
        refine R_cons rfl (op_pure (p_move rfl) rfl ?_)
        refine R_cons rfl (op_pure (p_indexArr0 (j := 1) rfl rfl rfl arr_2_uint32 (by omega)) rfl ?_)
        refine R_cons rfl (op_pure (p_load rfl sc_u32 (by repeat (first | exact List.Mem.head _ | apply List.Mem.tail)) (by rfl)) rfl ?_)
        refine R_cons rfl (op_pure (p_bin rfl rfl (b_lss g5)) rfl ?_)
        refine R_nil ?_
        repeat (first | refine S_scope ?_ | refine S_label ?_ | refine E_noGoto_normal ?_ | refine E_noGoto_ret ?_ | refine E_noGoto_exit ?_ | refine S_yes rfl (by first | with_reducible rfl | decide) ?_ | refine S_no rfl (by first | with_reducible rfl | decide) ?_ | refine S_seq ?_ | refine E_seq ?_ | refine S_block ?_ | refine E_block_normal ?_ | refine S_skip ?_ | refine S_exit ?_ | refine S_ret ?_ | refine E_then_exit ?_ | refine E_then_ret ?_ | refine E_block_ret ?_ | refine E_block_exit ?_ | refine E_block_exit_other rfl ?_)
        refine S_region ?_
        refine R_cons rfl (op_pure (p_move rfl) rfl ?_)
        refine R_cons rfl (op_pure (p_bin rfl rfl (b_add hinc)) rfl ?_)
        refine R_cons rfl (op_pure (p_assign rfl) rfl ?_)
        refine R_nil ?_
        repeat (first | refine S_scope ?_ | refine S_label ?_ | refine E_noGoto_normal ?_ | refine E_noGoto_ret ?_ | refine E_noGoto_exit ?_ | refine S_yes rfl (by first | with_reducible rfl | decide) ?_ | refine S_no rfl (by first | with_reducible rfl | decide) ?_ | refine S_seq ?_ | refine E_seq ?_ | refine S_block ?_ | refine E_block_normal ?_ | refine S_skip ?_ | refine S_exit ?_ | refine S_ret ?_ | refine E_then_exit ?_ | refine E_then_ret ?_ | refine E_block_ret ?_ | refine E_block_exit ?_ | refine E_block_exit_other rfl ?_)
        exact E_round (s := (i, k0, k1)) (i + 1, k0, k1) (by refine ⟨?_, ?_, ?_⟩ <;> first | omega | (dsimp only; omega)) (by first | omega | (dsimp only; omega)) (by repeat (first | exact Sub.nil | refine Sub.cons rfl ?_)) (by repeat (first | exact Fewer.nil | exact Fewer.refl _ | refine Fewer.pick rfl (by repeat (first | exact Del.here | apply Del.there)) ?_))
      · have hu : k1 < 16 := by omega
        have g5 : decide ((k1 : Int) < 16) = true := decide_eq_true (by omega)
        have g6 : ((k1 : Int) != (k1 : Int)) = false := by simp
        have hk : IntKind.u32.wrap ((k1 : Int) + 1) = ((k1 + 1 : Nat) : Int) := by rw [w_in_u32 (by omega)]; omega
        repeat (first | refine S_scope ?_ | refine S_label ?_ | refine E_noGoto_normal ?_ | refine E_noGoto_ret ?_ | refine E_noGoto_exit ?_ | refine S_yes rfl (by first | with_reducible rfl | decide) ?_ | refine S_no rfl (by first | with_reducible rfl | decide) ?_ | refine S_seq ?_ | refine E_seq ?_ | refine S_block ?_ | refine E_block_normal ?_ | refine S_skip ?_ | refine S_exit ?_ | refine S_ret ?_ | refine E_then_exit ?_ | refine E_then_ret ?_ | refine E_block_ret ?_ | refine E_block_exit ?_ | refine E_block_exit_other rfl ?_)
        refine S_region ?_
        refine R_cons rfl (op_pure (p_move rfl) rfl ?_)
        refine R_cons rfl (op_callX (fun _ : Unit => Value.tuple ([Value.int .u32 ((k1 : Nat) : Int), Value.int .i64 0] : List Value).toArray) (fun _ => [(bc1, .cells (cntC (k1 + 1) bd 1 false).toArray 103 (0, 0)), (bd, .cells (diskC (.slice (some ⟨bs, 0, none⟩) 2 2) (.slice (some ⟨bn, 0, none⟩) 2 cn) (.slice none 0 0) (-1) false).toArray 113 (0, 0)), (bs, .cells (secV ((dks [k0, k1]).set 1 (toldS (k1 + 1))) ++ ([] : List Value)).toArray 115 (0, 0)), (bn, .cells (secV ((dks [k0, k1]).set 1 (toldS (k1 + 1))) ++ spn).toArray 115 (0, 0))]) (fun _ => True) (Hc := [(bc1, .cells (cntC k1 bd 1 false).toArray 103 (0, 0)), (bd, .cells (diskC (.slice (some ⟨bs, 0, none⟩) 2 2) (.slice (some ⟨bn, 0, none⟩) 2 cn) (.slice none 0 0) (-1) false).toArray 113 (0, 0)), (bs, .cells (secV (dks [k0, k1]) ++ ([] : List Value)).toArray 115 (0, 0)), (bn, .cells (secV (dks [k0, k1]) ++ spn).toArray 115 (0, 0))]) (K := [(bc0, .cells (cntC k0 bd 0 false).toArray 103 (0, 0)), (b13, .cells [Value.int .u32 ((k0 : Nat) : Int), Value.int .u32 ((k1 : Nat) : Int)].toArray 65 (0, 0))]) rfl rfl Try.func21 rfl (by kernel_rfl) rfl (by simp only [List.cons_append, List.nil_append, List.append_nil]; (repeat (first | exact List.Perm.refl _ | refine List.Perm.cons _ ?_ | refine (perm_pick (by repeat (first | exact Del.here | apply Del.there))).trans (List.Perm.cons _ ?_)))) (fun w' hm => cnextX bc1 k1 bd bs bn 1 2 2 cn (dks [k0, k1]) (dks [k0, k1]) ([] : List Value) spn hS hS hl hl (by omega) (by omega) hu w' hm) (fun _ _ => ?_))
        refine R_cons rfl (op_pure (p_move rfl) rfl ?_)
        refine R_cons rfl (op_pure (p_extract (i := 0) rfl rfl) rfl ?_)
        refine R_cons rfl (op_pure (p_extract (i := 1) rfl rfl) rfl ?_)
        refine R_cons rfl (op_pure (p_assign rfl) rfl ?_)
        refine R_cons rfl (op_pure (p_assign rfl) rfl ?_)
        refine R_nil ?_
        repeat (first | refine S_scope ?_ | refine S_label ?_ | refine E_noGoto_normal ?_ | refine E_noGoto_ret ?_ | refine E_noGoto_exit ?_ | refine S_yes rfl (by first | with_reducible rfl | decide) ?_ | refine S_no rfl (by first | with_reducible rfl | decide) ?_ | refine S_seq ?_ | refine E_seq ?_ | refine S_block ?_ | refine E_block_normal ?_ | refine S_skip ?_ | refine S_exit ?_ | refine S_ret ?_ | refine E_then_exit ?_ | refine E_then_ret ?_ | refine E_block_ret ?_ | refine E_block_exit ?_ | refine E_block_exit_other rfl ?_)
        rw [dks_set, show [k0, k1].set 1 (k1 + 1) = [k0, k1 + 1] from rfl]
        simp only [List.cons_append, List.nil_append]
        refine S_region ?_
        refine R_cons rfl (op_pure (p_move rfl) rfl ?_)
        refine R_cons rfl (op_pure (p_indexArr0 (j := 1) rfl rfl rfl arr_2_uint32 (by omega)) rfl ?_)
        refine R_cons rfl (op_pure (p_load rfl sc_u32 (by repeat (first | exact List.Mem.head _ | apply List.Mem.tail)) (by rfl)) rfl ?_)
        refine R_cons rfl (op_pure (p_bin rfl rfl (b_lss g5)) rfl ?_)
        refine R_nil ?_
        repeat (first | refine S_scope ?_ | refine S_label ?_ | refine E_noGoto_normal ?_ | refine E_noGoto_ret ?_ | refine E_noGoto_exit ?_ | refine S_yes rfl (by first | with_reducible rfl | decide) ?_ | refine S_no rfl (by first | with_reducible rfl | decide) ?_ | refine S_seq ?_ | refine E_seq ?_ | refine S_block ?_ | refine E_block_normal ?_ | refine S_skip ?_ | refine S_exit ?_ | refine S_ret ?_ | refine E_then_exit ?_ | refine E_then_ret ?_ | refine E_block_ret ?_ | refine E_block_exit ?_ | refine E_block_exit_other rfl ?_)
        refine S_region ?_
        refine R_cons rfl (op_pure (p_move rfl) rfl ?_)
        refine R_cons rfl (op_pure (p_bin rfl rfl (b_neq (by first | assumption | exact bne_iff_ne.2 (by omega) | exact bne_eq_false_iff_eq.2 (by omega) | rfl))) rfl ?_)
        refine R_cons rfl (op_pure (p_move rfl) rfl ?_)
        first | refine R_pass rfl rfl rfl rfl ?_ | refine R_pass_undef rfl rfl rfl ?_ | refine R_guard rfl rfl rfl (op_pure (p_move rfl) rfl ?_)
        first | refine R_pass rfl rfl rfl rfl ?_ | refine R_pass_undef rfl rfl rfl ?_ | refine R_guard rfl rfl rfl (op_pure (p_move rfl) rfl ?_)
        first | refine R_pass rfl rfl rfl rfl ?_ | refine R_pass_undef rfl rfl rfl ?_ | refine R_guard rfl rfl rfl (op_pure (p_indexArr0 (j := 1) rfl rfl rfl arr_2_uint32 (by omega)) rfl ?_)
        first | refine R_pass rfl rfl rfl rfl ?_ | refine R_pass_undef rfl rfl rfl ?_ | refine R_guard rfl rfl rfl (op_pure (p_load rfl sc_u32 (by repeat (first | exact List.Mem.head _ | apply List.Mem.tail)) (by rfl)) rfl ?_)
        first | refine R_pass rfl rfl rfl rfl ?_ | refine R_pass_undef rfl rfl rfl ?_ | refine R_guard rfl rfl rfl (op_pure (p_bin rfl rfl (b_neq g6)) rfl ?_)
        refine R_cons rfl (op_pure (by first | exact p_pick_yes rfl rfl | exact p_pick_no rfl rfl | exact p_pick rfl rfl rfl) rfl ?_)
        refine R_nil ?_
        repeat (first | refine S_scope ?_ | refine S_label ?_ | refine E_noGoto_normal ?_ | refine E_noGoto_ret ?_ | refine E_noGoto_exit ?_ | refine S_yes rfl (by first | with_reducible rfl | decide) ?_ | refine S_no rfl (by first | with_reducible rfl | decide) ?_ | refine S_seq ?_ | refine E_seq ?_ | refine S_block ?_ | refine E_block_normal ?_ | refine S_skip ?_ | refine S_exit ?_ | refine S_ret ?_ | refine E_then_exit ?_ | refine E_then_ret ?_ | refine E_block_ret ?_ | refine E_block_exit ?_ | refine E_block_exit_other rfl ?_)
        refine S_region ?_
        refine R_cons rfl (op_pure (p_move rfl) rfl ?_)
        refine R_cons rfl (op_pure (p_indexArr0 (j := 1) rfl rfl rfl arr_2_uint32 (by omega)) rfl ?_)
        refine R_cons rfl (op_pure (p_load rfl sc_u32 (by repeat (first | exact List.Mem.head _ | apply List.Mem.tail)) (by rfl)) rfl ?_)
        refine R_cons rfl (op_pure (p_bin rfl rfl (b_add hk)) rfl ?_)
        refine R_cons rfl (op_pure (p_indexArr0 (j := 1) rfl rfl rfl arr_2_uint32 (by omega)) rfl ?_)
        refine R_cons rfl (op_store rfl rfl rfl sc_u32 (by repeat (first | exact At.here | apply At.there)) (by exact Nat.le_of_ble_eq_true rfl) ?_)
        refine R_nil ?_
        repeat (first | refine S_scope ?_ | refine S_label ?_ | refine E_noGoto_normal ?_ | refine E_noGoto_ret ?_ | refine E_noGoto_exit ?_ | refine S_yes rfl (by first | with_reducible rfl | decide) ?_ | refine S_no rfl (by first | with_reducible rfl | decide) ?_ | refine S_seq ?_ | refine E_seq ?_ | refine S_block ?_ | refine E_block_normal ?_ | refine S_skip ?_ | refine S_exit ?_ | refine S_ret ?_ | refine E_then_exit ?_ | refine E_then_ret ?_ | refine E_block_ret ?_ | refine E_block_exit ?_ | refine E_block_exit_other rfl ?_)
        refine S_region ?_
        refine R_cons rfl (op_pure (p_move rfl) rfl ?_)
        refine R_cons rfl (op_pure (p_bin rfl rfl (b_add hinc)) rfl ?_)
        refine R_cons rfl (op_pure (p_assign rfl) rfl ?_)
        refine R_nil ?_
        repeat (first | refine S_scope ?_ | refine S_label ?_ | refine E_noGoto_normal ?_ | refine E_noGoto_ret ?_ | refine E_noGoto_exit ?_ | refine S_yes rfl (by first | with_reducible rfl | decide) ?_ | refine S_no rfl (by first | with_reducible rfl | decide) ?_ | refine S_seq ?_ | refine E_seq ?_ | refine S_block ?_ | refine E_block_normal ?_ | refine S_skip ?_ | refine S_exit ?_ | refine S_ret ?_ | refine E_then_exit ?_ | refine E_then_ret ?_ | refine E_block_ret ?_ | refine E_block_exit ?_ | refine E_block_exit_other rfl ?_)
        exact E_round (s := (i, k0, k1)) (i + 1, k0, k1 + 1) (by refine ⟨?_, ?_, ?_⟩ <;> first | omega | (dsimp only; omega)) (by first | omega | (dsimp only; omega)) (by repeat (first | exact Sub.nil | refine Sub.cons rfl ?_)) (by repeat (first | exact Fewer.nil | exact Fewer.refl _ | refine Fewer.pick rfl (by repeat (first | exact Del.here | apply Del.there)) ?_))
  have g3 : decide ((i : Int) < (l.length : Int)) = false := decide_eq_false (by omega)
  clear hlt hi hrd
  repeat (first | refine S_scope ?_ | refine S_label ?_ | refine E_noGoto_normal ?_ | refine E_noGoto_ret ?_ | refine E_noGoto_exit ?_ | refine S_yes rfl (by first | with_reducible rfl | decide) ?_ | refine S_no rfl (by first | with_reducible rfl | decide) ?_ | refine S_seq ?_ | refine E_seq ?_ | refine S_block ?_ | refine E_block_normal ?_ | refine S_skip ?_ | refine S_exit ?_ | refine S_ret ?_ | refine E_then_exit ?_ | refine E_then_ret ?_ | refine E_block_ret ?_ | refine E_block_exit ?_ | refine E_block_exit_other rfl ?_)
  refine S_region ?_
  refine R_cons rfl (op_pure (p_move rfl) rfl ?_)
  refine R_cons rfl (op_pure (p_move rfl) rfl ?_)
  refine R_cons rfl (op_pure (p_len rfl slc_bool) rfl ?_)
  refine R_cons rfl (op_pure (p_bin rfl rfl (b_lss g3)) rfl ?_)
  refine R_nil ?_
  repeat (first | refine S_scope ?_ | refine S_label ?_ | refine E_noGoto_normal ?_ | refine E_noGoto_ret ?_ | refine E_noGoto_exit ?_ | refine S_yes rfl (by first | with_reducible rfl | decide) ?_ | refine S_no rfl (by first | with_reducible rfl | decide) ?_ | refine S_seq ?_ | refine E_seq ?_ | refine S_block ?_ | refine E_block_normal ?_ | refine S_skip ?_ | refine S_exit ?_ | refine S_ret ?_ | refine E_then_exit ?_ | refine E_then_ret ?_ | refine E_block_ret ?_ | refine E_block_exit ?_ | refine E_block_exit_other rfl ?_)
  refine S_region ?_
  refine R_cons rfl (op_pure (p_move rfl) rfl ?_)
  refine R_cons rfl (op_pure (p_move rfl) rfl ?_)
  refine R_cons rfl (op_pure (p_convert rfl sc_u8 ik_int hcv) rfl ?_)
  refine R_cons rfl (op_pure (p_bin rfl rfl (b_rem (by decide) hr3)) rfl ?_)
  refine R_cons rfl (op_callX (fun _ : Unit => Value.int .i64 0) (fun _ => [(bd, .cells (diskC (.slice (some ⟨bs, 0, none⟩) 2 2) (.slice (some ⟨bn, 0, none⟩) 2 cn) (.slice none 0 0) ((L : Nat) : Int) false).toArray 113 (0, 0))]) (fun _ => True) (Hc := [(bd, .cells (diskC (.slice (some ⟨bs, 0, none⟩) 2 2) (.slice (some ⟨bn, 0, none⟩) 2 cn) (.slice none 0 0) (-1) false).toArray 113 (0, 0))]) (K := [(bc0, .cells (cntC k0 bd 0 false).toArray 103 (0, 0)), (bc1, .cells (cntC k1 bd 1 false).toArray 103 (0, 0)), (bs, .cells (secV (dks [k0, k1]) ++ ([] : List Value)).toArray 115 (0, 0)), (bn, .cells (secV (dks [k0, k1]) ++ spn).toArray 115 (0, 0)), (b13, .cells [Value.int .u32 ((k0 : Nat) : Int), Value.int .u32 ((k1 : Nat) : Int)].toArray 65 (0, 0))]) rfl rfl Try.func25 rfl (by kernel_rfl) rfl (by simp only [List.cons_append, List.nil_append, List.append_nil]; (repeat (first | exact List.Perm.refl _ | refine List.Perm.cons _ ?_ | refine (perm_pick (by repeat (first | exact Del.here | apply Del.there))).trans (List.Perm.cons _ ?_)))) (fun w' hm => dfuse_any bd 2 2 _ _ _ (-1) false (by omega) ((L : Nat) : Int) w' hm) (fun _ _ => ?_))
  refine R_nil ?_
  repeat (first | refine S_scope ?_ | refine S_label ?_ | refine E_noGoto_normal ?_ | refine E_noGoto_ret ?_ | refine E_noGoto_exit ?_ | refine S_yes rfl (by first | with_reducible rfl | decide) ?_ | refine S_no rfl (by first | with_reducible rfl | decide) ?_ | refine S_seq ?_ | refine E_seq ?_ | refine S_block ?_ | refine E_block_normal ?_ | refine S_skip ?_ | refine S_exit ?_ | refine S_ret ?_ | refine E_then_exit ?_ | refine E_then_ret ?_ | refine E_block_ret ?_ | refine E_block_exit ?_ | refine E_block_exit_other rfl ?_)
  simp only [List.cons_append, List.nil_append]
  refine S_cutE (σ := Nat × Int × Bool × Option (Nat × Nat × List Value)) (fun _ => [(13, .pointer (some ⟨b13, 0, none⟩)), (7, .pointer (some ⟨bd, 0, none⟩)), (1, .slice A2 l2.length c2)]) (fun s => waitH bd bs bn cn k0 k1 s ++ [(b13, .cells [Value.int .u32 ((k0 : Nat) : Int), Value.int .u32 ((k1 : Nat) : Int)].toArray 65 (0, 0))])
    (fun s => k0 ≤ s.1 ∧ s.1 ≤ k0 + 1 ∧ s.1 ≤ 16 ∧ ∀ q, s.2.2.2 = some q → 1 ≤ q.2.1 ∧ k0 < 16) ?_ ?_
  · by_cases hfull : k0 = 16
    · skip
      refine S_region ?_
      refine R_cons rfl (op_pure (p_move rfl) rfl ?_)
      refine R_cons rfl (op_callV rfl rfl Try.func21 rfl (by kernel_rfl) rfl (Nat.le_refl _) (fun w' hm => cnext_no bc0 k0 bd 0 false (by omega) (.inl (by omega)) w' (hm.own (bc0, _) (by (try simp only [List.cons_append, List.nil_append]); repeat (first | exact List.Mem.head _ | apply List.Mem.tail))).2) ?_)
      refine R_nil ?_
      exact E_midE (k0, (L : Int), false, none) (by refine ⟨?_, ?_, ?_, fun q h => by cases h⟩ <;> first | omega | (dsimp only; omega)) (by repeat (first | exact Sub.nil | refine Sub.cons rfl ?_)) (by dsimp only [waitH, List.cons_append, List.nil_append]; exact (by repeat (first | exact Fewer.nil | exact Fewer.refl _ | refine Fewer.pick rfl (by repeat (first | exact Del.here | apply Del.there)) ?_)))
    have hu : k0 < 16 := by omega
    have hdk : (dks [k0, k1]).set 0 (toldS (k0 + 1)) = dks [k0 + 1, k1] := dks_set [k0, k1] 0 k0
    have hc : L = 0 ∨ L = 1 ∨ L = 2 := by omega
    rcases hc with rfl | rfl | rfl
    · skip
      refine S_region ?_
      refine R_cons rfl (op_pure (p_move rfl) rfl ?_)
      refine R_cons rfl (op_callX (fun _ : Unit => (Value.tuple ([Value.int .u32 0, Value.int .i64 9] : List Value).toArray)) (fun _ => [(bc0, .cells (cntC k0 bd 0 true).toArray 103 (0, 0)), (bd, .cells (diskC (.slice (some ⟨bs, 0, none⟩) 2 2) (.slice (some ⟨bn, 0, none⟩) 2 cn) (.slice none 0 0) 0 true).toArray 113 (0, 0)), (bs, .cells (secV (dks [k0, k1]) ++ ([] : List Value)).toArray 115 (0, 0)), (bn, .cells (secV (dks [k0, k1]) ++ spn).toArray 115 (0, 0))]) (fun _ => True) (Hc := [(bc0, .cells (cntC k0 bd 0 false).toArray 103 (0, 0)), (bd, .cells (diskC (.slice (some ⟨bs, 0, none⟩) 2 2) (.slice (some ⟨bn, 0, none⟩) 2 cn) (.slice none 0 0) ((0 : Nat) : Int) false).toArray 113 (0, 0)), (bs, .cells (secV (dks [k0, k1]) ++ ([] : List Value)).toArray 115 (0, 0)), (bn, .cells (secV (dks [k0, k1]) ++ spn).toArray 115 (0, 0))]) (K := [(bc1, .cells (cntC k1 bd 1 false).toArray 103 (0, 0)), (b13, .cells [Value.int .u32 ((k0 : Nat) : Int), Value.int .u32 ((k1 : Nat) : Int)].toArray 65 (0, 0))]) rfl rfl Try.func21 rfl (by kernel_rfl) rfl (by simp only [List.cons_append, List.nil_append, List.append_nil]; (repeat (first | exact List.Perm.refl _ | refine List.Perm.cons _ ?_ | refine (perm_pick (by repeat (first | exact Del.here | apply Del.there))).trans (List.Perm.cons _ ?_)))) (fun w' hm => cnextWX bc0 k0 bd bs bn 0 2 2 cn ((0 : Nat) : Int) (dks [k0, k1]) (dks [k0, k1]) ([] : List Value) spn rfl hS hS hl hl (by omega) (by omega) hu w' hm) (fun _ _ => ?_))
      refine R_nil ?_
      exact E_midE (k0, 0, true, none) (by refine ⟨?_, ?_, ?_, fun q h => by cases h⟩ <;> first | omega | (dsimp only; omega)) (by repeat (first | exact Sub.nil | refine Sub.cons rfl ?_)) (by dsimp only [waitH, List.cons_append, List.nil_append]; exact (by repeat (first | exact Fewer.nil | exact Fewer.refl _ | refine Fewer.pick rfl (by repeat (first | exact Del.here | apply Del.there)) ?_)))
    · skip
      refine S_region ?_
      refine R_cons rfl (op_pure (p_move rfl) rfl ?_)
      refine R_cons rfl (op_callX (fun _ : Nat × Nat × List Value => (Value.tuple ([Value.int .u32 0, Value.int .i64 9] : List Value).toArray)) (fun q => [(bc0, .cells (cntC k0 bd 0 true).toArray 103 (0, 0)), (bd, .cells (diskC (.slice (some ⟨bs, 0, none⟩) 2 2) (.slice (some ⟨bn, 0, none⟩) 2 cn) (.slice (some ⟨q.1, 0, none⟩) 1 q.2.1) 0 true).toArray 113 (0, 0)), (bs, .cells (secV (dks [k0, k1]) ++ ([] : List Value)).toArray 115 (0, 0)), (bn, .cells (secV ((dks [k0, k1]).set 0 (toldS (k0 + 1))) ++ spn).toArray 115 (0, 0)), (q.1, .cells ((Value.int .i64 ((0 : Nat) : Int) :: bytesV (toldS (k0 + 1))) ++ q.2.2).toArray 120 (0, 0))]) (fun q => 1 ≤ q.2.1) (Hc := [(bc0, .cells (cntC k0 bd 0 false).toArray 103 (0, 0)), (bd, .cells (diskC (.slice (some ⟨bs, 0, none⟩) 2 2) (.slice (some ⟨bn, 0, none⟩) 2 cn) (.slice none 0 0) ((1 : Nat) : Int) false).toArray 113 (0, 0)), (bs, .cells (secV (dks [k0, k1]) ++ ([] : List Value)).toArray 115 (0, 0)), (bn, .cells (secV (dks [k0, k1]) ++ spn).toArray 115 (0, 0))]) (K := [(bc1, .cells (cntC k1 bd 1 false).toArray 103 (0, 0)), (b13, .cells [Value.int .u32 ((k0 : Nat) : Int), Value.int .u32 ((k1 : Nat) : Int)].toArray 65 (0, 0))]) rfl rfl Try.func21 rfl (by kernel_rfl) rfl (by simp only [List.cons_append, List.nil_append, List.append_nil]; (repeat (first | exact List.Perm.refl _ | refine List.Perm.cons _ ?_ | refine (perm_pick (by repeat (first | exact Del.here | apply Del.there))).trans (List.Perm.cons _ ?_)))) (fun w' hm => cnextSX bc0 k0 bd bs bn 0 2 2 cn ((1 : Nat) : Int) (dks [k0, k1]) (dks [k0, k1]) [] spn rfl hS hS hl hl (by omega) (by omega) hu w' hm) (fun q hq => ?_))
      refine R_nil ?_
      exact E_midE (k0, 0, true, some q) (by refine ⟨?_, ?_, ?_, fun q' h => by cases h; exact ⟨hq, hu⟩⟩ <;> first | omega | (dsimp only; omega)) (by repeat (first | exact Sub.nil | refine Sub.cons rfl ?_)) (by dsimp only [waitH, List.cons_append, List.nil_append]; exact (by repeat (first | exact Fewer.nil | exact Fewer.refl _ | refine Fewer.pick rfl (by repeat (first | exact Del.here | apply Del.there)) ?_)))
    · skip
      refine S_region ?_
      refine R_cons rfl (op_pure (p_move rfl) rfl ?_)
      refine R_cons rfl (op_callX (fun _ : Unit => (Value.tuple ([Value.int .u32 ((k0 : Nat) : Int), Value.int .i64 0] : List Value).toArray)) (fun _ => [(bc0, .cells (cntC (k0 + 1) bd 0 false).toArray 103 (0, 0)), (bd, .cells (diskC (.slice (some ⟨bs, 0, none⟩) 2 2) (.slice (some ⟨bn, 0, none⟩) 2 cn) (.slice none 0 0) ((0 : Nat) : Int) false).toArray 113 (0, 0)), (bs, .cells (secV ((dks [k0, k1]).set 0 (toldS (k0 + 1))) ++ ([] : List Value)).toArray 115 (0, 0)), (bn, .cells (secV ((dks [k0, k1]).set 0 (toldS (k0 + 1))) ++ spn).toArray 115 (0, 0))]) (fun _ => True) (Hc := [(bc0, .cells (cntC k0 bd 0 false).toArray 103 (0, 0)), (bd, .cells (diskC (.slice (some ⟨bs, 0, none⟩) 2 2) (.slice (some ⟨bn, 0, none⟩) 2 cn) (.slice none 0 0) ((2 : Nat) : Int) false).toArray 113 (0, 0)), (bs, .cells (secV (dks [k0, k1]) ++ ([] : List Value)).toArray 115 (0, 0)), (bn, .cells (secV (dks [k0, k1]) ++ spn).toArray 115 (0, 0))]) (K := [(bc1, .cells (cntC k1 bd 1 false).toArray 103 (0, 0)), (b13, .cells [Value.int .u32 ((k0 : Nat) : Int), Value.int .u32 ((k1 : Nat) : Int)].toArray 65 (0, 0))]) rfl rfl Try.func21 rfl (by kernel_rfl) rfl (by simp only [List.cons_append, List.nil_append, List.append_nil]; (repeat (first | exact List.Perm.refl _ | refine List.Perm.cons _ ?_ | refine (perm_pick (by repeat (first | exact Del.here | apply Del.there))).trans (List.Perm.cons _ ?_)))) (fun w' hm => cnextOX bc0 k0 bd bs bn 0 2 2 cn ((2 : Nat) : Int) (dks [k0, k1]) (dks [k0, k1]) ([] : List Value) spn 0 rfl (by omega) hS hS hl hl (by omega) (by omega) hu w' hm) (fun _ _ => ?_))
      refine R_nil ?_
      rw [hdk]
      exact E_midE (k0 + 1, 0, false, none) (by refine ⟨?_, ?_, ?_, fun q h => by cases h⟩ <;> first | omega | (dsimp only; omega)) (by repeat (first | exact Sub.nil | refine Sub.cons rfl ?_)) (by dsimp only [waitH, List.cons_append, List.nil_append]; exact (by repeat (first | exact Fewer.nil | exact Fewer.refl _ | refine Fewer.pick rfl (by repeat (first | exact Del.here | apply Del.there)) ?_)))
  rintro ⟨k, left, bl, o⟩ ⟨hka, hkb, hk16, hq⟩
  dsimp only at hka hkb hk16 hq ⊢
  repeat (first | refine S_scope ?_ | refine S_label ?_ | refine E_noGoto_normal ?_ | refine E_noGoto_ret ?_ | refine E_noGoto_exit ?_ | refine S_yes rfl (by first | with_reducible rfl | decide) ?_ | refine S_no rfl (by first | with_reducible rfl | decide) ?_ | refine S_seq ?_ | refine E_seq ?_ | refine S_block ?_ | refine E_block_normal ?_ | refine S_skip ?_ | refine S_exit ?_ | refine S_ret ?_ | refine E_then_exit ?_ | refine E_then_ret ?_ | refine E_block_ret ?_ | refine E_block_exit ?_ | refine E_block_exit_other rfl ?_)
  refine S_cutE (σ := Nat × Nat × Nat × Nat × Nat × Nat × List Value × List Value) (fun s => [(20, .int .i64 0), (19, .pointer (some ⟨s.2.1, 0, none⟩)), (13, .pointer (some ⟨b13, 0, none⟩))])
    (fun s => [(s.2.1, .cells (diskC (.slice (some ⟨s.2.2.1, 0, none⟩) 2 s.2.2.2.1) (.slice (some ⟨s.2.2.2.2.1, 0, none⟩) 2 s.2.2.2.2.2.1) (.slice none 0 0) (-1) false).toArray 113 (0, 0)), (s.2.2.1, .cells (secV (dks [s.1, k1]) ++ s.2.2.2.2.2.2.1).toArray 115 (0, 0)), (s.2.2.2.2.1, .cells (secV (dks [s.1, k1]) ++ s.2.2.2.2.2.2.2).toArray 115 (0, 0)), (b13, .cells [Value.int .u32 ((k0 : Nat) : Int), Value.int .u32 ((k1 : Nat) : Int)].toArray 65 (0, 0))]) (fun s => k0 ≤ s.1 ∧ s.1 ≤ k0 + 1 ∧ s.1 ≤ 16) ?_ ?_
  · have hSk := dks_secs [k, k1]
    have hlk2 : (dks [k, k1]).length = 2 := dks_length [k, k1]
    cases o with
    | none =>
      dsimp only [waitH, List.cons_append, List.nil_append]
      refine S_region ?_
      refine R_cons rfl (op_pure (p_move rfl) rfl ?_)
      refine R_cons rfl (op_pure (p_move rfl) rfl ?_)
      refine R_cons rfl (op_callNX (fun s : Nat × Nat × Nat × Nat × Nat × List Value × List Value => Value.tuple ([Value.pointer (some ⟨s.1, 0, none⟩), Value.int .i64 0] : List Value).toArray) (fun s => [(s.1, .cells (diskC (.slice (some ⟨s.2.1, 0, none⟩) 2 s.2.2.1) (.slice (some ⟨s.2.2.2.1, 0, none⟩) 2 s.2.2.2.2.1) (.slice none 0 0) (-1) false).toArray 113 (0, 0)), (s.2.1, .cells (secV (dks [k, k1]) ++ s.2.2.2.2.2.1).toArray 115 (0, 0)), (s.2.2.2.1, .cells (secV (dks [k, k1]) ++ s.2.2.2.2.2.2).toArray 115 (0, 0))]) (fun _ => True) rfl rfl Try.func26 rfl (by kernel_rfl) rfl (fun w' hm => dfail_nil bd bs 2 2 _ left bl (dks [k, k1]) [] hSk hlk2 (by omega) (by omega) A2 l2.length c2 w' (hm.own (bd, _) (by (try simp only [List.cons_append, List.nil_append]); repeat (first | exact List.Mem.head _ | apply List.Mem.tail))).2 (hm.own (bs, _) (by (try simp only [List.cons_append, List.nil_append]); repeat (first | exact List.Mem.head _ | apply List.Mem.tail))).2) (fun s _ => ?_))
      refine R_cons rfl (op_pure (p_move rfl) rfl ?_)
      refine R_cons rfl (op_pure (p_extract (i := 0) rfl rfl) rfl ?_)
      refine R_cons rfl (op_pure (p_extract (i := 1) rfl rfl) rfl ?_)
      refine R_cons rfl (op_pure (p_assign rfl) rfl ?_)
      refine R_cons rfl (op_pure (p_assign rfl) rfl ?_)
      refine R_nil ?_
      exact E_midE (k, s) ⟨hka, hkb, hk16⟩ (by repeat (first | exact Sub.nil | refine Sub.cons rfl ?_)) (by dsimp only [List.cons_append, List.nil_append]; exact (by repeat (first | exact Fewer.nil | exact Fewer.refl _ | refine Fewer.pick rfl (by repeat (first | exact Del.here | apply Del.there)) ?_)))
    | some q =>
      have hdk : (dks [k0, k1]).set 0 (toldS (k0 + 1)) = dks [k0 + 1, k1] := dks_set [k0, k1] 0 k0
      obtain ⟨bw, cw, spw⟩ := q
      obtain ⟨hq, hu⟩ := hq _ rfl
      dsimp only [waitH, List.cons_append, List.nil_append] at hq ⊢
      refine S_region ?_
      refine R_cons rfl (op_pure (p_move rfl) rfl ?_)
      refine R_cons rfl (op_pure (p_move rfl) rfl ?_)
      refine R_cons rfl (op_callNX (fun s : Nat × Nat × Nat × Nat × Nat × List Value × List Value => Value.tuple ([Value.pointer (some ⟨s.1, 0, none⟩), Value.int .i64 0] : List Value).toArray) (fun s => [(s.1, .cells (diskC (.slice (some ⟨s.2.1, 0, none⟩) 2 s.2.2.1) (.slice (some ⟨s.2.2.2.1, 0, none⟩) 2 s.2.2.2.2.1) (.slice none 0 0) (-1) false).toArray 113 (0, 0)), (s.2.1, .cells (secV (if l2.getD 0 false then (dks [k0, k1]).set 0 (toldS (k0 + 1)) else dks [k0, k1]) ++ s.2.2.2.2.2.1).toArray 115 (0, 0)), (s.2.2.2.1, .cells (secV (if l2.getD 0 false then (dks [k0, k1]).set 0 (toldS (k0 + 1)) else dks [k0, k1]) ++ s.2.2.2.2.2.2).toArray 115 (0, 0))]) (fun _ => True) rfl rfl Try.func26 rfl (by kernel_rfl) rfl (fun w' hm => dfail_one bd bs bw 2 2 cw _ left bl (dks [k0, k1]) [] spw hS hl (by omega) (by omega) 0 (by omega) (toldS (k0 + 1)) (toldS_length _) hq A2 c2 l2 w' (hrd2.base hm) (hm.own (bd, _) (by (try simp only [List.cons_append, List.nil_append]); repeat (first | exact List.Mem.head _ | apply List.Mem.tail))).2 (hm.own (bs, _) (by (try simp only [List.cons_append, List.nil_append]); repeat (first | exact List.Mem.head _ | apply List.Mem.tail))).2 (hm.own (bw, _) (by (try simp only [List.cons_append, List.nil_append]); repeat (first | exact List.Mem.head _ | apply List.Mem.tail))).2) (fun s _ => ?_))
      refine R_cons rfl (op_pure (p_move rfl) rfl ?_)
      refine R_cons rfl (op_pure (p_extract (i := 0) rfl rfl) rfl ?_)
      refine R_cons rfl (op_pure (p_extract (i := 1) rfl rfl) rfl ?_)
      refine R_cons rfl (op_pure (p_assign rfl) rfl ?_)
      refine R_cons rfl (op_pure (p_assign rfl) rfl ?_)
      refine R_nil ?_
      rw [hdk]
      cases hlk : l2.getD 0 false with
      | true =>
        exact E_midE (k0 + 1, s) (by refine ⟨?_, ?_, ?_⟩ <;> first | omega | (dsimp only; omega)) (by repeat (first | exact Sub.nil | refine Sub.cons rfl ?_)) (by rw [if_pos rfl]; dsimp only [List.cons_append, List.nil_append]; exact (by repeat (first | exact Fewer.nil | exact Fewer.refl _ | refine Fewer.pick rfl (by repeat (first | exact Del.here | apply Del.there)) ?_)))
      | false =>
        exact E_midE (k0, s) (by refine ⟨?_, ?_, ?_⟩ <;> first | omega | (dsimp only; omega)) (by repeat (first | exact Sub.nil | refine Sub.cons rfl ?_)) (by rw [if_neg (by decide)]; dsimp only [List.cons_append, List.nil_append]; exact (by repeat (first | exact Fewer.nil | exact Fewer.refl _ | refine Fewer.pick rfl (by repeat (first | exact Del.here | apply Del.there)) ?_)))
  clear hka hkb hk16 hq
  clear k left bl o
  rintro ⟨k, bd2, bs2, cs2, bn2, cn2, sps2, spn2⟩ ⟨hka, hkb, hk16⟩
  dsimp only at hka hkb hk16 ⊢
  have hS3 := dks_secs [k, k1]
  have hl3 : (dks [k, k1]).length = 2 := dks_length [k, k1]
  have hy0 : (dks [k, k1])[0]? = some (secT k) := dks_at [k, k1] 0 k rfl
  have hy1 : (dks [k, k1])[1]? = some (secT k1) := dks_at [k, k1] 1 k1 rfl
  have e1 : ((k1 : Int) == (k1 : Int)) = true := by simp
  have e2 : decide ((k0 : Int) ≤ (k : Int)) = true := decide_eq_true (by omega)
  have e3 : decide ((k : Int) ≤ ((k0 + 1 : Nat) : Int)) = true := decide_eq_true (by omega)
  have e4 : IntKind.u32.wrap ((k0 : Int) + 1) = ((k0 + 1 : Nat) : Int) := by rw [w_in_u32 (by omega)]; omega
  repeat (first | refine S_scope ?_ | refine S_label ?_ | refine E_noGoto_normal ?_ | refine E_noGoto_ret ?_ | refine E_noGoto_exit ?_ | refine S_yes rfl (by first | with_reducible rfl | decide) ?_ | refine S_no rfl (by first | with_reducible rfl | decide) ?_ | refine S_seq ?_ | refine E_seq ?_ | refine S_block ?_ | refine E_block_normal ?_ | refine S_skip ?_ | refine S_exit ?_ | refine S_ret ?_ | refine E_then_exit ?_ | refine E_then_ret ?_ | refine E_block_ret ?_ | refine E_block_exit ?_ | refine E_block_exit_other rfl ?_)
  refine S_region ?_
  refine R_cons rfl (op_pure (p_move rfl) rfl ?_)
  refine R_cons rfl (op_callNX (fun q : Nat => Value.tuple ([Value.pointer (some ⟨q, 0, none⟩), Value.int .i64 0] : List Value).toArray) (fun q => [(q, .cells (cntC k1 bd2 1 false).toArray 103 (0, 0))]) (fun _ => True) rfl rfl Try.func20 rfl (by kernel_rfl) rfl (fun w' hm => copenX k1 bd2 bn2 2 _ _ _ _ _ _ _ _ hS3 hl3 1 (by omega) _ hy1 (secT_opened k1 hk1) w' (hm.own (bd2, _) (by (try simp only [List.cons_append, List.nil_append]); repeat (first | exact List.Mem.head _ | apply List.Mem.tail))).2 (hm.own (bn2, _) (by (try simp only [List.cons_append, List.nil_append]); repeat (first | exact List.Mem.head _ | apply List.Mem.tail))).2) (fun b1 _ => ?_))
  refine R_cons rfl (op_pure (p_move rfl) rfl ?_)
  refine R_cons rfl (op_pure (p_extract (i := 0) rfl rfl) rfl ?_)
  refine R_cons rfl (op_pure (p_extract (i := 1) rfl rfl) rfl ?_)
  refine R_cons rfl (op_pure (p_assign rfl) rfl ?_)
  refine R_cons rfl (op_pure (p_assign rfl) rfl ?_)
  refine R_nil ?_
  repeat (first | refine S_scope ?_ | refine S_label ?_ | refine E_noGoto_normal ?_ | refine E_noGoto_ret ?_ | refine E_noGoto_exit ?_ | refine S_yes rfl (by first | with_reducible rfl | decide) ?_ | refine S_no rfl (by first | with_reducible rfl | decide) ?_ | refine S_seq ?_ | refine E_seq ?_ | refine S_block ?_ | refine E_block_normal ?_ | refine S_skip ?_ | refine S_exit ?_ | refine S_ret ?_ | refine E_then_exit ?_ | refine E_then_ret ?_ | refine E_block_ret ?_ | refine E_block_exit ?_ | refine E_block_exit_other rfl ?_)
  refine S_region ?_
  refine R_cons rfl (op_pure (p_move rfl) rfl ?_)
  refine R_cons rfl (op_callNX (fun q : Nat => Value.tuple ([Value.pointer (some ⟨q, 0, none⟩), Value.int .i64 0] : List Value).toArray) (fun q => [(q, .cells (cntC k bd2 0 false).toArray 103 (0, 0))]) (fun _ => True) rfl rfl Try.func20 rfl (by kernel_rfl) rfl (fun w' hm => copenX k bd2 bn2 2 _ _ _ _ _ _ _ _ hS3 hl3 0 (by omega) _ hy0 (secT_opened k hk16) w' (hm.own (bd2, _) (by (try simp only [List.cons_append, List.nil_append]); repeat (first | exact List.Mem.head _ | apply List.Mem.tail))).2 (hm.own (bn2, _) (by (try simp only [List.cons_append, List.nil_append]); repeat (first | exact List.Mem.head _ | apply List.Mem.tail))).2) (fun b0 _ => ?_))
  refine R_cons rfl (op_pure (p_move rfl) rfl ?_)
  refine R_cons rfl (op_pure (p_extract (i := 0) rfl rfl) rfl ?_)
  refine R_cons rfl (op_pure (p_extract (i := 1) rfl rfl) rfl ?_)
  refine R_cons rfl (op_pure (p_assign rfl) rfl ?_)
  refine R_cons rfl (op_pure (p_assign rfl) rfl ?_)
  refine R_nil ?_
  repeat (first | refine S_scope ?_ | refine S_label ?_ | refine E_noGoto_normal ?_ | refine E_noGoto_ret ?_ | refine E_noGoto_exit ?_ | refine S_yes rfl (by first | with_reducible rfl | decide) ?_ | refine S_no rfl (by first | with_reducible rfl | decide) ?_ | refine S_seq ?_ | refine E_seq ?_ | refine S_block ?_ | refine E_block_normal ?_ | refine S_skip ?_ | refine S_exit ?_ | refine S_ret ?_ | refine E_then_exit ?_ | refine E_then_ret ?_ | refine E_block_ret ?_ | refine E_block_exit ?_ | refine E_block_exit_other rfl ?_)
  simp only [List.cons_append, List.nil_append]
  refine S_quiet (by kernel_rfl) (by kernel_rfl) ?_
  refine Q_cons (Still1.of_pure (p_move rfl)) rfl ?_
  refine Q_cons (Still1.of_pure (p_bin rfl rfl (b_eql (by first | assumption | exact beq_iff_eq.2 (by omega) | exact beq_eq_false_iff_ne.2 (by omega) | rfl)))) rfl ?_
  refine Q_cons (Still1.of_pure (p_move rfl)) rfl ?_
  first | refine Q_pass rfl rfl rfl rfl ?_ | refine Q_pass_undef rfl rfl rfl ?_ | refine Q_guard rfl rfl (Still1.of_pure (p_move rfl)) rfl ?_
  first | refine Q_pass rfl rfl rfl rfl ?_ | refine Q_pass_undef rfl rfl rfl ?_ | refine Q_guard rfl rfl (Still1.of_pure (p_bin rfl rfl (b_eql (by first | assumption | exact beq_iff_eq.2 (by omega) | exact beq_eq_false_iff_ne.2 (by omega) | rfl)))) rfl ?_
  refine Q_cons (Still1.of_pure (by first | exact p_pick_yes rfl rfl | exact p_pick_no rfl rfl | exact p_pick rfl rfl rfl)) rfl ?_
  refine Q_cons (Still1.of_pure (p_move rfl)) rfl ?_
  first | refine Q_pass rfl rfl rfl rfl ?_ | refine Q_pass_undef rfl rfl rfl ?_ | refine Q_guard rfl rfl (Still1.of_pure (p_move rfl)) rfl ?_
  first | refine Q_pass rfl rfl rfl rfl ?_ | refine Q_pass_undef rfl rfl rfl ?_ | refine Q_guard rfl rfl (Still1.of_pure (p_bin rfl rfl (b_eql (by first | assumption | exact beq_iff_eq.2 (by omega) | exact beq_eq_false_iff_ne.2 (by omega) | rfl)))) rfl ?_
  refine Q_cons (Still1.of_pure (by first | exact p_pick_yes rfl rfl | exact p_pick_no rfl rfl | exact p_pick rfl rfl rfl)) rfl ?_
  refine Q_cons (Still1.of_pure (p_move rfl)) rfl ?_
  first | refine Q_pass rfl rfl rfl rfl ?_ | refine Q_pass_undef rfl rfl rfl ?_ | refine Q_guard rfl rfl (Still1.of_pure (p_move rfl)) rfl ?_
  first | refine Q_pass rfl rfl rfl rfl ?_ | refine Q_pass_undef rfl rfl rfl ?_ | refine Q_guard rfl rfl (still_call rfl rfl Try.func22 rfl (by kernel_rfl) (Nat.le_refl _) (fun w' hm => cused_any b1 k1 bd2 1 false w' (hm.own (b1, _) (by (try simp only [List.cons_append, List.nil_append]); repeat (first | exact List.Mem.head _ | apply List.Mem.tail))).2)) rfl ?_
  first | refine Q_pass rfl rfl rfl rfl ?_ | refine Q_pass_undef rfl rfl rfl ?_ | refine Q_guard rfl rfl (Still1.of_pure (p_indexArr0 (j := 1) rfl rfl rfl arr_2_uint32 (by omega))) rfl ?_
  first | refine Q_pass rfl rfl rfl rfl ?_ | refine Q_pass_undef rfl rfl rfl ?_ | refine Q_guard rfl rfl (Still1.of_pure (p_load rfl sc_u32 (by repeat (first | exact List.Mem.head _ | apply List.Mem.tail)) (by rfl))) rfl ?_
  first | refine Q_pass rfl rfl rfl rfl ?_ | refine Q_pass_undef rfl rfl rfl ?_ | refine Q_guard rfl rfl (Still1.of_pure (p_bin rfl rfl (b_eql e1))) rfl ?_
  refine Q_cons (Still1.of_pure (by first | exact p_pick_yes rfl rfl | exact p_pick_no rfl rfl | exact p_pick rfl rfl rfl)) rfl ?_
  refine Q_cons (Still1.of_pure (p_move rfl)) rfl ?_
  first | refine Q_pass rfl rfl rfl rfl ?_ | refine Q_pass_undef rfl rfl rfl ?_ | refine Q_guard rfl rfl (Still1.of_pure (p_move rfl)) rfl ?_
  first | refine Q_pass rfl rfl rfl rfl ?_ | refine Q_pass_undef rfl rfl rfl ?_ | refine Q_guard rfl rfl (still_call rfl rfl Try.func22 rfl (by kernel_rfl) (Nat.le_refl _) (fun w' hm => cused_any b0 k bd2 0 false w' (hm.own (b0, _) (by (try simp only [List.cons_append, List.nil_append]); repeat (first | exact List.Mem.head _ | apply List.Mem.tail))).2)) rfl ?_
  first | refine Q_pass rfl rfl rfl rfl ?_ | refine Q_pass_undef rfl rfl rfl ?_ | refine Q_guard rfl rfl (Still1.of_pure (p_indexArr0 (j := 0) rfl rfl rfl arr_2_uint32 (by omega))) rfl ?_
  first | refine Q_pass rfl rfl rfl rfl ?_ | refine Q_pass_undef rfl rfl rfl ?_ | refine Q_guard rfl rfl (Still1.of_pure (p_load rfl sc_u32 (by repeat (first | exact List.Mem.head _ | apply List.Mem.tail)) (by rfl))) rfl ?_
  first | refine Q_pass rfl rfl rfl rfl ?_ | refine Q_pass_undef rfl rfl rfl ?_ | refine Q_guard rfl rfl (Still1.of_pure (p_bin rfl rfl (b_geq e2))) rfl ?_
  refine Q_cons (Still1.of_pure (by first | exact p_pick_yes rfl rfl | exact p_pick_no rfl rfl | exact p_pick rfl rfl rfl)) rfl ?_
  refine Q_cons (Still1.of_pure (p_move rfl)) rfl ?_
  first | refine Q_pass rfl rfl rfl rfl ?_ | refine Q_pass_undef rfl rfl rfl ?_ | refine Q_guard rfl rfl (Still1.of_pure (p_move rfl)) rfl ?_
  first | refine Q_pass rfl rfl rfl rfl ?_ | refine Q_pass_undef rfl rfl rfl ?_ | refine Q_guard rfl rfl (still_call rfl rfl Try.func22 rfl (by kernel_rfl) (Nat.le_refl _) (fun w' hm => cused_any b0 k bd2 0 false w' (hm.own (b0, _) (by (try simp only [List.cons_append, List.nil_append]); repeat (first | exact List.Mem.head _ | apply List.Mem.tail))).2)) rfl ?_
  first | refine Q_pass rfl rfl rfl rfl ?_ | refine Q_pass_undef rfl rfl rfl ?_ | refine Q_guard rfl rfl (Still1.of_pure (p_indexArr0 (j := 0) rfl rfl rfl arr_2_uint32 (by omega))) rfl ?_
  first | refine Q_pass rfl rfl rfl rfl ?_ | refine Q_pass_undef rfl rfl rfl ?_ | refine Q_guard rfl rfl (Still1.of_pure (p_load rfl sc_u32 (by repeat (first | exact List.Mem.head _ | apply List.Mem.tail)) (by rfl))) rfl ?_
  first | refine Q_pass rfl rfl rfl rfl ?_ | refine Q_pass_undef rfl rfl rfl ?_ | refine Q_guard rfl rfl (Still1.of_pure (p_bin rfl rfl (b_add e4))) rfl ?_
  first | refine Q_pass rfl rfl rfl rfl ?_ | refine Q_pass_undef rfl rfl rfl ?_ | refine Q_guard rfl rfl (Still1.of_pure (p_bin rfl rfl (b_leq e3))) rfl ?_
  refine Q_cons (Still1.of_pure (by first | exact p_pick_yes rfl rfl | exact p_pick_no rfl rfl | exact p_pick rfl rfl rfl)) rfl ?_
  refine Q_cons (Still1.of_pure (p_move rfl)) rfl ?_
  first | refine Q_pass rfl rfl rfl rfl ?_ | refine Q_pass_undef rfl rfl rfl ?_ | refine Q_guard rfl rfl (still_call rfl rfl Try.func23 rfl (by kernel_rfl) (Nat.le_refl _) (fun w' _ => lives22 w')) rfl ?_
  refine Q_cons (Still1.of_pure (by first | exact p_pick_yes rfl rfl | exact p_pick_no rfl rfl | exact p_pick rfl rfl rfl)) rfl ?_
  refine Q_cons (Still1.of_pure (p_assign rfl)) rfl ?_
  refine Q_nil ?_
  repeat (first | refine S_scope ?_ | refine S_label ?_ | refine E_noGoto_normal ?_ | refine E_noGoto_ret ?_ | refine E_noGoto_exit ?_ | refine S_yes rfl (by first | with_reducible rfl | decide) ?_ | refine S_no rfl (by first | with_reducible rfl | decide) ?_ | refine S_seq ?_ | refine E_seq ?_ | refine S_block ?_ | refine E_block_normal ?_ | refine S_skip ?_ | refine S_exit ?_ | refine S_ret ?_ | refine E_then_exit ?_ | refine E_then_ret ?_ | refine E_block_ret ?_ | refine E_block_exit ?_ | refine E_block_exit_other rfl ?_)
  exact E_ret1 rfl rfl fun w' hm => ⟨rfl, hm.below⟩

theorem own : ownKnob Try.prog.godebug = none := by kernel_rfl
theorem laidOut : laidOutB Try.prog = true := by kernel_rfl
set_option maxRecDepth 100000 in
theorem lifted (os : Os) (started : os.Started) (H : Type) (enc : TypeId × Value → H) :
    ReturnsInHanded {} Try.checked os 10 .any (Rows.countsApartSpec.pre6 enc Try.prog Try.f10 Rows.countsApartRow.domain false) (Rows.countsApartSpec.post enc Try.prog Try.f10 false true false false) := by
  refine returnsInHanded_of_change (C := Try.checked) own started (by kernel_rfl) Try.func10
    (ChangeSpec.witness6 (enc := enc) (C := Try.checked) false ⟨#[], #[.slice none 0 0, .slice none 0 0, .int .u8 0], []⟩ 8 (by kernel_rfl) (by kernel_rfl) (by kernel_rfl) (by kernel_rfl)) ?_
  intro W base args ds gs before hval0 hW hcnd _
  have hval : ∀ (j : Nat) t v, Try.f10.params[j]? = some t → args[j]? = some v → Value.okWide Try.prog W .any base t v := hval0
  have hW' := hW
  obtain ⟨p, q, hA0, hV, rfl, hfz, hnd⟩ := hW
  have hA : DataW.TrodAll enc Try.prog W 0 (fun _ => true) true Try.f10.params.toList args.toList ds p := hA0
  rw [Try.params10] at hA hval
  obtain ⟨v0, vs0, d0, ds0, p0, q0, hargs, rfl, rfl, h0, r0⟩ := trodAll_cons hA
  obtain ⟨v1, vs1, d1, ds1, p1, q1, rfl, rfl, rfl, h1, r1⟩ := trodAll_cons r0
  obtain ⟨v2, vs2, d2, ds2, p2, q2, rfl, rfl, rfl, h2, r2⟩ := trodAll_cons r1
  obtain ⟨rfl, rfl, rfl⟩ := trodAll_nil r2
  obtain rfl : args = #[v0, v1, v2] := by cases args; simp_all
  obtain ⟨rfl, rfl⟩ := trodVars_none hV
  have k0 := h0
  have lt0 : ∀ x ∈ p0, x.block < W.heap.size := by obtain ⟨m, hm⟩ := k0; exact DataW.trod_lt m _ _ _ hm
  have k1 := h1
  have lt1 : ∀ x ∈ p1, x.block < W.heap.size := by obtain ⟨m, hm⟩ := k1; exact DataW.trod_lt m _ _ _ hm
  have k2 := h2
  have lt2 : ∀ x ∈ p2, x.block < W.heap.size := by obtain ⟨m, hm⟩ := k2; exact DataW.trod_lt m _ _ _ hm
  obtain ⟨A0, c0, a0, rfl, rd0, lc0, cm0⟩ := arg_bools Try.underlying60 Try.underlying4 (by kernel_rfl) (hval 0 60 v0 rfl rfl) k0
  obtain ⟨A1, c1, a1, rfl, rd1, lc1, cm1⟩ := arg_bools Try.underlying60 Try.underlying4 (by kernel_rfl) (hval 1 60 v1 rfl rfl) k1
  obtain ⟨a2, rfl⟩ := arg_u8 Try.underlying5 (hval 2 5 v2 rfl rfl) k2
  clear hA0 hval0
  refine (walk W A0 c0 a0 rd0 lc0 cm0 A1 c1 a1 rd1 lc1 cm1 a2).mono fun e W' ⟨he, bel⟩ => ?_
  subst he
  exact ⟨_, rfl, _, _, _, [], _, [], hW', trodAll_mk1 (shut_bool Try.underlying4 _), (trodAll_cons_mk (Below.trod laidOut (by kernel_rfl) (of_decide_eq_true (by kernel_rfl)) k0 bel lt0) (trodAll_cons_mk (Below.trod laidOut (by kernel_rfl) (of_decide_eq_true (by kernel_rfl)) k1 bel lt1) (trodAll_cons_mk (Below.trod laidOut (by kernel_rfl) (of_decide_eq_true (by kernel_rfl)) k2 bel lt2) trodAll_mk0))), rfl, bel.frame _, fun h => by cases h⟩
/-- The statement. -/
theorem proved : Rows.CountsApartSaid :=
  OpenClaim.holds_of_wide 10 Try.f10 rfl rfl rfl rfl rfl rfl rfl ⟨rfl, rfl, rfl, rfl, rfl⟩ rfl rfl rfl rfl rfl (by kernel_rfl) Try.func10 (by kernel_rfl)
    (of_decide_eq_true (by kernel_rfl)) (by unfold Func.isWrapper; first | (rw [if_pos (by decide +kernel)]; kernel_rfl) | (rw [if_neg (by decide +kernel)]; exact ⟨rfl, rfl⟩))
    (fun os started H enc _ => lifted os started H enc)
#print axioms proved
end Go.Proofs.Ytfdlafjifjndeaa.countsApart
