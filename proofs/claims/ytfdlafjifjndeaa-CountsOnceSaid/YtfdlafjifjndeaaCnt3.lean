/-
  The layer counts: a count opened; what stands behind a failure.
-/
import Derived.Test.YtfdlafjifjndeaaCnt2
namespace Go.Proofs.Ytfdlafjifjndeaa
open Go.RowKit Go.K
attribute [local irreducible] Exit.then Exit.inBlock Exit.noGoto bodyPost Code.wp QL Sx Rx Qx Ex Dx Op1 Pure1 Still1 K.Sub Calm Code.wpIn
set_option linter.unusedVariables false
/-- what a sector tells: how many numbers are used, or that it is none -/
def openedS (x : List UInt8) : Option Nat := if x.any (· != 0) = false then some 0 else if getP x 4 ≤ 16 ∧ toldS (getP x 4) = x then some (getP x 4) else none
attribute [local irreducible] digitsB onNat sumU Buf.hp Buf.cap Buf.addr secV toldS getP

set_option maxHeartbeats 2000000 in
theorem copen_any (bd bn n cs cn : Nat) (As : Option Addr) (vw : Value) (left : Int) (bl : Bool) (now : List (List UInt8)) (sp : List Value) (hS : Secs now) (hnl : now.length = n) (i : Nat) (hi : i < n) (x : List UInt8) (hx : now[i]? = some x) (w : World)
    (hb : w.heap[bd]? = some (.cells (diskC (.slice As n cs) (.slice (some ⟨bn, 0, none⟩) n cn) vw left bl).toArray 113 (0, 0))) (hbn : w.heap[bn]? = some (.cells (secV now ++ sp).toArray 115 (0, 0))) :
    Calls Try.prog 20 [.pointer (some ⟨bd, 0, none⟩), .int .i64 (i : Int)].toArray w fun e w' => ∃ v H', e = .returned v ∧ Mem w.heap.size ⟨w, []⟩ H' w' ∧
      ((∃ k bc, openedS x = some k ∧ v = .tuple [.pointer (some ⟨bc, 0, none⟩), .int .i64 0].toArray ∧ H' = [(bc, .cells (cntC k bd i false).toArray 103 (0, 0))]) ∨ (openedS x = none ∧ v = .tuple [.pointer none, .int .i64 4].toArray ∧ H' = [])) := by
  have hn0 : n ≠ 0 := by omega
  have g1 : (((n : Nat) : Int) == 0) = false := beq_eq_false_iff_ne.2 (by omega)
  have g2 : decide ((i : Int) < 0) = false := decide_eq_false (by omega)
  have g3 : decide ((n : Int) ≤ (i : Int)) = false := decide_eq_false (by omega)
  have hxl : x.length = 64 := hS x (List.mem_of_getElem? hx)
  have hxb : (bytesV x).length = 64 := by rw [bytesV_length, hxl]
  refine enter Try.func20 rfl Try.ntmps20 (by simp) ?_
  repeat (first | refine S_scope ?_ | refine S_label ?_ | refine E_noGoto_normal ?_ | refine E_noGoto_ret ?_ | refine E_noGoto_exit ?_ | refine S_yes rfl (by first | with_reducible rfl | decide) ?_ | refine S_no rfl (by first | with_reducible rfl | decide) ?_ | refine S_seq ?_ | refine E_seq ?_ | refine S_block ?_ | refine E_block_normal ?_ | refine S_skip ?_ | refine S_exit ?_ | refine S_ret ?_ | refine E_then_exit ?_ | refine E_then_ret ?_ | refine E_block_ret ?_ | refine E_block_exit ?_ | refine E_block_exit_other rfl ?_)
  refine S_region ?_
  refine R_cons rfl (op_pure (p_assign rfl) rfl ?_)
  refine R_cons rfl (op_pure (p_assign rfl) rfl ?_)
  refine R_nil ?_
  repeat (first | refine S_scope ?_ | refine S_label ?_ | refine E_noGoto_normal ?_ | refine E_noGoto_ret ?_ | refine E_noGoto_exit ?_ | refine S_yes rfl (by first | with_reducible rfl | decide) ?_ | refine S_no rfl (by first | with_reducible rfl | decide) ?_ | refine S_seq ?_ | refine E_seq ?_ | refine S_block ?_ | refine E_block_normal ?_ | refine S_skip ?_ | refine S_exit ?_ | refine S_ret ?_ | refine E_then_exit ?_ | refine E_then_ret ?_ | refine E_block_ret ?_ | refine E_block_exit ?_ | refine E_block_exit_other rfl ?_)
  refine S_region ?_
  refine R_cons rfl (op_pure (p_move rfl) rfl ?_)
  refine R_cons rfl (op_callV rfl rfl Try.func52 rfl (by kernel_rfl) rfl (Nat.le_refl _) (fun w' hm => dlen_any bd n cs As _ vw left bl hn0 w' (below_block hm.below hb)) ?_)
  refine R_cons rfl (op_pure (p_bin rfl rfl (b_eql g1)) rfl ?_)
  refine R_cons rfl (op_pure (p_assign rfl) rfl ?_)
  refine R_nil ?_
  repeat (first | refine S_scope ?_ | refine S_label ?_ | refine E_noGoto_normal ?_ | refine E_noGoto_ret ?_ | refine E_noGoto_exit ?_ | refine S_yes rfl (by first | with_reducible rfl | decide) ?_ | refine S_no rfl (by first | with_reducible rfl | decide) ?_ | refine S_seq ?_ | refine E_seq ?_ | refine S_block ?_ | refine E_block_normal ?_ | refine S_skip ?_ | refine S_exit ?_ | refine S_ret ?_ | refine E_then_exit ?_ | refine E_then_ret ?_ | refine E_block_ret ?_ | refine E_block_exit ?_ | refine E_block_exit_other rfl ?_)
  refine S_region ?_
  refine R_cons rfl (op_pure (p_move rfl) rfl ?_)
  refine R_cons rfl (op_pure (p_bin rfl rfl (b_lss g2)) rfl ?_)
  refine R_cons rfl (op_pure (p_move rfl) rfl ?_)
  first | refine R_pass rfl rfl rfl rfl ?_ | refine R_pass_undef rfl rfl rfl ?_ | refine R_guard rfl rfl rfl (op_pure (p_move rfl) rfl ?_)
  first | refine R_pass rfl rfl rfl rfl ?_ | refine R_pass_undef rfl rfl rfl ?_ | refine R_guard rfl rfl rfl (op_pure (p_move rfl) rfl ?_)
  first | refine R_pass rfl rfl rfl rfl ?_ | refine R_pass_undef rfl rfl rfl ?_ | refine R_guard rfl rfl rfl (op_callV rfl rfl Try.func52 rfl (by kernel_rfl) rfl (Nat.le_refl _) (fun w' hm => dlen_any bd n cs As _ vw left bl hn0 w' (below_block hm.below hb)) ?_)
  first | refine R_pass rfl rfl rfl rfl ?_ | refine R_pass_undef rfl rfl rfl ?_ | refine R_guard rfl rfl rfl (op_pure (p_bin rfl rfl (b_geq g3)) rfl ?_)
  refine R_cons rfl (op_pure (by first | exact p_pick_yes rfl rfl | exact p_pick_no rfl rfl | exact p_pick rfl rfl rfl) rfl ?_)
  refine R_cons rfl (op_pure (p_assign rfl) rfl ?_)
  refine R_nil ?_
  repeat (first | refine S_scope ?_ | refine S_label ?_ | refine E_noGoto_normal ?_ | refine E_noGoto_ret ?_ | refine E_noGoto_exit ?_ | refine S_yes rfl (by first | with_reducible rfl | decide) ?_ | refine S_no rfl (by first | with_reducible rfl | decide) ?_ | refine S_seq ?_ | refine E_seq ?_ | refine S_block ?_ | refine E_block_normal ?_ | refine S_skip ?_ | refine S_exit ?_ | refine S_ret ?_ | refine E_then_exit ?_ | refine E_then_ret ?_ | refine E_block_ret ?_ | refine E_block_exit ?_ | refine E_block_exit_other rfl ?_)
  refine S_region ?_
  refine R_cons rfl (op_pure (p_move rfl) rfl ?_)
  refine R_cons rfl (op_pure (p_move rfl) rfl ?_)
  refine R_cons rfl (op_call rfl rfl Try.func53 rfl (by kernel_rfl) rfl fun w1 hm => (dread_any bd bn n cs cn As vw left bl now sp hS hnl i hi x hx w1 (below_block hm.below hb) (below_block hm.below hbn)).mono ?_)
  rintro e w2 ⟨g, rfl, hg, hgo, hbel⟩
  refine ⟨_, _, rfl, hm.call1 (Nat.le_refl _) hbel hg hgo, ?_⟩
  clear hm hbel hg hgo w1 w2
  refine R_cons rfl (op_pure (p_move rfl) rfl ?_)
  refine R_cons rfl (op_pure (p_extract (i := 0) rfl rfl) rfl ?_)
  refine R_cons rfl (op_pure (p_extract (i := 1) rfl rfl) rfl ?_)
  refine R_cons rfl (op_pure (p_assign rfl) rfl ?_)
  refine R_cons rfl (op_pure (p_assign rfl) rfl ?_)
  refine R_nil ?_
  repeat (first | refine S_scope ?_ | refine S_label ?_ | refine E_noGoto_normal ?_ | refine E_noGoto_ret ?_ | refine E_noGoto_exit ?_ | refine S_yes rfl (by first | with_reducible rfl | decide) ?_ | refine S_no rfl (by first | with_reducible rfl | decide) ?_ | refine S_seq ?_ | refine E_seq ?_ | refine S_block ?_ | refine E_block_normal ?_ | refine S_skip ?_ | refine S_exit ?_ | refine S_ret ?_ | refine E_then_exit ?_ | refine E_then_ret ?_ | refine E_block_ret ?_ | refine E_block_exit ?_ | refine E_block_exit_other rfl ?_)
  refine S_region ?_
  refine R_cons rfl (op_pure (p_move rfl) rfl ?_)
  refine R_cons rfl (op_pure (p_move rfl) rfl ?_)
  refine R_cons rfl (op_pure (p_build (ps := [(1, .tmp 30), (2, .tmp 31)]) (cs := cntC 0 bd i false) rfl (by kernel_rfl)) rfl ?_)
  refine R_cons rfl (op_boxRow rfl rfl (Nat.le_refl _) (fun b33 => ?_))
  refine R_cons rfl (op_pure (p_assign rfl) rfl ?_)
  refine R_nil ?_
  repeat (first | refine S_scope ?_ | refine S_label ?_ | refine E_noGoto_normal ?_ | refine E_noGoto_ret ?_ | refine E_noGoto_exit ?_ | refine S_yes rfl (by first | with_reducible rfl | decide) ?_ | refine S_no rfl (by first | with_reducible rfl | decide) ?_ | refine S_seq ?_ | refine E_seq ?_ | refine S_block ?_ | refine E_block_normal ?_ | refine S_skip ?_ | refine S_exit ?_ | refine S_ret ?_ | refine E_then_exit ?_ | refine E_then_ret ?_ | refine E_block_ret ?_ | refine E_block_exit ?_ | refine E_block_exit_other rfl ?_)
  cases hany : x.any (· != 0) with
  | false =>
    have ho : openedS x = some 0 := by unfold openedS; rw [if_pos hany]
    refine S_region ?_
    refine R_cons rfl (op_pure (p_move rfl) rfl ?_)
    refine R_cons rfl (op_callV rfl rfl Try.func54 rfl (by kernel_rfl) rfl (Nat.le_refl _) (fun w' hm => by have h := containsNz_any (some ⟨g, 0, none⟩) 64 64 x hxl (by omega) w' (hm.readsAll (b := g) (by repeat (first | exact List.Mem.head _ | apply List.Mem.tail)) hxb); rw [hany] at h; exact h) ?_)
    refine R_cons rfl (op_pure (p_not rfl) rfl ?_)
    refine R_nil ?_
    repeat (first | refine S_scope ?_ | refine S_label ?_ | refine E_noGoto_normal ?_ | refine E_noGoto_ret ?_ | refine E_noGoto_exit ?_ | refine S_yes rfl (by first | with_reducible rfl | decide) ?_ | refine S_no rfl (by first | with_reducible rfl | decide) ?_ | refine S_seq ?_ | refine E_seq ?_ | refine S_block ?_ | refine E_block_normal ?_ | refine S_skip ?_ | refine S_exit ?_ | refine S_ret ?_ | refine E_then_exit ?_ | refine E_then_ret ?_ | refine E_block_ret ?_ | refine E_block_exit ?_ | refine E_block_exit_other rfl ?_)
    refine S_region ?_
    refine R_cons rfl (op_pure (p_move rfl) rfl ?_)
    refine R_cons rfl (op_pure (p_assign rfl) rfl ?_)
    refine R_cons rfl (op_pure (p_assign rfl) rfl ?_)
    refine R_nil ?_
    repeat (first | refine S_scope ?_ | refine S_label ?_ | refine E_noGoto_normal ?_ | refine E_noGoto_ret ?_ | refine E_noGoto_exit ?_ | refine S_yes rfl (by first | with_reducible rfl | decide) ?_ | refine S_no rfl (by first | with_reducible rfl | decide) ?_ | refine S_seq ?_ | refine E_seq ?_ | refine S_block ?_ | refine E_block_normal ?_ | refine S_skip ?_ | refine S_exit ?_ | refine S_ret ?_ | refine E_then_exit ?_ | refine E_then_ret ?_ | refine E_block_ret ?_ | refine E_block_exit ?_ | refine E_block_exit_other rfl ?_)
    exact E_ret2 rfl rfl rfl fun w' hm => ⟨_, _, rfl, hm.fewer (.keep rfl .nil), .inl ⟨0, b33, ho, rfl, rfl⟩⟩
  | true =>
    have hg4 := getP_lt x 4
    rw [show (2 : Nat) ^ (4 * 8) = 4294967296 from by decide] at hg4
    have hcv : IntKind.u32.wrap (getP x 4 : Int) = (getP x 4 : Int) := w_in_u32 (by omega)
    refine S_region ?_
    refine R_cons rfl (op_pure (p_move rfl) rfl ?_)
    refine R_cons rfl (op_callV rfl rfl Try.func54 rfl (by kernel_rfl) rfl (Nat.le_refl _) (fun w' hm => by have h := containsNz_any (some ⟨g, 0, none⟩) 64 64 x hxl (by omega) w' (hm.readsAll (b := g) (by repeat (first | exact List.Mem.head _ | apply List.Mem.tail)) hxb); rw [hany] at h; exact h) ?_)
    refine R_cons rfl (op_pure (p_not rfl) rfl ?_)
    refine R_nil ?_
    repeat (first | refine S_scope ?_ | refine S_label ?_ | refine E_noGoto_normal ?_ | refine E_noGoto_ret ?_ | refine E_noGoto_exit ?_ | refine S_yes rfl (by first | with_reducible rfl | decide) ?_ | refine S_no rfl (by first | with_reducible rfl | decide) ?_ | refine S_seq ?_ | refine E_seq ?_ | refine S_block ?_ | refine E_block_normal ?_ | refine S_skip ?_ | refine S_exit ?_ | refine S_ret ?_ | refine E_then_exit ?_ | refine E_then_ret ?_ | refine E_block_ret ?_ | refine E_block_exit ?_ | refine E_block_exit_other rfl ?_)
    refine S_region ?_
    refine R_cons rfl (op_pure (p_move rfl) rfl ?_)
    refine R_cons rfl (op_callV rfl rfl Try.func56 rfl (by kernel_rfl) rfl (Nat.le_refl _) (fun w' hm => get4_any (some ⟨g, 0, none⟩) 64 64 x hxl (by omega) (by omega) w' (hm.readsAll (b := g) (by repeat (first | exact List.Mem.head _ | apply List.Mem.tail)) hxb)) ?_)
    refine R_cons rfl (op_pure (p_move rfl) rfl ?_)
    refine R_cons rfl (op_pure (p_extract (i := 0) rfl rfl) rfl ?_)
    refine R_cons rfl (op_pure (p_extract (i := 1) rfl rfl) rfl ?_)
    refine R_cons rfl (op_pure (p_assign rfl) rfl ?_)
    refine R_cons rfl (op_pure (p_assign rfl) rfl ?_)
    refine R_nil ?_
    repeat (first | refine S_scope ?_ | refine S_label ?_ | refine E_noGoto_normal ?_ | refine E_noGoto_ret ?_ | refine E_noGoto_exit ?_ | refine S_yes rfl (by first | with_reducible rfl | decide) ?_ | refine S_no rfl (by first | with_reducible rfl | decide) ?_ | refine S_seq ?_ | refine E_seq ?_ | refine S_block ?_ | refine E_block_normal ?_ | refine S_skip ?_ | refine S_exit ?_ | refine S_ret ?_ | refine E_then_exit ?_ | refine E_then_ret ?_ | refine E_block_ret ?_ | refine E_block_exit ?_ | refine E_block_exit_other rfl ?_)
    refine S_region ?_
    refine R_cons rfl (op_pure (p_move rfl) rfl ?_)
    refine R_cons rfl (op_pure (p_move rfl) rfl ?_)
    refine R_cons rfl (op_pure (p_convert rfl sc_u64 ik_u32 hcv) rfl ?_)
    refine R_cons rfl (op_pure (p_nilCheck rfl) rfl ?_)
    refine R_cons rfl (op_pure (by first | exact p_fieldAddr0 rfl fd_counts_Count_0 | exact p_fieldAddr rfl fd_counts_Count_0) rfl ?_)
    refine R_cons rfl (op_pure (by first | exact p_fieldAddr0 rfl fd_counts_many_0 | exact p_fieldAddr rfl fd_counts_many_0) rfl ?_)
    refine R_cons rfl (op_store rfl rfl rfl sc_u32 (by repeat (first | exact At.here | apply At.there)) (by exact Nat.le_of_ble_eq_true rfl) ?_)
    refine R_nil ?_
    repeat (first | refine S_scope ?_ | refine S_label ?_ | refine E_noGoto_normal ?_ | refine E_noGoto_ret ?_ | refine E_noGoto_exit ?_ | refine S_yes rfl (by first | with_reducible rfl | decide) ?_ | refine S_no rfl (by first | with_reducible rfl | decide) ?_ | refine S_seq ?_ | refine E_seq ?_ | refine S_block ?_ | refine E_block_normal ?_ | refine S_skip ?_ | refine S_exit ?_ | refine S_ret ?_ | refine E_then_exit ?_ | refine E_then_ret ?_ | refine E_block_ret ?_ | refine E_block_exit ?_ | refine E_block_exit_other rfl ?_)
    have hset : (cntC 0 bd i false).set 0 (.int .u32 (getP x 4 : Int)) = cntC (getP x 4) bd i false := rfl
    rw [hset]
    by_cases h16 : getP x 4 ≤ 16
    · have g5 : decide ((16 : Int) < (getP x 4 : Int)) = false := decide_eq_false (by omega)
      have htl := toldS_length (getP x 4)
      by_cases hsame : toldS (getP x 4) = x
      · have ho : openedS x = some (getP x 4) := by unfold openedS; rw [if_neg (by rw [hany]; decide), if_pos ⟨h16, hsame⟩]
        have hbq : (toldS (getP x 4) == x) = true := beq_iff_eq.2 hsame
        refine S_region ?_
        refine R_cons rfl (op_pure (p_move rfl) rfl ?_)
        refine R_cons rfl (op_pure (p_bin rfl rfl (b_gtr g5)) rfl ?_)
        refine R_cons rfl (op_pure (p_move rfl) rfl ?_)
        first | refine R_pass rfl rfl rfl rfl ?_ | refine R_pass_undef rfl rfl rfl ?_ | refine R_guard rfl rfl rfl (op_pure (p_move rfl) rfl ?_)
        first | refine R_pass rfl rfl rfl rfl ?_ | refine R_pass_undef rfl rfl rfl ?_ | refine R_guard rfl rfl rfl (op_pure (p_nilCheck rfl) rfl ?_)
        first | refine R_pass rfl rfl rfl rfl ?_ | refine R_pass_undef rfl rfl rfl ?_ | refine R_guard rfl rfl rfl (op_pure (by first | exact p_fieldAddr0 rfl fd_counts_Count_0 | exact p_fieldAddr rfl fd_counts_Count_0) rfl ?_)
        first | refine R_pass rfl rfl rfl rfl ?_ | refine R_pass_undef rfl rfl rfl ?_ | refine R_guard rfl rfl rfl (op_pure (p_loadPart rfl row_counts_many (by repeat (first | exact List.Mem.head _ | apply List.Mem.tail)) (by exact Nat.le_of_ble_eq_true rfl) (xs := [.int .u32 (getP x 4 : Int)]) rfl) rfl ?_)
        first | refine R_pass rfl rfl rfl rfl ?_ | refine R_pass_undef rfl rfl rfl ?_ | refine R_guard rfl rfl rfl (op_callBuf (xs := toldS (getP x 4)) rfl rfl Try.func58 rfl (by kernel_rfl) rfl (Nat.le_refl _) (fun w' _ => sector_any (getP x 4) hg4 w') (fun g2 sp2 hok2 => ?_))
        first | refine R_pass rfl rfl rfl rfl ?_ | refine R_pass_undef rfl rfl rfl ?_ | refine R_guard rfl rfl rfl (op_pure (p_move rfl) rfl ?_)
        first | refine R_pass rfl rfl rfl rfl ?_ | refine R_pass_undef rfl rfl rfl ?_ | refine R_guard rfl rfl rfl (op_callV rfl rfl Try.func57 rfl (by kernel_rfl) rfl (Nat.le_refl _) (fun w' hm => by have h := equalB_any (Buf.addr (some (g2, sp2))) (some ⟨g, 0, none⟩) 64 (Buf.cap (some (g2, sp2)) (toldS (getP x 4))) 64 (toldS (getP x 4)) x htl hxl (by omega) w' (by have h0 := hm.readsBuf (u := some (g2, sp2)) (e := 5) (by repeat (first | exact DelB.tail | exact DelB.no rfl | exact DelB.at_ rfl (by repeat (first | exact Del.here | apply Del.there)) | apply DelB.there)) hok2; rw [htl] at h0; exact h0) (hm.readsAll (b := g) (by repeat (first | exact List.Mem.head _ | apply List.Mem.tail)) hxb); rw [hbq] at h; have e : Buf.val (some (g2, sp2)) (toldS (getP x 4)) = .slice (Buf.addr (some (g2, sp2))) 64 (Buf.cap (some (g2, sp2)) (toldS (getP x 4))) := (by unfold Buf.val; rw [htl]); show Calls _ _ [Buf.val (some (g2, sp2)) (toldS (getP x 4)), _].toArray _ _; rw [e]; exact h) ?_)
        first | refine R_pass rfl rfl rfl rfl ?_ | refine R_pass_undef rfl rfl rfl ?_ | refine R_guard rfl rfl rfl (op_pure (p_not rfl) rfl ?_)
        refine R_cons rfl (op_pure (by first | exact p_pick_yes rfl rfl | exact p_pick_no rfl rfl | exact p_pick rfl rfl rfl) rfl ?_)
        refine R_nil ?_
        repeat (first | refine S_scope ?_ | refine S_label ?_ | refine E_noGoto_normal ?_ | refine E_noGoto_ret ?_ | refine E_noGoto_exit ?_ | refine S_yes rfl (by first | with_reducible rfl | decide) ?_ | refine S_no rfl (by first | with_reducible rfl | decide) ?_ | refine S_seq ?_ | refine E_seq ?_ | refine S_block ?_ | refine E_block_normal ?_ | refine S_skip ?_ | refine S_exit ?_ | refine S_ret ?_ | refine E_then_exit ?_ | refine E_then_ret ?_ | refine E_block_ret ?_ | refine E_block_exit ?_ | refine E_block_exit_other rfl ?_)
        refine S_region ?_
        refine R_cons rfl (op_pure (p_move rfl) rfl ?_)
        refine R_cons rfl (op_pure (p_assign rfl) rfl ?_)
        refine R_cons rfl (op_pure (p_assign rfl) rfl ?_)
        refine R_nil ?_
        repeat (first | refine S_scope ?_ | refine S_label ?_ | refine E_noGoto_normal ?_ | refine E_noGoto_ret ?_ | refine E_noGoto_exit ?_ | refine S_yes rfl (by first | with_reducible rfl | decide) ?_ | refine S_no rfl (by first | with_reducible rfl | decide) ?_ | refine S_seq ?_ | refine E_seq ?_ | refine S_block ?_ | refine E_block_normal ?_ | refine S_skip ?_ | refine S_exit ?_ | refine S_ret ?_ | refine E_then_exit ?_ | refine E_then_ret ?_ | refine E_block_ret ?_ | refine E_block_exit ?_ | refine E_block_exit_other rfl ?_)
        exact E_ret2 rfl rfl rfl fun w' hm => ⟨_, _, rfl, hm.fewer (by repeat (first | exact Fewer.nil | refine Fewer.keep rfl ?_ | refine Fewer.drop ?_)), .inl ⟨getP x 4, b33, ho, rfl, rfl⟩⟩
      · have ho : openedS x = none := by unfold openedS; rw [if_neg (by rw [hany]; decide), if_neg (fun h => hsame h.2)]
        have hbq : (toldS (getP x 4) == x) = false := beq_eq_false_iff_ne.2 hsame
        refine S_region ?_
        refine R_cons rfl (op_pure (p_move rfl) rfl ?_)
        refine R_cons rfl (op_pure (p_bin rfl rfl (b_gtr g5)) rfl ?_)
        refine R_cons rfl (op_pure (p_move rfl) rfl ?_)
        first | refine R_pass rfl rfl rfl rfl ?_ | refine R_pass_undef rfl rfl rfl ?_ | refine R_guard rfl rfl rfl (op_pure (p_move rfl) rfl ?_)
        first | refine R_pass rfl rfl rfl rfl ?_ | refine R_pass_undef rfl rfl rfl ?_ | refine R_guard rfl rfl rfl (op_pure (p_nilCheck rfl) rfl ?_)
        first | refine R_pass rfl rfl rfl rfl ?_ | refine R_pass_undef rfl rfl rfl ?_ | refine R_guard rfl rfl rfl (op_pure (by first | exact p_fieldAddr0 rfl fd_counts_Count_0 | exact p_fieldAddr rfl fd_counts_Count_0) rfl ?_)
        first | refine R_pass rfl rfl rfl rfl ?_ | refine R_pass_undef rfl rfl rfl ?_ | refine R_guard rfl rfl rfl (op_pure (p_loadPart rfl row_counts_many (by repeat (first | exact List.Mem.head _ | apply List.Mem.tail)) (by exact Nat.le_of_ble_eq_true rfl) (xs := [.int .u32 (getP x 4 : Int)]) rfl) rfl ?_)
        first | refine R_pass rfl rfl rfl rfl ?_ | refine R_pass_undef rfl rfl rfl ?_ | refine R_guard rfl rfl rfl (op_callBuf (xs := toldS (getP x 4)) rfl rfl Try.func58 rfl (by kernel_rfl) rfl (Nat.le_refl _) (fun w' _ => sector_any (getP x 4) hg4 w') (fun g2 sp2 hok2 => ?_))
        first | refine R_pass rfl rfl rfl rfl ?_ | refine R_pass_undef rfl rfl rfl ?_ | refine R_guard rfl rfl rfl (op_pure (p_move rfl) rfl ?_)
        first | refine R_pass rfl rfl rfl rfl ?_ | refine R_pass_undef rfl rfl rfl ?_ | refine R_guard rfl rfl rfl (op_callV rfl rfl Try.func57 rfl (by kernel_rfl) rfl (Nat.le_refl _) (fun w' hm => by have h := equalB_any (Buf.addr (some (g2, sp2))) (some ⟨g, 0, none⟩) 64 (Buf.cap (some (g2, sp2)) (toldS (getP x 4))) 64 (toldS (getP x 4)) x htl hxl (by omega) w' (by have h0 := hm.readsBuf (u := some (g2, sp2)) (e := 5) (by repeat (first | exact DelB.tail | exact DelB.no rfl | exact DelB.at_ rfl (by repeat (first | exact Del.here | apply Del.there)) | apply DelB.there)) hok2; rw [htl] at h0; exact h0) (hm.readsAll (b := g) (by repeat (first | exact List.Mem.head _ | apply List.Mem.tail)) hxb); rw [hbq] at h; have e : Buf.val (some (g2, sp2)) (toldS (getP x 4)) = .slice (Buf.addr (some (g2, sp2))) 64 (Buf.cap (some (g2, sp2)) (toldS (getP x 4))) := (by unfold Buf.val; rw [htl]); show Calls _ _ [Buf.val (some (g2, sp2)) (toldS (getP x 4)), _].toArray _ _; rw [e]; exact h) ?_)
        first | refine R_pass rfl rfl rfl rfl ?_ | refine R_pass_undef rfl rfl rfl ?_ | refine R_guard rfl rfl rfl (op_pure (p_not rfl) rfl ?_)
        refine R_cons rfl (op_pure (by first | exact p_pick_yes rfl rfl | exact p_pick_no rfl rfl | exact p_pick rfl rfl rfl) rfl ?_)
        refine R_nil ?_
        repeat (first | refine S_scope ?_ | refine S_label ?_ | refine E_noGoto_normal ?_ | refine E_noGoto_ret ?_ | refine E_noGoto_exit ?_ | refine S_yes rfl (by first | with_reducible rfl | decide) ?_ | refine S_no rfl (by first | with_reducible rfl | decide) ?_ | refine S_seq ?_ | refine E_seq ?_ | refine S_block ?_ | refine E_block_normal ?_ | refine S_skip ?_ | refine S_exit ?_ | refine S_ret ?_ | refine E_then_exit ?_ | refine E_then_ret ?_ | refine E_block_ret ?_ | refine E_block_exit ?_ | refine E_block_exit_other rfl ?_)
        refine S_region ?_
        refine R_cons rfl (op_pure (p_assign rfl) rfl ?_)
        refine R_cons rfl (op_pure (p_assign rfl) rfl ?_)
        refine R_nil ?_
        repeat (first | refine S_scope ?_ | refine S_label ?_ | refine E_noGoto_normal ?_ | refine E_noGoto_ret ?_ | refine E_noGoto_exit ?_ | refine S_yes rfl (by first | with_reducible rfl | decide) ?_ | refine S_no rfl (by first | with_reducible rfl | decide) ?_ | refine S_seq ?_ | refine E_seq ?_ | refine S_block ?_ | refine E_block_normal ?_ | refine S_skip ?_ | refine S_exit ?_ | refine S_ret ?_ | refine E_then_exit ?_ | refine E_then_ret ?_ | refine E_block_ret ?_ | refine E_block_exit ?_ | refine E_block_exit_other rfl ?_)
        exact E_ret2 rfl rfl rfl fun w' hm => ⟨_, _, rfl, hm.fewer .nil, .inr ⟨ho, rfl, rfl⟩⟩
    · have g5 : decide ((16 : Int) < (getP x 4 : Int)) = true := decide_eq_true (by omega)
      have ho : openedS x = none := by unfold openedS; rw [if_neg (by rw [hany]; decide), if_neg (fun h => h16 h.1)]
      refine S_region ?_
      refine R_cons rfl (op_pure (p_move rfl) rfl ?_)
      refine R_cons rfl (op_pure (p_bin rfl rfl (b_gtr g5)) rfl ?_)
      refine R_cons rfl (op_pure (p_move rfl) rfl ?_)
      first | refine R_pass rfl rfl rfl rfl ?_ | refine R_pass_undef rfl rfl rfl ?_ | refine R_guard rfl rfl rfl (op_pure (p_move rfl) rfl ?_)
      first | refine R_pass rfl rfl rfl rfl ?_ | refine R_pass_undef rfl rfl rfl ?_ | refine R_guard rfl rfl rfl (op_pure (p_nilCheck rfl) rfl ?_)
      first | refine R_pass rfl rfl rfl rfl ?_ | refine R_pass_undef rfl rfl rfl ?_ | refine R_guard rfl rfl rfl (op_pure (by first | exact p_fieldAddr0 rfl fd_counts_Count_0 | exact p_fieldAddr rfl fd_counts_Count_0) rfl ?_)
      first | refine R_pass rfl rfl rfl rfl ?_ | refine R_pass_undef rfl rfl rfl ?_ | refine R_guard rfl rfl rfl (op_pure (p_loadPart rfl row_counts_many (by repeat (first | exact List.Mem.head _ | apply List.Mem.tail)) (by exact Nat.le_of_ble_eq_true rfl) (xs := [.int .u32 (getP x 4 : Int)]) rfl) rfl ?_)
      first | refine R_pass rfl rfl rfl rfl ?_ | refine R_pass_undef rfl rfl rfl ?_ | refine R_guard rfl rfl rfl (op_callBuf (xs := toldS (getP x 4)) rfl rfl Try.func58 rfl (by kernel_rfl) rfl (Nat.le_refl _) (fun w' _ => sector_any (getP x 4) hg4 w') (fun g2 sp2 hok2 => ?_))
      first | refine R_pass rfl rfl rfl rfl ?_ | refine R_pass_undef rfl rfl rfl ?_ | refine R_guard rfl rfl rfl (op_pure (p_move rfl) rfl ?_)
      first | refine R_pass rfl rfl rfl rfl ?_ | refine R_pass_undef rfl rfl rfl ?_ | refine R_guard rfl rfl rfl (op_callV rfl rfl Try.func57 rfl (by kernel_rfl) rfl (Nat.le_refl _) (fun w' hm => by have h := equalB_any (Buf.addr (some (g2, sp2))) (some ⟨g, 0, none⟩) 64 (Buf.cap (some (g2, sp2)) (toldS (getP x 4))) 64 (toldS (getP x 4)) x htl hxl (by omega) w' (by have h0 := hm.readsBuf (u := some (g2, sp2)) (e := 5) (by repeat (first | exact DelB.tail | exact DelB.no rfl | exact DelB.at_ rfl (by repeat (first | exact Del.here | apply Del.there)) | apply DelB.there)) hok2; rw [htl] at h0; exact h0) (hm.readsAll (b := g) (by repeat (first | exact List.Mem.head _ | apply List.Mem.tail)) hxb); rw [hbq] at h; have e : Buf.val (some (g2, sp2)) (toldS (getP x 4)) = .slice (Buf.addr (some (g2, sp2))) 64 (Buf.cap (some (g2, sp2)) (toldS (getP x 4))) := (by unfold Buf.val; rw [htl]); show Calls _ _ [Buf.val (some (g2, sp2)) (toldS (getP x 4)), _].toArray _ _; rw [e]; exact h) ?_)
      first | refine R_pass rfl rfl rfl rfl ?_ | refine R_pass_undef rfl rfl rfl ?_ | refine R_guard rfl rfl rfl (op_pure (p_not rfl) rfl ?_)
      refine R_cons rfl (op_pure (by first | exact p_pick_yes rfl rfl | exact p_pick_no rfl rfl | exact p_pick rfl rfl rfl) rfl ?_)
      refine R_nil ?_
      repeat (first | refine S_scope ?_ | refine S_label ?_ | refine E_noGoto_normal ?_ | refine E_noGoto_ret ?_ | refine E_noGoto_exit ?_ | refine S_yes rfl (by first | with_reducible rfl | decide) ?_ | refine S_no rfl (by first | with_reducible rfl | decide) ?_ | refine S_seq ?_ | refine E_seq ?_ | refine S_block ?_ | refine E_block_normal ?_ | refine S_skip ?_ | refine S_exit ?_ | refine S_ret ?_ | refine E_then_exit ?_ | refine E_then_ret ?_ | refine E_block_ret ?_ | refine E_block_exit ?_ | refine E_block_exit_other rfl ?_)
      refine S_region ?_
      refine R_cons rfl (op_pure (p_assign rfl) rfl ?_)
      refine R_cons rfl (op_pure (p_assign rfl) rfl ?_)
      refine R_nil ?_
      repeat (first | refine S_scope ?_ | refine S_label ?_ | refine E_noGoto_normal ?_ | refine E_noGoto_ret ?_ | refine E_noGoto_exit ?_ | refine S_yes rfl (by first | with_reducible rfl | decide) ?_ | refine S_no rfl (by first | with_reducible rfl | decide) ?_ | refine S_seq ?_ | refine E_seq ?_ | refine S_block ?_ | refine E_block_normal ?_ | refine S_skip ?_ | refine S_exit ?_ | refine S_ret ?_ | refine E_then_exit ?_ | refine E_then_ret ?_ | refine E_block_ret ?_ | refine E_block_exit ?_ | refine E_block_exit_other rfl ?_)
      exact E_ret2 rfl rfl rfl fun w' hm => ⟨_, _, rfl, hm.fewer .nil, .inr ⟨ho, rfl, rfl⟩⟩

theorem next1_D (b1 b3 bc used bd at_ : Nat) (down : Bool) (e : Int) (u : FrameMode) (w : World) (hm : Mem w.heap.size ⟨w, [b1, b3, bc]⟩ [(b1, .cells [.pointer (some ⟨bc, 0, none⟩)].toArray 48 (0, 0)), (b3, .cells [.int .i64 e].toArray 36 (0, 0)), (bc, .cells (cntC used bd at_ down).toArray 103 (0, 0))] w) :
    CallsD Try.prog 60 [.pointer (some ⟨b1, 0, none⟩), .pointer (some ⟨b3, 0, none⟩)].toArray u w fun r u' w' => u' = u ∧ (∃ v, r = .returned v) ∧ Mem w.heap.size ⟨w, [b1, b3, bc]⟩ [(b1, .cells [.pointer (some ⟨bc, 0, none⟩)].toArray 48 (0, 0)), (b3, .cells [.int .i64 e].toArray 36 (0, 0)), (bc, .cells (cntC used bd at_ (down || e != 0)).toArray 103 (0, 0))] w' := by
  refine deferred_at Try.func60 rfl Try.ntmps60 (by simp) hm ?_
  cases down with
  | true =>
    repeat (first | refine S_scope ?_ | refine S_label ?_ | refine E_noGoto_normal ?_ | refine E_noGoto_ret ?_ | refine E_noGoto_exit ?_ | refine S_yes rfl (by first | with_reducible rfl | decide) ?_ | refine S_no rfl (by first | with_reducible rfl | decide) ?_ | refine S_seq ?_ | refine E_seq ?_ | refine S_block ?_ | refine E_block_normal ?_ | refine S_skip ?_ | refine S_exit ?_ | refine S_ret ?_ | refine E_then_exit ?_ | refine E_then_ret ?_ | refine E_block_ret ?_ | refine E_block_exit ?_ | refine E_block_exit_other rfl ?_)
    refine S_tail 11 (by kernel_rfl) (by kernel_rfl) (by kernel_rfl) (by kernel_rfl) ?_
    refine Q_cons (Still1.of_pure (p_load rfl sc_counts_Count (by repeat (first | exact List.Mem.head _ | apply List.Mem.tail)) (by rfl))) rfl ?_
    refine Q_cons (Still1.of_pure (p_load rfl sc_counts_Count (by repeat (first | exact List.Mem.head _ | apply List.Mem.tail)) (by rfl))) rfl ?_
    refine Q_cons (Still1.of_pure (p_nilCheck rfl)) rfl ?_
    refine Q_cons (Still1.of_pure (by first | exact p_fieldAddr0 rfl fd_counts_Count_3 | exact p_fieldAddr rfl fd_counts_Count_3)) rfl ?_
    refine Q_cons (Still1.of_pure (p_load rfl sc_bool (by repeat (first | exact List.Mem.head _ | apply List.Mem.tail)) (by rfl))) rfl ?_
    refine Q_cons (Still1.of_pure (p_move rfl)) rfl ?_
    first | refine Q_pass rfl rfl rfl rfl ?_ | refine Q_pass_undef rfl rfl rfl ?_ | refine Q_guard rfl rfl (Still1.of_pure (p_load rfl sc_Errno (by repeat (first | exact List.Mem.head _ | apply List.Mem.tail)) (by rfl))) rfl ?_
    first | refine Q_pass rfl rfl rfl rfl ?_ | refine Q_pass_undef rfl rfl rfl ?_ | refine Q_guard rfl rfl (Still1.of_pure (p_bin rfl rfl (b_neq (by first | assumption | exact bne_iff_ne.2 (by omega) | exact bne_eq_false_iff_eq.2 (by omega) | rfl)))) rfl ?_
    refine Q_cons (Still1.of_pure (by first | exact p_pick_yes rfl rfl | exact p_pick_no rfl rfl | exact p_pick rfl rfl rfl)) rfl ?_
    refine Q_cons (Still1.of_pure (p_nilCheck rfl)) rfl ?_
    refine Q_cons (Still1.of_pure (by first | exact p_fieldAddr0 rfl fd_counts_Count_3 | exact p_fieldAddr rfl fd_counts_Count_3)) rfl ?_
    refine Q_nop ?_
    refine Q_nil ?_
    refine E_tail ?_
    refine R_cons rfl (op_store rfl rfl rfl sc_bool (by repeat (first | exact At.here | apply At.there)) (by exact Nat.le_of_ble_eq_true rfl) ?_)
    refine R_nil ?_
    repeat (first | refine S_scope ?_ | refine S_label ?_ | refine E_noGoto_normal ?_ | refine E_noGoto_ret ?_ | refine E_noGoto_exit ?_ | refine S_yes rfl (by first | with_reducible rfl | decide) ?_ | refine S_no rfl (by first | with_reducible rfl | decide) ?_ | refine S_seq ?_ | refine E_seq ?_ | refine S_block ?_ | refine E_block_normal ?_ | refine S_skip ?_ | refine S_exit ?_ | refine S_ret ?_ | refine E_then_exit ?_ | refine E_then_ret ?_ | refine E_block_ret ?_ | refine E_block_exit ?_ | refine E_block_exit_other rfl ?_)
    exact E_end0 rfl fun w' hm => ⟨⟨_, rfl⟩, hm⟩
  | false =>
    cases he : (e != 0) with
    | true =>
      repeat (first | refine S_scope ?_ | refine S_label ?_ | refine E_noGoto_normal ?_ | refine E_noGoto_ret ?_ | refine E_noGoto_exit ?_ | refine S_yes rfl (by first | with_reducible rfl | decide) ?_ | refine S_no rfl (by first | with_reducible rfl | decide) ?_ | refine S_seq ?_ | refine E_seq ?_ | refine S_block ?_ | refine E_block_normal ?_ | refine S_skip ?_ | refine S_exit ?_ | refine S_ret ?_ | refine E_then_exit ?_ | refine E_then_ret ?_ | refine E_block_ret ?_ | refine E_block_exit ?_ | refine E_block_exit_other rfl ?_)
      refine S_tail 11 (by kernel_rfl) (by kernel_rfl) (by kernel_rfl) (by kernel_rfl) ?_
      refine Q_cons (Still1.of_pure (p_load rfl sc_counts_Count (by repeat (first | exact List.Mem.head _ | apply List.Mem.tail)) (by rfl))) rfl ?_
      refine Q_cons (Still1.of_pure (p_load rfl sc_counts_Count (by repeat (first | exact List.Mem.head _ | apply List.Mem.tail)) (by rfl))) rfl ?_
      refine Q_cons (Still1.of_pure (p_nilCheck rfl)) rfl ?_
      refine Q_cons (Still1.of_pure (by first | exact p_fieldAddr0 rfl fd_counts_Count_3 | exact p_fieldAddr rfl fd_counts_Count_3)) rfl ?_
      refine Q_cons (Still1.of_pure (p_load rfl sc_bool (by repeat (first | exact List.Mem.head _ | apply List.Mem.tail)) (by rfl))) rfl ?_
      refine Q_cons (Still1.of_pure (p_move rfl)) rfl ?_
      first | refine Q_pass rfl rfl rfl rfl ?_ | refine Q_pass_undef rfl rfl rfl ?_ | refine Q_guard rfl rfl (Still1.of_pure (p_load rfl sc_Errno (by repeat (first | exact List.Mem.head _ | apply List.Mem.tail)) (by rfl))) rfl ?_
      first | refine Q_pass rfl rfl rfl rfl ?_ | refine Q_pass_undef rfl rfl rfl ?_ | refine Q_guard rfl rfl (Still1.of_pure (p_bin rfl rfl (b_neq he))) rfl ?_
      refine Q_cons (Still1.of_pure (by first | exact p_pick_yes rfl rfl | exact p_pick_no rfl rfl | exact p_pick rfl rfl rfl)) rfl ?_
      refine Q_cons (Still1.of_pure (p_nilCheck rfl)) rfl ?_
      refine Q_cons (Still1.of_pure (by first | exact p_fieldAddr0 rfl fd_counts_Count_3 | exact p_fieldAddr rfl fd_counts_Count_3)) rfl ?_
      refine Q_nop ?_
      refine Q_nil ?_
      refine E_tail ?_
      refine R_cons rfl (op_store rfl rfl rfl sc_bool (by repeat (first | exact At.here | apply At.there)) (by exact Nat.le_of_ble_eq_true rfl) ?_)
      refine R_nil ?_
      repeat (first | refine S_scope ?_ | refine S_label ?_ | refine E_noGoto_normal ?_ | refine E_noGoto_ret ?_ | refine E_noGoto_exit ?_ | refine S_yes rfl (by first | with_reducible rfl | decide) ?_ | refine S_no rfl (by first | with_reducible rfl | decide) ?_ | refine S_seq ?_ | refine E_seq ?_ | refine S_block ?_ | refine E_block_normal ?_ | refine S_skip ?_ | refine S_exit ?_ | refine S_ret ?_ | refine E_then_exit ?_ | refine E_then_ret ?_ | refine E_block_ret ?_ | refine E_block_exit ?_ | refine E_block_exit_other rfl ?_)
      exact E_end0 rfl fun w' hm => ⟨⟨_, rfl⟩, hm⟩
    | false =>
      repeat (first | refine S_scope ?_ | refine S_label ?_ | refine E_noGoto_normal ?_ | refine E_noGoto_ret ?_ | refine E_noGoto_exit ?_ | refine S_yes rfl (by first | with_reducible rfl | decide) ?_ | refine S_no rfl (by first | with_reducible rfl | decide) ?_ | refine S_seq ?_ | refine E_seq ?_ | refine S_block ?_ | refine E_block_normal ?_ | refine S_skip ?_ | refine S_exit ?_ | refine S_ret ?_ | refine E_then_exit ?_ | refine E_then_ret ?_ | refine E_block_ret ?_ | refine E_block_exit ?_ | refine E_block_exit_other rfl ?_)
      refine S_tail 11 (by kernel_rfl) (by kernel_rfl) (by kernel_rfl) (by kernel_rfl) ?_
      refine Q_cons (Still1.of_pure (p_load rfl sc_counts_Count (by repeat (first | exact List.Mem.head _ | apply List.Mem.tail)) (by rfl))) rfl ?_
      refine Q_cons (Still1.of_pure (p_load rfl sc_counts_Count (by repeat (first | exact List.Mem.head _ | apply List.Mem.tail)) (by rfl))) rfl ?_
      refine Q_cons (Still1.of_pure (p_nilCheck rfl)) rfl ?_
      refine Q_cons (Still1.of_pure (by first | exact p_fieldAddr0 rfl fd_counts_Count_3 | exact p_fieldAddr rfl fd_counts_Count_3)) rfl ?_
      refine Q_cons (Still1.of_pure (p_load rfl sc_bool (by repeat (first | exact List.Mem.head _ | apply List.Mem.tail)) (by rfl))) rfl ?_
      refine Q_cons (Still1.of_pure (p_move rfl)) rfl ?_
      first | refine Q_pass rfl rfl rfl rfl ?_ | refine Q_pass_undef rfl rfl rfl ?_ | refine Q_guard rfl rfl (Still1.of_pure (p_load rfl sc_Errno (by repeat (first | exact List.Mem.head _ | apply List.Mem.tail)) (by rfl))) rfl ?_
      first | refine Q_pass rfl rfl rfl rfl ?_ | refine Q_pass_undef rfl rfl rfl ?_ | refine Q_guard rfl rfl (Still1.of_pure (p_bin rfl rfl (b_neq he))) rfl ?_
      refine Q_cons (Still1.of_pure (by first | exact p_pick_yes rfl rfl | exact p_pick_no rfl rfl | exact p_pick rfl rfl rfl)) rfl ?_
      refine Q_cons (Still1.of_pure (p_nilCheck rfl)) rfl ?_
      refine Q_cons (Still1.of_pure (by first | exact p_fieldAddr0 rfl fd_counts_Count_3 | exact p_fieldAddr rfl fd_counts_Count_3)) rfl ?_
      refine Q_nop ?_
      refine Q_nil ?_
      refine E_tail ?_
      refine R_cons rfl (op_store rfl rfl rfl sc_bool (by repeat (first | exact At.here | apply At.there)) (by exact Nat.le_of_ble_eq_true rfl) ?_)
      refine R_nil ?_
      repeat (first | refine S_scope ?_ | refine S_label ?_ | refine E_noGoto_normal ?_ | refine E_noGoto_ret ?_ | refine E_noGoto_exit ?_ | refine S_yes rfl (by first | with_reducible rfl | decide) ?_ | refine S_no rfl (by first | with_reducible rfl | decide) ?_ | refine S_seq ?_ | refine E_seq ?_ | refine S_block ?_ | refine E_block_normal ?_ | refine S_skip ?_ | refine S_exit ?_ | refine S_ret ?_ | refine E_then_exit ?_ | refine E_then_ret ?_ | refine E_block_ret ?_ | refine E_block_exit ?_ | refine E_block_exit_other rfl ?_)
      exact E_end0 rfl fun w' hm => ⟨⟨_, rfl⟩, hm⟩
end Go.Proofs.Ytfdlafjifjndeaa
