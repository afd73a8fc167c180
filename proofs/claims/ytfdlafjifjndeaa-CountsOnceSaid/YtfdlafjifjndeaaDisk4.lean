
/-
  The layer disks: one byte of a sector turned; the disk's fuse.
-/
import Derived.Test.YtfdlafjifjndeaaDisk3
namespace Go.Proofs.Ytfdlafjifjndeaa
open Go.RowKit Go.K
attribute [local irreducible] Exit.then Exit.inBlock Exit.noGoto bodyPost Code.wp QL Sx Rx Qx Ex Dx Op1 Pure1 Still1 K.Sub Calm Code.wpIn
set_option linter.unusedVariables false
theorem sec_cell : ∀ (l : List (List UInt8)) (h : Secs l) (i : Nat) (x : List UInt8) (hx : l[i]? = some x) (p : Nat) (hp : p < 64) (sp : List Value), (secV l ++ sp)[0 + i * 64 + p]? = some (.int .u8 ((x.getD p 0).toNat : Int))
  | [], _, _, _, hx, _, _, _ => by cases hx
  | y :: r, h, 0, x, hx, p, hp, sp => by
    have hy : y.length = 64 := h y (List.mem_cons_self ..)
    simp only [List.getElem?_cons_zero, Option.some.injEq] at hx
    subst hx
    rw [show secV (y :: r) = bytesV y ++ secV r from List.flatMap_cons, List.append_assoc, show 0 + 0 * 64 + p = p by omega, List.getElem?_append_left (by rw [bytesV_length, hy]; exact hp)]
    exact bytesV_get (by omega)
  | y :: r, h, i + 1, x, hx, p, hp, sp => by
    have hy : y.length = 64 := h y (List.mem_cons_self ..)
    rw [List.getElem?_cons_succ] at hx
    rw [show secV (y :: r) = bytesV y ++ secV r from List.flatMap_cons, List.append_assoc, List.getElem?_append_right (by rw [bytesV_length, hy]; omega), bytesV_length, hy, show 0 + (i + 1) * 64 + p - 64 = 0 + i * 64 + p by omega]
    exact sec_cell r (fun z hz => h z (List.mem_cons_of_mem _ hz)) i x hx p hp sp
theorem sec_store : ∀ (l : List (List UInt8)) (h : Secs l) (i : Nat) (x : List UInt8) (hx : l[i]? = some x) (p : Nat) (hp : p < 64) (b : UInt8) (sp : List Value), (secV l ++ sp).set (0 + i * 64 + p) (.int .u8 (b.toNat : Int)) = secV (l.set i (x.set p b)) ++ sp
  | [], _, _, _, hx, _, _, _, _ => by cases hx
  | y :: r, h, 0, x, hx, p, hp, b, sp => by
    have hy : y.length = 64 := h y (List.mem_cons_self ..)
    simp only [List.getElem?_cons_zero, Option.some.injEq] at hx
    subst hx
    rw [List.set_cons_zero, show secV (y :: r) = bytesV y ++ secV r from List.flatMap_cons, show secV (y.set p b :: r) = bytesV (y.set p b) ++ secV r from List.flatMap_cons, List.append_assoc, List.append_assoc, show 0 + 0 * 64 + p = p by omega, List.set_append_left _ _ (by rw [bytesV_length, hy]; exact hp), bytesV_set]
  | y :: r, h, i + 1, x, hx, p, hp, b, sp => by
    have hy : y.length = 64 := h y (List.mem_cons_self ..)
    rw [List.getElem?_cons_succ] at hx
    rw [List.set_cons_succ, show secV (y :: r) = bytesV y ++ secV r from List.flatMap_cons, show secV (y :: r.set i (x.set p b)) = bytesV y ++ secV (r.set i (x.set p b)) from List.flatMap_cons, List.append_assoc, List.append_assoc, List.set_append_right _ _ (by rw [bytesV_length, hy]; omega), bytesV_length, hy, show 0 + (i + 1) * 64 + p - 64 = 0 + i * 64 + p by omega,
      sec_store r (fun z hz => h z (List.mem_cons_of_mem _ hz)) i x hx p hp b sp]
attribute [local irreducible] secV leftS blownS

set_option maxHeartbeats 1000000 in
theorem dturn_any (bd bs bn n cs cn : Nat) (vw : Value) (left : Int) (sure now : List (List UInt8)) (sps spn : List Value) (hS : Secs sure) (hN : Secs now) (hsl : sure.length = n) (hnl : now.length = n) (i : Nat) (hi : i < n) (x : List UInt8) (hx : now[i]? = some x) (p : Nat) (hp : p < 64) (by_ : UInt8) (w : World)
    (hm : Mem w.heap.size ⟨w, [bd, bs, bn]⟩ [(bd, .cells (diskC (.slice (some ⟨bs, 0, none⟩) n cs) (.slice (some ⟨bn, 0, none⟩) n cn) vw left false).toArray 113 (0, 0)), (bs, .cells (secV sure ++ sps).toArray 115 (0, 0)), (bn, .cells (secV now ++ spn).toArray 115 (0, 0))] w) :
    Calls Try.prog 24 [.pointer (some ⟨bd, 0, none⟩), .int .i64 (i : Int), .int .i64 (p : Int), .int .u8 (by_.toNat : Int)].toArray w fun e w' => ∃ s : Unit, e = .returned (.int .i64 0) ∧ Mem w.heap.size ⟨w, [bd, bs, bn]⟩ [(bd, .cells (diskC (.slice (some ⟨bs, 0, none⟩) n cs) (.slice (some ⟨bn, 0, none⟩) n cn) (.slice none 0 0) left false).toArray 113 (0, 0)), (bs, .cells (secV (now.set i (x.set p (x.getD p 0 ^^^ by_))) ++ sps).toArray 115 (0, 0)), (bn, .cells (secV (now.set i (x.set p (x.getD p 0 ^^^ by_))) ++ spn).toArray 115 (0, 0))] w' ∧ True := by
  have hn0 : n ≠ 0 := by omega
  have g1 : decide ((i : Int) < 0) = false := decide_eq_false (by omega)
  have g2 : decide ((n : Int) ≤ (i : Int)) = false := decide_eq_false (by omega)
  have g3 : decide ((p : Int) < 0) = false := decide_eq_false (by omega)
  have g4 : decide ((64 : Int) ≤ (p : Int)) = false := decide_eq_false (by omega)
  have hxl : x.length = 64 := hN x (List.mem_of_getElem? hx)
  have hcell := sec_cell now hN i x hx p hp spn
  have hset := sec_store now hN i x hx p hp (x.getD p 0 ^^^ by_) spn
  have hin : 0 + i * 64 + p < (secV now ++ spn).length := by rw [List.length_append, secV_length hN, hnl]; omega
  have hN2 : Secs (now.set i (x.set p (x.getD p 0 ^^^ by_))) := hN.set i (by rw [List.length_set, hxl])
  have hn2 : (now.set i (x.set p (x.getD p 0 ^^^ by_))).length = n := by rw [List.length_set, hnl]
  refine enter_at Try.func24 rfl Try.ntmps24 (by simp) hm ?_
  repeat (first | refine S_scope ?_ | refine S_label ?_ | refine E_noGoto_normal ?_ | refine E_noGoto_ret ?_ | refine E_noGoto_exit ?_ | refine S_yes rfl (by first | with_reducible rfl | decide) ?_ | refine S_no rfl (by first | with_reducible rfl | decide) ?_ | refine S_seq ?_ | refine E_seq ?_ | refine S_block ?_ | refine E_block_normal ?_ | refine S_skip ?_ | refine S_exit ?_ | refine S_ret ?_ | refine E_then_exit ?_ | refine E_then_ret ?_ | refine E_block_ret ?_ | refine E_block_exit ?_ | refine E_block_exit_other rfl ?_)
  refine S_region ?_
  refine R_cons rfl (op_pure (p_assign rfl) rfl ?_)
  refine R_nil ?_
  repeat (first | refine S_scope ?_ | refine S_label ?_ | refine E_noGoto_normal ?_ | refine E_noGoto_ret ?_ | refine E_noGoto_exit ?_ | refine S_yes rfl (by first | with_reducible rfl | decide) ?_ | refine S_no rfl (by first | with_reducible rfl | decide) ?_ | refine S_seq ?_ | refine E_seq ?_ | refine S_block ?_ | refine E_block_normal ?_ | refine S_skip ?_ | refine S_exit ?_ | refine S_ret ?_ | refine E_then_exit ?_ | refine E_then_ret ?_ | refine E_block_ret ?_ | refine E_block_exit ?_ | refine E_block_exit_other rfl ?_)
  refine S_region ?_
  refine R_cons rfl (op_pure (p_move rfl) rfl ?_)
  refine R_cons rfl (op_callV rfl rfl Try.func62 rfl (by kernel_rfl) rfl (Nat.le_refl _) (fun w' hm => dnone_any bd n cs _ _ vw left false hn0 w' (hm.own (bd, _) (by repeat (first | exact List.Mem.head _ | apply List.Mem.tail))).2) ?_)
  refine R_cons rfl (op_pure (p_assign rfl) rfl ?_)
  refine R_nil ?_
  repeat (first | refine S_scope ?_ | refine S_label ?_ | refine E_noGoto_normal ?_ | refine E_noGoto_ret ?_ | refine E_noGoto_exit ?_ | refine S_yes rfl (by first | with_reducible rfl | decide) ?_ | refine S_no rfl (by first | with_reducible rfl | decide) ?_ | refine S_seq ?_ | refine E_seq ?_ | refine S_block ?_ | refine E_block_normal ?_ | refine S_skip ?_ | refine S_exit ?_ | refine S_ret ?_ | refine E_then_exit ?_ | refine E_then_ret ?_ | refine E_block_ret ?_ | refine E_block_exit ?_ | refine E_block_exit_other rfl ?_)
  refine S_region ?_
  refine R_cons rfl (op_pure (p_move rfl) rfl ?_)
  refine R_cons rfl (op_pure (p_bin rfl rfl (b_lss g1)) rfl ?_)
  refine R_cons rfl (op_pure (p_move rfl) rfl ?_)
  first | refine R_pass rfl rfl rfl rfl ?_ | refine R_pass_undef rfl rfl rfl ?_ | refine R_guard rfl rfl rfl (op_pure (p_move rfl) rfl ?_)
  first | refine R_pass rfl rfl rfl rfl ?_ | refine R_pass_undef rfl rfl rfl ?_ | refine R_guard rfl rfl rfl (op_pure (p_move rfl) rfl ?_)
  first | refine R_pass rfl rfl rfl rfl ?_ | refine R_pass_undef rfl rfl rfl ?_ | refine R_guard rfl rfl rfl (op_pure (p_nilCheck rfl) rfl ?_)
  first | refine R_pass rfl rfl rfl rfl ?_ | refine R_pass_undef rfl rfl rfl ?_ | refine R_guard rfl rfl rfl (op_pure (by first | exact p_fieldAddr0 rfl fd_disks_Disk_1 | exact p_fieldAddr rfl fd_disks_Disk_1) rfl ?_)
  first | refine R_pass rfl rfl rfl rfl ?_ | refine R_pass_undef rfl rfl rfl ?_ | refine R_guard rfl rfl rfl (op_pure (p_load rfl sc_disks_sector (by repeat (first | exact List.Mem.head _ | apply List.Mem.tail)) (by rfl)) rfl ?_)
  first | refine R_pass rfl rfl rfl rfl ?_ | refine R_pass_undef rfl rfl rfl ?_ | refine R_guard rfl rfl rfl (op_pure (p_lenR rfl slr_disks_sector) rfl ?_)
  first | refine R_pass rfl rfl rfl rfl ?_ | refine R_pass_undef rfl rfl rfl ?_ | refine R_guard rfl rfl rfl (op_pure (p_bin rfl rfl (b_geq g2)) rfl ?_)
  refine R_cons rfl (op_pure (by first | exact p_pick_yes rfl rfl | exact p_pick_no rfl rfl | exact p_pick rfl rfl rfl) rfl ?_)
  refine R_cons rfl (op_pure (p_move rfl) rfl ?_)
  first | refine R_pass rfl rfl rfl rfl ?_ | refine R_pass_undef rfl rfl rfl ?_ | refine R_guard rfl rfl rfl (op_pure (p_move rfl) rfl ?_)
  first | refine R_pass rfl rfl rfl rfl ?_ | refine R_pass_undef rfl rfl rfl ?_ | refine R_guard rfl rfl rfl (op_pure (p_bin rfl rfl (b_lss g3)) rfl ?_)
  refine R_cons rfl (op_pure (by first | exact p_pick_yes rfl rfl | exact p_pick_no rfl rfl | exact p_pick rfl rfl rfl) rfl ?_)
  refine R_cons rfl (op_pure (p_move rfl) rfl ?_)
  first | refine R_pass rfl rfl rfl rfl ?_ | refine R_pass_undef rfl rfl rfl ?_ | refine R_guard rfl rfl rfl (op_pure (p_move rfl) rfl ?_)
  first | refine R_pass rfl rfl rfl rfl ?_ | refine R_pass_undef rfl rfl rfl ?_ | refine R_guard rfl rfl rfl (op_pure (p_bin rfl rfl (b_geq g4)) rfl ?_)
  refine R_cons rfl (op_pure (by first | exact p_pick_yes rfl rfl | exact p_pick_no rfl rfl | exact p_pick rfl rfl rfl) rfl ?_)
  refine R_cons rfl (op_pure (p_assign rfl) rfl ?_)
  refine R_nil ?_
  repeat (first | refine S_scope ?_ | refine S_label ?_ | refine E_noGoto_normal ?_ | refine E_noGoto_ret ?_ | refine E_noGoto_exit ?_ | refine S_yes rfl (by first | with_reducible rfl | decide) ?_ | refine S_no rfl (by first | with_reducible rfl | decide) ?_ | refine S_seq ?_ | refine E_seq ?_ | refine S_block ?_ | refine E_block_normal ?_ | refine S_skip ?_ | refine S_exit ?_ | refine S_ret ?_ | refine E_then_exit ?_ | refine E_then_ret ?_ | refine E_block_ret ?_ | refine E_block_exit ?_ | refine E_block_exit_other rfl ?_)
  refine S_region ?_
  refine R_cons rfl (op_pure (p_move rfl) rfl ?_)
  refine R_cons rfl (op_pure (p_nilCheck rfl) rfl ?_)
  refine R_cons rfl (op_pure (by first | exact p_fieldAddr0 rfl fd_disks_Disk_4 | exact p_fieldAddr rfl fd_disks_Disk_4) rfl ?_)
  refine R_cons rfl (op_pure (p_load rfl sc_bool (by repeat (first | exact List.Mem.head _ | apply List.Mem.tail)) (by rfl)) rfl ?_)
  refine R_cons rfl (op_pure (p_assign rfl) rfl ?_)
  refine R_nil ?_
  repeat (first | refine S_scope ?_ | refine S_label ?_ | refine E_noGoto_normal ?_ | refine E_noGoto_ret ?_ | refine E_noGoto_exit ?_ | refine S_yes rfl (by first | with_reducible rfl | decide) ?_ | refine S_no rfl (by first | with_reducible rfl | decide) ?_ | refine S_seq ?_ | refine E_seq ?_ | refine S_block ?_ | refine E_block_normal ?_ | refine S_skip ?_ | refine S_exit ?_ | refine S_ret ?_ | refine E_then_exit ?_ | refine E_then_ret ?_ | refine E_block_ret ?_ | refine E_block_exit ?_ | refine E_block_exit_other rfl ?_)
  refine S_tail 13 (by kernel_rfl) (by kernel_rfl) (by kernel_rfl) (by kernel_rfl) ?_
  refine Q_cons (Still1.of_pure (p_move rfl)) rfl ?_
  refine Q_cons (Still1.of_pure (p_nilCheck rfl)) rfl ?_
  refine Q_cons (Still1.of_pure (by first | exact p_fieldAddr0 rfl fd_disks_Disk_1 | exact p_fieldAddr rfl fd_disks_Disk_1)) rfl ?_
  refine Q_cons (Still1.of_pure (p_load rfl sc_disks_sector (by repeat (first | exact List.Mem.head _ | apply List.Mem.tail)) (by rfl))) rfl ?_
  refine Q_cons (Still1.of_pure (p_move rfl)) rfl ?_
  refine Q_cons (Still1.of_pure (p_move rfl)) rfl ?_
  refine Q_cons (Still1.of_pure (p_indexR (j := i) rfl rfl rfl slr_disks_sector hi)) rfl ?_
  refine Q_cons (Still1.of_pure (p_indexArr (j := p) rfl rfl rfl arr_disks_sector hp)) rfl ?_
  refine Q_cons (Still1.of_pure (p_load rfl sc_u8 (by repeat (first | exact List.Mem.head _ | apply List.Mem.tail)) hcell)) rfl ?_
  refine Q_cons (Still1.of_pure (p_move rfl)) rfl ?_
  refine Q_cons (Still1.of_pure (p_bin rfl rfl (b_xor (k8_xor _ _)))) rfl ?_
  refine Q_cons (Still1.of_pure (p_indexR (j := i) rfl rfl rfl slr_disks_sector hi)) rfl ?_
  refine Q_cons (Still1.of_pure (p_indexArr (j := p) rfl rfl rfl arr_disks_sector hp)) rfl ?_
  refine Q_nop ?_
  refine Q_nil ?_
  refine E_tail ?_
  refine R_cons rfl (op_store rfl rfl rfl sc_u8 (by repeat (first | exact At.here | apply At.there)) hin ?_)
  refine R_nil ?_
  repeat (first | refine S_scope ?_ | refine S_label ?_ | refine E_noGoto_normal ?_ | refine E_noGoto_ret ?_ | refine E_noGoto_exit ?_ | refine S_yes rfl (by first | with_reducible rfl | decide) ?_ | refine S_no rfl (by first | with_reducible rfl | decide) ?_ | refine S_seq ?_ | refine E_seq ?_ | refine S_block ?_ | refine E_block_normal ?_ | refine S_skip ?_ | refine S_exit ?_ | refine S_ret ?_ | refine E_then_exit ?_ | refine E_then_ret ?_ | refine E_block_ret ?_ | refine E_block_exit ?_ | refine E_block_exit_other rfl ?_)
  rw [hset]
  refine S_region ?_
  refine R_cons rfl (op_pure (p_move rfl) rfl ?_)
  refine R_cons rfl (op_callH (Hc := [(bd, .cells (diskC (.slice (some ⟨bs, 0, none⟩) n cs) (.slice (some ⟨bn, 0, none⟩) n cn) vw left false).toArray 113 (0, 0)), (bs, .cells (secV sure ++ sps).toArray 115 (0, 0)), (bn, .cells (secV (now.set i (x.set p (x.getD p 0 ^^^ by_))) ++ spn).toArray 115 (0, 0))]) (K := []) rfl rfl Try.func63 rfl (by kernel_rfl) rfl (by rw [List.append_nil]) (fun w' hm => dsettle_any bd bs bn n cs cn vw left false sure (now.set i (x.set p (x.getD p 0 ^^^ by_))) sps spn hS hN2 hsl hn2 hn0 w' hm) (fun v H' hp => ?_))
  refine R_nil ?_
  obtain ⟨rfl, rfl⟩ := hp
  repeat (first | refine S_scope ?_ | refine S_label ?_ | refine E_noGoto_normal ?_ | refine E_noGoto_ret ?_ | refine E_noGoto_exit ?_ | refine S_yes rfl (by first | with_reducible rfl | decide) ?_ | refine S_no rfl (by first | with_reducible rfl | decide) ?_ | refine S_seq ?_ | refine E_seq ?_ | refine S_block ?_ | refine E_block_normal ?_ | refine S_skip ?_ | refine S_exit ?_ | refine S_ret ?_ | refine E_then_exit ?_ | refine E_then_ret ?_ | refine E_block_ret ?_ | refine E_block_exit ?_ | refine E_block_exit_other rfl ?_)
  refine S_region ?_
  refine R_cons rfl (op_pure (p_assign rfl) rfl ?_)
  refine R_nil ?_
  repeat (first | refine S_scope ?_ | refine S_label ?_ | refine E_noGoto_normal ?_ | refine E_noGoto_ret ?_ | refine E_noGoto_exit ?_ | refine S_yes rfl (by first | with_reducible rfl | decide) ?_ | refine S_no rfl (by first | with_reducible rfl | decide) ?_ | refine S_seq ?_ | refine E_seq ?_ | refine S_block ?_ | refine E_block_normal ?_ | refine S_skip ?_ | refine S_exit ?_ | refine S_ret ?_ | refine E_then_exit ?_ | refine E_then_ret ?_ | refine E_block_ret ?_ | refine E_block_exit ?_ | refine E_block_exit_other rfl ?_)
  exact E_ret1 rfl rfl fun w' hm => ⟨(), rfl, hm, trivial⟩
theorem dfuse_any (bd n c : Nat) (A : Option Addr) (vn vw : Value) (left : Int) (bl : Bool) (hn : n ≠ 0) (by_ : Int) (w : World)
    (hm : Mem w.heap.size ⟨w, [bd]⟩ [(bd, .cells (diskC (.slice A n c) vn vw left bl).toArray 113 (0, 0))] w) :
    Calls Try.prog 25 [.pointer (some ⟨bd, 0, none⟩), .int .i64 by_].toArray w fun e w' => ∃ s : Unit, e = .returned (.int .i64 0) ∧ Mem w.heap.size ⟨w, [bd]⟩ [(bd, .cells (diskC (.slice A n c) vn vw by_ false).toArray 113 (0, 0))] w' ∧ True := by
  refine enter_at Try.func25 rfl Try.ntmps25 (by simp) hm ?_
  repeat (first | refine S_scope ?_ | refine S_label ?_ | refine E_noGoto_normal ?_ | refine E_noGoto_ret ?_ | refine E_noGoto_exit ?_ | refine S_yes rfl (by first | with_reducible rfl | decide) ?_ | refine S_no rfl (by first | with_reducible rfl | decide) ?_ | refine S_seq ?_ | refine E_seq ?_ | refine S_block ?_ | refine E_block_normal ?_ | refine S_skip ?_ | refine S_exit ?_ | refine S_ret ?_ | refine E_then_exit ?_ | refine E_then_ret ?_ | refine E_block_ret ?_ | refine E_block_exit ?_ | refine E_block_exit_other rfl ?_)
  refine S_region ?_
  refine R_cons rfl (op_pure (p_assign rfl) rfl ?_)
  refine R_nil ?_
  repeat (first | refine S_scope ?_ | refine S_label ?_ | refine E_noGoto_normal ?_ | refine E_noGoto_ret ?_ | refine E_noGoto_exit ?_ | refine S_yes rfl (by first | with_reducible rfl | decide) ?_ | refine S_no rfl (by first | with_reducible rfl | decide) ?_ | refine S_seq ?_ | refine E_seq ?_ | refine S_block ?_ | refine E_block_normal ?_ | refine S_skip ?_ | refine S_exit ?_ | refine S_ret ?_ | refine E_then_exit ?_ | refine E_then_ret ?_ | refine E_block_ret ?_ | refine E_block_exit ?_ | refine E_block_exit_other rfl ?_)
  refine S_region ?_
  refine R_cons rfl (op_pure (p_move rfl) rfl ?_)
  refine R_cons rfl (op_callV rfl rfl Try.func62 rfl (by kernel_rfl) rfl (Nat.le_refl _) (fun w' hm => dnone_any bd n c _ _ vw left bl hn w' (hm.own (bd, _) (by repeat (first | exact List.Mem.head _ | apply List.Mem.tail))).2) ?_)
  refine R_nil ?_
  repeat (first | refine S_scope ?_ | refine S_label ?_ | refine E_noGoto_normal ?_ | refine E_noGoto_ret ?_ | refine E_noGoto_exit ?_ | refine S_yes rfl (by first | with_reducible rfl | decide) ?_ | refine S_no rfl (by first | with_reducible rfl | decide) ?_ | refine S_seq ?_ | refine E_seq ?_ | refine S_block ?_ | refine E_block_normal ?_ | refine S_skip ?_ | refine S_exit ?_ | refine S_ret ?_ | refine E_then_exit ?_ | refine E_then_ret ?_ | refine E_block_ret ?_ | refine E_block_exit ?_ | refine E_block_exit_other rfl ?_)
  refine S_region ?_
  refine R_cons rfl (op_pure (p_move rfl) rfl ?_)
  refine R_cons rfl (op_pure (p_move rfl) rfl ?_)
  refine R_cons rfl (op_pure (p_move rfl) rfl ?_)
  refine R_cons rfl (op_pure (p_nilCheck rfl) rfl ?_)
  refine R_cons rfl (op_pure (by first | exact p_fieldAddr0 rfl fd_disks_Disk_3 | exact p_fieldAddr rfl fd_disks_Disk_3) rfl ?_)
  refine R_cons rfl (op_store rfl rfl rfl sc_int (by repeat (first | exact At.here | apply At.there)) (by exact Nat.le_of_ble_eq_true rfl) ?_)
  refine R_cons rfl (op_pure (p_nilCheck rfl) rfl ?_)
  refine R_cons rfl (op_pure (by first | exact p_fieldAddr0 rfl fd_disks_Disk_4 | exact p_fieldAddr rfl fd_disks_Disk_4) rfl ?_)
  refine R_cons rfl (op_store rfl rfl rfl sc_bool (by repeat (first | exact At.here | apply At.there)) (by exact Nat.le_of_ble_eq_true rfl) ?_)
  refine R_nil ?_
  repeat (first | refine S_scope ?_ | refine S_label ?_ | refine E_noGoto_normal ?_ | refine E_noGoto_ret ?_ | refine E_noGoto_exit ?_ | refine S_yes rfl (by first | with_reducible rfl | decide) ?_ | refine S_no rfl (by first | with_reducible rfl | decide) ?_ | refine S_seq ?_ | refine E_seq ?_ | refine S_block ?_ | refine E_block_normal ?_ | refine S_skip ?_ | refine S_exit ?_ | refine S_ret ?_ | refine E_then_exit ?_ | refine E_then_ret ?_ | refine E_block_ret ?_ | refine E_block_exit ?_ | refine E_block_exit_other rfl ?_)
  refine S_region ?_
  refine R_cons rfl (op_pure (p_assign rfl) rfl ?_)
  refine R_nil ?_
  repeat (first | refine S_scope ?_ | refine S_label ?_ | refine E_noGoto_normal ?_ | refine E_noGoto_ret ?_ | refine E_noGoto_exit ?_ | refine S_yes rfl (by first | with_reducible rfl | decide) ?_ | refine S_no rfl (by first | with_reducible rfl | decide) ?_ | refine S_seq ?_ | refine E_seq ?_ | refine S_block ?_ | refine E_block_normal ?_ | refine S_skip ?_ | refine S_exit ?_ | refine S_ret ?_ | refine E_then_exit ?_ | refine E_then_ret ?_ | refine E_block_ret ?_ | refine E_block_exit ?_ | refine E_block_exit_other rfl ?_)
  exact E_ret1 rfl rfl fun w' hm => ⟨(), rfl, hm, trivial⟩
end Go.Proofs.Ytfdlafjifjndeaa
