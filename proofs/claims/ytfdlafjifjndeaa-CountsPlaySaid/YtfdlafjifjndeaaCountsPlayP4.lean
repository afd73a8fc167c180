/-
  The layer disks: one byte of a sector turned; the disk's fuse.
-/
import Derived.Test.YtfdlafjifjndeaaCountsPlayP3
import Derived.ChangeArms
namespace Go.Proofs.Ytfdlafjifjndeaa
open Go.RowKit Go.K
attribute [local irreducible] Exit.then Exit.inBlock Exit.noGoto bodyPost Code.wp QL Sx Rx Qx Ex Dx Op1 Pure1 Still1 K.Sub Calm Code.wpIn
set_option linter.unusedVariables false
theorem sec_cell : ∀ (l : List (List UInt8)) (h : Secs l) (i : Nat) (x : List UInt8) (hx : l[i]? = some x) (p : Nat) (hp : p < 64) (sp : List Value), (secV l ++ sp)[0 + i * 64 + p]? = some (.int .u8 ((x.getD p 0).toNat : Int))
  | [], _, _, _, hx, _, _, _ => by cases hx
  | y :: r, h, 0, x, hx, p, hp, sp => by
    have hy : y.length = 64 := h y (List.mem_cons_self ..)
    simp only [List.getElem?_cons_zero, Option.some.injEq] at hx
    subst hx
    rw [show secV (y :: r) = bytesV y ++ secV r from List.flatMap_cons, List.append_assoc, show 0 + 0 * 64 + p = p by omega, List.getElem?_append_left (by rw [bytesV_length, hy]; exact hp)]
    exact bytesV_get (by omega)
  | y :: r, h, i + 1, x, hx, p, hp, sp => by
    have hy : y.length = 64 := h y (List.mem_cons_self ..)
    rw [List.getElem?_cons_succ] at hx
    rw [show secV (y :: r) = bytesV y ++ secV r from List.flatMap_cons, List.append_assoc, List.getElem?_append_right (by rw [bytesV_length, hy]; omega), bytesV_length, hy, show 0 + (i + 1) * 64 + p - 64 = 0 + i * 64 + p by omega]
    exact sec_cell r (fun z hz => h z (List.mem_cons_of_mem _ hz)) i x hx p hp sp
theorem sec_store : ∀ (l : List (List UInt8)) (h : Secs l) (i : Nat) (x : List UInt8) (hx : l[i]? = some x) (p : Nat) (hp : p < 64) (b : UInt8) (sp : List Value), (secV l ++ sp).set (0 + i * 64 + p) (.int .u8 (b.toNat : Int)) = secV (l.set i (x.set p b)) ++ sp
  | [], _, _, _, hx, _, _, _, _ => by cases hx
  | y :: r, h, 0, x, hx, p, hp, b, sp => by
    have hy : y.length = 64 := h y (List.mem_cons_self ..)
    simp only [List.getElem?_cons_zero, Option.some.injEq] at hx
    subst hx
    rw [List.set_cons_zero, show secV (y :: r) = bytesV y ++ secV r from List.flatMap_cons, show secV (y.set p b :: r) = bytesV (y.set p b) ++ secV r from List.flatMap_cons, List.append_assoc, List.append_assoc, show 0 + 0 * 64 + p = p by omega, List.set_append_left _ _ (by rw [bytesV_length, hy]; exact hp), bytesV_set]
  | y :: r, h, i + 1, x, hx, p, hp, b, sp => by
    have hy : y.length = 64 := h y (List.mem_cons_self ..)
    rw [List.getElem?_cons_succ] at hx
    rw [List.set_cons_succ, show secV (y :: r) = bytesV y ++ secV r from List.flatMap_cons, show secV (y :: r.set i (x.set p b)) = bytesV y ++ secV (r.set i (x.set p b)) from List.flatMap_cons, List.append_assoc, List.append_assoc, List.set_append_right _ _ (by rw [bytesV_length, hy]; omega), bytesV_length, hy, show 0 + (i + 1) * 64 + p - 64 = 0 + i * 64 + p by omega,
      sec_store r (fun z hz => h z (List.mem_cons_of_mem _ hz)) i x hx p hp b sp]
attribute [local irreducible] secV leftS blownS
set_option maxHeartbeats 1000000 in
theorem dturn_any (bd bs bn n cs cn : Nat) (vw : Value) (left : Int) (sure now : List (List UInt8)) (sps spn : List Value) (hS : Secs sure) (hN : Secs now) (hsl : sure.length = n) (hnl : now.length = n) (i : Nat) (hi : i < n) (x : List UInt8) (hx : now[i]? = some x) (p : Nat) (hp : p < 64) (by_ : UInt8) (w : World)
    (hm : Mem w.heap.size ⟨w, [bd, bs, bn]⟩ [(bd, .cells (diskC (.slice (some ⟨bs, 0, none⟩) n cs) (.slice (some ⟨bn, 0, none⟩) n cn) vw left false).toArray 113 (0, 0)), (bs, .cells (secV sure ++ sps).toArray 115 (0, 0)), (bn, .cells (secV now ++ spn).toArray 115 (0, 0))] w) :
    Calls Try.prog 24 [.pointer (some ⟨bd, 0, none⟩), .int .i64 (i : Int), .int .i64 (p : Int), .int .u8 (by_.toNat : Int)].toArray w fun e w' => ∃ s : Unit, e = .returned (.int .i64 0) ∧ Mem w.heap.size ⟨w, [bd, bs, bn]⟩ [(bd, .cells (diskC (.slice (some ⟨bs, 0, none⟩) n cs) (.slice (some ⟨bn, 0, none⟩) n cn) (.slice none 0 0) left false).toArray 113 (0, 0)), (bs, .cells (secV (now.set i (x.set p (x.getD p 0 ^^^ by_))) ++ sps).toArray 115 (0, 0)), (bn, .cells (secV (now.set i (x.set p (x.getD p 0 ^^^ by_))) ++ spn).toArray 115 (0, 0))] w' ∧ True := by
  have hn0 : n ≠ 0 := by omega
  have g1 : decide ((i : Int) < 0) = false := decide_eq_false (by omega)
  have g2 : decide ((n : Int) ≤ (i : Int)) = false := decide_eq_false (by omega)
  have g3 : decide ((p : Int) < 0) = false := decide_eq_false (by omega)
  have g4 : decide ((64 : Int) ≤ (p : Int)) = false := decide_eq_false (by omega)
  have hxl : x.length = 64 := hN x (List.mem_of_getElem? hx)
  have hcell := sec_cell now hN i x hx p hp spn
  have hset := sec_store now hN i x hx p hp (x.getD p 0 ^^^ by_) spn
  have hin : 0 + i * 64 + p < (secV now ++ spn).length := by rw [List.length_append, secV_length hN, hnl]; omega
  have hN2 : Secs (now.set i (x.set p (x.getD p 0 ^^^ by_))) := hN.set i (by rw [List.length_set, hxl])
  have hn2 : (now.set i (x.set p (x.getD p 0 ^^^ by_))).length = n := by rw [List.length_set, hnl]
  refine enter_at Try.func24 rfl Try.ntmps24 (by simp) hm ?_
  repeat (first | refine S_scope ?_ | refine S_label ?_ | refine E_noGoto_normal ?_ | refine E_noGoto_ret ?_ | refine E_noGoto_exit ?_ | refine S_yes rfl (by first | with_reducible rfl | decide) ?_ | refine S_no rfl (by first | with_reducible rfl | decide) ?_ | refine S_seq ?_ | refine E_seq ?_ | refine S_block ?_ | refine E_block_normal ?_ | refine S_skip ?_ | refine S_exit ?_ | refine S_ret ?_ | refine E_then_exit ?_ | refine E_then_ret ?_ | refine E_block_ret ?_ | refine E_block_exit ?_ | refine E_block_exit_other rfl ?_)
  refine S_region ?_
  refine R_cons rfl (op_pure (p_assign rfl) rfl ?_)
  refine R_nil ?_
  repeat (first | refine S_scope ?_ | refine S_label ?_ | refine E_noGoto_normal ?_ | refine E_noGoto_ret ?_ | refine E_noGoto_exit ?_ | refine S_yes rfl (by first | with_reducible rfl | decide) ?_ | refine S_no rfl (by first | with_reducible rfl | decide) ?_ | refine S_seq ?_ | refine E_seq ?_ | refine S_block ?_ | refine E_block_normal ?_ | refine S_skip ?_ | refine S_exit ?_ | refine S_ret ?_ | refine E_then_exit ?_ | refine E_then_ret ?_ | refine E_block_ret ?_ | refine E_block_exit ?_ | refine E_block_exit_other rfl ?_)
  refine S_region ?_
  refine R_cons rfl (op_pure (p_move rfl) rfl ?_)
  refine R_cons rfl (op_callV rfl rfl Try.func62 rfl (by kernel_rfl) rfl (Nat.le_refl _) (fun w' hm => dnone_any bd n cs _ _ vw left false hn0 w' (hm.own (bd, _) (by repeat (first | exact List.Mem.head _ | apply List.Mem.tail))).2) ?_)
  refine R_cons rfl (op_pure (p_assign rfl) rfl ?_)
  refine R_nil ?_
  repeat (first | refine S_scope ?_ | refine S_label ?_ | refine E_noGoto_normal ?_ | refine E_noGoto_ret ?_ | refine E_noGoto_exit ?_ | refine S_yes rfl (by first | with_reducible rfl | decide) ?_ | refine S_no rfl (by first | with_reducible rfl | decide) ?_ | refine S_seq ?_ | refine E_seq ?_ | refine S_block ?_ | refine E_block_normal ?_ | refine S_skip ?_ | refine S_exit ?_ | refine S_ret ?_ | refine E_then_exit ?_ | refine E_then_ret ?_ | refine E_block_ret ?_ | refine E_block_exit ?_ | refine E_block_exit_other rfl ?_)
  refine S_region ?_
  refine R_cons rfl (op_pure (p_move rfl) rfl ?_)
  refine R_cons rfl (op_pure (p_bin rfl rfl (b_lss g1)) rfl ?_)
  refine R_cons rfl (op_pure (p_move rfl) rfl ?_)
  first | refine R_pass rfl rfl rfl rfl ?_ | refine R_pass_undef rfl rfl rfl ?_ | refine R_guard rfl rfl rfl (op_pure (p_move rfl) rfl ?_)
  first | refine R_pass rfl rfl rfl rfl ?_ | refine R_pass_undef rfl rfl rfl ?_ | refine R_guard rfl rfl rfl (op_pure (p_move rfl) rfl ?_)
  first | refine R_pass rfl rfl rfl rfl ?_ | refine R_pass_undef rfl rfl rfl ?_ | refine R_guard rfl rfl rfl (op_pure (p_nilCheck rfl) rfl ?_)
  first | refine R_pass rfl rfl rfl rfl ?_ | refine R_pass_undef rfl rfl rfl ?_ | refine R_guard rfl rfl rfl (op_pure (by first | exact p_fieldAddr0 rfl fd_disks_Disk_1 | exact p_fieldAddr rfl fd_disks_Disk_1) rfl ?_)
  first | refine R_pass rfl rfl rfl rfl ?_ | refine R_pass_undef rfl rfl rfl ?_ | refine R_guard rfl rfl rfl (op_pure (p_load rfl sc_disks_sector (by repeat (first | exact List.Mem.head _ | apply List.Mem.tail)) (by rfl)) rfl ?_)
  first | refine R_pass rfl rfl rfl rfl ?_ | refine R_pass_undef rfl rfl rfl ?_ | refine R_guard rfl rfl rfl (op_pure (p_lenR rfl slr_disks_sector) rfl ?_)
  first | refine R_pass rfl rfl rfl rfl ?_ | refine R_pass_undef rfl rfl rfl ?_ | refine R_guard rfl rfl rfl (op_pure (p_bin rfl rfl (b_geq g2)) rfl ?_)
  refine R_cons rfl (op_pure (by first | exact p_pick_yes rfl rfl | exact p_pick_no rfl rfl | exact p_pick rfl rfl rfl) rfl ?_)
  refine R_cons rfl (op_pure (p_move rfl) rfl ?_)
  first | refine R_pass rfl rfl rfl rfl ?_ | refine R_pass_undef rfl rfl rfl ?_ | refine R_guard rfl rfl rfl (op_pure (p_move rfl) rfl ?_)
  first | refine R_pass rfl rfl rfl rfl ?_ | refine R_pass_undef rfl rfl rfl ?_ | refine R_guard rfl rfl rfl (op_pure (p_bin rfl rfl (b_lss g3)) rfl ?_)
  refine R_cons rfl (op_pure (by first | exact p_pick_yes rfl rfl | exact p_pick_no rfl rfl | exact p_pick rfl rfl rfl) rfl ?_)
  refine R_cons rfl (op_pure (p_move rfl) rfl ?_)
  first | refine R_pass rfl rfl rfl rfl ?_ | refine R_pass_undef rfl rfl rfl ?_ | refine R_guard rfl rfl rfl (op_pure (p_move rfl) rfl ?_)
  first | refine R_pass rfl rfl rfl rfl ?_ | refine R_pass_undef rfl rfl rfl ?_ | refine R_guard rfl rfl rfl (op_pure (p_bin rfl rfl (b_geq g4)) rfl ?_)
  refine R_cons rfl (op_pure (by first | exact p_pick_yes rfl rfl | exact p_pick_no rfl rfl | exact p_pick rfl rfl rfl) rfl ?_)
  refine R_cons rfl (op_pure (p_assign rfl) rfl ?_)
  refine R_nil ?_
  repeat (first | refine S_scope ?_ | refine S_label ?_ | refine E_noGoto_normal ?_ | refine E_noGoto_ret ?_ | refine E_noGoto_exit ?_ | refine S_yes rfl (by first | with_reducible rfl | decide) ?_ | refine S_no rfl (by first | with_reducible rfl | decide) ?_ | refine S_seq ?_ | refine E_seq ?_ | refine S_block ?_ | refine E_block_normal ?_ | refine S_skip ?_ | refine S_exit ?_ | refine S_ret ?_ | refine E_then_exit ?_ | refine E_then_ret ?_ | refine E_block_ret ?_ | refine E_block_exit ?_ | refine E_block_exit_other rfl ?_)
  refine S_region ?_
  refine R_cons rfl (op_pure (p_move rfl) rfl ?_)
  refine R_cons rfl (op_pure (p_nilCheck rfl) rfl ?_)
  refine R_cons rfl (op_pure (by first | exact p_fieldAddr0 rfl fd_disks_Disk_4 | exact p_fieldAddr rfl fd_disks_Disk_4) rfl ?_)
  refine R_cons rfl (op_pure (p_load rfl sc_bool (by repeat (first | exact List.Mem.head _ | apply List.Mem.tail)) (by rfl)) rfl ?_)
  refine R_cons rfl (op_pure (p_assign rfl) rfl ?_)
  refine R_nil ?_
  repeat (first | refine S_scope ?_ | refine S_label ?_ | refine E_noGoto_normal ?_ | refine E_noGoto_ret ?_ | refine E_noGoto_exit ?_ | refine S_yes rfl (by first | with_reducible rfl | decide) ?_ | refine S_no rfl (by first | with_reducible rfl | decide) ?_ | refine S_seq ?_ | refine E_seq ?_ | refine S_block ?_ | refine E_block_normal ?_ | refine S_skip ?_ | refine S_exit ?_ | refine S_ret ?_ | refine E_then_exit ?_ | refine E_then_ret ?_ | refine E_block_ret ?_ | refine E_block_exit ?_ | refine E_block_exit_other rfl ?_)
  refine S_tail 13 (by kernel_rfl) (by kernel_rfl) (by kernel_rfl) (by kernel_rfl) ?_
  refine Q_cons (Still1.of_pure (p_move rfl)) rfl ?_
  refine Q_cons (Still1.of_pure (p_nilCheck rfl)) rfl ?_
  refine Q_cons (Still1.of_pure (by first | exact p_fieldAddr0 rfl fd_disks_Disk_1 | exact p_fieldAddr rfl fd_disks_Disk_1)) rfl ?_
  refine Q_cons (Still1.of_pure (p_load rfl sc_disks_sector (by repeat (first | exact List.Mem.head _ | apply List.Mem.tail)) (by rfl))) rfl ?_
  refine Q_cons (Still1.of_pure (p_move rfl)) rfl ?_
  refine Q_cons (Still1.of_pure (p_move rfl)) rfl ?_
  refine Q_cons (Still1.of_pure (p_indexR (j := i) rfl rfl rfl slr_disks_sector hi)) rfl ?_
  refine Q_cons (Still1.of_pure (p_indexArr (j := p) rfl rfl rfl arr_disks_sector hp)) rfl ?_
  refine Q_cons (Still1.of_pure (p_load rfl sc_u8 (by repeat (first | exact List.Mem.head _ | apply List.Mem.tail)) hcell)) rfl ?_
  refine Q_cons (Still1.of_pure (p_move rfl)) rfl ?_
  refine Q_cons (Still1.of_pure (p_bin rfl rfl (b_xor (k8_xor _ _)))) rfl ?_
  refine Q_cons (Still1.of_pure (p_indexR (j := i) rfl rfl rfl slr_disks_sector hi)) rfl ?_
  refine Q_cons (Still1.of_pure (p_indexArr (j := p) rfl rfl rfl arr_disks_sector hp)) rfl ?_
  refine Q_nop ?_
  refine Q_nil ?_
  refine E_tail ?_
  refine R_cons rfl (op_store rfl rfl rfl sc_u8 (by repeat (first | exact At.here | apply At.there)) hin ?_)
  refine R_nil ?_
  repeat (first | refine S_scope ?_ | refine S_label ?_ | refine E_noGoto_normal ?_ | refine E_noGoto_ret ?_ | refine E_noGoto_exit ?_ | refine S_yes rfl (by first | with_reducible rfl | decide) ?_ | refine S_no rfl (by first | with_reducible rfl | decide) ?_ | refine S_seq ?_ | refine E_seq ?_ | refine S_block ?_ | refine E_block_normal ?_ | refine S_skip ?_ | refine S_exit ?_ | refine S_ret ?_ | refine E_then_exit ?_ | refine E_then_ret ?_ | refine E_block_ret ?_ | refine E_block_exit ?_ | refine E_block_exit_other rfl ?_)
  rw [hset]
  refine S_region ?_
  refine R_cons rfl (op_pure (p_move rfl) rfl ?_)
  refine R_cons rfl (op_callH (Hc := [(bd, .cells (diskC (.slice (some ⟨bs, 0, none⟩) n cs) (.slice (some ⟨bn, 0, none⟩) n cn) vw left false).toArray 113 (0, 0)), (bs, .cells (secV sure ++ sps).toArray 115 (0, 0)), (bn, .cells (secV (now.set i (x.set p (x.getD p 0 ^^^ by_))) ++ spn).toArray 115 (0, 0))]) (K := []) rfl rfl Try.func63 rfl (by kernel_rfl) rfl (by rw [List.append_nil]) (fun w' hm => dsettle_any bd bs bn n cs cn vw left false sure (now.set i (x.set p (x.getD p 0 ^^^ by_))) sps spn hS hN2 hsl hn2 hn0 w' hm) (fun v H' hp => ?_))
  refine R_nil ?_
  obtain ⟨rfl, rfl⟩ := hp
  repeat (first | refine S_scope ?_ | refine S_label ?_ | refine E_noGoto_normal ?_ | refine E_noGoto_ret ?_ | refine E_noGoto_exit ?_ | refine S_yes rfl (by first | with_reducible rfl | decide) ?_ | refine S_no rfl (by first | with_reducible rfl | decide) ?_ | refine S_seq ?_ | refine E_seq ?_ | refine S_block ?_ | refine E_block_normal ?_ | refine S_skip ?_ | refine S_exit ?_ | refine S_ret ?_ | refine E_then_exit ?_ | refine E_then_ret ?_ | refine E_block_ret ?_ | refine E_block_exit ?_ | refine E_block_exit_other rfl ?_)
  refine S_region ?_
  refine R_cons rfl (op_pure (p_assign rfl) rfl ?_)
  refine R_nil ?_
  repeat (first | refine S_scope ?_ | refine S_label ?_ | refine E_noGoto_normal ?_ | refine E_noGoto_ret ?_ | refine E_noGoto_exit ?_ | refine S_yes rfl (by first | with_reducible rfl | decide) ?_ | refine S_no rfl (by first | with_reducible rfl | decide) ?_ | refine S_seq ?_ | refine E_seq ?_ | refine S_block ?_ | refine E_block_normal ?_ | refine S_skip ?_ | refine S_exit ?_ | refine S_ret ?_ | refine E_then_exit ?_ | refine E_then_ret ?_ | refine E_block_ret ?_ | refine E_block_exit ?_ | refine E_block_exit_other rfl ?_)
  exact E_ret1 rfl rfl fun w' hm => ⟨(), rfl, hm, trivial⟩
theorem dfuse_any (bd n c : Nat) (A : Option Addr) (vn vw : Value) (left : Int) (bl : Bool) (hn : n ≠ 0) (by_ : Int) (w : World)
    (hm : Mem w.heap.size ⟨w, [bd]⟩ [(bd, .cells (diskC (.slice A n c) vn vw left bl).toArray 113 (0, 0))] w) :
    Calls Try.prog 25 [.pointer (some ⟨bd, 0, none⟩), .int .i64 by_].toArray w fun e w' => ∃ s : Unit, e = .returned (.int .i64 0) ∧ Mem w.heap.size ⟨w, [bd]⟩ [(bd, .cells (diskC (.slice A n c) vn vw by_ false).toArray 113 (0, 0))] w' ∧ True := by
  refine enter_at Try.func25 rfl Try.ntmps25 (by simp) hm ?_
  repeat (first | refine S_scope ?_ | refine S_label ?_ | refine E_noGoto_normal ?_ | refine E_noGoto_ret ?_ | refine E_noGoto_exit ?_ | refine S_yes rfl (by first | with_reducible rfl | decide) ?_ | refine S_no rfl (by first | with_reducible rfl | decide) ?_ | refine S_seq ?_ | refine E_seq ?_ | refine S_block ?_ | refine E_block_normal ?_ | refine S_skip ?_ | refine S_exit ?_ | refine S_ret ?_ | refine E_then_exit ?_ | refine E_then_ret ?_ | refine E_block_ret ?_ | refine E_block_exit ?_ | refine E_block_exit_other rfl ?_)
  refine S_region ?_
  refine R_cons rfl (op_pure (p_assign rfl) rfl ?_)
  refine R_nil ?_
  repeat (first | refine S_scope ?_ | refine S_label ?_ | refine E_noGoto_normal ?_ | refine E_noGoto_ret ?_ | refine E_noGoto_exit ?_ | refine S_yes rfl (by first | with_reducible rfl | decide) ?_ | refine S_no rfl (by first | with_reducible rfl | decide) ?_ | refine S_seq ?_ | refine E_seq ?_ | refine S_block ?_ | refine E_block_normal ?_ | refine S_skip ?_ | refine S_exit ?_ | refine S_ret ?_ | refine E_then_exit ?_ | refine E_then_ret ?_ | refine E_block_ret ?_ | refine E_block_exit ?_ | refine E_block_exit_other rfl ?_)
  refine S_region ?_
  refine R_cons rfl (op_pure (p_move rfl) rfl ?_)
  refine R_cons rfl (op_callV rfl rfl Try.func62 rfl (by kernel_rfl) rfl (Nat.le_refl _) (fun w' hm => dnone_any bd n c _ _ vw left bl hn w' (hm.own (bd, _) (by repeat (first | exact List.Mem.head _ | apply List.Mem.tail))).2) ?_)
  refine R_nil ?_
  repeat (first | refine S_scope ?_ | refine S_label ?_ | refine E_noGoto_normal ?_ | refine E_noGoto_ret ?_ | refine E_noGoto_exit ?_ | refine S_yes rfl (by first | with_reducible rfl | decide) ?_ | refine S_no rfl (by first | with_reducible rfl | decide) ?_ | refine S_seq ?_ | refine E_seq ?_ | refine S_block ?_ | refine E_block_normal ?_ | refine S_skip ?_ | refine S_exit ?_ | refine S_ret ?_ | refine E_then_exit ?_ | refine E_then_ret ?_ | refine E_block_ret ?_ | refine E_block_exit ?_ | refine E_block_exit_other rfl ?_)
  refine S_region ?_
  refine R_cons rfl (op_pure (p_move rfl) rfl ?_)
  refine R_cons rfl (op_pure (p_move rfl) rfl ?_)
  refine R_cons rfl (op_pure (p_move rfl) rfl ?_)
  refine R_cons rfl (op_pure (p_nilCheck rfl) rfl ?_)
  refine R_cons rfl (op_pure (by first | exact p_fieldAddr0 rfl fd_disks_Disk_3 | exact p_fieldAddr rfl fd_disks_Disk_3) rfl ?_)
  refine R_cons rfl (op_store rfl rfl rfl sc_int (by repeat (first | exact At.here | apply At.there)) (by exact Nat.le_of_ble_eq_true rfl) ?_)
  refine R_cons rfl (op_pure (p_nilCheck rfl) rfl ?_)
  refine R_cons rfl (op_pure (by first | exact p_fieldAddr0 rfl fd_disks_Disk_4 | exact p_fieldAddr rfl fd_disks_Disk_4) rfl ?_)
  refine R_cons rfl (op_store rfl rfl rfl sc_bool (by repeat (first | exact At.here | apply At.there)) (by exact Nat.le_of_ble_eq_true rfl) ?_)
  refine R_nil ?_
  repeat (first | refine S_scope ?_ | refine S_label ?_ | refine E_noGoto_normal ?_ | refine E_noGoto_ret ?_ | refine E_noGoto_exit ?_ | refine S_yes rfl (by first | with_reducible rfl | decide) ?_ | refine S_no rfl (by first | with_reducible rfl | decide) ?_ | refine S_seq ?_ | refine E_seq ?_ | refine S_block ?_ | refine E_block_normal ?_ | refine S_skip ?_ | refine S_exit ?_ | refine S_ret ?_ | refine E_then_exit ?_ | refine E_then_ret ?_ | refine E_block_ret ?_ | refine E_block_exit ?_ | refine E_block_exit_other rfl ?_)
  refine S_region ?_
  refine R_cons rfl (op_pure (p_assign rfl) rfl ?_)
  refine R_nil ?_
  repeat (first | refine S_scope ?_ | refine S_label ?_ | refine E_noGoto_normal ?_ | refine E_noGoto_ret ?_ | refine E_noGoto_exit ?_ | refine S_yes rfl (by first | with_reducible rfl | decide) ?_ | refine S_no rfl (by first | with_reducible rfl | decide) ?_ | refine S_seq ?_ | refine E_seq ?_ | refine S_block ?_ | refine E_block_normal ?_ | refine S_skip ?_ | refine S_exit ?_ | refine S_ret ?_ | refine E_then_exit ?_ | refine E_then_ret ?_ | refine E_block_ret ?_ | refine E_block_exit ?_ | refine E_block_exit_other rfl ?_)
  exact E_ret1 rfl rfl fun w' hm => ⟨(), rfl, hm, trivial⟩
end Go.Proofs.Ytfdlafjifjndeaa
/-
  What an argument is, out of its reading: slices of bools; structs that hold one. Plain theorems, over any program.
-/
namespace Go.K
open Go Go.RowKit Go.ChangeShapes Go.WideShapes Go.ChangeAt
def boolsV (l : List Bool) : List Value := l.flatMap fun b => [Value.bool b]
theorem boolsV_get {l : List Bool} {j : Nat} (h : j < l.length) : (boolsV l)[j]? = some (.bool (l.getD j false)) := by
  have h1 := flat_cell (fun b : Bool => [Value.bool b]) 1 l (fun _ _ => rfl) j 0 l[j] (List.getElem?_eq_getElem h) (by omega)
  rw [Nat.mul_one, Nat.add_zero] at h1
  rw [List.getD_eq_getElem?_getD, List.getElem?_eq_getElem h]
  exact h1
theorem bool_cell (b : Bool) (_ : True) (j : Nat) (hj : j < 1) : ∃ y, [Value.bool b][j]? = some y := by
  match j, hj with
  | 0, _ => exact ⟨_, rfl⟩
section ops
variable {P : Program} {B : Nat} {w0 : Base} {N : Nat} {D : List Deferred} {env : Env} {H : Hp} {dst : Option Nat} {ty : TypeId} {pos : String} {after : Array Edge} {g : Option (Nat × Bool)}
/-- a row loaded that stands in what was there before -/
theorem p_loadRowBase {t : TypeId} {x : Operand} {b off n : Nat} {r : List Value} (hx : look env x = some (.pointer (some ⟨b, off, none⟩))) (hrow : Row P t n) (hl : r.length = n) (hb : b < B) (hbs : b ∉ w0.bs)
    (hc : ∀ j v, r[j]? = some v → w0.w.cell? ⟨b, off + j, none⟩ = some v) : Pure1 P B w0 N D ⟨dst, .load t x, ty, pos, after, g⟩ env H (.agg r.toArray) := fun a w hf hm => by
  obtain ⟨d, ht, hd, hi⟩ := hrow
  rw [← hl] at hi
  have h1 := run_loadAt_mid (P := P) w b off t r d (fun j v hv => (hm.base (p := ⟨b, off + j, none⟩) hb hbs).trans (hc j v hv)) ht hd hi
  simp only [execOp, hf.eval hx, Sem.run_bind, h1, Result.andThen_ok, Sem.run_pure]
end ops
section opens
variable {HT : Type} {enc : TypeId × Value → HT} {P : Program} {w : World} {base b0 : Nat} {spare : Nat → Bool} {held : Bool} {r : Reach} {t e u : TypeId} {v : Value} {d : DataW HT} {ps : List MemPlace}
theorem open_bool {n : Nat} {cs : List Value} {x : DataW HT × List MemPlace} (he : P.underlying e = some .bool) (h : DataW.trod enc P w base spare held n e cs = some x) : ∃ b : Bool, cs = [.bool b] ∧ True := by
  obtain ⟨b, hb, _⟩ := DataW.trod_bool he h
  exact ⟨b, hb, trivial⟩
/-- One cell that holds a slice whose elements are rows of s cells. -/
theorem open_rows {α : Type} (f : α → List Value) (okA : α → Prop) {s : Nat} (hs0 : 0 < s) (hlen : ∀ a, okA a → (f a).length = s) (ht : P.underlying t = some (.slice e)) (hce : P.cellsOf e = s)
    (hel : ∀ (n : Nat) (cs : List Value) (x : DataW HT × List MemPlace), DataW.trod enc P w base spare held n e cs = some x → ∃ a, cs = f a ∧ okA a) (hone : ∀ a, okA a → ∀ j, j < s → ∃ y, (f a)[j]? = some y) {n0 : Nat} {cs : List Value} {x0 : DataW HT × List MemPlace} (hf : DataW.trod enc P w base spare held n0 t cs = some x0) :
    ∃ (A : Option Addr) (c : Nat) (l : List α), cs = [.slice A l.length c] ∧ Reads w A (l.length * s) (l.flatMap f) ∧ (∀ a ∈ l, okA a) ∧ l.length ≤ c ∧ c ≤ maxLen := by
  rcases Deep.open_slice ht hf with ⟨hcs, _⟩ | ⟨a, n, c, m, k, D, Pl, hcs, _, hl, hm, hmm, hxx, hel2⟩
  · exact ⟨none, 0, [], hcs, by simpa using Reads.nil w, fun a ha => (by cases ha), Nat.le_refl _, by unfold maxLen; omega⟩
  · have hlm : n ≤ m := by rw [hmm]; split <;> omega
    obtain ⟨l, hll, hp⟩ := list_of_each (p := fun i (x : α) => (∀ j, j < s → w.cell? ((a.add (i * s)).add j) = (f x)[j]?) ∧ okA x) n fun i hi => by
      obtain ⟨cs', h1, h2⟩ := hel2 i (by omega)
      obtain ⟨x, rfl, hx⟩ := hel _ _ _ h2
      rw [hce] at h1
      exact ⟨x, fun j hj => (World.cells?_some h1).2.2 j hj, hx⟩
    have hok : ∀ x ∈ l, okA x := fun x hx => by
      obtain ⟨j, hj⟩ := List.getElem?_of_mem hx
      exact (hp j x hj).2
    have hfl := flat_length f s l (fun x hx => hlen x (hok x hx))
    refine ⟨some a, c, l, by rw [hcs, hll], ⟨hfl, fun hn => ?_⟩, hok, by omega, hm⟩
    obtain ⟨b, off, spot⟩ := a
    have hl0 : 0 < l.length := by
      rcases Nat.eq_zero_or_pos l.length with h | h
      · rw [h, Nat.zero_mul] at hn; exact absurd rfl hn
      · exact h
    obtain ⟨s0, hs0'⟩ : ∃ s, l[0]? = some s := ⟨_, List.getElem?_eq_getElem hl0⟩
    obtain ⟨h1, h2⟩ := hp 0 s0 hs0'
    obtain ⟨y0, hy0⟩ := hone s0 h2 0 hs0
    have hc0 := h1 0 hs0
    rw [hy0] at hc0
    have hspot : spot = none := by simpa [Addr.add] using World.cell?_spot hc0
    subst hspot
    refine ⟨b, off, rfl, World.block_lt_of_cell? w (⟨b, off, none⟩ : Addr) (by simpa [Addr.add] using hc0), fun q y hy => ?_⟩
    have hq : q < l.length * s := by
      rcases Nat.lt_or_ge q (l.length * s) with h | h
      · exact h
      · rw [List.getElem?_eq_none (by omega)] at hy; cases hy
    have hi : q / s < l.length := (Nat.div_lt_iff_lt_mul hs0).2 hq
    have hq2 : q = q / s * s + q % s := by rw [Nat.mul_comm]; exact (Nat.div_add_mod q s).symm
    have hms := Nat.mod_lt q hs0
    obtain ⟨x, hx⟩ : ∃ x, l[q / s]? = some x := ⟨_, List.getElem?_eq_getElem hi⟩
    rw [hq2, flat_cell f s l (fun x hx => hlen x (hok x hx)) (q / s) (q % s) x hx hms] at hy
    have hj := (hp (q / s) x hx).1 (q % s) hms
    rw [hy] at hj
    simp only [Addr.add_mid] at hj
    rw [← hj]
    congr 2
    omega
end opens
end Go.K
/-
  The layer disks: a disk that fails.
-/
namespace Go.Proofs.Ytfdlafjifjndeaa
open Go.RowKit Go.K
attribute [local irreducible] Exit.then Exit.inBlock Exit.noGoto bodyPost Code.wp QL Sx Rx Qx Ex Dx Op1 Pure1 Still1 K.Sub Calm Code.wpIn
set_option linter.unusedVariables false
theorem slc_bool : Slc Try.prog 60 4 := ⟨Try.underlying60, sc_bool⟩
attribute [local irreducible] secV leftS blownS
end Go.Proofs.Ytfdlafjifjndeaa
/-
  A callee that turns blocks that are known and reads others. Plain theorems, over any program.
-/
namespace Go.K
open Go Go.RowKit
section
variable {P : Program} {B : Nat} {w0 : Base} {N : Nat} {D : List Deferred} {env : Env} {H : Hp} {T : Env → Hp → Prop} {ty : TypeId} {pos : String} {after : Array Edge} {g : Option (Nat × Bool)}
theorem op_callXK {σ : Type} (val : σ → Value) (HF : σ → Hp) (I : σ → Prop) {d : Nat} {fo : Operand} {xs : List Operand} {ts : Array TypeId} {f : FuncId} {fn : Func} {vs first cap : List Value} {Hc K : Hp} (hfo : look env fo = some (.func (.func f) first.toArray cap.toArray)) (hxs : looks env xs = some vs)
    (hf0 : P.funcs[f]? = some fn) (hb0 : fn.body.isNone = false) (hn0 : (fn.name == "runtime.NumGoroutine") = false) (hd : Nat.blt d N = true) (hp : H.Perm (K ++ Hc))
    (hc : ∀ w, Mem B w0 (K ++ Hc) w → Mem w.heap.size ⟨w, Hc.map (·.1)⟩ Hc w → Calls P f (first ++ vs ++ cap).toArray w fun e w' => ∃ s, e = .returned (val s) ∧ Mem w.heap.size ⟨w, Hc.map (·.1)⟩ (HF s) w' ∧ I s) (h : ∀ s, I s → T ((d, val s) :: env) (K ++ HF s)) :
    Op1 P B w0 N D ⟨some d, .call { callee := .value fo, args := xs.toArray, argTypes := ts }, ty, pos, after, g⟩ env H T :=
  op_call hfo hxs hf0 hb0 hn0 hd fun w hm => by
    have hm2 := hm.perm hp
    have hm5 := hm2.perm List.perm_append_comm
    have hm3 : Mem B w0 Hc w := hm5.fewer (Fewer.inl _ _)
    refine (hc w hm2 hm3.here).mono ?_
    rintro e w' ⟨s, rfl, hm4, hI⟩
    exact ⟨_, _, rfl, (hm5.frame hm4).perm List.perm_append_comm, h s hI⟩
theorem S_perm {c : Code} {Q : Exit → Act → World → Prop} {H' : Hp} (hp : H.Perm H') (h : Sx P B w0 N D c env H' Q) : Sx P B w0 N D c env H Q := fun a w hf hm => h a w hf (hm.perm hp)
end
theorem Reads.other {w w' : World} {A : Option Addr} {n : Nat} {xs : List Value} {bs : List Nat} {H : Hp} (h : Reads w A n xs) (hne : n ≠ 0 → ∀ b off, A = some ⟨b, off, none⟩ → b ∉ bs) (hm : Mem w.heap.size ⟨w, bs⟩ H w') : Reads w' A n xs := by
  refine ⟨h.1, fun hn => ?_⟩
  obtain ⟨b, off, e, hb, hc⟩ := h.2 hn
  exact ⟨b, off, e, Nat.lt_of_lt_of_le hb hm.chg.size, fun j u hu => (hm.base (p := ⟨b, off + j, none⟩) hb (hne hn b off e)).trans (hc j u hu)⟩
theorem Mem.apartOf {B : Nat} {w0 : Base} {Hc K : Hp} {w : World} (hm : Mem B w0 (K ++ Hc) w) {p : Nat × Obj} (hp : p ∈ K) : p.1 ∉ Hc.map (·.1) := fun hin => by
  obtain ⟨q, hq, e⟩ := List.mem_map.1 hin
  exact (List.pairwise_append.1 hm.apart).2.2 p hp q hq e.symm
theorem Mem.kept {B : Nat} {w0 : Base} {Hc K : Hp} {w : World} (hm : Mem B w0 (K ++ Hc) w) {p : Nat × Obj} (hp : p ∈ K) : w.heap[p.1]? = some p.2 := (hm.own p (List.mem_append_left _ hp)).2
/-- .. as a row that is read, while the callee turns its own. -/
theorem Mem.readsKept {B : Nat} {w0 : Base} {Hc K : Hp} {w : World} (hm : Mem B w0 (K ++ Hc) w) {b : Nat} {xs sp : List Value} {t : TypeId} {fr : Nat × Nat} (hp : (b, Obj.cells (xs ++ sp).toArray t fr) ∈ K) :
    ∀ w' H', Mem w.heap.size ⟨w, Hc.map (·.1)⟩ H' w' → Reads w' (some ⟨b, 0, none⟩) xs.length xs := fun w' H' hm' => by
  have h1 := hm.kept hp
  have h2 : Reads w (some ⟨b, 0, none⟩) xs.length xs := by
    have h3 := (reads_block (n := (xs ++ sp).length) h1 rfl).head (k := xs.length) (by simp)
    rwa [List.take_left] at h3
  exact h2.other (fun _ b' off e => by cases e; exact hm.apartOf hp) hm'
end Go.K
/-
  The layer disks, whatever waits: what is written.
-/
namespace Go.Proofs.Ytfdlafjifjndeaa
open Go.RowKit Go.K
attribute [local irreducible] Exit.then Exit.inBlock Exit.noGoto bodyPost Code.wp QL Sx Rx Qx Ex Dx Op1 Pure1 Still1 K.Sub Calm Code.wpIn
set_option linter.unusedVariables false
/-- a disk, as the document tells it -/
structure DS where
  sure : List (List UInt8)
  ws : List (Nat × List UInt8)
  left : Int
  bl : Bool
def pad (x : List UInt8) : List UInt8 := x ++ List.replicate (64 - x.length) 0
theorem pad_length {x : List UInt8} (h : x.length ≤ 64) : (pad x).length = 64 := by unfold pad; rw [List.length_append, List.length_replicate]; omega
theorem pad_whole {x : List UInt8} (h : x.length = 64) : pad x = x := by unfold pad; rw [h]; exact List.append_nil x
theorem rep_split (n k : Nat) (h : k ≤ n) : List.replicate n (0 : UInt8) = List.replicate k 0 ++ List.replicate (n - k) 0 := by
  obtain ⟨m, rfl⟩ : ∃ m, n = k + m := ⟨n - k, by omega⟩
  rw [Nat.add_sub_cancel_left, List.replicate_append_replicate]
theorem lay_padN (n : Nat) (x : List UInt8) (h : x.length ≤ n) : lay (bytesV (List.replicate n 0)) 0 (bytesV x) = bytesV (x ++ List.replicate (n - x.length) 0) := by
  rw [rep_split n x.length h, bytesV_append, lay_append_row (by rw [bytesV_length, bytesV_length, List.length_replicate]; omega), lay_whole (by rw [bytesV_length, bytesV_length, List.length_replicate]), bytesV_append]
theorem lay_pad (x : List UInt8) (h : x.length ≤ 64) : lay (bytesV (List.replicate 64 0)) 0 (bytesV x) = bytesV (pad x) := lay_padN 64 x h
def nowOf (sure : List (List UInt8)) (ws : List (Nat × List UInt8)) : List (List UInt8) := ws.foldl (fun l w => l.set w.1 w.2) sure
theorem nowOf_snoc (sure : List (List UInt8)) (ws : List (Nat × List UInt8)) (i : Nat) (x : List UInt8) : nowOf sure (ws ++ [(i, x)]) = (nowOf sure ws).set i x := by
  unfold nowOf
  rw [List.foldl_append]
  rfl
def WsOk (ws : List (Nat × List UInt8)) : Prop := ∀ w ∈ ws, w.1 < 3 ∧ w.2.length = 64
theorem nowOf_length (ws : List (Nat × List UInt8)) : ∀ sure : List (List UInt8), (nowOf sure ws).length = sure.length := by
  unfold nowOf
  induction ws with
  | nil => exact fun _ => rfl
  | cons w ws ih => exact fun sure => by rw [List.foldl_cons, ih, List.length_set]
theorem nowOf_secs (ws : List (Nat × List UInt8)) (hw : WsOk ws) : ∀ sure : List (List UInt8), Secs sure → Secs (nowOf sure ws) := by
  unfold nowOf
  induction ws with
  | nil => exact fun _ h => h
  | cons w ws ih =>
    exact fun sure h => by
      rw [List.foldl_cons]
      exact ih (fun v hv => hw v (List.mem_cons_of_mem _ hv)) _ (h.set w.1 (hw w (List.mem_cons_self ..)).2)
def wsV (ws : List (Nat × List UInt8)) : List Value := ws.flatMap fun w => Value.int .i64 (w.1 : Int) :: bytesV w.2
theorem wsV_snoc (ws : List (Nat × List UInt8)) (i : Nat) (x : List UInt8) : wsV (ws ++ [(i, x)]) = wsV ws ++ (Value.int .i64 (i : Int) :: bytesV x) := by
  unfold wsV
  rw [List.flatMap_append]
  simp
theorem wsV_length (ws : List (Nat × List UInt8)) (h : WsOk ws) : (wsV ws).length = ws.length * 65 :=
  flat_length (fun w : Nat × List UInt8 => Value.int .i64 (w.1 : Int) :: bytesV w.2) 65 ws fun w hw => by rw [List.length_cons, bytesV_length, (h w hw).2]
/-- the program's disk, in memory -/
structure PS where
  bd : Nat
  bs : Nat
  cs : Nat
  bn : Nat
  cn : Nat
  sps : List Value
  spn : List Value
  wb : Option (Nat × Nat × List Value)
def wbVal (wb : Option (Nat × Nat × List Value)) (ws : List (Nat × List UInt8)) : Value :=
  match wb with
  | none => .slice none 0 0
  | some (b, cap, _) => .slice (some ⟨b, 0, none⟩) ws.length cap
def wbHp (wb : Option (Nat × Nat × List Value)) (ws : List (Nat × List UInt8)) : Hp :=
  match wb with
  | none => []
  | some (b, _, sp) => [(b, .cells (wsV ws ++ sp).toArray 120 (0, 0))]
def wbOk (wb : Option (Nat × Nat × List Value)) (ws : List (Nat × List UInt8)) : Prop :=
  match wb with
  | none => ws = []
  | some (_, cap, sp) => (wsV ws ++ sp).length = cap * 65 ∧ ws.length ≤ cap ∧ cap ≤ maxLen
def progH (p : PS) (s : DS) : Hp := (p.bd, .cells (diskC (.slice (some ⟨p.bs, 0, none⟩) 3 p.cs) (.slice (some ⟨p.bn, 0, none⟩) 3 p.cn) (wbVal p.wb s.ws) s.left s.bl).toArray 113 (0, 0)) :: (p.bs, .cells (secV s.sure ++ p.sps).toArray 115 (0, 0)) :: (p.bn, .cells (secV (nowOf s.sure s.ws) ++ p.spn).toArray 115 (0, 0)) :: wbHp p.wb s.ws
def DS.ok (m : Nat) (s : DS) : Prop := s.sure.length = 3 ∧ Secs s.sure ∧ WsOk s.ws ∧ (-9223372036854775808 ≤ s.left ∧ s.left ≤ 9223372036854775807) ∧ s.ws.length ≤ m
attribute [local irreducible] secV leftS blownS wsV nowOf
/-- no such sector, or too many bytes -/
theorem dwrite_arg (p : PS) (s : DS) (i : Int) (A : Option Addr) (n c : Nat) (h : i < 0 ∨ 3 ≤ i ∨ 64 < n) (w : World)
    (hb : w.heap[p.bd]? = some (.cells (diskC (.slice (some ⟨p.bs, 0, none⟩) 3 p.cs) (.slice (some ⟨p.bn, 0, none⟩) 3 p.cn) (wbVal p.wb s.ws) s.left s.bl).toArray 113 (0, 0))) :
    Calls Try.prog 32 [.pointer (some ⟨p.bd, 0, none⟩), .int .i64 i, .slice A n c].toArray w fun e w' => e = .returned (.int .i64 1) ∧ Below w.heap.size w w' := by
  have hbl := (Array.getElem?_eq_some_iff.1 hb).1
  have c0 : w.cell? ⟨p.bd, 0, none⟩ = some (.slice (some ⟨p.bs, 0, none⟩) 3 p.cs) := by rw [cell_of_row w p.bd 0 _ _ _ hb]; rfl
  refine enter Try.func32 rfl Try.ntmps32 (by simp) ?_
  by_cases h1 : i < 0
  · have g1 : decide (i < 0) = true := decide_eq_true h1
    repeat (first | refine S_scope ?_ | refine S_label ?_ | refine E_noGoto_normal ?_ | refine E_noGoto_ret ?_ | refine E_noGoto_exit ?_ | refine S_yes rfl (by first | with_reducible rfl | decide) ?_ | refine S_no rfl (by first | with_reducible rfl | decide) ?_ | refine S_seq ?_ | refine E_seq ?_ | refine S_block ?_ | refine E_block_normal ?_ | refine S_skip ?_ | refine S_exit ?_ | refine S_ret ?_ | refine E_then_exit ?_ | refine E_then_ret ?_ | refine E_block_ret ?_ | refine E_block_exit ?_ | refine E_block_exit_other rfl ?_)
    refine S_region ?_
    refine R_cons rfl (op_pure (p_assign rfl) rfl ?_)
    refine R_nil ?_
    repeat (first | refine S_scope ?_ | refine S_label ?_ | refine E_noGoto_normal ?_ | refine E_noGoto_ret ?_ | refine E_noGoto_exit ?_ | refine S_yes rfl (by first | with_reducible rfl | decide) ?_ | refine S_no rfl (by first | with_reducible rfl | decide) ?_ | refine S_seq ?_ | refine E_seq ?_ | refine S_block ?_ | refine E_block_normal ?_ | refine S_skip ?_ | refine S_exit ?_ | refine S_ret ?_ | refine E_then_exit ?_ | refine E_then_ret ?_ | refine E_block_ret ?_ | refine E_block_exit ?_ | refine E_block_exit_other rfl ?_)
    refine S_region ?_
    refine R_cons rfl (op_pure (p_move rfl) rfl ?_)
    refine R_cons rfl (op_callV rfl rfl Try.func62 rfl (by kernel_rfl) rfl (Nat.le_refl _) (fun w' hm => dnone_any p.bd 3 p.cs _ _ _ s.left s.bl (by omega) w' (below_block hm.below hb)) ?_)
    refine R_cons rfl (op_pure (p_assign rfl) rfl ?_)
    refine R_nil ?_
    repeat (first | refine S_scope ?_ | refine S_label ?_ | refine E_noGoto_normal ?_ | refine E_noGoto_ret ?_ | refine E_noGoto_exit ?_ | refine S_yes rfl (by first | with_reducible rfl | decide) ?_ | refine S_no rfl (by first | with_reducible rfl | decide) ?_ | refine S_seq ?_ | refine E_seq ?_ | refine S_block ?_ | refine E_block_normal ?_ | refine S_skip ?_ | refine S_exit ?_ | refine S_ret ?_ | refine E_then_exit ?_ | refine E_then_ret ?_ | refine E_block_ret ?_ | refine E_block_exit ?_ | refine E_block_exit_other rfl ?_)
    refine S_region ?_
    refine R_cons rfl (op_pure (p_move rfl) rfl ?_)
    refine R_cons rfl (op_pure (p_bin rfl rfl (b_lss g1)) rfl ?_)
    refine R_cons rfl (op_pure (p_move rfl) rfl ?_)
    first | refine R_pass rfl rfl rfl rfl ?_ | refine R_pass_undef rfl rfl rfl ?_ | refine R_guard rfl rfl rfl (op_pure (p_move rfl) rfl ?_)
    first | refine R_pass rfl rfl rfl rfl ?_ | refine R_pass_undef rfl rfl rfl ?_ | refine R_guard rfl rfl rfl (op_pure (p_move rfl) rfl ?_)
    first | refine R_pass rfl rfl rfl rfl ?_ | refine R_pass_undef rfl rfl rfl ?_ | refine R_guard rfl rfl rfl (op_pure (p_nilCheck rfl) rfl ?_)
    first | refine R_pass rfl rfl rfl rfl ?_ | refine R_pass_undef rfl rfl rfl ?_ | refine R_guard rfl rfl rfl (op_pure (by first | exact p_fieldAddr0 rfl fd_disks_Disk_0 | exact p_fieldAddr rfl fd_disks_Disk_0) rfl ?_)
    first | refine R_pass rfl rfl rfl rfl ?_ | refine R_pass_undef rfl rfl rfl ?_ | refine R_guard rfl rfl rfl (op_pure (p_load_base rfl sc_disks_sector hbl (by simp) c0) rfl ?_)
    first | refine R_pass rfl rfl rfl rfl ?_ | refine R_pass_undef rfl rfl rfl ?_ | refine R_guard rfl rfl rfl (op_pure (p_lenR rfl slr_disks_sector) rfl ?_)
    first | refine R_pass rfl rfl rfl rfl ?_ | refine R_pass_undef rfl rfl rfl ?_ | refine R_guard rfl rfl rfl (op_pure (p_bin rfl rfl (b_geq (by first | assumption | exact decide_eq_true (by omega) | exact decide_eq_false (by omega) | rfl))) rfl ?_)
    refine R_cons rfl (op_pure (by first | exact p_pick_yes rfl rfl | exact p_pick_no rfl rfl | exact p_pick rfl rfl rfl) rfl ?_)
    refine R_cons rfl (op_pure (p_move rfl) rfl ?_)
    first | refine R_pass rfl rfl rfl rfl ?_ | refine R_pass_undef rfl rfl rfl ?_ | refine R_guard rfl rfl rfl (op_pure (p_move rfl) rfl ?_)
    first | refine R_pass rfl rfl rfl rfl ?_ | refine R_pass_undef rfl rfl rfl ?_ | refine R_guard rfl rfl rfl (op_pure (p_len rfl slc_u8s) rfl ?_)
    first | refine R_pass rfl rfl rfl rfl ?_ | refine R_pass_undef rfl rfl rfl ?_ | refine R_guard rfl rfl rfl (op_pure (p_bin rfl rfl (b_gtr (by first | assumption | exact decide_eq_true (by omega) | exact decide_eq_false (by omega) | rfl))) rfl ?_)
    refine R_cons rfl (op_pure (by first | exact p_pick_yes rfl rfl | exact p_pick_no rfl rfl | exact p_pick rfl rfl rfl) rfl ?_)
    refine R_cons rfl (op_pure (p_assign rfl) rfl ?_)
    refine R_nil ?_
    repeat (first | refine S_scope ?_ | refine S_label ?_ | refine E_noGoto_normal ?_ | refine E_noGoto_ret ?_ | refine E_noGoto_exit ?_ | refine S_yes rfl (by first | with_reducible rfl | decide) ?_ | refine S_no rfl (by first | with_reducible rfl | decide) ?_ | refine S_seq ?_ | refine E_seq ?_ | refine S_block ?_ | refine E_block_normal ?_ | refine S_skip ?_ | refine S_exit ?_ | refine S_ret ?_ | refine E_then_exit ?_ | refine E_then_ret ?_ | refine E_block_ret ?_ | refine E_block_exit ?_ | refine E_block_exit_other rfl ?_)
    refine S_region ?_
    refine R_cons rfl (op_pure (p_assign rfl) rfl ?_)
    refine R_nil ?_
    repeat (first | refine S_scope ?_ | refine S_label ?_ | refine E_noGoto_normal ?_ | refine E_noGoto_ret ?_ | refine E_noGoto_exit ?_ | refine S_yes rfl (by first | with_reducible rfl | decide) ?_ | refine S_no rfl (by first | with_reducible rfl | decide) ?_ | refine S_seq ?_ | refine E_seq ?_ | refine S_block ?_ | refine E_block_normal ?_ | refine S_skip ?_ | refine S_exit ?_ | refine S_ret ?_ | refine E_then_exit ?_ | refine E_then_ret ?_ | refine E_block_ret ?_ | refine E_block_exit ?_ | refine E_block_exit_other rfl ?_)
    exact E_ret1 rfl rfl fun w' hm => ⟨rfl, hm.below⟩
  have g1 : decide (i < 0) = false := decide_eq_false h1
  by_cases h2 : 3 ≤ i
  · have g2 : decide ((3 : Int) ≤ i) = true := decide_eq_true h2
    repeat (first | refine S_scope ?_ | refine S_label ?_ | refine E_noGoto_normal ?_ | refine E_noGoto_ret ?_ | refine E_noGoto_exit ?_ | refine S_yes rfl (by first | with_reducible rfl | decide) ?_ | refine S_no rfl (by first | with_reducible rfl | decide) ?_ | refine S_seq ?_ | refine E_seq ?_ | refine S_block ?_ | refine E_block_normal ?_ | refine S_skip ?_ | refine S_exit ?_ | refine S_ret ?_ | refine E_then_exit ?_ | refine E_then_ret ?_ | refine E_block_ret ?_ | refine E_block_exit ?_ | refine E_block_exit_other rfl ?_)
    refine S_region ?_
    refine R_cons rfl (op_pure (p_assign rfl) rfl ?_)
    refine R_nil ?_
    repeat (first | refine S_scope ?_ | refine S_label ?_ | refine E_noGoto_normal ?_ | refine E_noGoto_ret ?_ | refine E_noGoto_exit ?_ | refine S_yes rfl (by first | with_reducible rfl | decide) ?_ | refine S_no rfl (by first | with_reducible rfl | decide) ?_ | refine S_seq ?_ | refine E_seq ?_ | refine S_block ?_ | refine E_block_normal ?_ | refine S_skip ?_ | refine S_exit ?_ | refine S_ret ?_ | refine E_then_exit ?_ | refine E_then_ret ?_ | refine E_block_ret ?_ | refine E_block_exit ?_ | refine E_block_exit_other rfl ?_)
    refine S_region ?_
    refine R_cons rfl (op_pure (p_move rfl) rfl ?_)
    refine R_cons rfl (op_callV rfl rfl Try.func62 rfl (by kernel_rfl) rfl (Nat.le_refl _) (fun w' hm => dnone_any p.bd 3 p.cs _ _ _ s.left s.bl (by omega) w' (below_block hm.below hb)) ?_)
    refine R_cons rfl (op_pure (p_assign rfl) rfl ?_)
    refine R_nil ?_
    repeat (first | refine S_scope ?_ | refine S_label ?_ | refine E_noGoto_normal ?_ | refine E_noGoto_ret ?_ | refine E_noGoto_exit ?_ | refine S_yes rfl (by first | with_reducible rfl | decide) ?_ | refine S_no rfl (by first | with_reducible rfl | decide) ?_ | refine S_seq ?_ | refine E_seq ?_ | refine S_block ?_ | refine E_block_normal ?_ | refine S_skip ?_ | refine S_exit ?_ | refine S_ret ?_ | refine E_then_exit ?_ | refine E_then_ret ?_ | refine E_block_ret ?_ | refine E_block_exit ?_ | refine E_block_exit_other rfl ?_)
    refine S_region ?_
    refine R_cons rfl (op_pure (p_move rfl) rfl ?_)
    refine R_cons rfl (op_pure (p_bin rfl rfl (b_lss g1)) rfl ?_)
    refine R_cons rfl (op_pure (p_move rfl) rfl ?_)
    first | refine R_pass rfl rfl rfl rfl ?_ | refine R_pass_undef rfl rfl rfl ?_ | refine R_guard rfl rfl rfl (op_pure (p_move rfl) rfl ?_)
    first | refine R_pass rfl rfl rfl rfl ?_ | refine R_pass_undef rfl rfl rfl ?_ | refine R_guard rfl rfl rfl (op_pure (p_move rfl) rfl ?_)
    first | refine R_pass rfl rfl rfl rfl ?_ | refine R_pass_undef rfl rfl rfl ?_ | refine R_guard rfl rfl rfl (op_pure (p_nilCheck rfl) rfl ?_)
    first | refine R_pass rfl rfl rfl rfl ?_ | refine R_pass_undef rfl rfl rfl ?_ | refine R_guard rfl rfl rfl (op_pure (by first | exact p_fieldAddr0 rfl fd_disks_Disk_0 | exact p_fieldAddr rfl fd_disks_Disk_0) rfl ?_)
    first | refine R_pass rfl rfl rfl rfl ?_ | refine R_pass_undef rfl rfl rfl ?_ | refine R_guard rfl rfl rfl (op_pure (p_load_base rfl sc_disks_sector hbl (by simp) c0) rfl ?_)
    first | refine R_pass rfl rfl rfl rfl ?_ | refine R_pass_undef rfl rfl rfl ?_ | refine R_guard rfl rfl rfl (op_pure (p_lenR rfl slr_disks_sector) rfl ?_)
    first | refine R_pass rfl rfl rfl rfl ?_ | refine R_pass_undef rfl rfl rfl ?_ | refine R_guard rfl rfl rfl (op_pure (p_bin rfl rfl (b_geq g2)) rfl ?_)
    refine R_cons rfl (op_pure (by first | exact p_pick_yes rfl rfl | exact p_pick_no rfl rfl | exact p_pick rfl rfl rfl) rfl ?_)
    refine R_cons rfl (op_pure (p_move rfl) rfl ?_)
    first | refine R_pass rfl rfl rfl rfl ?_ | refine R_pass_undef rfl rfl rfl ?_ | refine R_guard rfl rfl rfl (op_pure (p_move rfl) rfl ?_)
    first | refine R_pass rfl rfl rfl rfl ?_ | refine R_pass_undef rfl rfl rfl ?_ | refine R_guard rfl rfl rfl (op_pure (p_len rfl slc_u8s) rfl ?_)
    first | refine R_pass rfl rfl rfl rfl ?_ | refine R_pass_undef rfl rfl rfl ?_ | refine R_guard rfl rfl rfl (op_pure (p_bin rfl rfl (b_gtr (by first | assumption | exact decide_eq_true (by omega) | exact decide_eq_false (by omega) | rfl))) rfl ?_)
    refine R_cons rfl (op_pure (by first | exact p_pick_yes rfl rfl | exact p_pick_no rfl rfl | exact p_pick rfl rfl rfl) rfl ?_)
    refine R_cons rfl (op_pure (p_assign rfl) rfl ?_)
    refine R_nil ?_
    repeat (first | refine S_scope ?_ | refine S_label ?_ | refine E_noGoto_normal ?_ | refine E_noGoto_ret ?_ | refine E_noGoto_exit ?_ | refine S_yes rfl (by first | with_reducible rfl | decide) ?_ | refine S_no rfl (by first | with_reducible rfl | decide) ?_ | refine S_seq ?_ | refine E_seq ?_ | refine S_block ?_ | refine E_block_normal ?_ | refine S_skip ?_ | refine S_exit ?_ | refine S_ret ?_ | refine E_then_exit ?_ | refine E_then_ret ?_ | refine E_block_ret ?_ | refine E_block_exit ?_ | refine E_block_exit_other rfl ?_)
    refine S_region ?_
    refine R_cons rfl (op_pure (p_assign rfl) rfl ?_)
    refine R_nil ?_
    repeat (first | refine S_scope ?_ | refine S_label ?_ | refine E_noGoto_normal ?_ | refine E_noGoto_ret ?_ | refine E_noGoto_exit ?_ | refine S_yes rfl (by first | with_reducible rfl | decide) ?_ | refine S_no rfl (by first | with_reducible rfl | decide) ?_ | refine S_seq ?_ | refine E_seq ?_ | refine S_block ?_ | refine E_block_normal ?_ | refine S_skip ?_ | refine S_exit ?_ | refine S_ret ?_ | refine E_then_exit ?_ | refine E_then_ret ?_ | refine E_block_ret ?_ | refine E_block_exit ?_ | refine E_block_exit_other rfl ?_)
    exact E_ret1 rfl rfl fun w' hm => ⟨rfl, hm.below⟩
  have g2 : decide ((3 : Int) ≤ i) = false := decide_eq_false h2
  have g3 : decide ((64 : Int) < (n : Int)) = true := decide_eq_true (by omega)
  repeat (first | refine S_scope ?_ | refine S_label ?_ | refine E_noGoto_normal ?_ | refine E_noGoto_ret ?_ | refine E_noGoto_exit ?_ | refine S_yes rfl (by first | with_reducible rfl | decide) ?_ | refine S_no rfl (by first | with_reducible rfl | decide) ?_ | refine S_seq ?_ | refine E_seq ?_ | refine S_block ?_ | refine E_block_normal ?_ | refine S_skip ?_ | refine S_exit ?_ | refine S_ret ?_ | refine E_then_exit ?_ | refine E_then_ret ?_ | refine E_block_ret ?_ | refine E_block_exit ?_ | refine E_block_exit_other rfl ?_)
  refine S_region ?_
  refine R_cons rfl (op_pure (p_assign rfl) rfl ?_)
  refine R_nil ?_
  repeat (first | refine S_scope ?_ | refine S_label ?_ | refine E_noGoto_normal ?_ | refine E_noGoto_ret ?_ | refine E_noGoto_exit ?_ | refine S_yes rfl (by first | with_reducible rfl | decide) ?_ | refine S_no rfl (by first | with_reducible rfl | decide) ?_ | refine S_seq ?_ | refine E_seq ?_ | refine S_block ?_ | refine E_block_normal ?_ | refine S_skip ?_ | refine S_exit ?_ | refine S_ret ?_ | refine E_then_exit ?_ | refine E_then_ret ?_ | refine E_block_ret ?_ | refine E_block_exit ?_ | refine E_block_exit_other rfl ?_)
  refine S_region ?_
  refine R_cons rfl (op_pure (p_move rfl) rfl ?_)
  refine R_cons rfl (op_callV rfl rfl Try.func62 rfl (by kernel_rfl) rfl (Nat.le_refl _) (fun w' hm => dnone_any p.bd 3 p.cs _ _ _ s.left s.bl (by omega) w' (below_block hm.below hb)) ?_)
  refine R_cons rfl (op_pure (p_assign rfl) rfl ?_)
  refine R_nil ?_
  repeat (first | refine S_scope ?_ | refine S_label ?_ | refine E_noGoto_normal ?_ | refine E_noGoto_ret ?_ | refine E_noGoto_exit ?_ | refine S_yes rfl (by first | with_reducible rfl | decide) ?_ | refine S_no rfl (by first | with_reducible rfl | decide) ?_ | refine S_seq ?_ | refine E_seq ?_ | refine S_block ?_ | refine E_block_normal ?_ | refine S_skip ?_ | refine S_exit ?_ | refine S_ret ?_ | refine E_then_exit ?_ | refine E_then_ret ?_ | refine E_block_ret ?_ | refine E_block_exit ?_ | refine E_block_exit_other rfl ?_)
  refine S_region ?_
  refine R_cons rfl (op_pure (p_move rfl) rfl ?_)
  refine R_cons rfl (op_pure (p_bin rfl rfl (b_lss g1)) rfl ?_)
  refine R_cons rfl (op_pure (p_move rfl) rfl ?_)
  first | refine R_pass rfl rfl rfl rfl ?_ | refine R_pass_undef rfl rfl rfl ?_ | refine R_guard rfl rfl rfl (op_pure (p_move rfl) rfl ?_)
  first | refine R_pass rfl rfl rfl rfl ?_ | refine R_pass_undef rfl rfl rfl ?_ | refine R_guard rfl rfl rfl (op_pure (p_move rfl) rfl ?_)
  first | refine R_pass rfl rfl rfl rfl ?_ | refine R_pass_undef rfl rfl rfl ?_ | refine R_guard rfl rfl rfl (op_pure (p_nilCheck rfl) rfl ?_)
  first | refine R_pass rfl rfl rfl rfl ?_ | refine R_pass_undef rfl rfl rfl ?_ | refine R_guard rfl rfl rfl (op_pure (by first | exact p_fieldAddr0 rfl fd_disks_Disk_0 | exact p_fieldAddr rfl fd_disks_Disk_0) rfl ?_)
  first | refine R_pass rfl rfl rfl rfl ?_ | refine R_pass_undef rfl rfl rfl ?_ | refine R_guard rfl rfl rfl (op_pure (p_load_base rfl sc_disks_sector hbl (by simp) c0) rfl ?_)
  first | refine R_pass rfl rfl rfl rfl ?_ | refine R_pass_undef rfl rfl rfl ?_ | refine R_guard rfl rfl rfl (op_pure (p_lenR rfl slr_disks_sector) rfl ?_)
  first | refine R_pass rfl rfl rfl rfl ?_ | refine R_pass_undef rfl rfl rfl ?_ | refine R_guard rfl rfl rfl (op_pure (p_bin rfl rfl (b_geq g2)) rfl ?_)
  refine R_cons rfl (op_pure (by first | exact p_pick_yes rfl rfl | exact p_pick_no rfl rfl | exact p_pick rfl rfl rfl) rfl ?_)
  refine R_cons rfl (op_pure (p_move rfl) rfl ?_)
  first | refine R_pass rfl rfl rfl rfl ?_ | refine R_pass_undef rfl rfl rfl ?_ | refine R_guard rfl rfl rfl (op_pure (p_move rfl) rfl ?_)
  first | refine R_pass rfl rfl rfl rfl ?_ | refine R_pass_undef rfl rfl rfl ?_ | refine R_guard rfl rfl rfl (op_pure (p_len rfl slc_u8s) rfl ?_)
  first | refine R_pass rfl rfl rfl rfl ?_ | refine R_pass_undef rfl rfl rfl ?_ | refine R_guard rfl rfl rfl (op_pure (p_bin rfl rfl (b_gtr g3)) rfl ?_)
  refine R_cons rfl (op_pure (by first | exact p_pick_yes rfl rfl | exact p_pick_no rfl rfl | exact p_pick rfl rfl rfl) rfl ?_)
  refine R_cons rfl (op_pure (p_assign rfl) rfl ?_)
  refine R_nil ?_
  repeat (first | refine S_scope ?_ | refine S_label ?_ | refine E_noGoto_normal ?_ | refine E_noGoto_ret ?_ | refine E_noGoto_exit ?_ | refine S_yes rfl (by first | with_reducible rfl | decide) ?_ | refine S_no rfl (by first | with_reducible rfl | decide) ?_ | refine S_seq ?_ | refine E_seq ?_ | refine S_block ?_ | refine E_block_normal ?_ | refine S_skip ?_ | refine S_exit ?_ | refine S_ret ?_ | refine E_then_exit ?_ | refine E_then_ret ?_ | refine E_block_ret ?_ | refine E_block_exit ?_ | refine E_block_exit_other rfl ?_)
  refine S_region ?_
  refine R_cons rfl (op_pure (p_assign rfl) rfl ?_)
  refine R_nil ?_
  repeat (first | refine S_scope ?_ | refine S_label ?_ | refine E_noGoto_normal ?_ | refine E_noGoto_ret ?_ | refine E_noGoto_exit ?_ | refine S_yes rfl (by first | with_reducible rfl | decide) ?_ | refine S_no rfl (by first | with_reducible rfl | decide) ?_ | refine S_seq ?_ | refine E_seq ?_ | refine S_block ?_ | refine E_block_normal ?_ | refine S_skip ?_ | refine S_exit ?_ | refine S_ret ?_ | refine E_then_exit ?_ | refine E_then_ret ?_ | refine E_block_ret ?_ | refine E_block_exit ?_ | refine E_block_exit_other rfl ?_)
  exact E_ret1 rfl rfl fun w' hm => ⟨rfl, hm.below⟩
set_option maxHeartbeats 4000000 in
theorem dwriteG (m : Nat) (hm1 : m ≤ 1000) (p : PS) (s : DS) (hok : s.ok m) (hwb : wbOk p.wb s.ws) (i : Nat) (hi : i < 3) (A : Option Addr) (c : Nat) (x : List UInt8) (hx : x.length ≤ 64) (w : World)
    (hsrc : ∀ w' H', Mem w.heap.size ⟨w, (progH p s).map (·.1)⟩ H' w' → Reads w' A x.length (bytesV x)) (hm : Mem w.heap.size ⟨w, (progH p s).map (·.1)⟩ (progH p s) w) :
    Calls Try.prog 32 [.pointer (some ⟨p.bd, 0, none⟩), .int .i64 (i : Int), .slice A x.length c].toArray w fun e w' => ∃ v H', e = .returned v ∧ Mem w.heap.size ⟨w, (progH p s).map (·.1)⟩ H' w' ∧
      ((blownS s.left s.bl = true ∧ v = .int .i64 9 ∧ H' = progH p ⟨s.sure, s.ws, leftS s.left s.bl, true⟩) ∨
       (blownS s.left s.bl = false ∧ v = .int .i64 0 ∧ ∃ wb, wbOk wb (s.ws ++ [(i, pad x)]) ∧ H' = progH ⟨p.bd, p.bs, p.cs, p.bn, p.cn, p.sps, p.spn, wb⟩ ⟨s.sure, s.ws ++ [(i, pad x)], leftS s.left s.bl, false⟩)) := by
  obtain ⟨bd, bs, cs, bn, cn, sps, spn, wb⟩ := p
  obtain ⟨sure, ws, left, bl⟩ := s
  obtain ⟨hsl, hS, hW, ⟨hlo, hhi⟩, hwl⟩ := hok
  dsimp only at hsl hS hW hlo hhi hwl hwb
  have hN := nowOf_secs ws hW sure hS
  have hnl : (nowOf sure ws).length = 3 := by rw [nowOf_length, hsl]
  have hsn := nowOf_snoc sure ws i (pad x)
  have g1 : decide ((i : Int) < 0) = false := decide_eq_false (by omega)
  have g2 : decide ((3 : Int) ≤ (i : Int)) = false := decide_eq_false (by omega)
  have g3 : decide ((64 : Int) < (x.length : Int)) = false := decide_eq_false (by omega)
  have hpl := pad_length hx
  have hxb : (bytesV (pad x)).length = 64 := by rw [bytesV_length, hpl]
  have hl2 : (secV (nowOf sure ws)).length = 192 := by rw [secV_length hN, hnl]
  have hlay := lay_sec hN (by omega : i < (nowOf sure ws).length) hpl spn
  have hfit : 0 + i * 64 + (bytesV (pad x)).length ≤ (secV (nowOf sure ws) ++ spn).length := by rw [List.length_append, hl2, hxb]; omega
  unfold progH at hsrc hm ⊢
  dsimp only at hsrc hm ⊢
  refine enter_at Try.func32 rfl Try.ntmps32 (by simp) hm ?_
  repeat (first | refine S_scope ?_ | refine S_label ?_ | refine E_noGoto_normal ?_ | refine E_noGoto_ret ?_ | refine E_noGoto_exit ?_ | refine S_yes rfl (by first | with_reducible rfl | decide) ?_ | refine S_no rfl (by first | with_reducible rfl | decide) ?_ | refine S_seq ?_ | refine E_seq ?_ | refine S_block ?_ | refine E_block_normal ?_ | refine S_skip ?_ | refine S_exit ?_ | refine S_ret ?_ | refine E_then_exit ?_ | refine E_then_ret ?_ | refine E_block_ret ?_ | refine E_block_exit ?_ | refine E_block_exit_other rfl ?_)
  refine S_region ?_
  refine R_cons rfl (op_pure (p_assign rfl) rfl ?_)
  refine R_nil ?_
  repeat (first | refine S_scope ?_ | refine S_label ?_ | refine E_noGoto_normal ?_ | refine E_noGoto_ret ?_ | refine E_noGoto_exit ?_ | refine S_yes rfl (by first | with_reducible rfl | decide) ?_ | refine S_no rfl (by first | with_reducible rfl | decide) ?_ | refine S_seq ?_ | refine E_seq ?_ | refine S_block ?_ | refine E_block_normal ?_ | refine S_skip ?_ | refine S_exit ?_ | refine S_ret ?_ | refine E_then_exit ?_ | refine E_then_ret ?_ | refine E_block_ret ?_ | refine E_block_exit ?_ | refine E_block_exit_other rfl ?_)
  refine S_region ?_
  refine R_cons rfl (op_pure (p_move rfl) rfl ?_)
  refine R_cons rfl (op_callV rfl rfl Try.func62 rfl (by kernel_rfl) rfl (Nat.le_refl _) (fun w' hm => dnone_any bd 3 cs _ _ _ left bl (by omega) w' (hm.own (bd, _) (by repeat (first | exact List.Mem.head _ | apply List.Mem.tail))).2) ?_)
  refine R_cons rfl (op_pure (p_assign rfl) rfl ?_)
  refine R_nil ?_
  repeat (first | refine S_scope ?_ | refine S_label ?_ | refine E_noGoto_normal ?_ | refine E_noGoto_ret ?_ | refine E_noGoto_exit ?_ | refine S_yes rfl (by first | with_reducible rfl | decide) ?_ | refine S_no rfl (by first | with_reducible rfl | decide) ?_ | refine S_seq ?_ | refine E_seq ?_ | refine S_block ?_ | refine E_block_normal ?_ | refine S_skip ?_ | refine S_exit ?_ | refine S_ret ?_ | refine E_then_exit ?_ | refine E_then_ret ?_ | refine E_block_ret ?_ | refine E_block_exit ?_ | refine E_block_exit_other rfl ?_)
  refine S_region ?_
  refine R_cons rfl (op_pure (p_move rfl) rfl ?_)
  refine R_cons rfl (op_pure (p_bin rfl rfl (b_lss g1)) rfl ?_)
  refine R_cons rfl (op_pure (p_move rfl) rfl ?_)
  first | refine R_pass rfl rfl rfl rfl ?_ | refine R_pass_undef rfl rfl rfl ?_ | refine R_guard rfl rfl rfl (op_pure (p_move rfl) rfl ?_)
  first | refine R_pass rfl rfl rfl rfl ?_ | refine R_pass_undef rfl rfl rfl ?_ | refine R_guard rfl rfl rfl (op_pure (p_move rfl) rfl ?_)
  first | refine R_pass rfl rfl rfl rfl ?_ | refine R_pass_undef rfl rfl rfl ?_ | refine R_guard rfl rfl rfl (op_pure (p_nilCheck rfl) rfl ?_)
  first | refine R_pass rfl rfl rfl rfl ?_ | refine R_pass_undef rfl rfl rfl ?_ | refine R_guard rfl rfl rfl (op_pure (by first | exact p_fieldAddr0 rfl fd_disks_Disk_0 | exact p_fieldAddr rfl fd_disks_Disk_0) rfl ?_)
  first | refine R_pass rfl rfl rfl rfl ?_ | refine R_pass_undef rfl rfl rfl ?_ | refine R_guard rfl rfl rfl (op_pure (p_load rfl sc_disks_sector (by repeat (first | exact List.Mem.head _ | apply List.Mem.tail)) (by rfl)) rfl ?_)
  first | refine R_pass rfl rfl rfl rfl ?_ | refine R_pass_undef rfl rfl rfl ?_ | refine R_guard rfl rfl rfl (op_pure (p_lenR rfl slr_disks_sector) rfl ?_)
  first | refine R_pass rfl rfl rfl rfl ?_ | refine R_pass_undef rfl rfl rfl ?_ | refine R_guard rfl rfl rfl (op_pure (p_bin rfl rfl (b_geq g2)) rfl ?_)
  refine R_cons rfl (op_pure (by first | exact p_pick_yes rfl rfl | exact p_pick_no rfl rfl | exact p_pick rfl rfl rfl) rfl ?_)
  refine R_cons rfl (op_pure (p_move rfl) rfl ?_)
  first | refine R_pass rfl rfl rfl rfl ?_ | refine R_pass_undef rfl rfl rfl ?_ | refine R_guard rfl rfl rfl (op_pure (p_move rfl) rfl ?_)
  first | refine R_pass rfl rfl rfl rfl ?_ | refine R_pass_undef rfl rfl rfl ?_ | refine R_guard rfl rfl rfl (op_pure (p_len rfl slc_u8s) rfl ?_)
  first | refine R_pass rfl rfl rfl rfl ?_ | refine R_pass_undef rfl rfl rfl ?_ | refine R_guard rfl rfl rfl (op_pure (p_bin rfl rfl (b_gtr g3)) rfl ?_)
  refine R_cons rfl (op_pure (by first | exact p_pick_yes rfl rfl | exact p_pick_no rfl rfl | exact p_pick rfl rfl rfl) rfl ?_)
  refine R_cons rfl (op_pure (p_assign rfl) rfl ?_)
  refine R_nil ?_
  repeat (first | refine S_scope ?_ | refine S_label ?_ | refine E_noGoto_normal ?_ | refine E_noGoto_ret ?_ | refine E_noGoto_exit ?_ | refine S_yes rfl (by first | with_reducible rfl | decide) ?_ | refine S_no rfl (by first | with_reducible rfl | decide) ?_ | refine S_seq ?_ | refine E_seq ?_ | refine S_block ?_ | refine E_block_normal ?_ | refine S_skip ?_ | refine S_exit ?_ | refine S_ret ?_ | refine E_then_exit ?_ | refine E_then_ret ?_ | refine E_block_ret ?_ | refine E_block_exit ?_ | refine E_block_exit_other rfl ?_)
  refine S_region ?_
  refine R_cons rfl (op_pure (p_move rfl) rfl ?_)
  refine R_cons rfl (op_callH (Hc := [(bd, .cells (diskC (.slice (some ⟨bs, 0, none⟩) 3 cs) (.slice (some ⟨bn, 0, none⟩) 3 cn) (wbVal wb ws) left bl).toArray 113 (0, 0))]) (K := (bs, .cells (secV sure ++ sps).toArray 115 (0, 0)) :: (bn, .cells (secV (nowOf sure ws) ++ spn).toArray 115 (0, 0)) :: wbHp wb ws) rfl rfl Try.func70 rfl (by kernel_rfl) rfl (List.Perm.refl _) (fun w' hm => dspent_any bd _ _ _ left bl hlo hhi w' hm) (fun v H' hp => ?_))
  obtain ⟨rfl, rfl⟩ := hp
  refine R_cons rfl (op_pure (p_assign rfl) rfl ?_)
  refine R_nil ?_
  cases hbw : blownS left bl with
  | true =>
    repeat (first | refine S_scope ?_ | refine S_label ?_ | refine E_noGoto_normal ?_ | refine E_noGoto_ret ?_ | refine E_noGoto_exit ?_ | refine S_yes rfl (by first | with_reducible rfl | decide) ?_ | refine S_no rfl (by first | with_reducible rfl | decide) ?_ | refine S_seq ?_ | refine E_seq ?_ | refine S_block ?_ | refine E_block_normal ?_ | refine S_skip ?_ | refine S_exit ?_ | refine S_ret ?_ | refine E_then_exit ?_ | refine E_then_ret ?_ | refine E_block_ret ?_ | refine E_block_exit ?_ | refine E_block_exit_other rfl ?_)
    refine S_region ?_
    refine R_cons rfl (op_pure (p_assign rfl) rfl ?_)
    refine R_nil ?_
    repeat (first | refine S_scope ?_ | refine S_label ?_ | refine E_noGoto_normal ?_ | refine E_noGoto_ret ?_ | refine E_noGoto_exit ?_ | refine S_yes rfl (by first | with_reducible rfl | decide) ?_ | refine S_no rfl (by first | with_reducible rfl | decide) ?_ | refine S_seq ?_ | refine E_seq ?_ | refine S_block ?_ | refine E_block_normal ?_ | refine S_skip ?_ | refine S_exit ?_ | refine S_ret ?_ | refine E_then_exit ?_ | refine E_then_ret ?_ | refine E_block_ret ?_ | refine E_block_exit ?_ | refine E_block_exit_other rfl ?_)
    exact E_ret1 rfl rfl fun w' hm => ⟨_, _, rfl, hm, .inl ⟨rfl, rfl, rfl⟩⟩
  | false =>
    have h7 : lay ([Value.int .i64 0] ++ bytesV (List.replicate 64 0)) 0 (Value.int .i64 (i : Int) :: bytesV (List.replicate 64 0)) = Value.int .i64 (i : Int) :: bytesV (List.replicate 64 0) := lay_whole rfl
    have h8 : lay (Value.int .i64 (i : Int) :: bytesV (List.replicate 64 0)) (0 + 1) ((bytesV x).take x.length) = Value.int .i64 (i : Int) :: bytesV (pad x) := by
      rw [List.take_of_length_le (by rw [bytesV_length]; exact Nat.le_refl _)]
      rw [Nat.zero_add, lay_cons _ _ _ 0]
      rw [lay_pad x hx]
    have hpart : ((Value.int .i64 (i : Int) :: bytesV (pad x)).drop 1).take 64 = bytesV (pad x) := by
      show (bytesV (pad x)).take 64 = _
      exact List.take_of_length_le (by omega)
    have hwl2 : (Value.int .i64 (i : Int) :: bytesV (pad x)).length = 65 := by rw [List.length_cons, hxb]
    have hone : ∀ v ∈ (Value.int .i64 (i : Int) :: bytesV (pad x)), v.oneCell' = true := fun v hv => by
      rcases List.mem_cons.1 hv with rfl | hv
      · rfl
      · exact bytesV_one _ v hv
    repeat (first | refine S_scope ?_ | refine S_label ?_ | refine E_noGoto_normal ?_ | refine E_noGoto_ret ?_ | refine E_noGoto_exit ?_ | refine S_yes rfl (by first | with_reducible rfl | decide) ?_ | refine S_no rfl (by first | with_reducible rfl | decide) ?_ | refine S_seq ?_ | refine E_seq ?_ | refine S_block ?_ | refine E_block_normal ?_ | refine S_skip ?_ | refine S_exit ?_ | refine S_ret ?_ | refine E_then_exit ?_ | refine E_then_ret ?_ | refine E_block_ret ?_ | refine E_block_exit ?_ | refine E_block_exit_other rfl ?_)
    refine S_region ?_
    refine R_cons rfl (op_pure (p_move rfl) rfl ?_)
    refine R_cons rfl (op_pure (p_build (ps := [(0, .tmp 31)]) (cs := [.int .i64 (i : Int)]) rfl (by kernel_rfl)) rfl ?_)
    refine R_cons rfl (op_pure (p_build (ps := [(0, .tmp 32)]) (cs := .int .i64 (i : Int) :: bytesV (List.replicate 64 0)) rfl (by kernel_rfl)) rfl ?_)
    refine R_cons rfl (op_allocRow zero_disks_write rfl (Nat.le_refl _) (fun b7 => ?_))
    refine R_cons rfl (op_storeRow rfl rfl (fun v hv => by rcases List.mem_cons.1 hv with rfl | hv; rfl; exact bytesV_one _ v hv) row_disks_write rfl (by repeat (first | exact At.here | apply At.there)) (by exact Nat.le_of_ble_eq_true rfl) ?_)
    refine R_nil ?_
    repeat (first | refine S_scope ?_ | refine S_label ?_ | refine E_noGoto_normal ?_ | refine E_noGoto_ret ?_ | refine E_noGoto_exit ?_ | refine S_yes rfl (by first | with_reducible rfl | decide) ?_ | refine S_no rfl (by first | with_reducible rfl | decide) ?_ | refine S_seq ?_ | refine E_seq ?_ | refine S_block ?_ | refine E_block_normal ?_ | refine S_skip ?_ | refine S_exit ?_ | refine S_ret ?_ | refine E_then_exit ?_ | refine E_then_ret ?_ | refine E_block_ret ?_ | refine E_block_exit ?_ | refine E_block_exit_other rfl ?_)
    rw [h7]
    refine S_region ?_
    refine R_cons rfl (op_pure (by first | exact p_fieldAddr0 rfl fd_disks_write_1 | exact p_fieldAddr rfl fd_disks_write_1) rfl ?_)
    refine R_cons rfl (op_pure (p_sliceArr rfl arr_disks_sector) rfl ?_)
    refine R_cons rfl (op_pure (p_move rfl) rfl ?_)
    refine R_cons rfl (op_copy (n := x.length) rfl rfl slc_u8s (Nat.min_eq_left hx) (fun w' hm => hsrc w' _ hm) (bytesV_one _) (by repeat (first | exact At.here | apply At.there)) (by rw [List.length_cons, bytesV_length, List.length_replicate]; omega) rfl ?_)
    refine R_nil ?_
    repeat (first | refine S_scope ?_ | refine S_label ?_ | refine E_noGoto_normal ?_ | refine E_noGoto_ret ?_ | refine E_noGoto_exit ?_ | refine S_yes rfl (by first | with_reducible rfl | decide) ?_ | refine S_no rfl (by first | with_reducible rfl | decide) ?_ | refine S_seq ?_ | refine E_seq ?_ | refine S_block ?_ | refine E_block_normal ?_ | refine S_skip ?_ | refine S_exit ?_ | refine S_ret ?_ | refine E_then_exit ?_ | refine E_then_ret ?_ | refine E_block_ret ?_ | refine E_block_exit ?_ | refine E_block_exit_other rfl ?_)
    rw [h8]
    refine S_tail 10 (by kernel_rfl) (by kernel_rfl) (by kernel_rfl) (by kernel_rfl) ?_
    refine Q_cons (Still1.of_pure (p_move rfl)) rfl ?_
    refine Q_cons (Still1.of_pure (p_nilCheck rfl)) rfl ?_
    refine Q_cons (Still1.of_pure (by first | exact p_fieldAddr0 rfl fd_disks_Disk_1 | exact p_fieldAddr rfl fd_disks_Disk_1)) rfl ?_
    refine Q_cons (Still1.of_pure (p_load rfl sc_disks_sector (by repeat (first | exact List.Mem.head _ | apply List.Mem.tail)) (by rfl))) rfl ?_
    refine Q_cons (Still1.of_pure (by first | exact p_fieldAddr0 rfl fd_disks_write_0 | exact p_fieldAddr rfl fd_disks_write_0)) rfl ?_
    refine Q_cons (Still1.of_pure (by first | exact p_fieldAddr0 rfl fd_disks_place_0 | exact p_fieldAddr rfl fd_disks_place_0)) rfl ?_
    refine Q_cons (Still1.of_pure (p_load rfl sc_int (by repeat (first | exact List.Mem.head _ | apply List.Mem.tail)) rfl)) rfl ?_
    refine Q_cons (Still1.of_pure (by first | exact p_fieldAddr0 rfl fd_disks_write_1 | exact p_fieldAddr rfl fd_disks_write_1)) rfl ?_
    refine Q_cons (Still1.of_pure (p_loadPart rfl row_disks_sector (by repeat (first | exact List.Mem.head _ | apply List.Mem.tail)) (by rw [hwl2]; exact Nat.le_of_ble_eq_true rfl) hpart)) rfl ?_
    refine Q_cons (Still1.of_pure (p_indexR (j := i) rfl rfl rfl slr_disks_sector hi)) rfl ?_
    refine Q_nop ?_
    refine Q_nil ?_
    refine E_tail ?_
    refine R_cons rfl (op_storeRow rfl rfl (bytesV_one _) row_disks_sector hxb (by repeat (first | exact At.here | apply At.there)) hfit ?_)
    refine R_nil ?_
    repeat (first | refine S_scope ?_ | refine S_label ?_ | refine E_noGoto_normal ?_ | refine E_noGoto_ret ?_ | refine E_noGoto_exit ?_ | refine S_yes rfl (by first | with_reducible rfl | decide) ?_ | refine S_no rfl (by first | with_reducible rfl | decide) ?_ | refine S_seq ?_ | refine E_seq ?_ | refine S_block ?_ | refine E_block_normal ?_ | refine S_skip ?_ | refine S_exit ?_ | refine S_ret ?_ | refine E_then_exit ?_ | refine E_then_ret ?_ | refine E_block_ret ?_ | refine E_block_exit ?_ | refine E_block_exit_other rfl ?_)
    rw [Nat.zero_add, hlay, ← hsn]
    have he1 : [Value.int .i64 (i : Int) :: bytesV (pad x)].flatMap id = Value.int .i64 (i : Int) :: bytesV (pad x) := by simp
    have hsn2 := wsV_snoc ws i (pad x)
    refine S_cutE (σ := Option (Nat × Nat × List Value)) (fun q => [(6, .int .i64 0)]) (fun q => (bd, .cells (diskC (.slice (some ⟨bs, 0, none⟩) 3 cs) (.slice (some ⟨bn, 0, none⟩) 3 cn) (wbVal q (ws ++ [(i, pad x)])) (leftS left bl) false).toArray 113 (0, 0)) :: (bs, .cells (secV sure ++ sps).toArray 115 (0, 0)) :: (bn, .cells (secV (nowOf sure (ws ++ [(i, pad x)])) ++ spn).toArray 115 (0, 0)) :: wbHp q (ws ++ [(i, pad x)])) (fun q => wbOk q (ws ++ [(i, pad x)])) ?_ ?_
    · cases wb with
      | none =>
        have hws : ws = [] := hwb
        subst hws
        dsimp only [wbHp, wbVal]
        rw [List.nil_append] at hsn2 ⊢
        have e0 : wsV [] = [] := by unfold wsV; rfl
        rw [e0, List.nil_append] at hsn2
        refine S_drawn (by kernel_rfl) (.keep rfl (.drop (.keep rfl (.keep rfl .nil)))) ?_
        refine D_take 0 rfl (by kernel_rfl) (by kernel_rfl) (by kernel_rfl) (by repeat (first | exact calm_body | exact calm_mid | apply calm_noGoto | exact calm_midE | apply calm_then | apply calm_block)) (p_move rfl) rfl ?_
        refine D_take 1 rfl (by kernel_rfl) (by kernel_rfl) (by kernel_rfl) (by repeat (first | exact calm_body | exact calm_mid | apply calm_noGoto | exact calm_midE | apply calm_then | apply calm_block)) (p_move rfl) rfl ?_
        refine D_take 2 rfl (by kernel_rfl) (by kernel_rfl) (by kernel_rfl) (by repeat (first | exact calm_body | exact calm_mid | apply calm_noGoto | exact calm_midE | apply calm_then | apply calm_block)) (p_nilCheck rfl) rfl ?_
        refine D_take 3 rfl (by kernel_rfl) (by kernel_rfl) (by kernel_rfl) (by repeat (first | exact calm_body | exact calm_mid | apply calm_noGoto | exact calm_midE | apply calm_then | apply calm_block)) (by first | exact p_fieldAddr0 rfl fd_disks_Disk_2 | exact p_fieldAddr rfl fd_disks_Disk_2) rfl ?_
        refine D_take 5 rfl (by kernel_rfl) (by kernel_rfl) (by kernel_rfl) (by repeat (first | exact calm_body | exact calm_mid | apply calm_noGoto | exact calm_midE | apply calm_then | apply calm_block)) (p_loadRow rfl row_disks_write (by repeat (first | exact List.Mem.head _ | apply List.Mem.tail)) hwl2) rfl ?_
        refine D_two 4 6 (by kernel_rfl) ?_ ?_
        · refine step_plain 4 rfl rfl (op_pure (p_load rfl sc_disks_write (by repeat (first | exact List.Mem.head _ | apply List.Mem.tail)) (by rfl)) rfl ?_)
          refine ⟨(by repeat (first | exact Fewer.nil | refine Fewer.keep rfl ?_ | refine Fewer.drop ?_ | exact Fewer.refl _ | exact Fewer.inl _ _ | (simp only [List.append_nil]; first | exact Fewer.inl _ _ | exact Fewer.refl _))), ?_⟩
          refine D_only 6 rfl (by kernel_rfl) rfl (op_buildSliceR (s := 65) (ps := [(0, .tmp 53)]) (l := [Value.int .i64 (i : Int) :: bytesV (pad x)]) rfl rfl slr_disks_write.1 elr_write (fun y hy => by rw [List.mem_singleton] at hy; subst hy; exact hwl2) rfl (by decide) (by decide) rfl (Nat.le_refl _) (fun b54 => ?_))
          refine ⟨(by repeat (first | exact Fewer.nil | refine Fewer.keep rfl ?_ | refine Fewer.drop ?_ | exact Fewer.refl _ | exact Fewer.inl _ _ | (simp only [List.append_nil]; first | exact Fewer.inl _ _ | exact Fewer.refl _))), ?_⟩
          refine D_only 7 rfl (by kernel_rfl) rfl (op_appendNilR (s := 65) (bytes := 72) (m := 1) (ys := Value.int .i64 (i : Int) :: bytesV (pad x)) rfl rfl slr_disks_write.1 elr_write (by decide) (fun w' hm => by have h := hm.readsAll (b := b54) (n := 65) (cs := [Value.int .i64 (i : Int) :: bytesV (pad x)].flatMap id) (by repeat (first | exact List.Mem.head _ | apply List.Mem.tail)) (by rw [he1]; exact hwl2); rw [he1] at h; exact h) hone (by decide) (by decide) (by decide) rfl (Nat.le_refl _) (fun b' c' s' h' i' j' => ?_))
          refine ⟨(by repeat (first | exact Fewer.nil | refine Fewer.keep rfl ?_ | refine Fewer.drop ?_ | exact Fewer.refl _ | exact Fewer.inl _ _ | (simp only [List.append_nil]; first | exact Fewer.inl _ _ | exact Fewer.refl _))), ?_⟩
          refine D_take 8 rfl (by kernel_rfl) (by kernel_rfl) (by kernel_rfl) (by repeat (first | exact calm_body | exact calm_mid | apply calm_noGoto | exact calm_midE | apply calm_then | apply calm_block)) (p_nilCheck rfl) rfl ?_
          refine D_take 9 rfl (by kernel_rfl) (by kernel_rfl) (by kernel_rfl) (by repeat (first | exact calm_body | exact calm_mid | apply calm_noGoto | exact calm_midE | apply calm_then | apply calm_block)) (by first | exact p_fieldAddr0 rfl fd_disks_Disk_2 | exact p_fieldAddr rfl fd_disks_Disk_2) rfl ?_
          refine D_only 10 rfl (by kernel_rfl) rfl (op_store rfl rfl rfl sc_disks_write (by repeat (first | exact At.here | apply At.there)) (by first | exact Nat.le_of_ble_eq_true rfl | omega | (simp only [bytesV_length, wordsV_length]; omega) | (simp only [bytesV_length, wordsV_length, List.length_cons, List.length_nil, List.length_set, List.length_append]; omega) | decide) ?_)
          refine ⟨(by repeat (first | exact Fewer.nil | refine Fewer.keep rfl ?_ | refine Fewer.drop ?_ | exact Fewer.refl _ | exact Fewer.inl _ _ | (simp only [List.append_nil]; first | exact Fewer.inl _ _ | exact Fewer.refl _))), ?_⟩
          refine D_done (by kernel_rfl) ?_
          exact E_midE (some (b', c', s')) (by show _ ∧ _ ∧ _; rw [hsn2]; exact ⟨h', i', j'⟩) (by repeat (first | exact Sub.nil | refine Sub.cons rfl ?_)) (by dsimp only [wbHp, wbVal]; rw [hsn2]; repeat (first | exact Fewer.nil | refine Fewer.pick rfl (by repeat (first | exact Del.here | apply Del.there)) ?_))
        · refine step_plain 6 rfl rfl (op_buildSliceR (s := 65) (ps := [(0, .tmp 53)]) (l := [Value.int .i64 (i : Int) :: bytesV (pad x)]) rfl rfl slr_disks_write.1 elr_write (fun y hy => by rw [List.mem_singleton] at hy; subst hy; exact hwl2) rfl (by decide) (by decide) rfl (Nat.le_refl _) (fun b54 => ?_))
          refine ⟨(by repeat (first | exact Fewer.nil | refine Fewer.keep rfl ?_ | refine Fewer.drop ?_ | exact Fewer.refl _ | exact Fewer.inl _ _ | (simp only [List.append_nil]; first | exact Fewer.inl _ _ | exact Fewer.refl _))), ?_⟩
          refine D_only 4 rfl (by kernel_rfl) rfl (op_pure (p_load rfl sc_disks_write (by repeat (first | exact List.Mem.head _ | apply List.Mem.tail)) (by rfl)) rfl ?_)
          refine ⟨(by repeat (first | exact Fewer.nil | refine Fewer.keep rfl ?_ | refine Fewer.drop ?_ | exact Fewer.refl _ | exact Fewer.inl _ _ | (simp only [List.append_nil]; first | exact Fewer.inl _ _ | exact Fewer.refl _))), ?_⟩
          refine D_only 7 rfl (by kernel_rfl) rfl (op_appendNilR (s := 65) (bytes := 72) (m := 1) (ys := Value.int .i64 (i : Int) :: bytesV (pad x)) rfl rfl slr_disks_write.1 elr_write (by decide) (fun w' hm => by have h := hm.readsAll (b := b54) (n := 65) (cs := [Value.int .i64 (i : Int) :: bytesV (pad x)].flatMap id) (by repeat (first | exact List.Mem.head _ | apply List.Mem.tail)) (by rw [he1]; exact hwl2); rw [he1] at h; exact h) hone (by decide) (by decide) (by decide) rfl (Nat.le_refl _) (fun b' c' s' h' i' j' => ?_))
          refine ⟨(by repeat (first | exact Fewer.nil | refine Fewer.keep rfl ?_ | refine Fewer.drop ?_ | exact Fewer.refl _ | exact Fewer.inl _ _ | (simp only [List.append_nil]; first | exact Fewer.inl _ _ | exact Fewer.refl _))), ?_⟩
          refine D_take 8 rfl (by kernel_rfl) (by kernel_rfl) (by kernel_rfl) (by repeat (first | exact calm_body | exact calm_mid | apply calm_noGoto | exact calm_midE | apply calm_then | apply calm_block)) (p_nilCheck rfl) rfl ?_
          refine D_take 9 rfl (by kernel_rfl) (by kernel_rfl) (by kernel_rfl) (by repeat (first | exact calm_body | exact calm_mid | apply calm_noGoto | exact calm_midE | apply calm_then | apply calm_block)) (by first | exact p_fieldAddr0 rfl fd_disks_Disk_2 | exact p_fieldAddr rfl fd_disks_Disk_2) rfl ?_
          refine D_only 10 rfl (by kernel_rfl) rfl (op_store rfl rfl rfl sc_disks_write (by repeat (first | exact At.here | apply At.there)) (by first | exact Nat.le_of_ble_eq_true rfl | omega | (simp only [bytesV_length, wordsV_length]; omega) | (simp only [bytesV_length, wordsV_length, List.length_cons, List.length_nil, List.length_set, List.length_append]; omega) | decide) ?_)
          refine ⟨(by repeat (first | exact Fewer.nil | refine Fewer.keep rfl ?_ | refine Fewer.drop ?_ | exact Fewer.refl _ | exact Fewer.inl _ _ | (simp only [List.append_nil]; first | exact Fewer.inl _ _ | exact Fewer.refl _))), ?_⟩
          refine D_done (by kernel_rfl) ?_
          exact E_midE (some (b', c', s')) (by show _ ∧ _ ∧ _; rw [hsn2]; exact ⟨h', i', j'⟩) (by repeat (first | exact Sub.nil | refine Sub.cons rfl ?_)) (by dsimp only [wbHp, wbVal]; rw [hsn2]; repeat (first | exact Fewer.nil | refine Fewer.pick rfl (by repeat (first | exact Del.here | apply Del.there)) ?_))
      | some q =>
        obtain ⟨bw, cw, spw⟩ := q
        obtain ⟨hw1, hw2, hw3⟩ := hwb
        dsimp only [wbHp, wbVal]
        have hwn := wsV_length ws hW
        have hlen1 : (ws ++ [(i, pad x)]).length = ws.length + 1 := by rw [List.length_append]; rfl
        refine S_drawn (by kernel_rfl) (.keep rfl (.drop (.keep rfl (.keep rfl .nil)))) ?_
        refine D_take 0 rfl (by kernel_rfl) (by kernel_rfl) (by kernel_rfl) (by repeat (first | exact calm_body | exact calm_mid | apply calm_noGoto | exact calm_midE | apply calm_then | apply calm_block)) (p_move rfl) rfl ?_
        refine D_take 1 rfl (by kernel_rfl) (by kernel_rfl) (by kernel_rfl) (by repeat (first | exact calm_body | exact calm_mid | apply calm_noGoto | exact calm_midE | apply calm_then | apply calm_block)) (p_move rfl) rfl ?_
        refine D_take 2 rfl (by kernel_rfl) (by kernel_rfl) (by kernel_rfl) (by repeat (first | exact calm_body | exact calm_mid | apply calm_noGoto | exact calm_midE | apply calm_then | apply calm_block)) (p_nilCheck rfl) rfl ?_
        refine D_take 3 rfl (by kernel_rfl) (by kernel_rfl) (by kernel_rfl) (by repeat (first | exact calm_body | exact calm_mid | apply calm_noGoto | exact calm_midE | apply calm_then | apply calm_block)) (by first | exact p_fieldAddr0 rfl fd_disks_Disk_2 | exact p_fieldAddr rfl fd_disks_Disk_2) rfl ?_
        refine D_take 5 rfl (by kernel_rfl) (by kernel_rfl) (by kernel_rfl) (by repeat (first | exact calm_body | exact calm_mid | apply calm_noGoto | exact calm_midE | apply calm_then | apply calm_block)) (p_loadRow rfl row_disks_write (by repeat (first | exact List.Mem.head _ | apply List.Mem.tail)) hwl2) rfl ?_
        refine D_two 4 6 (by kernel_rfl) ?_ ?_
        · refine step_plain 4 rfl rfl (op_pure (p_load rfl sc_disks_write (by repeat (first | exact List.Mem.head _ | apply List.Mem.tail)) (by rfl)) rfl ?_)
          refine ⟨(by repeat (first | exact Fewer.nil | refine Fewer.keep rfl ?_ | refine Fewer.drop ?_ | exact Fewer.refl _ | exact Fewer.inl _ _ | (simp only [List.append_nil]; first | exact Fewer.inl _ _ | exact Fewer.refl _))), ?_⟩
          refine D_only 6 rfl (by kernel_rfl) rfl (op_buildSliceR (s := 65) (ps := [(0, .tmp 53)]) (l := [Value.int .i64 (i : Int) :: bytesV (pad x)]) rfl rfl slr_disks_write.1 elr_write (fun y hy => by rw [List.mem_singleton] at hy; subst hy; exact hwl2) rfl (by decide) (by decide) rfl (Nat.le_refl _) (fun b54 => ?_))
          refine ⟨(by repeat (first | exact Fewer.nil | refine Fewer.keep rfl ?_ | refine Fewer.drop ?_ | exact Fewer.refl _ | exact Fewer.inl _ _ | (simp only [List.append_nil]; first | exact Fewer.inl _ _ | exact Fewer.refl _))), ?_⟩
          refine D_only 7 rfl (by kernel_rfl) rfl (op_appendR (s := 65) (bytes := 72) (m := 1) (xs := wsV ws) (sp := spw) (ys := Value.int .i64 (i : Int) :: bytesV (pad x)) rfl rfl slr_disks_write.1 elr_write (by decide) (by repeat (first | exact Del.here | apply Del.there)) hwn hw1 hw3 (fun w' hm => by have h := hm.readsAll (b := b54) (n := 65) (cs := [Value.int .i64 (i : Int) :: bytesV (pad x)].flatMap id) (by repeat (first | exact List.Mem.head _ | apply List.Mem.tail)) (by rw [he1]; exact hwl2); rw [he1] at h; exact h) hone (by decide) (by omega) (by decide) rfl (Nat.le_refl _) (fun b' c' s' h' i' j' => ?_))
          refine ⟨(by repeat (first | exact Fewer.nil | refine Fewer.keep rfl ?_ | refine Fewer.drop ?_ | exact Fewer.refl _ | exact Fewer.inl _ _ | (simp only [List.append_nil]; first | exact Fewer.inl _ _ | exact Fewer.refl _))), ?_⟩
          refine D_take 8 rfl (by kernel_rfl) (by kernel_rfl) (by kernel_rfl) (by repeat (first | exact calm_body | exact calm_mid | apply calm_noGoto | exact calm_midE | apply calm_then | apply calm_block)) (p_nilCheck rfl) rfl ?_
          refine D_take 9 rfl (by kernel_rfl) (by kernel_rfl) (by kernel_rfl) (by repeat (first | exact calm_body | exact calm_mid | apply calm_noGoto | exact calm_midE | apply calm_then | apply calm_block)) (by first | exact p_fieldAddr0 rfl fd_disks_Disk_2 | exact p_fieldAddr rfl fd_disks_Disk_2) rfl ?_
          refine D_only 10 rfl (by kernel_rfl) rfl (op_store rfl rfl rfl sc_disks_write (by repeat (first | exact At.here | apply At.there)) (by first | exact Nat.le_of_ble_eq_true rfl | omega | (simp only [bytesV_length, wordsV_length]; omega) | (simp only [bytesV_length, wordsV_length, List.length_cons, List.length_nil, List.length_set, List.length_append]; omega) | decide) ?_)
          refine ⟨(by repeat (first | exact Fewer.nil | refine Fewer.keep rfl ?_ | refine Fewer.drop ?_ | exact Fewer.refl _ | exact Fewer.inl _ _ | (simp only [List.append_nil]; first | exact Fewer.inl _ _ | exact Fewer.refl _))), ?_⟩
          refine D_done (by kernel_rfl) ?_
          exact E_midE (some (b', c', s')) (by show _ ∧ _ ∧ _; rw [hsn2, hlen1]; exact ⟨h', i', j'⟩) (by repeat (first | exact Sub.nil | refine Sub.cons rfl ?_)) (by dsimp only [wbHp, wbVal]; rw [hsn2, hlen1]; repeat (first | exact Fewer.nil | refine Fewer.pick rfl (by repeat (first | exact Del.here | apply Del.there)) ?_))
        · refine step_plain 6 rfl rfl (op_buildSliceR (s := 65) (ps := [(0, .tmp 53)]) (l := [Value.int .i64 (i : Int) :: bytesV (pad x)]) rfl rfl slr_disks_write.1 elr_write (fun y hy => by rw [List.mem_singleton] at hy; subst hy; exact hwl2) rfl (by decide) (by decide) rfl (Nat.le_refl _) (fun b54 => ?_))
          refine ⟨(by repeat (first | exact Fewer.nil | refine Fewer.keep rfl ?_ | refine Fewer.drop ?_ | exact Fewer.refl _ | exact Fewer.inl _ _ | (simp only [List.append_nil]; first | exact Fewer.inl _ _ | exact Fewer.refl _))), ?_⟩
          refine D_only 4 rfl (by kernel_rfl) rfl (op_pure (p_load rfl sc_disks_write (by repeat (first | exact List.Mem.head _ | apply List.Mem.tail)) (by rfl)) rfl ?_)
          refine ⟨(by repeat (first | exact Fewer.nil | refine Fewer.keep rfl ?_ | refine Fewer.drop ?_ | exact Fewer.refl _ | exact Fewer.inl _ _ | (simp only [List.append_nil]; first | exact Fewer.inl _ _ | exact Fewer.refl _))), ?_⟩
          refine D_only 7 rfl (by kernel_rfl) rfl (op_appendR (s := 65) (bytes := 72) (m := 1) (xs := wsV ws) (sp := spw) (ys := Value.int .i64 (i : Int) :: bytesV (pad x)) rfl rfl slr_disks_write.1 elr_write (by decide) (by repeat (first | exact Del.here | apply Del.there)) hwn hw1 hw3 (fun w' hm => by have h := hm.readsAll (b := b54) (n := 65) (cs := [Value.int .i64 (i : Int) :: bytesV (pad x)].flatMap id) (by repeat (first | exact List.Mem.head _ | apply List.Mem.tail)) (by rw [he1]; exact hwl2); rw [he1] at h; exact h) hone (by decide) (by omega) (by decide) rfl (Nat.le_refl _) (fun b' c' s' h' i' j' => ?_))
          refine ⟨(by repeat (first | exact Fewer.nil | refine Fewer.keep rfl ?_ | refine Fewer.drop ?_ | exact Fewer.refl _ | exact Fewer.inl _ _ | (simp only [List.append_nil]; first | exact Fewer.inl _ _ | exact Fewer.refl _))), ?_⟩
          refine D_take 8 rfl (by kernel_rfl) (by kernel_rfl) (by kernel_rfl) (by repeat (first | exact calm_body | exact calm_mid | apply calm_noGoto | exact calm_midE | apply calm_then | apply calm_block)) (p_nilCheck rfl) rfl ?_
          refine D_take 9 rfl (by kernel_rfl) (by kernel_rfl) (by kernel_rfl) (by repeat (first | exact calm_body | exact calm_mid | apply calm_noGoto | exact calm_midE | apply calm_then | apply calm_block)) (by first | exact p_fieldAddr0 rfl fd_disks_Disk_2 | exact p_fieldAddr rfl fd_disks_Disk_2) rfl ?_
          refine D_only 10 rfl (by kernel_rfl) rfl (op_store rfl rfl rfl sc_disks_write (by repeat (first | exact At.here | apply At.there)) (by first | exact Nat.le_of_ble_eq_true rfl | omega | (simp only [bytesV_length, wordsV_length]; omega) | (simp only [bytesV_length, wordsV_length, List.length_cons, List.length_nil, List.length_set, List.length_append]; omega) | decide) ?_)
          refine ⟨(by repeat (first | exact Fewer.nil | refine Fewer.keep rfl ?_ | refine Fewer.drop ?_ | exact Fewer.refl _ | exact Fewer.inl _ _ | (simp only [List.append_nil]; first | exact Fewer.inl _ _ | exact Fewer.refl _))), ?_⟩
          refine D_done (by kernel_rfl) ?_
          exact E_midE (some (b', c', s')) (by show _ ∧ _ ∧ _; rw [hsn2, hlen1]; exact ⟨h', i', j'⟩) (by repeat (first | exact Sub.nil | refine Sub.cons rfl ?_)) (by dsimp only [wbHp, wbVal]; rw [hsn2, hlen1]; repeat (first | exact Fewer.nil | refine Fewer.pick rfl (by repeat (first | exact Del.here | apply Del.there)) ?_))
    intro q hq
    repeat (first | refine S_scope ?_ | refine S_label ?_ | refine E_noGoto_normal ?_ | refine E_noGoto_ret ?_ | refine E_noGoto_exit ?_ | refine S_yes rfl (by first | with_reducible rfl | decide) ?_ | refine S_no rfl (by first | with_reducible rfl | decide) ?_ | refine S_seq ?_ | refine E_seq ?_ | refine S_block ?_ | refine E_block_normal ?_ | refine S_skip ?_ | refine S_exit ?_ | refine S_ret ?_ | refine E_then_exit ?_ | refine E_then_ret ?_ | refine E_block_ret ?_ | refine E_block_exit ?_ | refine E_block_exit_other rfl ?_)
    refine S_region ?_
    refine R_cons rfl (op_pure (p_assign rfl) rfl ?_)
    refine R_nil ?_
    repeat (first | refine S_scope ?_ | refine S_label ?_ | refine E_noGoto_normal ?_ | refine E_noGoto_ret ?_ | refine E_noGoto_exit ?_ | refine S_yes rfl (by first | with_reducible rfl | decide) ?_ | refine S_no rfl (by first | with_reducible rfl | decide) ?_ | refine S_seq ?_ | refine E_seq ?_ | refine S_block ?_ | refine E_block_normal ?_ | refine S_skip ?_ | refine S_exit ?_ | refine S_ret ?_ | refine E_then_exit ?_ | refine E_then_ret ?_ | refine E_block_ret ?_ | refine E_block_exit ?_ | refine E_block_exit_other rfl ?_)
    exact E_ret1 rfl rfl fun w' hm => ⟨_, _, rfl, hm, .inr ⟨rfl, rfl, q, hq, rfl⟩⟩
end Go.Proofs.Ytfdlafjifjndeaa
/-
  The layers disks and counts, whatever waits: all made sure; the next number.
-/
namespace Go.Proofs.Ytfdlafjifjndeaa
open Go.RowKit Go.K
attribute [local irreducible] Exit.then Exit.inBlock Exit.noGoto bodyPost Code.wp QL Sx Rx Qx Ex Dx Op1 Pure1 Still1 K.Sub Calm Code.wpIn
set_option linter.unusedVariables false
def DS.write (s : DS) (i : Nat) (x : List UInt8) : DS := if blownS s.left s.bl then ⟨s.sure, s.ws, leftS s.left s.bl, true⟩ else ⟨s.sure, s.ws ++ [(i, x)], leftS s.left s.bl, false⟩
def DS.sync (s : DS) : DS := if blownS s.left s.bl then ⟨s.sure, s.ws, leftS s.left s.bl, true⟩ else ⟨nowOf s.sure s.ws, [], leftS s.left s.bl, false⟩
structure NX where
  used : Nat
  down : Bool
  s : DS
  n : Nat
  e : Int
def nextS (s : DS) (at_ u : Nat) : NX :=
  if blownS s.left s.bl then ⟨u, true, s.write at_ (toldS (u + 1)), 0, 9⟩
  else if blownS (leftS s.left s.bl) false then ⟨u, true, (s.write at_ (toldS (u + 1))).sync, 0, 9⟩
  else ⟨u + 1, false, (s.write at_ (toldS (u + 1))).sync, u, 0⟩
attribute [local irreducible] digitsB onNat sumU Buf.hp Buf.cap Buf.addr secV toldS getP leftS blownS openedS wsV nowOf
theorem dsync_failG (m : Nat) (p : PS) (s : DS) (hok : s.ok m) (hb : blownS s.left s.bl = true) (w : World) (hm : Mem w.heap.size ⟨w, (progH p s).map (·.1)⟩ (progH p s) w) :
    Calls Try.prog 61 [.pointer (some ⟨p.bd, 0, none⟩)].toArray w fun e w' => ∃ _ : Unit, e = .returned (.int .i64 9) ∧ Mem w.heap.size ⟨w, (progH p s).map (·.1)⟩ (progH p s.sync) w' ∧ True := by
  obtain ⟨bd, bs, cs, bn, cn, sps, spn, wb⟩ := p
  obtain ⟨sure, ws, left, bl⟩ := s
  obtain ⟨hsl, hS, hW, ⟨hlo, hhi⟩, hwl⟩ := hok
  have hN := nowOf_secs ws hW sure hS
  have hnl : (nowOf sure ws).length = 3 := by rw [nowOf_length]; exact hsl
  have hm2 : Mem w.heap.size ⟨w, (progH ⟨bd, bs, cs, bn, cn, sps, spn, wb⟩ ⟨sure, ws, left, bl⟩).map (·.1)⟩ ([(bd, .cells (diskC (.slice (some ⟨bs, 0, none⟩) 3 cs) (.slice (some ⟨bn, 0, none⟩) 3 cn) (wbVal wb ws) left bl).toArray 113 (0, 0)), (bs, .cells (secV sure ++ sps).toArray 115 (0, 0)), (bn, .cells (secV (nowOf sure ws) ++ spn).toArray 115 (0, 0))] ++ wbHp wb ws) w := hm
  refine (dsync_any bd bs bn 3 cs cn (wbVal wb ws) left bl hlo hhi sure (nowOf sure ws) sps spn hS hN hsl hnl (by omega) w (hm2.fewer (Fewer.inl _ _)).here).mono ?_
  rintro e w' ⟨v, H', he, hm3, rfl, rfl⟩
  have hm4 := hm2.frame hm3
  have hb' : blownS left bl = true := hb
  rw [hb'] at he hm4
  unfold DS.sync
  rw [if_pos hb]
  exact ⟨(), he, hm4, trivial⟩
theorem dsync_okG (m : Nat) (p : PS) (s : DS) (hok : s.ok m) (hb : blownS s.left s.bl = false) (w : World) (hm : Mem w.heap.size ⟨w, (progH p s).map (·.1)⟩ (progH p s) w) :
    Calls Try.prog 61 [.pointer (some ⟨p.bd, 0, none⟩)].toArray w fun e w' => ∃ _ : Unit, e = .returned (.int .i64 0) ∧ Mem w.heap.size ⟨w, (progH p s).map (·.1)⟩ (progH ⟨p.bd, p.bs, p.cs, p.bn, p.cn, p.sps, p.spn, none⟩ s.sync) w' ∧ True := by
  obtain ⟨bd, bs, cs, bn, cn, sps, spn, wb⟩ := p
  obtain ⟨sure, ws, left, bl⟩ := s
  obtain ⟨hsl, hS, hW, ⟨hlo, hhi⟩, hwl⟩ := hok
  have hN := nowOf_secs ws hW sure hS
  have hnl : (nowOf sure ws).length = 3 := by rw [nowOf_length]; exact hsl
  have hm2 : Mem w.heap.size ⟨w, (progH ⟨bd, bs, cs, bn, cn, sps, spn, wb⟩ ⟨sure, ws, left, bl⟩).map (·.1)⟩ ([(bd, .cells (diskC (.slice (some ⟨bs, 0, none⟩) 3 cs) (.slice (some ⟨bn, 0, none⟩) 3 cn) (wbVal wb ws) left bl).toArray 113 (0, 0)), (bs, .cells (secV sure ++ sps).toArray 115 (0, 0)), (bn, .cells (secV (nowOf sure ws) ++ spn).toArray 115 (0, 0))] ++ wbHp wb ws) w := hm
  refine (dsync_any bd bs bn 3 cs cn (wbVal wb ws) left bl hlo hhi sure (nowOf sure ws) sps spn hS hN hsl hnl (by omega) w (hm2.fewer (Fewer.inl _ _)).here).mono ?_
  rintro e w' ⟨v, H', he, hm3, rfl, rfl⟩
  have hm4 := (hm2.frame hm3).fewer (Fewer.inl _ _)
  have hb' : blownS left bl = false := hb
  rw [hb'] at he hm4
  have e0 : nowOf (nowOf sure ws) [] = nowOf sure ws := by unfold nowOf; rfl
  unfold DS.sync progH
  rw [if_neg (by rw [hb]; decide)]
  dsimp only
  rw [e0]
  exact ⟨(), he, hm4, trivial⟩
theorem write_ok {m : Nat} {s : DS} (h : s.ok m) {i : Nat} (hi : i < 3) {x : List UInt8} (hx : x.length = 64) : (s.write i x).ok (m + 1) := by
  obtain ⟨h1, h2, h3, h4, h5⟩ := h
  have hl := leftS_in (bl := s.bl) h4.1 h4.2
  unfold DS.write
  split
  · exact ⟨h1, h2, h3, hl, Nat.le_succ_of_le h5⟩
  · refine ⟨h1, h2, fun v hv => ?_, hl, ?_⟩
    · rcases List.mem_append.1 hv with hv | hv
      · exact h3 v hv
      · rw [List.mem_singleton] at hv; subst hv; exact ⟨hi, hx⟩
    · show (s.ws ++ [(i, x)]).length ≤ m + 1
      rw [List.length_append, List.length_singleton]
      omega
theorem sync_ok {m : Nat} {s : DS} (h : s.ok m) : s.sync.ok m := by
  obtain ⟨h1, h2, h3, h4, h5⟩ := h
  have hl := leftS_in (bl := s.bl) h4.1 h4.2
  unfold DS.sync
  split
  · exact ⟨h1, h2, h3, hl, h5⟩
  · exact ⟨by show (nowOf s.sure s.ws).length = 3; rw [nowOf_length]; exact h1, nowOf_secs s.ws h3 s.sure h2, (fun v hv => by cases hv), hl, Nat.zero_le _⟩
theorem dwrite_failX (m : Nat) (hm1 : m ≤ 1000) (p : PS) (s : DS) (hok : s.ok m) (hwb : wbOk p.wb s.ws) (i : Nat) (hi : i < 3) (A : Option Addr) (c : Nat) (x : List UInt8) (hx : x.length ≤ 64) (hb : blownS s.left s.bl = true) (w : World)
    (hsrc : ∀ w' H', Mem w.heap.size ⟨w, (progH p s).map (·.1)⟩ H' w' → Reads w' A x.length (bytesV x)) (hm : Mem w.heap.size ⟨w, (progH p s).map (·.1)⟩ (progH p s) w) :
    Calls Try.prog 32 [.pointer (some ⟨p.bd, 0, none⟩), .int .i64 (i : Int), .slice A x.length c].toArray w fun e w' => ∃ _ : Unit, e = .returned (.int .i64 9) ∧ Mem w.heap.size ⟨w, (progH p s).map (·.1)⟩ (progH p (s.write i (pad x))) w' ∧ True :=
  (dwriteG m hm1 p s hok hwb i hi A c x hx w hsrc hm).mono fun e w' ⟨v, H', he, hm', hp⟩ => by
    unfold DS.write
    rw [if_pos hb]
    rcases hp with ⟨_, h1, h2⟩ | ⟨h0, _⟩
    · subst h1 h2; exact ⟨(), he, hm', trivial⟩
    · rw [hb] at h0; cases h0
theorem dwrite_okX (m : Nat) (hm1 : m ≤ 1000) (p : PS) (s : DS) (hok : s.ok m) (hwb : wbOk p.wb s.ws) (i : Nat) (hi : i < 3) (A : Option Addr) (c : Nat) (x : List UInt8) (hx : x.length ≤ 64) (hb : blownS s.left s.bl = false) (w : World)
    (hsrc : ∀ w' H', Mem w.heap.size ⟨w, (progH p s).map (·.1)⟩ H' w' → Reads w' A x.length (bytesV x)) (hm : Mem w.heap.size ⟨w, (progH p s).map (·.1)⟩ (progH p s) w) :
    Calls Try.prog 32 [.pointer (some ⟨p.bd, 0, none⟩), .int .i64 (i : Int), .slice A x.length c].toArray w fun e w' => ∃ wb : Option (Nat × Nat × List Value), e = .returned (.int .i64 0) ∧ Mem w.heap.size ⟨w, (progH p s).map (·.1)⟩ (progH ⟨p.bd, p.bs, p.cs, p.bn, p.cn, p.sps, p.spn, wb⟩ (s.write i (pad x))) w' ∧ wbOk wb (s.write i (pad x)).ws :=
  (dwriteG m hm1 p s hok hwb i hi A c x hx w hsrc hm).mono fun e w' ⟨v, H', he, hm', hp⟩ => by
    unfold DS.write
    rw [if_neg (by rw [hb]; decide)]
    rcases hp with ⟨h0, _⟩ | ⟨_, h1, wb, h2, h3⟩
    · rw [hb] at h0; cases h0
    · subst h1 h3; exact ⟨wb, he, hm', h2⟩
set_option maxHeartbeats 4000000 in
theorem cnextG (m : Nat) (hm1 : m + 1 ≤ 1000) (p : PS) (s : DS) (hok : s.ok m) (hwb : wbOk p.wb s.ws) (bc used at_ : Nat) (hat : at_ < 3) (hu : used < 16) (w : World) (hm : Mem w.heap.size ⟨w, ((bc, .cells (cntC used p.bd at_ false).toArray 103 (0, 0)) :: progH p s).map (·.1)⟩ ((bc, .cells (cntC used p.bd at_ false).toArray 103 (0, 0)) :: progH p s) w) :
    Calls Try.prog 21 [.pointer (some ⟨bc, 0, none⟩)].toArray w fun e w' => ∃ wb : Option (Nat × Nat × List Value), e = .returned (Value.tuple ([Value.int .u32 ((nextS s at_ used).n : Int), Value.int .i64 (nextS s at_ used).e] : List Value).toArray) ∧
      Mem w.heap.size ⟨w, ((bc, .cells (cntC used p.bd at_ false).toArray 103 (0, 0)) :: progH p s).map (·.1)⟩ ((bc, .cells (cntC (nextS s at_ used).used p.bd at_ (nextS s at_ used).down).toArray 103 (0, 0)) :: progH ⟨p.bd, p.bs, p.cs, p.bn, p.cn, p.sps, p.spn, wb⟩ (nextS s at_ used).s) w' ∧ wbOk wb (nextS s at_ used).s.ws := by
  have g1 : decide ((16 : Int) ≤ (used : Int)) = false := decide_eq_false (by omega)
  have hadd : IntKind.u32.wrap ((used : Int) + 1) = ((used + 1 : Nat) : Int) := by rw [w_in_u32 (by omega)]; omega
  have hsub1 : IntKind.u32.wrap (((used + 1 : Nat) : Int) - 1) = (used : Int) := by rw [w_in_u32 (by omega)]; omega
  have htl := toldS_length (used + 1)
  have htl2 : (toldS (used + 1)).length ≤ 64 := by omega
  have hpw : pad (toldS (used + 1)) = toldS (used + 1) := pad_whole htl
  have hu1 : used + 1 < 4294967296 := by omega
  have hok1 : (s.write at_ (toldS (used + 1))).ok (m + 1) := write_ok hok hat htl
  refine enterD_at Try.func21 rfl Try.ntmps21 (by simp) hm ?_
  repeat (first | refine S_scope ?_ | refine S_label ?_ | refine E_noGoto_normal ?_ | refine E_noGoto_ret ?_ | refine E_noGoto_exit ?_ | refine S_yes rfl (by first | with_reducible rfl | decide) ?_ | refine S_no rfl (by first | with_reducible rfl | decide) ?_ | refine S_seq ?_ | refine E_seq ?_ | refine S_block ?_ | refine E_block_normal ?_ | refine S_skip ?_ | refine S_exit ?_ | refine S_ret ?_ | refine E_then_exit ?_ | refine E_then_ret ?_ | refine E_block_ret ?_ | refine E_block_exit ?_ | refine E_block_exit_other rfl ?_)
  refine S_region ?_
  refine R_cons rfl (op_box rfl rfl (Nat.le_refl _) (fun b1 => ?_))
  refine R_cons rfl (op_pure (p_assign rfl) rfl ?_)
  refine R_cons rfl (op_alloc1 zs_Errno rfl (Nat.le_refl _) (fun b3 => ?_))
  refine R_nil ?_
  repeat (first | refine S_scope ?_ | refine S_label ?_ | refine E_noGoto_normal ?_ | refine E_noGoto_ret ?_ | refine E_noGoto_exit ?_ | refine S_yes rfl (by first | with_reducible rfl | decide) ?_ | refine S_no rfl (by first | with_reducible rfl | decide) ?_ | refine S_seq ?_ | refine E_seq ?_ | refine S_block ?_ | refine E_block_normal ?_ | refine S_skip ?_ | refine S_exit ?_ | refine S_ret ?_ | refine E_then_exit ?_ | refine E_then_ret ?_ | refine E_block_ret ?_ | refine E_block_exit ?_ | refine E_block_exit_other rfl ?_)
  refine S_region ?_
  refine R_cons rfl (op_pure (p_load rfl sc_counts_Count (by repeat (first | exact List.Mem.head _ | apply List.Mem.tail)) (by rfl)) rfl ?_)
  refine R_cons rfl (op_callV rfl rfl Try.func59 rfl (by kernel_rfl) rfl (Nat.le_refl _) (fun w' hm => cthere_any bc used p.bd at_ false w' (hm.own (bc, _) (by repeat (first | exact List.Mem.head _ | apply List.Mem.tail))).2) ?_)
  refine R_cons rfl (op_pure (p_not rfl) rfl ?_)
  refine R_cons rfl (op_pure (p_assign rfl) rfl ?_)
  refine R_nil ?_
  repeat (first | refine S_scope ?_ | refine S_label ?_ | refine E_noGoto_normal ?_ | refine E_noGoto_ret ?_ | refine E_noGoto_exit ?_ | refine S_yes rfl (by first | with_reducible rfl | decide) ?_ | refine S_no rfl (by first | with_reducible rfl | decide) ?_ | refine S_seq ?_ | refine E_seq ?_ | refine S_block ?_ | refine E_block_normal ?_ | refine S_skip ?_ | refine S_exit ?_ | refine S_ret ?_ | refine E_then_exit ?_ | refine E_then_ret ?_ | refine E_block_ret ?_ | refine E_block_exit ?_ | refine E_block_exit_other rfl ?_)
  refine S_region ?_
  refine R_cons rfl (op_pure (p_load rfl sc_counts_Count (by repeat (first | exact List.Mem.head _ | apply List.Mem.tail)) (by rfl)) rfl ?_)
  refine R_cons rfl (op_pure (p_nilCheck rfl) rfl ?_)
  refine R_cons rfl (op_pure (by first | exact p_fieldAddr0 rfl fd_counts_Count_0 | exact p_fieldAddr rfl fd_counts_Count_0) rfl ?_)
  refine R_cons rfl (op_pure (by first | exact p_fieldAddr0 rfl fd_counts_many_0 | exact p_fieldAddr rfl fd_counts_many_0) rfl ?_)
  refine R_cons rfl (op_pure (p_load rfl sc_u32 (by repeat (first | exact List.Mem.head _ | apply List.Mem.tail)) (by rfl)) rfl ?_)
  refine R_cons rfl (op_pure (p_bin rfl rfl (b_geq g1)) rfl ?_)
  refine R_cons rfl (op_pure (p_assign rfl) rfl ?_)
  refine R_nil ?_
  repeat (first | refine S_scope ?_ | refine S_label ?_ | refine E_noGoto_normal ?_ | refine E_noGoto_ret ?_ | refine E_noGoto_exit ?_ | refine S_yes rfl (by first | with_reducible rfl | decide) ?_ | refine S_no rfl (by first | with_reducible rfl | decide) ?_ | refine S_seq ?_ | refine E_seq ?_ | refine S_block ?_ | refine E_block_normal ?_ | refine S_skip ?_ | refine S_exit ?_ | refine S_ret ?_ | refine E_then_exit ?_ | refine E_then_ret ?_ | refine E_block_ret ?_ | refine E_block_exit ?_ | refine E_block_exit_other rfl ?_)
  refine S_region ?_
  refine R_cons rfl (op_pure (p_load rfl sc_counts_Count (by repeat (first | exact List.Mem.head _ | apply List.Mem.tail)) (by rfl)) rfl ?_)
  refine R_cons rfl (op_pure (p_nilCheck rfl) rfl ?_)
  refine R_cons rfl (op_pure (by first | exact p_fieldAddr0 rfl fd_counts_Count_3 | exact p_fieldAddr rfl fd_counts_Count_3) rfl ?_)
  refine R_cons rfl (op_pure (p_load rfl sc_bool (by repeat (first | exact List.Mem.head _ | apply List.Mem.tail)) (by rfl)) rfl ?_)
  refine R_cons rfl (op_pure (p_assign rfl) rfl ?_)
  refine R_nil ?_
  repeat (first | refine S_scope ?_ | refine S_label ?_ | refine E_noGoto_normal ?_ | refine E_noGoto_ret ?_ | refine E_noGoto_exit ?_ | refine S_yes rfl (by first | with_reducible rfl | decide) ?_ | refine S_no rfl (by first | with_reducible rfl | decide) ?_ | refine S_seq ?_ | refine E_seq ?_ | refine S_block ?_ | refine E_block_normal ?_ | refine S_skip ?_ | refine S_exit ?_ | refine S_ret ?_ | refine E_then_exit ?_ | refine E_then_ret ?_ | refine E_block_ret ?_ | refine E_block_exit ?_ | refine E_block_exit_other rfl ?_)
  refine S_region ?_
  refine R_cons rfl (op_pure (p_makeFunc (xs := []) (ys := [.tmp 1, .tmp 3]) rfl rfl) rfl ?_)
  refine R_defer (fv := .func 60) (cs := [.pointer (some ⟨b1, 0, none⟩), .pointer (some ⟨b3, 0, none⟩)].toArray) rfl ?_
  refine R_nil ?_
  repeat (first | refine S_scope ?_ | refine S_label ?_ | refine E_noGoto_normal ?_ | refine E_noGoto_ret ?_ | refine E_noGoto_exit ?_ | refine S_yes rfl (by first | with_reducible rfl | decide) ?_ | refine S_no rfl (by first | with_reducible rfl | decide) ?_ | refine S_seq ?_ | refine E_seq ?_ | refine S_block ?_ | refine E_block_normal ?_ | refine S_skip ?_ | refine S_exit ?_ | refine S_ret ?_ | refine E_then_exit ?_ | refine E_then_ret ?_ | refine E_block_ret ?_ | refine E_block_exit ?_ | refine E_block_exit_other rfl ?_)
  refine S_region ?_
  refine R_cons rfl (op_pure (p_load rfl sc_counts_Count (by repeat (first | exact List.Mem.head _ | apply List.Mem.tail)) (by rfl)) rfl ?_)
  refine R_cons rfl (op_pure (p_nilCheck rfl) rfl ?_)
  refine R_cons rfl (op_pure (by first | exact p_fieldAddr0 rfl fd_counts_Count_0 | exact p_fieldAddr rfl fd_counts_Count_0) rfl ?_)
  refine R_cons rfl (op_pure (by first | exact p_fieldAddr0 rfl fd_counts_many_0 | exact p_fieldAddr rfl fd_counts_many_0) rfl ?_)
  refine R_cons rfl (op_pure (p_load rfl sc_u32 (by repeat (first | exact List.Mem.head _ | apply List.Mem.tail)) (by rfl)) rfl ?_)
  refine R_cons rfl (op_pure (p_bin rfl rfl (b_add hadd)) rfl ?_)
  refine R_cons rfl (op_pure (p_buildAll (ps := [(0, .tmp 27)]) rfl (by kernel_rfl)) rfl ?_)
  refine R_cons rfl (op_allocRow zero_counts_many rfl (Nat.le_refl _) (fun b4 => ?_))
  refine R_cons rfl (op_storeRow rfl rfl (fun v hv => by rw [List.mem_singleton] at hv; subst hv; rfl) row_counts_many rfl (by repeat (first | exact At.here | apply At.there)) (by exact Nat.le_of_ble_eq_true rfl) ?_)
  refine R_nil ?_
  repeat (first | refine S_scope ?_ | refine S_label ?_ | refine E_noGoto_normal ?_ | refine E_noGoto_ret ?_ | refine E_noGoto_exit ?_ | refine S_yes rfl (by first | with_reducible rfl | decide) ?_ | refine S_no rfl (by first | with_reducible rfl | decide) ?_ | refine S_seq ?_ | refine E_seq ?_ | refine S_block ?_ | refine E_block_normal ?_ | refine S_skip ?_ | refine S_exit ?_ | refine S_ret ?_ | refine E_then_exit ?_ | refine E_then_ret ?_ | refine E_block_ret ?_ | refine E_block_exit ?_ | refine E_block_exit_other rfl ?_)
  cases hb1 : blownS s.left s.bl with
  | true =>
    have hnx : nextS s at_ used = ⟨used, true, s.write at_ (toldS (used + 1)), 0, 9⟩ := by unfold nextS; rw [if_pos hb1]
    rw [hnx]
    refine S_cut [(48, .bool true), (4, .pointer (some ⟨b4, 0, none⟩)), (3, .pointer (some ⟨b3, 0, none⟩)), (2, .int .u32 0), (1, .pointer (some ⟨b1, 0, none⟩))] ((b3, .cells [.int .i64 0].toArray 36 (0, 0)) :: (b1, .cells [.pointer (some ⟨bc, 0, none⟩)].toArray 48 (0, 0)) :: (bc, .cells (cntC used p.bd at_ false).toArray 103 (0, 0)) :: progH p (s.write at_ (toldS (used + 1)))) ?_ ?_
    · refine S_drawn (by kernel_rfl) (.keep rfl (.keep rfl (.keep rfl (.keep rfl .nil)))) ?_
      refine D_take 0 rfl (by kernel_rfl) (by kernel_rfl) (by kernel_rfl) (by repeat (first | exact calm_body | exact calm_mid | apply calm_noGoto | exact calm_midE | apply calm_then | apply calm_block)) (p_load rfl sc_counts_Count (by repeat (first | exact List.Mem.head _ | apply List.Mem.tail)) (by rfl)) rfl ?_
      refine D_take 1 rfl (by kernel_rfl) (by kernel_rfl) (by kernel_rfl) (by repeat (first | exact calm_body | exact calm_mid | apply calm_noGoto | exact calm_midE | apply calm_then | apply calm_block)) (p_nilCheck rfl) rfl ?_
      refine D_take 2 rfl (by kernel_rfl) (by kernel_rfl) (by kernel_rfl) (by repeat (first | exact calm_body | exact calm_mid | apply calm_noGoto | exact calm_midE | apply calm_then | apply calm_block)) (by first | exact p_fieldAddr0 rfl fd_counts_Count_1 | exact p_fieldAddr rfl fd_counts_Count_1) rfl ?_
      refine D_take 3 rfl (by kernel_rfl) (by kernel_rfl) (by kernel_rfl) (by repeat (first | exact calm_body | exact calm_mid | apply calm_noGoto | exact calm_midE | apply calm_then | apply calm_block)) (p_load rfl sc_disks_Disk (by repeat (first | exact List.Mem.head _ | apply List.Mem.tail)) (by rfl)) rfl ?_
      refine D_take 4 rfl (by kernel_rfl) (by kernel_rfl) (by kernel_rfl) (by repeat (first | exact calm_body | exact calm_mid | apply calm_noGoto | exact calm_midE | apply calm_then | apply calm_block)) (p_load rfl sc_counts_Count (by repeat (first | exact List.Mem.head _ | apply List.Mem.tail)) (by rfl)) rfl ?_
      refine D_take 5 rfl (by kernel_rfl) (by kernel_rfl) (by kernel_rfl) (by repeat (first | exact calm_body | exact calm_mid | apply calm_noGoto | exact calm_midE | apply calm_then | apply calm_block)) (p_nilCheck rfl) rfl ?_
      refine D_take 6 rfl (by kernel_rfl) (by kernel_rfl) (by kernel_rfl) (by repeat (first | exact calm_body | exact calm_mid | apply calm_noGoto | exact calm_midE | apply calm_then | apply calm_block)) (by first | exact p_fieldAddr0 rfl fd_counts_Count_2 | exact p_fieldAddr rfl fd_counts_Count_2) rfl ?_
      refine D_take 7 rfl (by kernel_rfl) (by kernel_rfl) (by kernel_rfl) (by repeat (first | exact calm_body | exact calm_mid | apply calm_noGoto | exact calm_midE | apply calm_then | apply calm_block)) (p_load rfl sc_int (by repeat (first | exact List.Mem.head _ | apply List.Mem.tail)) (by rfl)) rfl ?_
      refine D_take 8 rfl (by kernel_rfl) (by kernel_rfl) (by kernel_rfl) (by repeat (first | exact calm_body | exact calm_mid | apply calm_noGoto | exact calm_midE | apply calm_then | apply calm_block)) (p_loadRow rfl row_counts_many (by repeat (first | exact List.Mem.head _ | apply List.Mem.tail)) rfl) rfl ?_
      refine D_only 9 rfl (by kernel_rfl) rfl (op_callBuf (xs := toldS (used + 1)) rfl rfl Try.func58 rfl (by kernel_rfl) rfl (Nat.le_refl _) (fun w' _ => sector_any (used + 1) hu1 w') (fun g sp hokg => ?_))
      refine ⟨(by repeat (first | exact Fewer.nil | refine Fewer.keep rfl ?_ | refine Fewer.drop ?_ | exact Fewer.refl _ | exact Fewer.inl _ _ | (simp only [List.append_nil]; first | exact Fewer.inl _ _ | exact Fewer.refl _))), ?_⟩
      refine D_only 10 rfl (by kernel_rfl) rfl (op_callXK (fun _ : Unit => .int .i64 9) (fun _ => progH p (s.write at_ (toldS (used + 1)))) (fun _ => True) (Hc := progH p s) (K := [(g, .cells (bytesV (toldS (used + 1)) ++ sp).toArray 5 (0, 0)), (b4, .cells [.int .u32 ((used + 1 : Nat) : Int)].toArray 101 (0, 0)), (b3, .cells [.int .i64 0].toArray 36 (0, 0)), (b1, .cells [.pointer (some ⟨bc, 0, none⟩)].toArray 48 (0, 0)), (bc, .cells (cntC used p.bd at_ false).toArray 103 (0, 0))]) rfl rfl Try.func32 rfl (by kernel_rfl) rfl (by first | exact List.Perm.refl _ | (unfold Buf.hp; exact List.Perm.refl _)) (fun w' hm2 hm => (by have e : Buf.val (some (g, sp)) (toldS (used + 1)) = .slice (some ⟨g, 0, none⟩) (toldS (used + 1)).length (Buf.cap (some (g, sp)) (toldS (used + 1))) := (by unfold Buf.val Buf.addr; rfl); show Calls _ _ [.pointer (some ⟨p.bd, 0, none⟩), .int .i64 (at_ : Int), Buf.val (some (g, sp)) (toldS (used + 1))].toArray _ _; rw [e]; have hrk := hm2.readsKept (b := g) (xs := bytesV (toldS (used + 1))) (sp := sp) (by repeat (first | exact List.Mem.head _ | apply List.Mem.tail)); rw [bytesV_length] at hrk; exact (by have h := dwrite_failX m (by omega) p s hok hwb at_ hat _ (Buf.cap (some (g, sp)) (toldS (used + 1))) (toldS (used + 1)) htl2 hb1 w' hrk hm; rw [hpw] at h; exact h))) (fun _ _ => ?_))
      refine ⟨(by repeat (first | exact Fewer.nil | refine Fewer.keep rfl ?_ | refine Fewer.drop ?_ | exact Fewer.refl _ | exact Fewer.inl _ _ | (simp only [List.append_nil]; first | exact Fewer.inl _ _ | exact Fewer.refl _))), ?_⟩
      refine D_take 11 rfl (by kernel_rfl) (by kernel_rfl) (by kernel_rfl) (by repeat (first | exact calm_body | exact calm_mid | apply calm_noGoto | exact calm_midE | apply calm_then | apply calm_block)) (p_bin rfl rfl (b_neq (by first | assumption | exact bne_iff_ne.2 (by omega) | exact bne_eq_false_iff_eq.2 (by omega) | rfl))) rfl ?_
      refine D_take 12 rfl (by kernel_rfl) (by kernel_rfl) (by kernel_rfl) (by repeat (first | exact calm_body | exact calm_mid | apply calm_noGoto | exact calm_midE | apply calm_then | apply calm_block)) (p_move rfl) rfl ?_
      first | refine D_pass 13 rfl (by kernel_rfl) (by kernel_rfl) (by kernel_rfl) (by repeat (first | exact calm_body | exact calm_mid | apply calm_noGoto | exact calm_midE | apply calm_then | apply calm_block)) rfl rfl rfl rfl ?_ | refine D_pass_undef 13 rfl (by kernel_rfl) (by kernel_rfl) (by kernel_rfl) (by repeat (first | exact calm_body | exact calm_mid | apply calm_noGoto | exact calm_midE | apply calm_then | apply calm_block)) rfl rfl rfl ?_ | refine D_take_guard 13 rfl (by kernel_rfl) (by kernel_rfl) (by kernel_rfl) (by repeat (first | exact calm_body | exact calm_mid | apply calm_noGoto | exact calm_midE | apply calm_then | apply calm_block)) rfl rfl (p_load rfl sc_counts_Count (by repeat (first | exact List.Mem.head _ | apply List.Mem.tail)) (by rfl)) rfl ?_
      first | refine D_pass 14 rfl (by kernel_rfl) (by kernel_rfl) (by kernel_rfl) (by repeat (first | exact calm_body | exact calm_mid | apply calm_noGoto | exact calm_midE | apply calm_then | apply calm_block)) rfl rfl rfl rfl ?_ | refine D_pass_undef 14 rfl (by kernel_rfl) (by kernel_rfl) (by kernel_rfl) (by repeat (first | exact calm_body | exact calm_mid | apply calm_noGoto | exact calm_midE | apply calm_then | apply calm_block)) rfl rfl rfl ?_ | refine D_take_guard 14 rfl (by kernel_rfl) (by kernel_rfl) (by kernel_rfl) (by repeat (first | exact calm_body | exact calm_mid | apply calm_noGoto | exact calm_midE | apply calm_then | apply calm_block)) rfl rfl (p_nilCheck rfl) rfl ?_
      first | refine D_pass 15 rfl (by kernel_rfl) (by kernel_rfl) (by kernel_rfl) (by repeat (first | exact calm_body | exact calm_mid | apply calm_noGoto | exact calm_midE | apply calm_then | apply calm_block)) rfl rfl rfl rfl ?_ | refine D_pass_undef 15 rfl (by kernel_rfl) (by kernel_rfl) (by kernel_rfl) (by repeat (first | exact calm_body | exact calm_mid | apply calm_noGoto | exact calm_midE | apply calm_then | apply calm_block)) rfl rfl rfl ?_ | refine D_take_guard 15 rfl (by kernel_rfl) (by kernel_rfl) (by kernel_rfl) (by repeat (first | exact calm_body | exact calm_mid | apply calm_noGoto | exact calm_midE | apply calm_then | apply calm_block)) rfl rfl (by first | exact p_fieldAddr0 rfl fd_counts_Count_1 | exact p_fieldAddr rfl fd_counts_Count_1) rfl ?_
      first | refine D_pass 16 rfl (by kernel_rfl) (by kernel_rfl) (by kernel_rfl) (by repeat (first | exact calm_body | exact calm_mid | apply calm_noGoto | exact calm_midE | apply calm_then | apply calm_block)) rfl rfl rfl rfl ?_ | refine D_pass_undef 16 rfl (by kernel_rfl) (by kernel_rfl) (by kernel_rfl) (by repeat (first | exact calm_body | exact calm_mid | apply calm_noGoto | exact calm_midE | apply calm_then | apply calm_block)) rfl rfl rfl ?_ | refine D_take_guard 16 rfl (by kernel_rfl) (by kernel_rfl) (by kernel_rfl) (by repeat (first | exact calm_body | exact calm_mid | apply calm_noGoto | exact calm_midE | apply calm_then | apply calm_block)) rfl rfl (p_load rfl sc_disks_Disk (by repeat (first | exact List.Mem.head _ | apply List.Mem.tail)) (by rfl)) rfl ?_
      first | refine D_pass 17 rfl (by kernel_rfl) (by kernel_rfl) (by kernel_rfl) (by repeat (first | exact calm_body | exact calm_mid | apply calm_noGoto | exact calm_midE | apply calm_then | apply calm_block)) rfl rfl rfl rfl ?_ | refine D_pass_undef 17 rfl (by kernel_rfl) (by kernel_rfl) (by kernel_rfl) (by repeat (first | exact calm_body | exact calm_mid | apply calm_noGoto | exact calm_midE | apply calm_then | apply calm_block)) rfl rfl rfl ?_ | refine D_take_guard 17 rfl (by kernel_rfl) (by kernel_rfl) (by kernel_rfl) (by repeat (first | exact calm_body | exact calm_mid | apply calm_noGoto | exact calm_midE | apply calm_then | apply calm_block)) rfl rfl (p_move rfl) rfl ?_
      first | refine D_pass 18 rfl (by kernel_rfl) (by kernel_rfl) (by kernel_rfl) (by repeat (first | exact calm_body | exact calm_mid | apply calm_noGoto | exact calm_midE | apply calm_then | apply calm_block)) rfl rfl rfl rfl ?_ | refine D_pass_undef 18 rfl (by kernel_rfl) (by kernel_rfl) (by kernel_rfl) (by repeat (first | exact calm_body | exact calm_mid | apply calm_noGoto | exact calm_midE | apply calm_then | apply calm_block)) rfl rfl rfl ?_ | refine D_take_guard 18 rfl (by kernel_rfl) (by kernel_rfl) (by kernel_rfl) (by repeat (first | exact calm_body | exact calm_mid | apply calm_noGoto | exact calm_midE | apply calm_then | apply calm_block)) rfl rfl (p_bin rfl rfl (b_neq (by first | assumption | exact bne_iff_ne.2 (by omega) | exact bne_eq_false_iff_eq.2 (by omega) | rfl))) rfl ?_
      refine D_take 19 rfl (by kernel_rfl) (by kernel_rfl) (by kernel_rfl) (by repeat (first | exact calm_body | exact calm_mid | apply calm_noGoto | exact calm_midE | apply calm_then | apply calm_block)) (by first | exact p_pick_yes rfl rfl | exact p_pick_no rfl rfl | exact p_pick rfl rfl rfl) rfl ?_
      refine D_done (by kernel_rfl) ?_
      exact E_mid (by repeat (first | exact Sub.nil | refine Sub.cons rfl ?_)) (by simp only [List.cons_append, List.nil_append]; exact .drop (.drop (Fewer.refl _)))
    repeat (first | refine S_scope ?_ | refine S_label ?_ | refine E_noGoto_normal ?_ | refine E_noGoto_ret ?_ | refine E_noGoto_exit ?_ | refine S_yes rfl (by first | with_reducible rfl | decide) ?_ | refine S_no rfl (by first | with_reducible rfl | decide) ?_ | refine S_seq ?_ | refine E_seq ?_ | refine S_block ?_ | refine E_block_normal ?_ | refine S_skip ?_ | refine S_exit ?_ | refine S_ret ?_ | refine E_then_exit ?_ | refine E_then_ret ?_ | refine E_block_ret ?_ | refine E_block_exit ?_ | refine E_block_exit_other rfl ?_)
    refine S_region ?_
    refine R_cons rfl (op_pure (p_assign rfl) rfl ?_)
    refine R_cons rfl (op_store rfl rfl rfl sc_Errno (by repeat (first | exact At.here | apply At.there)) (by exact Nat.le_of_ble_eq_true rfl) ?_)
    refine R_nil ?_
    repeat (first | refine S_scope ?_ | refine S_label ?_ | refine E_noGoto_normal ?_ | refine E_noGoto_ret ?_ | refine E_noGoto_exit ?_ | refine S_yes rfl (by first | with_reducible rfl | decide) ?_ | refine S_no rfl (by first | with_reducible rfl | decide) ?_ | refine S_seq ?_ | refine E_seq ?_ | refine S_block ?_ | refine E_block_normal ?_ | refine S_skip ?_ | refine S_exit ?_ | refine S_ret ?_ | refine E_then_exit ?_ | refine E_then_ret ?_ | refine E_block_ret ?_ | refine E_block_exit ?_ | refine E_block_exit_other rfl ?_)
    refine E_retDH (Hc := [(b1, .cells [.pointer (some ⟨bc, 0, none⟩)].toArray 48 (0, 0)), (b3, .cells [.int .i64 9].toArray 36 (0, 0)), (bc, .cells (cntC used p.bd at_ false).toArray 103 (0, 0))]) (K := progH p (s.write at_ (toldS (used + 1)))) Try.func60 rfl (by kernel_rfl) (by simp only [List.cons_append, List.nil_append, List.append_nil]; (repeat (first | exact List.Perm.refl _ | refine List.Perm.cons _ ?_ | refine (perm_pick (by repeat (first | exact Del.here | apply Del.there))).trans (List.Perm.cons _ ?_)))) (fun w' hm' => next1_D b1 b3 bc used p.bd at_ false 9 .returning w' hm') (fun a w' hf' hm' => ?_)
    have hmm : Mem w.heap.size ⟨w, ((bc, .cells (cntC used p.bd at_ false).toArray 103 (0, 0)) :: progH p s).map (·.1)⟩ ((bc, .cells (cntC used p.bd at_ true).toArray 103 (0, 0)) :: progH p (s.write at_ (toldS (used + 1)))) w' := hm'.fewer (by simp only [List.cons_append, List.nil_append]; exact .drop (.drop (Fewer.refl _)))
    have hws : (s.write at_ (toldS (used + 1))).ws = s.ws := by unfold DS.write; rw [if_pos hb1]
    exact ⟨_, results_tmp_cell rfl sc_Errno (hf'.at_ 2 _ rfl) (hf'.at_ 3 _ rfl) ((hm'.cell (b := b3) (cs := [.int .i64 9]) (by simp only [List.cons_append, List.nil_append]; repeat (first | exact List.Mem.head _ | apply List.Mem.tail)) 0).trans rfl), p.wb, rfl, hmm, by show wbOk p.wb (s.write at_ (toldS (used + 1))).ws; rw [hws]; exact hwb⟩
  | false =>
    have hsw : (s.write at_ (toldS (used + 1))).left = leftS s.left s.bl ∧ (s.write at_ (toldS (used + 1))).bl = false := by unfold DS.write; rw [if_neg (by rw [hb1]; decide)]; exact ⟨rfl, rfl⟩
    cases hb2 : blownS (leftS s.left s.bl) false with
    | true =>
      have hnx : nextS s at_ used = ⟨used, true, (s.write at_ (toldS (used + 1))).sync, 0, 9⟩ := by unfold nextS; rw [if_neg (by rw [hb1]; decide), if_pos hb2]
      have hb3 : blownS (s.write at_ (toldS (used + 1))).left (s.write at_ (toldS (used + 1))).bl = true := by rw [hsw.1, hsw.2]; exact hb2
      rw [hnx]
      refine S_cutE (σ := Option (Nat × Nat × List Value)) (fun wb => [(48, .bool true), (4, .pointer (some ⟨b4, 0, none⟩)), (3, .pointer (some ⟨b3, 0, none⟩)), (2, .int .u32 0), (1, .pointer (some ⟨b1, 0, none⟩))]) (fun wb => (b3, .cells [.int .i64 0].toArray 36 (0, 0)) :: (b1, .cells [.pointer (some ⟨bc, 0, none⟩)].toArray 48 (0, 0)) :: (bc, .cells (cntC used p.bd at_ false).toArray 103 (0, 0)) :: progH ⟨p.bd, p.bs, p.cs, p.bn, p.cn, p.sps, p.spn, wb⟩ (s.write at_ (toldS (used + 1))).sync) (fun wb => wbOk wb (s.write at_ (toldS (used + 1))).ws) ?_ ?_
      · refine S_drawn (by kernel_rfl) (.keep rfl (.keep rfl (.keep rfl (.keep rfl .nil)))) ?_
        refine D_take 0 rfl (by kernel_rfl) (by kernel_rfl) (by kernel_rfl) (by repeat (first | exact calm_body | exact calm_mid | apply calm_noGoto | exact calm_midE | apply calm_then | apply calm_block)) (p_load rfl sc_counts_Count (by repeat (first | exact List.Mem.head _ | apply List.Mem.tail)) (by rfl)) rfl ?_
        refine D_take 1 rfl (by kernel_rfl) (by kernel_rfl) (by kernel_rfl) (by repeat (first | exact calm_body | exact calm_mid | apply calm_noGoto | exact calm_midE | apply calm_then | apply calm_block)) (p_nilCheck rfl) rfl ?_
        refine D_take 2 rfl (by kernel_rfl) (by kernel_rfl) (by kernel_rfl) (by repeat (first | exact calm_body | exact calm_mid | apply calm_noGoto | exact calm_midE | apply calm_then | apply calm_block)) (by first | exact p_fieldAddr0 rfl fd_counts_Count_1 | exact p_fieldAddr rfl fd_counts_Count_1) rfl ?_
        refine D_take 3 rfl (by kernel_rfl) (by kernel_rfl) (by kernel_rfl) (by repeat (first | exact calm_body | exact calm_mid | apply calm_noGoto | exact calm_midE | apply calm_then | apply calm_block)) (p_load rfl sc_disks_Disk (by repeat (first | exact List.Mem.head _ | apply List.Mem.tail)) (by rfl)) rfl ?_
        refine D_take 4 rfl (by kernel_rfl) (by kernel_rfl) (by kernel_rfl) (by repeat (first | exact calm_body | exact calm_mid | apply calm_noGoto | exact calm_midE | apply calm_then | apply calm_block)) (p_load rfl sc_counts_Count (by repeat (first | exact List.Mem.head _ | apply List.Mem.tail)) (by rfl)) rfl ?_
        refine D_take 5 rfl (by kernel_rfl) (by kernel_rfl) (by kernel_rfl) (by repeat (first | exact calm_body | exact calm_mid | apply calm_noGoto | exact calm_midE | apply calm_then | apply calm_block)) (p_nilCheck rfl) rfl ?_
        refine D_take 6 rfl (by kernel_rfl) (by kernel_rfl) (by kernel_rfl) (by repeat (first | exact calm_body | exact calm_mid | apply calm_noGoto | exact calm_midE | apply calm_then | apply calm_block)) (by first | exact p_fieldAddr0 rfl fd_counts_Count_2 | exact p_fieldAddr rfl fd_counts_Count_2) rfl ?_
        refine D_take 7 rfl (by kernel_rfl) (by kernel_rfl) (by kernel_rfl) (by repeat (first | exact calm_body | exact calm_mid | apply calm_noGoto | exact calm_midE | apply calm_then | apply calm_block)) (p_load rfl sc_int (by repeat (first | exact List.Mem.head _ | apply List.Mem.tail)) (by rfl)) rfl ?_
        refine D_take 8 rfl (by kernel_rfl) (by kernel_rfl) (by kernel_rfl) (by repeat (first | exact calm_body | exact calm_mid | apply calm_noGoto | exact calm_midE | apply calm_then | apply calm_block)) (p_loadRow rfl row_counts_many (by repeat (first | exact List.Mem.head _ | apply List.Mem.tail)) rfl) rfl ?_
        refine D_only 9 rfl (by kernel_rfl) rfl (op_callBuf (xs := toldS (used + 1)) rfl rfl Try.func58 rfl (by kernel_rfl) rfl (Nat.le_refl _) (fun w' _ => sector_any (used + 1) hu1 w') (fun g sp hokg => ?_))
        refine ⟨(by repeat (first | exact Fewer.nil | refine Fewer.keep rfl ?_ | refine Fewer.drop ?_ | exact Fewer.refl _ | exact Fewer.inl _ _ | (simp only [List.append_nil]; first | exact Fewer.inl _ _ | exact Fewer.refl _))), ?_⟩
        refine D_only 10 rfl (by kernel_rfl) rfl (op_callXK (fun _ : Option (Nat × Nat × List Value) => .int .i64 0) (fun wb => progH ⟨p.bd, p.bs, p.cs, p.bn, p.cn, p.sps, p.spn, wb⟩ (s.write at_ (toldS (used + 1)))) (fun wb => wbOk wb (s.write at_ (toldS (used + 1))).ws) (Hc := progH p s) (K := [(g, .cells (bytesV (toldS (used + 1)) ++ sp).toArray 5 (0, 0)), (b4, .cells [.int .u32 ((used + 1 : Nat) : Int)].toArray 101 (0, 0)), (b3, .cells [.int .i64 0].toArray 36 (0, 0)), (b1, .cells [.pointer (some ⟨bc, 0, none⟩)].toArray 48 (0, 0)), (bc, .cells (cntC used p.bd at_ false).toArray 103 (0, 0))]) rfl rfl Try.func32 rfl (by kernel_rfl) rfl (by first | exact List.Perm.refl _ | (unfold Buf.hp; exact List.Perm.refl _)) (fun w' hm2 hm => (by have e : Buf.val (some (g, sp)) (toldS (used + 1)) = .slice (some ⟨g, 0, none⟩) (toldS (used + 1)).length (Buf.cap (some (g, sp)) (toldS (used + 1))) := (by unfold Buf.val Buf.addr; rfl); show Calls _ _ [.pointer (some ⟨p.bd, 0, none⟩), .int .i64 (at_ : Int), Buf.val (some (g, sp)) (toldS (used + 1))].toArray _ _; rw [e]; have hrk := hm2.readsKept (b := g) (xs := bytesV (toldS (used + 1))) (sp := sp) (by repeat (first | exact List.Mem.head _ | apply List.Mem.tail)); rw [bytesV_length] at hrk; exact (by have h := dwrite_okX m (by omega) p s hok hwb at_ hat _ (Buf.cap (some (g, sp)) (toldS (used + 1))) (toldS (used + 1)) htl2 hb1 w' hrk hm; rw [hpw] at h; exact h))) (fun wb hwbk => ?_))
        refine ⟨(by repeat (first | exact Fewer.nil | refine Fewer.keep rfl ?_ | refine Fewer.drop ?_ | exact Fewer.refl _ | exact Fewer.inl _ _ | (simp only [List.append_nil]; first | exact Fewer.inl _ _ | exact Fewer.refl _))), ?_⟩
        refine D_take 11 rfl (by kernel_rfl) (by kernel_rfl) (by kernel_rfl) (by repeat (first | exact calm_body | exact calm_mid | apply calm_noGoto | exact calm_midE | apply calm_then | apply calm_block)) (p_bin rfl rfl (b_neq (by first | assumption | exact bne_iff_ne.2 (by omega) | exact bne_eq_false_iff_eq.2 (by omega) | rfl))) rfl ?_
        refine D_take 12 rfl (by kernel_rfl) (by kernel_rfl) (by kernel_rfl) (by repeat (first | exact calm_body | exact calm_mid | apply calm_noGoto | exact calm_midE | apply calm_then | apply calm_block)) (p_move rfl) rfl ?_
        first | refine D_pass 13 rfl (by kernel_rfl) (by kernel_rfl) (by kernel_rfl) (by repeat (first | exact calm_body | exact calm_mid | apply calm_noGoto | exact calm_midE | apply calm_then | apply calm_block)) rfl rfl rfl rfl ?_ | refine D_pass_undef 13 rfl (by kernel_rfl) (by kernel_rfl) (by kernel_rfl) (by repeat (first | exact calm_body | exact calm_mid | apply calm_noGoto | exact calm_midE | apply calm_then | apply calm_block)) rfl rfl rfl ?_ | refine D_take_guard 13 rfl (by kernel_rfl) (by kernel_rfl) (by kernel_rfl) (by repeat (first | exact calm_body | exact calm_mid | apply calm_noGoto | exact calm_midE | apply calm_then | apply calm_block)) rfl rfl (p_load rfl sc_counts_Count (by repeat (first | exact List.Mem.head _ | apply List.Mem.tail)) (by rfl)) rfl ?_
        first | refine D_pass 14 rfl (by kernel_rfl) (by kernel_rfl) (by kernel_rfl) (by repeat (first | exact calm_body | exact calm_mid | apply calm_noGoto | exact calm_midE | apply calm_then | apply calm_block)) rfl rfl rfl rfl ?_ | refine D_pass_undef 14 rfl (by kernel_rfl) (by kernel_rfl) (by kernel_rfl) (by repeat (first | exact calm_body | exact calm_mid | apply calm_noGoto | exact calm_midE | apply calm_then | apply calm_block)) rfl rfl rfl ?_ | refine D_take_guard 14 rfl (by kernel_rfl) (by kernel_rfl) (by kernel_rfl) (by repeat (first | exact calm_body | exact calm_mid | apply calm_noGoto | exact calm_midE | apply calm_then | apply calm_block)) rfl rfl (p_nilCheck rfl) rfl ?_
        first | refine D_pass 15 rfl (by kernel_rfl) (by kernel_rfl) (by kernel_rfl) (by repeat (first | exact calm_body | exact calm_mid | apply calm_noGoto | exact calm_midE | apply calm_then | apply calm_block)) rfl rfl rfl rfl ?_ | refine D_pass_undef 15 rfl (by kernel_rfl) (by kernel_rfl) (by kernel_rfl) (by repeat (first | exact calm_body | exact calm_mid | apply calm_noGoto | exact calm_midE | apply calm_then | apply calm_block)) rfl rfl rfl ?_ | refine D_take_guard 15 rfl (by kernel_rfl) (by kernel_rfl) (by kernel_rfl) (by repeat (first | exact calm_body | exact calm_mid | apply calm_noGoto | exact calm_midE | apply calm_then | apply calm_block)) rfl rfl (by first | exact p_fieldAddr0 rfl fd_counts_Count_1 | exact p_fieldAddr rfl fd_counts_Count_1) rfl ?_
        first | refine D_pass 16 rfl (by kernel_rfl) (by kernel_rfl) (by kernel_rfl) (by repeat (first | exact calm_body | exact calm_mid | apply calm_noGoto | exact calm_midE | apply calm_then | apply calm_block)) rfl rfl rfl rfl ?_ | refine D_pass_undef 16 rfl (by kernel_rfl) (by kernel_rfl) (by kernel_rfl) (by repeat (first | exact calm_body | exact calm_mid | apply calm_noGoto | exact calm_midE | apply calm_then | apply calm_block)) rfl rfl rfl ?_ | refine D_take_guard 16 rfl (by kernel_rfl) (by kernel_rfl) (by kernel_rfl) (by repeat (first | exact calm_body | exact calm_mid | apply calm_noGoto | exact calm_midE | apply calm_then | apply calm_block)) rfl rfl (p_load rfl sc_disks_Disk (by repeat (first | exact List.Mem.head _ | apply List.Mem.tail)) (by rfl)) rfl ?_
        first | refine D_pass 17 rfl (by kernel_rfl) (by kernel_rfl) (by kernel_rfl) (by repeat (first | exact calm_body | exact calm_mid | apply calm_noGoto | exact calm_midE | apply calm_then | apply calm_block)) rfl rfl rfl rfl ?_ | refine D_pass_undef 17 rfl (by kernel_rfl) (by kernel_rfl) (by kernel_rfl) (by repeat (first | exact calm_body | exact calm_mid | apply calm_noGoto | exact calm_midE | apply calm_then | apply calm_block)) rfl rfl rfl ?_ | (refine D_only_guard 17 rfl (by kernel_rfl) rfl rfl rfl (op_callXK (fun _ : Unit => .int .i64 9) (fun _ => (progH ⟨p.bd, p.bs, p.cs, p.bn, p.cn, p.sps, p.spn, wb⟩ (s.write at_ (toldS (used + 1))).sync)) (fun _ => True) (Hc := progH ⟨p.bd, p.bs, p.cs, p.bn, p.cn, p.sps, p.spn, wb⟩ (s.write at_ (toldS (used + 1)))) (K := [(g, .cells (bytesV (toldS (used + 1)) ++ sp).toArray 5 (0, 0)), (b4, .cells [.int .u32 ((used + 1 : Nat) : Int)].toArray 101 (0, 0)), (b3, .cells [.int .i64 0].toArray 36 (0, 0)), (b1, .cells [.pointer (some ⟨bc, 0, none⟩)].toArray 48 (0, 0)), (bc, .cells (cntC used p.bd at_ false).toArray 103 (0, 0))]) rfl rfl Try.func61 rfl (by kernel_rfl) rfl (List.Perm.refl _) (fun w' _ hm => dsync_failG (m + 1) ⟨p.bd, p.bs, p.cs, p.bn, p.cn, p.sps, p.spn, wb⟩ _ hok1 hb3 w' hm) (fun _ _ => ?_)); refine ⟨(by repeat (first | exact Fewer.nil | refine Fewer.keep rfl ?_ | refine Fewer.drop ?_ | exact Fewer.refl _ | exact Fewer.inl _ _ | (simp only [List.append_nil]; first | exact Fewer.inl _ _ | exact Fewer.refl _))), ?_⟩)
        first | refine D_pass 18 rfl (by kernel_rfl) (by kernel_rfl) (by kernel_rfl) (by repeat (first | exact calm_body | exact calm_mid | apply calm_noGoto | exact calm_midE | apply calm_then | apply calm_block)) rfl rfl rfl rfl ?_ | refine D_pass_undef 18 rfl (by kernel_rfl) (by kernel_rfl) (by kernel_rfl) (by repeat (first | exact calm_body | exact calm_mid | apply calm_noGoto | exact calm_midE | apply calm_then | apply calm_block)) rfl rfl rfl ?_ | refine D_take_guard 18 rfl (by kernel_rfl) (by kernel_rfl) (by kernel_rfl) (by repeat (first | exact calm_body | exact calm_mid | apply calm_noGoto | exact calm_midE | apply calm_then | apply calm_block)) rfl rfl (p_bin rfl rfl (b_neq (by first | assumption | exact bne_iff_ne.2 (by omega) | exact bne_eq_false_iff_eq.2 (by omega) | rfl))) rfl ?_
        refine D_take 19 rfl (by kernel_rfl) (by kernel_rfl) (by kernel_rfl) (by repeat (first | exact calm_body | exact calm_mid | apply calm_noGoto | exact calm_midE | apply calm_then | apply calm_block)) (by first | exact p_pick_yes rfl rfl | exact p_pick_no rfl rfl | exact p_pick rfl rfl rfl) rfl ?_
        refine D_done (by kernel_rfl) ?_
        exact E_midE wb hwbk (by repeat (first | exact Sub.nil | refine Sub.cons rfl ?_)) (by simp only [List.cons_append, List.nil_append]; exact .drop (.drop (Fewer.refl _)))
      intro wb hwbk
      repeat (first | refine S_scope ?_ | refine S_label ?_ | refine E_noGoto_normal ?_ | refine E_noGoto_ret ?_ | refine E_noGoto_exit ?_ | refine S_yes rfl (by first | with_reducible rfl | decide) ?_ | refine S_no rfl (by first | with_reducible rfl | decide) ?_ | refine S_seq ?_ | refine E_seq ?_ | refine S_block ?_ | refine E_block_normal ?_ | refine S_skip ?_ | refine S_exit ?_ | refine S_ret ?_ | refine E_then_exit ?_ | refine E_then_ret ?_ | refine E_block_ret ?_ | refine E_block_exit ?_ | refine E_block_exit_other rfl ?_)
      refine S_region ?_
      refine R_cons rfl (op_pure (p_assign rfl) rfl ?_)
      refine R_cons rfl (op_store rfl rfl rfl sc_Errno (by repeat (first | exact At.here | apply At.there)) (by exact Nat.le_of_ble_eq_true rfl) ?_)
      refine R_nil ?_
      repeat (first | refine S_scope ?_ | refine S_label ?_ | refine E_noGoto_normal ?_ | refine E_noGoto_ret ?_ | refine E_noGoto_exit ?_ | refine S_yes rfl (by first | with_reducible rfl | decide) ?_ | refine S_no rfl (by first | with_reducible rfl | decide) ?_ | refine S_seq ?_ | refine E_seq ?_ | refine S_block ?_ | refine E_block_normal ?_ | refine S_skip ?_ | refine S_exit ?_ | refine S_ret ?_ | refine E_then_exit ?_ | refine E_then_ret ?_ | refine E_block_ret ?_ | refine E_block_exit ?_ | refine E_block_exit_other rfl ?_)
      refine E_retDH (Hc := [(b1, .cells [.pointer (some ⟨bc, 0, none⟩)].toArray 48 (0, 0)), (b3, .cells [.int .i64 9].toArray 36 (0, 0)), (bc, .cells (cntC used p.bd at_ false).toArray 103 (0, 0))]) (K := progH ⟨p.bd, p.bs, p.cs, p.bn, p.cn, p.sps, p.spn, wb⟩ (s.write at_ (toldS (used + 1))).sync) Try.func60 rfl (by kernel_rfl) (by simp only [List.cons_append, List.nil_append, List.append_nil]; (repeat (first | exact List.Perm.refl _ | refine List.Perm.cons _ ?_ | refine (perm_pick (by repeat (first | exact Del.here | apply Del.there))).trans (List.Perm.cons _ ?_)))) (fun w' hm' => next1_D b1 b3 bc used p.bd at_ false 9 .returning w' hm') (fun a w' hf' hm' => ?_)
      have hmm : Mem w.heap.size ⟨w, ((bc, .cells (cntC used p.bd at_ false).toArray 103 (0, 0)) :: progH p s).map (·.1)⟩ ((bc, .cells (cntC used p.bd at_ true).toArray 103 (0, 0)) :: progH ⟨p.bd, p.bs, p.cs, p.bn, p.cn, p.sps, p.spn, wb⟩ (s.write at_ (toldS (used + 1))).sync) w' := hm'.fewer (by simp only [List.cons_append, List.nil_append]; exact .drop (.drop (Fewer.refl _)))
      have hws : (s.write at_ (toldS (used + 1))).sync.ws = (s.write at_ (toldS (used + 1))).ws := by
        generalize hs1 : s.write at_ (toldS (used + 1)) = s1 at hb3 ⊢
        unfold DS.sync
        rw [if_pos hb3]
      exact ⟨_, results_tmp_cell rfl sc_Errno (hf'.at_ 2 _ rfl) (hf'.at_ 3 _ rfl) ((hm'.cell (b := b3) (cs := [.int .i64 9]) (by simp only [List.cons_append, List.nil_append]; repeat (first | exact List.Mem.head _ | apply List.Mem.tail)) 0).trans rfl), wb, rfl, hmm, by show wbOk wb (s.write at_ (toldS (used + 1))).sync.ws; rw [hws]; exact hwbk⟩
    | false =>
      have hnx : nextS s at_ used = ⟨used + 1, false, (s.write at_ (toldS (used + 1))).sync, used, 0⟩ := by unfold nextS; rw [if_neg (by rw [hb1]; decide), if_neg (by rw [hb2]; decide)]
      have hb3 : blownS (s.write at_ (toldS (used + 1))).left (s.write at_ (toldS (used + 1))).bl = false := by rw [hsw.1, hsw.2]; exact hb2
      rw [hnx]
      refine S_cut [(48, .bool false), (4, .pointer (some ⟨b4, 0, none⟩)), (3, .pointer (some ⟨b3, 0, none⟩)), (2, .int .u32 0), (1, .pointer (some ⟨b1, 0, none⟩))] ((b4, .cells [.int .u32 ((used + 1 : Nat) : Int)].toArray 101 (0, 0)) :: (b3, .cells [.int .i64 0].toArray 36 (0, 0)) :: (b1, .cells [.pointer (some ⟨bc, 0, none⟩)].toArray 48 (0, 0)) :: (bc, .cells (cntC used p.bd at_ false).toArray 103 (0, 0)) :: progH ⟨p.bd, p.bs, p.cs, p.bn, p.cn, p.sps, p.spn, none⟩ (s.write at_ (toldS (used + 1))).sync) ?_ ?_
      · refine S_drawn (by kernel_rfl) (.keep rfl (.keep rfl (.keep rfl (.keep rfl .nil)))) ?_
        refine D_take 0 rfl (by kernel_rfl) (by kernel_rfl) (by kernel_rfl) (by repeat (first | exact calm_body | exact calm_mid | apply calm_noGoto | exact calm_midE | apply calm_then | apply calm_block)) (p_load rfl sc_counts_Count (by repeat (first | exact List.Mem.head _ | apply List.Mem.tail)) (by rfl)) rfl ?_
        refine D_take 1 rfl (by kernel_rfl) (by kernel_rfl) (by kernel_rfl) (by repeat (first | exact calm_body | exact calm_mid | apply calm_noGoto | exact calm_midE | apply calm_then | apply calm_block)) (p_nilCheck rfl) rfl ?_
        refine D_take 2 rfl (by kernel_rfl) (by kernel_rfl) (by kernel_rfl) (by repeat (first | exact calm_body | exact calm_mid | apply calm_noGoto | exact calm_midE | apply calm_then | apply calm_block)) (by first | exact p_fieldAddr0 rfl fd_counts_Count_1 | exact p_fieldAddr rfl fd_counts_Count_1) rfl ?_
        refine D_take 3 rfl (by kernel_rfl) (by kernel_rfl) (by kernel_rfl) (by repeat (first | exact calm_body | exact calm_mid | apply calm_noGoto | exact calm_midE | apply calm_then | apply calm_block)) (p_load rfl sc_disks_Disk (by repeat (first | exact List.Mem.head _ | apply List.Mem.tail)) (by rfl)) rfl ?_
        refine D_take 4 rfl (by kernel_rfl) (by kernel_rfl) (by kernel_rfl) (by repeat (first | exact calm_body | exact calm_mid | apply calm_noGoto | exact calm_midE | apply calm_then | apply calm_block)) (p_load rfl sc_counts_Count (by repeat (first | exact List.Mem.head _ | apply List.Mem.tail)) (by rfl)) rfl ?_
        refine D_take 5 rfl (by kernel_rfl) (by kernel_rfl) (by kernel_rfl) (by repeat (first | exact calm_body | exact calm_mid | apply calm_noGoto | exact calm_midE | apply calm_then | apply calm_block)) (p_nilCheck rfl) rfl ?_
        refine D_take 6 rfl (by kernel_rfl) (by kernel_rfl) (by kernel_rfl) (by repeat (first | exact calm_body | exact calm_mid | apply calm_noGoto | exact calm_midE | apply calm_then | apply calm_block)) (by first | exact p_fieldAddr0 rfl fd_counts_Count_2 | exact p_fieldAddr rfl fd_counts_Count_2) rfl ?_
        refine D_take 7 rfl (by kernel_rfl) (by kernel_rfl) (by kernel_rfl) (by repeat (first | exact calm_body | exact calm_mid | apply calm_noGoto | exact calm_midE | apply calm_then | apply calm_block)) (p_load rfl sc_int (by repeat (first | exact List.Mem.head _ | apply List.Mem.tail)) (by rfl)) rfl ?_
        refine D_take 8 rfl (by kernel_rfl) (by kernel_rfl) (by kernel_rfl) (by repeat (first | exact calm_body | exact calm_mid | apply calm_noGoto | exact calm_midE | apply calm_then | apply calm_block)) (p_loadRow rfl row_counts_many (by repeat (first | exact List.Mem.head _ | apply List.Mem.tail)) rfl) rfl ?_
        refine D_only 9 rfl (by kernel_rfl) rfl (op_callBuf (xs := toldS (used + 1)) rfl rfl Try.func58 rfl (by kernel_rfl) rfl (Nat.le_refl _) (fun w' _ => sector_any (used + 1) hu1 w') (fun g sp hokg => ?_))
        refine ⟨(by repeat (first | exact Fewer.nil | refine Fewer.keep rfl ?_ | refine Fewer.drop ?_ | exact Fewer.refl _ | exact Fewer.inl _ _ | (simp only [List.append_nil]; first | exact Fewer.inl _ _ | exact Fewer.refl _))), ?_⟩
        refine D_only 10 rfl (by kernel_rfl) rfl (op_callXK (fun _ : Option (Nat × Nat × List Value) => .int .i64 0) (fun wb => progH ⟨p.bd, p.bs, p.cs, p.bn, p.cn, p.sps, p.spn, wb⟩ (s.write at_ (toldS (used + 1)))) (fun wb => wbOk wb (s.write at_ (toldS (used + 1))).ws) (Hc := progH p s) (K := [(g, .cells (bytesV (toldS (used + 1)) ++ sp).toArray 5 (0, 0)), (b4, .cells [.int .u32 ((used + 1 : Nat) : Int)].toArray 101 (0, 0)), (b3, .cells [.int .i64 0].toArray 36 (0, 0)), (b1, .cells [.pointer (some ⟨bc, 0, none⟩)].toArray 48 (0, 0)), (bc, .cells (cntC used p.bd at_ false).toArray 103 (0, 0))]) rfl rfl Try.func32 rfl (by kernel_rfl) rfl (by first | exact List.Perm.refl _ | (unfold Buf.hp; exact List.Perm.refl _)) (fun w' hm2 hm => (by have e : Buf.val (some (g, sp)) (toldS (used + 1)) = .slice (some ⟨g, 0, none⟩) (toldS (used + 1)).length (Buf.cap (some (g, sp)) (toldS (used + 1))) := (by unfold Buf.val Buf.addr; rfl); show Calls _ _ [.pointer (some ⟨p.bd, 0, none⟩), .int .i64 (at_ : Int), Buf.val (some (g, sp)) (toldS (used + 1))].toArray _ _; rw [e]; have hrk := hm2.readsKept (b := g) (xs := bytesV (toldS (used + 1))) (sp := sp) (by repeat (first | exact List.Mem.head _ | apply List.Mem.tail)); rw [bytesV_length] at hrk; exact (by have h := dwrite_okX m (by omega) p s hok hwb at_ hat _ (Buf.cap (some (g, sp)) (toldS (used + 1))) (toldS (used + 1)) htl2 hb1 w' hrk hm; rw [hpw] at h; exact h))) (fun wb hwbk => ?_))
        refine ⟨(by repeat (first | exact Fewer.nil | refine Fewer.keep rfl ?_ | refine Fewer.drop ?_ | exact Fewer.refl _ | exact Fewer.inl _ _ | (simp only [List.append_nil]; first | exact Fewer.inl _ _ | exact Fewer.refl _))), ?_⟩
        refine D_take 11 rfl (by kernel_rfl) (by kernel_rfl) (by kernel_rfl) (by repeat (first | exact calm_body | exact calm_mid | apply calm_noGoto | exact calm_midE | apply calm_then | apply calm_block)) (p_bin rfl rfl (b_neq (by first | assumption | exact bne_iff_ne.2 (by omega) | exact bne_eq_false_iff_eq.2 (by omega) | rfl))) rfl ?_
        refine D_take 12 rfl (by kernel_rfl) (by kernel_rfl) (by kernel_rfl) (by repeat (first | exact calm_body | exact calm_mid | apply calm_noGoto | exact calm_midE | apply calm_then | apply calm_block)) (p_move rfl) rfl ?_
        first | refine D_pass 13 rfl (by kernel_rfl) (by kernel_rfl) (by kernel_rfl) (by repeat (first | exact calm_body | exact calm_mid | apply calm_noGoto | exact calm_midE | apply calm_then | apply calm_block)) rfl rfl rfl rfl ?_ | refine D_pass_undef 13 rfl (by kernel_rfl) (by kernel_rfl) (by kernel_rfl) (by repeat (first | exact calm_body | exact calm_mid | apply calm_noGoto | exact calm_midE | apply calm_then | apply calm_block)) rfl rfl rfl ?_ | refine D_take_guard 13 rfl (by kernel_rfl) (by kernel_rfl) (by kernel_rfl) (by repeat (first | exact calm_body | exact calm_mid | apply calm_noGoto | exact calm_midE | apply calm_then | apply calm_block)) rfl rfl (p_load rfl sc_counts_Count (by repeat (first | exact List.Mem.head _ | apply List.Mem.tail)) (by rfl)) rfl ?_
        first | refine D_pass 14 rfl (by kernel_rfl) (by kernel_rfl) (by kernel_rfl) (by repeat (first | exact calm_body | exact calm_mid | apply calm_noGoto | exact calm_midE | apply calm_then | apply calm_block)) rfl rfl rfl rfl ?_ | refine D_pass_undef 14 rfl (by kernel_rfl) (by kernel_rfl) (by kernel_rfl) (by repeat (first | exact calm_body | exact calm_mid | apply calm_noGoto | exact calm_midE | apply calm_then | apply calm_block)) rfl rfl rfl ?_ | refine D_take_guard 14 rfl (by kernel_rfl) (by kernel_rfl) (by kernel_rfl) (by repeat (first | exact calm_body | exact calm_mid | apply calm_noGoto | exact calm_midE | apply calm_then | apply calm_block)) rfl rfl (p_nilCheck rfl) rfl ?_
        first | refine D_pass 15 rfl (by kernel_rfl) (by kernel_rfl) (by kernel_rfl) (by repeat (first | exact calm_body | exact calm_mid | apply calm_noGoto | exact calm_midE | apply calm_then | apply calm_block)) rfl rfl rfl rfl ?_ | refine D_pass_undef 15 rfl (by kernel_rfl) (by kernel_rfl) (by kernel_rfl) (by repeat (first | exact calm_body | exact calm_mid | apply calm_noGoto | exact calm_midE | apply calm_then | apply calm_block)) rfl rfl rfl ?_ | refine D_take_guard 15 rfl (by kernel_rfl) (by kernel_rfl) (by kernel_rfl) (by repeat (first | exact calm_body | exact calm_mid | apply calm_noGoto | exact calm_midE | apply calm_then | apply calm_block)) rfl rfl (by first | exact p_fieldAddr0 rfl fd_counts_Count_1 | exact p_fieldAddr rfl fd_counts_Count_1) rfl ?_
        first | refine D_pass 16 rfl (by kernel_rfl) (by kernel_rfl) (by kernel_rfl) (by repeat (first | exact calm_body | exact calm_mid | apply calm_noGoto | exact calm_midE | apply calm_then | apply calm_block)) rfl rfl rfl rfl ?_ | refine D_pass_undef 16 rfl (by kernel_rfl) (by kernel_rfl) (by kernel_rfl) (by repeat (first | exact calm_body | exact calm_mid | apply calm_noGoto | exact calm_midE | apply calm_then | apply calm_block)) rfl rfl rfl ?_ | refine D_take_guard 16 rfl (by kernel_rfl) (by kernel_rfl) (by kernel_rfl) (by repeat (first | exact calm_body | exact calm_mid | apply calm_noGoto | exact calm_midE | apply calm_then | apply calm_block)) rfl rfl (p_load rfl sc_disks_Disk (by repeat (first | exact List.Mem.head _ | apply List.Mem.tail)) (by rfl)) rfl ?_
        first | refine D_pass 17 rfl (by kernel_rfl) (by kernel_rfl) (by kernel_rfl) (by repeat (first | exact calm_body | exact calm_mid | apply calm_noGoto | exact calm_midE | apply calm_then | apply calm_block)) rfl rfl rfl rfl ?_ | refine D_pass_undef 17 rfl (by kernel_rfl) (by kernel_rfl) (by kernel_rfl) (by repeat (first | exact calm_body | exact calm_mid | apply calm_noGoto | exact calm_midE | apply calm_then | apply calm_block)) rfl rfl rfl ?_ | (refine D_only_guard 17 rfl (by kernel_rfl) rfl rfl rfl (op_callXK (fun _ : Unit => .int .i64 0) (fun _ => (progH ⟨p.bd, p.bs, p.cs, p.bn, p.cn, p.sps, p.spn, none⟩ (s.write at_ (toldS (used + 1))).sync)) (fun _ => True) (Hc := progH ⟨p.bd, p.bs, p.cs, p.bn, p.cn, p.sps, p.spn, wb⟩ (s.write at_ (toldS (used + 1)))) (K := [(g, .cells (bytesV (toldS (used + 1)) ++ sp).toArray 5 (0, 0)), (b4, .cells [.int .u32 ((used + 1 : Nat) : Int)].toArray 101 (0, 0)), (b3, .cells [.int .i64 0].toArray 36 (0, 0)), (b1, .cells [.pointer (some ⟨bc, 0, none⟩)].toArray 48 (0, 0)), (bc, .cells (cntC used p.bd at_ false).toArray 103 (0, 0))]) rfl rfl Try.func61 rfl (by kernel_rfl) rfl (List.Perm.refl _) (fun w' _ hm => dsync_okG (m + 1) ⟨p.bd, p.bs, p.cs, p.bn, p.cn, p.sps, p.spn, wb⟩ _ hok1 hb3 w' hm) (fun _ _ => ?_)); refine ⟨(by repeat (first | exact Fewer.nil | refine Fewer.keep rfl ?_ | refine Fewer.drop ?_ | exact Fewer.refl _ | exact Fewer.inl _ _ | (simp only [List.append_nil]; first | exact Fewer.inl _ _ | exact Fewer.refl _))), ?_⟩)
        first | refine D_pass 18 rfl (by kernel_rfl) (by kernel_rfl) (by kernel_rfl) (by repeat (first | exact calm_body | exact calm_mid | apply calm_noGoto | exact calm_midE | apply calm_then | apply calm_block)) rfl rfl rfl rfl ?_ | refine D_pass_undef 18 rfl (by kernel_rfl) (by kernel_rfl) (by kernel_rfl) (by repeat (first | exact calm_body | exact calm_mid | apply calm_noGoto | exact calm_midE | apply calm_then | apply calm_block)) rfl rfl rfl ?_ | refine D_take_guard 18 rfl (by kernel_rfl) (by kernel_rfl) (by kernel_rfl) (by repeat (first | exact calm_body | exact calm_mid | apply calm_noGoto | exact calm_midE | apply calm_then | apply calm_block)) rfl rfl (p_bin rfl rfl (b_neq (by first | assumption | exact bne_iff_ne.2 (by omega) | exact bne_eq_false_iff_eq.2 (by omega) | rfl))) rfl ?_
        refine D_take 19 rfl (by kernel_rfl) (by kernel_rfl) (by kernel_rfl) (by repeat (first | exact calm_body | exact calm_mid | apply calm_noGoto | exact calm_midE | apply calm_then | apply calm_block)) (by first | exact p_pick_yes rfl rfl | exact p_pick_no rfl rfl | exact p_pick rfl rfl rfl) rfl ?_
        refine D_done (by kernel_rfl) ?_
        exact E_mid (by repeat (first | exact Sub.nil | refine Sub.cons rfl ?_)) (by simp only [List.cons_append, List.nil_append]; exact .drop (Fewer.refl _))
      repeat (first | refine S_scope ?_ | refine S_label ?_ | refine E_noGoto_normal ?_ | refine E_noGoto_ret ?_ | refine E_noGoto_exit ?_ | refine S_yes rfl (by first | with_reducible rfl | decide) ?_ | refine S_no rfl (by first | with_reducible rfl | decide) ?_ | refine S_seq ?_ | refine E_seq ?_ | refine S_block ?_ | refine E_block_normal ?_ | refine S_skip ?_ | refine S_exit ?_ | refine S_ret ?_ | refine E_then_exit ?_ | refine E_then_ret ?_ | refine E_block_ret ?_ | refine E_block_exit ?_ | refine E_block_exit_other rfl ?_)
      refine S_region ?_
      refine R_cons rfl (op_pure (p_load rfl sc_counts_Count (by repeat (first | exact List.Mem.head _ | apply List.Mem.tail)) (by rfl)) rfl ?_)
      refine R_cons rfl (op_pure (p_loadRow rfl row_counts_many (by repeat (first | exact List.Mem.head _ | apply List.Mem.tail)) rfl) rfl ?_)
      refine R_cons rfl (op_pure (p_nilCheck rfl) rfl ?_)
      refine R_cons rfl (op_pure (by first | exact p_fieldAddr0 rfl fd_counts_Count_0 | exact p_fieldAddr rfl fd_counts_Count_0) rfl ?_)
      refine R_cons rfl (op_storeRow rfl rfl (fun v hv => by rw [List.mem_singleton] at hv; subst hv; rfl) row_counts_many rfl (by repeat (first | exact At.here | apply At.there)) (by exact Nat.le_of_ble_eq_true rfl) ?_)
      refine R_nil ?_
      repeat (first | refine S_scope ?_ | refine S_label ?_ | refine E_noGoto_normal ?_ | refine E_noGoto_ret ?_ | refine E_noGoto_exit ?_ | refine S_yes rfl (by first | with_reducible rfl | decide) ?_ | refine S_no rfl (by first | with_reducible rfl | decide) ?_ | refine S_seq ?_ | refine E_seq ?_ | refine S_block ?_ | refine E_block_normal ?_ | refine S_skip ?_ | refine S_exit ?_ | refine S_ret ?_ | refine E_then_exit ?_ | refine E_then_ret ?_ | refine E_block_ret ?_ | refine E_block_exit ?_ | refine E_block_exit_other rfl ?_)
      refine S_region ?_
      refine R_cons rfl (op_pure (by first | exact p_fieldAddr0 rfl fd_counts_many_0 | exact p_fieldAddr rfl fd_counts_many_0) rfl ?_)
      refine R_cons rfl (op_pure (p_load rfl sc_u32 (by repeat (first | exact List.Mem.head _ | apply List.Mem.tail)) (by rfl)) rfl ?_)
      refine R_cons rfl (op_pure (p_bin rfl rfl (b_sub hsub1)) rfl ?_)
      refine R_cons rfl (op_pure (p_assign rfl) rfl ?_)
      refine R_cons rfl (op_store rfl rfl rfl sc_Errno (by repeat (first | exact At.here | apply At.there)) (by exact Nat.le_of_ble_eq_true rfl) ?_)
      refine R_nil ?_
      repeat (first | refine S_scope ?_ | refine S_label ?_ | refine E_noGoto_normal ?_ | refine E_noGoto_ret ?_ | refine E_noGoto_exit ?_ | refine S_yes rfl (by first | with_reducible rfl | decide) ?_ | refine S_no rfl (by first | with_reducible rfl | decide) ?_ | refine S_seq ?_ | refine E_seq ?_ | refine S_block ?_ | refine E_block_normal ?_ | refine S_skip ?_ | refine S_exit ?_ | refine S_ret ?_ | refine E_then_exit ?_ | refine E_then_ret ?_ | refine E_block_ret ?_ | refine E_block_exit ?_ | refine E_block_exit_other rfl ?_)
      refine E_retDH (Hc := [(b1, .cells [.pointer (some ⟨bc, 0, none⟩)].toArray 48 (0, 0)), (b3, .cells [.int .i64 0].toArray 36 (0, 0)), (bc, .cells (cntC (used + 1) p.bd at_ false).toArray 103 (0, 0))]) (K := (b4, .cells [.int .u32 ((used + 1 : Nat) : Int)].toArray 101 (0, 0)) :: progH ⟨p.bd, p.bs, p.cs, p.bn, p.cn, p.sps, p.spn, none⟩ (s.write at_ (toldS (used + 1))).sync) Try.func60 rfl (by kernel_rfl) (by simp only [List.cons_append, List.nil_append, List.append_nil]; (repeat (first | exact List.Perm.refl _ | refine List.Perm.cons _ ?_ | refine (perm_pick (by repeat (first | exact Del.here | apply Del.there))).trans (List.Perm.cons _ ?_)))) (fun w' hm' => next1_D b1 b3 bc (used + 1) p.bd at_ false 0 .returning w' hm') (fun a w' hf' hm' => ?_)
      have hmm : Mem w.heap.size ⟨w, ((bc, .cells (cntC used p.bd at_ false).toArray 103 (0, 0)) :: progH p s).map (·.1)⟩ ((bc, .cells (cntC (used + 1) p.bd at_ false).toArray 103 (0, 0)) :: progH ⟨p.bd, p.bs, p.cs, p.bn, p.cn, p.sps, p.spn, none⟩ (s.write at_ (toldS (used + 1))).sync) w' := hm'.fewer (by simp only [List.cons_append, List.nil_append]; exact .drop (.drop (.keep rfl (.drop (Fewer.refl _)))))
      have hws : (s.write at_ (toldS (used + 1))).sync.ws = [] := by
        generalize hs1 : s.write at_ (toldS (used + 1)) = s1 at hb3 ⊢
        unfold DS.sync
        rw [if_neg (by rw [hb3]; decide)]
      exact ⟨_, results_tmp_cell rfl sc_Errno (hf'.at_ 2 _ rfl) (hf'.at_ 3 _ rfl) ((hm'.cell (b := b3) (cs := [.int .i64 0]) (by simp only [List.cons_append, List.nil_append]; repeat (first | exact List.Mem.head _ | apply List.Mem.tail)) 0).trans rfl), none, rfl, hmm, hws⟩
end Go.Proofs.Ytfdlafjifjndeaa
/-
  The layers disks and counts, whatever waits: a disk that fails, a byte turned, a fuse, a count opened.
-/
namespace Go.Proofs.Ytfdlafjifjndeaa
open Go.RowKit Go.K
attribute [local irreducible] Exit.then Exit.inBlock Exit.noGoto bodyPost Code.wp QL Sx Rx Qx Ex Dx Op1 Pure1 Still1 K.Sub Calm Code.wpIn
set_option linter.unusedVariables false
def stepK (a : List (List UInt8)) (q : (Nat × List UInt8) × Bool) : List (List UInt8) := if q.2 then a.set q.1.1 q.1.2 else a
def keptJ (sure : List (List UInt8)) (ws : List (Nat × List UInt8)) (l : List Bool) (j : Nat) : List (List UInt8) := ((ws.zip l).take j).foldl stepK sure
def keptOf (sure : List (List UInt8)) (ws : List (Nat × List UInt8)) (l : List Bool) : List (List UInt8) := (ws.zip l).foldl stepK sure
theorem keptJ_0 (sure : List (List UInt8)) (ws : List (Nat × List UInt8)) (l : List Bool) : keptJ sure ws l 0 = sure := rfl
theorem keptJ_all (sure : List (List UInt8)) (ws : List (Nat × List UInt8)) (l : List Bool) (j : Nat) (h : (ws.zip l).length ≤ j) : keptJ sure ws l j = keptOf sure ws l := by
  unfold keptJ keptOf
  rw [List.take_of_length_le h]
theorem keptJ_succ (sure : List (List UInt8)) (ws : List (Nat × List UInt8)) (l : List Bool) (j : Nat) (w : Nat × List UInt8) (b : Bool) (hw : ws[j]? = some w) (hb : l[j]? = some b) : keptJ sure ws l (j + 1) = if b then (keptJ sure ws l j).set w.1 w.2 else keptJ sure ws l j := by
  have hz : (ws.zip l)[j]? = some (w, b) := by
    rw [List.getElem?_zip_eq_some]
    exact ⟨hw, hb⟩
  unfold keptJ
  rw [List.take_add_one, hz, List.foldl_append]
  rfl
theorem foldK_ok (zs : List ((Nat × List UInt8) × Bool)) (hz : ∀ q ∈ zs, q.1.2.length = 64) : ∀ a : List (List UInt8), Secs a → Secs (zs.foldl stepK a) ∧ (zs.foldl stepK a).length = a.length := by
  induction zs with
  | nil => exact fun a h => ⟨h, rfl⟩
  | cons q zs ih =>
    intro a ha
    rw [List.foldl_cons]
    have h1 : Secs (stepK a q) ∧ (stepK a q).length = a.length := by
      unfold stepK
      split
      · exact ⟨ha.set q.1.1 (hz q (List.mem_cons_self ..)), List.length_set⟩
      · exact ⟨ha, rfl⟩
    obtain ⟨h2, h3⟩ := ih (fun r hr => hz r (List.mem_cons_of_mem _ hr)) _ h1.1
    exact ⟨h2, h3.trans h1.2⟩
theorem keptJ_ok (sure : List (List UInt8)) (ws : List (Nat × List UInt8)) (l : List Bool) (j : Nat) (hS : Secs sure) (hW : WsOk ws) : Secs (keptJ sure ws l j) ∧ (keptJ sure ws l j).length = sure.length :=
  foldK_ok _ (fun q hq => (hW q.1 (List.of_mem_zip (List.mem_of_mem_take hq)).1).2) sure hS
theorem keptOf_ok (sure : List (List UInt8)) (ws : List (Nat × List UInt8)) (l : List Bool) (hS : Secs sure) (hW : WsOk ws) : Secs (keptOf sure ws l) ∧ (keptOf sure ws l).length = sure.length := by
  rw [← keptJ_all sure ws l _ (Nat.le_refl _)]
  exact keptJ_ok sure ws l _ hS hW
def failS (s : DS) (l : List Bool) : DS := ⟨keptOf s.sure s.ws l, [], -1, false⟩
def turnS (s : DS) (i p : Nat) (b : UInt8) : DS := ⟨(nowOf s.sure s.ws).set i (((nowOf s.sure s.ws).getD i []).set p (((nowOf s.sure s.ws).getD i []).getD p 0 ^^^ b)), [], s.left, s.bl⟩
theorem min_zip (ws : List (Nat × List UInt8)) (l : List Bool) : (if (l.length : Int) < (ws.length : Int) then (l.length : Int) else (ws.length : Int)) = (((ws.zip l).length : Nat) : Int) := by
  rw [List.length_zip]
  by_cases h : l.length < ws.length
  · rw [if_pos (by omega), Nat.min_eq_right (by omega)]
  · rw [if_neg (by omega), Nat.min_eq_left (by omega)]
theorem nowOf_nil (sure : List (List UInt8)) : nowOf sure [] = sure := rfl
attribute [local irreducible] digitsB onNat sumU Buf.hp Buf.cap Buf.addr secV toldS getP leftS blownS openedS wsV nowOf keptJ keptOf
set_option maxHeartbeats 2000000 in
theorem dfailG (m : Nat) (hm1 : m ≤ 1000) (p : PS) (s : DS) (hok : s.ok m) (W : Option Addr) (cw : Nat) (hwv : wbVal p.wb s.ws = .slice W s.ws.length cw) (hcw : s.ws.length ≤ cw) (A : Option Addr) (c : Nat) (l : List Bool) (w : World) (hW : Reads w W (s.ws.length * 65) (wsV s.ws))
    (hrd : Reads w A l.length (boolsV l)) (hb : w.heap[p.bd]? = some (.cells (diskC (.slice (some ⟨p.bs, 0, none⟩) 3 p.cs) (.slice (some ⟨p.bn, 0, none⟩) 3 p.cn) (wbVal p.wb s.ws) s.left s.bl).toArray 113 (0, 0))) (hbs : w.heap[p.bs]? = some (.cells (secV s.sure ++ p.sps).toArray 115 (0, 0))) :
    Calls Try.prog 26 [.pointer (some ⟨p.bd, 0, none⟩), .slice A l.length c].toArray w fun e w' => ∃ q : PS, e = .returned (Value.tuple ([Value.pointer (some ⟨q.bd, 0, none⟩), Value.int .i64 0] : List Value).toArray) ∧ Mem w.heap.size ⟨w, []⟩ (progH q (failS s l)) w' ∧ q.wb = none := by
  obtain ⟨bd, bs, cs, bn, cn, sps, spn, wb⟩ := p
  obtain ⟨sure, ws, left, bl⟩ := s
  obtain ⟨hsl, hS, hWs, ⟨hlo, hhi⟩, hwl⟩ := hok
  dsimp only at hsl hS hWs hlo hhi hwl hwv hcw hb hbs hW
  rw [hwv] at hb
  have hbl := (Array.getElem?_eq_some_iff.1 hb).1
  have c0 : w.cell? ⟨bd, 0, none⟩ = some (.slice (some ⟨bs, 0, none⟩) 3 cs) := by rw [cell_of_row w bd 0 _ _ _ hb]; rfl
  have c2 : w.cell? ⟨bd, 2, none⟩ = some (.slice W ws.length cw) := by rw [cell_of_row w bd 2 _ _ _ hb]; rfl
  have hmin := min_zip ws l
  have hzl : (ws.zip l).length ≤ ws.length ∧ (ws.zip l).length ≤ l.length := by rw [List.length_zip]; exact ⟨Nat.min_le_left _ _, Nat.min_le_right _ _⟩
  have hkall := keptJ_all sure ws l _ (Nat.le_refl (ws.zip l).length)
  have hfin := keptOf_ok sure ws l hS hWs
  generalize (ws.zip l).length = k at hmin hzl hkall
  refine enter Try.func26 rfl Try.ntmps26 (by simp) ?_
  repeat (first | refine S_scope ?_ | refine S_label ?_ | refine E_noGoto_normal ?_ | refine E_noGoto_ret ?_ | refine E_noGoto_exit ?_ | refine S_yes rfl (by first | with_reducible rfl | decide) ?_ | refine S_no rfl (by first | with_reducible rfl | decide) ?_ | refine S_seq ?_ | refine E_seq ?_ | refine S_block ?_ | refine E_block_normal ?_ | refine S_skip ?_ | refine S_exit ?_ | refine S_ret ?_ | refine E_then_exit ?_ | refine E_then_ret ?_ | refine E_block_ret ?_ | refine E_block_exit ?_ | refine E_block_exit_other rfl ?_)
  refine S_region ?_
  refine R_cons rfl (op_pure (p_assign rfl) rfl ?_)
  refine R_cons rfl (op_pure (p_assign rfl) rfl ?_)
  refine R_nil ?_
  repeat (first | refine S_scope ?_ | refine S_label ?_ | refine E_noGoto_normal ?_ | refine E_noGoto_ret ?_ | refine E_noGoto_exit ?_ | refine S_yes rfl (by first | with_reducible rfl | decide) ?_ | refine S_no rfl (by first | with_reducible rfl | decide) ?_ | refine S_seq ?_ | refine E_seq ?_ | refine S_block ?_ | refine E_block_normal ?_ | refine S_skip ?_ | refine S_exit ?_ | refine S_ret ?_ | refine E_then_exit ?_ | refine E_then_ret ?_ | refine E_block_ret ?_ | refine E_block_exit ?_ | refine E_block_exit_other rfl ?_)
  refine S_region ?_
  refine R_cons rfl (op_pure (p_move rfl) rfl ?_)
  refine R_cons rfl (op_callV rfl rfl Try.func62 rfl (by kernel_rfl) rfl (Nat.le_refl _) (fun w' hm => dnone_any bd 3 cs _ _ _ left bl (by omega) w' (below_block hm.below hb)) ?_)
  refine R_nil ?_
  repeat (first | refine S_scope ?_ | refine S_label ?_ | refine E_noGoto_normal ?_ | refine E_noGoto_ret ?_ | refine E_noGoto_exit ?_ | refine S_yes rfl (by first | with_reducible rfl | decide) ?_ | refine S_no rfl (by first | with_reducible rfl | decide) ?_ | refine S_seq ?_ | refine E_seq ?_ | refine S_block ?_ | refine E_block_normal ?_ | refine S_skip ?_ | refine S_exit ?_ | refine S_ret ?_ | refine E_then_exit ?_ | refine E_then_ret ?_ | refine E_block_ret ?_ | refine E_block_exit ?_ | refine E_block_exit_other rfl ?_)
  refine S_region ?_
  refine R_cons rfl (op_pure (p_move rfl) rfl ?_)
  refine R_cons rfl (op_pure (p_nilCheck rfl) rfl ?_)
  refine R_cons rfl (op_pure (by first | exact p_fieldAddr0 rfl fd_disks_Disk_0 | exact p_fieldAddr rfl fd_disks_Disk_0) rfl ?_)
  refine R_cons rfl (op_pure (p_load_base rfl sc_disks_sector hbl (by simp) c0) rfl ?_)
  refine R_cons rfl (op_call rfl rfl Try.func64 rfl (by kernel_rfl) rfl fun w1 hm1 => (dclone_any bs 3 cs sure sps hS hsl (by omega) (by omega) w1 (below_block hm1.below hbs)).mono ?_)
  rintro e w2 ⟨g, cap, sp', rfl, hg, hgo, hcap, hbel⟩
  refine ⟨_, _, rfl, hm1.call1 (Nat.le_refl _) hbel hg hgo, ?_⟩
  clear hm1 hbel hg hgo w1 w2
  refine R_cons rfl (op_pure (p_assign rfl) rfl ?_)
  refine R_nil ?_
  repeat (first | refine S_scope ?_ | refine S_label ?_ | refine E_noGoto_normal ?_ | refine E_noGoto_ret ?_ | refine E_noGoto_exit ?_ | refine S_yes rfl (by first | with_reducible rfl | decide) ?_ | refine S_no rfl (by first | with_reducible rfl | decide) ?_ | refine S_seq ?_ | refine E_seq ?_ | refine S_block ?_ | refine E_block_normal ?_ | refine S_skip ?_ | refine S_exit ?_ | refine S_ret ?_ | refine E_then_exit ?_ | refine E_then_ret ?_ | refine E_block_ret ?_ | refine E_block_exit ?_ | refine E_block_exit_other rfl ?_)
  refine S_quiet (by kernel_rfl) (by kernel_rfl) ?_
  refine Q_cons (Still1.of_pure (p_move rfl)) rfl ?_
  refine Q_cons (Still1.of_pure (p_nilCheck rfl)) rfl ?_
  refine Q_cons (Still1.of_pure (by first | exact p_fieldAddr0 rfl fd_disks_Disk_2 | exact p_fieldAddr rfl fd_disks_Disk_2)) rfl ?_
  refine Q_cons (Still1.of_pure (p_load_base rfl sc_disks_write hbl (by simp) c2)) rfl ?_
  refine Q_cons (Still1.of_pure (p_move rfl)) rfl ?_
  refine Q_cons (Still1.of_pure (p_nilCheck rfl)) rfl ?_
  refine Q_cons (Still1.of_pure (by first | exact p_fieldAddr0 rfl fd_disks_Disk_2 | exact p_fieldAddr rfl fd_disks_Disk_2)) rfl ?_
  refine Q_cons (Still1.of_pure (p_load_base rfl sc_disks_write hbl (by simp) c2)) rfl ?_
  refine Q_cons (Still1.of_pure (p_lenR rfl slr_disks_write)) rfl ?_
  refine Q_cons (Still1.of_pure (p_move rfl)) rfl ?_
  refine Q_cons (Still1.of_pure (p_len rfl slc_bool)) rfl ?_
  refine Q_cons (Still1.of_pure (p_min2 rfl rfl hmin)) rfl ?_
  refine Q_cons (Still1.of_pure (p_sliceToR (h := k) rfl rfl rfl slr_disks_write (by omega))) rfl ?_
  refine Q_cons (Still1.of_pure (p_lenR rfl slr_disks_write)) rfl ?_
  refine Q_cons (Still1.of_pure (p_move rfl)) rfl ?_
  refine Q_nil ?_
  repeat (first | refine S_scope ?_ | refine S_label ?_ | refine E_noGoto_normal ?_ | refine E_noGoto_ret ?_ | refine E_noGoto_exit ?_ | refine S_yes rfl (by first | with_reducible rfl | decide) ?_ | refine S_no rfl (by first | with_reducible rfl | decide) ?_ | refine S_seq ?_ | refine E_seq ?_ | refine S_block ?_ | refine E_block_normal ?_ | refine S_skip ?_ | refine S_exit ?_ | refine S_ret ?_ | refine E_then_exit ?_ | refine E_then_ret ?_ | refine E_block_ret ?_ | refine E_block_exit ?_ | refine E_block_exit_other rfl ?_)
  refine S_loop (fun j : Nat => [(30, .int .i64 (j : Int)), (29, .int .i64 (k : Int)), (28, .slice W k cw), (6, .slice (some ⟨g, 0, none⟩) 3 cap), (1, .slice A l.length c)]) (fun j => [(g, .cells (secV (keptJ sure ws l j) ++ sp').toArray 115 (0, 0))]) (fun j => j ≤ k) (fun j => k - j) 0 (Nat.zero_le _) (by repeat (first | exact Sub.nil | refine Sub.cons rfl ?_)) (by rw [keptJ_0]; exact Fewer.refl _) ?_
  intro j hj
  by_cases hlt : j < k
  · obtain ⟨ba, offa, rfl, hbal, hca⟩ := hrd.2 (by omega)
    obtain ⟨bw, offw, rfl, hbwl, hcwl⟩ := hW.2 (by omega)
    have hjl : j < l.length := by omega
    have hjw : j < ws.length := by omega
    obtain ⟨x, hx⟩ : ∃ x, ws[j]? = some x := ⟨_, List.getElem?_eq_getElem hjw⟩
    have hxm := hWs x (List.mem_of_getElem? hx)
    have hll : l[j]? = some (l.getD j false) := by rw [List.getD_eq_getElem?_getD, List.getElem?_eq_getElem hjl]; rfl
    have hl00 := hca j (.bool (l.getD j false)) (boolsV_get hjl)
    have hsucc := keptJ_succ sure ws l j x _ hx hll
    have hkj := keptJ_ok sure ws l j hS hWs
    obtain ⟨i, y⟩ := x
    dsimp only at hxm hsucc
    have hxv : (bytesV y).length = 64 := by rw [bytesV_length, hxm.2]
    have hrowl : (Value.int .i64 (i : Int) :: bytesV y).length = 65 := by rw [List.length_cons, hxv]
    have hrow1 : ∀ u ∈ (Value.int .i64 (i : Int) :: bytesV y), u.oneCell' = true := ones_cons rfl (bytesV_one y)
    have hcell : ∀ q v, (Value.int .i64 (i : Int) :: bytesV y)[q]? = some v → w.cell? ⟨bw, offw + j * 65 + q, none⟩ = some v := fun q v hv => by
      have hq : q < 65 := by rw [← hrowl]; exact (List.getElem?_eq_some_iff.1 hv).1
      have h := flat_cell (fun w : Nat × List UInt8 => Value.int .i64 (w.1 : Int) :: bytesV w.2) 65 ws (fun w hw => by rw [List.length_cons, bytesV_length, (hWs w hw).2]) j q (i, y) hx hq
      have h2 := hcwl (j * 65 + q) v (by unfold wsV; rw [h]; exact hv)
      rwa [← Nat.add_assoc] at h2
    have hinc : IntKind.i64.wrap ((j : Int) + 1) = ((j + 1 : Nat) : Int) := by rw [w_in_i64 (by omega)]; omega
    have g5 : decide ((j : Int) < (k : Int)) = true := decide_eq_true (by omega)
    repeat (first | refine S_scope ?_ | refine S_label ?_ | refine E_noGoto_normal ?_ | refine E_noGoto_ret ?_ | refine E_noGoto_exit ?_ | refine S_yes rfl (by first | with_reducible rfl | decide) ?_ | refine S_no rfl (by first | with_reducible rfl | decide) ?_ | refine S_seq ?_ | refine E_seq ?_ | refine S_block ?_ | refine E_block_normal ?_ | refine S_skip ?_ | refine S_exit ?_ | refine S_ret ?_ | refine E_then_exit ?_ | refine E_then_ret ?_ | refine E_block_ret ?_ | refine E_block_exit ?_ | refine E_block_exit_other rfl ?_)
    refine S_region ?_
    refine R_cons rfl (op_pure (p_bin rfl rfl (b_lss g5)) rfl ?_)
    refine R_nil ?_
    repeat (first | refine S_scope ?_ | refine S_label ?_ | refine E_noGoto_normal ?_ | refine E_noGoto_ret ?_ | refine E_noGoto_exit ?_ | refine S_yes rfl (by first | with_reducible rfl | decide) ?_ | refine S_no rfl (by first | with_reducible rfl | decide) ?_ | refine S_seq ?_ | refine E_seq ?_ | refine S_block ?_ | refine E_block_normal ?_ | refine S_skip ?_ | refine S_exit ?_ | refine S_ret ?_ | refine E_then_exit ?_ | refine E_then_ret ?_ | refine E_block_ret ?_ | refine E_block_exit ?_ | refine E_block_exit_other rfl ?_)
    refine S_region ?_
    refine R_cons rfl (op_pure (p_move rfl) rfl ?_)
    refine R_cons rfl (op_pure (p_indexR (j := j) rfl rfl rfl slr_disks_write hlt) rfl ?_)
    refine R_cons rfl (op_pure (p_loadRowBase rfl row_disks_write hrowl hbwl (by simp) hcell) rfl ?_)
    refine R_cons rfl (op_allocRow zero_disks_write rfl (Nat.le_refl _) (fun b8 => ?_))
    refine R_cons rfl (op_pure (p_assign rfl) rfl ?_)
    refine R_cons rfl (op_storeRow rfl rfl hrow1 row_disks_write hrowl (by repeat (first | exact At.here | apply At.there)) (by rw [hrowl]; exact Nat.le_of_ble_eq_true rfl) ?_)
    refine R_nil ?_
    repeat (first | refine S_scope ?_ | refine S_label ?_ | refine E_noGoto_normal ?_ | refine E_noGoto_ret ?_ | refine E_noGoto_exit ?_ | refine S_yes rfl (by first | with_reducible rfl | decide) ?_ | refine S_no rfl (by first | with_reducible rfl | decide) ?_ | refine S_seq ?_ | refine E_seq ?_ | refine S_block ?_ | refine E_block_normal ?_ | refine S_skip ?_ | refine S_exit ?_ | refine S_ret ?_ | refine E_then_exit ?_ | refine E_then_ret ?_ | refine E_block_ret ?_ | refine E_block_exit ?_ | refine E_block_exit_other rfl ?_)
    rw [lay_whole (by rw [hrowl]; rfl)]
    cases hlk : l.getD j false with
    | true =>
      rw [hlk] at hl00 hsucc
      rw [if_pos rfl] at hsucc
      refine S_region ?_
      refine R_cons rfl (op_pure (p_move rfl) rfl ?_)
      refine R_cons rfl (op_pure (p_move rfl) rfl ?_)
      refine R_cons rfl (op_pure (p_indexSl (j := j) rfl rfl rfl slc_bool hjl) rfl ?_)
      refine R_cons rfl (op_pure (p_load_base rfl sc_bool hbal (by simp) hl00) rfl ?_)
      refine R_nil ?_
      repeat (first | refine S_scope ?_ | refine S_label ?_ | refine E_noGoto_normal ?_ | refine E_noGoto_ret ?_ | refine E_noGoto_exit ?_ | refine S_yes rfl (by first | with_reducible rfl | decide) ?_ | refine S_no rfl (by first | with_reducible rfl | decide) ?_ | refine S_seq ?_ | refine E_seq ?_ | refine S_block ?_ | refine E_block_normal ?_ | refine S_skip ?_ | refine S_exit ?_ | refine S_ret ?_ | refine E_then_exit ?_ | refine E_then_ret ?_ | refine E_block_ret ?_ | refine E_block_exit ?_ | refine E_block_exit_other rfl ?_)
      refine S_region ?_
      refine R_cons rfl (op_pure (p_move rfl) rfl ?_)
      refine R_cons rfl (op_pure (by first | exact p_fieldAddr0 rfl fd_disks_write_0 | exact p_fieldAddr rfl fd_disks_write_0) rfl ?_)
      refine R_cons rfl (op_pure (by first | exact p_fieldAddr0 rfl fd_disks_place_0 | exact p_fieldAddr rfl fd_disks_place_0) rfl ?_)
      refine R_cons rfl (op_pure (p_load rfl sc_int (by repeat (first | exact List.Mem.head _ | apply List.Mem.tail)) (by rfl)) rfl ?_)
      refine R_cons rfl (op_pure (by first | exact p_fieldAddr0 rfl fd_disks_write_1 | exact p_fieldAddr rfl fd_disks_write_1) rfl ?_)
      refine R_cons rfl (op_pure (p_loadPart rfl row_disks_sector (by repeat (first | exact List.Mem.head _ | apply List.Mem.tail)) (by rw [hrowl]; exact Nat.le_refl 65) (xs := bytesV y) (by exact List.take_of_length_le (by rw [List.drop_succ_cons, List.drop_zero, hxv]; exact Nat.le_refl 64))) rfl ?_)
      refine R_cons rfl (op_pure (p_indexR (j := i) rfl rfl rfl slr_disks_sector hxm.1) rfl ?_)
      refine R_cons rfl (op_storeRow rfl rfl (bytesV_one _) row_disks_sector hxv (by repeat (first | exact At.here | apply At.there)) (by rw [List.length_append, secV_length hkj.1, hxv, hkj.2, hsl]; omega) ?_)
      refine R_nil ?_
      repeat (first | refine S_scope ?_ | refine S_label ?_ | refine E_noGoto_normal ?_ | refine E_noGoto_ret ?_ | refine E_noGoto_exit ?_ | refine S_yes rfl (by first | with_reducible rfl | decide) ?_ | refine S_no rfl (by first | with_reducible rfl | decide) ?_ | refine S_seq ?_ | refine E_seq ?_ | refine S_block ?_ | refine E_block_normal ?_ | refine S_skip ?_ | refine S_exit ?_ | refine S_ret ?_ | refine E_then_exit ?_ | refine E_then_ret ?_ | refine E_block_ret ?_ | refine E_block_exit ?_ | refine E_block_exit_other rfl ?_)
      rw [Nat.zero_add, lay_sec hkj.1 (by rw [hkj.2, hsl]; exact hxm.1) hxm.2, ← hsucc]
      refine S_region ?_
      refine R_cons rfl (op_pure (p_bin rfl rfl (b_add hinc)) rfl ?_)
      refine R_cons rfl (op_pure (p_move rfl) rfl ?_)
      refine R_nil ?_
      repeat (first | refine S_scope ?_ | refine S_label ?_ | refine E_noGoto_normal ?_ | refine E_noGoto_ret ?_ | refine E_noGoto_exit ?_ | refine S_yes rfl (by first | with_reducible rfl | decide) ?_ | refine S_no rfl (by first | with_reducible rfl | decide) ?_ | refine S_seq ?_ | refine E_seq ?_ | refine S_block ?_ | refine E_block_normal ?_ | refine S_skip ?_ | refine S_exit ?_ | refine S_ret ?_ | refine E_then_exit ?_ | refine E_then_ret ?_ | refine E_block_ret ?_ | refine E_block_exit ?_ | refine E_block_exit_other rfl ?_)
      exact E_round (j + 1) (by omega) (by omega) (by repeat (first | exact Sub.nil | refine Sub.cons rfl ?_)) (by repeat (first | exact Fewer.nil | exact Fewer.refl _ | refine Fewer.pick rfl (by repeat (first | exact Del.here | apply Del.there)) ?_))
    | false =>
      rw [hlk] at hl00 hsucc
      rw [if_neg (by decide)] at hsucc
      refine S_region ?_
      refine R_cons rfl (op_pure (p_move rfl) rfl ?_)
      refine R_cons rfl (op_pure (p_move rfl) rfl ?_)
      refine R_cons rfl (op_pure (p_indexSl (j := j) rfl rfl rfl slc_bool hjl) rfl ?_)
      refine R_cons rfl (op_pure (p_load_base rfl sc_bool hbal (by simp) hl00) rfl ?_)
      refine R_nil ?_
      repeat (first | refine S_scope ?_ | refine S_label ?_ | refine E_noGoto_normal ?_ | refine E_noGoto_ret ?_ | refine E_noGoto_exit ?_ | refine S_yes rfl (by first | with_reducible rfl | decide) ?_ | refine S_no rfl (by first | with_reducible rfl | decide) ?_ | refine S_seq ?_ | refine E_seq ?_ | refine S_block ?_ | refine E_block_normal ?_ | refine S_skip ?_ | refine S_exit ?_ | refine S_ret ?_ | refine E_then_exit ?_ | refine E_then_ret ?_ | refine E_block_ret ?_ | refine E_block_exit ?_ | refine E_block_exit_other rfl ?_)
      refine S_region ?_
      refine R_cons rfl (op_pure (p_bin rfl rfl (b_add hinc)) rfl ?_)
      refine R_cons rfl (op_pure (p_move rfl) rfl ?_)
      refine R_nil ?_
      repeat (first | refine S_scope ?_ | refine S_label ?_ | refine E_noGoto_normal ?_ | refine E_noGoto_ret ?_ | refine E_noGoto_exit ?_ | refine S_yes rfl (by first | with_reducible rfl | decide) ?_ | refine S_no rfl (by first | with_reducible rfl | decide) ?_ | refine S_seq ?_ | refine E_seq ?_ | refine S_block ?_ | refine E_block_normal ?_ | refine S_skip ?_ | refine S_exit ?_ | refine S_ret ?_ | refine E_then_exit ?_ | refine E_then_ret ?_ | refine E_block_ret ?_ | refine E_block_exit ?_ | refine E_block_exit_other rfl ?_)
      rw [← hsucc]
      exact E_round (j + 1) (by omega) (by omega) (by repeat (first | exact Sub.nil | refine Sub.cons rfl ?_)) (by repeat (first | exact Fewer.nil | exact Fewer.refl _ | refine Fewer.pick rfl (by repeat (first | exact Del.here | apply Del.there)) ?_))
  have hjk : j = k := by omega
  subst hjk
  have g1 : decide ((j : Int) < (j : Int)) = false := decide_eq_false (by omega)
  rw [hkall]
  have hSr := hfin.1
  have hlr : (keptOf sure ws l).length = 3 := by rw [hfin.2, hsl]
  repeat (first | refine S_scope ?_ | refine S_label ?_ | refine E_noGoto_normal ?_ | refine E_noGoto_ret ?_ | refine E_noGoto_exit ?_ | refine S_yes rfl (by first | with_reducible rfl | decide) ?_ | refine S_no rfl (by first | with_reducible rfl | decide) ?_ | refine S_seq ?_ | refine E_seq ?_ | refine S_block ?_ | refine E_block_normal ?_ | refine S_skip ?_ | refine S_exit ?_ | refine S_ret ?_ | refine E_then_exit ?_ | refine E_then_ret ?_ | refine E_block_ret ?_ | refine E_block_exit ?_ | refine E_block_exit_other rfl ?_)
  refine S_region ?_
  refine R_cons rfl (op_pure (p_bin rfl rfl (b_lss g1)) rfl ?_)
  refine R_nil ?_
  repeat (first | refine S_scope ?_ | refine S_label ?_ | refine E_noGoto_normal ?_ | refine E_noGoto_ret ?_ | refine E_noGoto_exit ?_ | refine S_yes rfl (by first | with_reducible rfl | decide) ?_ | refine S_no rfl (by first | with_reducible rfl | decide) ?_ | refine S_seq ?_ | refine E_seq ?_ | refine S_block ?_ | refine E_block_normal ?_ | refine S_skip ?_ | refine S_exit ?_ | refine S_ret ?_ | refine E_then_exit ?_ | refine E_then_ret ?_ | refine E_block_ret ?_ | refine E_block_exit ?_ | refine E_block_exit_other rfl ?_)
  refine S_region ?_
  refine R_cons rfl (op_pure (p_move rfl) rfl ?_)
  refine R_cons rfl (op_callH (Hc := [(g, .cells (secV (keptOf sure ws l) ++ sp').toArray 115 (0, 0))]) (K := []) rfl rfl Try.func51 rfl (by kernel_rfl) rfl (List.Perm.refl _) (fun w' hm => dof_any g 3 cap (keptOf sure ws l) sp' hSr hlr (by omega) (by omega) w' (by exact hm)) (fun v H' hp => ?_))
  obtain ⟨bd2, bn2, cn2, spn2, rfl, _, rfl⟩ := hp
  refine R_cons rfl (op_pure (p_assign rfl) rfl ?_)
  refine R_cons rfl (op_pure (p_assign rfl) rfl ?_)
  refine R_nil ?_
  repeat (first | refine S_scope ?_ | refine S_label ?_ | refine E_noGoto_normal ?_ | refine E_noGoto_ret ?_ | refine E_noGoto_exit ?_ | refine S_yes rfl (by first | with_reducible rfl | decide) ?_ | refine S_no rfl (by first | with_reducible rfl | decide) ?_ | refine S_seq ?_ | refine E_seq ?_ | refine S_block ?_ | refine E_block_normal ?_ | refine S_skip ?_ | refine S_exit ?_ | refine S_ret ?_ | refine E_then_exit ?_ | refine E_then_ret ?_ | refine E_block_ret ?_ | refine E_block_exit ?_ | refine E_block_exit_other rfl ?_)
  refine E_ret2 rfl rfl rfl fun w' hm => ⟨⟨bd2, g, cap, bn2, cn2, sp', spn2, none⟩, rfl, ?_, rfl⟩
  unfold progH failS
  dsimp only [wbVal, wbHp]
  rw [nowOf_nil]
  exact hm
theorem dturn_arg (p : PS) (s : DS) (i at_ : Int) (by_ : UInt8) (h : i < 0 ∨ 3 ≤ i ∨ at_ < 0 ∨ 64 ≤ at_) (w : World)
    (hb : w.heap[p.bd]? = some (.cells (diskC (.slice (some ⟨p.bs, 0, none⟩) 3 p.cs) (.slice (some ⟨p.bn, 0, none⟩) 3 p.cn) (wbVal p.wb s.ws) s.left s.bl).toArray 113 (0, 0))) :
    Calls Try.prog 24 [.pointer (some ⟨p.bd, 0, none⟩), .int .i64 i, .int .i64 at_, .int .u8 (by_.toNat : Int)].toArray w fun e w' => e = .returned (.int .i64 1) ∧ Below w.heap.size w w' := by
  have hbl := (Array.getElem?_eq_some_iff.1 hb).1
  have c1 : w.cell? ⟨p.bd, 1, none⟩ = some (.slice (some ⟨p.bn, 0, none⟩) 3 p.cn) := by rw [cell_of_row w p.bd 1 _ _ _ hb]; rfl
  refine enter Try.func24 rfl Try.ntmps24 (by simp) ?_
  by_cases h1 : i < 0
  · have g1 : decide (i < 0) = true := decide_eq_true h1
    repeat (first | refine S_scope ?_ | refine S_label ?_ | refine E_noGoto_normal ?_ | refine E_noGoto_ret ?_ | refine E_noGoto_exit ?_ | refine S_yes rfl (by first | with_reducible rfl | decide) ?_ | refine S_no rfl (by first | with_reducible rfl | decide) ?_ | refine S_seq ?_ | refine E_seq ?_ | refine S_block ?_ | refine E_block_normal ?_ | refine S_skip ?_ | refine S_exit ?_ | refine S_ret ?_ | refine E_then_exit ?_ | refine E_then_ret ?_ | refine E_block_ret ?_ | refine E_block_exit ?_ | refine E_block_exit_other rfl ?_)
    refine S_region ?_
    refine R_cons rfl (op_pure (p_assign rfl) rfl ?_)
    refine R_nil ?_
    repeat (first | refine S_scope ?_ | refine S_label ?_ | refine E_noGoto_normal ?_ | refine E_noGoto_ret ?_ | refine E_noGoto_exit ?_ | refine S_yes rfl (by first | with_reducible rfl | decide) ?_ | refine S_no rfl (by first | with_reducible rfl | decide) ?_ | refine S_seq ?_ | refine E_seq ?_ | refine S_block ?_ | refine E_block_normal ?_ | refine S_skip ?_ | refine S_exit ?_ | refine S_ret ?_ | refine E_then_exit ?_ | refine E_then_ret ?_ | refine E_block_ret ?_ | refine E_block_exit ?_ | refine E_block_exit_other rfl ?_)
    refine S_region ?_
    refine R_cons rfl (op_pure (p_move rfl) rfl ?_)
    refine R_cons rfl (op_callV rfl rfl Try.func62 rfl (by kernel_rfl) rfl (Nat.le_refl _) (fun w' hm => dnone_any p.bd 3 p.cs _ _ _ s.left s.bl (by omega) w' (below_block hm.below hb)) ?_)
    refine R_cons rfl (op_pure (p_assign rfl) rfl ?_)
    refine R_nil ?_
    repeat (first | refine S_scope ?_ | refine S_label ?_ | refine E_noGoto_normal ?_ | refine E_noGoto_ret ?_ | refine E_noGoto_exit ?_ | refine S_yes rfl (by first | with_reducible rfl | decide) ?_ | refine S_no rfl (by first | with_reducible rfl | decide) ?_ | refine S_seq ?_ | refine E_seq ?_ | refine S_block ?_ | refine E_block_normal ?_ | refine S_skip ?_ | refine S_exit ?_ | refine S_ret ?_ | refine E_then_exit ?_ | refine E_then_ret ?_ | refine E_block_ret ?_ | refine E_block_exit ?_ | refine E_block_exit_other rfl ?_)
    refine S_region ?_
    refine R_cons rfl (op_pure (p_move rfl) rfl ?_)
    refine R_cons rfl (op_pure (p_bin rfl rfl (b_lss g1)) rfl ?_)
    refine R_cons rfl (op_pure (p_move rfl) rfl ?_)
    first | refine R_pass rfl rfl rfl rfl ?_ | refine R_pass_undef rfl rfl rfl ?_ | refine R_guard rfl rfl rfl (op_pure (p_move rfl) rfl ?_)
    first | refine R_pass rfl rfl rfl rfl ?_ | refine R_pass_undef rfl rfl rfl ?_ | refine R_guard rfl rfl rfl (op_pure (p_move rfl) rfl ?_)
    first | refine R_pass rfl rfl rfl rfl ?_ | refine R_pass_undef rfl rfl rfl ?_ | refine R_guard rfl rfl rfl (op_pure (p_nilCheck rfl) rfl ?_)
    first | refine R_pass rfl rfl rfl rfl ?_ | refine R_pass_undef rfl rfl rfl ?_ | refine R_guard rfl rfl rfl (op_pure (by first | exact p_fieldAddr0 rfl fd_disks_Disk_1 | exact p_fieldAddr rfl fd_disks_Disk_1) rfl ?_)
    first | refine R_pass rfl rfl rfl rfl ?_ | refine R_pass_undef rfl rfl rfl ?_ | refine R_guard rfl rfl rfl (op_pure (p_load_base rfl sc_disks_sector hbl (by simp) c1) rfl ?_)
    first | refine R_pass rfl rfl rfl rfl ?_ | refine R_pass_undef rfl rfl rfl ?_ | refine R_guard rfl rfl rfl (op_pure (p_lenR rfl slr_disks_sector) rfl ?_)
    first | refine R_pass rfl rfl rfl rfl ?_ | refine R_pass_undef rfl rfl rfl ?_ | refine R_guard rfl rfl rfl (op_pure (p_bin rfl rfl (b_geq (by first | assumption | exact decide_eq_true (by omega) | exact decide_eq_false (by omega) | rfl))) rfl ?_)
    refine R_cons rfl (op_pure (by first | exact p_pick_yes rfl rfl | exact p_pick_no rfl rfl | exact p_pick rfl rfl rfl) rfl ?_)
    refine R_cons rfl (op_pure (p_move rfl) rfl ?_)
    first | refine R_pass rfl rfl rfl rfl ?_ | refine R_pass_undef rfl rfl rfl ?_ | refine R_guard rfl rfl rfl (op_pure (p_move rfl) rfl ?_)
    first | refine R_pass rfl rfl rfl rfl ?_ | refine R_pass_undef rfl rfl rfl ?_ | refine R_guard rfl rfl rfl (op_pure (p_bin rfl rfl (b_lss (by first | assumption | exact decide_eq_true (by omega) | exact decide_eq_false (by omega) | rfl))) rfl ?_)
    refine R_cons rfl (op_pure (by first | exact p_pick_yes rfl rfl | exact p_pick_no rfl rfl | exact p_pick rfl rfl rfl) rfl ?_)
    refine R_cons rfl (op_pure (p_move rfl) rfl ?_)
    first | refine R_pass rfl rfl rfl rfl ?_ | refine R_pass_undef rfl rfl rfl ?_ | refine R_guard rfl rfl rfl (op_pure (p_move rfl) rfl ?_)
    first | refine R_pass rfl rfl rfl rfl ?_ | refine R_pass_undef rfl rfl rfl ?_ | refine R_guard rfl rfl rfl (op_pure (p_bin rfl rfl (b_geq (by first | assumption | exact decide_eq_true (by omega) | exact decide_eq_false (by omega) | rfl))) rfl ?_)
    refine R_cons rfl (op_pure (by first | exact p_pick_yes rfl rfl | exact p_pick_no rfl rfl | exact p_pick rfl rfl rfl) rfl ?_)
    refine R_cons rfl (op_pure (p_assign rfl) rfl ?_)
    refine R_nil ?_
    repeat (first | refine S_scope ?_ | refine S_label ?_ | refine E_noGoto_normal ?_ | refine E_noGoto_ret ?_ | refine E_noGoto_exit ?_ | refine S_yes rfl (by first | with_reducible rfl | decide) ?_ | refine S_no rfl (by first | with_reducible rfl | decide) ?_ | refine S_seq ?_ | refine E_seq ?_ | refine S_block ?_ | refine E_block_normal ?_ | refine S_skip ?_ | refine S_exit ?_ | refine S_ret ?_ | refine E_then_exit ?_ | refine E_then_ret ?_ | refine E_block_ret ?_ | refine E_block_exit ?_ | refine E_block_exit_other rfl ?_)
    refine S_region ?_
    refine R_cons rfl (op_pure (p_assign rfl) rfl ?_)
    refine R_nil ?_
    repeat (first | refine S_scope ?_ | refine S_label ?_ | refine E_noGoto_normal ?_ | refine E_noGoto_ret ?_ | refine E_noGoto_exit ?_ | refine S_yes rfl (by first | with_reducible rfl | decide) ?_ | refine S_no rfl (by first | with_reducible rfl | decide) ?_ | refine S_seq ?_ | refine E_seq ?_ | refine S_block ?_ | refine E_block_normal ?_ | refine S_skip ?_ | refine S_exit ?_ | refine S_ret ?_ | refine E_then_exit ?_ | refine E_then_ret ?_ | refine E_block_ret ?_ | refine E_block_exit ?_ | refine E_block_exit_other rfl ?_)
    exact E_ret1 rfl rfl fun w' hm => ⟨rfl, hm.below⟩
  have g1 : decide (i < 0) = false := decide_eq_false h1
  by_cases h2 : 3 ≤ i
  · have g2 : decide ((3 : Int) ≤ i) = true := decide_eq_true h2
    repeat (first | refine S_scope ?_ | refine S_label ?_ | refine E_noGoto_normal ?_ | refine E_noGoto_ret ?_ | refine E_noGoto_exit ?_ | refine S_yes rfl (by first | with_reducible rfl | decide) ?_ | refine S_no rfl (by first | with_reducible rfl | decide) ?_ | refine S_seq ?_ | refine E_seq ?_ | refine S_block ?_ | refine E_block_normal ?_ | refine S_skip ?_ | refine S_exit ?_ | refine S_ret ?_ | refine E_then_exit ?_ | refine E_then_ret ?_ | refine E_block_ret ?_ | refine E_block_exit ?_ | refine E_block_exit_other rfl ?_)
    refine S_region ?_
    refine R_cons rfl (op_pure (p_assign rfl) rfl ?_)
    refine R_nil ?_
    repeat (first | refine S_scope ?_ | refine S_label ?_ | refine E_noGoto_normal ?_ | refine E_noGoto_ret ?_ | refine E_noGoto_exit ?_ | refine S_yes rfl (by first | with_reducible rfl | decide) ?_ | refine S_no rfl (by first | with_reducible rfl | decide) ?_ | refine S_seq ?_ | refine E_seq ?_ | refine S_block ?_ | refine E_block_normal ?_ | refine S_skip ?_ | refine S_exit ?_ | refine S_ret ?_ | refine E_then_exit ?_ | refine E_then_ret ?_ | refine E_block_ret ?_ | refine E_block_exit ?_ | refine E_block_exit_other rfl ?_)
    refine S_region ?_
    refine R_cons rfl (op_pure (p_move rfl) rfl ?_)
    refine R_cons rfl (op_callV rfl rfl Try.func62 rfl (by kernel_rfl) rfl (Nat.le_refl _) (fun w' hm => dnone_any p.bd 3 p.cs _ _ _ s.left s.bl (by omega) w' (below_block hm.below hb)) ?_)
    refine R_cons rfl (op_pure (p_assign rfl) rfl ?_)
    refine R_nil ?_
    repeat (first | refine S_scope ?_ | refine S_label ?_ | refine E_noGoto_normal ?_ | refine E_noGoto_ret ?_ | refine E_noGoto_exit ?_ | refine S_yes rfl (by first | with_reducible rfl | decide) ?_ | refine S_no rfl (by first | with_reducible rfl | decide) ?_ | refine S_seq ?_ | refine E_seq ?_ | refine S_block ?_ | refine E_block_normal ?_ | refine S_skip ?_ | refine S_exit ?_ | refine S_ret ?_ | refine E_then_exit ?_ | refine E_then_ret ?_ | refine E_block_ret ?_ | refine E_block_exit ?_ | refine E_block_exit_other rfl ?_)
    refine S_region ?_
    refine R_cons rfl (op_pure (p_move rfl) rfl ?_)
    refine R_cons rfl (op_pure (p_bin rfl rfl (b_lss g1)) rfl ?_)
    refine R_cons rfl (op_pure (p_move rfl) rfl ?_)
    first | refine R_pass rfl rfl rfl rfl ?_ | refine R_pass_undef rfl rfl rfl ?_ | refine R_guard rfl rfl rfl (op_pure (p_move rfl) rfl ?_)
    first | refine R_pass rfl rfl rfl rfl ?_ | refine R_pass_undef rfl rfl rfl ?_ | refine R_guard rfl rfl rfl (op_pure (p_move rfl) rfl ?_)
    first | refine R_pass rfl rfl rfl rfl ?_ | refine R_pass_undef rfl rfl rfl ?_ | refine R_guard rfl rfl rfl (op_pure (p_nilCheck rfl) rfl ?_)
    first | refine R_pass rfl rfl rfl rfl ?_ | refine R_pass_undef rfl rfl rfl ?_ | refine R_guard rfl rfl rfl (op_pure (by first | exact p_fieldAddr0 rfl fd_disks_Disk_1 | exact p_fieldAddr rfl fd_disks_Disk_1) rfl ?_)
    first | refine R_pass rfl rfl rfl rfl ?_ | refine R_pass_undef rfl rfl rfl ?_ | refine R_guard rfl rfl rfl (op_pure (p_load_base rfl sc_disks_sector hbl (by simp) c1) rfl ?_)
    first | refine R_pass rfl rfl rfl rfl ?_ | refine R_pass_undef rfl rfl rfl ?_ | refine R_guard rfl rfl rfl (op_pure (p_lenR rfl slr_disks_sector) rfl ?_)
    first | refine R_pass rfl rfl rfl rfl ?_ | refine R_pass_undef rfl rfl rfl ?_ | refine R_guard rfl rfl rfl (op_pure (p_bin rfl rfl (b_geq g2)) rfl ?_)
    refine R_cons rfl (op_pure (by first | exact p_pick_yes rfl rfl | exact p_pick_no rfl rfl | exact p_pick rfl rfl rfl) rfl ?_)
    refine R_cons rfl (op_pure (p_move rfl) rfl ?_)
    first | refine R_pass rfl rfl rfl rfl ?_ | refine R_pass_undef rfl rfl rfl ?_ | refine R_guard rfl rfl rfl (op_pure (p_move rfl) rfl ?_)
    first | refine R_pass rfl rfl rfl rfl ?_ | refine R_pass_undef rfl rfl rfl ?_ | refine R_guard rfl rfl rfl (op_pure (p_bin rfl rfl (b_lss (by first | assumption | exact decide_eq_true (by omega) | exact decide_eq_false (by omega) | rfl))) rfl ?_)
    refine R_cons rfl (op_pure (by first | exact p_pick_yes rfl rfl | exact p_pick_no rfl rfl | exact p_pick rfl rfl rfl) rfl ?_)
    refine R_cons rfl (op_pure (p_move rfl) rfl ?_)
    first | refine R_pass rfl rfl rfl rfl ?_ | refine R_pass_undef rfl rfl rfl ?_ | refine R_guard rfl rfl rfl (op_pure (p_move rfl) rfl ?_)
    first | refine R_pass rfl rfl rfl rfl ?_ | refine R_pass_undef rfl rfl rfl ?_ | refine R_guard rfl rfl rfl (op_pure (p_bin rfl rfl (b_geq (by first | assumption | exact decide_eq_true (by omega) | exact decide_eq_false (by omega) | rfl))) rfl ?_)
    refine R_cons rfl (op_pure (by first | exact p_pick_yes rfl rfl | exact p_pick_no rfl rfl | exact p_pick rfl rfl rfl) rfl ?_)
    refine R_cons rfl (op_pure (p_assign rfl) rfl ?_)
    refine R_nil ?_
    repeat (first | refine S_scope ?_ | refine S_label ?_ | refine E_noGoto_normal ?_ | refine E_noGoto_ret ?_ | refine E_noGoto_exit ?_ | refine S_yes rfl (by first | with_reducible rfl | decide) ?_ | refine S_no rfl (by first | with_reducible rfl | decide) ?_ | refine S_seq ?_ | refine E_seq ?_ | refine S_block ?_ | refine E_block_normal ?_ | refine S_skip ?_ | refine S_exit ?_ | refine S_ret ?_ | refine E_then_exit ?_ | refine E_then_ret ?_ | refine E_block_ret ?_ | refine E_block_exit ?_ | refine E_block_exit_other rfl ?_)
    refine S_region ?_
    refine R_cons rfl (op_pure (p_assign rfl) rfl ?_)
    refine R_nil ?_
    repeat (first | refine S_scope ?_ | refine S_label ?_ | refine E_noGoto_normal ?_ | refine E_noGoto_ret ?_ | refine E_noGoto_exit ?_ | refine S_yes rfl (by first | with_reducible rfl | decide) ?_ | refine S_no rfl (by first | with_reducible rfl | decide) ?_ | refine S_seq ?_ | refine E_seq ?_ | refine S_block ?_ | refine E_block_normal ?_ | refine S_skip ?_ | refine S_exit ?_ | refine S_ret ?_ | refine E_then_exit ?_ | refine E_then_ret ?_ | refine E_block_ret ?_ | refine E_block_exit ?_ | refine E_block_exit_other rfl ?_)
    exact E_ret1 rfl rfl fun w' hm => ⟨rfl, hm.below⟩
  have g2 : decide ((3 : Int) ≤ i) = false := decide_eq_false h2
  by_cases h3 : at_ < 0
  · have g3 : decide (at_ < 0) = true := decide_eq_true h3
    repeat (first | refine S_scope ?_ | refine S_label ?_ | refine E_noGoto_normal ?_ | refine E_noGoto_ret ?_ | refine E_noGoto_exit ?_ | refine S_yes rfl (by first | with_reducible rfl | decide) ?_ | refine S_no rfl (by first | with_reducible rfl | decide) ?_ | refine S_seq ?_ | refine E_seq ?_ | refine S_block ?_ | refine E_block_normal ?_ | refine S_skip ?_ | refine S_exit ?_ | refine S_ret ?_ | refine E_then_exit ?_ | refine E_then_ret ?_ | refine E_block_ret ?_ | refine E_block_exit ?_ | refine E_block_exit_other rfl ?_)
    refine S_region ?_
    refine R_cons rfl (op_pure (p_assign rfl) rfl ?_)
    refine R_nil ?_
    repeat (first | refine S_scope ?_ | refine S_label ?_ | refine E_noGoto_normal ?_ | refine E_noGoto_ret ?_ | refine E_noGoto_exit ?_ | refine S_yes rfl (by first | with_reducible rfl | decide) ?_ | refine S_no rfl (by first | with_reducible rfl | decide) ?_ | refine S_seq ?_ | refine E_seq ?_ | refine S_block ?_ | refine E_block_normal ?_ | refine S_skip ?_ | refine S_exit ?_ | refine S_ret ?_ | refine E_then_exit ?_ | refine E_then_ret ?_ | refine E_block_ret ?_ | refine E_block_exit ?_ | refine E_block_exit_other rfl ?_)
    refine S_region ?_
    refine R_cons rfl (op_pure (p_move rfl) rfl ?_)
    refine R_cons rfl (op_callV rfl rfl Try.func62 rfl (by kernel_rfl) rfl (Nat.le_refl _) (fun w' hm => dnone_any p.bd 3 p.cs _ _ _ s.left s.bl (by omega) w' (below_block hm.below hb)) ?_)
    refine R_cons rfl (op_pure (p_assign rfl) rfl ?_)
    refine R_nil ?_
    repeat (first | refine S_scope ?_ | refine S_label ?_ | refine E_noGoto_normal ?_ | refine E_noGoto_ret ?_ | refine E_noGoto_exit ?_ | refine S_yes rfl (by first | with_reducible rfl | decide) ?_ | refine S_no rfl (by first | with_reducible rfl | decide) ?_ | refine S_seq ?_ | refine E_seq ?_ | refine S_block ?_ | refine E_block_normal ?_ | refine S_skip ?_ | refine S_exit ?_ | refine S_ret ?_ | refine E_then_exit ?_ | refine E_then_ret ?_ | refine E_block_ret ?_ | refine E_block_exit ?_ | refine E_block_exit_other rfl ?_)
    refine S_region ?_
    refine R_cons rfl (op_pure (p_move rfl) rfl ?_)
    refine R_cons rfl (op_pure (p_bin rfl rfl (b_lss g1)) rfl ?_)
    refine R_cons rfl (op_pure (p_move rfl) rfl ?_)
    first | refine R_pass rfl rfl rfl rfl ?_ | refine R_pass_undef rfl rfl rfl ?_ | refine R_guard rfl rfl rfl (op_pure (p_move rfl) rfl ?_)
    first | refine R_pass rfl rfl rfl rfl ?_ | refine R_pass_undef rfl rfl rfl ?_ | refine R_guard rfl rfl rfl (op_pure (p_move rfl) rfl ?_)
    first | refine R_pass rfl rfl rfl rfl ?_ | refine R_pass_undef rfl rfl rfl ?_ | refine R_guard rfl rfl rfl (op_pure (p_nilCheck rfl) rfl ?_)
    first | refine R_pass rfl rfl rfl rfl ?_ | refine R_pass_undef rfl rfl rfl ?_ | refine R_guard rfl rfl rfl (op_pure (by first | exact p_fieldAddr0 rfl fd_disks_Disk_1 | exact p_fieldAddr rfl fd_disks_Disk_1) rfl ?_)
    first | refine R_pass rfl rfl rfl rfl ?_ | refine R_pass_undef rfl rfl rfl ?_ | refine R_guard rfl rfl rfl (op_pure (p_load_base rfl sc_disks_sector hbl (by simp) c1) rfl ?_)
    first | refine R_pass rfl rfl rfl rfl ?_ | refine R_pass_undef rfl rfl rfl ?_ | refine R_guard rfl rfl rfl (op_pure (p_lenR rfl slr_disks_sector) rfl ?_)
    first | refine R_pass rfl rfl rfl rfl ?_ | refine R_pass_undef rfl rfl rfl ?_ | refine R_guard rfl rfl rfl (op_pure (p_bin rfl rfl (b_geq g2)) rfl ?_)
    refine R_cons rfl (op_pure (by first | exact p_pick_yes rfl rfl | exact p_pick_no rfl rfl | exact p_pick rfl rfl rfl) rfl ?_)
    refine R_cons rfl (op_pure (p_move rfl) rfl ?_)
    first | refine R_pass rfl rfl rfl rfl ?_ | refine R_pass_undef rfl rfl rfl ?_ | refine R_guard rfl rfl rfl (op_pure (p_move rfl) rfl ?_)
    first | refine R_pass rfl rfl rfl rfl ?_ | refine R_pass_undef rfl rfl rfl ?_ | refine R_guard rfl rfl rfl (op_pure (p_bin rfl rfl (b_lss g3)) rfl ?_)
    refine R_cons rfl (op_pure (by first | exact p_pick_yes rfl rfl | exact p_pick_no rfl rfl | exact p_pick rfl rfl rfl) rfl ?_)
    refine R_cons rfl (op_pure (p_move rfl) rfl ?_)
    first | refine R_pass rfl rfl rfl rfl ?_ | refine R_pass_undef rfl rfl rfl ?_ | refine R_guard rfl rfl rfl (op_pure (p_move rfl) rfl ?_)
    first | refine R_pass rfl rfl rfl rfl ?_ | refine R_pass_undef rfl rfl rfl ?_ | refine R_guard rfl rfl rfl (op_pure (p_bin rfl rfl (b_geq (by first | assumption | exact decide_eq_true (by omega) | exact decide_eq_false (by omega) | rfl))) rfl ?_)
    refine R_cons rfl (op_pure (by first | exact p_pick_yes rfl rfl | exact p_pick_no rfl rfl | exact p_pick rfl rfl rfl) rfl ?_)
    refine R_cons rfl (op_pure (p_assign rfl) rfl ?_)
    refine R_nil ?_
    repeat (first | refine S_scope ?_ | refine S_label ?_ | refine E_noGoto_normal ?_ | refine E_noGoto_ret ?_ | refine E_noGoto_exit ?_ | refine S_yes rfl (by first | with_reducible rfl | decide) ?_ | refine S_no rfl (by first | with_reducible rfl | decide) ?_ | refine S_seq ?_ | refine E_seq ?_ | refine S_block ?_ | refine E_block_normal ?_ | refine S_skip ?_ | refine S_exit ?_ | refine S_ret ?_ | refine E_then_exit ?_ | refine E_then_ret ?_ | refine E_block_ret ?_ | refine E_block_exit ?_ | refine E_block_exit_other rfl ?_)
    refine S_region ?_
    refine R_cons rfl (op_pure (p_assign rfl) rfl ?_)
    refine R_nil ?_
    repeat (first | refine S_scope ?_ | refine S_label ?_ | refine E_noGoto_normal ?_ | refine E_noGoto_ret ?_ | refine E_noGoto_exit ?_ | refine S_yes rfl (by first | with_reducible rfl | decide) ?_ | refine S_no rfl (by first | with_reducible rfl | decide) ?_ | refine S_seq ?_ | refine E_seq ?_ | refine S_block ?_ | refine E_block_normal ?_ | refine S_skip ?_ | refine S_exit ?_ | refine S_ret ?_ | refine E_then_exit ?_ | refine E_then_ret ?_ | refine E_block_ret ?_ | refine E_block_exit ?_ | refine E_block_exit_other rfl ?_)
    exact E_ret1 rfl rfl fun w' hm => ⟨rfl, hm.below⟩
  have g3 : decide (at_ < 0) = false := decide_eq_false h3
  have g4 : decide ((64 : Int) ≤ at_) = true := decide_eq_true (by omega)
  repeat (first | refine S_scope ?_ | refine S_label ?_ | refine E_noGoto_normal ?_ | refine E_noGoto_ret ?_ | refine E_noGoto_exit ?_ | refine S_yes rfl (by first | with_reducible rfl | decide) ?_ | refine S_no rfl (by first | with_reducible rfl | decide) ?_ | refine S_seq ?_ | refine E_seq ?_ | refine S_block ?_ | refine E_block_normal ?_ | refine S_skip ?_ | refine S_exit ?_ | refine S_ret ?_ | refine E_then_exit ?_ | refine E_then_ret ?_ | refine E_block_ret ?_ | refine E_block_exit ?_ | refine E_block_exit_other rfl ?_)
  refine S_region ?_
  refine R_cons rfl (op_pure (p_assign rfl) rfl ?_)
  refine R_nil ?_
  repeat (first | refine S_scope ?_ | refine S_label ?_ | refine E_noGoto_normal ?_ | refine E_noGoto_ret ?_ | refine E_noGoto_exit ?_ | refine S_yes rfl (by first | with_reducible rfl | decide) ?_ | refine S_no rfl (by first | with_reducible rfl | decide) ?_ | refine S_seq ?_ | refine E_seq ?_ | refine S_block ?_ | refine E_block_normal ?_ | refine S_skip ?_ | refine S_exit ?_ | refine S_ret ?_ | refine E_then_exit ?_ | refine E_then_ret ?_ | refine E_block_ret ?_ | refine E_block_exit ?_ | refine E_block_exit_other rfl ?_)
  refine S_region ?_
  refine R_cons rfl (op_pure (p_move rfl) rfl ?_)
  refine R_cons rfl (op_callV rfl rfl Try.func62 rfl (by kernel_rfl) rfl (Nat.le_refl _) (fun w' hm => dnone_any p.bd 3 p.cs _ _ _ s.left s.bl (by omega) w' (below_block hm.below hb)) ?_)
  refine R_cons rfl (op_pure (p_assign rfl) rfl ?_)
  refine R_nil ?_
  repeat (first | refine S_scope ?_ | refine S_label ?_ | refine E_noGoto_normal ?_ | refine E_noGoto_ret ?_ | refine E_noGoto_exit ?_ | refine S_yes rfl (by first | with_reducible rfl | decide) ?_ | refine S_no rfl (by first | with_reducible rfl | decide) ?_ | refine S_seq ?_ | refine E_seq ?_ | refine S_block ?_ | refine E_block_normal ?_ | refine S_skip ?_ | refine S_exit ?_ | refine S_ret ?_ | refine E_then_exit ?_ | refine E_then_ret ?_ | refine E_block_ret ?_ | refine E_block_exit ?_ | refine E_block_exit_other rfl ?_)
  refine S_region ?_
  refine R_cons rfl (op_pure (p_move rfl) rfl ?_)
  refine R_cons rfl (op_pure (p_bin rfl rfl (b_lss g1)) rfl ?_)
  refine R_cons rfl (op_pure (p_move rfl) rfl ?_)
  first | refine R_pass rfl rfl rfl rfl ?_ | refine R_pass_undef rfl rfl rfl ?_ | refine R_guard rfl rfl rfl (op_pure (p_move rfl) rfl ?_)
  first | refine R_pass rfl rfl rfl rfl ?_ | refine R_pass_undef rfl rfl rfl ?_ | refine R_guard rfl rfl rfl (op_pure (p_move rfl) rfl ?_)
  first | refine R_pass rfl rfl rfl rfl ?_ | refine R_pass_undef rfl rfl rfl ?_ | refine R_guard rfl rfl rfl (op_pure (p_nilCheck rfl) rfl ?_)
  first | refine R_pass rfl rfl rfl rfl ?_ | refine R_pass_undef rfl rfl rfl ?_ | refine R_guard rfl rfl rfl (op_pure (by first | exact p_fieldAddr0 rfl fd_disks_Disk_1 | exact p_fieldAddr rfl fd_disks_Disk_1) rfl ?_)
  first | refine R_pass rfl rfl rfl rfl ?_ | refine R_pass_undef rfl rfl rfl ?_ | refine R_guard rfl rfl rfl (op_pure (p_load_base rfl sc_disks_sector hbl (by simp) c1) rfl ?_)
  first | refine R_pass rfl rfl rfl rfl ?_ | refine R_pass_undef rfl rfl rfl ?_ | refine R_guard rfl rfl rfl (op_pure (p_lenR rfl slr_disks_sector) rfl ?_)
  first | refine R_pass rfl rfl rfl rfl ?_ | refine R_pass_undef rfl rfl rfl ?_ | refine R_guard rfl rfl rfl (op_pure (p_bin rfl rfl (b_geq g2)) rfl ?_)
  refine R_cons rfl (op_pure (by first | exact p_pick_yes rfl rfl | exact p_pick_no rfl rfl | exact p_pick rfl rfl rfl) rfl ?_)
  refine R_cons rfl (op_pure (p_move rfl) rfl ?_)
  first | refine R_pass rfl rfl rfl rfl ?_ | refine R_pass_undef rfl rfl rfl ?_ | refine R_guard rfl rfl rfl (op_pure (p_move rfl) rfl ?_)
  first | refine R_pass rfl rfl rfl rfl ?_ | refine R_pass_undef rfl rfl rfl ?_ | refine R_guard rfl rfl rfl (op_pure (p_bin rfl rfl (b_lss g3)) rfl ?_)
  refine R_cons rfl (op_pure (by first | exact p_pick_yes rfl rfl | exact p_pick_no rfl rfl | exact p_pick rfl rfl rfl) rfl ?_)
  refine R_cons rfl (op_pure (p_move rfl) rfl ?_)
  first | refine R_pass rfl rfl rfl rfl ?_ | refine R_pass_undef rfl rfl rfl ?_ | refine R_guard rfl rfl rfl (op_pure (p_move rfl) rfl ?_)
  first | refine R_pass rfl rfl rfl rfl ?_ | refine R_pass_undef rfl rfl rfl ?_ | refine R_guard rfl rfl rfl (op_pure (p_bin rfl rfl (b_geq g4)) rfl ?_)
  refine R_cons rfl (op_pure (by first | exact p_pick_yes rfl rfl | exact p_pick_no rfl rfl | exact p_pick rfl rfl rfl) rfl ?_)
  refine R_cons rfl (op_pure (p_assign rfl) rfl ?_)
  refine R_nil ?_
  repeat (first | refine S_scope ?_ | refine S_label ?_ | refine E_noGoto_normal ?_ | refine E_noGoto_ret ?_ | refine E_noGoto_exit ?_ | refine S_yes rfl (by first | with_reducible rfl | decide) ?_ | refine S_no rfl (by first | with_reducible rfl | decide) ?_ | refine S_seq ?_ | refine E_seq ?_ | refine S_block ?_ | refine E_block_normal ?_ | refine S_skip ?_ | refine S_exit ?_ | refine S_ret ?_ | refine E_then_exit ?_ | refine E_then_ret ?_ | refine E_block_ret ?_ | refine E_block_exit ?_ | refine E_block_exit_other rfl ?_)
  refine S_region ?_
  refine R_cons rfl (op_pure (p_assign rfl) rfl ?_)
  refine R_nil ?_
  repeat (first | refine S_scope ?_ | refine S_label ?_ | refine E_noGoto_normal ?_ | refine E_noGoto_ret ?_ | refine E_noGoto_exit ?_ | refine S_yes rfl (by first | with_reducible rfl | decide) ?_ | refine S_no rfl (by first | with_reducible rfl | decide) ?_ | refine S_seq ?_ | refine E_seq ?_ | refine S_block ?_ | refine E_block_normal ?_ | refine S_skip ?_ | refine S_exit ?_ | refine S_ret ?_ | refine E_then_exit ?_ | refine E_then_ret ?_ | refine E_block_ret ?_ | refine E_block_exit ?_ | refine E_block_exit_other rfl ?_)
  exact E_ret1 rfl rfl fun w' hm => ⟨rfl, hm.below⟩
theorem dturn_blown (p : PS) (s : DS) (i at_ : Nat) (hi : i < 3) (hat : at_ < 64) (by_ : UInt8) (hbl0 : s.bl = true) (w : World)
    (hb : w.heap[p.bd]? = some (.cells (diskC (.slice (some ⟨p.bs, 0, none⟩) 3 p.cs) (.slice (some ⟨p.bn, 0, none⟩) 3 p.cn) (wbVal p.wb s.ws) s.left s.bl).toArray 113 (0, 0))) :
    Calls Try.prog 24 [.pointer (some ⟨p.bd, 0, none⟩), .int .i64 (i : Int), .int .i64 (at_ : Int), .int .u8 (by_.toNat : Int)].toArray w fun e w' => e = .returned (.int .i64 9) ∧ Below w.heap.size w w' := by
  have hbl := (Array.getElem?_eq_some_iff.1 hb).1
  have c1 : w.cell? ⟨p.bd, 1, none⟩ = some (.slice (some ⟨p.bn, 0, none⟩) 3 p.cn) := by rw [cell_of_row w p.bd 1 _ _ _ hb]; rfl
  have c4 : w.cell? ⟨p.bd, 4, none⟩ = some (.bool true) := by rw [cell_of_row w p.bd 4 _ _ _ hb, ← hbl0]; rfl
  have g1 : decide ((i : Int) < 0) = false := decide_eq_false (by omega)
  have g2 : decide ((3 : Int) ≤ (i : Int)) = false := decide_eq_false (by omega)
  have g3 : decide ((at_ : Int) < 0) = false := decide_eq_false (by omega)
  have g4 : decide ((64 : Int) ≤ (at_ : Int)) = false := decide_eq_false (by omega)
  refine enter Try.func24 rfl Try.ntmps24 (by simp) ?_
  repeat (first | refine S_scope ?_ | refine S_label ?_ | refine E_noGoto_normal ?_ | refine E_noGoto_ret ?_ | refine E_noGoto_exit ?_ | refine S_yes rfl (by first | with_reducible rfl | decide) ?_ | refine S_no rfl (by first | with_reducible rfl | decide) ?_ | refine S_seq ?_ | refine E_seq ?_ | refine S_block ?_ | refine E_block_normal ?_ | refine S_skip ?_ | refine S_exit ?_ | refine S_ret ?_ | refine E_then_exit ?_ | refine E_then_ret ?_ | refine E_block_ret ?_ | refine E_block_exit ?_ | refine E_block_exit_other rfl ?_)
  refine S_region ?_
  refine R_cons rfl (op_pure (p_assign rfl) rfl ?_)
  refine R_nil ?_
  repeat (first | refine S_scope ?_ | refine S_label ?_ | refine E_noGoto_normal ?_ | refine E_noGoto_ret ?_ | refine E_noGoto_exit ?_ | refine S_yes rfl (by first | with_reducible rfl | decide) ?_ | refine S_no rfl (by first | with_reducible rfl | decide) ?_ | refine S_seq ?_ | refine E_seq ?_ | refine S_block ?_ | refine E_block_normal ?_ | refine S_skip ?_ | refine S_exit ?_ | refine S_ret ?_ | refine E_then_exit ?_ | refine E_then_ret ?_ | refine E_block_ret ?_ | refine E_block_exit ?_ | refine E_block_exit_other rfl ?_)
  refine S_region ?_
  refine R_cons rfl (op_pure (p_move rfl) rfl ?_)
  refine R_cons rfl (op_callV rfl rfl Try.func62 rfl (by kernel_rfl) rfl (Nat.le_refl _) (fun w' hm => dnone_any p.bd 3 p.cs _ _ _ s.left s.bl (by omega) w' (below_block hm.below hb)) ?_)
  refine R_cons rfl (op_pure (p_assign rfl) rfl ?_)
  refine R_nil ?_
  repeat (first | refine S_scope ?_ | refine S_label ?_ | refine E_noGoto_normal ?_ | refine E_noGoto_ret ?_ | refine E_noGoto_exit ?_ | refine S_yes rfl (by first | with_reducible rfl | decide) ?_ | refine S_no rfl (by first | with_reducible rfl | decide) ?_ | refine S_seq ?_ | refine E_seq ?_ | refine S_block ?_ | refine E_block_normal ?_ | refine S_skip ?_ | refine S_exit ?_ | refine S_ret ?_ | refine E_then_exit ?_ | refine E_then_ret ?_ | refine E_block_ret ?_ | refine E_block_exit ?_ | refine E_block_exit_other rfl ?_)
  refine S_region ?_
  refine R_cons rfl (op_pure (p_move rfl) rfl ?_)
  refine R_cons rfl (op_pure (p_bin rfl rfl (b_lss g1)) rfl ?_)
  refine R_cons rfl (op_pure (p_move rfl) rfl ?_)
  first | refine R_pass rfl rfl rfl rfl ?_ | refine R_pass_undef rfl rfl rfl ?_ | refine R_guard rfl rfl rfl (op_pure (p_move rfl) rfl ?_)
  first | refine R_pass rfl rfl rfl rfl ?_ | refine R_pass_undef rfl rfl rfl ?_ | refine R_guard rfl rfl rfl (op_pure (p_move rfl) rfl ?_)
  first | refine R_pass rfl rfl rfl rfl ?_ | refine R_pass_undef rfl rfl rfl ?_ | refine R_guard rfl rfl rfl (op_pure (p_nilCheck rfl) rfl ?_)
  first | refine R_pass rfl rfl rfl rfl ?_ | refine R_pass_undef rfl rfl rfl ?_ | refine R_guard rfl rfl rfl (op_pure (by first | exact p_fieldAddr0 rfl fd_disks_Disk_1 | exact p_fieldAddr rfl fd_disks_Disk_1) rfl ?_)
  first | refine R_pass rfl rfl rfl rfl ?_ | refine R_pass_undef rfl rfl rfl ?_ | refine R_guard rfl rfl rfl (op_pure (p_load_base rfl sc_disks_sector hbl (by simp) c1) rfl ?_)
  first | refine R_pass rfl rfl rfl rfl ?_ | refine R_pass_undef rfl rfl rfl ?_ | refine R_guard rfl rfl rfl (op_pure (p_lenR rfl slr_disks_sector) rfl ?_)
  first | refine R_pass rfl rfl rfl rfl ?_ | refine R_pass_undef rfl rfl rfl ?_ | refine R_guard rfl rfl rfl (op_pure (p_bin rfl rfl (b_geq g2)) rfl ?_)
  refine R_cons rfl (op_pure (by first | exact p_pick_yes rfl rfl | exact p_pick_no rfl rfl | exact p_pick rfl rfl rfl) rfl ?_)
  refine R_cons rfl (op_pure (p_move rfl) rfl ?_)
  first | refine R_pass rfl rfl rfl rfl ?_ | refine R_pass_undef rfl rfl rfl ?_ | refine R_guard rfl rfl rfl (op_pure (p_move rfl) rfl ?_)
  first | refine R_pass rfl rfl rfl rfl ?_ | refine R_pass_undef rfl rfl rfl ?_ | refine R_guard rfl rfl rfl (op_pure (p_bin rfl rfl (b_lss g3)) rfl ?_)
  refine R_cons rfl (op_pure (by first | exact p_pick_yes rfl rfl | exact p_pick_no rfl rfl | exact p_pick rfl rfl rfl) rfl ?_)
  refine R_cons rfl (op_pure (p_move rfl) rfl ?_)
  first | refine R_pass rfl rfl rfl rfl ?_ | refine R_pass_undef rfl rfl rfl ?_ | refine R_guard rfl rfl rfl (op_pure (p_move rfl) rfl ?_)
  first | refine R_pass rfl rfl rfl rfl ?_ | refine R_pass_undef rfl rfl rfl ?_ | refine R_guard rfl rfl rfl (op_pure (p_bin rfl rfl (b_geq g4)) rfl ?_)
  refine R_cons rfl (op_pure (by first | exact p_pick_yes rfl rfl | exact p_pick_no rfl rfl | exact p_pick rfl rfl rfl) rfl ?_)
  refine R_cons rfl (op_pure (p_assign rfl) rfl ?_)
  refine R_nil ?_
  repeat (first | refine S_scope ?_ | refine S_label ?_ | refine E_noGoto_normal ?_ | refine E_noGoto_ret ?_ | refine E_noGoto_exit ?_ | refine S_yes rfl (by first | with_reducible rfl | decide) ?_ | refine S_no rfl (by first | with_reducible rfl | decide) ?_ | refine S_seq ?_ | refine E_seq ?_ | refine S_block ?_ | refine E_block_normal ?_ | refine S_skip ?_ | refine S_exit ?_ | refine S_ret ?_ | refine E_then_exit ?_ | refine E_then_ret ?_ | refine E_block_ret ?_ | refine E_block_exit ?_ | refine E_block_exit_other rfl ?_)
  refine S_region ?_
  refine R_cons rfl (op_pure (p_move rfl) rfl ?_)
  refine R_cons rfl (op_pure (p_nilCheck rfl) rfl ?_)
  refine R_cons rfl (op_pure (by first | exact p_fieldAddr0 rfl fd_disks_Disk_4 | exact p_fieldAddr rfl fd_disks_Disk_4) rfl ?_)
  refine R_cons rfl (op_pure (p_load_base rfl sc_bool hbl (by simp) c4) rfl ?_)
  refine R_cons rfl (op_pure (p_assign rfl) rfl ?_)
  refine R_nil ?_
  repeat (first | refine S_scope ?_ | refine S_label ?_ | refine E_noGoto_normal ?_ | refine E_noGoto_ret ?_ | refine E_noGoto_exit ?_ | refine S_yes rfl (by first | with_reducible rfl | decide) ?_ | refine S_no rfl (by first | with_reducible rfl | decide) ?_ | refine S_seq ?_ | refine E_seq ?_ | refine S_block ?_ | refine E_block_normal ?_ | refine S_skip ?_ | refine S_exit ?_ | refine S_ret ?_ | refine E_then_exit ?_ | refine E_then_ret ?_ | refine E_block_ret ?_ | refine E_block_exit ?_ | refine E_block_exit_other rfl ?_)
  refine S_region ?_
  refine R_cons rfl (op_pure (p_assign rfl) rfl ?_)
  refine R_nil ?_
  repeat (first | refine S_scope ?_ | refine S_label ?_ | refine E_noGoto_normal ?_ | refine E_noGoto_ret ?_ | refine E_noGoto_exit ?_ | refine S_yes rfl (by first | with_reducible rfl | decide) ?_ | refine S_no rfl (by first | with_reducible rfl | decide) ?_ | refine S_seq ?_ | refine E_seq ?_ | refine S_block ?_ | refine E_block_normal ?_ | refine S_skip ?_ | refine S_exit ?_ | refine S_ret ?_ | refine E_then_exit ?_ | refine E_then_ret ?_ | refine E_block_ret ?_ | refine E_block_exit ?_ | refine E_block_exit_other rfl ?_)
  exact E_ret1 rfl rfl fun w' hm => ⟨rfl, hm.below⟩
theorem dturnG (m : Nat) (p : PS) (s : DS) (hok : s.ok m) (i at_ : Nat) (hi : i < 3) (hat : at_ < 64) (by_ : UInt8) (hbl0 : s.bl = false) (w : World) (hm : Mem w.heap.size ⟨w, (progH p s).map (·.1)⟩ (progH p s) w) :
    Calls Try.prog 24 [.pointer (some ⟨p.bd, 0, none⟩), .int .i64 (i : Int), .int .i64 (at_ : Int), .int .u8 (by_.toNat : Int)].toArray w fun e w' => ∃ _ : Unit, e = .returned (.int .i64 0) ∧ Mem w.heap.size ⟨w, (progH p s).map (·.1)⟩ (progH ⟨p.bd, p.bs, p.cs, p.bn, p.cn, p.sps, p.spn, none⟩ (turnS s i at_ by_)) w' ∧ True := by
  obtain ⟨bd, bs, cs, bn, cn, sps, spn, wb⟩ := p
  obtain ⟨sure, ws, left, bl⟩ := s
  obtain ⟨hsl, hS, hW, ⟨hlo, hhi⟩, hwl⟩ := hok
  have hbl1 : bl = false := hbl0
  subst hbl1
  have hN := nowOf_secs ws hW sure hS
  have hnl : (nowOf sure ws).length = 3 := by rw [nowOf_length]; exact hsl
  have hx : (nowOf sure ws)[i]? = some ((nowOf sure ws).getD i []) := by rw [List.getD_eq_getElem?_getD, List.getElem?_eq_getElem (by omega)]; rfl
  have hm2 : Mem w.heap.size ⟨w, (progH ⟨bd, bs, cs, bn, cn, sps, spn, wb⟩ ⟨sure, ws, left, false⟩).map (·.1)⟩ ([(bd, .cells (diskC (.slice (some ⟨bs, 0, none⟩) 3 cs) (.slice (some ⟨bn, 0, none⟩) 3 cn) (wbVal wb ws) left false).toArray 113 (0, 0)), (bs, .cells (secV sure ++ sps).toArray 115 (0, 0)), (bn, .cells (secV (nowOf sure ws) ++ spn).toArray 115 (0, 0))] ++ wbHp wb ws) w := hm
  refine (dturn_any bd bs bn 3 cs cn (wbVal wb ws) left sure (nowOf sure ws) sps spn hS hN hsl hnl i hi _ hx at_ hat by_ w (hm2.fewer (Fewer.inl _ _)).here).mono ?_
  rintro e w' ⟨_, he, hm3, _⟩
  have hm4 := (hm2.frame hm3).fewer (Fewer.inl _ _)
  unfold turnS progH
  dsimp only
  rw [nowOf_nil]
  exact ⟨(), he, hm4, trivial⟩
theorem turn_ok {m : Nat} {s : DS} (h : s.ok m) (i p : Nat) (hi : i < 3) (b : UInt8) : (turnS s i p b).ok m := by
  obtain ⟨h1, h2, h3, h4, h5⟩ := h
  have hN := nowOf_secs s.ws h3 s.sure h2
  have hnl : (nowOf s.sure s.ws).length = 3 := by rw [nowOf_length]; exact h1
  refine ⟨by show ((nowOf s.sure s.ws).set i _).length = 3; rw [List.length_set]; exact hnl, hN.set i ?_, (fun v hv => by cases hv), h4, Nat.zero_le _⟩
  rw [List.length_set]
  exact hN _ (by rw [List.getD_eq_getElem?_getD, List.getElem?_eq_getElem (by omega)]; exact List.getElem_mem _)
theorem fail_ok {m : Nat} {s : DS} (h : s.ok m) (l : List Bool) : (failS s l).ok m := by
  obtain ⟨h1, h2, h3, h4, h5⟩ := h
  have hk := keptOf_ok s.sure s.ws l h2 h3
  exact ⟨by show (keptOf s.sure s.ws l).length = 3; rw [hk.2]; exact h1, hk.1, (fun v hv => by cases hv), ⟨by show (-9223372036854775808 : Int) ≤ -1; omega, by show (-1 : Int) ≤ 9223372036854775807; omega⟩, Nat.zero_le _⟩
theorem dfuseG (p : PS) (s : DS) (n : Int) (w : World) (hm : Mem w.heap.size ⟨w, (progH p s).map (·.1)⟩ (progH p s) w) :
    Calls Try.prog 25 [.pointer (some ⟨p.bd, 0, none⟩), .int .i64 n].toArray w fun e w' => ∃ _ : Unit, e = .returned (.int .i64 0) ∧ Mem w.heap.size ⟨w, (progH p s).map (·.1)⟩ (progH p ⟨s.sure, s.ws, n, false⟩) w' ∧ True := by
  obtain ⟨bd, bs, cs, bn, cn, sps, spn, wb⟩ := p
  obtain ⟨sure, ws, left, bl⟩ := s
  have hm2 : Mem w.heap.size ⟨w, (progH ⟨bd, bs, cs, bn, cn, sps, spn, wb⟩ ⟨sure, ws, left, bl⟩).map (·.1)⟩ ([(bd, .cells (diskC (.slice (some ⟨bs, 0, none⟩) 3 cs) (.slice (some ⟨bn, 0, none⟩) 3 cn) (wbVal wb ws) left bl).toArray 113 (0, 0))] ++ ((bs, .cells (secV sure ++ sps).toArray 115 (0, 0)) :: (bn, .cells (secV (nowOf sure ws) ++ spn).toArray 115 (0, 0)) :: wbHp wb ws)) w := hm
  refine (dfuse_any bd 3 cs _ _ _ left bl (by omega) n w (hm2.fewer (Fewer.inl _ _)).here).mono ?_
  rintro e w' ⟨_, he, hm3, _⟩
  exact ⟨(), he, hm2.frame hm3, trivial⟩
theorem copenArgI (p : PS) (s : DS) (i : Int) (h : i < 0 ∨ 3 ≤ i) (w : World)
    (hb : w.heap[p.bd]? = some (.cells (diskC (.slice (some ⟨p.bs, 0, none⟩) 3 p.cs) (.slice (some ⟨p.bn, 0, none⟩) 3 p.cn) (wbVal p.wb s.ws) s.left s.bl).toArray 113 (0, 0))) :
    Calls Try.prog 20 [.pointer (some ⟨p.bd, 0, none⟩), .int .i64 i].toArray w fun e w' => e = .returned (.tuple [.pointer none, .int .i64 1].toArray) ∧ Below w.heap.size w w' := by
  have g1 : (((3 : Nat) : Int) == 0) = false := rfl
  refine enter Try.func20 rfl Try.ntmps20 (by simp) ?_
  by_cases h1 : i < 0
  · have g2 : decide (i < 0) = true := decide_eq_true h1
    repeat (first | refine S_scope ?_ | refine S_label ?_ | refine E_noGoto_normal ?_ | refine E_noGoto_ret ?_ | refine E_noGoto_exit ?_ | refine S_yes rfl (by first | with_reducible rfl | decide) ?_ | refine S_no rfl (by first | with_reducible rfl | decide) ?_ | refine S_seq ?_ | refine E_seq ?_ | refine S_block ?_ | refine E_block_normal ?_ | refine S_skip ?_ | refine S_exit ?_ | refine S_ret ?_ | refine E_then_exit ?_ | refine E_then_ret ?_ | refine E_block_ret ?_ | refine E_block_exit ?_ | refine E_block_exit_other rfl ?_)
    refine S_region ?_
    refine R_cons rfl (op_pure (p_assign rfl) rfl ?_)
    refine R_cons rfl (op_pure (p_assign rfl) rfl ?_)
    refine R_nil ?_
    repeat (first | refine S_scope ?_ | refine S_label ?_ | refine E_noGoto_normal ?_ | refine E_noGoto_ret ?_ | refine E_noGoto_exit ?_ | refine S_yes rfl (by first | with_reducible rfl | decide) ?_ | refine S_no rfl (by first | with_reducible rfl | decide) ?_ | refine S_seq ?_ | refine E_seq ?_ | refine S_block ?_ | refine E_block_normal ?_ | refine S_skip ?_ | refine S_exit ?_ | refine S_ret ?_ | refine E_then_exit ?_ | refine E_then_ret ?_ | refine E_block_ret ?_ | refine E_block_exit ?_ | refine E_block_exit_other rfl ?_)
    refine S_region ?_
    refine R_cons rfl (op_pure (p_move rfl) rfl ?_)
    refine R_cons rfl (op_callV rfl rfl Try.func52 rfl (by kernel_rfl) rfl (Nat.le_refl _) (fun w' hm => dlen_any p.bd 3 p.cs _ _ _ s.left s.bl (by omega) w' (below_block hm.below hb)) ?_)
    refine R_cons rfl (op_pure (p_bin rfl rfl (b_eql g1)) rfl ?_)
    refine R_cons rfl (op_pure (p_assign rfl) rfl ?_)
    refine R_nil ?_
    repeat (first | refine S_scope ?_ | refine S_label ?_ | refine E_noGoto_normal ?_ | refine E_noGoto_ret ?_ | refine E_noGoto_exit ?_ | refine S_yes rfl (by first | with_reducible rfl | decide) ?_ | refine S_no rfl (by first | with_reducible rfl | decide) ?_ | refine S_seq ?_ | refine E_seq ?_ | refine S_block ?_ | refine E_block_normal ?_ | refine S_skip ?_ | refine S_exit ?_ | refine S_ret ?_ | refine E_then_exit ?_ | refine E_then_ret ?_ | refine E_block_ret ?_ | refine E_block_exit ?_ | refine E_block_exit_other rfl ?_)
    refine S_region ?_
    refine R_cons rfl (op_pure (p_move rfl) rfl ?_)
    refine R_cons rfl (op_pure (p_bin rfl rfl (b_lss g2)) rfl ?_)
    refine R_cons rfl (op_pure (p_move rfl) rfl ?_)
    first | refine R_pass rfl rfl rfl rfl ?_ | refine R_pass_undef rfl rfl rfl ?_ | refine R_guard rfl rfl rfl (op_pure (p_move rfl) rfl ?_)
    first | refine R_pass rfl rfl rfl rfl ?_ | refine R_pass_undef rfl rfl rfl ?_ | refine R_guard rfl rfl rfl (op_pure (p_move rfl) rfl ?_)
    first | refine R_pass rfl rfl rfl rfl ?_ | refine R_pass_undef rfl rfl rfl ?_ | refine R_guard rfl rfl rfl (op_callV rfl rfl Try.func52 rfl (by kernel_rfl) rfl (Nat.le_refl _) (fun w' hm => dlen_any p.bd 3 p.cs _ _ _ s.left s.bl (by omega) w' (below_block hm.below hb)) ?_)
    first | refine R_pass rfl rfl rfl rfl ?_ | refine R_pass_undef rfl rfl rfl ?_ | refine R_guard rfl rfl rfl (op_pure (p_bin rfl rfl (b_geq (by first | assumption | exact decide_eq_true (by omega) | exact decide_eq_false (by omega) | rfl))) rfl ?_)
    refine R_cons rfl (op_pure (by first | exact p_pick_yes rfl rfl | exact p_pick_no rfl rfl | exact p_pick rfl rfl rfl) rfl ?_)
    refine R_cons rfl (op_pure (p_assign rfl) rfl ?_)
    refine R_nil ?_
    repeat (first | refine S_scope ?_ | refine S_label ?_ | refine E_noGoto_normal ?_ | refine E_noGoto_ret ?_ | refine E_noGoto_exit ?_ | refine S_yes rfl (by first | with_reducible rfl | decide) ?_ | refine S_no rfl (by first | with_reducible rfl | decide) ?_ | refine S_seq ?_ | refine E_seq ?_ | refine S_block ?_ | refine E_block_normal ?_ | refine S_skip ?_ | refine S_exit ?_ | refine S_ret ?_ | refine E_then_exit ?_ | refine E_then_ret ?_ | refine E_block_ret ?_ | refine E_block_exit ?_ | refine E_block_exit_other rfl ?_)
    refine S_region ?_
    refine R_cons rfl (op_pure (p_assign rfl) rfl ?_)
    refine R_cons rfl (op_pure (p_assign rfl) rfl ?_)
    refine R_nil ?_
    repeat (first | refine S_scope ?_ | refine S_label ?_ | refine E_noGoto_normal ?_ | refine E_noGoto_ret ?_ | refine E_noGoto_exit ?_ | refine S_yes rfl (by first | with_reducible rfl | decide) ?_ | refine S_no rfl (by first | with_reducible rfl | decide) ?_ | refine S_seq ?_ | refine E_seq ?_ | refine S_block ?_ | refine E_block_normal ?_ | refine S_skip ?_ | refine S_exit ?_ | refine S_ret ?_ | refine E_then_exit ?_ | refine E_then_ret ?_ | refine E_block_ret ?_ | refine E_block_exit ?_ | refine E_block_exit_other rfl ?_)
    exact E_ret2 rfl rfl rfl fun w' hm => ⟨rfl, hm.below⟩
  have g2 : decide (i < 0) = false := decide_eq_false h1
  have g3 : decide (((3 : Nat) : Int) ≤ i) = true := decide_eq_true (by omega)
  repeat (first | refine S_scope ?_ | refine S_label ?_ | refine E_noGoto_normal ?_ | refine E_noGoto_ret ?_ | refine E_noGoto_exit ?_ | refine S_yes rfl (by first | with_reducible rfl | decide) ?_ | refine S_no rfl (by first | with_reducible rfl | decide) ?_ | refine S_seq ?_ | refine E_seq ?_ | refine S_block ?_ | refine E_block_normal ?_ | refine S_skip ?_ | refine S_exit ?_ | refine S_ret ?_ | refine E_then_exit ?_ | refine E_then_ret ?_ | refine E_block_ret ?_ | refine E_block_exit ?_ | refine E_block_exit_other rfl ?_)
  refine S_region ?_
  refine R_cons rfl (op_pure (p_assign rfl) rfl ?_)
  refine R_cons rfl (op_pure (p_assign rfl) rfl ?_)
  refine R_nil ?_
  repeat (first | refine S_scope ?_ | refine S_label ?_ | refine E_noGoto_normal ?_ | refine E_noGoto_ret ?_ | refine E_noGoto_exit ?_ | refine S_yes rfl (by first | with_reducible rfl | decide) ?_ | refine S_no rfl (by first | with_reducible rfl | decide) ?_ | refine S_seq ?_ | refine E_seq ?_ | refine S_block ?_ | refine E_block_normal ?_ | refine S_skip ?_ | refine S_exit ?_ | refine S_ret ?_ | refine E_then_exit ?_ | refine E_then_ret ?_ | refine E_block_ret ?_ | refine E_block_exit ?_ | refine E_block_exit_other rfl ?_)
  refine S_region ?_
  refine R_cons rfl (op_pure (p_move rfl) rfl ?_)
  refine R_cons rfl (op_callV rfl rfl Try.func52 rfl (by kernel_rfl) rfl (Nat.le_refl _) (fun w' hm => dlen_any p.bd 3 p.cs _ _ _ s.left s.bl (by omega) w' (below_block hm.below hb)) ?_)
  refine R_cons rfl (op_pure (p_bin rfl rfl (b_eql g1)) rfl ?_)
  refine R_cons rfl (op_pure (p_assign rfl) rfl ?_)
  refine R_nil ?_
  repeat (first | refine S_scope ?_ | refine S_label ?_ | refine E_noGoto_normal ?_ | refine E_noGoto_ret ?_ | refine E_noGoto_exit ?_ | refine S_yes rfl (by first | with_reducible rfl | decide) ?_ | refine S_no rfl (by first | with_reducible rfl | decide) ?_ | refine S_seq ?_ | refine E_seq ?_ | refine S_block ?_ | refine E_block_normal ?_ | refine S_skip ?_ | refine S_exit ?_ | refine S_ret ?_ | refine E_then_exit ?_ | refine E_then_ret ?_ | refine E_block_ret ?_ | refine E_block_exit ?_ | refine E_block_exit_other rfl ?_)
  refine S_region ?_
  refine R_cons rfl (op_pure (p_move rfl) rfl ?_)
  refine R_cons rfl (op_pure (p_bin rfl rfl (b_lss g2)) rfl ?_)
  refine R_cons rfl (op_pure (p_move rfl) rfl ?_)
  first | refine R_pass rfl rfl rfl rfl ?_ | refine R_pass_undef rfl rfl rfl ?_ | refine R_guard rfl rfl rfl (op_pure (p_move rfl) rfl ?_)
  first | refine R_pass rfl rfl rfl rfl ?_ | refine R_pass_undef rfl rfl rfl ?_ | refine R_guard rfl rfl rfl (op_pure (p_move rfl) rfl ?_)
  first | refine R_pass rfl rfl rfl rfl ?_ | refine R_pass_undef rfl rfl rfl ?_ | refine R_guard rfl rfl rfl (op_callV rfl rfl Try.func52 rfl (by kernel_rfl) rfl (Nat.le_refl _) (fun w' hm => dlen_any p.bd 3 p.cs _ _ _ s.left s.bl (by omega) w' (below_block hm.below hb)) ?_)
  first | refine R_pass rfl rfl rfl rfl ?_ | refine R_pass_undef rfl rfl rfl ?_ | refine R_guard rfl rfl rfl (op_pure (p_bin rfl rfl (b_geq g3)) rfl ?_)
  refine R_cons rfl (op_pure (by first | exact p_pick_yes rfl rfl | exact p_pick_no rfl rfl | exact p_pick rfl rfl rfl) rfl ?_)
  refine R_cons rfl (op_pure (p_assign rfl) rfl ?_)
  refine R_nil ?_
  repeat (first | refine S_scope ?_ | refine S_label ?_ | refine E_noGoto_normal ?_ | refine E_noGoto_ret ?_ | refine E_noGoto_exit ?_ | refine S_yes rfl (by first | with_reducible rfl | decide) ?_ | refine S_no rfl (by first | with_reducible rfl | decide) ?_ | refine S_seq ?_ | refine E_seq ?_ | refine S_block ?_ | refine E_block_normal ?_ | refine S_skip ?_ | refine S_exit ?_ | refine S_ret ?_ | refine E_then_exit ?_ | refine E_then_ret ?_ | refine E_block_ret ?_ | refine E_block_exit ?_ | refine E_block_exit_other rfl ?_)
  refine S_region ?_
  refine R_cons rfl (op_pure (p_assign rfl) rfl ?_)
  refine R_cons rfl (op_pure (p_assign rfl) rfl ?_)
  refine R_nil ?_
  repeat (first | refine S_scope ?_ | refine S_label ?_ | refine E_noGoto_normal ?_ | refine E_noGoto_ret ?_ | refine E_noGoto_exit ?_ | refine S_yes rfl (by first | with_reducible rfl | decide) ?_ | refine S_no rfl (by first | with_reducible rfl | decide) ?_ | refine S_seq ?_ | refine E_seq ?_ | refine S_block ?_ | refine E_block_normal ?_ | refine S_skip ?_ | refine S_exit ?_ | refine S_ret ?_ | refine E_then_exit ?_ | refine E_then_ret ?_ | refine E_block_ret ?_ | refine E_block_exit ?_ | refine E_block_exit_other rfl ?_)
  exact E_ret2 rfl rfl rfl fun w' hm => ⟨rfl, hm.below⟩
end Go.Proofs.Ytfdlafjifjndeaa
