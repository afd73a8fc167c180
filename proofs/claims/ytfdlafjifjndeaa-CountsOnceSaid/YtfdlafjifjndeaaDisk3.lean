/-
  The layer disks: a sector written; a fuse; a byte turned.
-/
import Derived.Test.YtfdlafjifjndeaaDisk2
namespace Go.K
theorem lay_cons (v : Value) (r : List Value) : ∀ (cs : List Value) (o : Nat), lay (v :: cs) (o + 1) r = v :: lay cs o r := by
  induction r with
  | nil => exact fun _ _ => rfl
  | cons c r ih => exact fun cs o => by rw [lay, lay, List.set_cons_succ, ih]
end Go.K
namespace Go.Proofs.Ytfdlafjifjndeaa
open Go.RowKit Go.K
attribute [local irreducible] Exit.then Exit.inBlock Exit.noGoto bodyPost Code.wp QL Sx Rx Qx Ex Dx Op1 Pure1 Still1 K.Sub Calm Code.wpIn
set_option linter.unusedVariables false
attribute [local irreducible] secV leftS blownS
theorem elr_write : ElR Try.prog 120 (.agg (Value.int .i64 0 :: bytesV (List.replicate 64 0)).toArray) 65 72 := by
  obtain ⟨i, h1, h2, h3, h4⟩ := info_parts (show (Try.prog.info? 120).map (fun i => (i.zero, i.size, i.bytes)) = some (some (.agg (Value.int .i64 0 :: bytesV (List.replicate 64 0)).toArray), 65, 72) from by kernel_rfl)
  exact ⟨i, h1, h2, h3, h4, rfl⟩
theorem set_len {l : List (List UInt8)} {i : Nat} {x : List UInt8} : (l.set i x).length = l.length := List.length_set

set_option maxHeartbeats 2000000 in
theorem dwrite_any (bd bs bn bg n cs cn cg : Nat) (left : Int) (bl : Bool) (hlo : -9223372036854775808 ≤ left) (hhi : left ≤ 9223372036854775807) (sure now : List (List UInt8)) (sps spn spg : List Value) (hS : Secs sure) (hN : Secs now) (hsl : sure.length = n) (hnl : now.length = n) (hn2 : n ≤ 4096) (i : Nat) (hi : i < n) (x : List UInt8) (hx : x.length = 64) (w : World)
    (hm : Mem w.heap.size ⟨w, [bd, bs, bn, bg]⟩ [(bd, .cells (diskC (.slice (some ⟨bs, 0, none⟩) n cs) (.slice (some ⟨bn, 0, none⟩) n cn) (.slice none 0 0) left bl).toArray 113 (0, 0)), (bs, .cells (secV sure ++ sps).toArray 115 (0, 0)), (bn, .cells (secV now ++ spn).toArray 115 (0, 0)), (bg, .cells (bytesV x ++ spg).toArray 5 (0, 0))] w) :
    Calls Try.prog 32 [.pointer (some ⟨bd, 0, none⟩), .int .i64 (i : Int), .slice (some ⟨bg, 0, none⟩) 64 cg].toArray w fun e w' => ∃ v H', e = .returned v ∧ Mem w.heap.size ⟨w, [bd, bs, bn, bg]⟩ H' w' ∧
      ((blownS left bl = true ∧ v = .int .i64 9 ∧ H' = [(bd, .cells (diskC (.slice (some ⟨bs, 0, none⟩) n cs) (.slice (some ⟨bn, 0, none⟩) n cn) (.slice none 0 0) (leftS left bl) true).toArray 113 (0, 0)), (bs, .cells (secV sure ++ sps).toArray 115 (0, 0)), (bn, .cells (secV now ++ spn).toArray 115 (0, 0))]) ∨
       (blownS left bl = false ∧ v = .int .i64 0 ∧ ∃ bw cw spw, ((Value.int .i64 (i : Int) :: bytesV x) ++ spw).length = cw * 65 ∧ 1 ≤ cw ∧ cw ≤ maxLen ∧ H' = [(bd, .cells (diskC (.slice (some ⟨bs, 0, none⟩) n cs) (.slice (some ⟨bn, 0, none⟩) n cn) (.slice (some ⟨bw, 0, none⟩) 1 cw) (leftS left bl) false).toArray 113 (0, 0)), (bs, .cells (secV sure ++ sps).toArray 115 (0, 0)), (bn, .cells (secV (now.set i x) ++ spn).toArray 115 (0, 0)), (bw, .cells ((Value.int .i64 (i : Int) :: bytesV x) ++ spw).toArray 120 (0, 0))])) := by
  have g1 : decide ((i : Int) < 0) = false := decide_eq_false (by omega)
  have g2 : decide ((n : Int) ≤ (i : Int)) = false := decide_eq_false (by omega)
  have hxb : (bytesV x).length = 64 := by rw [bytesV_length, hx]
  have hl2 : (secV now).length = n * 64 := by rw [secV_length hN, hnl]
  have hlay := lay_sec hN (by omega : i < now.length) hx spn
  have hfit : 0 + i * 64 + (bytesV x).length ≤ (secV now ++ spn).length := by rw [List.length_append, hl2, hxb]; omega
  refine enter_at Try.func32 rfl Try.ntmps32 (by simp) hm ?_
  repeat (first | refine S_scope ?_ | refine S_label ?_ | refine E_noGoto_normal ?_ | refine E_noGoto_ret ?_ | refine E_noGoto_exit ?_ | refine S_yes rfl (by first | with_reducible rfl | decide) ?_ | refine S_no rfl (by first | with_reducible rfl | decide) ?_ | refine S_seq ?_ | refine E_seq ?_ | refine S_block ?_ | refine E_block_normal ?_ | refine S_skip ?_ | refine S_exit ?_ | refine S_ret ?_ | refine E_then_exit ?_ | refine E_then_ret ?_ | refine E_block_ret ?_ | refine E_block_exit ?_ | refine E_block_exit_other rfl ?_)
  refine S_region ?_
  refine R_cons rfl (op_pure (p_assign rfl) rfl ?_)
  refine R_nil ?_
  repeat (first | refine S_scope ?_ | refine S_label ?_ | refine E_noGoto_normal ?_ | refine E_noGoto_ret ?_ | refine E_noGoto_exit ?_ | refine S_yes rfl (by first | with_reducible rfl | decide) ?_ | refine S_no rfl (by first | with_reducible rfl | decide) ?_ | refine S_seq ?_ | refine E_seq ?_ | refine S_block ?_ | refine E_block_normal ?_ | refine S_skip ?_ | refine S_exit ?_ | refine S_ret ?_ | refine E_then_exit ?_ | refine E_then_ret ?_ | refine E_block_ret ?_ | refine E_block_exit ?_ | refine E_block_exit_other rfl ?_)
  refine S_region ?_
  refine R_cons rfl (op_pure (p_move rfl) rfl ?_)
  refine R_cons rfl (op_callV rfl rfl Try.func62 rfl (by kernel_rfl) rfl (Nat.le_refl _) (fun w' hm => dnone_any bd n cs _ _ _ left bl (by omega) w' (hm.own (bd, _) (by repeat (first | exact List.Mem.head _ | apply List.Mem.tail))).2) ?_)
  refine R_cons rfl (op_pure (p_assign rfl) rfl ?_)
  refine R_nil ?_
  repeat (first | refine S_scope ?_ | refine S_label ?_ | refine E_noGoto_normal ?_ | refine E_noGoto_ret ?_ | refine E_noGoto_exit ?_ | refine S_yes rfl (by first | with_reducible rfl | decide) ?_ | refine S_no rfl (by first | with_reducible rfl | decide) ?_ | refine S_seq ?_ | refine E_seq ?_ | refine S_block ?_ | refine E_block_normal ?_ | refine S_skip ?_ | refine S_exit ?_ | refine S_ret ?_ | refine E_then_exit ?_ | refine E_then_ret ?_ | refine E_block_ret ?_ | refine E_block_exit ?_ | refine E_block_exit_other rfl ?_)
  refine S_region ?_
  refine R_cons rfl (op_pure (p_move rfl) rfl ?_)
  refine R_cons rfl (op_pure (p_bin rfl rfl (b_lss g1)) rfl ?_)
  refine R_cons rfl (op_pure (p_move rfl) rfl ?_)
  first | refine R_pass rfl rfl rfl rfl ?_ | refine R_pass_undef rfl rfl rfl ?_ | refine R_guard rfl rfl rfl (op_pure (p_move rfl) rfl ?_)
  first | refine R_pass rfl rfl rfl rfl ?_ | refine R_pass_undef rfl rfl rfl ?_ | refine R_guard rfl rfl rfl (op_pure (p_move rfl) rfl ?_)
  first | refine R_pass rfl rfl rfl rfl ?_ | refine R_pass_undef rfl rfl rfl ?_ | refine R_guard rfl rfl rfl (op_pure (p_nilCheck rfl) rfl ?_)
  first | refine R_pass rfl rfl rfl rfl ?_ | refine R_pass_undef rfl rfl rfl ?_ | refine R_guard rfl rfl rfl (op_pure (by first | exact p_fieldAddr0 rfl fd_disks_Disk_0 | exact p_fieldAddr rfl fd_disks_Disk_0) rfl ?_)
  first | refine R_pass rfl rfl rfl rfl ?_ | refine R_pass_undef rfl rfl rfl ?_ | refine R_guard rfl rfl rfl (op_pure (by first | exact p_load rfl sc_disks_sector (by repeat (first | exact List.Mem.head _ | apply List.Mem.tail)) (by first | assumption | exact bytesV_get (by omega) | exact wordsV_get (by omega) | rfl) | exact p_load_base rfl sc_disks_sector (by assumption) (by simp) (by assumption)) rfl ?_)
  first | refine R_pass rfl rfl rfl rfl ?_ | refine R_pass_undef rfl rfl rfl ?_ | refine R_guard rfl rfl rfl (op_pure (p_lenR rfl slr_disks_sector) rfl ?_)
  first | refine R_pass rfl rfl rfl rfl ?_ | refine R_pass_undef rfl rfl rfl ?_ | refine R_guard rfl rfl rfl (op_pure (p_bin rfl rfl (b_geq g2)) rfl ?_)
  refine R_cons rfl (op_pure (by first | exact p_pick_yes rfl rfl | exact p_pick_no rfl rfl | exact p_pick rfl rfl rfl) rfl ?_)
  refine R_cons rfl (op_pure (p_move rfl) rfl ?_)
  first | refine R_pass rfl rfl rfl rfl ?_ | refine R_pass_undef rfl rfl rfl ?_ | refine R_guard rfl rfl rfl (op_pure (p_move rfl) rfl ?_)
  first | refine R_pass rfl rfl rfl rfl ?_ | refine R_pass_undef rfl rfl rfl ?_ | refine R_guard rfl rfl rfl (op_pure (p_len rfl slc_u8s) rfl ?_)
  first | refine R_pass rfl rfl rfl rfl ?_ | refine R_pass_undef rfl rfl rfl ?_ | refine R_guard rfl rfl rfl (op_pure (p_bin rfl rfl (b_gtr (by first | assumption | exact decide_eq_true (by omega) | exact decide_eq_false (by omega) | rfl))) rfl ?_)
  refine R_cons rfl (op_pure (by first | exact p_pick_yes rfl rfl | exact p_pick_no rfl rfl | exact p_pick rfl rfl rfl) rfl ?_)
  refine R_cons rfl (op_pure (p_assign rfl) rfl ?_)
  refine R_nil ?_
  repeat (first | refine S_scope ?_ | refine S_label ?_ | refine E_noGoto_normal ?_ | refine E_noGoto_ret ?_ | refine E_noGoto_exit ?_ | refine S_yes rfl (by first | with_reducible rfl | decide) ?_ | refine S_no rfl (by first | with_reducible rfl | decide) ?_ | refine S_seq ?_ | refine E_seq ?_ | refine S_block ?_ | refine E_block_normal ?_ | refine S_skip ?_ | refine S_exit ?_ | refine S_ret ?_ | refine E_then_exit ?_ | refine E_then_ret ?_ | refine E_block_ret ?_ | refine E_block_exit ?_ | refine E_block_exit_other rfl ?_)
  refine S_region ?_
  refine R_cons rfl (op_pure (p_move rfl) rfl ?_)
  refine R_cons rfl (op_callH (Hc := [(bd, .cells (diskC (.slice (some ⟨bs, 0, none⟩) n cs) (.slice (some ⟨bn, 0, none⟩) n cn) (.slice none 0 0) left bl).toArray 113 (0, 0))]) (K := [(bs, .cells (secV sure ++ sps).toArray 115 (0, 0)), (bn, .cells (secV now ++ spn).toArray 115 (0, 0)), (bg, .cells (bytesV x ++ spg).toArray 5 (0, 0))]) rfl rfl Try.func70 rfl (by kernel_rfl) rfl (List.Perm.refl _) (fun w' hm => dspent_any bd _ _ _ left bl hlo hhi w' hm) (fun v H' hp => ?_))
  obtain ⟨rfl, rfl⟩ := hp
  refine R_cons rfl (op_pure (p_assign rfl) rfl ?_)
  refine R_nil ?_
  cases hbw : blownS left bl with
  | true =>
    repeat (first | refine S_scope ?_ | refine S_label ?_ | refine E_noGoto_normal ?_ | refine E_noGoto_ret ?_ | refine E_noGoto_exit ?_ | refine S_yes rfl (by first | with_reducible rfl | decide) ?_ | refine S_no rfl (by first | with_reducible rfl | decide) ?_ | refine S_seq ?_ | refine E_seq ?_ | refine S_block ?_ | refine E_block_normal ?_ | refine S_skip ?_ | refine S_exit ?_ | refine S_ret ?_ | refine E_then_exit ?_ | refine E_then_ret ?_ | refine E_block_ret ?_ | refine E_block_exit ?_ | refine E_block_exit_other rfl ?_)
    refine S_region ?_
    refine R_cons rfl (op_pure (p_assign rfl) rfl ?_)
    refine R_nil ?_
    repeat (first | refine S_scope ?_ | refine S_label ?_ | refine E_noGoto_normal ?_ | refine E_noGoto_ret ?_ | refine E_noGoto_exit ?_ | refine S_yes rfl (by first | with_reducible rfl | decide) ?_ | refine S_no rfl (by first | with_reducible rfl | decide) ?_ | refine S_seq ?_ | refine E_seq ?_ | refine S_block ?_ | refine E_block_normal ?_ | refine S_skip ?_ | refine S_exit ?_ | refine S_ret ?_ | refine E_then_exit ?_ | refine E_then_ret ?_ | refine E_block_ret ?_ | refine E_block_exit ?_ | refine E_block_exit_other rfl ?_)
    exact E_ret1 rfl rfl fun w' hm => ⟨_, _, rfl, hm.fewer (by repeat (first | exact Fewer.nil | refine Fewer.keep rfl ?_)), .inl ⟨rfl, rfl, rfl⟩⟩
  | false =>
    have h7 : lay ([Value.int .i64 0] ++ bytesV (List.replicate 64 0)) 0 (Value.int .i64 (i : Int) :: bytesV (List.replicate 64 0)) = Value.int .i64 (i : Int) :: bytesV (List.replicate 64 0) := lay_whole rfl
    have h8 : lay (Value.int .i64 (i : Int) :: bytesV (List.replicate 64 0)) (0 + 1) ((bytesV x).take 64) = Value.int .i64 (i : Int) :: bytesV x := by
      rw [List.take_of_length_le (by omega)]
      rw [Nat.zero_add, lay_cons _ _ _ 0, lay_whole (by rw [hxb]; rfl)]
    have hpart : ((Value.int .i64 (i : Int) :: bytesV x).drop 1).take 64 = bytesV x := by
      show (bytesV x).take 64 = _
      exact List.take_of_length_le (by omega)
    have hwl : (Value.int .i64 (i : Int) :: bytesV x).length = 65 := by rw [List.length_cons, hxb]
    have hone : ∀ v ∈ (Value.int .i64 (i : Int) :: bytesV x), v.oneCell' = true := fun v hv => by
      rcases List.mem_cons.1 hv with rfl | hv
      · rfl
      · exact bytesV_one _ v hv
    repeat (first | refine S_scope ?_ | refine S_label ?_ | refine E_noGoto_normal ?_ | refine E_noGoto_ret ?_ | refine E_noGoto_exit ?_ | refine S_yes rfl (by first | with_reducible rfl | decide) ?_ | refine S_no rfl (by first | with_reducible rfl | decide) ?_ | refine S_seq ?_ | refine E_seq ?_ | refine S_block ?_ | refine E_block_normal ?_ | refine S_skip ?_ | refine S_exit ?_ | refine S_ret ?_ | refine E_then_exit ?_ | refine E_then_ret ?_ | refine E_block_ret ?_ | refine E_block_exit ?_ | refine E_block_exit_other rfl ?_)
    refine S_region ?_
    refine R_cons rfl (op_pure (p_move rfl) rfl ?_)
    refine R_cons rfl (op_pure (p_build (ps := [(0, .tmp 31)]) (cs := [.int .i64 (i : Int)]) rfl (by kernel_rfl)) rfl ?_)
    refine R_cons rfl (op_pure (p_build (ps := [(0, .tmp 32)]) (cs := .int .i64 (i : Int) :: bytesV (List.replicate 64 0)) rfl (by kernel_rfl)) rfl ?_)
    refine R_cons rfl (op_allocRow zero_disks_write rfl (Nat.le_refl _) (fun b7 => ?_))
    refine R_cons rfl (op_storeRow rfl rfl (fun v hv => by rcases List.mem_cons.1 hv with rfl | hv; rfl; exact bytesV_one _ v hv) row_disks_write rfl (by repeat (first | exact At.here | apply At.there)) (by exact Nat.le_of_ble_eq_true rfl) ?_)
    refine R_nil ?_
    repeat (first | refine S_scope ?_ | refine S_label ?_ | refine E_noGoto_normal ?_ | refine E_noGoto_ret ?_ | refine E_noGoto_exit ?_ | refine S_yes rfl (by first | with_reducible rfl | decide) ?_ | refine S_no rfl (by first | with_reducible rfl | decide) ?_ | refine S_seq ?_ | refine E_seq ?_ | refine S_block ?_ | refine E_block_normal ?_ | refine S_skip ?_ | refine S_exit ?_ | refine S_ret ?_ | refine E_then_exit ?_ | refine E_then_ret ?_ | refine E_block_ret ?_ | refine E_block_exit ?_ | refine E_block_exit_other rfl ?_)
    rw [h7]
    refine S_region ?_
    refine R_cons rfl (op_pure (by first | exact p_fieldAddr0 rfl fd_disks_write_1 | exact p_fieldAddr rfl fd_disks_write_1) rfl ?_)
    refine R_cons rfl (op_pure (p_sliceArr rfl arr_disks_sector) rfl ?_)
    refine R_cons rfl (op_pure (p_move rfl) rfl ?_)
    refine R_cons rfl (op_copy (n := 64) rfl rfl slc_u8s rfl (fun w' hm => by have h := hm.readsPre (b := bg) (xs := bytesV x) (by repeat (first | exact List.Mem.head _ | apply List.Mem.tail)); rw [hxb] at h; exact h) (bytesV_one _) (by repeat (first | exact At.here | apply At.there)) (by exact Nat.le_of_ble_eq_true rfl) rfl ?_)
    refine R_nil ?_
    repeat (first | refine S_scope ?_ | refine S_label ?_ | refine E_noGoto_normal ?_ | refine E_noGoto_ret ?_ | refine E_noGoto_exit ?_ | refine S_yes rfl (by first | with_reducible rfl | decide) ?_ | refine S_no rfl (by first | with_reducible rfl | decide) ?_ | refine S_seq ?_ | refine E_seq ?_ | refine S_block ?_ | refine E_block_normal ?_ | refine S_skip ?_ | refine S_exit ?_ | refine S_ret ?_ | refine E_then_exit ?_ | refine E_then_ret ?_ | refine E_block_ret ?_ | refine E_block_exit ?_ | refine E_block_exit_other rfl ?_)
    rw [h8]
    refine S_tail 10 (by kernel_rfl) (by kernel_rfl) (by kernel_rfl) (by kernel_rfl) ?_
    refine Q_cons (Still1.of_pure (p_move rfl)) rfl ?_
    refine Q_cons (Still1.of_pure (p_nilCheck rfl)) rfl ?_
    refine Q_cons (Still1.of_pure (by first | exact p_fieldAddr0 rfl fd_disks_Disk_1 | exact p_fieldAddr rfl fd_disks_Disk_1)) rfl ?_
    refine Q_cons (Still1.of_pure (p_load rfl sc_disks_sector (by repeat (first | exact List.Mem.head _ | apply List.Mem.tail)) (by rfl))) rfl ?_
    refine Q_cons (Still1.of_pure (by first | exact p_fieldAddr0 rfl fd_disks_write_0 | exact p_fieldAddr rfl fd_disks_write_0)) rfl ?_
    refine Q_cons (Still1.of_pure (by first | exact p_fieldAddr0 rfl fd_disks_place_0 | exact p_fieldAddr rfl fd_disks_place_0)) rfl ?_
    refine Q_cons (Still1.of_pure (p_load rfl sc_int (by repeat (first | exact List.Mem.head _ | apply List.Mem.tail)) rfl)) rfl ?_
    refine Q_cons (Still1.of_pure (by first | exact p_fieldAddr0 rfl fd_disks_write_1 | exact p_fieldAddr rfl fd_disks_write_1)) rfl ?_
    refine Q_cons (Still1.of_pure (p_loadPart rfl row_disks_sector (by repeat (first | exact List.Mem.head _ | apply List.Mem.tail)) (by rw [hwl]; exact Nat.le_of_ble_eq_true rfl) hpart)) rfl ?_
    refine Q_cons (Still1.of_pure (p_indexR (j := i) rfl rfl rfl slr_disks_sector hi)) rfl ?_
    refine Q_nop ?_
    refine Q_nil ?_
    refine E_tail ?_
    refine R_cons rfl (op_storeRow rfl rfl (bytesV_one _) row_disks_sector hxb (by repeat (first | exact At.here | apply At.there)) hfit ?_)
    refine R_nil ?_
    repeat (first | refine S_scope ?_ | refine S_label ?_ | refine E_noGoto_normal ?_ | refine E_noGoto_ret ?_ | refine E_noGoto_exit ?_ | refine S_yes rfl (by first | with_reducible rfl | decide) ?_ | refine S_no rfl (by first | with_reducible rfl | decide) ?_ | refine S_seq ?_ | refine E_seq ?_ | refine S_block ?_ | refine E_block_normal ?_ | refine S_skip ?_ | refine S_exit ?_ | refine S_ret ?_ | refine E_then_exit ?_ | refine E_then_ret ?_ | refine E_block_ret ?_ | refine E_block_exit ?_ | refine E_block_exit_other rfl ?_)
    rw [Nat.zero_add, hlay]
    have he1 : [Value.int .i64 (i : Int) :: bytesV x].flatMap id = Value.int .i64 (i : Int) :: bytesV x := by simp
    refine S_cutE (σ := Nat × Nat × List Value) (fun q => [(6, .int .i64 0)]) (fun q => [(bd, .cells (diskC (.slice (some ⟨bs, 0, none⟩) n cs) (.slice (some ⟨bn, 0, none⟩) n cn) (.slice (some ⟨q.1, 0, none⟩) 1 q.2.1) (leftS left bl) false).toArray 113 (0, 0)), (bs, .cells (secV sure ++ sps).toArray 115 (0, 0)), (bn, .cells (secV (now.set i x) ++ spn).toArray 115 (0, 0)), (q.1, .cells ((Value.int .i64 (i : Int) :: bytesV x) ++ q.2.2).toArray 120 (0, 0))])
      (fun q => ((Value.int .i64 (i : Int) :: bytesV x) ++ q.2.2).length = q.2.1 * 65 ∧ 1 ≤ q.2.1 ∧ q.2.1 ≤ maxLen) ?_ ?_
    · refine S_drawn (by kernel_rfl) (.keep rfl (.drop (.keep rfl (.keep rfl (.keep rfl .nil))))) ?_
      refine D_take 0 rfl (by kernel_rfl) (by kernel_rfl) (by kernel_rfl) (by repeat (first | exact calm_body | exact calm_mid | apply calm_noGoto | exact calm_midE | apply calm_then | apply calm_block)) (p_move rfl) rfl ?_
      refine D_take 1 rfl (by kernel_rfl) (by kernel_rfl) (by kernel_rfl) (by repeat (first | exact calm_body | exact calm_mid | apply calm_noGoto | exact calm_midE | apply calm_then | apply calm_block)) (p_move rfl) rfl ?_
      refine D_take 2 rfl (by kernel_rfl) (by kernel_rfl) (by kernel_rfl) (by repeat (first | exact calm_body | exact calm_mid | apply calm_noGoto | exact calm_midE | apply calm_then | apply calm_block)) (p_nilCheck rfl) rfl ?_
      refine D_take 3 rfl (by kernel_rfl) (by kernel_rfl) (by kernel_rfl) (by repeat (first | exact calm_body | exact calm_mid | apply calm_noGoto | exact calm_midE | apply calm_then | apply calm_block)) (by first | exact p_fieldAddr0 rfl fd_disks_Disk_2 | exact p_fieldAddr rfl fd_disks_Disk_2) rfl ?_
      refine D_take 5 rfl (by kernel_rfl) (by kernel_rfl) (by kernel_rfl) (by repeat (first | exact calm_body | exact calm_mid | apply calm_noGoto | exact calm_midE | apply calm_then | apply calm_block)) (p_loadRow rfl row_disks_write (by repeat (first | exact List.Mem.head _ | apply List.Mem.tail)) hwl) rfl ?_
      refine D_two 4 6 (by kernel_rfl) ?_ ?_
      · refine step_plain 4 rfl rfl (op_pure (p_load rfl sc_disks_write (by repeat (first | exact List.Mem.head _ | apply List.Mem.tail)) (by rfl)) rfl ?_)
        refine ⟨(by repeat (first | exact Fewer.nil | refine Fewer.keep rfl ?_ | refine Fewer.drop ?_ | exact Fewer.refl _ | exact Fewer.inl _ _ | (simp only [List.append_nil]; first | exact Fewer.inl _ _ | exact Fewer.refl _))), ?_⟩
        refine D_only 6 rfl (by kernel_rfl) rfl (op_buildSliceR (s := 65) (ps := [(0, .tmp 53)]) (l := [Value.int .i64 (i : Int) :: bytesV x]) rfl rfl slr_disks_write.1 elr_write (fun y hy => by rw [List.mem_singleton] at hy; subst hy; exact hwl) rfl (by decide) (by decide) rfl (Nat.le_refl _) (fun b54 => ?_))
        refine ⟨(by repeat (first | exact Fewer.nil | refine Fewer.keep rfl ?_ | refine Fewer.drop ?_ | exact Fewer.refl _ | exact Fewer.inl _ _ | (simp only [List.append_nil]; first | exact Fewer.inl _ _ | exact Fewer.refl _))), ?_⟩
        refine D_only 7 rfl (by kernel_rfl) rfl (op_appendNilR (s := 65) (bytes := 72) (m := 1) (ys := Value.int .i64 (i : Int) :: bytesV x) rfl rfl slr_disks_write.1 elr_write (by decide) (fun w' hm => by have h := hm.readsAll (b := b54) (n := 65) (cs := [Value.int .i64 (i : Int) :: bytesV x].flatMap id) (by repeat (first | exact List.Mem.head _ | apply List.Mem.tail)) (by rw [he1]; exact hwl); rw [he1] at h; exact h) hone (by decide) (by decide) (by decide) rfl (Nat.le_refl _) (fun b' c' s' h' i' j' => ?_))
        refine ⟨(by repeat (first | exact Fewer.nil | refine Fewer.keep rfl ?_ | refine Fewer.drop ?_ | exact Fewer.refl _ | exact Fewer.inl _ _ | (simp only [List.append_nil]; first | exact Fewer.inl _ _ | exact Fewer.refl _))), ?_⟩
        refine D_take 8 rfl (by kernel_rfl) (by kernel_rfl) (by kernel_rfl) (by repeat (first | exact calm_body | exact calm_mid | apply calm_noGoto | exact calm_midE | apply calm_then | apply calm_block)) (p_nilCheck rfl) rfl ?_
        refine D_take 9 rfl (by kernel_rfl) (by kernel_rfl) (by kernel_rfl) (by repeat (first | exact calm_body | exact calm_mid | apply calm_noGoto | exact calm_midE | apply calm_then | apply calm_block)) (by first | exact p_fieldAddr0 rfl fd_disks_Disk_2 | exact p_fieldAddr rfl fd_disks_Disk_2) rfl ?_
        refine D_only 10 rfl (by kernel_rfl) rfl (op_store rfl rfl rfl sc_disks_write (by repeat (first | exact At.here | apply At.there)) (by first | exact Nat.le_of_ble_eq_true rfl | omega | (simp only [bytesV_length, wordsV_length]; omega) | (simp only [bytesV_length, wordsV_length, List.length_cons, List.length_nil, List.length_set, List.length_append]; omega) | decide) ?_)
        refine ⟨(by repeat (first | exact Fewer.nil | refine Fewer.keep rfl ?_ | refine Fewer.drop ?_ | exact Fewer.refl _ | exact Fewer.inl _ _ | (simp only [List.append_nil]; first | exact Fewer.inl _ _ | exact Fewer.refl _))), ?_⟩
        refine D_done (by kernel_rfl) ?_
        exact E_midE (b', c', s') ⟨h', i', j'⟩ (by repeat (first | exact Sub.nil | refine Sub.cons rfl ?_)) (by repeat (first | exact Fewer.nil | refine Fewer.pick rfl (by repeat (first | exact Del.here | apply Del.there)) ?_))
      · refine step_plain 6 rfl rfl (op_buildSliceR (s := 65) (ps := [(0, .tmp 53)]) (l := [Value.int .i64 (i : Int) :: bytesV x]) rfl rfl slr_disks_write.1 elr_write (fun y hy => by rw [List.mem_singleton] at hy; subst hy; exact hwl) rfl (by decide) (by decide) rfl (Nat.le_refl _) (fun b54 => ?_))
        refine ⟨(by repeat (first | exact Fewer.nil | refine Fewer.keep rfl ?_ | refine Fewer.drop ?_ | exact Fewer.refl _ | exact Fewer.inl _ _ | (simp only [List.append_nil]; first | exact Fewer.inl _ _ | exact Fewer.refl _))), ?_⟩
        refine D_only 4 rfl (by kernel_rfl) rfl (op_pure (p_load rfl sc_disks_write (by repeat (first | exact List.Mem.head _ | apply List.Mem.tail)) (by rfl)) rfl ?_)
        refine ⟨(by repeat (first | exact Fewer.nil | refine Fewer.keep rfl ?_ | refine Fewer.drop ?_ | exact Fewer.refl _ | exact Fewer.inl _ _ | (simp only [List.append_nil]; first | exact Fewer.inl _ _ | exact Fewer.refl _))), ?_⟩
        refine D_only 7 rfl (by kernel_rfl) rfl (op_appendNilR (s := 65) (bytes := 72) (m := 1) (ys := Value.int .i64 (i : Int) :: bytesV x) rfl rfl slr_disks_write.1 elr_write (by decide) (fun w' hm => by have h := hm.readsAll (b := b54) (n := 65) (cs := [Value.int .i64 (i : Int) :: bytesV x].flatMap id) (by repeat (first | exact List.Mem.head _ | apply List.Mem.tail)) (by rw [he1]; exact hwl); rw [he1] at h; exact h) hone (by decide) (by decide) (by decide) rfl (Nat.le_refl _) (fun b' c' s' h' i' j' => ?_))
        refine ⟨(by repeat (first | exact Fewer.nil | refine Fewer.keep rfl ?_ | refine Fewer.drop ?_ | exact Fewer.refl _ | exact Fewer.inl _ _ | (simp only [List.append_nil]; first | exact Fewer.inl _ _ | exact Fewer.refl _))), ?_⟩
        refine D_take 8 rfl (by kernel_rfl) (by kernel_rfl) (by kernel_rfl) (by repeat (first | exact calm_body | exact calm_mid | apply calm_noGoto | exact calm_midE | apply calm_then | apply calm_block)) (p_nilCheck rfl) rfl ?_
        refine D_take 9 rfl (by kernel_rfl) (by kernel_rfl) (by kernel_rfl) (by repeat (first | exact calm_body | exact calm_mid | apply calm_noGoto | exact calm_midE | apply calm_then | apply calm_block)) (by first | exact p_fieldAddr0 rfl fd_disks_Disk_2 | exact p_fieldAddr rfl fd_disks_Disk_2) rfl ?_
        refine D_only 10 rfl (by kernel_rfl) rfl (op_store rfl rfl rfl sc_disks_write (by repeat (first | exact At.here | apply At.there)) (by first | exact Nat.le_of_ble_eq_true rfl | omega | (simp only [bytesV_length, wordsV_length]; omega) | (simp only [bytesV_length, wordsV_length, List.length_cons, List.length_nil, List.length_set, List.length_append]; omega) | decide) ?_)
        refine ⟨(by repeat (first | exact Fewer.nil | refine Fewer.keep rfl ?_ | refine Fewer.drop ?_ | exact Fewer.refl _ | exact Fewer.inl _ _ | (simp only [List.append_nil]; first | exact Fewer.inl _ _ | exact Fewer.refl _))), ?_⟩
        refine D_done (by kernel_rfl) ?_
        exact E_midE (b', c', s') ⟨h', i', j'⟩ (by repeat (first | exact Sub.nil | refine Sub.cons rfl ?_)) (by repeat (first | exact Fewer.nil | refine Fewer.pick rfl (by repeat (first | exact Del.here | apply Del.there)) ?_))
    intro q hq
    repeat (first | refine S_scope ?_ | refine S_label ?_ | refine E_noGoto_normal ?_ | refine E_noGoto_ret ?_ | refine E_noGoto_exit ?_ | refine S_yes rfl (by first | with_reducible rfl | decide) ?_ | refine S_no rfl (by first | with_reducible rfl | decide) ?_ | refine S_seq ?_ | refine E_seq ?_ | refine S_block ?_ | refine E_block_normal ?_ | refine S_skip ?_ | refine S_exit ?_ | refine S_ret ?_ | refine E_then_exit ?_ | refine E_then_ret ?_ | refine E_block_ret ?_ | refine E_block_exit ?_ | refine E_block_exit_other rfl ?_)
    refine S_region ?_
    refine R_cons rfl (op_pure (p_assign rfl) rfl ?_)
    refine R_nil ?_
    repeat (first | refine S_scope ?_ | refine S_label ?_ | refine E_noGoto_normal ?_ | refine E_noGoto_ret ?_ | refine E_noGoto_exit ?_ | refine S_yes rfl (by first | with_reducible rfl | decide) ?_ | refine S_no rfl (by first | with_reducible rfl | decide) ?_ | refine S_seq ?_ | refine E_seq ?_ | refine S_block ?_ | refine E_block_normal ?_ | refine S_skip ?_ | refine S_exit ?_ | refine S_ret ?_ | refine E_then_exit ?_ | refine E_then_ret ?_ | refine E_block_ret ?_ | refine E_block_exit ?_ | refine E_block_exit_other rfl ?_)
    exact E_ret1 rfl rfl fun w' hm => ⟨_, _, rfl, hm, .inr ⟨rfl, rfl, q.1, q.2.1, q.2.2, hq.1, hq.2.1, hq.2.2, rfl⟩⟩
end Go.Proofs.Ytfdlafjifjndeaa
