/-
  The layer disks: sectors read, all made sure, disks made.
-/
import Derived.Test.YtfdlafjifjndeaaDisk1
namespace Go.K
open Go Go.RowKit
theorem reads_pre {w : World} {b : Nat} {xs sp : List Value} {t : TypeId} {fr : Nat × Nat} (h : w.heap[b]? = some (.cells (xs ++ sp).toArray t fr)) : Reads w (some ⟨b, 0, none⟩) xs.length xs := by
  have h1 := (reads_block (n := (xs ++ sp).length) h rfl).head (k := xs.length) (by simp)
  rwa [List.take_left] at h1
theorem Mem.readsPre {B : Nat} {w0 : Base} {w : World} {H : Hp} (hm : Mem B w0 H w) {b : Nat} {xs sp : List Value} {t : TypeId} {fr : Nat × Nat} (hH : (b, Obj.cells (xs ++ sp).toArray t fr) ∈ H) : Reads w (some ⟨b, 0, none⟩) xs.length xs := reads_pre (hm.own _ hH).2
theorem rep_sec (n : Nat) (x : List UInt8) : (List.replicate n (bytesV x)).flatMap id = secV (List.replicate n x) := by
  unfold secV
  rw [List.flatMap_def, List.flatMap_def, List.map_replicate, List.map_replicate]
  rfl
section
variable {P : Program} {B : Nat} {w0 : Base} {N : Nat} {D : List Deferred} {env : Env} {H : Hp} {ty : TypeId} {pos : String} {after : Array Edge} {g : Option (Nat × Bool)} {dst : Option Nat}
theorem p_eql_sliceNil {t e yT : TypeId} {x y : Operand} {ad : Addr} {n c : Nat} (hx : look env x = some (.slice (some ad) n c)) (hy : look env y = some (.slice none 0 0)) (ht : P.underlying t = some (.slice e)) :
    Pure1 P B w0 N D ⟨dst, .binOp .eql t x y yT, ty, pos, after, g⟩ env H (.bool false) := fun a w hf _ => by
  have h1 : ∀ d, (Op.equalIn (d + 1) t (.slice (some ad) n c) (.slice none 0 0)).run P w = .ok false w := fun d => by rw [Op.equalIn]; simp [run_underlying ht]
  simp [execOp, hf.eval hx, hf.eval hy, eqGuard, binOp, Op.equal, Op.maxDepth, h1]
end
end Go.K
namespace Go.Proofs.Ytfdlafjifjndeaa
open Go.RowKit Go.K
attribute [local irreducible] Exit.then Exit.inBlock Exit.noGoto bodyPost Code.wp QL Sx Rx Qx Ex Dx Op1 Pure1 Still1 K.Sub Calm Code.wpIn
set_option linter.unusedVariables false
attribute [local irreducible] secV leftS blownS

set_option maxHeartbeats 1000000 in
theorem dread_any (bd bn n cs cn : Nat) (As : Option Addr) (vw : Value) (left : Int) (bl : Bool) (now : List (List UInt8)) (sp : List Value) (hS : Secs now) (hnl : now.length = n) (i : Nat) (hi : i < n) (x : List UInt8) (hx : now[i]? = some x) (w : World)
    (hb : w.heap[bd]? = some (.cells (diskC (.slice As n cs) (.slice (some ⟨bn, 0, none⟩) n cn) vw left bl).toArray 113 (0, 0))) (hbn : w.heap[bn]? = some (.cells (secV now ++ sp).toArray 115 (0, 0))) :
    Calls Try.prog 53 [.pointer (some ⟨bd, 0, none⟩), .int .i64 (i : Int)].toArray w fun e w' => ∃ g, e = .returned (.tuple [.slice (some ⟨g, 0, none⟩) 64 64, .int .i64 0].toArray) ∧ w.heap.size ≤ g ∧ w'.heap[g]? = some (.cells (bytesV x).toArray 5 (0, 0)) ∧ Below w.heap.size w w' := by
  have hbl := (Array.getElem?_eq_some_iff.1 hb).1
  have c1 : w.cell? ⟨bd, 1, none⟩ = some (.slice (some ⟨bn, 0, none⟩) n cn) := by rw [cell_of_row w bd 1 _ _ _ hb]; rfl
  have g1 : decide ((i : Int) < 0) = false := decide_eq_false (by omega)
  have g2 : decide ((n : Int) ≤ (i : Int)) = false := decide_eq_false (by omega)
  have hxl : x.length = 64 := hS x (List.mem_of_getElem? hx)
  have hrow : Reads w (some ⟨bn, 0 + i * 64, none⟩) 64 (bytesV x) := by
    have h := reads_pre hbn
    rw [secV_length hS] at h
    unfold secV at h
    exact Reads.row (f := bytesV) (l := now) h hS.each hx
  refine enter Try.func53 rfl Try.ntmps53 (by simp) ?_
  repeat (first | refine S_scope ?_ | refine S_label ?_ | refine E_noGoto_normal ?_ | refine E_noGoto_ret ?_ | refine E_noGoto_exit ?_ | refine S_yes rfl (by first | with_reducible rfl | decide) ?_ | refine S_no rfl (by first | with_reducible rfl | decide) ?_ | refine S_seq ?_ | refine E_seq ?_ | refine S_block ?_ | refine E_block_normal ?_ | refine S_skip ?_ | refine S_exit ?_ | refine S_ret ?_ | refine E_then_exit ?_ | refine E_then_ret ?_ | refine E_block_ret ?_ | refine E_block_exit ?_ | refine E_block_exit_other rfl ?_)
  refine S_region ?_
  refine R_cons rfl (op_pure (p_assign rfl) rfl ?_)
  refine R_cons rfl (op_pure (p_assign rfl) rfl ?_)
  refine R_nil ?_
  repeat (first | refine S_scope ?_ | refine S_label ?_ | refine E_noGoto_normal ?_ | refine E_noGoto_ret ?_ | refine E_noGoto_exit ?_ | refine S_yes rfl (by first | with_reducible rfl | decide) ?_ | refine S_no rfl (by first | with_reducible rfl | decide) ?_ | refine S_seq ?_ | refine E_seq ?_ | refine S_block ?_ | refine E_block_normal ?_ | refine S_skip ?_ | refine S_exit ?_ | refine S_ret ?_ | refine E_then_exit ?_ | refine E_then_ret ?_ | refine E_block_ret ?_ | refine E_block_exit ?_ | refine E_block_exit_other rfl ?_)
  refine S_region ?_
  refine R_cons rfl (op_pure (p_move rfl) rfl ?_)
  refine R_cons rfl (op_callV rfl rfl Try.func62 rfl (by kernel_rfl) rfl (Nat.le_refl _) (fun w' hm => dnone_any bd n cs As _ vw left bl (by omega) w' (below_block hm.below hb)) ?_)
  refine R_cons rfl (op_pure (p_assign rfl) rfl ?_)
  refine R_nil ?_
  repeat (first | refine S_scope ?_ | refine S_label ?_ | refine E_noGoto_normal ?_ | refine E_noGoto_ret ?_ | refine E_noGoto_exit ?_ | refine S_yes rfl (by first | with_reducible rfl | decide) ?_ | refine S_no rfl (by first | with_reducible rfl | decide) ?_ | refine S_seq ?_ | refine E_seq ?_ | refine S_block ?_ | refine E_block_normal ?_ | refine S_skip ?_ | refine S_exit ?_ | refine S_ret ?_ | refine E_then_exit ?_ | refine E_then_ret ?_ | refine E_block_ret ?_ | refine E_block_exit ?_ | refine E_block_exit_other rfl ?_)
  refine S_region ?_
  refine R_cons rfl (op_pure (p_move rfl) rfl ?_)
  refine R_cons rfl (op_pure (p_bin rfl rfl (b_lss g1)) rfl ?_)
  refine R_cons rfl (op_pure (p_move rfl) rfl ?_)
  first | refine R_pass rfl rfl rfl rfl ?_ | refine R_pass_undef rfl rfl rfl ?_ | refine R_guard rfl rfl rfl (op_pure (p_move rfl) rfl ?_)
  first | refine R_pass rfl rfl rfl rfl ?_ | refine R_pass_undef rfl rfl rfl ?_ | refine R_guard rfl rfl rfl (op_pure (p_move rfl) rfl ?_)
  first | refine R_pass rfl rfl rfl rfl ?_ | refine R_pass_undef rfl rfl rfl ?_ | refine R_guard rfl rfl rfl (op_pure (p_nilCheck rfl) rfl ?_)
  first | refine R_pass rfl rfl rfl rfl ?_ | refine R_pass_undef rfl rfl rfl ?_ | refine R_guard rfl rfl rfl (op_pure (by first | exact p_fieldAddr0 rfl fd_disks_Disk_1 | exact p_fieldAddr rfl fd_disks_Disk_1) rfl ?_)
  first | refine R_pass rfl rfl rfl rfl ?_ | refine R_pass_undef rfl rfl rfl ?_ | refine R_guard rfl rfl rfl (op_pure (p_load_base rfl sc_disks_sector hbl (by simp) c1) rfl ?_)
  first | refine R_pass rfl rfl rfl rfl ?_ | refine R_pass_undef rfl rfl rfl ?_ | refine R_guard rfl rfl rfl (op_pure (p_lenR rfl slr_disks_sector) rfl ?_)
  first | refine R_pass rfl rfl rfl rfl ?_ | refine R_pass_undef rfl rfl rfl ?_ | refine R_guard rfl rfl rfl (op_pure (p_bin rfl rfl (b_geq g2)) rfl ?_)
  refine R_cons rfl (op_pure (by first | exact p_pick_yes rfl rfl | exact p_pick_no rfl rfl | exact p_pick rfl rfl rfl) rfl ?_)
  refine R_cons rfl (op_pure (p_assign rfl) rfl ?_)
  refine R_nil ?_
  repeat (first | refine S_scope ?_ | refine S_label ?_ | refine E_noGoto_normal ?_ | refine E_noGoto_ret ?_ | refine E_noGoto_exit ?_ | refine S_yes rfl (by first | with_reducible rfl | decide) ?_ | refine S_no rfl (by first | with_reducible rfl | decide) ?_ | refine S_seq ?_ | refine E_seq ?_ | refine S_block ?_ | refine E_block_normal ?_ | refine S_skip ?_ | refine S_exit ?_ | refine S_ret ?_ | refine E_then_exit ?_ | refine E_then_ret ?_ | refine E_block_ret ?_ | refine E_block_exit ?_ | refine E_block_exit_other rfl ?_)
  refine S_region ?_
  refine R_cons rfl (op_makeSlice (l := 64) (c := 64) rfl rfl rfl rfl slc_u8s.1 el_u8 (by decide) (by decide) (by decide) rfl (Nat.le_refl _) (fun b22 => ?_))
  refine R_cons rfl (op_pure (p_assign rfl) rfl ?_)
  refine R_nil ?_
  repeat (first | refine S_scope ?_ | refine S_label ?_ | refine E_noGoto_normal ?_ | refine E_noGoto_ret ?_ | refine E_noGoto_exit ?_ | refine S_yes rfl (by first | with_reducible rfl | decide) ?_ | refine S_no rfl (by first | with_reducible rfl | decide) ?_ | refine S_seq ?_ | refine E_seq ?_ | refine S_block ?_ | refine E_block_normal ?_ | refine S_skip ?_ | refine S_exit ?_ | refine S_ret ?_ | refine E_then_exit ?_ | refine E_then_ret ?_ | refine E_block_ret ?_ | refine E_block_exit ?_ | refine E_block_exit_other rfl ?_)
  refine S_region ?_
  refine R_cons rfl (op_pure (p_move rfl) rfl ?_)
  refine R_cons rfl (op_pure (p_move rfl) rfl ?_)
  refine R_cons rfl (op_pure (p_nilCheck rfl) rfl ?_)
  refine R_cons rfl (op_pure (by first | exact p_fieldAddr0 rfl fd_disks_Disk_1 | exact p_fieldAddr rfl fd_disks_Disk_1) rfl ?_)
  refine R_cons rfl (op_pure (p_load_base rfl sc_disks_sector hbl (by simp) c1) rfl ?_)
  refine R_cons rfl (op_pure (p_move rfl) rfl ?_)
  refine R_cons rfl (op_pure (p_indexR (j := i) rfl rfl rfl slr_disks_sector hi) rfl ?_)
  refine R_cons rfl (op_pure (p_sliceArr rfl arr_disks_sector) rfl ?_)
  refine R_cons rfl (op_copy (n := 64) rfl rfl slc_u8s rfl (fun w' hm => hrow.base hm) (bytesV_one _) (by repeat (first | exact At.here | apply At.there)) (by decide) rfl ?_)
  refine R_nil ?_
  repeat (first | refine S_scope ?_ | refine S_label ?_ | refine E_noGoto_normal ?_ | refine E_noGoto_ret ?_ | refine E_noGoto_exit ?_ | refine S_yes rfl (by first | with_reducible rfl | decide) ?_ | refine S_no rfl (by first | with_reducible rfl | decide) ?_ | refine S_seq ?_ | refine E_seq ?_ | refine S_block ?_ | refine E_block_normal ?_ | refine S_skip ?_ | refine S_exit ?_ | refine S_ret ?_ | refine E_then_exit ?_ | refine E_then_ret ?_ | refine E_block_ret ?_ | refine E_block_exit ?_ | refine E_block_exit_other rfl ?_)
  refine S_region ?_
  refine R_cons rfl (op_pure (p_move rfl) rfl ?_)
  refine R_cons rfl (op_pure (p_assign rfl) rfl ?_)
  refine R_cons rfl (op_pure (p_assign rfl) rfl ?_)
  refine R_nil ?_
  repeat (first | refine S_scope ?_ | refine S_label ?_ | refine E_noGoto_normal ?_ | refine E_noGoto_ret ?_ | refine E_noGoto_exit ?_ | refine S_yes rfl (by first | with_reducible rfl | decide) ?_ | refine S_no rfl (by first | with_reducible rfl | decide) ?_ | refine S_seq ?_ | refine E_seq ?_ | refine S_block ?_ | refine E_block_normal ?_ | refine S_skip ?_ | refine S_exit ?_ | refine S_ret ?_ | refine E_then_exit ?_ | refine E_then_ret ?_ | refine E_block_ret ?_ | refine E_block_exit ?_ | refine E_block_exit_other rfl ?_)
  have hlay : lay (List.replicate 64 (.int .u8 0)) 0 ((bytesV x).take 64) = bytesV x := by
    rw [List.take_of_length_le (by rw [bytesV_length, hxl]; exact Nat.le_refl _)]
    exact lay_whole (by rw [bytesV_length, hxl]; rfl)
  rw [hlay]
  refine E_ret2 rfl rfl rfl fun w' hm => ⟨b22, rfl, ?_, (hm.own (b22, _) (by repeat (first | exact List.Mem.head _ | apply List.Mem.tail))).2, hm.below⟩
  rcases (hm.own (b22, _) (by repeat (first | exact List.Mem.head _ | apply List.Mem.tail))).1 with h | h
  · exact h
  · cases h

set_option maxHeartbeats 1000000 in
theorem dsettle_any (bd bs bn n cs cn : Nat) (vw : Value) (left : Int) (bl : Bool) (sure now : List (List UInt8)) (sps spn : List Value) (hS : Secs sure) (hN : Secs now) (hsl : sure.length = n) (hnl : now.length = n) (hn : n ≠ 0) (w : World)
    (hm : Mem w.heap.size ⟨w, [bd, bs, bn]⟩ [(bd, .cells (diskC (.slice (some ⟨bs, 0, none⟩) n cs) (.slice (some ⟨bn, 0, none⟩) n cn) vw left bl).toArray 113 (0, 0)), (bs, .cells (secV sure ++ sps).toArray 115 (0, 0)), (bn, .cells (secV now ++ spn).toArray 115 (0, 0))] w) :
    Calls Try.prog 63 [.pointer (some ⟨bd, 0, none⟩)].toArray w fun e w' => ∃ v H', e = .returned v ∧ Mem w.heap.size ⟨w, [bd, bs, bn]⟩ H' w' ∧ v = .tuple #[] ∧
      H' = [(bd, .cells (diskC (.slice (some ⟨bs, 0, none⟩) n cs) (.slice (some ⟨bn, 0, none⟩) n cn) (.slice none 0 0) left bl).toArray 113 (0, 0)), (bs, .cells (secV now ++ sps).toArray 115 (0, 0)), (bn, .cells (secV now ++ spn).toArray 115 (0, 0))] := by
  have hl1 := secV_length hS
  have hl2 := secV_length hN
  have hlay : lay (secV sure ++ sps) 0 (secV now) = secV now ++ sps := by
    rw [lay_append_row (by rw [hl1, hl2]; omega), lay_whole (by rw [hl1, hl2]; omega)]
  have hmin : Nat.min n n = n := Nat.min_self n
  have hn64 : n * 64 ≠ 0 := by omega
  refine enter_at Try.func63 rfl Try.ntmps63 (by simp) hm ?_
  repeat (first | refine S_scope ?_ | refine S_label ?_ | refine E_noGoto_normal ?_ | refine E_noGoto_ret ?_ | refine E_noGoto_exit ?_ | refine S_yes rfl (by first | with_reducible rfl | decide) ?_ | refine S_no rfl (by first | with_reducible rfl | decide) ?_ | refine S_seq ?_ | refine E_seq ?_ | refine S_block ?_ | refine E_block_normal ?_ | refine S_skip ?_ | refine S_exit ?_ | refine S_ret ?_ | refine E_then_exit ?_ | refine E_then_ret ?_ | refine E_block_ret ?_ | refine E_block_exit ?_ | refine E_block_exit_other rfl ?_)
  refine S_tail 8 (by kernel_rfl) (by kernel_rfl) (by kernel_rfl) (by kernel_rfl) ?_
  refine Q_cons (Still1.of_pure (p_move rfl)) rfl ?_
  refine Q_cons (Still1.of_pure (p_nilCheck rfl)) rfl ?_
  refine Q_cons (Still1.of_pure (by first | exact p_fieldAddr0 rfl fd_disks_Disk_0 | exact p_fieldAddr rfl fd_disks_Disk_0)) rfl ?_
  refine Q_cons (Still1.of_pure (by first | exact p_load rfl sc_disks_sector (by repeat (first | exact List.Mem.head _ | apply List.Mem.tail)) (by first | assumption | exact bytesV_get (by omega) | exact wordsV_get (by omega) | rfl) | exact p_load_base rfl sc_disks_sector (by assumption) (by simp) (by assumption))) rfl ?_
  refine Q_cons (Still1.of_pure (p_move rfl)) rfl ?_
  refine Q_cons (Still1.of_pure (p_nilCheck rfl)) rfl ?_
  refine Q_cons (Still1.of_pure (by first | exact p_fieldAddr0 rfl fd_disks_Disk_1 | exact p_fieldAddr rfl fd_disks_Disk_1)) rfl ?_
  refine Q_cons (Still1.of_pure (by first | exact p_load rfl sc_disks_sector (by repeat (first | exact List.Mem.head _ | apply List.Mem.tail)) (by first | assumption | exact bytesV_get (by omega) | exact wordsV_get (by omega) | rfl) | exact p_load_base rfl sc_disks_sector (by assumption) (by simp) (by assumption))) rfl ?_
  refine Q_nop ?_
  refine Q_nil ?_
  refine E_tail ?_
  refine R_cons rfl (op_copyR (s := 64) (n := n) (xs := secV now) rfl rfl slr_disks_sector.1 (by kernel_rfl) hmin hn64 (fun w' hm => by have h := hm.readsPre (b := bn) (xs := secV now) (by repeat (first | exact List.Mem.head _ | apply List.Mem.tail)); rw [hl2, hnl] at h; exact h) (secV_one _) (by repeat (first | exact At.here | apply At.there)) (by rw [List.length_append, hl1]; omega) rfl ?_)
  refine R_nil ?_
  repeat (first | refine S_scope ?_ | refine S_label ?_ | refine E_noGoto_normal ?_ | refine E_noGoto_ret ?_ | refine E_noGoto_exit ?_ | refine S_yes rfl (by first | with_reducible rfl | decide) ?_ | refine S_no rfl (by first | with_reducible rfl | decide) ?_ | refine S_seq ?_ | refine E_seq ?_ | refine S_block ?_ | refine E_block_normal ?_ | refine S_skip ?_ | refine S_exit ?_ | refine S_ret ?_ | refine E_then_exit ?_ | refine E_then_ret ?_ | refine E_block_ret ?_ | refine E_block_exit ?_ | refine E_block_exit_other rfl ?_)
  rw [hlay]
  refine S_region ?_
  refine R_cons rfl (op_pure (p_move rfl) rfl ?_)
  refine R_cons rfl (op_pure (p_nilCheck rfl) rfl ?_)
  refine R_cons rfl (op_pure (by first | exact p_fieldAddr0 rfl fd_disks_Disk_2 | exact p_fieldAddr rfl fd_disks_Disk_2) rfl ?_)
  refine R_cons rfl (op_store rfl rfl rfl sc_disks_write (by repeat (first | exact At.here | apply At.there)) (by first | exact Nat.le_of_ble_eq_true rfl | omega | (simp only [bytesV_length, wordsV_length]; omega) | (simp only [bytesV_length, wordsV_length, List.length_cons, List.length_nil, List.length_set, List.length_append]; omega) | decide) ?_)
  refine R_nil ?_
  repeat (first | refine S_scope ?_ | refine S_label ?_ | refine E_noGoto_normal ?_ | refine E_noGoto_ret ?_ | refine E_noGoto_exit ?_ | refine S_yes rfl (by first | with_reducible rfl | decide) ?_ | refine S_no rfl (by first | with_reducible rfl | decide) ?_ | refine S_seq ?_ | refine E_seq ?_ | refine S_block ?_ | refine E_block_normal ?_ | refine S_skip ?_ | refine S_exit ?_ | refine S_ret ?_ | refine E_then_exit ?_ | refine E_then_ret ?_ | refine E_block_ret ?_ | refine E_block_exit ?_ | refine E_block_exit_other rfl ?_)
  exact E_end0 rfl fun w' hm => ⟨_, _, rfl, hm, rfl, rfl⟩

set_option maxHeartbeats 1000000 in
theorem dsync_any (bd bs bn n cs cn : Nat) (vw : Value) (left : Int) (bl : Bool) (hlo : -9223372036854775808 ≤ left) (hhi : left ≤ 9223372036854775807) (sure now : List (List UInt8)) (sps spn : List Value) (hS : Secs sure) (hN : Secs now) (hsl : sure.length = n) (hnl : now.length = n) (hn : n ≠ 0) (w : World)
    (hm : Mem w.heap.size ⟨w, [bd, bs, bn]⟩ [(bd, .cells (diskC (.slice (some ⟨bs, 0, none⟩) n cs) (.slice (some ⟨bn, 0, none⟩) n cn) vw left bl).toArray 113 (0, 0)), (bs, .cells (secV sure ++ sps).toArray 115 (0, 0)), (bn, .cells (secV now ++ spn).toArray 115 (0, 0))] w) :
    Calls Try.prog 61 [.pointer (some ⟨bd, 0, none⟩)].toArray w fun e w' => ∃ v H', e = .returned v ∧ Mem w.heap.size ⟨w, [bd, bs, bn]⟩ H' w' ∧
      v = .int .i64 (if blownS left bl then 9 else 0) ∧
      H' = [(bd, .cells (diskC (.slice (some ⟨bs, 0, none⟩) n cs) (.slice (some ⟨bn, 0, none⟩) n cn) (if blownS left bl then vw else .slice none 0 0) (leftS left bl) (blownS left bl)).toArray 113 (0, 0)), (bs, .cells (secV (if blownS left bl then sure else now) ++ sps).toArray 115 (0, 0)), (bn, .cells (secV now ++ spn).toArray 115 (0, 0))] := by
  refine enter_at Try.func61 rfl Try.ntmps61 (by simp) hm ?_
  repeat (first | refine S_scope ?_ | refine S_label ?_ | refine E_noGoto_normal ?_ | refine E_noGoto_ret ?_ | refine E_noGoto_exit ?_ | refine S_yes rfl (by first | with_reducible rfl | decide) ?_ | refine S_no rfl (by first | with_reducible rfl | decide) ?_ | refine S_seq ?_ | refine E_seq ?_ | refine S_block ?_ | refine E_block_normal ?_ | refine S_skip ?_ | refine S_exit ?_ | refine S_ret ?_ | refine E_then_exit ?_ | refine E_then_ret ?_ | refine E_block_ret ?_ | refine E_block_exit ?_ | refine E_block_exit_other rfl ?_)
  refine S_region ?_
  refine R_cons rfl (op_pure (p_assign rfl) rfl ?_)
  refine R_nil ?_
  repeat (first | refine S_scope ?_ | refine S_label ?_ | refine E_noGoto_normal ?_ | refine E_noGoto_ret ?_ | refine E_noGoto_exit ?_ | refine S_yes rfl (by first | with_reducible rfl | decide) ?_ | refine S_no rfl (by first | with_reducible rfl | decide) ?_ | refine S_seq ?_ | refine E_seq ?_ | refine S_block ?_ | refine E_block_normal ?_ | refine S_skip ?_ | refine S_exit ?_ | refine S_ret ?_ | refine E_then_exit ?_ | refine E_then_ret ?_ | refine E_block_ret ?_ | refine E_block_exit ?_ | refine E_block_exit_other rfl ?_)
  refine S_region ?_
  refine R_cons rfl (op_pure (p_move rfl) rfl ?_)
  refine R_cons rfl (op_callV rfl rfl Try.func62 rfl (by kernel_rfl) rfl (Nat.le_refl _) (fun w' hm => dnone_any bd n cs _ _ vw left bl hn w' (hm.own (bd, _) (by repeat (first | exact List.Mem.head _ | apply List.Mem.tail))).2) ?_)
  refine R_cons rfl (op_pure (p_assign rfl) rfl ?_)
  refine R_nil ?_
  repeat (first | refine S_scope ?_ | refine S_label ?_ | refine E_noGoto_normal ?_ | refine E_noGoto_ret ?_ | refine E_noGoto_exit ?_ | refine S_yes rfl (by first | with_reducible rfl | decide) ?_ | refine S_no rfl (by first | with_reducible rfl | decide) ?_ | refine S_seq ?_ | refine E_seq ?_ | refine S_block ?_ | refine E_block_normal ?_ | refine S_skip ?_ | refine S_exit ?_ | refine S_ret ?_ | refine E_then_exit ?_ | refine E_then_ret ?_ | refine E_block_ret ?_ | refine E_block_exit ?_ | refine E_block_exit_other rfl ?_)
  refine S_region ?_
  refine R_cons rfl (op_pure (p_move rfl) rfl ?_)
  refine R_cons rfl (op_callH (Hc := [(bd, .cells (diskC (.slice (some ⟨bs, 0, none⟩) n cs) (.slice (some ⟨bn, 0, none⟩) n cn) vw left bl).toArray 113 (0, 0))]) (K := [(bs, .cells (secV sure ++ sps).toArray 115 (0, 0)), (bn, .cells (secV now ++ spn).toArray 115 (0, 0))]) rfl rfl Try.func70 rfl (by kernel_rfl) rfl (List.Perm.refl _) (fun w' hm => dspent_any bd _ _ vw left bl hlo hhi w' hm) (fun v H' hp => ?_))
  obtain ⟨rfl, rfl⟩ := hp
  refine R_cons rfl (op_pure (p_assign rfl) rfl ?_)
  refine R_nil ?_
  cases hbw : blownS left bl with
  | true =>
    repeat (first | refine S_scope ?_ | refine S_label ?_ | refine E_noGoto_normal ?_ | refine E_noGoto_ret ?_ | refine E_noGoto_exit ?_ | refine S_yes rfl (by first | with_reducible rfl | decide) ?_ | refine S_no rfl (by first | with_reducible rfl | decide) ?_ | refine S_seq ?_ | refine E_seq ?_ | refine S_block ?_ | refine E_block_normal ?_ | refine S_skip ?_ | refine S_exit ?_ | refine S_ret ?_ | refine E_then_exit ?_ | refine E_then_ret ?_ | refine E_block_ret ?_ | refine E_block_exit ?_ | refine E_block_exit_other rfl ?_)
    refine S_region ?_
    refine R_cons rfl (op_pure (p_assign rfl) rfl ?_)
    refine R_nil ?_
    repeat (first | refine S_scope ?_ | refine S_label ?_ | refine E_noGoto_normal ?_ | refine E_noGoto_ret ?_ | refine E_noGoto_exit ?_ | refine S_yes rfl (by first | with_reducible rfl | decide) ?_ | refine S_no rfl (by first | with_reducible rfl | decide) ?_ | refine S_seq ?_ | refine E_seq ?_ | refine S_block ?_ | refine E_block_normal ?_ | refine S_skip ?_ | refine S_exit ?_ | refine S_ret ?_ | refine E_then_exit ?_ | refine E_then_ret ?_ | refine E_block_ret ?_ | refine E_block_exit ?_ | refine E_block_exit_other rfl ?_)
    exact E_ret1 rfl rfl fun w' hm => ⟨_, _, rfl, hm, rfl, rfl⟩
  | false =>
    repeat (first | refine S_scope ?_ | refine S_label ?_ | refine E_noGoto_normal ?_ | refine E_noGoto_ret ?_ | refine E_noGoto_exit ?_ | refine S_yes rfl (by first | with_reducible rfl | decide) ?_ | refine S_no rfl (by first | with_reducible rfl | decide) ?_ | refine S_seq ?_ | refine E_seq ?_ | refine S_block ?_ | refine E_block_normal ?_ | refine S_skip ?_ | refine S_exit ?_ | refine S_ret ?_ | refine E_then_exit ?_ | refine E_then_ret ?_ | refine E_block_ret ?_ | refine E_block_exit ?_ | refine E_block_exit_other rfl ?_)
    refine S_region ?_
    refine R_cons rfl (op_pure (p_move rfl) rfl ?_)
    refine R_cons rfl (op_callH (Hc := [(bd, .cells (diskC (.slice (some ⟨bs, 0, none⟩) n cs) (.slice (some ⟨bn, 0, none⟩) n cn) vw (leftS left bl) false).toArray 113 (0, 0)), (bs, .cells (secV sure ++ sps).toArray 115 (0, 0)), (bn, .cells (secV now ++ spn).toArray 115 (0, 0))]) (K := []) rfl rfl Try.func63 rfl (by kernel_rfl) rfl (by rw [List.append_nil]; exact List.Perm.refl _) (fun w' hm => dsettle_any bd bs bn n cs cn vw (leftS left bl) false sure now sps spn hS hN hsl hnl hn w' hm) (fun v H' hp => ?_))
    refine R_nil ?_
    obtain ⟨rfl, rfl⟩ := hp
    repeat (first | refine S_scope ?_ | refine S_label ?_ | refine E_noGoto_normal ?_ | refine E_noGoto_ret ?_ | refine E_noGoto_exit ?_ | refine S_yes rfl (by first | with_reducible rfl | decide) ?_ | refine S_no rfl (by first | with_reducible rfl | decide) ?_ | refine S_seq ?_ | refine E_seq ?_ | refine S_block ?_ | refine E_block_normal ?_ | refine S_skip ?_ | refine S_exit ?_ | refine S_ret ?_ | refine E_then_exit ?_ | refine E_then_ret ?_ | refine E_block_ret ?_ | refine E_block_exit ?_ | refine E_block_exit_other rfl ?_)
    refine S_region ?_
    refine R_cons rfl (op_pure (p_assign rfl) rfl ?_)
    refine R_nil ?_
    repeat (first | refine S_scope ?_ | refine S_label ?_ | refine E_noGoto_normal ?_ | refine E_noGoto_ret ?_ | refine E_noGoto_exit ?_ | refine S_yes rfl (by first | with_reducible rfl | decide) ?_ | refine S_no rfl (by first | with_reducible rfl | decide) ?_ | refine S_seq ?_ | refine E_seq ?_ | refine S_block ?_ | refine E_block_normal ?_ | refine S_skip ?_ | refine S_exit ?_ | refine S_ret ?_ | refine E_then_exit ?_ | refine E_then_ret ?_ | refine E_block_ret ?_ | refine E_block_exit ?_ | refine E_block_exit_other rfl ?_)
    exact E_ret1 rfl rfl fun w' hm => ⟨_, _, rfl, hm, rfl, rfl⟩

theorem dclone_any (b n c : Nat) (l : List (List UInt8)) (sp : List Value) (hS : Secs l) (hl : l.length = n) (hn : n ≠ 0) (hn2 : n ≤ 4096) (w : World) (hb : w.heap[b]? = some (.cells (secV l ++ sp).toArray 115 (0, 0))) :
    Calls Try.prog 64 [.slice (some ⟨b, 0, none⟩) n c].toArray w fun e w' => ∃ g cap sp', e = .returned (.slice (some ⟨g, 0, none⟩) n cap) ∧ w.heap.size ≤ g ∧ w'.heap[g]? = some (.cells (secV l ++ sp').toArray 115 (0, 0)) ∧ (n ≤ cap ∧ cap ≤ maxLen) ∧ Below w.heap.size w w' := by
  have hl2 := secV_length hS
  have hsrc := reads_pre hb
  rw [hl2, hl] at hsrc
  refine enter Try.func64 rfl Try.ntmps64 (by simp) ?_
  repeat (first | refine S_scope ?_ | refine S_label ?_ | refine E_noGoto_normal ?_ | refine E_noGoto_ret ?_ | refine E_noGoto_exit ?_ | refine S_yes rfl (by first | with_reducible rfl | decide) ?_ | refine S_no rfl (by first | with_reducible rfl | decide) ?_ | refine S_seq ?_ | refine E_seq ?_ | refine S_block ?_ | refine E_block_normal ?_ | refine S_skip ?_ | refine S_exit ?_ | refine S_ret ?_ | refine E_then_exit ?_ | refine E_then_ret ?_ | refine E_block_ret ?_ | refine E_block_exit ?_ | refine E_block_exit_other rfl ?_)
  refine S_region ?_
  refine R_cons rfl (op_pure (p_assign rfl) rfl ?_)
  refine R_nil ?_
  repeat (first | refine S_scope ?_ | refine S_label ?_ | refine E_noGoto_normal ?_ | refine E_noGoto_ret ?_ | refine E_noGoto_exit ?_ | refine S_yes rfl (by first | with_reducible rfl | decide) ?_ | refine S_no rfl (by first | with_reducible rfl | decide) ?_ | refine S_seq ?_ | refine E_seq ?_ | refine S_block ?_ | refine E_block_normal ?_ | refine S_skip ?_ | refine S_exit ?_ | refine S_ret ?_ | refine E_then_exit ?_ | refine E_then_ret ?_ | refine E_block_ret ?_ | refine E_block_exit ?_ | refine E_block_exit_other rfl ?_)
  refine S_region ?_
  refine R_cons rfl (op_pure (p_move rfl) rfl ?_)
  refine R_cons rfl (op_pure (p_eql_sliceNil rfl rfl slr_disks_sector.1) rfl ?_)
  refine R_nil ?_
  repeat (first | refine S_scope ?_ | refine S_label ?_ | refine E_noGoto_normal ?_ | refine E_noGoto_ret ?_ | refine E_noGoto_exit ?_ | refine S_yes rfl (by first | with_reducible rfl | decide) ?_ | refine S_no rfl (by first | with_reducible rfl | decide) ?_ | refine S_seq ?_ | refine E_seq ?_ | refine S_block ?_ | refine E_block_normal ?_ | refine S_skip ?_ | refine S_exit ?_ | refine S_ret ?_ | refine E_then_exit ?_ | refine E_then_ret ?_ | refine E_block_ret ?_ | refine E_block_exit ?_ | refine E_block_exit_other rfl ?_)
  refine S_region ?_
  refine R_cons rfl (op_buildSlice0 (s := 64) slr_disks_sector.1 (by kernel_rfl) rfl (Nat.le_refl _) (fun b5 => ?_))
  refine R_cons rfl (op_pure (p_move rfl) rfl ?_)
  refine R_cons rfl (op_appendR (s := 64) (bytes := 64) (n := 0) (cap := 0) (m := n) (xs := []) (sp := []) (ys := secV l) rfl rfl slr_disks_sector.1 elr_disks_sector (by decide) (by repeat (first | exact Del.here | apply Del.there)) (by simp) (by simp) (Nat.zero_le _) (fun w' hm => hsrc.base hm) (secV_one _) (by omega) (by omega) (by omega) rfl (Nat.le_refl _) (fun b' c' s' h' i' j' => ?_))
  refine R_cons rfl (op_pure (p_assign rfl) rfl ?_)
  refine R_nil ?_
  repeat (first | refine S_scope ?_ | refine S_label ?_ | refine E_noGoto_normal ?_ | refine E_noGoto_ret ?_ | refine E_noGoto_exit ?_ | refine S_yes rfl (by first | with_reducible rfl | decide) ?_ | refine S_no rfl (by first | with_reducible rfl | decide) ?_ | refine S_seq ?_ | refine E_seq ?_ | refine S_block ?_ | refine E_block_normal ?_ | refine S_skip ?_ | refine S_exit ?_ | refine S_ret ?_ | refine E_then_exit ?_ | refine E_then_ret ?_ | refine E_block_ret ?_ | refine E_block_exit ?_ | refine E_block_exit_other rfl ?_)
  rw [Nat.zero_add] at i' ⊢
  refine E_ret1 rfl rfl fun w' hm => ⟨b', c', s', rfl, ?_, (hm.own (b', _) (by repeat (first | exact List.Mem.head _ | apply List.Mem.tail))).2, ⟨i', j'⟩, hm.below⟩
  rcases (hm.own (b', _) (by repeat (first | exact List.Mem.head _ | apply List.Mem.tail))).1 with h | h
  · exact h
  · cases h

theorem dof_any (bs n cs : Nat) (l : List (List UInt8)) (sp : List Value) (hS : Secs l) (hl : l.length = n) (hn : n ≠ 0) (hn2 : n ≤ 4096) (w : World) (hm : Mem w.heap.size ⟨w, [bs]⟩ [(bs, .cells (secV l ++ sp).toArray 115 (0, 0))] w) :
    Calls Try.prog 51 [.slice (some ⟨bs, 0, none⟩) n cs].toArray w fun e w' => ∃ v H', e = .returned v ∧ Mem w.heap.size ⟨w, [bs]⟩ H' w' ∧ ∃ bd bn cn spn, v = .pointer (some ⟨bd, 0, none⟩) ∧ (n ≤ cn ∧ cn ≤ maxLen) ∧
      H' = [(bd, .cells (diskC (.slice (some ⟨bs, 0, none⟩) n cs) (.slice (some ⟨bn, 0, none⟩) n cn) (.slice none 0 0) (-1) false).toArray 113 (0, 0)), (bs, .cells (secV l ++ sp).toArray 115 (0, 0)), (bn, .cells (secV l ++ spn).toArray 115 (0, 0))] := by
  refine enter_at Try.func51 rfl Try.ntmps51 (by simp) hm ?_
  repeat (first | refine S_scope ?_ | refine S_label ?_ | refine E_noGoto_normal ?_ | refine E_noGoto_ret ?_ | refine E_noGoto_exit ?_ | refine S_yes rfl (by first | with_reducible rfl | decide) ?_ | refine S_no rfl (by first | with_reducible rfl | decide) ?_ | refine S_seq ?_ | refine E_seq ?_ | refine S_block ?_ | refine E_block_normal ?_ | refine S_skip ?_ | refine S_exit ?_ | refine S_ret ?_ | refine E_then_exit ?_ | refine E_then_ret ?_ | refine E_block_ret ?_ | refine E_block_exit ?_ | refine E_block_exit_other rfl ?_)
  refine S_region ?_
  refine R_cons rfl (op_pure (p_assign rfl) rfl ?_)
  refine R_nil ?_
  repeat (first | refine S_scope ?_ | refine S_label ?_ | refine E_noGoto_normal ?_ | refine E_noGoto_ret ?_ | refine E_noGoto_exit ?_ | refine S_yes rfl (by first | with_reducible rfl | decide) ?_ | refine S_no rfl (by first | with_reducible rfl | decide) ?_ | refine S_seq ?_ | refine E_seq ?_ | refine S_block ?_ | refine E_block_normal ?_ | refine S_skip ?_ | refine S_exit ?_ | refine S_ret ?_ | refine E_then_exit ?_ | refine E_then_ret ?_ | refine E_block_ret ?_ | refine E_block_exit ?_ | refine E_block_exit_other rfl ?_)
  refine S_region ?_
  refine R_cons rfl (op_pure (p_move rfl) rfl ?_)
  refine R_cons rfl (op_pure (p_move rfl) rfl ?_)
  refine R_cons rfl (op_call rfl rfl Try.func64 rfl (by kernel_rfl) rfl fun w1 hm1 => (dclone_any bs n cs l sp hS hl hn hn2 w1 (hm1.own (bs, _) (by repeat (first | exact List.Mem.head _ | apply List.Mem.tail))).2).mono ?_)
  rintro e w2 ⟨g, cap, sp', rfl, hg, hgo, hcap, hbel⟩
  refine ⟨_, _, rfl, hm1.call1 (Nat.le_refl _) hbel hg hgo, ?_⟩
  refine R_cons rfl (op_pure (p_build (ps := [(0, .tmp 3), (1, .tmp 5), (3, .const (.int .i64 (-1)))]) (cs := diskC (.slice (some ⟨bs, 0, none⟩) n cs) (.slice (some ⟨g, 0, none⟩) n cap) (.slice none 0 0) (-1) false) rfl (by kernel_rfl)) rfl ?_)
  refine R_cons rfl (op_boxRow rfl rfl (Nat.le_refl _) (fun b7 => ?_))
  refine R_cons rfl (op_pure (p_assign rfl) rfl ?_)
  refine R_nil ?_
  repeat (first | refine S_scope ?_ | refine S_label ?_ | refine E_noGoto_normal ?_ | refine E_noGoto_ret ?_ | refine E_noGoto_exit ?_ | refine S_yes rfl (by first | with_reducible rfl | decide) ?_ | refine S_no rfl (by first | with_reducible rfl | decide) ?_ | refine S_seq ?_ | refine E_seq ?_ | refine S_block ?_ | refine E_block_normal ?_ | refine S_skip ?_ | refine S_exit ?_ | refine S_ret ?_ | refine E_then_exit ?_ | refine E_then_ret ?_ | refine E_block_ret ?_ | refine E_block_exit ?_ | refine E_block_exit_other rfl ?_)
  exact E_ret1 rfl rfl fun w' hm => ⟨_, _, rfl, hm.perm (List.Perm.cons _ (List.Perm.swap _ _ _)), b7, g, cap, sp', rfl, hcap, rfl⟩

theorem dnew_any (n : Nat) (hn : n ≠ 0) (hn2 : n ≤ 4096) (w : World) :
    Calls Try.prog 19 [.int .i64 (n : Int)].toArray w fun e w' => ∃ v H', e = .returned v ∧ Mem w.heap.size ⟨w, []⟩ H' w' ∧ ∃ bd bs bn cn spn, v = .tuple [.pointer (some ⟨bd, 0, none⟩), .int .i64 0].toArray ∧ (n ≤ cn ∧ cn ≤ maxLen) ∧
      H' = [(bd, .cells (diskC (.slice (some ⟨bs, 0, none⟩) n n) (.slice (some ⟨bn, 0, none⟩) n cn) (.slice none 0 0) (-1) false).toArray 113 (0, 0)), (bs, .cells (secV (List.replicate n (List.replicate 64 0)) ++ []).toArray 115 (0, 0)), (bn, .cells (secV (List.replicate n (List.replicate 64 0)) ++ spn).toArray 115 (0, 0))] := by
  have g1 : decide ((n : Int) < 1) = false := decide_eq_false (by omega)
  have g2 : decide ((4096 : Int) < (n : Int)) = false := decide_eq_false (by omega)
  have hS : Secs (List.replicate n (List.replicate 64 0)) := fun x hx => by rw [List.eq_of_mem_replicate hx]; exact List.length_replicate
  have hl : (List.replicate n (List.replicate 64 (0 : UInt8))).length = n := List.length_replicate
  have hrep : (List.replicate n (bytesV (List.replicate 64 0))).flatMap id = secV (List.replicate n (List.replicate 64 0)) ++ [] := by rw [rep_sec, List.append_nil]
  refine enter Try.func19 rfl Try.ntmps19 (by simp) ?_
  repeat (first | refine S_scope ?_ | refine S_label ?_ | refine E_noGoto_normal ?_ | refine E_noGoto_ret ?_ | refine E_noGoto_exit ?_ | refine S_yes rfl (by first | with_reducible rfl | decide) ?_ | refine S_no rfl (by first | with_reducible rfl | decide) ?_ | refine S_seq ?_ | refine E_seq ?_ | refine S_block ?_ | refine E_block_normal ?_ | refine S_skip ?_ | refine S_exit ?_ | refine S_ret ?_ | refine E_then_exit ?_ | refine E_then_ret ?_ | refine E_block_ret ?_ | refine E_block_exit ?_ | refine E_block_exit_other rfl ?_)
  refine S_region ?_
  refine R_cons rfl (op_pure (p_assign rfl) rfl ?_)
  refine R_cons rfl (op_pure (p_assign rfl) rfl ?_)
  refine R_nil ?_
  repeat (first | refine S_scope ?_ | refine S_label ?_ | refine E_noGoto_normal ?_ | refine E_noGoto_ret ?_ | refine E_noGoto_exit ?_ | refine S_yes rfl (by first | with_reducible rfl | decide) ?_ | refine S_no rfl (by first | with_reducible rfl | decide) ?_ | refine S_seq ?_ | refine E_seq ?_ | refine S_block ?_ | refine E_block_normal ?_ | refine S_skip ?_ | refine S_exit ?_ | refine S_ret ?_ | refine E_then_exit ?_ | refine E_then_ret ?_ | refine E_block_ret ?_ | refine E_block_exit ?_ | refine E_block_exit_other rfl ?_)
  refine S_region ?_
  refine R_cons rfl (op_pure (p_move rfl) rfl ?_)
  refine R_cons rfl (op_pure (p_bin rfl rfl (b_lss g1)) rfl ?_)
  refine R_cons rfl (op_pure (p_move rfl) rfl ?_)
  first | refine R_pass rfl rfl rfl rfl ?_ | refine R_pass_undef rfl rfl rfl ?_ | refine R_guard rfl rfl rfl (op_pure (p_move rfl) rfl ?_)
  first | refine R_pass rfl rfl rfl rfl ?_ | refine R_pass_undef rfl rfl rfl ?_ | refine R_guard rfl rfl rfl (op_pure (p_bin rfl rfl (b_gtr g2)) rfl ?_)
  refine R_cons rfl (op_pure (by first | exact p_pick_yes rfl rfl | exact p_pick_no rfl rfl | exact p_pick rfl rfl rfl) rfl ?_)
  refine R_nil ?_
  repeat (first | refine S_scope ?_ | refine S_label ?_ | refine E_noGoto_normal ?_ | refine E_noGoto_ret ?_ | refine E_noGoto_exit ?_ | refine S_yes rfl (by first | with_reducible rfl | decide) ?_ | refine S_no rfl (by first | with_reducible rfl | decide) ?_ | refine S_seq ?_ | refine E_seq ?_ | refine S_block ?_ | refine E_block_normal ?_ | refine S_skip ?_ | refine S_exit ?_ | refine S_ret ?_ | refine E_then_exit ?_ | refine E_then_ret ?_ | refine E_block_ret ?_ | refine E_block_exit ?_ | refine E_block_exit_other rfl ?_)
  refine S_region ?_
  refine R_cons rfl (op_pure (p_move rfl) rfl ?_)
  refine R_cons rfl (op_makeSliceR (l := n) (c := n) (zs := bytesV (List.replicate 64 0)) rfl rfl rfl rfl slr_disks_sector.1 elr_disks_sector rfl (by decide) (Nat.le_refl _) (by omega) (by omega) rfl (Nat.le_refl _) (fun b11 => ?_))
  rw [hrep]
  refine R_cons rfl (op_callH (Hc := [(b11, .cells (secV (List.replicate n (List.replicate 64 0)) ++ ([] : List Value)).toArray 115 (0, 0))]) (K := []) rfl rfl Try.func51 rfl (by kernel_rfl) rfl (List.Perm.refl _) (fun w' hm => dof_any b11 n n (List.replicate n (List.replicate 64 0)) [] hS hl hn hn2 w' (by exact hm)) (fun v H' hp => ?_))
  obtain ⟨bd, bn, cn, spn, rfl, hc, rfl⟩ := hp
  refine R_cons rfl (op_pure (p_assign rfl) rfl ?_)
  refine R_cons rfl (op_pure (p_assign rfl) rfl ?_)
  refine R_nil ?_
  repeat (first | refine S_scope ?_ | refine S_label ?_ | refine E_noGoto_normal ?_ | refine E_noGoto_ret ?_ | refine E_noGoto_exit ?_ | refine S_yes rfl (by first | with_reducible rfl | decide) ?_ | refine S_no rfl (by first | with_reducible rfl | decide) ?_ | refine S_seq ?_ | refine E_seq ?_ | refine S_block ?_ | refine E_block_normal ?_ | refine S_skip ?_ | refine S_exit ?_ | refine S_ret ?_ | refine E_then_exit ?_ | refine E_then_ret ?_ | refine E_block_ret ?_ | refine E_block_exit ?_ | refine E_block_exit_other rfl ?_)
  exact E_ret2 rfl rfl rfl fun w' hm => ⟨_, _, rfl, hm, bd, b11, bn, cn, spn, rfl, hc, rfl⟩
end Go.Proofs.Ytfdlafjifjndeaa
