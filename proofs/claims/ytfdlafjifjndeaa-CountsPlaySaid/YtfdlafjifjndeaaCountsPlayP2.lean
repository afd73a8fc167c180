/-
  The layer disks: what a disk is in memory; whether it is there, how many sectors, what is spent.
-/
import Derived.Test.YtfdlafjifjndeaaCountsPlayP1
import Derived.Test.YtfdlafjifjndeaaRows
namespace Go.K
def Secs (l : List (List UInt8)) : Prop := ∀ x ∈ l, x.length = 64
def secV (l : List (List UInt8)) : List Value := l.flatMap bytesV
theorem Secs.each {l : List (List UInt8)} (h : Secs l) : ∀ x ∈ l, (bytesV x).length = 64 := fun x hx => by rw [bytesV_length, h x hx]
theorem secV_length {l : List (List UInt8)} (h : Secs l) : (secV l).length = l.length * 64 := flat_length bytesV 64 l h.each
theorem secV_one (l : List (List UInt8)) : ∀ u ∈ secV l, u.oneCell' = true := fun u hu => by
  obtain ⟨x, _, hx⟩ := List.mem_flatMap.1 hu
  exact bytesV_one _ u hx
theorem Secs.set {l : List (List UInt8)} (h : Secs l) (i : Nat) {x : List UInt8} (hx : x.length = 64) : Secs (l.set i x) := fun y hy => by
  rcases List.mem_or_eq_of_mem_set hy with h1 | h1
  · exact h y h1
  · rw [h1]; exact hx
theorem lay_append_row {cs sp r : List Value} {o : Nat} (h : o + r.length ≤ cs.length) : lay (cs ++ sp) o r = lay cs o r ++ sp := by
  rw [lay_eq _ _ _ (by rw [List.length_append]; omega), lay_eq _ _ _ h, List.take_append_of_le_length (by omega), List.drop_append_of_le_length (by omega)]
  simp
theorem lay_sec {l : List (List UInt8)} (h : Secs l) {i : Nat} (hi : i < l.length) {x : List UInt8} (hx : x.length = 64) (sp : List Value) : lay (secV l ++ sp) (i * 64) (bytesV x) = secV (l.set i x) ++ sp := by
  have hb : (bytesV x).length = 64 := by rw [bytesV_length, hx]
  have h1 : i * 64 + 64 ≤ l.length * 64 := by omega
  rw [lay_append_row (by rw [hb, secV_length h]; exact h1)]
  congr 1
  exact lay_row bytesV 64 l h.each i hi x hb
/-- a disk's cells -/
def diskC (vs vn vw : Value) (left : Int) (bl : Bool) : List Value := [vs, vn, vw, .int .i64 left, .bool bl]
/-- a call that asks: the fuse -/
def blownS (left : Int) (bl : Bool) : Bool := bl || left == 0
def leftS (left : Int) (bl : Bool) : Int := if !(blownS left bl) && decide (0 < left) then left - 1 else left
end Go.K
namespace Go.Proofs.Ytfdlafjifjndeaa
open Go.RowKit Go.K
attribute [local irreducible] Exit.then Exit.inBlock Exit.noGoto bodyPost Code.wp QL Sx Rx Qx Ex Dx Op1 Pure1 Still1 K.Sub Calm Code.wpIn
set_option linter.unusedVariables false
theorem row_disks_sector : Row Try.prog 115 64 := ⟨_, Try.underlying115, rfl, by kernel_rfl⟩
theorem elr_disks_sector : ElR Try.prog 115 (.agg (bytesV (List.replicate 64 0)).toArray) 64 64 := by
  obtain ⟨i, h1, h2, h3, h4⟩ := info_parts (show (Try.prog.info? 115).map (fun i => (i.zero, i.size, i.bytes)) = some (some (.agg (bytesV (List.replicate 64 0)).toArray), 64, 64) from by kernel_rfl)
  exact ⟨i, h1, h2, h3, h4, rfl⟩
theorem arr_disks_sector : Arr Try.prog 115 64 5 := ⟨Try.underlying115, sc_u8⟩
theorem fd_disks_place_0 : FldAt Try.prog 118 0 0 := ⟨_, _, 0, Try.underlying118, rfl, rfl, by kernel_rfl⟩
theorem row_disks_write : Row Try.prog 120 65 := ⟨_, Try.underlying120, rfl, by kernel_rfl⟩
theorem zero_disks_write : Zr Try.prog 120 ((([Value.int .i64 0]) ++ (bytesV (List.replicate 64 0)))) := by unfold Zr; kernel_rfl
theorem fd_disks_write_0 : FldAt Try.prog 120 0 0 := ⟨_, _, 0, Try.underlying120, rfl, rfl, by kernel_rfl⟩
theorem fd_disks_write_1 : FldAt Try.prog 120 1 1 := ⟨_, _, 63, Try.underlying120, rfl, rfl, by kernel_rfl⟩
theorem fd_disks_Disk_0 : FldAt Try.prog 113 0 0 := ⟨_, _, 0, Try.underlying113, rfl, rfl, by kernel_rfl⟩
theorem fd_disks_Disk_1 : FldAt Try.prog 113 1 1 := ⟨_, _, 0, Try.underlying113, rfl, rfl, by kernel_rfl⟩
theorem fd_disks_Disk_2 : FldAt Try.prog 113 2 2 := ⟨_, _, 0, Try.underlying113, rfl, rfl, by kernel_rfl⟩
theorem fd_disks_Disk_3 : FldAt Try.prog 113 3 3 := ⟨_, _, 0, Try.underlying113, rfl, rfl, by kernel_rfl⟩
theorem fd_disks_Disk_4 : FldAt Try.prog 113 4 4 := ⟨_, _, 0, Try.underlying113, rfl, rfl, by kernel_rfl⟩
theorem slr_disks_sector : SlR Try.prog 96 115 64 := ⟨Try.underlying96, row_disks_sector⟩
theorem sc_disks_sector : Sc Try.prog 96 := ⟨_, Try.underlying96, rfl, by kernel_rfl⟩
theorem slr_disks_write : SlR Try.prog 111 120 65 := ⟨Try.underlying111, row_disks_write⟩
theorem sc_disks_write : Sc Try.prog 111 := ⟨_, Try.underlying111, rfl, by kernel_rfl⟩
theorem ptr_disks_Disk : Try.prog.underlying 45 = some (.pointer (Try.prog.pointee 45)) := by kernel_rfl
theorem sc_disks_Disk : Sc Try.prog 45 := ⟨_, Try.underlying45, rfl, by kernel_rfl⟩
theorem sc_Errno : Sc Try.prog 36 := ⟨_, Try.underlying36, rfl, by kernel_rfl⟩
theorem zs_Errno : Zs Try.prog 36 (.int .i64 0) := ⟨by kernel_rfl, rfl⟩
theorem dnone_any (bd n c : Nat) (A : Option Addr) (vn vw : Value) (left : Int) (bl : Bool) (hn : n ≠ 0) (w : World) (hb : w.heap[bd]? = some (.cells (diskC (.slice A n c) vn vw left bl).toArray 113 (0, 0))) :
    Calls Try.prog 62 [.pointer (some ⟨bd, 0, none⟩)].toArray w fun e w' => e = .returned (.bool false) ∧ Below w.heap.size w w' := by
  have hbl := (Array.getElem?_eq_some_iff.1 hb).1
  have c0 : w.cell? ⟨bd, 0, none⟩ = some (.slice A n c) := by rw [cell_of_row w bd 0 _ _ _ hb]; rfl
  have g1 : (((n : Nat) : Int) == 0) = false := beq_eq_false_iff_ne.2 (by omega)
  refine enter Try.func62 rfl Try.ntmps62 (by simp) ?_
  repeat (first | refine S_scope ?_ | refine S_label ?_ | refine E_noGoto_normal ?_ | refine E_noGoto_ret ?_ | refine E_noGoto_exit ?_ | refine S_yes rfl (by first | with_reducible rfl | decide) ?_ | refine S_no rfl (by first | with_reducible rfl | decide) ?_ | refine S_seq ?_ | refine E_seq ?_ | refine S_block ?_ | refine E_block_normal ?_ | refine S_skip ?_ | refine S_exit ?_ | refine S_ret ?_ | refine E_then_exit ?_ | refine E_then_ret ?_ | refine E_block_ret ?_ | refine E_block_exit ?_ | refine E_block_exit_other rfl ?_)
  refine S_region ?_
  refine R_cons rfl (op_pure (p_assign rfl) rfl ?_)
  refine R_nil ?_
  repeat (first | refine S_scope ?_ | refine S_label ?_ | refine E_noGoto_normal ?_ | refine E_noGoto_ret ?_ | refine E_noGoto_exit ?_ | refine S_yes rfl (by first | with_reducible rfl | decide) ?_ | refine S_no rfl (by first | with_reducible rfl | decide) ?_ | refine S_seq ?_ | refine E_seq ?_ | refine S_block ?_ | refine E_block_normal ?_ | refine S_skip ?_ | refine S_exit ?_ | refine S_ret ?_ | refine E_then_exit ?_ | refine E_then_ret ?_ | refine E_block_ret ?_ | refine E_block_exit ?_ | refine E_block_exit_other rfl ?_)
  refine S_region ?_
  refine R_cons rfl (op_pure (p_move rfl) rfl ?_)
  refine R_cons rfl (op_pure (p_eql_nil rfl rfl ptr_disks_Disk) rfl ?_)
  refine R_cons rfl (op_pure (p_move rfl) rfl ?_)
  first | refine R_pass rfl rfl rfl rfl ?_ | refine R_pass_undef rfl rfl rfl ?_ | refine R_guard rfl rfl rfl (op_pure (p_move rfl) rfl ?_)
  first | refine R_pass rfl rfl rfl rfl ?_ | refine R_pass_undef rfl rfl rfl ?_ | refine R_guard rfl rfl rfl (op_pure (p_nilCheck rfl) rfl ?_)
  first | refine R_pass rfl rfl rfl rfl ?_ | refine R_pass_undef rfl rfl rfl ?_ | refine R_guard rfl rfl rfl (op_pure (by first | exact p_fieldAddr0 rfl fd_disks_Disk_0 | exact p_fieldAddr rfl fd_disks_Disk_0) rfl ?_)
  first | refine R_pass rfl rfl rfl rfl ?_ | refine R_pass_undef rfl rfl rfl ?_ | refine R_guard rfl rfl rfl (op_pure (p_load_base rfl sc_disks_sector hbl (by simp) c0) rfl ?_)
  first | refine R_pass rfl rfl rfl rfl ?_ | refine R_pass_undef rfl rfl rfl ?_ | refine R_guard rfl rfl rfl (op_pure (p_lenR rfl slr_disks_sector) rfl ?_)
  first | refine R_pass rfl rfl rfl rfl ?_ | refine R_pass_undef rfl rfl rfl ?_ | refine R_guard rfl rfl rfl (op_pure (p_bin rfl rfl (b_eql g1)) rfl ?_)
  refine R_cons rfl (op_pure (by first | exact p_pick_yes rfl rfl | exact p_pick_no rfl rfl | exact p_pick rfl rfl rfl) rfl ?_)
  refine R_cons rfl (op_pure (p_assign rfl) rfl ?_)
  refine R_nil ?_
  repeat (first | refine S_scope ?_ | refine S_label ?_ | refine E_noGoto_normal ?_ | refine E_noGoto_ret ?_ | refine E_noGoto_exit ?_ | refine S_yes rfl (by first | with_reducible rfl | decide) ?_ | refine S_no rfl (by first | with_reducible rfl | decide) ?_ | refine S_seq ?_ | refine E_seq ?_ | refine S_block ?_ | refine E_block_normal ?_ | refine S_skip ?_ | refine S_exit ?_ | refine S_ret ?_ | refine E_then_exit ?_ | refine E_then_ret ?_ | refine E_block_ret ?_ | refine E_block_exit ?_ | refine E_block_exit_other rfl ?_)
  exact E_ret1 rfl rfl fun w' hm => ⟨rfl, hm.below⟩
theorem dlen_any (bd n c : Nat) (A : Option Addr) (vn vw : Value) (left : Int) (bl : Bool) (hn : n ≠ 0) (w : World) (hb : w.heap[bd]? = some (.cells (diskC (.slice A n c) vn vw left bl).toArray 113 (0, 0))) :
    Calls Try.prog 52 [.pointer (some ⟨bd, 0, none⟩)].toArray w fun e w' => e = .returned (.int .i64 (n : Int)) ∧ Below w.heap.size w w' := by
  have hbl := (Array.getElem?_eq_some_iff.1 hb).1
  have c0 : w.cell? ⟨bd, 0, none⟩ = some (.slice A n c) := by rw [cell_of_row w bd 0 _ _ _ hb]; rfl
  refine enter Try.func52 rfl Try.ntmps52 (by simp) ?_
  repeat (first | refine S_scope ?_ | refine S_label ?_ | refine E_noGoto_normal ?_ | refine E_noGoto_ret ?_ | refine E_noGoto_exit ?_ | refine S_yes rfl (by first | with_reducible rfl | decide) ?_ | refine S_no rfl (by first | with_reducible rfl | decide) ?_ | refine S_seq ?_ | refine E_seq ?_ | refine S_block ?_ | refine E_block_normal ?_ | refine S_skip ?_ | refine S_exit ?_ | refine S_ret ?_ | refine E_then_exit ?_ | refine E_then_ret ?_ | refine E_block_ret ?_ | refine E_block_exit ?_ | refine E_block_exit_other rfl ?_)
  refine S_region ?_
  refine R_cons rfl (op_pure (p_assign rfl) rfl ?_)
  refine R_nil ?_
  repeat (first | refine S_scope ?_ | refine S_label ?_ | refine E_noGoto_normal ?_ | refine E_noGoto_ret ?_ | refine E_noGoto_exit ?_ | refine S_yes rfl (by first | with_reducible rfl | decide) ?_ | refine S_no rfl (by first | with_reducible rfl | decide) ?_ | refine S_seq ?_ | refine E_seq ?_ | refine S_block ?_ | refine E_block_normal ?_ | refine S_skip ?_ | refine S_exit ?_ | refine S_ret ?_ | refine E_then_exit ?_ | refine E_then_ret ?_ | refine E_block_ret ?_ | refine E_block_exit ?_ | refine E_block_exit_other rfl ?_)
  refine S_region ?_
  refine R_cons rfl (op_pure (p_move rfl) rfl ?_)
  refine R_cons rfl (op_callV rfl rfl Try.func62 rfl (by kernel_rfl) rfl (Nat.le_refl _) (fun w' hm => dnone_any bd n c A vn vw left bl hn w' (below_block hm.below hb)) ?_)
  refine R_nil ?_
  repeat (first | refine S_scope ?_ | refine S_label ?_ | refine E_noGoto_normal ?_ | refine E_noGoto_ret ?_ | refine E_noGoto_exit ?_ | refine S_yes rfl (by first | with_reducible rfl | decide) ?_ | refine S_no rfl (by first | with_reducible rfl | decide) ?_ | refine S_seq ?_ | refine E_seq ?_ | refine S_block ?_ | refine E_block_normal ?_ | refine S_skip ?_ | refine S_exit ?_ | refine S_ret ?_ | refine E_then_exit ?_ | refine E_then_ret ?_ | refine E_block_ret ?_ | refine E_block_exit ?_ | refine E_block_exit_other rfl ?_)
  refine S_region ?_
  refine R_cons rfl (op_pure (p_move rfl) rfl ?_)
  refine R_cons rfl (op_pure (p_nilCheck rfl) rfl ?_)
  refine R_cons rfl (op_pure (by first | exact p_fieldAddr0 rfl fd_disks_Disk_0 | exact p_fieldAddr rfl fd_disks_Disk_0) rfl ?_)
  refine R_cons rfl (op_pure (p_load_base rfl sc_disks_sector hbl (by simp) c0) rfl ?_)
  refine R_cons rfl (op_pure (p_lenR rfl slr_disks_sector) rfl ?_)
  refine R_cons rfl (op_pure (p_assign rfl) rfl ?_)
  refine R_nil ?_
  repeat (first | refine S_scope ?_ | refine S_label ?_ | refine E_noGoto_normal ?_ | refine E_noGoto_ret ?_ | refine E_noGoto_exit ?_ | refine S_yes rfl (by first | with_reducible rfl | decide) ?_ | refine S_no rfl (by first | with_reducible rfl | decide) ?_ | refine S_seq ?_ | refine E_seq ?_ | refine S_block ?_ | refine E_block_normal ?_ | refine S_skip ?_ | refine S_exit ?_ | refine S_ret ?_ | refine E_then_exit ?_ | refine E_then_ret ?_ | refine E_block_ret ?_ | refine E_block_exit ?_ | refine E_block_exit_other rfl ?_)
  exact E_ret1 rfl rfl fun w' hm => ⟨rfl, hm.below⟩
set_option maxHeartbeats 1000000 in
theorem dspent_any (bd : Nat) (vs vn vw : Value) (left : Int) (bl : Bool) (hlo : -9223372036854775808 ≤ left) (hhi : left ≤ 9223372036854775807) (w : World) (hm : Mem w.heap.size ⟨w, [bd]⟩ [(bd, .cells (diskC vs vn vw left bl).toArray 113 (0, 0))] w) :
    Calls Try.prog 70 [.pointer (some ⟨bd, 0, none⟩)].toArray w fun e w' => ∃ v H', e = .returned v ∧ Mem w.heap.size ⟨w, [bd]⟩ H' w' ∧ v = .bool (blownS left bl) ∧ H' = [(bd, .cells (diskC vs vn vw (leftS left bl) (blownS left bl)).toArray 113 (0, 0))] := by
  refine enter_at Try.func70 rfl Try.ntmps70 (by simp) hm ?_
  cases bl with
  | true =>
    have h1 : blownS left true = true := rfl
    have h2 : leftS left true = left := by unfold leftS; rw [h1]; rfl
    rw [h1, h2]
    repeat (first | refine S_scope ?_ | refine S_label ?_ | refine E_noGoto_normal ?_ | refine E_noGoto_ret ?_ | refine E_noGoto_exit ?_ | refine S_yes rfl (by first | with_reducible rfl | decide) ?_ | refine S_no rfl (by first | with_reducible rfl | decide) ?_ | refine S_seq ?_ | refine E_seq ?_ | refine S_block ?_ | refine E_block_normal ?_ | refine S_skip ?_ | refine S_exit ?_ | refine S_ret ?_ | refine E_then_exit ?_ | refine E_then_ret ?_ | refine E_block_ret ?_ | refine E_block_exit ?_ | refine E_block_exit_other rfl ?_)
    refine S_region ?_
    refine R_cons rfl (op_pure (p_assign rfl) rfl ?_)
    refine R_nil ?_
    repeat (first | refine S_scope ?_ | refine S_label ?_ | refine E_noGoto_normal ?_ | refine E_noGoto_ret ?_ | refine E_noGoto_exit ?_ | refine S_yes rfl (by first | with_reducible rfl | decide) ?_ | refine S_no rfl (by first | with_reducible rfl | decide) ?_ | refine S_seq ?_ | refine E_seq ?_ | refine S_block ?_ | refine E_block_normal ?_ | refine S_skip ?_ | refine S_exit ?_ | refine S_ret ?_ | refine E_then_exit ?_ | refine E_then_ret ?_ | refine E_block_ret ?_ | refine E_block_exit ?_ | refine E_block_exit_other rfl ?_)
    refine S_region ?_
    refine R_cons rfl (op_pure (p_move rfl) rfl ?_)
    refine R_cons rfl (op_pure (p_move rfl) rfl ?_)
    refine R_cons rfl (op_pure (p_nilCheck rfl) rfl ?_)
    refine R_cons rfl (op_pure (by first | exact p_fieldAddr0 rfl fd_disks_Disk_4 | exact p_fieldAddr rfl fd_disks_Disk_4) rfl ?_)
    refine R_cons rfl (op_pure (by first | exact p_load rfl sc_bool (by repeat (first | exact List.Mem.head _ | apply List.Mem.tail)) (by first | assumption | exact bytesV_get (by omega) | exact wordsV_get (by omega) | rfl) | exact p_load_base rfl sc_bool (by assumption) (by simp) (by assumption)) rfl ?_)
    refine R_cons rfl (op_pure (p_move rfl) rfl ?_)
    first | refine R_pass rfl rfl rfl rfl ?_ | refine R_pass_undef rfl rfl rfl ?_ | refine R_guard rfl rfl rfl (op_pure (p_move rfl) rfl ?_)
    first | refine R_pass rfl rfl rfl rfl ?_ | refine R_pass_undef rfl rfl rfl ?_ | refine R_guard rfl rfl rfl (op_pure (p_nilCheck rfl) rfl ?_)
    first | refine R_pass rfl rfl rfl rfl ?_ | refine R_pass_undef rfl rfl rfl ?_ | refine R_guard rfl rfl rfl (op_pure (by first | exact p_fieldAddr0 rfl fd_disks_Disk_3 | exact p_fieldAddr rfl fd_disks_Disk_3) rfl ?_)
    first | refine R_pass rfl rfl rfl rfl ?_ | refine R_pass_undef rfl rfl rfl ?_ | refine R_guard rfl rfl rfl (op_pure (by first | exact p_load rfl sc_int (by repeat (first | exact List.Mem.head _ | apply List.Mem.tail)) (by first | assumption | exact bytesV_get (by omega) | exact wordsV_get (by omega) | rfl) | exact p_load_base rfl sc_int (by assumption) (by simp) (by assumption)) rfl ?_)
    first | refine R_pass rfl rfl rfl rfl ?_ | refine R_pass_undef rfl rfl rfl ?_ | refine R_guard rfl rfl rfl (op_pure (p_bin rfl rfl (b_eql (by first | assumption | exact beq_iff_eq.2 (by omega) | exact beq_eq_false_iff_ne.2 (by omega) | rfl))) rfl ?_)
    refine R_cons rfl (op_pure (by first | exact p_pick_yes rfl rfl | exact p_pick_no rfl rfl | exact p_pick rfl rfl rfl) rfl ?_)
    refine R_cons rfl (op_pure (p_nilCheck rfl) rfl ?_)
    refine R_cons rfl (op_pure (by first | exact p_fieldAddr0 rfl fd_disks_Disk_4 | exact p_fieldAddr rfl fd_disks_Disk_4) rfl ?_)
    refine R_cons rfl (op_store rfl rfl rfl sc_bool (by repeat (first | exact At.here | apply At.there)) (by first | exact Nat.le_of_ble_eq_true rfl | omega | (simp only [bytesV_length, wordsV_length]; omega) | (simp only [bytesV_length, wordsV_length, List.length_cons, List.length_nil, List.length_set, List.length_append]; omega) | decide) ?_)
    refine R_nil ?_
    repeat (first | refine S_scope ?_ | refine S_label ?_ | refine E_noGoto_normal ?_ | refine E_noGoto_ret ?_ | refine E_noGoto_exit ?_ | refine S_yes rfl (by first | with_reducible rfl | decide) ?_ | refine S_no rfl (by first | with_reducible rfl | decide) ?_ | refine S_seq ?_ | refine E_seq ?_ | refine S_block ?_ | refine E_block_normal ?_ | refine S_skip ?_ | refine S_exit ?_ | refine S_ret ?_ | refine E_then_exit ?_ | refine E_then_ret ?_ | refine E_block_ret ?_ | refine E_block_exit ?_ | refine E_block_exit_other rfl ?_)
    refine S_region ?_
    refine R_cons rfl (op_pure (p_move rfl) rfl ?_)
    refine R_cons rfl (op_pure (p_nilCheck rfl) rfl ?_)
    refine R_cons rfl (op_pure (by first | exact p_fieldAddr0 rfl fd_disks_Disk_4 | exact p_fieldAddr rfl fd_disks_Disk_4) rfl ?_)
    refine R_cons rfl (op_pure (by first | exact p_load rfl sc_bool (by repeat (first | exact List.Mem.head _ | apply List.Mem.tail)) (by first | assumption | exact bytesV_get (by omega) | exact wordsV_get (by omega) | rfl) | exact p_load_base rfl sc_bool (by assumption) (by simp) (by assumption)) rfl ?_)
    refine R_cons rfl (op_pure (p_not rfl) rfl ?_)
    refine R_cons rfl (op_pure (p_move rfl) rfl ?_)
    first | refine R_pass rfl rfl rfl rfl ?_ | refine R_pass_undef rfl rfl rfl ?_ | refine R_guard rfl rfl rfl (op_pure (p_move rfl) rfl ?_)
    first | refine R_pass rfl rfl rfl rfl ?_ | refine R_pass_undef rfl rfl rfl ?_ | refine R_guard rfl rfl rfl (op_pure (p_nilCheck rfl) rfl ?_)
    first | refine R_pass rfl rfl rfl rfl ?_ | refine R_pass_undef rfl rfl rfl ?_ | refine R_guard rfl rfl rfl (op_pure (by first | exact p_fieldAddr0 rfl fd_disks_Disk_3 | exact p_fieldAddr rfl fd_disks_Disk_3) rfl ?_)
    first | refine R_pass rfl rfl rfl rfl ?_ | refine R_pass_undef rfl rfl rfl ?_ | refine R_guard rfl rfl rfl (op_pure (by first | exact p_load rfl sc_int (by repeat (first | exact List.Mem.head _ | apply List.Mem.tail)) (by first | assumption | exact bytesV_get (by omega) | exact wordsV_get (by omega) | rfl) | exact p_load_base rfl sc_int (by assumption) (by simp) (by assumption)) rfl ?_)
    first | refine R_pass rfl rfl rfl rfl ?_ | refine R_pass_undef rfl rfl rfl ?_ | refine R_guard rfl rfl rfl (op_pure (p_bin rfl rfl (b_gtr (by first | assumption | exact decide_eq_true (by omega) | exact decide_eq_false (by omega) | rfl))) rfl ?_)
    refine R_cons rfl (op_pure (by first | exact p_pick_yes rfl rfl | exact p_pick_no rfl rfl | exact p_pick rfl rfl rfl) rfl ?_)
    refine R_nil ?_
    repeat (first | refine S_scope ?_ | refine S_label ?_ | refine E_noGoto_normal ?_ | refine E_noGoto_ret ?_ | refine E_noGoto_exit ?_ | refine S_yes rfl (by first | with_reducible rfl | decide) ?_ | refine S_no rfl (by first | with_reducible rfl | decide) ?_ | refine S_seq ?_ | refine E_seq ?_ | refine S_block ?_ | refine E_block_normal ?_ | refine S_skip ?_ | refine S_exit ?_ | refine S_ret ?_ | refine E_then_exit ?_ | refine E_then_ret ?_ | refine E_block_ret ?_ | refine E_block_exit ?_ | refine E_block_exit_other rfl ?_)
    refine S_region ?_
    refine R_cons rfl (op_pure (p_move rfl) rfl ?_)
    refine R_cons rfl (op_pure (p_nilCheck rfl) rfl ?_)
    refine R_cons rfl (op_pure (by first | exact p_fieldAddr0 rfl fd_disks_Disk_4 | exact p_fieldAddr rfl fd_disks_Disk_4) rfl ?_)
    refine R_cons rfl (op_pure (by first | exact p_load rfl sc_bool (by repeat (first | exact List.Mem.head _ | apply List.Mem.tail)) (by first | assumption | exact bytesV_get (by omega) | exact wordsV_get (by omega) | rfl) | exact p_load_base rfl sc_bool (by assumption) (by simp) (by assumption)) rfl ?_)
    refine R_cons rfl (op_pure (p_assign rfl) rfl ?_)
    refine R_nil ?_
    repeat (first | refine S_scope ?_ | refine S_label ?_ | refine E_noGoto_normal ?_ | refine E_noGoto_ret ?_ | refine E_noGoto_exit ?_ | refine S_yes rfl (by first | with_reducible rfl | decide) ?_ | refine S_no rfl (by first | with_reducible rfl | decide) ?_ | refine S_seq ?_ | refine E_seq ?_ | refine S_block ?_ | refine E_block_normal ?_ | refine S_skip ?_ | refine S_exit ?_ | refine S_ret ?_ | refine E_then_exit ?_ | refine E_then_ret ?_ | refine E_block_ret ?_ | refine E_block_exit ?_ | refine E_block_exit_other rfl ?_)
    exact E_ret1 rfl rfl fun w' hm => ⟨_, _, rfl, hm, rfl, rfl⟩
  | false =>
    by_cases h0 : left = 0
    · have g1 : (left == 0) = true := beq_iff_eq.2 h0
      have h1 : blownS left false = true := by unfold blownS; rw [g1]; rfl
      have h2 : leftS left false = left := by unfold leftS; rw [h1]; rfl
      rw [h1, h2]
      clear h0 hlo hhi
      repeat (first | refine S_scope ?_ | refine S_label ?_ | refine E_noGoto_normal ?_ | refine E_noGoto_ret ?_ | refine E_noGoto_exit ?_ | refine S_yes rfl (by first | with_reducible rfl | decide) ?_ | refine S_no rfl (by first | with_reducible rfl | decide) ?_ | refine S_seq ?_ | refine E_seq ?_ | refine S_block ?_ | refine E_block_normal ?_ | refine S_skip ?_ | refine S_exit ?_ | refine S_ret ?_ | refine E_then_exit ?_ | refine E_then_ret ?_ | refine E_block_ret ?_ | refine E_block_exit ?_ | refine E_block_exit_other rfl ?_)
      refine S_region ?_
      refine R_cons rfl (op_pure (p_assign rfl) rfl ?_)
      refine R_nil ?_
      repeat (first | refine S_scope ?_ | refine S_label ?_ | refine E_noGoto_normal ?_ | refine E_noGoto_ret ?_ | refine E_noGoto_exit ?_ | refine S_yes rfl (by first | with_reducible rfl | decide) ?_ | refine S_no rfl (by first | with_reducible rfl | decide) ?_ | refine S_seq ?_ | refine E_seq ?_ | refine S_block ?_ | refine E_block_normal ?_ | refine S_skip ?_ | refine S_exit ?_ | refine S_ret ?_ | refine E_then_exit ?_ | refine E_then_ret ?_ | refine E_block_ret ?_ | refine E_block_exit ?_ | refine E_block_exit_other rfl ?_)
      refine S_region ?_
      refine R_cons rfl (op_pure (p_move rfl) rfl ?_)
      refine R_cons rfl (op_pure (p_move rfl) rfl ?_)
      refine R_cons rfl (op_pure (p_nilCheck rfl) rfl ?_)
      refine R_cons rfl (op_pure (by first | exact p_fieldAddr0 rfl fd_disks_Disk_4 | exact p_fieldAddr rfl fd_disks_Disk_4) rfl ?_)
      refine R_cons rfl (op_pure (by first | exact p_load rfl sc_bool (by repeat (first | exact List.Mem.head _ | apply List.Mem.tail)) (by first | assumption | exact bytesV_get (by omega) | exact wordsV_get (by omega) | rfl) | exact p_load_base rfl sc_bool (by assumption) (by simp) (by assumption)) rfl ?_)
      refine R_cons rfl (op_pure (p_move rfl) rfl ?_)
      first | refine R_pass rfl rfl rfl rfl ?_ | refine R_pass_undef rfl rfl rfl ?_ | refine R_guard rfl rfl rfl (op_pure (p_move rfl) rfl ?_)
      first | refine R_pass rfl rfl rfl rfl ?_ | refine R_pass_undef rfl rfl rfl ?_ | refine R_guard rfl rfl rfl (op_pure (p_nilCheck rfl) rfl ?_)
      first | refine R_pass rfl rfl rfl rfl ?_ | refine R_pass_undef rfl rfl rfl ?_ | refine R_guard rfl rfl rfl (op_pure (by first | exact p_fieldAddr0 rfl fd_disks_Disk_3 | exact p_fieldAddr rfl fd_disks_Disk_3) rfl ?_)
      first | refine R_pass rfl rfl rfl rfl ?_ | refine R_pass_undef rfl rfl rfl ?_ | refine R_guard rfl rfl rfl (op_pure (by first | exact p_load rfl sc_int (by repeat (first | exact List.Mem.head _ | apply List.Mem.tail)) (by first | assumption | exact bytesV_get (by omega) | exact wordsV_get (by omega) | rfl) | exact p_load_base rfl sc_int (by assumption) (by simp) (by assumption)) rfl ?_)
      first | refine R_pass rfl rfl rfl rfl ?_ | refine R_pass_undef rfl rfl rfl ?_ | refine R_guard rfl rfl rfl (op_pure (p_bin rfl rfl (b_eql g1)) rfl ?_)
      refine R_cons rfl (op_pure (by first | exact p_pick_yes rfl rfl | exact p_pick_no rfl rfl | exact p_pick rfl rfl rfl) rfl ?_)
      refine R_cons rfl (op_pure (p_nilCheck rfl) rfl ?_)
      refine R_cons rfl (op_pure (by first | exact p_fieldAddr0 rfl fd_disks_Disk_4 | exact p_fieldAddr rfl fd_disks_Disk_4) rfl ?_)
      refine R_cons rfl (op_store rfl rfl rfl sc_bool (by repeat (first | exact At.here | apply At.there)) (by first | exact Nat.le_of_ble_eq_true rfl | omega | (simp only [bytesV_length, wordsV_length]; omega) | (simp only [bytesV_length, wordsV_length, List.length_cons, List.length_nil, List.length_set, List.length_append]; omega) | decide) ?_)
      refine R_nil ?_
      repeat (first | refine S_scope ?_ | refine S_label ?_ | refine E_noGoto_normal ?_ | refine E_noGoto_ret ?_ | refine E_noGoto_exit ?_ | refine S_yes rfl (by first | with_reducible rfl | decide) ?_ | refine S_no rfl (by first | with_reducible rfl | decide) ?_ | refine S_seq ?_ | refine E_seq ?_ | refine S_block ?_ | refine E_block_normal ?_ | refine S_skip ?_ | refine S_exit ?_ | refine S_ret ?_ | refine E_then_exit ?_ | refine E_then_ret ?_ | refine E_block_ret ?_ | refine E_block_exit ?_ | refine E_block_exit_other rfl ?_)
      refine S_region ?_
      refine R_cons rfl (op_pure (p_move rfl) rfl ?_)
      refine R_cons rfl (op_pure (p_nilCheck rfl) rfl ?_)
      refine R_cons rfl (op_pure (by first | exact p_fieldAddr0 rfl fd_disks_Disk_4 | exact p_fieldAddr rfl fd_disks_Disk_4) rfl ?_)
      refine R_cons rfl (op_pure (by first | exact p_load rfl sc_bool (by repeat (first | exact List.Mem.head _ | apply List.Mem.tail)) (by first | assumption | exact bytesV_get (by omega) | exact wordsV_get (by omega) | rfl) | exact p_load_base rfl sc_bool (by assumption) (by simp) (by assumption)) rfl ?_)
      refine R_cons rfl (op_pure (p_not rfl) rfl ?_)
      refine R_cons rfl (op_pure (p_move rfl) rfl ?_)
      first | refine R_pass rfl rfl rfl rfl ?_ | refine R_pass_undef rfl rfl rfl ?_ | refine R_guard rfl rfl rfl (op_pure (p_move rfl) rfl ?_)
      first | refine R_pass rfl rfl rfl rfl ?_ | refine R_pass_undef rfl rfl rfl ?_ | refine R_guard rfl rfl rfl (op_pure (p_nilCheck rfl) rfl ?_)
      first | refine R_pass rfl rfl rfl rfl ?_ | refine R_pass_undef rfl rfl rfl ?_ | refine R_guard rfl rfl rfl (op_pure (by first | exact p_fieldAddr0 rfl fd_disks_Disk_3 | exact p_fieldAddr rfl fd_disks_Disk_3) rfl ?_)
      first | refine R_pass rfl rfl rfl rfl ?_ | refine R_pass_undef rfl rfl rfl ?_ | refine R_guard rfl rfl rfl (op_pure (by first | exact p_load rfl sc_int (by repeat (first | exact List.Mem.head _ | apply List.Mem.tail)) (by first | assumption | exact bytesV_get (by omega) | exact wordsV_get (by omega) | rfl) | exact p_load_base rfl sc_int (by assumption) (by simp) (by assumption)) rfl ?_)
      first | refine R_pass rfl rfl rfl rfl ?_ | refine R_pass_undef rfl rfl rfl ?_ | refine R_guard rfl rfl rfl (op_pure (p_bin rfl rfl (b_gtr (by first | assumption | exact decide_eq_true (by omega) | exact decide_eq_false (by omega) | rfl))) rfl ?_)
      refine R_cons rfl (op_pure (by first | exact p_pick_yes rfl rfl | exact p_pick_no rfl rfl | exact p_pick rfl rfl rfl) rfl ?_)
      refine R_nil ?_
      repeat (first | refine S_scope ?_ | refine S_label ?_ | refine E_noGoto_normal ?_ | refine E_noGoto_ret ?_ | refine E_noGoto_exit ?_ | refine S_yes rfl (by first | with_reducible rfl | decide) ?_ | refine S_no rfl (by first | with_reducible rfl | decide) ?_ | refine S_seq ?_ | refine E_seq ?_ | refine S_block ?_ | refine E_block_normal ?_ | refine S_skip ?_ | refine S_exit ?_ | refine S_ret ?_ | refine E_then_exit ?_ | refine E_then_ret ?_ | refine E_block_ret ?_ | refine E_block_exit ?_ | refine E_block_exit_other rfl ?_)
      refine S_region ?_
      refine R_cons rfl (op_pure (p_move rfl) rfl ?_)
      refine R_cons rfl (op_pure (p_nilCheck rfl) rfl ?_)
      refine R_cons rfl (op_pure (by first | exact p_fieldAddr0 rfl fd_disks_Disk_4 | exact p_fieldAddr rfl fd_disks_Disk_4) rfl ?_)
      refine R_cons rfl (op_pure (by first | exact p_load rfl sc_bool (by repeat (first | exact List.Mem.head _ | apply List.Mem.tail)) (by first | assumption | exact bytesV_get (by omega) | exact wordsV_get (by omega) | rfl) | exact p_load_base rfl sc_bool (by assumption) (by simp) (by assumption)) rfl ?_)
      refine R_cons rfl (op_pure (p_assign rfl) rfl ?_)
      refine R_nil ?_
      repeat (first | refine S_scope ?_ | refine S_label ?_ | refine E_noGoto_normal ?_ | refine E_noGoto_ret ?_ | refine E_noGoto_exit ?_ | refine S_yes rfl (by first | with_reducible rfl | decide) ?_ | refine S_no rfl (by first | with_reducible rfl | decide) ?_ | refine S_seq ?_ | refine E_seq ?_ | refine S_block ?_ | refine E_block_normal ?_ | refine S_skip ?_ | refine S_exit ?_ | refine S_ret ?_ | refine E_then_exit ?_ | refine E_then_ret ?_ | refine E_block_ret ?_ | refine E_block_exit ?_ | refine E_block_exit_other rfl ?_)
      exact E_ret1 rfl rfl fun w' hm => ⟨_, _, rfl, hm, rfl, rfl⟩
    · have g1 : (left == 0) = false := beq_eq_false_iff_ne.2 h0
      have h1 : blownS left false = false := by unfold blownS; rw [g1]; rfl
      by_cases hp : 0 < left
      · have g2 : decide (0 < left) = true := decide_eq_true hp
        have h2 : leftS left false = left - 1 := by unfold leftS; rw [h1, g2]; rfl
        have h3 : IntKind.i64.wrap (left - 1) = left - 1 := w_in_i64 (by omega)
        rw [h1, h2]
        clear h0 hlo hhi hp
        repeat (first | refine S_scope ?_ | refine S_label ?_ | refine E_noGoto_normal ?_ | refine E_noGoto_ret ?_ | refine E_noGoto_exit ?_ | refine S_yes rfl (by first | with_reducible rfl | decide) ?_ | refine S_no rfl (by first | with_reducible rfl | decide) ?_ | refine S_seq ?_ | refine E_seq ?_ | refine S_block ?_ | refine E_block_normal ?_ | refine S_skip ?_ | refine S_exit ?_ | refine S_ret ?_ | refine E_then_exit ?_ | refine E_then_ret ?_ | refine E_block_ret ?_ | refine E_block_exit ?_ | refine E_block_exit_other rfl ?_)
        refine S_region ?_
        refine R_cons rfl (op_pure (p_assign rfl) rfl ?_)
        refine R_nil ?_
        repeat (first | refine S_scope ?_ | refine S_label ?_ | refine E_noGoto_normal ?_ | refine E_noGoto_ret ?_ | refine E_noGoto_exit ?_ | refine S_yes rfl (by first | with_reducible rfl | decide) ?_ | refine S_no rfl (by first | with_reducible rfl | decide) ?_ | refine S_seq ?_ | refine E_seq ?_ | refine S_block ?_ | refine E_block_normal ?_ | refine S_skip ?_ | refine S_exit ?_ | refine S_ret ?_ | refine E_then_exit ?_ | refine E_then_ret ?_ | refine E_block_ret ?_ | refine E_block_exit ?_ | refine E_block_exit_other rfl ?_)
        refine S_region ?_
        refine R_cons rfl (op_pure (p_move rfl) rfl ?_)
        refine R_cons rfl (op_pure (p_move rfl) rfl ?_)
        refine R_cons rfl (op_pure (p_nilCheck rfl) rfl ?_)
        refine R_cons rfl (op_pure (by first | exact p_fieldAddr0 rfl fd_disks_Disk_4 | exact p_fieldAddr rfl fd_disks_Disk_4) rfl ?_)
        refine R_cons rfl (op_pure (by first | exact p_load rfl sc_bool (by repeat (first | exact List.Mem.head _ | apply List.Mem.tail)) (by first | assumption | exact bytesV_get (by omega) | exact wordsV_get (by omega) | rfl) | exact p_load_base rfl sc_bool (by assumption) (by simp) (by assumption)) rfl ?_)
        refine R_cons rfl (op_pure (p_move rfl) rfl ?_)
        first | refine R_pass rfl rfl rfl rfl ?_ | refine R_pass_undef rfl rfl rfl ?_ | refine R_guard rfl rfl rfl (op_pure (p_move rfl) rfl ?_)
        first | refine R_pass rfl rfl rfl rfl ?_ | refine R_pass_undef rfl rfl rfl ?_ | refine R_guard rfl rfl rfl (op_pure (p_nilCheck rfl) rfl ?_)
        first | refine R_pass rfl rfl rfl rfl ?_ | refine R_pass_undef rfl rfl rfl ?_ | refine R_guard rfl rfl rfl (op_pure (by first | exact p_fieldAddr0 rfl fd_disks_Disk_3 | exact p_fieldAddr rfl fd_disks_Disk_3) rfl ?_)
        first | refine R_pass rfl rfl rfl rfl ?_ | refine R_pass_undef rfl rfl rfl ?_ | refine R_guard rfl rfl rfl (op_pure (by first | exact p_load rfl sc_int (by repeat (first | exact List.Mem.head _ | apply List.Mem.tail)) (by first | assumption | exact bytesV_get (by omega) | exact wordsV_get (by omega) | rfl) | exact p_load_base rfl sc_int (by assumption) (by simp) (by assumption)) rfl ?_)
        first | refine R_pass rfl rfl rfl rfl ?_ | refine R_pass_undef rfl rfl rfl ?_ | refine R_guard rfl rfl rfl (op_pure (p_bin rfl rfl (b_eql g1)) rfl ?_)
        refine R_cons rfl (op_pure (by first | exact p_pick_yes rfl rfl | exact p_pick_no rfl rfl | exact p_pick rfl rfl rfl) rfl ?_)
        refine R_cons rfl (op_pure (p_nilCheck rfl) rfl ?_)
        refine R_cons rfl (op_pure (by first | exact p_fieldAddr0 rfl fd_disks_Disk_4 | exact p_fieldAddr rfl fd_disks_Disk_4) rfl ?_)
        refine R_cons rfl (op_store rfl rfl rfl sc_bool (by repeat (first | exact At.here | apply At.there)) (by first | exact Nat.le_of_ble_eq_true rfl | omega | (simp only [bytesV_length, wordsV_length]; omega) | (simp only [bytesV_length, wordsV_length, List.length_cons, List.length_nil, List.length_set, List.length_append]; omega) | decide) ?_)
        refine R_nil ?_
        repeat (first | refine S_scope ?_ | refine S_label ?_ | refine E_noGoto_normal ?_ | refine E_noGoto_ret ?_ | refine E_noGoto_exit ?_ | refine S_yes rfl (by first | with_reducible rfl | decide) ?_ | refine S_no rfl (by first | with_reducible rfl | decide) ?_ | refine S_seq ?_ | refine E_seq ?_ | refine S_block ?_ | refine E_block_normal ?_ | refine S_skip ?_ | refine S_exit ?_ | refine S_ret ?_ | refine E_then_exit ?_ | refine E_then_ret ?_ | refine E_block_ret ?_ | refine E_block_exit ?_ | refine E_block_exit_other rfl ?_)
        refine S_region ?_
        refine R_cons rfl (op_pure (p_move rfl) rfl ?_)
        refine R_cons rfl (op_pure (p_nilCheck rfl) rfl ?_)
        refine R_cons rfl (op_pure (by first | exact p_fieldAddr0 rfl fd_disks_Disk_4 | exact p_fieldAddr rfl fd_disks_Disk_4) rfl ?_)
        refine R_cons rfl (op_pure (by first | exact p_load rfl sc_bool (by repeat (first | exact List.Mem.head _ | apply List.Mem.tail)) (by first | assumption | exact bytesV_get (by omega) | exact wordsV_get (by omega) | rfl) | exact p_load_base rfl sc_bool (by assumption) (by simp) (by assumption)) rfl ?_)
        refine R_cons rfl (op_pure (p_not rfl) rfl ?_)
        refine R_cons rfl (op_pure (p_move rfl) rfl ?_)
        first | refine R_pass rfl rfl rfl rfl ?_ | refine R_pass_undef rfl rfl rfl ?_ | refine R_guard rfl rfl rfl (op_pure (p_move rfl) rfl ?_)
        first | refine R_pass rfl rfl rfl rfl ?_ | refine R_pass_undef rfl rfl rfl ?_ | refine R_guard rfl rfl rfl (op_pure (p_nilCheck rfl) rfl ?_)
        first | refine R_pass rfl rfl rfl rfl ?_ | refine R_pass_undef rfl rfl rfl ?_ | refine R_guard rfl rfl rfl (op_pure (by first | exact p_fieldAddr0 rfl fd_disks_Disk_3 | exact p_fieldAddr rfl fd_disks_Disk_3) rfl ?_)
        first | refine R_pass rfl rfl rfl rfl ?_ | refine R_pass_undef rfl rfl rfl ?_ | refine R_guard rfl rfl rfl (op_pure (by first | exact p_load rfl sc_int (by repeat (first | exact List.Mem.head _ | apply List.Mem.tail)) (by first | assumption | exact bytesV_get (by omega) | exact wordsV_get (by omega) | rfl) | exact p_load_base rfl sc_int (by assumption) (by simp) (by assumption)) rfl ?_)
        first | refine R_pass rfl rfl rfl rfl ?_ | refine R_pass_undef rfl rfl rfl ?_ | refine R_guard rfl rfl rfl (op_pure (p_bin rfl rfl (b_gtr g2)) rfl ?_)
        refine R_cons rfl (op_pure (by first | exact p_pick_yes rfl rfl | exact p_pick_no rfl rfl | exact p_pick rfl rfl rfl) rfl ?_)
        refine R_nil ?_
        repeat (first | refine S_scope ?_ | refine S_label ?_ | refine E_noGoto_normal ?_ | refine E_noGoto_ret ?_ | refine E_noGoto_exit ?_ | refine S_yes rfl (by first | with_reducible rfl | decide) ?_ | refine S_no rfl (by first | with_reducible rfl | decide) ?_ | refine S_seq ?_ | refine E_seq ?_ | refine S_block ?_ | refine E_block_normal ?_ | refine S_skip ?_ | refine S_exit ?_ | refine S_ret ?_ | refine E_then_exit ?_ | refine E_then_ret ?_ | refine E_block_ret ?_ | refine E_block_exit ?_ | refine E_block_exit_other rfl ?_)
        refine S_region ?_
        refine R_cons rfl (op_pure (p_move rfl) rfl ?_)
        refine R_cons rfl (op_pure (p_nilCheck rfl) rfl ?_)
        refine R_cons rfl (op_pure (by first | exact p_fieldAddr0 rfl fd_disks_Disk_3 | exact p_fieldAddr rfl fd_disks_Disk_3) rfl ?_)
        refine R_cons rfl (op_pure (by first | exact p_load rfl sc_int (by repeat (first | exact List.Mem.head _ | apply List.Mem.tail)) (by first | assumption | exact bytesV_get (by omega) | exact wordsV_get (by omega) | rfl) | exact p_load_base rfl sc_int (by assumption) (by simp) (by assumption)) rfl ?_)
        refine R_cons rfl (op_pure (p_bin rfl rfl (b_sub h3)) rfl ?_)
        refine R_cons rfl (op_pure (p_nilCheck rfl) rfl ?_)
        refine R_cons rfl (op_pure (by first | exact p_fieldAddr0 rfl fd_disks_Disk_3 | exact p_fieldAddr rfl fd_disks_Disk_3) rfl ?_)
        refine R_cons rfl (op_store rfl rfl rfl sc_int (by repeat (first | exact At.here | apply At.there)) (by first | exact Nat.le_of_ble_eq_true rfl | omega | (simp only [bytesV_length, wordsV_length]; omega) | (simp only [bytesV_length, wordsV_length, List.length_cons, List.length_nil, List.length_set, List.length_append]; omega) | decide) ?_)
        refine R_nil ?_
        repeat (first | refine S_scope ?_ | refine S_label ?_ | refine E_noGoto_normal ?_ | refine E_noGoto_ret ?_ | refine E_noGoto_exit ?_ | refine S_yes rfl (by first | with_reducible rfl | decide) ?_ | refine S_no rfl (by first | with_reducible rfl | decide) ?_ | refine S_seq ?_ | refine E_seq ?_ | refine S_block ?_ | refine E_block_normal ?_ | refine S_skip ?_ | refine S_exit ?_ | refine S_ret ?_ | refine E_then_exit ?_ | refine E_then_ret ?_ | refine E_block_ret ?_ | refine E_block_exit ?_ | refine E_block_exit_other rfl ?_)
        refine S_region ?_
        refine R_cons rfl (op_pure (p_move rfl) rfl ?_)
        refine R_cons rfl (op_pure (p_nilCheck rfl) rfl ?_)
        refine R_cons rfl (op_pure (by first | exact p_fieldAddr0 rfl fd_disks_Disk_4 | exact p_fieldAddr rfl fd_disks_Disk_4) rfl ?_)
        refine R_cons rfl (op_pure (by first | exact p_load rfl sc_bool (by repeat (first | exact List.Mem.head _ | apply List.Mem.tail)) (by first | assumption | exact bytesV_get (by omega) | exact wordsV_get (by omega) | rfl) | exact p_load_base rfl sc_bool (by assumption) (by simp) (by assumption)) rfl ?_)
        refine R_cons rfl (op_pure (p_assign rfl) rfl ?_)
        refine R_nil ?_
        repeat (first | refine S_scope ?_ | refine S_label ?_ | refine E_noGoto_normal ?_ | refine E_noGoto_ret ?_ | refine E_noGoto_exit ?_ | refine S_yes rfl (by first | with_reducible rfl | decide) ?_ | refine S_no rfl (by first | with_reducible rfl | decide) ?_ | refine S_seq ?_ | refine E_seq ?_ | refine S_block ?_ | refine E_block_normal ?_ | refine S_skip ?_ | refine S_exit ?_ | refine S_ret ?_ | refine E_then_exit ?_ | refine E_then_ret ?_ | refine E_block_ret ?_ | refine E_block_exit ?_ | refine E_block_exit_other rfl ?_)
        exact E_ret1 rfl rfl fun w' hm => ⟨_, _, rfl, hm, rfl, rfl⟩
      · have g2 : decide (0 < left) = false := decide_eq_false hp
        have h2 : leftS left false = left := by unfold leftS; rw [h1, g2]; rfl
        rw [h1, h2]
        clear h0 hlo hhi hp
        repeat (first | refine S_scope ?_ | refine S_label ?_ | refine E_noGoto_normal ?_ | refine E_noGoto_ret ?_ | refine E_noGoto_exit ?_ | refine S_yes rfl (by first | with_reducible rfl | decide) ?_ | refine S_no rfl (by first | with_reducible rfl | decide) ?_ | refine S_seq ?_ | refine E_seq ?_ | refine S_block ?_ | refine E_block_normal ?_ | refine S_skip ?_ | refine S_exit ?_ | refine S_ret ?_ | refine E_then_exit ?_ | refine E_then_ret ?_ | refine E_block_ret ?_ | refine E_block_exit ?_ | refine E_block_exit_other rfl ?_)
        refine S_region ?_
        refine R_cons rfl (op_pure (p_assign rfl) rfl ?_)
        refine R_nil ?_
        repeat (first | refine S_scope ?_ | refine S_label ?_ | refine E_noGoto_normal ?_ | refine E_noGoto_ret ?_ | refine E_noGoto_exit ?_ | refine S_yes rfl (by first | with_reducible rfl | decide) ?_ | refine S_no rfl (by first | with_reducible rfl | decide) ?_ | refine S_seq ?_ | refine E_seq ?_ | refine S_block ?_ | refine E_block_normal ?_ | refine S_skip ?_ | refine S_exit ?_ | refine S_ret ?_ | refine E_then_exit ?_ | refine E_then_ret ?_ | refine E_block_ret ?_ | refine E_block_exit ?_ | refine E_block_exit_other rfl ?_)
        refine S_region ?_
        refine R_cons rfl (op_pure (p_move rfl) rfl ?_)
        refine R_cons rfl (op_pure (p_move rfl) rfl ?_)
        refine R_cons rfl (op_pure (p_nilCheck rfl) rfl ?_)
        refine R_cons rfl (op_pure (by first | exact p_fieldAddr0 rfl fd_disks_Disk_4 | exact p_fieldAddr rfl fd_disks_Disk_4) rfl ?_)
        refine R_cons rfl (op_pure (by first | exact p_load rfl sc_bool (by repeat (first | exact List.Mem.head _ | apply List.Mem.tail)) (by first | assumption | exact bytesV_get (by omega) | exact wordsV_get (by omega) | rfl) | exact p_load_base rfl sc_bool (by assumption) (by simp) (by assumption)) rfl ?_)
        refine R_cons rfl (op_pure (p_move rfl) rfl ?_)
        first | refine R_pass rfl rfl rfl rfl ?_ | refine R_pass_undef rfl rfl rfl ?_ | refine R_guard rfl rfl rfl (op_pure (p_move rfl) rfl ?_)
        first | refine R_pass rfl rfl rfl rfl ?_ | refine R_pass_undef rfl rfl rfl ?_ | refine R_guard rfl rfl rfl (op_pure (p_nilCheck rfl) rfl ?_)
        first | refine R_pass rfl rfl rfl rfl ?_ | refine R_pass_undef rfl rfl rfl ?_ | refine R_guard rfl rfl rfl (op_pure (by first | exact p_fieldAddr0 rfl fd_disks_Disk_3 | exact p_fieldAddr rfl fd_disks_Disk_3) rfl ?_)
        first | refine R_pass rfl rfl rfl rfl ?_ | refine R_pass_undef rfl rfl rfl ?_ | refine R_guard rfl rfl rfl (op_pure (by first | exact p_load rfl sc_int (by repeat (first | exact List.Mem.head _ | apply List.Mem.tail)) (by first | assumption | exact bytesV_get (by omega) | exact wordsV_get (by omega) | rfl) | exact p_load_base rfl sc_int (by assumption) (by simp) (by assumption)) rfl ?_)
        first | refine R_pass rfl rfl rfl rfl ?_ | refine R_pass_undef rfl rfl rfl ?_ | refine R_guard rfl rfl rfl (op_pure (p_bin rfl rfl (b_eql g1)) rfl ?_)
        refine R_cons rfl (op_pure (by first | exact p_pick_yes rfl rfl | exact p_pick_no rfl rfl | exact p_pick rfl rfl rfl) rfl ?_)
        refine R_cons rfl (op_pure (p_nilCheck rfl) rfl ?_)
        refine R_cons rfl (op_pure (by first | exact p_fieldAddr0 rfl fd_disks_Disk_4 | exact p_fieldAddr rfl fd_disks_Disk_4) rfl ?_)
        refine R_cons rfl (op_store rfl rfl rfl sc_bool (by repeat (first | exact At.here | apply At.there)) (by first | exact Nat.le_of_ble_eq_true rfl | omega | (simp only [bytesV_length, wordsV_length]; omega) | (simp only [bytesV_length, wordsV_length, List.length_cons, List.length_nil, List.length_set, List.length_append]; omega) | decide) ?_)
        refine R_nil ?_
        repeat (first | refine S_scope ?_ | refine S_label ?_ | refine E_noGoto_normal ?_ | refine E_noGoto_ret ?_ | refine E_noGoto_exit ?_ | refine S_yes rfl (by first | with_reducible rfl | decide) ?_ | refine S_no rfl (by first | with_reducible rfl | decide) ?_ | refine S_seq ?_ | refine E_seq ?_ | refine S_block ?_ | refine E_block_normal ?_ | refine S_skip ?_ | refine S_exit ?_ | refine S_ret ?_ | refine E_then_exit ?_ | refine E_then_ret ?_ | refine E_block_ret ?_ | refine E_block_exit ?_ | refine E_block_exit_other rfl ?_)
        refine S_region ?_
        refine R_cons rfl (op_pure (p_move rfl) rfl ?_)
        refine R_cons rfl (op_pure (p_nilCheck rfl) rfl ?_)
        refine R_cons rfl (op_pure (by first | exact p_fieldAddr0 rfl fd_disks_Disk_4 | exact p_fieldAddr rfl fd_disks_Disk_4) rfl ?_)
        refine R_cons rfl (op_pure (by first | exact p_load rfl sc_bool (by repeat (first | exact List.Mem.head _ | apply List.Mem.tail)) (by first | assumption | exact bytesV_get (by omega) | exact wordsV_get (by omega) | rfl) | exact p_load_base rfl sc_bool (by assumption) (by simp) (by assumption)) rfl ?_)
        refine R_cons rfl (op_pure (p_not rfl) rfl ?_)
        refine R_cons rfl (op_pure (p_move rfl) rfl ?_)
        first | refine R_pass rfl rfl rfl rfl ?_ | refine R_pass_undef rfl rfl rfl ?_ | refine R_guard rfl rfl rfl (op_pure (p_move rfl) rfl ?_)
        first | refine R_pass rfl rfl rfl rfl ?_ | refine R_pass_undef rfl rfl rfl ?_ | refine R_guard rfl rfl rfl (op_pure (p_nilCheck rfl) rfl ?_)
        first | refine R_pass rfl rfl rfl rfl ?_ | refine R_pass_undef rfl rfl rfl ?_ | refine R_guard rfl rfl rfl (op_pure (by first | exact p_fieldAddr0 rfl fd_disks_Disk_3 | exact p_fieldAddr rfl fd_disks_Disk_3) rfl ?_)
        first | refine R_pass rfl rfl rfl rfl ?_ | refine R_pass_undef rfl rfl rfl ?_ | refine R_guard rfl rfl rfl (op_pure (by first | exact p_load rfl sc_int (by repeat (first | exact List.Mem.head _ | apply List.Mem.tail)) (by first | assumption | exact bytesV_get (by omega) | exact wordsV_get (by omega) | rfl) | exact p_load_base rfl sc_int (by assumption) (by simp) (by assumption)) rfl ?_)
        first | refine R_pass rfl rfl rfl rfl ?_ | refine R_pass_undef rfl rfl rfl ?_ | refine R_guard rfl rfl rfl (op_pure (p_bin rfl rfl (b_gtr g2)) rfl ?_)
        refine R_cons rfl (op_pure (by first | exact p_pick_yes rfl rfl | exact p_pick_no rfl rfl | exact p_pick rfl rfl rfl) rfl ?_)
        refine R_nil ?_
        repeat (first | refine S_scope ?_ | refine S_label ?_ | refine E_noGoto_normal ?_ | refine E_noGoto_ret ?_ | refine E_noGoto_exit ?_ | refine S_yes rfl (by first | with_reducible rfl | decide) ?_ | refine S_no rfl (by first | with_reducible rfl | decide) ?_ | refine S_seq ?_ | refine E_seq ?_ | refine S_block ?_ | refine E_block_normal ?_ | refine S_skip ?_ | refine S_exit ?_ | refine S_ret ?_ | refine E_then_exit ?_ | refine E_then_ret ?_ | refine E_block_ret ?_ | refine E_block_exit ?_ | refine E_block_exit_other rfl ?_)
        refine S_region ?_
        refine R_cons rfl (op_pure (p_move rfl) rfl ?_)
        refine R_cons rfl (op_pure (p_nilCheck rfl) rfl ?_)
        refine R_cons rfl (op_pure (by first | exact p_fieldAddr0 rfl fd_disks_Disk_4 | exact p_fieldAddr rfl fd_disks_Disk_4) rfl ?_)
        refine R_cons rfl (op_pure (by first | exact p_load rfl sc_bool (by repeat (first | exact List.Mem.head _ | apply List.Mem.tail)) (by first | assumption | exact bytesV_get (by omega) | exact wordsV_get (by omega) | rfl) | exact p_load_base rfl sc_bool (by assumption) (by simp) (by assumption)) rfl ?_)
        refine R_cons rfl (op_pure (p_assign rfl) rfl ?_)
        refine R_nil ?_
        repeat (first | refine S_scope ?_ | refine S_label ?_ | refine E_noGoto_normal ?_ | refine E_noGoto_ret ?_ | refine E_noGoto_exit ?_ | refine S_yes rfl (by first | with_reducible rfl | decide) ?_ | refine S_no rfl (by first | with_reducible rfl | decide) ?_ | refine S_seq ?_ | refine E_seq ?_ | refine S_block ?_ | refine E_block_normal ?_ | refine S_skip ?_ | refine S_exit ?_ | refine S_ret ?_ | refine E_then_exit ?_ | refine E_then_ret ?_ | refine E_block_ret ?_ | refine E_block_exit ?_ | refine E_block_exit_other rfl ?_)
        exact E_ret1 rfl rfl fun w' hm => ⟨_, _, rfl, hm, rfl, rfl⟩
end Go.Proofs.Ytfdlafjifjndeaa
/-
  The layer disks: sectors read, all made sure, disks made.
-/
namespace Go.K
open Go Go.RowKit
theorem reads_pre {w : World} {b : Nat} {xs sp : List Value} {t : TypeId} {fr : Nat × Nat} (h : w.heap[b]? = some (.cells (xs ++ sp).toArray t fr)) : Reads w (some ⟨b, 0, none⟩) xs.length xs := by
  have h1 := (reads_block (n := (xs ++ sp).length) h rfl).head (k := xs.length) (by simp)
  rwa [List.take_left] at h1
theorem Mem.readsPre {B : Nat} {w0 : Base} {w : World} {H : Hp} (hm : Mem B w0 H w) {b : Nat} {xs sp : List Value} {t : TypeId} {fr : Nat × Nat} (hH : (b, Obj.cells (xs ++ sp).toArray t fr) ∈ H) : Reads w (some ⟨b, 0, none⟩) xs.length xs := reads_pre (hm.own _ hH).2
theorem rep_sec (n : Nat) (x : List UInt8) : (List.replicate n (bytesV x)).flatMap id = secV (List.replicate n x) := by
  unfold secV
  rw [List.flatMap_def, List.flatMap_def, List.map_replicate, List.map_replicate]
  rfl
section
variable {P : Program} {B : Nat} {w0 : Base} {N : Nat} {D : List Deferred} {env : Env} {H : Hp} {ty : TypeId} {pos : String} {after : Array Edge} {g : Option (Nat × Bool)} {dst : Option Nat}
theorem p_eql_sliceNil {t e yT : TypeId} {x y : Operand} {ad : Addr} {n c : Nat} (hx : look env x = some (.slice (some ad) n c)) (hy : look env y = some (.slice none 0 0)) (ht : P.underlying t = some (.slice e)) :
    Pure1 P B w0 N D ⟨dst, .binOp .eql t x y yT, ty, pos, after, g⟩ env H (.bool false) := fun a w hf _ => by
  have h1 : ∀ d, (Op.equalIn (d + 1) t (.slice (some ad) n c) (.slice none 0 0)).run P w = .ok false w := fun d => by rw [Op.equalIn]; simp [run_underlying ht]
  simp [execOp, hf.eval hx, hf.eval hy, eqGuard, binOp, Op.equal, Op.maxDepth, h1]
end
end Go.K
namespace Go.Proofs.Ytfdlafjifjndeaa
open Go.RowKit Go.K
attribute [local irreducible] Exit.then Exit.inBlock Exit.noGoto bodyPost Code.wp QL Sx Rx Qx Ex Dx Op1 Pure1 Still1 K.Sub Calm Code.wpIn
set_option linter.unusedVariables false
attribute [local irreducible] secV leftS blownS
set_option maxHeartbeats 1000000 in
theorem dread_any (bd bn n cs cn : Nat) (As : Option Addr) (vw : Value) (left : Int) (bl : Bool) (now : List (List UInt8)) (sp : List Value) (hS : Secs now) (hnl : now.length = n) (i : Nat) (hi : i < n) (x : List UInt8) (hx : now[i]? = some x) (w : World)
    (hb : w.heap[bd]? = some (.cells (diskC (.slice As n cs) (.slice (some ⟨bn, 0, none⟩) n cn) vw left bl).toArray 113 (0, 0))) (hbn : w.heap[bn]? = some (.cells (secV now ++ sp).toArray 115 (0, 0))) :
    Calls Try.prog 53 [.pointer (some ⟨bd, 0, none⟩), .int .i64 (i : Int)].toArray w fun e w' => ∃ g, e = .returned (.tuple [.slice (some ⟨g, 0, none⟩) 64 64, .int .i64 0].toArray) ∧ w.heap.size ≤ g ∧ w'.heap[g]? = some (.cells (bytesV x).toArray 5 (0, 0)) ∧ Below w.heap.size w w' := by
  have hbl := (Array.getElem?_eq_some_iff.1 hb).1
  have c1 : w.cell? ⟨bd, 1, none⟩ = some (.slice (some ⟨bn, 0, none⟩) n cn) := by rw [cell_of_row w bd 1 _ _ _ hb]; rfl
  have g1 : decide ((i : Int) < 0) = false := decide_eq_false (by omega)
  have g2 : decide ((n : Int) ≤ (i : Int)) = false := decide_eq_false (by omega)
  have hxl : x.length = 64 := hS x (List.mem_of_getElem? hx)
  have hrow : Reads w (some ⟨bn, 0 + i * 64, none⟩) 64 (bytesV x) := by
    have h := reads_pre hbn
    rw [secV_length hS] at h
    unfold secV at h
    exact Reads.row (f := bytesV) (l := now) h hS.each hx
  refine enter Try.func53 rfl Try.ntmps53 (by simp) ?_
  repeat (first | refine S_scope ?_ | refine S_label ?_ | refine E_noGoto_normal ?_ | refine E_noGoto_ret ?_ | refine E_noGoto_exit ?_ | refine S_yes rfl (by first | with_reducible rfl | decide) ?_ | refine S_no rfl (by first | with_reducible rfl | decide) ?_ | refine S_seq ?_ | refine E_seq ?_ | refine S_block ?_ | refine E_block_normal ?_ | refine S_skip ?_ | refine S_exit ?_ | refine S_ret ?_ | refine E_then_exit ?_ | refine E_then_ret ?_ | refine E_block_ret ?_ | refine E_block_exit ?_ | refine E_block_exit_other rfl ?_)
  refine S_region ?_
  refine R_cons rfl (op_pure (p_assign rfl) rfl ?_)
  refine R_cons rfl (op_pure (p_assign rfl) rfl ?_)
  refine R_nil ?_
  repeat (first | refine S_scope ?_ | refine S_label ?_ | refine E_noGoto_normal ?_ | refine E_noGoto_ret ?_ | refine E_noGoto_exit ?_ | refine S_yes rfl (by first | with_reducible rfl | decide) ?_ | refine S_no rfl (by first | with_reducible rfl | decide) ?_ | refine S_seq ?_ | refine E_seq ?_ | refine S_block ?_ | refine E_block_normal ?_ | refine S_skip ?_ | refine S_exit ?_ | refine S_ret ?_ | refine E_then_exit ?_ | refine E_then_ret ?_ | refine E_block_ret ?_ | refine E_block_exit ?_ | refine E_block_exit_other rfl ?_)
  refine S_region ?_
  refine R_cons rfl (op_pure (p_move rfl) rfl ?_)
  refine R_cons rfl (op_callV rfl rfl Try.func62 rfl (by kernel_rfl) rfl (Nat.le_refl _) (fun w' hm => dnone_any bd n cs As _ vw left bl (by omega) w' (below_block hm.below hb)) ?_)
  refine R_cons rfl (op_pure (p_assign rfl) rfl ?_)
  refine R_nil ?_
  repeat (first | refine S_scope ?_ | refine S_label ?_ | refine E_noGoto_normal ?_ | refine E_noGoto_ret ?_ | refine E_noGoto_exit ?_ | refine S_yes rfl (by first | with_reducible rfl | decide) ?_ | refine S_no rfl (by first | with_reducible rfl | decide) ?_ | refine S_seq ?_ | refine E_seq ?_ | refine S_block ?_ | refine E_block_normal ?_ | refine S_skip ?_ | refine S_exit ?_ | refine S_ret ?_ | refine E_then_exit ?_ | refine E_then_ret ?_ | refine E_block_ret ?_ | refine E_block_exit ?_ | refine E_block_exit_other rfl ?_)
  refine S_region ?_
  refine R_cons rfl (op_pure (p_move rfl) rfl ?_)
  refine R_cons rfl (op_pure (p_bin rfl rfl (b_lss g1)) rfl ?_)
  refine R_cons rfl (op_pure (p_move rfl) rfl ?_)
  first | refine R_pass rfl rfl rfl rfl ?_ | refine R_pass_undef rfl rfl rfl ?_ | refine R_guard rfl rfl rfl (op_pure (p_move rfl) rfl ?_)
  first | refine R_pass rfl rfl rfl rfl ?_ | refine R_pass_undef rfl rfl rfl ?_ | refine R_guard rfl rfl rfl (op_pure (p_move rfl) rfl ?_)
  first | refine R_pass rfl rfl rfl rfl ?_ | refine R_pass_undef rfl rfl rfl ?_ | refine R_guard rfl rfl rfl (op_pure (p_nilCheck rfl) rfl ?_)
  first | refine R_pass rfl rfl rfl rfl ?_ | refine R_pass_undef rfl rfl rfl ?_ | refine R_guard rfl rfl rfl (op_pure (by first | exact p_fieldAddr0 rfl fd_disks_Disk_1 | exact p_fieldAddr rfl fd_disks_Disk_1) rfl ?_)
  first | refine R_pass rfl rfl rfl rfl ?_ | refine R_pass_undef rfl rfl rfl ?_ | refine R_guard rfl rfl rfl (op_pure (p_load_base rfl sc_disks_sector hbl (by simp) c1) rfl ?_)
  first | refine R_pass rfl rfl rfl rfl ?_ | refine R_pass_undef rfl rfl rfl ?_ | refine R_guard rfl rfl rfl (op_pure (p_lenR rfl slr_disks_sector) rfl ?_)
  first | refine R_pass rfl rfl rfl rfl ?_ | refine R_pass_undef rfl rfl rfl ?_ | refine R_guard rfl rfl rfl (op_pure (p_bin rfl rfl (b_geq g2)) rfl ?_)
  refine R_cons rfl (op_pure (by first | exact p_pick_yes rfl rfl | exact p_pick_no rfl rfl | exact p_pick rfl rfl rfl) rfl ?_)
  refine R_cons rfl (op_pure (p_assign rfl) rfl ?_)
  refine R_nil ?_
  repeat (first | refine S_scope ?_ | refine S_label ?_ | refine E_noGoto_normal ?_ | refine E_noGoto_ret ?_ | refine E_noGoto_exit ?_ | refine S_yes rfl (by first | with_reducible rfl | decide) ?_ | refine S_no rfl (by first | with_reducible rfl | decide) ?_ | refine S_seq ?_ | refine E_seq ?_ | refine S_block ?_ | refine E_block_normal ?_ | refine S_skip ?_ | refine S_exit ?_ | refine S_ret ?_ | refine E_then_exit ?_ | refine E_then_ret ?_ | refine E_block_ret ?_ | refine E_block_exit ?_ | refine E_block_exit_other rfl ?_)
  refine S_region ?_
  refine R_cons rfl (op_makeSlice (l := 64) (c := 64) rfl rfl rfl rfl slc_u8s.1 el_u8 (by decide) (by decide) (by decide) rfl (Nat.le_refl _) (fun b22 => ?_))
  refine R_cons rfl (op_pure (p_assign rfl) rfl ?_)
  refine R_nil ?_
  repeat (first | refine S_scope ?_ | refine S_label ?_ | refine E_noGoto_normal ?_ | refine E_noGoto_ret ?_ | refine E_noGoto_exit ?_ | refine S_yes rfl (by first | with_reducible rfl | decide) ?_ | refine S_no rfl (by first | with_reducible rfl | decide) ?_ | refine S_seq ?_ | refine E_seq ?_ | refine S_block ?_ | refine E_block_normal ?_ | refine S_skip ?_ | refine S_exit ?_ | refine S_ret ?_ | refine E_then_exit ?_ | refine E_then_ret ?_ | refine E_block_ret ?_ | refine E_block_exit ?_ | refine E_block_exit_other rfl ?_)
  refine S_region ?_
  refine R_cons rfl (op_pure (p_move rfl) rfl ?_)
  refine R_cons rfl (op_pure (p_move rfl) rfl ?_)
  refine R_cons rfl (op_pure (p_nilCheck rfl) rfl ?_)
  refine R_cons rfl (op_pure (by first | exact p_fieldAddr0 rfl fd_disks_Disk_1 | exact p_fieldAddr rfl fd_disks_Disk_1) rfl ?_)
  refine R_cons rfl (op_pure (p_load_base rfl sc_disks_sector hbl (by simp) c1) rfl ?_)
  refine R_cons rfl (op_pure (p_move rfl) rfl ?_)
  refine R_cons rfl (op_pure (p_indexR (j := i) rfl rfl rfl slr_disks_sector hi) rfl ?_)
  refine R_cons rfl (op_pure (p_sliceArr rfl arr_disks_sector) rfl ?_)
  refine R_cons rfl (op_copy (n := 64) rfl rfl slc_u8s rfl (fun w' hm => hrow.base hm) (bytesV_one _) (by repeat (first | exact At.here | apply At.there)) (by decide) rfl ?_)
  refine R_nil ?_
  repeat (first | refine S_scope ?_ | refine S_label ?_ | refine E_noGoto_normal ?_ | refine E_noGoto_ret ?_ | refine E_noGoto_exit ?_ | refine S_yes rfl (by first | with_reducible rfl | decide) ?_ | refine S_no rfl (by first | with_reducible rfl | decide) ?_ | refine S_seq ?_ | refine E_seq ?_ | refine S_block ?_ | refine E_block_normal ?_ | refine S_skip ?_ | refine S_exit ?_ | refine S_ret ?_ | refine E_then_exit ?_ | refine E_then_ret ?_ | refine E_block_ret ?_ | refine E_block_exit ?_ | refine E_block_exit_other rfl ?_)
  refine S_region ?_
  refine R_cons rfl (op_pure (p_move rfl) rfl ?_)
  refine R_cons rfl (op_pure (p_assign rfl) rfl ?_)
  refine R_cons rfl (op_pure (p_assign rfl) rfl ?_)
  refine R_nil ?_
  repeat (first | refine S_scope ?_ | refine S_label ?_ | refine E_noGoto_normal ?_ | refine E_noGoto_ret ?_ | refine E_noGoto_exit ?_ | refine S_yes rfl (by first | with_reducible rfl | decide) ?_ | refine S_no rfl (by first | with_reducible rfl | decide) ?_ | refine S_seq ?_ | refine E_seq ?_ | refine S_block ?_ | refine E_block_normal ?_ | refine S_skip ?_ | refine S_exit ?_ | refine S_ret ?_ | refine E_then_exit ?_ | refine E_then_ret ?_ | refine E_block_ret ?_ | refine E_block_exit ?_ | refine E_block_exit_other rfl ?_)
  have hlay : lay (List.replicate 64 (.int .u8 0)) 0 ((bytesV x).take 64) = bytesV x := by
    rw [List.take_of_length_le (by rw [bytesV_length, hxl]; exact Nat.le_refl _)]
    exact lay_whole (by rw [bytesV_length, hxl]; rfl)
  rw [hlay]
  refine E_ret2 rfl rfl rfl fun w' hm => ⟨b22, rfl, ?_, (hm.own (b22, _) (by repeat (first | exact List.Mem.head _ | apply List.Mem.tail))).2, hm.below⟩
  rcases (hm.own (b22, _) (by repeat (first | exact List.Mem.head _ | apply List.Mem.tail))).1 with h | h
  · exact h
  · cases h
set_option maxHeartbeats 1000000 in
theorem dsettle_any (bd bs bn n cs cn : Nat) (vw : Value) (left : Int) (bl : Bool) (sure now : List (List UInt8)) (sps spn : List Value) (hS : Secs sure) (hN : Secs now) (hsl : sure.length = n) (hnl : now.length = n) (hn : n ≠ 0) (w : World)
    (hm : Mem w.heap.size ⟨w, [bd, bs, bn]⟩ [(bd, .cells (diskC (.slice (some ⟨bs, 0, none⟩) n cs) (.slice (some ⟨bn, 0, none⟩) n cn) vw left bl).toArray 113 (0, 0)), (bs, .cells (secV sure ++ sps).toArray 115 (0, 0)), (bn, .cells (secV now ++ spn).toArray 115 (0, 0))] w) :
    Calls Try.prog 63 [.pointer (some ⟨bd, 0, none⟩)].toArray w fun e w' => ∃ v H', e = .returned v ∧ Mem w.heap.size ⟨w, [bd, bs, bn]⟩ H' w' ∧ v = .tuple #[] ∧
      H' = [(bd, .cells (diskC (.slice (some ⟨bs, 0, none⟩) n cs) (.slice (some ⟨bn, 0, none⟩) n cn) (.slice none 0 0) left bl).toArray 113 (0, 0)), (bs, .cells (secV now ++ sps).toArray 115 (0, 0)), (bn, .cells (secV now ++ spn).toArray 115 (0, 0))] := by
  have hl1 := secV_length hS
  have hl2 := secV_length hN
  have hlay : lay (secV sure ++ sps) 0 (secV now) = secV now ++ sps := by
    rw [lay_append_row (by rw [hl1, hl2]; omega), lay_whole (by rw [hl1, hl2]; omega)]
  have hmin : Nat.min n n = n := Nat.min_self n
  have hn64 : n * 64 ≠ 0 := by omega
  refine enter_at Try.func63 rfl Try.ntmps63 (by simp) hm ?_
  repeat (first | refine S_scope ?_ | refine S_label ?_ | refine E_noGoto_normal ?_ | refine E_noGoto_ret ?_ | refine E_noGoto_exit ?_ | refine S_yes rfl (by first | with_reducible rfl | decide) ?_ | refine S_no rfl (by first | with_reducible rfl | decide) ?_ | refine S_seq ?_ | refine E_seq ?_ | refine S_block ?_ | refine E_block_normal ?_ | refine S_skip ?_ | refine S_exit ?_ | refine S_ret ?_ | refine E_then_exit ?_ | refine E_then_ret ?_ | refine E_block_ret ?_ | refine E_block_exit ?_ | refine E_block_exit_other rfl ?_)
  refine S_tail 8 (by kernel_rfl) (by kernel_rfl) (by kernel_rfl) (by kernel_rfl) ?_
  refine Q_cons (Still1.of_pure (p_move rfl)) rfl ?_
  refine Q_cons (Still1.of_pure (p_nilCheck rfl)) rfl ?_
  refine Q_cons (Still1.of_pure (by first | exact p_fieldAddr0 rfl fd_disks_Disk_0 | exact p_fieldAddr rfl fd_disks_Disk_0)) rfl ?_
  refine Q_cons (Still1.of_pure (by first | exact p_load rfl sc_disks_sector (by repeat (first | exact List.Mem.head _ | apply List.Mem.tail)) (by first | assumption | exact bytesV_get (by omega) | exact wordsV_get (by omega) | rfl) | exact p_load_base rfl sc_disks_sector (by assumption) (by simp) (by assumption))) rfl ?_
  refine Q_cons (Still1.of_pure (p_move rfl)) rfl ?_
  refine Q_cons (Still1.of_pure (p_nilCheck rfl)) rfl ?_
  refine Q_cons (Still1.of_pure (by first | exact p_fieldAddr0 rfl fd_disks_Disk_1 | exact p_fieldAddr rfl fd_disks_Disk_1)) rfl ?_
  refine Q_cons (Still1.of_pure (by first | exact p_load rfl sc_disks_sector (by repeat (first | exact List.Mem.head _ | apply List.Mem.tail)) (by first | assumption | exact bytesV_get (by omega) | exact wordsV_get (by omega) | rfl) | exact p_load_base rfl sc_disks_sector (by assumption) (by simp) (by assumption))) rfl ?_
  refine Q_nop ?_
  refine Q_nil ?_
  refine E_tail ?_
  refine R_cons rfl (op_copyR (s := 64) (n := n) (xs := secV now) rfl rfl slr_disks_sector.1 (by kernel_rfl) hmin hn64 (fun w' hm => by have h := hm.readsPre (b := bn) (xs := secV now) (by repeat (first | exact List.Mem.head _ | apply List.Mem.tail)); rw [hl2, hnl] at h; exact h) (secV_one _) (by repeat (first | exact At.here | apply At.there)) (by rw [List.length_append, hl1]; omega) rfl ?_)
  refine R_nil ?_
  repeat (first | refine S_scope ?_ | refine S_label ?_ | refine E_noGoto_normal ?_ | refine E_noGoto_ret ?_ | refine E_noGoto_exit ?_ | refine S_yes rfl (by first | with_reducible rfl | decide) ?_ | refine S_no rfl (by first | with_reducible rfl | decide) ?_ | refine S_seq ?_ | refine E_seq ?_ | refine S_block ?_ | refine E_block_normal ?_ | refine S_skip ?_ | refine S_exit ?_ | refine S_ret ?_ | refine E_then_exit ?_ | refine E_then_ret ?_ | refine E_block_ret ?_ | refine E_block_exit ?_ | refine E_block_exit_other rfl ?_)
  rw [hlay]
  refine S_region ?_
  refine R_cons rfl (op_pure (p_move rfl) rfl ?_)
  refine R_cons rfl (op_pure (p_nilCheck rfl) rfl ?_)
  refine R_cons rfl (op_pure (by first | exact p_fieldAddr0 rfl fd_disks_Disk_2 | exact p_fieldAddr rfl fd_disks_Disk_2) rfl ?_)
  refine R_cons rfl (op_store rfl rfl rfl sc_disks_write (by repeat (first | exact At.here | apply At.there)) (by first | exact Nat.le_of_ble_eq_true rfl | omega | (simp only [bytesV_length, wordsV_length]; omega) | (simp only [bytesV_length, wordsV_length, List.length_cons, List.length_nil, List.length_set, List.length_append]; omega) | decide) ?_)
  refine R_nil ?_
  repeat (first | refine S_scope ?_ | refine S_label ?_ | refine E_noGoto_normal ?_ | refine E_noGoto_ret ?_ | refine E_noGoto_exit ?_ | refine S_yes rfl (by first | with_reducible rfl | decide) ?_ | refine S_no rfl (by first | with_reducible rfl | decide) ?_ | refine S_seq ?_ | refine E_seq ?_ | refine S_block ?_ | refine E_block_normal ?_ | refine S_skip ?_ | refine S_exit ?_ | refine S_ret ?_ | refine E_then_exit ?_ | refine E_then_ret ?_ | refine E_block_ret ?_ | refine E_block_exit ?_ | refine E_block_exit_other rfl ?_)
  exact E_end0 rfl fun w' hm => ⟨_, _, rfl, hm, rfl, rfl⟩
set_option maxHeartbeats 1000000 in
theorem dsync_any (bd bs bn n cs cn : Nat) (vw : Value) (left : Int) (bl : Bool) (hlo : -9223372036854775808 ≤ left) (hhi : left ≤ 9223372036854775807) (sure now : List (List UInt8)) (sps spn : List Value) (hS : Secs sure) (hN : Secs now) (hsl : sure.length = n) (hnl : now.length = n) (hn : n ≠ 0) (w : World)
    (hm : Mem w.heap.size ⟨w, [bd, bs, bn]⟩ [(bd, .cells (diskC (.slice (some ⟨bs, 0, none⟩) n cs) (.slice (some ⟨bn, 0, none⟩) n cn) vw left bl).toArray 113 (0, 0)), (bs, .cells (secV sure ++ sps).toArray 115 (0, 0)), (bn, .cells (secV now ++ spn).toArray 115 (0, 0))] w) :
    Calls Try.prog 61 [.pointer (some ⟨bd, 0, none⟩)].toArray w fun e w' => ∃ v H', e = .returned v ∧ Mem w.heap.size ⟨w, [bd, bs, bn]⟩ H' w' ∧
      v = .int .i64 (if blownS left bl then 9 else 0) ∧
      H' = [(bd, .cells (diskC (.slice (some ⟨bs, 0, none⟩) n cs) (.slice (some ⟨bn, 0, none⟩) n cn) (if blownS left bl then vw else .slice none 0 0) (leftS left bl) (blownS left bl)).toArray 113 (0, 0)), (bs, .cells (secV (if blownS left bl then sure else now) ++ sps).toArray 115 (0, 0)), (bn, .cells (secV now ++ spn).toArray 115 (0, 0))] := by
  refine enter_at Try.func61 rfl Try.ntmps61 (by simp) hm ?_
  repeat (first | refine S_scope ?_ | refine S_label ?_ | refine E_noGoto_normal ?_ | refine E_noGoto_ret ?_ | refine E_noGoto_exit ?_ | refine S_yes rfl (by first | with_reducible rfl | decide) ?_ | refine S_no rfl (by first | with_reducible rfl | decide) ?_ | refine S_seq ?_ | refine E_seq ?_ | refine S_block ?_ | refine E_block_normal ?_ | refine S_skip ?_ | refine S_exit ?_ | refine S_ret ?_ | refine E_then_exit ?_ | refine E_then_ret ?_ | refine E_block_ret ?_ | refine E_block_exit ?_ | refine E_block_exit_other rfl ?_)
  refine S_region ?_
  refine R_cons rfl (op_pure (p_assign rfl) rfl ?_)
  refine R_nil ?_
  repeat (first | refine S_scope ?_ | refine S_label ?_ | refine E_noGoto_normal ?_ | refine E_noGoto_ret ?_ | refine E_noGoto_exit ?_ | refine S_yes rfl (by first | with_reducible rfl | decide) ?_ | refine S_no rfl (by first | with_reducible rfl | decide) ?_ | refine S_seq ?_ | refine E_seq ?_ | refine S_block ?_ | refine E_block_normal ?_ | refine S_skip ?_ | refine S_exit ?_ | refine S_ret ?_ | refine E_then_exit ?_ | refine E_then_ret ?_ | refine E_block_ret ?_ | refine E_block_exit ?_ | refine E_block_exit_other rfl ?_)
  refine S_region ?_
  refine R_cons rfl (op_pure (p_move rfl) rfl ?_)
  refine R_cons rfl (op_callV rfl rfl Try.func62 rfl (by kernel_rfl) rfl (Nat.le_refl _) (fun w' hm => dnone_any bd n cs _ _ vw left bl hn w' (hm.own (bd, _) (by repeat (first | exact List.Mem.head _ | apply List.Mem.tail))).2) ?_)
  refine R_cons rfl (op_pure (p_assign rfl) rfl ?_)
  refine R_nil ?_
  repeat (first | refine S_scope ?_ | refine S_label ?_ | refine E_noGoto_normal ?_ | refine E_noGoto_ret ?_ | refine E_noGoto_exit ?_ | refine S_yes rfl (by first | with_reducible rfl | decide) ?_ | refine S_no rfl (by first | with_reducible rfl | decide) ?_ | refine S_seq ?_ | refine E_seq ?_ | refine S_block ?_ | refine E_block_normal ?_ | refine S_skip ?_ | refine S_exit ?_ | refine S_ret ?_ | refine E_then_exit ?_ | refine E_then_ret ?_ | refine E_block_ret ?_ | refine E_block_exit ?_ | refine E_block_exit_other rfl ?_)
  refine S_region ?_
  refine R_cons rfl (op_pure (p_move rfl) rfl ?_)
  refine R_cons rfl (op_callH (Hc := [(bd, .cells (diskC (.slice (some ⟨bs, 0, none⟩) n cs) (.slice (some ⟨bn, 0, none⟩) n cn) vw left bl).toArray 113 (0, 0))]) (K := [(bs, .cells (secV sure ++ sps).toArray 115 (0, 0)), (bn, .cells (secV now ++ spn).toArray 115 (0, 0))]) rfl rfl Try.func70 rfl (by kernel_rfl) rfl (List.Perm.refl _) (fun w' hm => dspent_any bd _ _ vw left bl hlo hhi w' hm) (fun v H' hp => ?_))
  obtain ⟨rfl, rfl⟩ := hp
  refine R_cons rfl (op_pure (p_assign rfl) rfl ?_)
  refine R_nil ?_
  cases hbw : blownS left bl with
  | true =>
    repeat (first | refine S_scope ?_ | refine S_label ?_ | refine E_noGoto_normal ?_ | refine E_noGoto_ret ?_ | refine E_noGoto_exit ?_ | refine S_yes rfl (by first | with_reducible rfl | decide) ?_ | refine S_no rfl (by first | with_reducible rfl | decide) ?_ | refine S_seq ?_ | refine E_seq ?_ | refine S_block ?_ | refine E_block_normal ?_ | refine S_skip ?_ | refine S_exit ?_ | refine S_ret ?_ | refine E_then_exit ?_ | refine E_then_ret ?_ | refine E_block_ret ?_ | refine E_block_exit ?_ | refine E_block_exit_other rfl ?_)
    refine S_region ?_
    refine R_cons rfl (op_pure (p_assign rfl) rfl ?_)
    refine R_nil ?_
    repeat (first | refine S_scope ?_ | refine S_label ?_ | refine E_noGoto_normal ?_ | refine E_noGoto_ret ?_ | refine E_noGoto_exit ?_ | refine S_yes rfl (by first | with_reducible rfl | decide) ?_ | refine S_no rfl (by first | with_reducible rfl | decide) ?_ | refine S_seq ?_ | refine E_seq ?_ | refine S_block ?_ | refine E_block_normal ?_ | refine S_skip ?_ | refine S_exit ?_ | refine S_ret ?_ | refine E_then_exit ?_ | refine E_then_ret ?_ | refine E_block_ret ?_ | refine E_block_exit ?_ | refine E_block_exit_other rfl ?_)
    exact E_ret1 rfl rfl fun w' hm => ⟨_, _, rfl, hm, rfl, rfl⟩
  | false =>
    repeat (first | refine S_scope ?_ | refine S_label ?_ | refine E_noGoto_normal ?_ | refine E_noGoto_ret ?_ | refine E_noGoto_exit ?_ | refine S_yes rfl (by first | with_reducible rfl | decide) ?_ | refine S_no rfl (by first | with_reducible rfl | decide) ?_ | refine S_seq ?_ | refine E_seq ?_ | refine S_block ?_ | refine E_block_normal ?_ | refine S_skip ?_ | refine S_exit ?_ | refine S_ret ?_ | refine E_then_exit ?_ | refine E_then_ret ?_ | refine E_block_ret ?_ | refine E_block_exit ?_ | refine E_block_exit_other rfl ?_)
    refine S_region ?_
    refine R_cons rfl (op_pure (p_move rfl) rfl ?_)
    refine R_cons rfl (op_callH (Hc := [(bd, .cells (diskC (.slice (some ⟨bs, 0, none⟩) n cs) (.slice (some ⟨bn, 0, none⟩) n cn) vw (leftS left bl) false).toArray 113 (0, 0)), (bs, .cells (secV sure ++ sps).toArray 115 (0, 0)), (bn, .cells (secV now ++ spn).toArray 115 (0, 0))]) (K := []) rfl rfl Try.func63 rfl (by kernel_rfl) rfl (by rw [List.append_nil]; exact List.Perm.refl _) (fun w' hm => dsettle_any bd bs bn n cs cn vw (leftS left bl) false sure now sps spn hS hN hsl hnl hn w' hm) (fun v H' hp => ?_))
    refine R_nil ?_
    obtain ⟨rfl, rfl⟩ := hp
    repeat (first | refine S_scope ?_ | refine S_label ?_ | refine E_noGoto_normal ?_ | refine E_noGoto_ret ?_ | refine E_noGoto_exit ?_ | refine S_yes rfl (by first | with_reducible rfl | decide) ?_ | refine S_no rfl (by first | with_reducible rfl | decide) ?_ | refine S_seq ?_ | refine E_seq ?_ | refine S_block ?_ | refine E_block_normal ?_ | refine S_skip ?_ | refine S_exit ?_ | refine S_ret ?_ | refine E_then_exit ?_ | refine E_then_ret ?_ | refine E_block_ret ?_ | refine E_block_exit ?_ | refine E_block_exit_other rfl ?_)
    refine S_region ?_
    refine R_cons rfl (op_pure (p_assign rfl) rfl ?_)
    refine R_nil ?_
    repeat (first | refine S_scope ?_ | refine S_label ?_ | refine E_noGoto_normal ?_ | refine E_noGoto_ret ?_ | refine E_noGoto_exit ?_ | refine S_yes rfl (by first | with_reducible rfl | decide) ?_ | refine S_no rfl (by first | with_reducible rfl | decide) ?_ | refine S_seq ?_ | refine E_seq ?_ | refine S_block ?_ | refine E_block_normal ?_ | refine S_skip ?_ | refine S_exit ?_ | refine S_ret ?_ | refine E_then_exit ?_ | refine E_then_ret ?_ | refine E_block_ret ?_ | refine E_block_exit ?_ | refine E_block_exit_other rfl ?_)
    exact E_ret1 rfl rfl fun w' hm => ⟨_, _, rfl, hm, rfl, rfl⟩
theorem dclone_any (b n c : Nat) (l : List (List UInt8)) (sp : List Value) (hS : Secs l) (hl : l.length = n) (hn : n ≠ 0) (hn2 : n ≤ 4096) (w : World) (hb : w.heap[b]? = some (.cells (secV l ++ sp).toArray 115 (0, 0))) :
    Calls Try.prog 64 [.slice (some ⟨b, 0, none⟩) n c].toArray w fun e w' => ∃ g cap sp', e = .returned (.slice (some ⟨g, 0, none⟩) n cap) ∧ w.heap.size ≤ g ∧ w'.heap[g]? = some (.cells (secV l ++ sp').toArray 115 (0, 0)) ∧ (n ≤ cap ∧ cap ≤ maxLen) ∧ Below w.heap.size w w' := by
  have hl2 := secV_length hS
  have hsrc := reads_pre hb
  rw [hl2, hl] at hsrc
  refine enter Try.func64 rfl Try.ntmps64 (by simp) ?_
  repeat (first | refine S_scope ?_ | refine S_label ?_ | refine E_noGoto_normal ?_ | refine E_noGoto_ret ?_ | refine E_noGoto_exit ?_ | refine S_yes rfl (by first | with_reducible rfl | decide) ?_ | refine S_no rfl (by first | with_reducible rfl | decide) ?_ | refine S_seq ?_ | refine E_seq ?_ | refine S_block ?_ | refine E_block_normal ?_ | refine S_skip ?_ | refine S_exit ?_ | refine S_ret ?_ | refine E_then_exit ?_ | refine E_then_ret ?_ | refine E_block_ret ?_ | refine E_block_exit ?_ | refine E_block_exit_other rfl ?_)
  refine S_region ?_
  refine R_cons rfl (op_pure (p_assign rfl) rfl ?_)
  refine R_nil ?_
  repeat (first | refine S_scope ?_ | refine S_label ?_ | refine E_noGoto_normal ?_ | refine E_noGoto_ret ?_ | refine E_noGoto_exit ?_ | refine S_yes rfl (by first | with_reducible rfl | decide) ?_ | refine S_no rfl (by first | with_reducible rfl | decide) ?_ | refine S_seq ?_ | refine E_seq ?_ | refine S_block ?_ | refine E_block_normal ?_ | refine S_skip ?_ | refine S_exit ?_ | refine S_ret ?_ | refine E_then_exit ?_ | refine E_then_ret ?_ | refine E_block_ret ?_ | refine E_block_exit ?_ | refine E_block_exit_other rfl ?_)
  refine S_region ?_
  refine R_cons rfl (op_pure (p_move rfl) rfl ?_)
  refine R_cons rfl (op_pure (p_eql_sliceNil rfl rfl slr_disks_sector.1) rfl ?_)
  refine R_nil ?_
  repeat (first | refine S_scope ?_ | refine S_label ?_ | refine E_noGoto_normal ?_ | refine E_noGoto_ret ?_ | refine E_noGoto_exit ?_ | refine S_yes rfl (by first | with_reducible rfl | decide) ?_ | refine S_no rfl (by first | with_reducible rfl | decide) ?_ | refine S_seq ?_ | refine E_seq ?_ | refine S_block ?_ | refine E_block_normal ?_ | refine S_skip ?_ | refine S_exit ?_ | refine S_ret ?_ | refine E_then_exit ?_ | refine E_then_ret ?_ | refine E_block_ret ?_ | refine E_block_exit ?_ | refine E_block_exit_other rfl ?_)
  refine S_region ?_
  refine R_cons rfl (op_buildSlice0 (s := 64) slr_disks_sector.1 (by kernel_rfl) rfl (Nat.le_refl _) (fun b5 => ?_))
  refine R_cons rfl (op_pure (p_move rfl) rfl ?_)
  refine R_cons rfl (op_appendR (s := 64) (bytes := 64) (n := 0) (cap := 0) (m := n) (xs := []) (sp := []) (ys := secV l) rfl rfl slr_disks_sector.1 elr_disks_sector (by decide) (by repeat (first | exact Del.here | apply Del.there)) (by simp) (by simp) (Nat.zero_le _) (fun w' hm => hsrc.base hm) (secV_one _) (by omega) (by omega) (by omega) rfl (Nat.le_refl _) (fun b' c' s' h' i' j' => ?_))
  refine R_cons rfl (op_pure (p_assign rfl) rfl ?_)
  refine R_nil ?_
  repeat (first | refine S_scope ?_ | refine S_label ?_ | refine E_noGoto_normal ?_ | refine E_noGoto_ret ?_ | refine E_noGoto_exit ?_ | refine S_yes rfl (by first | with_reducible rfl | decide) ?_ | refine S_no rfl (by first | with_reducible rfl | decide) ?_ | refine S_seq ?_ | refine E_seq ?_ | refine S_block ?_ | refine E_block_normal ?_ | refine S_skip ?_ | refine S_exit ?_ | refine S_ret ?_ | refine E_then_exit ?_ | refine E_then_ret ?_ | refine E_block_ret ?_ | refine E_block_exit ?_ | refine E_block_exit_other rfl ?_)
  rw [Nat.zero_add] at i' ⊢
  refine E_ret1 rfl rfl fun w' hm => ⟨b', c', s', rfl, ?_, (hm.own (b', _) (by repeat (first | exact List.Mem.head _ | apply List.Mem.tail))).2, ⟨i', j'⟩, hm.below⟩
  rcases (hm.own (b', _) (by repeat (first | exact List.Mem.head _ | apply List.Mem.tail))).1 with h | h
  · exact h
  · cases h
theorem dof_any (bs n cs : Nat) (l : List (List UInt8)) (sp : List Value) (hS : Secs l) (hl : l.length = n) (hn : n ≠ 0) (hn2 : n ≤ 4096) (w : World) (hm : Mem w.heap.size ⟨w, [bs]⟩ [(bs, .cells (secV l ++ sp).toArray 115 (0, 0))] w) :
    Calls Try.prog 51 [.slice (some ⟨bs, 0, none⟩) n cs].toArray w fun e w' => ∃ v H', e = .returned v ∧ Mem w.heap.size ⟨w, [bs]⟩ H' w' ∧ ∃ bd bn cn spn, v = .pointer (some ⟨bd, 0, none⟩) ∧ (n ≤ cn ∧ cn ≤ maxLen) ∧
      H' = [(bd, .cells (diskC (.slice (some ⟨bs, 0, none⟩) n cs) (.slice (some ⟨bn, 0, none⟩) n cn) (.slice none 0 0) (-1) false).toArray 113 (0, 0)), (bs, .cells (secV l ++ sp).toArray 115 (0, 0)), (bn, .cells (secV l ++ spn).toArray 115 (0, 0))] := by
  refine enter_at Try.func51 rfl Try.ntmps51 (by simp) hm ?_
  repeat (first | refine S_scope ?_ | refine S_label ?_ | refine E_noGoto_normal ?_ | refine E_noGoto_ret ?_ | refine E_noGoto_exit ?_ | refine S_yes rfl (by first | with_reducible rfl | decide) ?_ | refine S_no rfl (by first | with_reducible rfl | decide) ?_ | refine S_seq ?_ | refine E_seq ?_ | refine S_block ?_ | refine E_block_normal ?_ | refine S_skip ?_ | refine S_exit ?_ | refine S_ret ?_ | refine E_then_exit ?_ | refine E_then_ret ?_ | refine E_block_ret ?_ | refine E_block_exit ?_ | refine E_block_exit_other rfl ?_)
  refine S_region ?_
  refine R_cons rfl (op_pure (p_assign rfl) rfl ?_)
  refine R_nil ?_
  repeat (first | refine S_scope ?_ | refine S_label ?_ | refine E_noGoto_normal ?_ | refine E_noGoto_ret ?_ | refine E_noGoto_exit ?_ | refine S_yes rfl (by first | with_reducible rfl | decide) ?_ | refine S_no rfl (by first | with_reducible rfl | decide) ?_ | refine S_seq ?_ | refine E_seq ?_ | refine S_block ?_ | refine E_block_normal ?_ | refine S_skip ?_ | refine S_exit ?_ | refine S_ret ?_ | refine E_then_exit ?_ | refine E_then_ret ?_ | refine E_block_ret ?_ | refine E_block_exit ?_ | refine E_block_exit_other rfl ?_)
  refine S_region ?_
  refine R_cons rfl (op_pure (p_move rfl) rfl ?_)
  refine R_cons rfl (op_pure (p_move rfl) rfl ?_)
  refine R_cons rfl (op_call rfl rfl Try.func64 rfl (by kernel_rfl) rfl fun w1 hm1 => (dclone_any bs n cs l sp hS hl hn hn2 w1 (hm1.own (bs, _) (by repeat (first | exact List.Mem.head _ | apply List.Mem.tail))).2).mono ?_)
  rintro e w2 ⟨g, cap, sp', rfl, hg, hgo, hcap, hbel⟩
  refine ⟨_, _, rfl, hm1.call1 (Nat.le_refl _) hbel hg hgo, ?_⟩
  refine R_cons rfl (op_pure (p_build (ps := [(0, .tmp 3), (1, .tmp 5), (3, .const (.int .i64 (-1)))]) (cs := diskC (.slice (some ⟨bs, 0, none⟩) n cs) (.slice (some ⟨g, 0, none⟩) n cap) (.slice none 0 0) (-1) false) rfl (by kernel_rfl)) rfl ?_)
  refine R_cons rfl (op_boxRow rfl rfl (Nat.le_refl _) (fun b7 => ?_))
  refine R_cons rfl (op_pure (p_assign rfl) rfl ?_)
  refine R_nil ?_
  repeat (first | refine S_scope ?_ | refine S_label ?_ | refine E_noGoto_normal ?_ | refine E_noGoto_ret ?_ | refine E_noGoto_exit ?_ | refine S_yes rfl (by first | with_reducible rfl | decide) ?_ | refine S_no rfl (by first | with_reducible rfl | decide) ?_ | refine S_seq ?_ | refine E_seq ?_ | refine S_block ?_ | refine E_block_normal ?_ | refine S_skip ?_ | refine S_exit ?_ | refine S_ret ?_ | refine E_then_exit ?_ | refine E_then_ret ?_ | refine E_block_ret ?_ | refine E_block_exit ?_ | refine E_block_exit_other rfl ?_)
  exact E_ret1 rfl rfl fun w' hm => ⟨_, _, rfl, hm.perm (List.Perm.cons _ (List.Perm.swap _ _ _)), b7, g, cap, sp', rfl, hcap, rfl⟩
theorem dnew_any (n : Nat) (hn : n ≠ 0) (hn2 : n ≤ 4096) (w : World) :
    Calls Try.prog 19 [.int .i64 (n : Int)].toArray w fun e w' => ∃ v H', e = .returned v ∧ Mem w.heap.size ⟨w, []⟩ H' w' ∧ ∃ bd bs bn cn spn, v = .tuple [.pointer (some ⟨bd, 0, none⟩), .int .i64 0].toArray ∧ (n ≤ cn ∧ cn ≤ maxLen) ∧
      H' = [(bd, .cells (diskC (.slice (some ⟨bs, 0, none⟩) n n) (.slice (some ⟨bn, 0, none⟩) n cn) (.slice none 0 0) (-1) false).toArray 113 (0, 0)), (bs, .cells (secV (List.replicate n (List.replicate 64 0)) ++ []).toArray 115 (0, 0)), (bn, .cells (secV (List.replicate n (List.replicate 64 0)) ++ spn).toArray 115 (0, 0))] := by
  have g1 : decide ((n : Int) < 1) = false := decide_eq_false (by omega)
  have g2 : decide ((4096 : Int) < (n : Int)) = false := decide_eq_false (by omega)
  have hS : Secs (List.replicate n (List.replicate 64 0)) := fun x hx => by rw [List.eq_of_mem_replicate hx]; exact List.length_replicate
  have hl : (List.replicate n (List.replicate 64 (0 : UInt8))).length = n := List.length_replicate
  have hrep : (List.replicate n (bytesV (List.replicate 64 0))).flatMap id = secV (List.replicate n (List.replicate 64 0)) ++ [] := by rw [rep_sec, List.append_nil]
  refine enter Try.func19 rfl Try.ntmps19 (by simp) ?_
  repeat (first | refine S_scope ?_ | refine S_label ?_ | refine E_noGoto_normal ?_ | refine E_noGoto_ret ?_ | refine E_noGoto_exit ?_ | refine S_yes rfl (by first | with_reducible rfl | decide) ?_ | refine S_no rfl (by first | with_reducible rfl | decide) ?_ | refine S_seq ?_ | refine E_seq ?_ | refine S_block ?_ | refine E_block_normal ?_ | refine S_skip ?_ | refine S_exit ?_ | refine S_ret ?_ | refine E_then_exit ?_ | refine E_then_ret ?_ | refine E_block_ret ?_ | refine E_block_exit ?_ | refine E_block_exit_other rfl ?_)
  refine S_region ?_
  refine R_cons rfl (op_pure (p_assign rfl) rfl ?_)
  refine R_cons rfl (op_pure (p_assign rfl) rfl ?_)
  refine R_nil ?_
  repeat (first | refine S_scope ?_ | refine S_label ?_ | refine E_noGoto_normal ?_ | refine E_noGoto_ret ?_ | refine E_noGoto_exit ?_ | refine S_yes rfl (by first | with_reducible rfl | decide) ?_ | refine S_no rfl (by first | with_reducible rfl | decide) ?_ | refine S_seq ?_ | refine E_seq ?_ | refine S_block ?_ | refine E_block_normal ?_ | refine S_skip ?_ | refine S_exit ?_ | refine S_ret ?_ | refine E_then_exit ?_ | refine E_then_ret ?_ | refine E_block_ret ?_ | refine E_block_exit ?_ | refine E_block_exit_other rfl ?_)
  refine S_region ?_
  refine R_cons rfl (op_pure (p_move rfl) rfl ?_)
  refine R_cons rfl (op_pure (p_bin rfl rfl (b_lss g1)) rfl ?_)
  refine R_cons rfl (op_pure (p_move rfl) rfl ?_)
  first | refine R_pass rfl rfl rfl rfl ?_ | refine R_pass_undef rfl rfl rfl ?_ | refine R_guard rfl rfl rfl (op_pure (p_move rfl) rfl ?_)
  first | refine R_pass rfl rfl rfl rfl ?_ | refine R_pass_undef rfl rfl rfl ?_ | refine R_guard rfl rfl rfl (op_pure (p_bin rfl rfl (b_gtr g2)) rfl ?_)
  refine R_cons rfl (op_pure (by first | exact p_pick_yes rfl rfl | exact p_pick_no rfl rfl | exact p_pick rfl rfl rfl) rfl ?_)
  refine R_nil ?_
  repeat (first | refine S_scope ?_ | refine S_label ?_ | refine E_noGoto_normal ?_ | refine E_noGoto_ret ?_ | refine E_noGoto_exit ?_ | refine S_yes rfl (by first | with_reducible rfl | decide) ?_ | refine S_no rfl (by first | with_reducible rfl | decide) ?_ | refine S_seq ?_ | refine E_seq ?_ | refine S_block ?_ | refine E_block_normal ?_ | refine S_skip ?_ | refine S_exit ?_ | refine S_ret ?_ | refine E_then_exit ?_ | refine E_then_ret ?_ | refine E_block_ret ?_ | refine E_block_exit ?_ | refine E_block_exit_other rfl ?_)
  refine S_region ?_
  refine R_cons rfl (op_pure (p_move rfl) rfl ?_)
  refine R_cons rfl (op_makeSliceR (l := n) (c := n) (zs := bytesV (List.replicate 64 0)) rfl rfl rfl rfl slr_disks_sector.1 elr_disks_sector rfl (by decide) (Nat.le_refl _) (by omega) (by omega) rfl (Nat.le_refl _) (fun b11 => ?_))
  rw [hrep]
  refine R_cons rfl (op_callH (Hc := [(b11, .cells (secV (List.replicate n (List.replicate 64 0)) ++ ([] : List Value)).toArray 115 (0, 0))]) (K := []) rfl rfl Try.func51 rfl (by kernel_rfl) rfl (List.Perm.refl _) (fun w' hm => dof_any b11 n n (List.replicate n (List.replicate 64 0)) [] hS hl hn hn2 w' (by exact hm)) (fun v H' hp => ?_))
  obtain ⟨bd, bn, cn, spn, rfl, hc, rfl⟩ := hp
  refine R_cons rfl (op_pure (p_assign rfl) rfl ?_)
  refine R_cons rfl (op_pure (p_assign rfl) rfl ?_)
  refine R_nil ?_
  repeat (first | refine S_scope ?_ | refine S_label ?_ | refine E_noGoto_normal ?_ | refine E_noGoto_ret ?_ | refine E_noGoto_exit ?_ | refine S_yes rfl (by first | with_reducible rfl | decide) ?_ | refine S_no rfl (by first | with_reducible rfl | decide) ?_ | refine S_seq ?_ | refine E_seq ?_ | refine S_block ?_ | refine E_block_normal ?_ | refine S_skip ?_ | refine S_exit ?_ | refine S_ret ?_ | refine E_then_exit ?_ | refine E_then_ret ?_ | refine E_block_ret ?_ | refine E_block_exit ?_ | refine E_block_exit_other rfl ?_)
  exact E_ret2 rfl rfl rfl fun w' hm => ⟨_, _, rfl, hm, bd, b11, bn, cn, spn, rfl, hc, rfl⟩
end Go.Proofs.Ytfdlafjifjndeaa
/-
  The layer disks: a sector written; a fuse; a byte turned.
-/
namespace Go.K
theorem lay_cons (v : Value) (r : List Value) : ∀ (cs : List Value) (o : Nat), lay (v :: cs) (o + 1) r = v :: lay cs o r := by
  induction r with
  | nil => exact fun _ _ => rfl
  | cons c r ih => exact fun cs o => by rw [lay, lay, List.set_cons_succ, ih]
end Go.K
namespace Go.Proofs.Ytfdlafjifjndeaa
open Go.RowKit Go.K
attribute [local irreducible] Exit.then Exit.inBlock Exit.noGoto bodyPost Code.wp QL Sx Rx Qx Ex Dx Op1 Pure1 Still1 K.Sub Calm Code.wpIn
set_option linter.unusedVariables false
attribute [local irreducible] secV leftS blownS
theorem elr_write : ElR Try.prog 120 (.agg (Value.int .i64 0 :: bytesV (List.replicate 64 0)).toArray) 65 72 := by
  obtain ⟨i, h1, h2, h3, h4⟩ := info_parts (show (Try.prog.info? 120).map (fun i => (i.zero, i.size, i.bytes)) = some (some (.agg (Value.int .i64 0 :: bytesV (List.replicate 64 0)).toArray), 65, 72) from by kernel_rfl)
  exact ⟨i, h1, h2, h3, h4, rfl⟩
set_option maxHeartbeats 2000000 in
theorem dwrite_any (bd bs bn bg n cs cn cg : Nat) (left : Int) (bl : Bool) (hlo : -9223372036854775808 ≤ left) (hhi : left ≤ 9223372036854775807) (sure now : List (List UInt8)) (sps spn spg : List Value) (hS : Secs sure) (hN : Secs now) (hsl : sure.length = n) (hnl : now.length = n) (hn2 : n ≤ 4096) (i : Nat) (hi : i < n) (x : List UInt8) (hx : x.length = 64) (w : World)
    (hm : Mem w.heap.size ⟨w, [bd, bs, bn, bg]⟩ [(bd, .cells (diskC (.slice (some ⟨bs, 0, none⟩) n cs) (.slice (some ⟨bn, 0, none⟩) n cn) (.slice none 0 0) left bl).toArray 113 (0, 0)), (bs, .cells (secV sure ++ sps).toArray 115 (0, 0)), (bn, .cells (secV now ++ spn).toArray 115 (0, 0)), (bg, .cells (bytesV x ++ spg).toArray 5 (0, 0))] w) :
    Calls Try.prog 32 [.pointer (some ⟨bd, 0, none⟩), .int .i64 (i : Int), .slice (some ⟨bg, 0, none⟩) 64 cg].toArray w fun e w' => ∃ v H', e = .returned v ∧ Mem w.heap.size ⟨w, [bd, bs, bn, bg]⟩ H' w' ∧
      ((blownS left bl = true ∧ v = .int .i64 9 ∧ H' = [(bd, .cells (diskC (.slice (some ⟨bs, 0, none⟩) n cs) (.slice (some ⟨bn, 0, none⟩) n cn) (.slice none 0 0) (leftS left bl) true).toArray 113 (0, 0)), (bs, .cells (secV sure ++ sps).toArray 115 (0, 0)), (bn, .cells (secV now ++ spn).toArray 115 (0, 0))]) ∨
       (blownS left bl = false ∧ v = .int .i64 0 ∧ ∃ bw cw spw, ((Value.int .i64 (i : Int) :: bytesV x) ++ spw).length = cw * 65 ∧ 1 ≤ cw ∧ cw ≤ maxLen ∧ H' = [(bd, .cells (diskC (.slice (some ⟨bs, 0, none⟩) n cs) (.slice (some ⟨bn, 0, none⟩) n cn) (.slice (some ⟨bw, 0, none⟩) 1 cw) (leftS left bl) false).toArray 113 (0, 0)), (bs, .cells (secV sure ++ sps).toArray 115 (0, 0)), (bn, .cells (secV (now.set i x) ++ spn).toArray 115 (0, 0)), (bw, .cells ((Value.int .i64 (i : Int) :: bytesV x) ++ spw).toArray 120 (0, 0))])) := by
  have g1 : decide ((i : Int) < 0) = false := decide_eq_false (by omega)
  have g2 : decide ((n : Int) ≤ (i : Int)) = false := decide_eq_false (by omega)
  have hxb : (bytesV x).length = 64 := by rw [bytesV_length, hx]
  have hl2 : (secV now).length = n * 64 := by rw [secV_length hN, hnl]
  have hlay := lay_sec hN (by omega : i < now.length) hx spn
  have hfit : 0 + i * 64 + (bytesV x).length ≤ (secV now ++ spn).length := by rw [List.length_append, hl2, hxb]; omega
  refine enter_at Try.func32 rfl Try.ntmps32 (by simp) hm ?_
  repeat (first | refine S_scope ?_ | refine S_label ?_ | refine E_noGoto_normal ?_ | refine E_noGoto_ret ?_ | refine E_noGoto_exit ?_ | refine S_yes rfl (by first | with_reducible rfl | decide) ?_ | refine S_no rfl (by first | with_reducible rfl | decide) ?_ | refine S_seq ?_ | refine E_seq ?_ | refine S_block ?_ | refine E_block_normal ?_ | refine S_skip ?_ | refine S_exit ?_ | refine S_ret ?_ | refine E_then_exit ?_ | refine E_then_ret ?_ | refine E_block_ret ?_ | refine E_block_exit ?_ | refine E_block_exit_other rfl ?_)
  refine S_region ?_
  refine R_cons rfl (op_pure (p_assign rfl) rfl ?_)
  refine R_nil ?_
  repeat (first | refine S_scope ?_ | refine S_label ?_ | refine E_noGoto_normal ?_ | refine E_noGoto_ret ?_ | refine E_noGoto_exit ?_ | refine S_yes rfl (by first | with_reducible rfl | decide) ?_ | refine S_no rfl (by first | with_reducible rfl | decide) ?_ | refine S_seq ?_ | refine E_seq ?_ | refine S_block ?_ | refine E_block_normal ?_ | refine S_skip ?_ | refine S_exit ?_ | refine S_ret ?_ | refine E_then_exit ?_ | refine E_then_ret ?_ | refine E_block_ret ?_ | refine E_block_exit ?_ | refine E_block_exit_other rfl ?_)
  refine S_region ?_
  refine R_cons rfl (op_pure (p_move rfl) rfl ?_)
  refine R_cons rfl (op_callV rfl rfl Try.func62 rfl (by kernel_rfl) rfl (Nat.le_refl _) (fun w' hm => dnone_any bd n cs _ _ _ left bl (by omega) w' (hm.own (bd, _) (by repeat (first | exact List.Mem.head _ | apply List.Mem.tail))).2) ?_)
  refine R_cons rfl (op_pure (p_assign rfl) rfl ?_)
  refine R_nil ?_
  repeat (first | refine S_scope ?_ | refine S_label ?_ | refine E_noGoto_normal ?_ | refine E_noGoto_ret ?_ | refine E_noGoto_exit ?_ | refine S_yes rfl (by first | with_reducible rfl | decide) ?_ | refine S_no rfl (by first | with_reducible rfl | decide) ?_ | refine S_seq ?_ | refine E_seq ?_ | refine S_block ?_ | refine E_block_normal ?_ | refine S_skip ?_ | refine S_exit ?_ | refine S_ret ?_ | refine E_then_exit ?_ | refine E_then_ret ?_ | refine E_block_ret ?_ | refine E_block_exit ?_ | refine E_block_exit_other rfl ?_)
  refine S_region ?_
  refine R_cons rfl (op_pure (p_move rfl) rfl ?_)
  refine R_cons rfl (op_pure (p_bin rfl rfl (b_lss g1)) rfl ?_)
  refine R_cons rfl (op_pure (p_move rfl) rfl ?_)
  first | refine R_pass rfl rfl rfl rfl ?_ | refine R_pass_undef rfl rfl rfl ?_ | refine R_guard rfl rfl rfl (op_pure (p_move rfl) rfl ?_)
  first | refine R_pass rfl rfl rfl rfl ?_ | refine R_pass_undef rfl rfl rfl ?_ | refine R_guard rfl rfl rfl (op_pure (p_move rfl) rfl ?_)
  first | refine R_pass rfl rfl rfl rfl ?_ | refine R_pass_undef rfl rfl rfl ?_ | refine R_guard rfl rfl rfl (op_pure (p_nilCheck rfl) rfl ?_)
  first | refine R_pass rfl rfl rfl rfl ?_ | refine R_pass_undef rfl rfl rfl ?_ | refine R_guard rfl rfl rfl (op_pure (by first | exact p_fieldAddr0 rfl fd_disks_Disk_0 | exact p_fieldAddr rfl fd_disks_Disk_0) rfl ?_)
  first | refine R_pass rfl rfl rfl rfl ?_ | refine R_pass_undef rfl rfl rfl ?_ | refine R_guard rfl rfl rfl (op_pure (by first | exact p_load rfl sc_disks_sector (by repeat (first | exact List.Mem.head _ | apply List.Mem.tail)) (by first | assumption | exact bytesV_get (by omega) | exact wordsV_get (by omega) | rfl) | exact p_load_base rfl sc_disks_sector (by assumption) (by simp) (by assumption)) rfl ?_)
  first | refine R_pass rfl rfl rfl rfl ?_ | refine R_pass_undef rfl rfl rfl ?_ | refine R_guard rfl rfl rfl (op_pure (p_lenR rfl slr_disks_sector) rfl ?_)
  first | refine R_pass rfl rfl rfl rfl ?_ | refine R_pass_undef rfl rfl rfl ?_ | refine R_guard rfl rfl rfl (op_pure (p_bin rfl rfl (b_geq g2)) rfl ?_)
  refine R_cons rfl (op_pure (by first | exact p_pick_yes rfl rfl | exact p_pick_no rfl rfl | exact p_pick rfl rfl rfl) rfl ?_)
  refine R_cons rfl (op_pure (p_move rfl) rfl ?_)
  first | refine R_pass rfl rfl rfl rfl ?_ | refine R_pass_undef rfl rfl rfl ?_ | refine R_guard rfl rfl rfl (op_pure (p_move rfl) rfl ?_)
  first | refine R_pass rfl rfl rfl rfl ?_ | refine R_pass_undef rfl rfl rfl ?_ | refine R_guard rfl rfl rfl (op_pure (p_len rfl slc_u8s) rfl ?_)
  first | refine R_pass rfl rfl rfl rfl ?_ | refine R_pass_undef rfl rfl rfl ?_ | refine R_guard rfl rfl rfl (op_pure (p_bin rfl rfl (b_gtr (by first | assumption | exact decide_eq_true (by omega) | exact decide_eq_false (by omega) | rfl))) rfl ?_)
  refine R_cons rfl (op_pure (by first | exact p_pick_yes rfl rfl | exact p_pick_no rfl rfl | exact p_pick rfl rfl rfl) rfl ?_)
  refine R_cons rfl (op_pure (p_assign rfl) rfl ?_)
  refine R_nil ?_
  repeat (first | refine S_scope ?_ | refine S_label ?_ | refine E_noGoto_normal ?_ | refine E_noGoto_ret ?_ | refine E_noGoto_exit ?_ | refine S_yes rfl (by first | with_reducible rfl | decide) ?_ | refine S_no rfl (by first | with_reducible rfl | decide) ?_ | refine S_seq ?_ | refine E_seq ?_ | refine S_block ?_ | refine E_block_normal ?_ | refine S_skip ?_ | refine S_exit ?_ | refine S_ret ?_ | refine E_then_exit ?_ | refine E_then_ret ?_ | refine E_block_ret ?_ | refine E_block_exit ?_ | refine E_block_exit_other rfl ?_)
  refine S_region ?_
  refine R_cons rfl (op_pure (p_move rfl) rfl ?_)
  refine R_cons rfl (op_callH (Hc := [(bd, .cells (diskC (.slice (some ⟨bs, 0, none⟩) n cs) (.slice (some ⟨bn, 0, none⟩) n cn) (.slice none 0 0) left bl).toArray 113 (0, 0))]) (K := [(bs, .cells (secV sure ++ sps).toArray 115 (0, 0)), (bn, .cells (secV now ++ spn).toArray 115 (0, 0)), (bg, .cells (bytesV x ++ spg).toArray 5 (0, 0))]) rfl rfl Try.func70 rfl (by kernel_rfl) rfl (List.Perm.refl _) (fun w' hm => dspent_any bd _ _ _ left bl hlo hhi w' hm) (fun v H' hp => ?_))
  obtain ⟨rfl, rfl⟩ := hp
  refine R_cons rfl (op_pure (p_assign rfl) rfl ?_)
  refine R_nil ?_
  cases hbw : blownS left bl with
  | true =>
    repeat (first | refine S_scope ?_ | refine S_label ?_ | refine E_noGoto_normal ?_ | refine E_noGoto_ret ?_ | refine E_noGoto_exit ?_ | refine S_yes rfl (by first | with_reducible rfl | decide) ?_ | refine S_no rfl (by first | with_reducible rfl | decide) ?_ | refine S_seq ?_ | refine E_seq ?_ | refine S_block ?_ | refine E_block_normal ?_ | refine S_skip ?_ | refine S_exit ?_ | refine S_ret ?_ | refine E_then_exit ?_ | refine E_then_ret ?_ | refine E_block_ret ?_ | refine E_block_exit ?_ | refine E_block_exit_other rfl ?_)
    refine S_region ?_
    refine R_cons rfl (op_pure (p_assign rfl) rfl ?_)
    refine R_nil ?_
    repeat (first | refine S_scope ?_ | refine S_label ?_ | refine E_noGoto_normal ?_ | refine E_noGoto_ret ?_ | refine E_noGoto_exit ?_ | refine S_yes rfl (by first | with_reducible rfl | decide) ?_ | refine S_no rfl (by first | with_reducible rfl | decide) ?_ | refine S_seq ?_ | refine E_seq ?_ | refine S_block ?_ | refine E_block_normal ?_ | refine S_skip ?_ | refine S_exit ?_ | refine S_ret ?_ | refine E_then_exit ?_ | refine E_then_ret ?_ | refine E_block_ret ?_ | refine E_block_exit ?_ | refine E_block_exit_other rfl ?_)
    exact E_ret1 rfl rfl fun w' hm => ⟨_, _, rfl, hm.fewer (by repeat (first | exact Fewer.nil | refine Fewer.keep rfl ?_)), .inl ⟨rfl, rfl, rfl⟩⟩
  | false =>
    have h7 : lay ([Value.int .i64 0] ++ bytesV (List.replicate 64 0)) 0 (Value.int .i64 (i : Int) :: bytesV (List.replicate 64 0)) = Value.int .i64 (i : Int) :: bytesV (List.replicate 64 0) := lay_whole rfl
    have h8 : lay (Value.int .i64 (i : Int) :: bytesV (List.replicate 64 0)) (0 + 1) ((bytesV x).take 64) = Value.int .i64 (i : Int) :: bytesV x := by
      rw [List.take_of_length_le (by omega)]
      rw [Nat.zero_add, lay_cons _ _ _ 0, lay_whole (by rw [hxb]; rfl)]
    have hpart : ((Value.int .i64 (i : Int) :: bytesV x).drop 1).take 64 = bytesV x := by
      show (bytesV x).take 64 = _
      exact List.take_of_length_le (by omega)
    have hwl : (Value.int .i64 (i : Int) :: bytesV x).length = 65 := by rw [List.length_cons, hxb]
    have hone : ∀ v ∈ (Value.int .i64 (i : Int) :: bytesV x), v.oneCell' = true := fun v hv => by
      rcases List.mem_cons.1 hv with rfl | hv
      · rfl
      · exact bytesV_one _ v hv
    repeat (first | refine S_scope ?_ | refine S_label ?_ | refine E_noGoto_normal ?_ | refine E_noGoto_ret ?_ | refine E_noGoto_exit ?_ | refine S_yes rfl (by first | with_reducible rfl | decide) ?_ | refine S_no rfl (by first | with_reducible rfl | decide) ?_ | refine S_seq ?_ | refine E_seq ?_ | refine S_block ?_ | refine E_block_normal ?_ | refine S_skip ?_ | refine S_exit ?_ | refine S_ret ?_ | refine E_then_exit ?_ | refine E_then_ret ?_ | refine E_block_ret ?_ | refine E_block_exit ?_ | refine E_block_exit_other rfl ?_)
    refine S_region ?_
    refine R_cons rfl (op_pure (p_move rfl) rfl ?_)
    refine R_cons rfl (op_pure (p_build (ps := [(0, .tmp 31)]) (cs := [.int .i64 (i : Int)]) rfl (by kernel_rfl)) rfl ?_)
    refine R_cons rfl (op_pure (p_build (ps := [(0, .tmp 32)]) (cs := .int .i64 (i : Int) :: bytesV (List.replicate 64 0)) rfl (by kernel_rfl)) rfl ?_)
    refine R_cons rfl (op_allocRow zero_disks_write rfl (Nat.le_refl _) (fun b7 => ?_))
    refine R_cons rfl (op_storeRow rfl rfl (fun v hv => by rcases List.mem_cons.1 hv with rfl | hv; rfl; exact bytesV_one _ v hv) row_disks_write rfl (by repeat (first | exact At.here | apply At.there)) (by exact Nat.le_of_ble_eq_true rfl) ?_)
    refine R_nil ?_
    repeat (first | refine S_scope ?_ | refine S_label ?_ | refine E_noGoto_normal ?_ | refine E_noGoto_ret ?_ | refine E_noGoto_exit ?_ | refine S_yes rfl (by first | with_reducible rfl | decide) ?_ | refine S_no rfl (by first | with_reducible rfl | decide) ?_ | refine S_seq ?_ | refine E_seq ?_ | refine S_block ?_ | refine E_block_normal ?_ | refine S_skip ?_ | refine S_exit ?_ | refine S_ret ?_ | refine E_then_exit ?_ | refine E_then_ret ?_ | refine E_block_ret ?_ | refine E_block_exit ?_ | refine E_block_exit_other rfl ?_)
    rw [h7]
    refine S_region ?_
    refine R_cons rfl (op_pure (by first | exact p_fieldAddr0 rfl fd_disks_write_1 | exact p_fieldAddr rfl fd_disks_write_1) rfl ?_)
    refine R_cons rfl (op_pure (p_sliceArr rfl arr_disks_sector) rfl ?_)
    refine R_cons rfl (op_pure (p_move rfl) rfl ?_)
    refine R_cons rfl (op_copy (n := 64) rfl rfl slc_u8s rfl (fun w' hm => by have h := hm.readsPre (b := bg) (xs := bytesV x) (by repeat (first | exact List.Mem.head _ | apply List.Mem.tail)); rw [hxb] at h; exact h) (bytesV_one _) (by repeat (first | exact At.here | apply At.there)) (by exact Nat.le_of_ble_eq_true rfl) rfl ?_)
    refine R_nil ?_
    repeat (first | refine S_scope ?_ | refine S_label ?_ | refine E_noGoto_normal ?_ | refine E_noGoto_ret ?_ | refine E_noGoto_exit ?_ | refine S_yes rfl (by first | with_reducible rfl | decide) ?_ | refine S_no rfl (by first | with_reducible rfl | decide) ?_ | refine S_seq ?_ | refine E_seq ?_ | refine S_block ?_ | refine E_block_normal ?_ | refine S_skip ?_ | refine S_exit ?_ | refine S_ret ?_ | refine E_then_exit ?_ | refine E_then_ret ?_ | refine E_block_ret ?_ | refine E_block_exit ?_ | refine E_block_exit_other rfl ?_)
    rw [h8]
    refine S_tail 10 (by kernel_rfl) (by kernel_rfl) (by kernel_rfl) (by kernel_rfl) ?_
    refine Q_cons (Still1.of_pure (p_move rfl)) rfl ?_
    refine Q_cons (Still1.of_pure (p_nilCheck rfl)) rfl ?_
    refine Q_cons (Still1.of_pure (by first | exact p_fieldAddr0 rfl fd_disks_Disk_1 | exact p_fieldAddr rfl fd_disks_Disk_1)) rfl ?_
    refine Q_cons (Still1.of_pure (p_load rfl sc_disks_sector (by repeat (first | exact List.Mem.head _ | apply List.Mem.tail)) (by rfl))) rfl ?_
    refine Q_cons (Still1.of_pure (by first | exact p_fieldAddr0 rfl fd_disks_write_0 | exact p_fieldAddr rfl fd_disks_write_0)) rfl ?_
    refine Q_cons (Still1.of_pure (by first | exact p_fieldAddr0 rfl fd_disks_place_0 | exact p_fieldAddr rfl fd_disks_place_0)) rfl ?_
    refine Q_cons (Still1.of_pure (p_load rfl sc_int (by repeat (first | exact List.Mem.head _ | apply List.Mem.tail)) rfl)) rfl ?_
    refine Q_cons (Still1.of_pure (by first | exact p_fieldAddr0 rfl fd_disks_write_1 | exact p_fieldAddr rfl fd_disks_write_1)) rfl ?_
    refine Q_cons (Still1.of_pure (p_loadPart rfl row_disks_sector (by repeat (first | exact List.Mem.head _ | apply List.Mem.tail)) (by rw [hwl]; exact Nat.le_of_ble_eq_true rfl) hpart)) rfl ?_
    refine Q_cons (Still1.of_pure (p_indexR (j := i) rfl rfl rfl slr_disks_sector hi)) rfl ?_
    refine Q_nop ?_
    refine Q_nil ?_
    refine E_tail ?_
    refine R_cons rfl (op_storeRow rfl rfl (bytesV_one _) row_disks_sector hxb (by repeat (first | exact At.here | apply At.there)) hfit ?_)
    refine R_nil ?_
    repeat (first | refine S_scope ?_ | refine S_label ?_ | refine E_noGoto_normal ?_ | refine E_noGoto_ret ?_ | refine E_noGoto_exit ?_ | refine S_yes rfl (by first | with_reducible rfl | decide) ?_ | refine S_no rfl (by first | with_reducible rfl | decide) ?_ | refine S_seq ?_ | refine E_seq ?_ | refine S_block ?_ | refine E_block_normal ?_ | refine S_skip ?_ | refine S_exit ?_ | refine S_ret ?_ | refine E_then_exit ?_ | refine E_then_ret ?_ | refine E_block_ret ?_ | refine E_block_exit ?_ | refine E_block_exit_other rfl ?_)
    rw [Nat.zero_add, hlay]
    have he1 : [Value.int .i64 (i : Int) :: bytesV x].flatMap id = Value.int .i64 (i : Int) :: bytesV x := by simp
    refine S_cutE (σ := Nat × Nat × List Value) (fun q => [(6, .int .i64 0)]) (fun q => [(bd, .cells (diskC (.slice (some ⟨bs, 0, none⟩) n cs) (.slice (some ⟨bn, 0, none⟩) n cn) (.slice (some ⟨q.1, 0, none⟩) 1 q.2.1) (leftS left bl) false).toArray 113 (0, 0)), (bs, .cells (secV sure ++ sps).toArray 115 (0, 0)), (bn, .cells (secV (now.set i x) ++ spn).toArray 115 (0, 0)), (q.1, .cells ((Value.int .i64 (i : Int) :: bytesV x) ++ q.2.2).toArray 120 (0, 0))])
      (fun q => ((Value.int .i64 (i : Int) :: bytesV x) ++ q.2.2).length = q.2.1 * 65 ∧ 1 ≤ q.2.1 ∧ q.2.1 ≤ maxLen) ?_ ?_
    · refine S_drawn (by kernel_rfl) (.keep rfl (.drop (.keep rfl (.keep rfl (.keep rfl .nil))))) ?_
      refine D_take 0 rfl (by kernel_rfl) (by kernel_rfl) (by kernel_rfl) (by repeat (first | exact calm_body | exact calm_mid | apply calm_noGoto | exact calm_midE | apply calm_then | apply calm_block)) (p_move rfl) rfl ?_
      refine D_take 1 rfl (by kernel_rfl) (by kernel_rfl) (by kernel_rfl) (by repeat (first | exact calm_body | exact calm_mid | apply calm_noGoto | exact calm_midE | apply calm_then | apply calm_block)) (p_move rfl) rfl ?_
      refine D_take 2 rfl (by kernel_rfl) (by kernel_rfl) (by kernel_rfl) (by repeat (first | exact calm_body | exact calm_mid | apply calm_noGoto | exact calm_midE | apply calm_then | apply calm_block)) (p_nilCheck rfl) rfl ?_
      refine D_take 3 rfl (by kernel_rfl) (by kernel_rfl) (by kernel_rfl) (by repeat (first | exact calm_body | exact calm_mid | apply calm_noGoto | exact calm_midE | apply calm_then | apply calm_block)) (by first | exact p_fieldAddr0 rfl fd_disks_Disk_2 | exact p_fieldAddr rfl fd_disks_Disk_2) rfl ?_
      refine D_take 5 rfl (by kernel_rfl) (by kernel_rfl) (by kernel_rfl) (by repeat (first | exact calm_body | exact calm_mid | apply calm_noGoto | exact calm_midE | apply calm_then | apply calm_block)) (p_loadRow rfl row_disks_write (by repeat (first | exact List.Mem.head _ | apply List.Mem.tail)) hwl) rfl ?_
      refine D_two 4 6 (by kernel_rfl) ?_ ?_
      · refine step_plain 4 rfl rfl (op_pure (p_load rfl sc_disks_write (by repeat (first | exact List.Mem.head _ | apply List.Mem.tail)) (by rfl)) rfl ?_)
        refine ⟨(by repeat (first | exact Fewer.nil | refine Fewer.keep rfl ?_ | refine Fewer.drop ?_ | exact Fewer.refl _ | exact Fewer.inl _ _ | (simp only [List.append_nil]; first | exact Fewer.inl _ _ | exact Fewer.refl _))), ?_⟩
        refine D_only 6 rfl (by kernel_rfl) rfl (op_buildSliceR (s := 65) (ps := [(0, .tmp 53)]) (l := [Value.int .i64 (i : Int) :: bytesV x]) rfl rfl slr_disks_write.1 elr_write (fun y hy => by rw [List.mem_singleton] at hy; subst hy; exact hwl) rfl (by decide) (by decide) rfl (Nat.le_refl _) (fun b54 => ?_))
        refine ⟨(by repeat (first | exact Fewer.nil | refine Fewer.keep rfl ?_ | refine Fewer.drop ?_ | exact Fewer.refl _ | exact Fewer.inl _ _ | (simp only [List.append_nil]; first | exact Fewer.inl _ _ | exact Fewer.refl _))), ?_⟩
        refine D_only 7 rfl (by kernel_rfl) rfl (op_appendNilR (s := 65) (bytes := 72) (m := 1) (ys := Value.int .i64 (i : Int) :: bytesV x) rfl rfl slr_disks_write.1 elr_write (by decide) (fun w' hm => by have h := hm.readsAll (b := b54) (n := 65) (cs := [Value.int .i64 (i : Int) :: bytesV x].flatMap id) (by repeat (first | exact List.Mem.head _ | apply List.Mem.tail)) (by rw [he1]; exact hwl); rw [he1] at h; exact h) hone (by decide) (by decide) (by decide) rfl (Nat.le_refl _) (fun b' c' s' h' i' j' => ?_))
        refine ⟨(by repeat (first | exact Fewer.nil | refine Fewer.keep rfl ?_ | refine Fewer.drop ?_ | exact Fewer.refl _ | exact Fewer.inl _ _ | (simp only [List.append_nil]; first | exact Fewer.inl _ _ | exact Fewer.refl _))), ?_⟩
        refine D_take 8 rfl (by kernel_rfl) (by kernel_rfl) (by kernel_rfl) (by repeat (first | exact calm_body | exact calm_mid | apply calm_noGoto | exact calm_midE | apply calm_then | apply calm_block)) (p_nilCheck rfl) rfl ?_
        refine D_take 9 rfl (by kernel_rfl) (by kernel_rfl) (by kernel_rfl) (by repeat (first | exact calm_body | exact calm_mid | apply calm_noGoto | exact calm_midE | apply calm_then | apply calm_block)) (by first | exact p_fieldAddr0 rfl fd_disks_Disk_2 | exact p_fieldAddr rfl fd_disks_Disk_2) rfl ?_
        refine D_only 10 rfl (by kernel_rfl) rfl (op_store rfl rfl rfl sc_disks_write (by repeat (first | exact At.here | apply At.there)) (by first | exact Nat.le_of_ble_eq_true rfl | omega | (simp only [bytesV_length, wordsV_length]; omega) | (simp only [bytesV_length, wordsV_length, List.length_cons, List.length_nil, List.length_set, List.length_append]; omega) | decide) ?_)
        refine ⟨(by repeat (first | exact Fewer.nil | refine Fewer.keep rfl ?_ | refine Fewer.drop ?_ | exact Fewer.refl _ | exact Fewer.inl _ _ | (simp only [List.append_nil]; first | exact Fewer.inl _ _ | exact Fewer.refl _))), ?_⟩
        refine D_done (by kernel_rfl) ?_
        exact E_midE (b', c', s') ⟨h', i', j'⟩ (by repeat (first | exact Sub.nil | refine Sub.cons rfl ?_)) (by repeat (first | exact Fewer.nil | refine Fewer.pick rfl (by repeat (first | exact Del.here | apply Del.there)) ?_))
      · refine step_plain 6 rfl rfl (op_buildSliceR (s := 65) (ps := [(0, .tmp 53)]) (l := [Value.int .i64 (i : Int) :: bytesV x]) rfl rfl slr_disks_write.1 elr_write (fun y hy => by rw [List.mem_singleton] at hy; subst hy; exact hwl) rfl (by decide) (by decide) rfl (Nat.le_refl _) (fun b54 => ?_))
        refine ⟨(by repeat (first | exact Fewer.nil | refine Fewer.keep rfl ?_ | refine Fewer.drop ?_ | exact Fewer.refl _ | exact Fewer.inl _ _ | (simp only [List.append_nil]; first | exact Fewer.inl _ _ | exact Fewer.refl _))), ?_⟩
        refine D_only 4 rfl (by kernel_rfl) rfl (op_pure (p_load rfl sc_disks_write (by repeat (first | exact List.Mem.head _ | apply List.Mem.tail)) (by rfl)) rfl ?_)
        refine ⟨(by repeat (first | exact Fewer.nil | refine Fewer.keep rfl ?_ | refine Fewer.drop ?_ | exact Fewer.refl _ | exact Fewer.inl _ _ | (simp only [List.append_nil]; first | exact Fewer.inl _ _ | exact Fewer.refl _))), ?_⟩
        refine D_only 7 rfl (by kernel_rfl) rfl (op_appendNilR (s := 65) (bytes := 72) (m := 1) (ys := Value.int .i64 (i : Int) :: bytesV x) rfl rfl slr_disks_write.1 elr_write (by decide) (fun w' hm => by have h := hm.readsAll (b := b54) (n := 65) (cs := [Value.int .i64 (i : Int) :: bytesV x].flatMap id) (by repeat (first | exact List.Mem.head _ | apply List.Mem.tail)) (by rw [he1]; exact hwl); rw [he1] at h; exact h) hone (by decide) (by decide) (by decide) rfl (Nat.le_refl _) (fun b' c' s' h' i' j' => ?_))
        refine ⟨(by repeat (first | exact Fewer.nil | refine Fewer.keep rfl ?_ | refine Fewer.drop ?_ | exact Fewer.refl _ | exact Fewer.inl _ _ | (simp only [List.append_nil]; first | exact Fewer.inl _ _ | exact Fewer.refl _))), ?_⟩
        refine D_take 8 rfl (by kernel_rfl) (by kernel_rfl) (by kernel_rfl) (by repeat (first | exact calm_body | exact calm_mid | apply calm_noGoto | exact calm_midE | apply calm_then | apply calm_block)) (p_nilCheck rfl) rfl ?_
        refine D_take 9 rfl (by kernel_rfl) (by kernel_rfl) (by kernel_rfl) (by repeat (first | exact calm_body | exact calm_mid | apply calm_noGoto | exact calm_midE | apply calm_then | apply calm_block)) (by first | exact p_fieldAddr0 rfl fd_disks_Disk_2 | exact p_fieldAddr rfl fd_disks_Disk_2) rfl ?_
        refine D_only 10 rfl (by kernel_rfl) rfl (op_store rfl rfl rfl sc_disks_write (by repeat (first | exact At.here | apply At.there)) (by first | exact Nat.le_of_ble_eq_true rfl | omega | (simp only [bytesV_length, wordsV_length]; omega) | (simp only [bytesV_length, wordsV_length, List.length_cons, List.length_nil, List.length_set, List.length_append]; omega) | decide) ?_)
        refine ⟨(by repeat (first | exact Fewer.nil | refine Fewer.keep rfl ?_ | refine Fewer.drop ?_ | exact Fewer.refl _ | exact Fewer.inl _ _ | (simp only [List.append_nil]; first | exact Fewer.inl _ _ | exact Fewer.refl _))), ?_⟩
        refine D_done (by kernel_rfl) ?_
        exact E_midE (b', c', s') ⟨h', i', j'⟩ (by repeat (first | exact Sub.nil | refine Sub.cons rfl ?_)) (by repeat (first | exact Fewer.nil | refine Fewer.pick rfl (by repeat (first | exact Del.here | apply Del.there)) ?_))
    intro q hq
    repeat (first | refine S_scope ?_ | refine S_label ?_ | refine E_noGoto_normal ?_ | refine E_noGoto_ret ?_ | refine E_noGoto_exit ?_ | refine S_yes rfl (by first | with_reducible rfl | decide) ?_ | refine S_no rfl (by first | with_reducible rfl | decide) ?_ | refine S_seq ?_ | refine E_seq ?_ | refine S_block ?_ | refine E_block_normal ?_ | refine S_skip ?_ | refine S_exit ?_ | refine S_ret ?_ | refine E_then_exit ?_ | refine E_then_ret ?_ | refine E_block_ret ?_ | refine E_block_exit ?_ | refine E_block_exit_other rfl ?_)
    refine S_region ?_
    refine R_cons rfl (op_pure (p_assign rfl) rfl ?_)
    refine R_nil ?_
    repeat (first | refine S_scope ?_ | refine S_label ?_ | refine E_noGoto_normal ?_ | refine E_noGoto_ret ?_ | refine E_noGoto_exit ?_ | refine S_yes rfl (by first | with_reducible rfl | decide) ?_ | refine S_no rfl (by first | with_reducible rfl | decide) ?_ | refine S_seq ?_ | refine E_seq ?_ | refine S_block ?_ | refine E_block_normal ?_ | refine S_skip ?_ | refine S_exit ?_ | refine S_ret ?_ | refine E_then_exit ?_ | refine E_then_ret ?_ | refine E_block_ret ?_ | refine E_block_exit ?_ | refine E_block_exit_other rfl ?_)
    exact E_ret1 rfl rfl fun w' hm => ⟨_, _, rfl, hm, .inr ⟨rfl, rfl, q.1, q.2.1, q.2.2, hq.1, hq.2.1, hq.2.2, rfl⟩⟩
end Go.Proofs.Ytfdlafjifjndeaa
/-
  Numbers as bytes: the chapter's power and Put.
-/
namespace Go.Proofs.Ytfdlafjifjndeaa
open Go.RowKit Go.K
attribute [local irreducible] Exit.then Exit.inBlock Exit.noGoto bodyPost Code.wp QL Sx Rx Qx Ex Dx Op1 Pure1 Still1 K.Sub Calm Code.wpIn
attribute [local irreducible] Buf.hp Buf.cap Buf.addr
set_option linter.unusedVariables false
/-- a number's last m bytes, the highest first -/
def digitsB (n : Nat) : Nat → List UInt8
  | 0 => []
  | m + 1 => UInt8.ofNat (n / 256 ^ m % 256) :: digitsB n m
theorem digitsB_length (n m : Nat) : (digitsB n m).length = m := by
  induction m with
  | zero => rfl
  | succ m ih => simp [digitsB, ih]
/-- how many bytes are asked -/
def clampB (z : Int) : Nat := min 8 z.toNat
theorem power_any (k : Nat) (hk : k ≤ 7) (w : World) : Calls Try.prog 87 [.int .i64 (k : Int)].toArray w fun e w' => e = .returned (.int .u64 ((256 ^ k : Nat) : Int)) ∧ Below w.heap.size w w' := by
  refine enter Try.func87 rfl Try.ntmps87 (by simp) ?_
  repeat (first | refine S_scope ?_ | refine S_label ?_ | refine E_noGoto_normal ?_ | refine E_noGoto_ret ?_ | refine E_noGoto_exit ?_ | refine S_yes rfl (by first | with_reducible rfl | decide) ?_ | refine S_no rfl (by first | with_reducible rfl | decide) ?_ | refine S_seq ?_ | refine E_seq ?_ | refine S_block ?_ | refine E_block_normal ?_ | refine S_skip ?_ | refine S_exit ?_ | refine S_ret ?_ | refine E_then_exit ?_ | refine E_then_ret ?_ | refine E_block_ret ?_ | refine E_block_exit ?_ | refine E_block_exit_other rfl ?_)
  refine S_region ?_
  refine R_cons rfl (op_pure (p_assign rfl) rfl ?_)
  refine R_nil ?_
  repeat (first | refine S_scope ?_ | refine S_label ?_ | refine E_noGoto_normal ?_ | refine E_noGoto_ret ?_ | refine E_noGoto_exit ?_ | refine S_yes rfl (by first | with_reducible rfl | decide) ?_ | refine S_no rfl (by first | with_reducible rfl | decide) ?_ | refine S_seq ?_ | refine E_seq ?_ | refine S_block ?_ | refine E_block_normal ?_ | refine S_skip ?_ | refine S_exit ?_ | refine S_ret ?_ | refine E_then_exit ?_ | refine E_then_ret ?_ | refine E_block_ret ?_ | refine E_block_exit ?_ | refine E_block_exit_other rfl ?_)
  refine S_region ?_
  refine R_cons rfl (op_pure (p_assign rfl) rfl ?_)
  refine R_nil ?_
  repeat (first | refine S_scope ?_ | refine S_label ?_ | refine E_noGoto_normal ?_ | refine E_noGoto_ret ?_ | refine E_noGoto_exit ?_ | refine S_yes rfl (by first | with_reducible rfl | decide) ?_ | refine S_no rfl (by first | with_reducible rfl | decide) ?_ | refine S_seq ?_ | refine E_seq ?_ | refine S_block ?_ | refine E_block_normal ?_ | refine S_skip ?_ | refine S_exit ?_ | refine S_ret ?_ | refine E_then_exit ?_ | refine E_then_ret ?_ | refine E_block_ret ?_ | refine E_block_exit ?_ | refine E_block_exit_other rfl ?_)
  refine S_region ?_
  refine R_cons rfl (op_pure (p_assign rfl) rfl ?_)
  refine R_nil ?_
  repeat (first | refine S_scope ?_ | refine S_label ?_ | refine E_noGoto_normal ?_ | refine E_noGoto_ret ?_ | refine E_noGoto_exit ?_ | refine S_yes rfl (by first | with_reducible rfl | decide) ?_ | refine S_no rfl (by first | with_reducible rfl | decide) ?_ | refine S_seq ?_ | refine E_seq ?_ | refine S_block ?_ | refine E_block_normal ?_ | refine S_skip ?_ | refine S_exit ?_ | refine S_ret ?_ | refine E_then_exit ?_ | refine E_then_ret ?_ | refine E_block_ret ?_ | refine E_block_exit ?_ | refine E_block_exit_other rfl ?_)
  refine S_loop (fun i : Nat => [(4, .int .i64 (i : Int)), (3, .int .u64 ((256 ^ i : Nat) : Int)), (0, .int .i64 (k : Int))]) (fun _ => []) (fun i => i ≤ k) (fun i => k - i) 0 (Nat.zero_le _) (by repeat (first | exact Sub.nil | refine Sub.cons rfl ?_)) .nil ?_
  intro i hi
  by_cases hlt : i < k
  · have g1 : decide ((i : Int) < (k : Int)) = true := decide_eq_true (by omega)
    have hadd : IntKind.i64.wrap ((i : Int) + 1) = ((i + 1 : Nat) : Int) := by rw [w_in_i64 (by omega)]; omega
    have hmul : IntKind.u64.wrap (256 * ((256 ^ i : Nat) : Int)) = ((256 ^ (i + 1) : Nat) : Int) := by
      have h1 : 256 ^ i ≤ 256 ^ 6 := Nat.pow_le_pow_right (by omega) (by omega)
      have h2 : (256 : Nat) ^ 6 = 281474976710656 := by decide
      rw [Nat.pow_succ]
      rw [h2] at h1
      generalize 256 ^ i = q at *
      rw [w_in_u64 (by omega)]; omega
    repeat (first | refine S_scope ?_ | refine S_label ?_ | refine E_noGoto_normal ?_ | refine E_noGoto_ret ?_ | refine E_noGoto_exit ?_ | refine S_yes rfl (by first | with_reducible rfl | decide) ?_ | refine S_no rfl (by first | with_reducible rfl | decide) ?_ | refine S_seq ?_ | refine E_seq ?_ | refine S_block ?_ | refine E_block_normal ?_ | refine S_skip ?_ | refine S_exit ?_ | refine S_ret ?_ | refine E_then_exit ?_ | refine E_then_ret ?_ | refine E_block_ret ?_ | refine E_block_exit ?_ | refine E_block_exit_other rfl ?_)
    refine S_region ?_
    refine R_cons rfl (op_pure (p_move rfl) rfl ?_)
    refine R_cons rfl (op_pure (p_move rfl) rfl ?_)
    refine R_cons rfl (op_pure (p_bin rfl rfl (b_lss g1)) rfl ?_)
    refine R_nil ?_
    repeat (first | refine S_scope ?_ | refine S_label ?_ | refine E_noGoto_normal ?_ | refine E_noGoto_ret ?_ | refine E_noGoto_exit ?_ | refine S_yes rfl (by first | with_reducible rfl | decide) ?_ | refine S_no rfl (by first | with_reducible rfl | decide) ?_ | refine S_seq ?_ | refine E_seq ?_ | refine S_block ?_ | refine E_block_normal ?_ | refine S_skip ?_ | refine S_exit ?_ | refine S_ret ?_ | refine E_then_exit ?_ | refine E_then_ret ?_ | refine E_block_ret ?_ | refine E_block_exit ?_ | refine E_block_exit_other rfl ?_)
    refine S_region ?_
    refine R_cons rfl (op_pure (p_move rfl) rfl ?_)
    refine R_cons rfl (op_pure (p_bin rfl rfl (b_mul hmul)) rfl ?_)
    refine R_cons rfl (op_pure (p_assign rfl) rfl ?_)
    refine R_nil ?_
    repeat (first | refine S_scope ?_ | refine S_label ?_ | refine E_noGoto_normal ?_ | refine E_noGoto_ret ?_ | refine E_noGoto_exit ?_ | refine S_yes rfl (by first | with_reducible rfl | decide) ?_ | refine S_no rfl (by first | with_reducible rfl | decide) ?_ | refine S_seq ?_ | refine E_seq ?_ | refine S_block ?_ | refine E_block_normal ?_ | refine S_skip ?_ | refine S_exit ?_ | refine S_ret ?_ | refine E_then_exit ?_ | refine E_then_ret ?_ | refine E_block_ret ?_ | refine E_block_exit ?_ | refine E_block_exit_other rfl ?_)
    refine S_region ?_
    refine R_cons rfl (op_pure (p_move rfl) rfl ?_)
    refine R_cons rfl (op_pure (p_bin rfl rfl (b_add hadd)) rfl ?_)
    refine R_cons rfl (op_pure (p_assign rfl) rfl ?_)
    refine R_nil ?_
    repeat (first | refine S_scope ?_ | refine S_label ?_ | refine E_noGoto_normal ?_ | refine E_noGoto_ret ?_ | refine E_noGoto_exit ?_ | refine S_yes rfl (by first | with_reducible rfl | decide) ?_ | refine S_no rfl (by first | with_reducible rfl | decide) ?_ | refine S_seq ?_ | refine E_seq ?_ | refine S_block ?_ | refine E_block_normal ?_ | refine S_skip ?_ | refine S_exit ?_ | refine S_ret ?_ | refine E_then_exit ?_ | refine E_then_ret ?_ | refine E_block_ret ?_ | refine E_block_exit ?_ | refine E_block_exit_other rfl ?_)
    exact E_round (i + 1) (by omega) (by omega) (by repeat (first | exact Sub.nil | refine Sub.cons rfl ?_)) .nil
  · have g1 : decide ((i : Int) < (k : Int)) = false := decide_eq_false (by omega)
    obtain rfl : i = k := by omega
    repeat (first | refine S_scope ?_ | refine S_label ?_ | refine E_noGoto_normal ?_ | refine E_noGoto_ret ?_ | refine E_noGoto_exit ?_ | refine S_yes rfl (by first | with_reducible rfl | decide) ?_ | refine S_no rfl (by first | with_reducible rfl | decide) ?_ | refine S_seq ?_ | refine E_seq ?_ | refine S_block ?_ | refine E_block_normal ?_ | refine S_skip ?_ | refine S_exit ?_ | refine S_ret ?_ | refine E_then_exit ?_ | refine E_then_ret ?_ | refine E_block_ret ?_ | refine E_block_exit ?_ | refine E_block_exit_other rfl ?_)
    refine S_region ?_
    refine R_cons rfl (op_pure (p_move rfl) rfl ?_)
    refine R_cons rfl (op_pure (p_move rfl) rfl ?_)
    refine R_cons rfl (op_pure (p_bin rfl rfl (b_lss g1)) rfl ?_)
    refine R_nil ?_
    repeat (first | refine S_scope ?_ | refine S_label ?_ | refine E_noGoto_normal ?_ | refine E_noGoto_ret ?_ | refine E_noGoto_exit ?_ | refine S_yes rfl (by first | with_reducible rfl | decide) ?_ | refine S_no rfl (by first | with_reducible rfl | decide) ?_ | refine S_seq ?_ | refine E_seq ?_ | refine S_block ?_ | refine E_block_normal ?_ | refine S_skip ?_ | refine S_exit ?_ | refine S_ret ?_ | refine E_then_exit ?_ | refine E_then_ret ?_ | refine E_block_ret ?_ | refine E_block_exit ?_ | refine E_block_exit_other rfl ?_)
    refine S_region ?_
    refine R_cons rfl (op_pure (p_move rfl) rfl ?_)
    refine R_cons rfl (op_pure (p_assign rfl) rfl ?_)
    refine R_nil ?_
    repeat (first | refine S_scope ?_ | refine S_label ?_ | refine E_noGoto_normal ?_ | refine E_noGoto_ret ?_ | refine E_noGoto_exit ?_ | refine S_yes rfl (by first | with_reducible rfl | decide) ?_ | refine S_no rfl (by first | with_reducible rfl | decide) ?_ | refine S_seq ?_ | refine E_seq ?_ | refine S_block ?_ | refine E_block_normal ?_ | refine S_skip ?_ | refine S_exit ?_ | refine S_ret ?_ | refine E_then_exit ?_ | refine E_then_ret ?_ | refine E_block_ret ?_ | refine E_block_exit ?_ | refine E_block_exit_other rfl ?_)
    exact E_ret1 rfl rfl fun w' hm => ⟨rfl, hm.below⟩
theorem byte_of (n i : Nat) (hn : n ≤ 18446744073709551615) (hi : i ≤ 7) : IntKind.u64.wrap ((n : Int).tdiv ((256 ^ i : Nat) : Int)) = ((n / 256 ^ i : Nat) : Int) := nat_quo_u64 n (256 ^ i) hn
theorem low_byte (q : Nat) : IntKind.u8.wrap (((q % 256 : Nat) : Int)) = ((UInt8.ofNat (q % 256)).toNat : Int) := by
  rw [u8_nat]
theorem digitsB_get (v m : Nat) : ∀ i, i < m → (digitsB v m)[i]? = some (UInt8.ofNat (v / 256 ^ (m - 1 - i) % 256)) := by
  induction m with
  | zero => intro i hi; omega
  | succ m ih =>
    intro i hi
    rw [digitsB]
    cases i with
    | zero => simp
    | succ i => rw [List.getElem?_cons_succ, ih i (by omega), show m + 1 - 1 - (i + 1) = m - 1 - i by omega]
theorem digitsB_push (v m k : Nat) (h : k < m) : (digitsB v m).take (m - (k + 1)) ++ [UInt8.ofNat (v / 256 ^ k % 256)] = (digitsB v m).take (m - k) := by
  have hl := digitsB_length v m
  have hg := digitsB_get v m (m - (k + 1)) (by omega)
  rw [show m - 1 - (m - (k + 1)) = k by omega, List.getElem?_eq_getElem (by omega), Option.some.injEq] at hg
  rw [show m - k = m - (k + 1) + 1 by omega, List.take_succ_eq_append_getElem (by omega), hg]
/-- handed back: bytes in a row of the call's own, or nil if there are none -/
def MadeB (e : TypeId) (xs : List UInt8) (w : World) (r : Ending) (w' : World) : Prop :=
  ∃ u : Buf, r = .returned (u.val xs) ∧ u.ok xs ∧ (∀ p ∈ u.hp e xs, w.heap.size ≤ p.1 ∧ w'.heap[p.1]? = some p.2) ∧ Below w.heap.size w w'
theorem clamp_steps (z : Int) : (if (0 : Int) < (if (8 : Int) < z then 8 else z) then (if (8 : Int) < z then 8 else z) else 0) = (clampB z : Int) := by
  unfold clampB; split <;> split <;> omega
set_option maxHeartbeats 1000000 in
theorem refPut_any (A : Option Addr) (n c : Nat) (xs : List UInt8) (v : Nat) (z : Int) (w : World) (hl : xs.length = n) (hrd : Reads w A n (bytesV xs)) (hn : n ≤ 1000000000) (hv : v ≤ 18446744073709551615) :
    Calls Try.prog 88 [.slice A n c, .int .u64 (v : Int), .int .i64 z].toArray w (MadeB 5 (xs ++ digitsB v (clampB z)) w) := by
  subst hl
  have hcl := clamp_steps z
  have hcb : clampB z ≤ 8 := by unfold clampB; omega
  generalize clampB z = m at *
  have hdl := digitsB_length v m
  have hsub : IntKind.i64.wrap ((m : Int) - 1) = (m : Int) - 1 := w_in_i64 (by omega)
  refine enter Try.func88 rfl Try.ntmps88 (by simp) ?_
  repeat (first | refine S_scope ?_ | refine S_label ?_ | refine E_noGoto_normal ?_ | refine E_noGoto_ret ?_ | refine E_noGoto_exit ?_ | refine S_yes rfl (by first | with_reducible rfl | decide) ?_ | refine S_no rfl (by first | with_reducible rfl | decide) ?_ | refine S_seq ?_ | refine E_seq ?_ | refine S_block ?_ | refine E_block_normal ?_ | refine S_skip ?_ | refine S_exit ?_ | refine S_ret ?_ | refine E_then_exit ?_ | refine E_then_ret ?_ | refine E_block_ret ?_ | refine E_block_exit ?_ | refine E_block_exit_other rfl ?_)
  refine S_region ?_
  refine R_cons rfl (op_pure (p_assign rfl) rfl ?_)
  refine R_nil ?_
  repeat (first | refine S_scope ?_ | refine S_label ?_ | refine E_noGoto_normal ?_ | refine E_noGoto_ret ?_ | refine E_noGoto_exit ?_ | refine S_yes rfl (by first | with_reducible rfl | decide) ?_ | refine S_no rfl (by first | with_reducible rfl | decide) ?_ | refine S_seq ?_ | refine E_seq ?_ | refine S_block ?_ | refine E_block_normal ?_ | refine S_skip ?_ | refine S_exit ?_ | refine S_ret ?_ | refine E_then_exit ?_ | refine E_then_ret ?_ | refine E_block_ret ?_ | refine E_block_exit ?_ | refine E_block_exit_other rfl ?_)
  refine S_region ?_
  refine R_cons rfl (op_pure (p_move rfl) rfl ?_)
  refine R_cons rfl (op_appendBuf (u := none) (xs := []) (ys := xs) (by unfold Buf.val Buf.addr Buf.cap; rfl) rfl slc_u8s.1 el_u8 (.no rfl) Buf.none_ok (fun w hm => hrd.base hm) (by simp; omega) rfl (Nat.le_refl _) (fun u hok hne => ?_))
  refine R_cons rfl (op_pure (p_assign rfl) rfl ?_)
  refine R_nil ?_
  repeat (first | refine S_scope ?_ | refine S_label ?_ | refine E_noGoto_normal ?_ | refine E_noGoto_ret ?_ | refine E_noGoto_exit ?_ | refine S_yes rfl (by first | with_reducible rfl | decide) ?_ | refine S_no rfl (by first | with_reducible rfl | decide) ?_ | refine S_seq ?_ | refine E_seq ?_ | refine S_block ?_ | refine E_block_normal ?_ | refine S_skip ?_ | refine S_exit ?_ | refine S_ret ?_ | refine E_then_exit ?_ | refine E_then_ret ?_ | refine E_block_ret ?_ | refine E_block_exit ?_ | refine E_block_exit_other rfl ?_)
  refine S_region ?_
  refine R_cons rfl (op_pure (p_move rfl) rfl ?_)
  refine R_cons rfl (op_pure (p_min2 rfl rfl rfl) rfl ?_)
  refine R_cons rfl (op_pure (p_max2 rfl rfl hcl) rfl ?_)
  refine R_cons rfl (op_pure (p_bin rfl rfl (b_sub hsub)) rfl ?_)
  refine R_cons rfl (op_pure (p_assign rfl) rfl ?_)
  refine R_nil ?_
  repeat (first | refine S_scope ?_ | refine S_label ?_ | refine E_noGoto_normal ?_ | refine E_noGoto_ret ?_ | refine E_noGoto_exit ?_ | refine S_yes rfl (by first | with_reducible rfl | decide) ?_ | refine S_no rfl (by first | with_reducible rfl | decide) ?_ | refine S_seq ?_ | refine E_seq ?_ | refine S_block ?_ | refine E_block_normal ?_ | refine S_skip ?_ | refine S_exit ?_ | refine S_ret ?_ | refine E_then_exit ?_ | refine E_then_ret ?_ | refine E_block_ret ?_ | refine E_block_exit ?_ | refine E_block_exit_other rfl ?_)
  refine S_loop (σ := Nat × Buf) (fun s => [(8, .int .i64 ((s.1 : Int) - 1)), (7, s.2.val (xs ++ (digitsB v m).take (m - s.1))), (1, .int .u64 (v : Int))]) (fun s => s.2.hp 5 (xs ++ (digitsB v m).take (m - s.1)))
    (fun s => s.1 ≤ m ∧ s.2.ok (xs ++ (digitsB v m).take (m - s.1))) (fun s => s.1) (m, u) ⟨Nat.le_refl _, by simpa using hok⟩ (by simp only [Nat.sub_self, List.take_zero, List.append_nil]; repeat (first | exact Sub.nil | refine Sub.cons rfl ?_)) (by simp only [Nat.sub_self, List.take_zero, List.append_nil]; exact Fewer.refl _) ?_
  rintro ⟨j, u⟩ ⟨hj, hok⟩
  dsimp only at hj hok ⊢
  cases j with
  | zero =>
    have g1 : decide ((0 : Int) ≤ ((0 : Nat) : Int) - 1) = false := by decide
    rw [show m - 0 = (digitsB v m).length by omega, List.take_length] at hok ⊢
    repeat (first | refine S_scope ?_ | refine S_label ?_ | refine E_noGoto_normal ?_ | refine E_noGoto_ret ?_ | refine E_noGoto_exit ?_ | refine S_yes rfl (by first | with_reducible rfl | decide) ?_ | refine S_no rfl (by first | with_reducible rfl | decide) ?_ | refine S_seq ?_ | refine E_seq ?_ | refine S_block ?_ | refine E_block_normal ?_ | refine S_skip ?_ | refine S_exit ?_ | refine S_ret ?_ | refine E_then_exit ?_ | refine E_then_ret ?_ | refine E_block_ret ?_ | refine E_block_exit ?_ | refine E_block_exit_other rfl ?_)
    refine S_region ?_
    refine R_cons rfl (op_pure (p_move rfl) rfl ?_)
    refine R_cons rfl (op_pure (p_bin rfl rfl (b_geq g1)) rfl ?_)
    refine R_nil ?_
    repeat (first | refine S_scope ?_ | refine S_label ?_ | refine E_noGoto_normal ?_ | refine E_noGoto_ret ?_ | refine E_noGoto_exit ?_ | refine S_yes rfl (by first | with_reducible rfl | decide) ?_ | refine S_no rfl (by first | with_reducible rfl | decide) ?_ | refine S_seq ?_ | refine E_seq ?_ | refine S_block ?_ | refine E_block_normal ?_ | refine S_skip ?_ | refine S_exit ?_ | refine S_ret ?_ | refine E_then_exit ?_ | refine E_then_ret ?_ | refine E_block_ret ?_ | refine E_block_exit ?_ | refine E_block_exit_other rfl ?_)
    refine S_region ?_
    refine R_cons rfl (op_pure (p_move rfl) rfl ?_)
    refine R_cons rfl (op_pure (p_assign rfl) rfl ?_)
    refine R_nil ?_
    repeat (first | refine S_scope ?_ | refine S_label ?_ | refine E_noGoto_normal ?_ | refine E_noGoto_ret ?_ | refine E_noGoto_exit ?_ | refine S_yes rfl (by first | with_reducible rfl | decide) ?_ | refine S_no rfl (by first | with_reducible rfl | decide) ?_ | refine S_seq ?_ | refine E_seq ?_ | refine S_block ?_ | refine E_block_normal ?_ | refine S_skip ?_ | refine S_exit ?_ | refine S_ret ?_ | refine E_then_exit ?_ | refine E_then_ret ?_ | refine E_block_ret ?_ | refine E_block_exit ?_ | refine E_block_exit_other rfl ?_)
    refine E_ret1 rfl rfl fun w' hm => ⟨u, rfl, hok, fun p hp => ?_, hm.below⟩
    have h1 := hm.own p (by simpa using hp)
    refine ⟨?_, h1.2⟩
    rcases h1.1 with h | h
    · exact h
    · cases h
  | succ k =>
    rw [show ((k + 1 : Nat) : Int) - 1 = (k : Int) by omega]
    have g1 : decide ((0 : Int) ≤ (k : Int)) = true := decide_eq_true (by omega)
    have hpush := digitsB_push v m k (by omega)
    have hq := byte_of v k hv (by omega)
    have hne : ((256 ^ k : Nat) : Int) ≠ 0 := by have : 0 < 256 ^ k := Nat.pow_pos (by omega); omega
    have hrm : ((v / 256 ^ k : Nat) : Int).tmod 256 = ((v / 256 ^ k % 256 : Nat) : Int) := nat_rem _ 256
    have hlb := low_byte (v / 256 ^ k)
    have hsub2 : IntKind.i64.wrap ((k : Int) - 1) = (k : Int) - 1 := w_in_i64 (by omega)
    have hpw := power_any k (by omega)
    generalize v / 256 ^ k = q at *
    generalize 256 ^ k = r at *
    repeat (first | refine S_scope ?_ | refine S_label ?_ | refine E_noGoto_normal ?_ | refine E_noGoto_ret ?_ | refine E_noGoto_exit ?_ | refine S_yes rfl (by first | with_reducible rfl | decide) ?_ | refine S_no rfl (by first | with_reducible rfl | decide) ?_ | refine S_seq ?_ | refine E_seq ?_ | refine S_block ?_ | refine E_block_normal ?_ | refine S_skip ?_ | refine S_exit ?_ | refine S_ret ?_ | refine E_then_exit ?_ | refine E_then_ret ?_ | refine E_block_ret ?_ | refine E_block_exit ?_ | refine E_block_exit_other rfl ?_)
    refine S_region ?_
    refine R_cons rfl (op_pure (p_move rfl) rfl ?_)
    refine R_cons rfl (op_pure (p_bin rfl rfl (b_geq g1)) rfl ?_)
    refine R_nil ?_
    repeat (first | refine S_scope ?_ | refine S_label ?_ | refine E_noGoto_normal ?_ | refine E_noGoto_ret ?_ | refine E_noGoto_exit ?_ | refine S_yes rfl (by first | with_reducible rfl | decide) ?_ | refine S_no rfl (by first | with_reducible rfl | decide) ?_ | refine S_seq ?_ | refine E_seq ?_ | refine S_block ?_ | refine E_block_normal ?_ | refine S_skip ?_ | refine S_exit ?_ | refine S_ret ?_ | refine E_then_exit ?_ | refine E_then_ret ?_ | refine E_block_ret ?_ | refine E_block_exit ?_ | refine E_block_exit_other rfl ?_)
    refine S_region ?_
    refine R_cons rfl (op_pure (p_move rfl) rfl ?_)
    refine R_cons rfl (op_pure (p_move rfl) rfl ?_)
    refine R_cons rfl (op_pure (p_move rfl) rfl ?_)
    refine R_cons rfl (op_callV rfl rfl Try.func87 rfl (by kernel_rfl) rfl (Nat.le_refl _) (fun w' _ => hpw w') ?_)
    refine R_cons rfl (op_pure (p_bin rfl rfl (b_quo hne hq)) rfl ?_)
    refine R_cons rfl (op_pure (p_bin rfl rfl (b_rem (by decide) hrm)) rfl ?_)
    refine R_cons rfl (op_pure (p_convert rfl sc_u64 ik_u8 hlb) rfl ?_)
    refine R_cons rfl (op_buildSliceAll (ps := [(0, .tmp 25)]) rfl slc_u8s.1 el_u8 (by decide) (by decide) (by first | kernel_rfl | rfl) rfl (Nat.le_refl _) (fun b26 => ?_))
    refine R_cons rfl (op_appendBuf (u := u) (ys := [UInt8.ofNat (q % 256)]) rfl rfl slc_u8s.1 el_u8 (by repeat (first | exact DelB.tail | exact DelB.no rfl | exact DelB.at_ rfl (by repeat (first | exact Del.here | apply Del.there)) | apply DelB.there)) hok (fun w hm => hm.readsAll (b := b26) (by repeat (first | exact List.Mem.head _ | apply List.Mem.tail)) rfl) (by simp; omega) rfl (Nat.le_refl _) (fun u2 hok2 hne2 => ?_))
    refine R_cons rfl (op_pure (p_assign rfl) rfl ?_)
    refine R_nil ?_
    repeat (first | refine S_scope ?_ | refine S_label ?_ | refine E_noGoto_normal ?_ | refine E_noGoto_ret ?_ | refine E_noGoto_exit ?_ | refine S_yes rfl (by first | with_reducible rfl | decide) ?_ | refine S_no rfl (by first | with_reducible rfl | decide) ?_ | refine S_seq ?_ | refine E_seq ?_ | refine S_block ?_ | refine E_block_normal ?_ | refine S_skip ?_ | refine S_exit ?_ | refine S_ret ?_ | refine E_then_exit ?_ | refine E_then_ret ?_ | refine E_block_ret ?_ | refine E_block_exit ?_ | refine E_block_exit_other rfl ?_)
    refine S_region ?_
    refine R_cons rfl (op_pure (p_move rfl) rfl ?_)
    refine R_cons rfl (op_pure (p_bin rfl rfl (b_sub hsub2)) rfl ?_)
    refine R_cons rfl (op_pure (p_assign rfl) rfl ?_)
    refine R_nil ?_
    repeat (first | refine S_scope ?_ | refine S_label ?_ | refine E_noGoto_normal ?_ | refine E_noGoto_ret ?_ | refine E_noGoto_exit ?_ | refine S_yes rfl (by first | with_reducible rfl | decide) ?_ | refine S_no rfl (by first | with_reducible rfl | decide) ?_ | refine S_seq ?_ | refine E_seq ?_ | refine S_block ?_ | refine E_block_normal ?_ | refine S_skip ?_ | refine S_exit ?_ | refine S_ret ?_ | refine E_then_exit ?_ | refine E_then_ret ?_ | refine E_block_ret ?_ | refine E_block_exit ?_ | refine E_block_exit_other rfl ?_)
    rw [List.append_assoc, hpush] at hok2 ⊢
    exact E_round (s := (k + 1, u)) (k, u2) ⟨by show k ≤ m; omega, hok2⟩ (Nat.lt_succ_self k) (by repeat (first | exact Sub.nil | refine Sub.cons rfl ?_)) (.drop (Fewer.refl _))
end Go.Proofs.Ytfdlafjifjndeaa
/-
  Numbers as bytes: the code's digits, an iterator.
-/
namespace Go.Proofs.Ytfdlafjifjndeaa
open Go.RowKit Go.K
attribute [local irreducible] Exit.then Exit.inBlock Exit.noGoto bodyPost Code.wp QL Sx Rx Qx Ex Dx Op1 Pure1 Still1 K.Sub Calm Code.wpIn
attribute [local irreducible] Buf.hp Buf.cap Buf.addr
set_option linter.unusedVariables false
theorem digits_any (v m : Int) (w : World) : Calls Try.prog 82 [.int .u64 v, .int .i64 m].toArray w fun e w' => ∃ bm bn, e = .returned (.func (.func 93) #[] [.pointer (some ⟨bm, 0, none⟩), .pointer (some ⟨bn, 0, none⟩)].toArray) ∧ w.heap.size ≤ bm ∧ w.heap.size ≤ bn ∧ bm ≠ bn ∧
    w'.heap[bm]? = some (.cells [.int .i64 m].toArray 3 (0, 0)) ∧ w'.heap[bn]? = some (.cells [.int .u64 v].toArray 90 (0, 0)) ∧ Below w.heap.size w w' := by
  refine enter Try.func82 rfl Try.ntmps82 (by simp) ?_
  repeat (first | refine S_scope ?_ | refine S_label ?_ | refine E_noGoto_normal ?_ | refine E_noGoto_ret ?_ | refine E_noGoto_exit ?_ | refine S_yes rfl (by first | with_reducible rfl | decide) ?_ | refine S_no rfl (by first | with_reducible rfl | decide) ?_ | refine S_seq ?_ | refine E_seq ?_ | refine S_block ?_ | refine E_block_normal ?_ | refine S_skip ?_ | refine S_exit ?_ | refine S_ret ?_ | refine E_then_exit ?_ | refine E_then_ret ?_ | refine E_block_ret ?_ | refine E_block_exit ?_ | refine E_block_exit_other rfl ?_)
  refine S_region ?_
  refine R_cons rfl (op_box rfl rfl (Nat.le_refl _) (fun b2 => ?_))
  refine R_cons rfl (op_box rfl rfl (Nat.le_refl _) (fun b3 => ?_))
  refine R_cons rfl (op_pure (p_assign rfl) rfl ?_)
  refine R_nil ?_
  repeat (first | refine S_scope ?_ | refine S_label ?_ | refine E_noGoto_normal ?_ | refine E_noGoto_ret ?_ | refine E_noGoto_exit ?_ | refine S_yes rfl (by first | with_reducible rfl | decide) ?_ | refine S_no rfl (by first | with_reducible rfl | decide) ?_ | refine S_seq ?_ | refine E_seq ?_ | refine S_block ?_ | refine E_block_normal ?_ | refine S_skip ?_ | refine S_exit ?_ | refine S_ret ?_ | refine E_then_exit ?_ | refine E_then_ret ?_ | refine E_block_ret ?_ | refine E_block_exit ?_ | refine E_block_exit_other rfl ?_)
  refine S_region ?_
  refine R_cons rfl (op_pure (p_makeFunc (xs := []) (ys := [.tmp 3, .tmp 2]) rfl rfl) rfl ?_)
  refine R_cons rfl (op_pure (p_assign rfl) rfl ?_)
  refine R_nil ?_
  repeat (first | refine S_scope ?_ | refine S_label ?_ | refine E_noGoto_normal ?_ | refine E_noGoto_ret ?_ | refine E_noGoto_exit ?_ | refine S_yes rfl (by first | with_reducible rfl | decide) ?_ | refine S_no rfl (by first | with_reducible rfl | decide) ?_ | refine S_seq ?_ | refine E_seq ?_ | refine S_block ?_ | refine E_block_normal ?_ | refine S_skip ?_ | refine S_exit ?_ | refine S_ret ?_ | refine E_then_exit ?_ | refine E_then_ret ?_ | refine E_block_ret ?_ | refine E_block_exit ?_ | refine E_block_exit_other rfl ?_)
  refine E_ret1 rfl rfl fun w' hm => ⟨b3, b2, rfl, ?_, ?_, ?_, (hm.own (b3, _) (by repeat (first | exact List.Mem.head _ | apply List.Mem.tail))).2, (hm.own (b2, _) (by repeat (first | exact List.Mem.head _ | apply List.Mem.tail))).2, hm.below⟩
  · rcases (hm.own (b3, _) (by repeat (first | exact List.Mem.head _ | apply List.Mem.tail))).1 with h | h
    · exact h
    · cases h
  · rcases (hm.own (b2, _) (by repeat (first | exact List.Mem.head _ | apply List.Mem.tail))).1 with h | h
    · exact h
    · cases h
  · exact (List.pairwise_cons.1 hm.apart).1 _ (List.Mem.head _)
/-- a byte, as it is handed out -/
def encB (b : UInt8) : List Value := [.int .u8 (b.toNat : Int)]
set_option maxHeartbeats 1000000 in
theorem digits_iter (v m bm bn B : Nat) (w0 : Base) (hv : v ≤ 18446744073709551615) (hm8 : m ≤ 8) :
    Iter Try.prog 93 [.pointer (some ⟨bm, 0, none⟩), .pointer (some ⟨bn, 0, none⟩)] encB B w0 [(bm, .cells [.int .i64 (m : Int)].toArray 3 (0, 0)), (bn, .cells [.int .u64 (v : Int)].toArray 90 (0, 0))] (digitsB v m) := by
  intro l J W hmem hst hyield hJ0
  have hsub : IntKind.i64.wrap ((m : Int) - 1) = (m : Int) - 1 := w_in_i64 (by omega)
  have hmul : IntKind.i64.wrap (((m : Int) - 1) * 8) = ((m : Int) - 1) * 8 := w_in_i64 (by omega)
  refine enter_in Try.func93 rfl Try.ntmps93 (by simp) (fun a hf => ?_)
  have hh := hmem.here
  simp only [List.map_cons, List.map_nil] at hh
  refine (show SIx Try.prog W.heap.size ⟨W, [bm, bn]⟩ 19 [] none _ _ _ _ from ?_) a W hf hh
  repeat (first | refine SI_yes rfl (by first | with_reducible rfl | decide) ?_ | refine SI_no rfl (by first | with_reducible rfl | decide) ?_ | refine SI_seq ?_ | refine EI_seq ?_ | refine SI_block ?_ | refine E_block_normal ?_ | refine SI_skip ?_ | refine SI_exit ?_ | refine SI_ret ?_ | refine E_then_exit ?_ | refine E_then_ret ?_ | refine E_block_ret ?_ | refine E_block_exit ?_ | refine E_block_exit_other rfl ?_)
  refine SI_region ?_
  refine RI_cons rfl (by intro c h; cases h) (op_pure (by first | exact p_load rfl sc_int (by repeat (first | exact List.Mem.head _ | apply List.Mem.tail)) (by first | assumption | exact bytesV_get (by omega) | exact wordsV_get (by omega) | rfl) | exact p_load_base rfl sc_int (by assumption) (by simp) (by assumption)) rfl ?_)
  refine RI_cons rfl (by intro c h; cases h) (op_pure (p_bin rfl rfl (b_sub hsub)) rfl ?_)
  refine RI_cons rfl (by intro c h; cases h) (op_pure (p_bin rfl rfl (b_mul hmul)) rfl ?_)
  refine RI_cons rfl (by intro c h; cases h) (op_pure (p_assign rfl) rfl ?_)
  refine RI_nil ?_
  repeat (first | refine SI_yes rfl (by first | with_reducible rfl | decide) ?_ | refine SI_no rfl (by first | with_reducible rfl | decide) ?_ | refine SI_seq ?_ | refine EI_seq ?_ | refine SI_block ?_ | refine E_block_normal ?_ | refine SI_skip ?_ | refine SI_exit ?_ | refine SI_ret ?_ | refine E_then_exit ?_ | refine E_then_ret ?_ | refine E_block_ret ?_ | refine E_block_exit ?_ | refine E_block_exit_other rfl ?_)
  intro a2 W2 hf2 hm2
  have hbs : ∀ {W' : World}, Mem B w0 [(bm, .cells [.int .i64 (m : Int)].toArray 3 (0, 0)), (bn, .cells [.int .u64 (v : Int)].toArray 90 (0, 0))] W' → ∀ k ∈ [bm, bn], B ≤ k ∨ k ∈ w0.bs := fun h k hk => by
    simp only [List.mem_cons, List.not_mem_nil, or_false] at hk
    rcases hk with rfl | rfl
    · exact (h.own _ (List.Mem.head _)).1
    · exact (h.own _ (List.Mem.tail _ (List.Mem.head _))).1
  have hmB2 := hmem.back (hbs hmem) hm2
  refine SI_loopW (N := 19) (D := []) (fun s : List UInt8 × Nat => [(4, .int .i64 (((s.2 : Int) - 1) * 8)), (2, .pointer (some ⟨bn, 0, none⟩)), (1, .pointer (some ⟨bm, 0, none⟩)), (0, .func (.yield l) #[] #[])]) (fun _ => [(bm, .cells [.int .i64 (m : Int)].toArray 3 (0, 0)), (bn, .cells [.int .u64 (v : Int)].toArray 90 (0, 0))]) [bm, bn]
    (fun s W => J s.1 W ∧ Mem B w0 [(bm, .cells [.int .i64 (m : Int)].toArray 3 (0, 0)), (bn, .cells [.int .u64 (v : Int)].toArray 90 (0, 0))] W ∧ s.1 ++ digitsB v s.2 = digitsB v m ∧ s.2 ≤ 8) (fun s => s.2) ([], m) (hf2.sub (by repeat (first | exact Sub.nil | refine Sub.cons rfl ?_))) ⟨hst [] W W2 hJ0 (Steps1.of hm2), hmB2, rfl, hm8⟩ (fun s W h => by have := h.2.1.here; simpa using this) ?_
  rintro ⟨pre, k⟩ W ⟨hJ, hmW, htot, hk8⟩
  dsimp only at hJ hmW htot hk8 ⊢
  cases k with
  | zero =>
    have g1 : decide ((0 : Int) ≤ (((0 : Nat) : Int) - 1) * 8) = false := by decide
    repeat (first | refine SI_yes rfl (by first | with_reducible rfl | decide) ?_ | refine SI_no rfl (by first | with_reducible rfl | decide) ?_ | refine SI_seq ?_ | refine EI_seq ?_ | refine SI_block ?_ | refine E_block_normal ?_ | refine SI_skip ?_ | refine SI_exit ?_ | refine SI_ret ?_ | refine E_then_exit ?_ | refine E_then_ret ?_ | refine E_block_ret ?_ | refine E_block_exit ?_ | refine E_block_exit_other rfl ?_)
    refine SI_region ?_
    refine RI_cons rfl (by intro c h; cases h) (op_pure (p_move rfl) rfl ?_)
    refine RI_cons rfl (by intro c h; cases h) (op_pure (p_bin rfl rfl (b_geq g1)) rfl ?_)
    refine RI_nil ?_
    repeat (first | refine SI_yes rfl (by first | with_reducible rfl | decide) ?_ | refine SI_no rfl (by first | with_reducible rfl | decide) ?_ | refine SI_seq ?_ | refine EI_seq ?_ | refine SI_block ?_ | refine E_block_normal ?_ | refine SI_skip ?_ | refine SI_exit ?_ | refine SI_ret ?_ | refine E_then_exit ?_ | refine E_then_ret ?_ | refine E_block_ret ?_ | refine E_block_exit ?_ | refine E_block_exit_other rfl ?_)
    refine E_end0 rfl fun w hm => ⟨⟨_, rfl⟩, ?_⟩
    have : pre = digitsB v m := by rw [← htot]; simp [digitsB]
    rw [← this]
    exact hst pre W w hJ (Steps1.of hm)
  | succ j =>
    rw [show (((j + 1 : Nat) : Int) - 1) * 8 = ((j * 8 : Nat) : Int) by omega]
    have g1 : decide ((0 : Int) ≤ ((j * 8 : Nat) : Int)) = true := decide_eq_true (by omega)
    have hsh : (v : Int) / 2 ^ ((j * 8 : Nat) : Int).toNat = ((v / 256 ^ j : Nat) : Int) := by
      rw [shr_nat, show 2 ^ (j * 8) = 256 ^ j by rw [Nat.mul_comm, Nat.pow_mul]]
    have hcv : IntKind.u8.wrap ((v / 256 ^ j : Nat) : Int) = ((UInt8.ofNat (v / 256 ^ j % 256)).toNat : Int) := by
      rw [u8_nat, UInt8.toNat_ofNat', UInt8.toNat_ofNat']; omega
    have hs8 : IntKind.i64.wrap (((j * 8 : Nat) : Int) - 8) = (((j : Nat) : Int) - 1) * 8 := by rw [w_in_i64 (by omega)]; omega
    rw [digitsB] at htot
    repeat (first | refine SI_yes rfl (by first | with_reducible rfl | decide) ?_ | refine SI_no rfl (by first | with_reducible rfl | decide) ?_ | refine SI_seq ?_ | refine EI_seq ?_ | refine SI_block ?_ | refine E_block_normal ?_ | refine SI_skip ?_ | refine SI_exit ?_ | refine SI_ret ?_ | refine E_then_exit ?_ | refine E_then_ret ?_ | refine E_block_ret ?_ | refine E_block_exit ?_ | refine E_block_exit_other rfl ?_)
    refine SI_region ?_
    refine RI_cons rfl (by intro c h; cases h) (op_pure (p_move rfl) rfl ?_)
    refine RI_cons rfl (by intro c h; cases h) (op_pure (p_bin rfl rfl (b_geq g1)) rfl ?_)
    refine RI_nil ?_
    repeat (first | refine SI_yes rfl (by first | with_reducible rfl | decide) ?_ | refine SI_no rfl (by first | with_reducible rfl | decide) ?_ | refine SI_seq ?_ | refine EI_seq ?_ | refine SI_block ?_ | refine E_block_normal ?_ | refine SI_skip ?_ | refine SI_exit ?_ | refine SI_ret ?_ | refine E_then_exit ?_ | refine E_then_ret ?_ | refine E_block_ret ?_ | refine E_block_exit ?_ | refine E_block_exit_other rfl ?_)
    refine SI_region ?_
    refine RI_cons rfl (by intro c h; cases h) (op_pure (p_move rfl) rfl ?_)
    refine RI_cons rfl (by intro c h; cases h) (op_pure (by first | exact p_load rfl sc_u64 (by repeat (first | exact List.Mem.head _ | apply List.Mem.tail)) (by first | assumption | exact bytesV_get (by omega) | exact wordsV_get (by omega) | rfl) | exact p_load_base rfl sc_u64 (by assumption) (by simp) (by assumption)) rfl ?_)
    refine RI_cons rfl (by intro c h; cases h) (op_pure (p_move rfl) rfl ?_)
    refine RI_cons rfl (by intro c h; cases h) (op_pure (p_bin rfl rfl (b_shr (by omega) (by show _ ≤ (64 : Int); omega) hsh)) rfl ?_)
    refine RI_cons rfl (by intro c h; cases h) (op_pure (p_convert rfl sc_u64 ik_u8 hcv) rfl ?_)
    refine RI_yield rfl rfl rfl (fun w hm => ?_)
    have hmB := hmW.back (hbs hmW) hm
    have hpre : pre ++ [UInt8.ofNat (v / 256 ^ j % 256)] <+: digitsB v m := ⟨_, by rw [← htot, List.append_assoc]; rfl⟩
    refine yield_mono (hyield pre (UInt8.ofNat (v / 256 ^ j % 256)) w [(bm, .cells [.int .i64 (m : Int)].toArray 3 (0, 0)), (bn, .cells [.int .u64 (v : Int)].toArray 90 (0, 0))] hpre (hst pre W w hJ (Steps1.of hm)) rfl hmB) ?_
    rintro e w' ⟨rfl, hJ', hm'⟩
    refine ⟨.bool true, w'.heap.size, ⟨w', [bm, bn]⟩, _, rfl, (by have := hm'.here; simpa using this), ?_⟩
    refine RI_cons rfl (by intro c h; cases h) (op_pure (p_not rfl) rfl ?_)
    refine RI_nil ?_
    repeat (first | refine SI_yes rfl (by first | with_reducible rfl | decide) ?_ | refine SI_no rfl (by first | with_reducible rfl | decide) ?_ | refine SI_seq ?_ | refine EI_seq ?_ | refine SI_block ?_ | refine E_block_normal ?_ | refine SI_skip ?_ | refine SI_exit ?_ | refine SI_ret ?_ | refine E_then_exit ?_ | refine E_then_ret ?_ | refine E_block_ret ?_ | refine E_block_exit ?_ | refine E_block_exit_other rfl ?_)
    refine SI_region ?_
    refine RI_cons rfl (by intro c h; cases h) (op_pure (p_move rfl) rfl ?_)
    refine RI_cons rfl (by intro c h; cases h) (op_pure (p_bin rfl rfl (b_sub hs8)) rfl ?_)
    refine RI_cons rfl (by intro c h; cases h) (op_pure (p_assign rfl) rfl ?_)
    refine RI_nil ?_
    repeat (first | refine SI_yes rfl (by first | with_reducible rfl | decide) ?_ | refine SI_no rfl (by first | with_reducible rfl | decide) ?_ | refine SI_seq ?_ | refine EI_seq ?_ | refine SI_block ?_ | refine E_block_normal ?_ | refine SI_skip ?_ | refine SI_exit ?_ | refine SI_ret ?_ | refine E_then_exit ?_ | refine E_then_ret ?_ | refine E_block_ret ?_ | refine E_block_exit ?_ | refine E_block_exit_other rfl ?_)
    refine EI_end fun a w2 hf hm2 => ?_
    have hmB2 := hm'.back (hbs hm') hm2
    exact ⟨(pre ++ [UInt8.ofNat (v / 256 ^ j % 256)], j), by show j < j + 1; omega, hf.sub (by repeat (first | exact Sub.nil | refine Sub.cons rfl ?_)), hst _ w' w2 hJ' (Steps1.of hm2), hmB2, by show _ ++ _ = _; rw [← htot, List.append_assoc]; rfl, by show j ≤ 8; omega⟩
end Go.Proofs.Ytfdlafjifjndeaa
/-
  Numbers as bytes: the code's Put.
-/
namespace Go.Proofs.Ytfdlafjifjndeaa
open Go.RowKit Go.K
attribute [local irreducible] Exit.then Exit.inBlock Exit.noGoto bodyPost Code.wp QL Sx Rx Qx Ex Dx Op1 Pure1 Still1 K.Sub Calm Code.wpIn
attribute [local irreducible] Buf.hp Buf.cap Buf.addr
set_option linter.unusedVariables false
theorem call2 {B : Nat} {w0 : Base} {H : Hp} {w w' : World} (m : Mem B w0 H w) (hB : B ≤ w0.w.heap.size) (hb : Below w.heap.size w w') {g k : Nat} {o p : Obj} (hg : w.heap.size ≤ g) (hk : w.heap.size ≤ k) (hne : g ≠ k) (ho : w'.heap[g]? = some o) (hp : w'.heap[k]? = some p) :
    Mem B w0 ((g, o) :: (k, p) :: H) w' := by
  have m' := m.call1 hB hb hk hp
  refine ⟨m'.room, m'.chg, fun q hq => ?_, List.pairwise_cons.2 ⟨fun q hq => ?_, m'.apart⟩⟩
  · rcases List.mem_cons.1 hq with rfl | hq
    · exact ⟨.inl (Nat.le_trans (Nat.le_trans hB m.chg.size) hg), ho⟩
    · exact m'.own q hq
  · rcases List.mem_cons.1 hq with rfl | hq
    · exact hne
    · have := m.lt hq; show g ≠ q.1; omega
theorem E_perm {B : Nat} {w0 : Base} {N : Nat} {D : List Deferred} {env : Env} {H H' : Hp} {Q : Act → World → Prop} (hp : H.Perm H') (h : Ex B w0 N D env H' Q) : Ex B w0 N D env H Q := by
  unfold Ex at h ⊢
  exact fun a w hf hm => h a w hf (hm.perm hp)
theorem zeroC_u8s : Zs Try.prog 40 (.slice none 0 0) := ⟨by kernel_rfl, rfl⟩
set_option maxHeartbeats 2000000 in
theorem put_any (A : Option Addr) (n c : Nat) (xs : List UInt8) (v : Nat) (z : Int) (w : World) (hl : xs.length = n) (hrd : Reads w A n (bytesV xs)) (hn : n ≤ 1000000000) (hv : v ≤ 18446744073709551615) :
    Calls Try.prog 47 [.slice A n c, .int .u64 (v : Int), .int .i64 z].toArray w (MadeB 5 (xs ++ digitsB v (clampB z)) w) := by
  subst hl
  have hcl := clamp_steps z
  have hcb : clampB z ≤ 8 := by unfold clampB; omega
  generalize clampB z = m at *
  have hadd : IntKind.i64.wrap ((xs.length : Int) + (m : Int)) = ((xs.length + m : Nat) : Int) := by rw [w_in_i64 (by omega)]; omega
  refine enterM Try.func47 rfl Try.ntmps47 (by simp) ?_
  repeat (first | refine S_scope ?_ | refine S_label ?_ | refine E_noGoto_normal ?_ | refine E_noGoto_ret ?_ | refine E_noGoto_exit ?_ | refine S_yes rfl (by first | with_reducible rfl | decide) ?_ | refine S_no rfl (by first | with_reducible rfl | decide) ?_ | refine S_seq ?_ | refine E_seq ?_ | refine S_block ?_ | refine E_block_normal ?_ | refine S_skip ?_ | refine S_exit ?_ | refine S_ret ?_ | refine E_then_exit ?_ | refine E_then_ret ?_ | refine E_block_ret ?_ | refine E_block_exit ?_ | refine E_block_exit_other rfl ?_)
  refine S_region ?_
  refine R_cons rfl (op_pure (p_assign rfl) rfl ?_)
  refine R_nil ?_
  repeat (first | refine S_scope ?_ | refine S_label ?_ | refine E_noGoto_normal ?_ | refine E_noGoto_ret ?_ | refine E_noGoto_exit ?_ | refine S_yes rfl (by first | with_reducible rfl | decide) ?_ | refine S_no rfl (by first | with_reducible rfl | decide) ?_ | refine S_seq ?_ | refine E_seq ?_ | refine S_block ?_ | refine E_block_normal ?_ | refine S_skip ?_ | refine S_exit ?_ | refine S_ret ?_ | refine E_then_exit ?_ | refine E_then_ret ?_ | refine E_block_ret ?_ | refine E_block_exit ?_ | refine E_block_exit_other rfl ?_)
  refine S_region ?_
  refine R_cons rfl (op_pure (p_move rfl) rfl ?_)
  refine R_cons rfl (op_pure (p_min2 rfl rfl rfl) rfl ?_)
  refine R_cons rfl (op_pure (p_max2 rfl rfl hcl) rfl ?_)
  refine R_cons rfl (op_pure (p_assign rfl) rfl ?_)
  refine R_nil ?_
  repeat (first | refine S_scope ?_ | refine S_label ?_ | refine E_noGoto_normal ?_ | refine E_noGoto_ret ?_ | refine E_noGoto_exit ?_ | refine S_yes rfl (by first | with_reducible rfl | decide) ?_ | refine S_no rfl (by first | with_reducible rfl | decide) ?_ | refine S_seq ?_ | refine E_seq ?_ | refine S_block ?_ | refine E_block_normal ?_ | refine S_skip ?_ | refine S_exit ?_ | refine S_ret ?_ | refine E_then_exit ?_ | refine E_then_ret ?_ | refine E_block_ret ?_ | refine E_block_exit ?_ | refine E_block_exit_other rfl ?_)
  refine S_region ?_
  refine R_cons rfl (op_pure (p_move rfl) rfl ?_)
  refine R_cons rfl (op_pure (p_len rfl slc_u8s) rfl ?_)
  refine R_cons rfl (op_pure (p_move rfl) rfl ?_)
  refine R_cons rfl (op_pure (p_bin rfl rfl (b_add hadd)) rfl ?_)
  refine R_cons rfl (op_makeSlice (l := 0) (c := xs.length + m) rfl rfl rfl rfl slc_u8s.1 el_u8 (Nat.zero_le _) (by omega) (by omega) rfl (Nat.le_refl _) (fun b16 => ?_))
  refine R_cons rfl (op_pure (p_move rfl) rfl ?_)
  refine R_cons rfl (op_appendBuf (u := some (b16, List.replicate (xs.length + m) (.int .u8 0))) (xs := []) (ys := xs) (by unfold Buf.val Buf.addr Buf.cap; simp [K.look, K.find]) rfl slc_u8s.1 el_u8 (.at_ rfl .here) (by show _ ≤ maxLen; simp; unfold maxLen; omega) (fun w hm => hrd.base hm) (by simp; omega) rfl (Nat.le_refl _) (fun u hok hne => ?_))
  refine R_cons rfl (op_alloc1 zeroC_u8s rfl (Nat.le_refl _) (fun b7 => ?_))
  refine R_cons rfl (op_store rfl rfl rfl sc_u8s (by repeat (first | exact At.here | apply At.there)) (by first | exact Nat.le_of_ble_eq_true rfl | omega | (simp only [bytesV_length, wordsV_length]; omega) | (simp only [bytesV_length, wordsV_length, List.length_cons, List.length_nil, List.length_set, List.length_append]; omega) | decide) ?_)
  refine R_nil ?_
  repeat (first | refine S_scope ?_ | refine S_label ?_ | refine E_noGoto_normal ?_ | refine E_noGoto_ret ?_ | refine E_noGoto_exit ?_ | refine S_yes rfl (by first | with_reducible rfl | decide) ?_ | refine S_no rfl (by first | with_reducible rfl | decide) ?_ | refine S_seq ?_ | refine E_seq ?_ | refine S_block ?_ | refine E_block_normal ?_ | refine S_skip ?_ | refine S_exit ?_ | refine S_ret ?_ | refine E_then_exit ?_ | refine E_then_ret ?_ | refine E_block_ret ?_ | refine E_block_exit ?_ | refine E_block_exit_other rfl ?_)
  refine S_region ?_
  refine R_cons rfl (op_pure (p_move rfl) rfl ?_)
  refine R_cons rfl (op_pure (p_move rfl) rfl ?_)
  refine R_cons rfl (op_call rfl rfl Try.func82 rfl (by kernel_rfl) rfl fun w1 hm => (digits_any v m w1).mono ?_)
  rintro e w2 ⟨bm, bn, rfl, hbm, hbn, hne2, hom, hon, hbel⟩
  refine ⟨_, _, rfl, call2 hm (Nat.le_refl _) hbel hbm hbn hne2 hom hon, ?_⟩
  refine R_nil ?_
  repeat (first | refine S_scope ?_ | refine S_label ?_ | refine E_noGoto_normal ?_ | refine E_noGoto_ret ?_ | refine E_noGoto_exit ?_ | refine S_yes rfl (by first | with_reducible rfl | decide) ?_ | refine S_no rfl (by first | with_reducible rfl | decide) ?_ | refine S_seq ?_ | refine E_seq ?_ | refine S_block ?_ | refine E_block_normal ?_ | refine S_skip ?_ | refine S_exit ?_ | refine S_ret ?_ | refine E_then_exit ?_ | refine E_then_ret ?_ | refine E_block_ret ?_ | refine E_block_exit ?_ | refine E_block_exit_other rfl ?_)
  refine S_range (ps := [22]) (digits_iter v m bm bn w.heap.size ⟨w, []⟩ hv hcb) (Nat.le_refl _) rfl Try.func93 rfl (by kernel_rfl) (fun _ => rfl) rfl
    (fun s : List UInt8 × Buf => (b7, .cells [s.2.val (xs ++ s.1)].toArray 40 (0, 0)) :: s.2.hp 5 (xs ++ s.1)) (fun pre s => s.1 = pre ∧ s.2.ok (xs ++ s.1)) ([], u) ⟨rfl, by simpa using hok⟩ (by simp only [List.append_nil]; exact Fewer.refl _)
    (fun b => [(8, .int .u8 (b.toNat : Int)), (7, .pointer (some ⟨b7, 0, none⟩))]) ?assign ?body ?done
  case assign =>
    intro l Hx p
    repeat (first | refine SI_yes rfl (by first | with_reducible rfl | decide) ?_ | refine SI_no rfl (by first | with_reducible rfl | decide) ?_ | refine SI_seq ?_ | refine EI_seq ?_ | refine SI_block ?_ | refine E_block_normal ?_ | refine SI_skip ?_ | refine SI_exit ?_ | refine SI_ret ?_ | refine E_then_exit ?_ | refine E_then_ret ?_ | refine E_block_ret ?_ | refine E_block_exit ?_ | refine E_block_exit_other rfl ?_)
    refine SI_region ?_
    refine RI_cons rfl (by intro c h; cases h) (op_pure (p_assign rfl) rfl ?_)
    refine RI_nil ?_
    repeat (first | refine SI_yes rfl (by first | with_reducible rfl | decide) ?_ | refine SI_no rfl (by first | with_reducible rfl | decide) ?_ | refine SI_seq ?_ | refine EI_seq ?_ | refine SI_block ?_ | refine E_block_normal ?_ | refine SI_skip ?_ | refine SI_exit ?_ | refine SI_ret ?_ | refine E_then_exit ?_ | refine E_then_ret ?_ | refine E_block_ret ?_ | refine E_block_exit ?_ | refine E_block_exit_other rfl ?_)
    exact EI_end fun a w hf hm => ⟨hf.sub (by repeat (first | exact Sub.nil | refine Sub.cons rfl ?_)), hm⟩
  case body =>
    rintro l Dk Lr Hj pre b ⟨done, u1⟩ hpre ⟨rfl, hok1⟩
    dsimp only at hok1 ⊢
    have hlen : (digitsB v m).length = m := digitsB_length v m
    have hdl : done.length ≤ 8 := by
      have := hpre.length_le
      simp only [List.length_append, List.length_cons, List.length_nil] at this; omega
    generalize Hj ++ [(l, Lr), (Dk, .deferred (some []))] = K at *
    repeat (first | refine SI_yes rfl (by first | with_reducible rfl | decide) ?_ | refine SI_no rfl (by first | with_reducible rfl | decide) ?_ | refine SI_seq ?_ | refine EI_seq ?_ | refine SI_block ?_ | refine E_block_normal ?_ | refine SI_skip ?_ | refine SI_exit ?_ | refine SI_ret ?_ | refine E_then_exit ?_ | refine E_then_ret ?_ | refine E_block_ret ?_ | refine E_block_exit ?_ | refine E_block_exit_other rfl ?_)
    refine SI_region ?_
    refine RI_cons rfl (by intro c h; cases h) (op_pure (by first | exact p_load rfl sc_u8s (by repeat (first | exact List.Mem.head _ | apply List.Mem.tail)) (by first | assumption | exact bytesV_get (by omega) | exact wordsV_get (by omega) | rfl) | exact p_load_base rfl sc_u8s (by assumption) (by simp) (by assumption)) rfl ?_)
    refine RI_cons rfl (by intro c h; cases h) (op_pure (p_move rfl) rfl ?_)
    refine RI_cons rfl (by intro c h; cases h) (op_buildSliceAll (ps := [(0, .tmp 24)]) rfl slc_u8s.1 el_u8 (by decide) (by decide) (by first | kernel_rfl | rfl) rfl (Nat.le_refl _) (fun b25 => ?_))
    refine RI_cons rfl (by intro c h; cases h) (op_appendBuf (u := u1) (xs := xs ++ done) (ys := [b]) rfl rfl slc_u8s.1 el_u8 (by exact .there (.left (.there .tail))) hok1 (fun w hm => hm.readsAll (b := b25) (by repeat (first | exact List.Mem.head _ | apply List.Mem.tail)) rfl) (by simp; omega) rfl (Nat.le_refl _) (fun u2 hok2 hne4 => ?_))
    refine RI_cons rfl (by intro c h; cases h) (op_store rfl rfl rfl sc_u8s (by repeat (first | exact At.here | apply At.there)) (by first | exact Nat.le_of_ble_eq_true rfl | omega | (simp only [bytesV_length, wordsV_length]; omega) | (simp only [bytesV_length, wordsV_length, List.length_cons, List.length_nil, List.length_set, List.length_append]; omega) | decide) ?_)
    refine RI_nil ?_
    repeat (first | refine SI_yes rfl (by first | with_reducible rfl | decide) ?_ | refine SI_no rfl (by first | with_reducible rfl | decide) ?_ | refine SI_seq ?_ | refine EI_seq ?_ | refine SI_block ?_ | refine E_block_normal ?_ | refine SI_skip ?_ | refine SI_exit ?_ | refine SI_ret ?_ | refine E_then_exit ?_ | refine E_then_ret ?_ | refine E_block_ret ?_ | refine E_block_exit ?_ | refine E_block_exit_other rfl ?_)
    rw [List.append_assoc] at hok2 ⊢
    refine E_perm (H' := (b25, .cells (bytesV [b]).toArray 5 (0, 0)) :: (b7, .cells [u2.val (xs ++ (done ++ [b]))].toArray 40 (0, 0)) :: (u2.hp 5 (xs ++ (done ++ [b])) ++ K)) ?_ (E_roundEnd (done ++ [b], u2) ⟨rfl, hok2⟩ (.drop (Fewer.refl _)))
    exact List.Perm.cons _ (List.Perm.cons _ (List.perm_append_comm (l₁ := K)))
  case done =>
    rintro Dk ⟨done, u1⟩ ⟨rfl, hok1⟩
    dsimp only at hok1 ⊢
    repeat (first | refine S_scope ?_ | refine S_label ?_ | refine E_noGoto_normal ?_ | refine E_noGoto_ret ?_ | refine E_noGoto_exit ?_ | refine S_yes rfl (by first | with_reducible rfl | decide) ?_ | refine S_no rfl (by first | with_reducible rfl | decide) ?_ | refine S_seq ?_ | refine E_seq ?_ | refine S_block ?_ | refine E_block_normal ?_ | refine S_skip ?_ | refine S_exit ?_ | refine S_ret ?_ | refine E_then_exit ?_ | refine E_then_ret ?_ | refine E_block_ret ?_ | refine E_block_exit ?_ | refine E_block_exit_other rfl ?_)
    refine S_region ?_
    refine R_cons rfl (op_pure (by first | exact p_load rfl sc_u8s (by repeat (first | exact List.Mem.head _ | apply List.Mem.tail)) (by first | assumption | exact bytesV_get (by omega) | exact wordsV_get (by omega) | rfl) | exact p_load_base rfl sc_u8s (by assumption) (by simp) (by assumption)) rfl ?_)
    refine R_cons rfl (op_pure (p_assign rfl) rfl ?_)
    refine R_nil ?_
    repeat (first | refine S_scope ?_ | refine S_label ?_ | refine E_noGoto_normal ?_ | refine E_noGoto_ret ?_ | refine E_noGoto_exit ?_ | refine S_yes rfl (by first | with_reducible rfl | decide) ?_ | refine S_no rfl (by first | with_reducible rfl | decide) ?_ | refine S_seq ?_ | refine E_seq ?_ | refine S_block ?_ | refine E_block_normal ?_ | refine S_skip ?_ | refine S_exit ?_ | refine S_ret ?_ | refine E_then_exit ?_ | refine E_then_ret ?_ | refine E_block_ret ?_ | refine E_block_exit ?_ | refine E_block_exit_other rfl ?_)
    refine E_retM1 rfl rfl (by repeat (first | exact At.here | apply At.there)) fun w' hm => ⟨u1, rfl, hok1, fun p hp => ?_, hm.below⟩
    have h1 := hm.own p (by simp [hp])
    refine ⟨?_, h1.2⟩
    rcases h1.1 with h | h
    · exact h
    · cases h
end Go.Proofs.Ytfdlafjifjndeaa
/-
  Put, where there is at least one byte: handed back in a row of the call's own.
-/
namespace Go.Sha
open Go.K
end Go.Sha
namespace Go.Proofs.Ytfdlafjifjndeaa
open Go.RowKit Go.K
attribute [local irreducible] Exit.then Exit.inBlock Exit.noGoto bodyPost Code.wp QL Sx Rx Qx Ex Dx Op1 Pure1 Still1 K.Sub Calm Code.wpIn
attribute [local irreducible] Buf.hp Buf.cap Buf.addr
set_option linter.unusedVariables false
theorem MadeB.buf {e : TypeId} {xs : List UInt8} {w w' : World} {r : Ending} (hx : xs.length ≠ 0) (h : MadeB e xs w r w') : MadeBuf e xs w r w' := by
  obtain ⟨u, hr, hok, hp, hb⟩ := h
  obtain ⟨g, sp, rfl⟩ := Buf.some_of hok hx
  have h1 := hp (g, .cells (bytesV xs ++ sp).toArray e (0, 0)) (by unfold Buf.hp; exact List.Mem.head _)
  exact ⟨g, sp, hr, hok, h1.1, h1.2, hb⟩
theorem clamp_nat (m : Nat) (h : m ≤ 8) : clampB (m : Int) = m := by unfold clampB; omega
theorem putBuf (A : Option Addr) (n c : Nat) (xs : List UInt8) (v m : Nat) (w : World) (hl : xs.length = n) (hrd : Reads w A n (bytesV xs)) (hn : n ≤ 1000000000) (hv : v ≤ 18446744073709551615) (hm : m ≤ 8) (h0 : m ≠ 0) :
    Calls Try.prog 47 [.slice A n c, .int .u64 (v : Int), .int .i64 (m : Int)].toArray w (MadeBuf 5 (xs ++ digitsB v m) w) :=
  (put_any A n c xs v m w hl hrd hn hv).mono fun _ _ h => by
    rw [clamp_nat m hm] at h
    exact h.buf (by rw [List.length_append, digitsB_length]; omega)
theorem refPutBuf (A : Option Addr) (n c : Nat) (xs : List UInt8) (v m : Nat) (w : World) (hl : xs.length = n) (hrd : Reads w A n (bytesV xs)) (hn : n ≤ 1000000000) (hv : v ≤ 18446744073709551615) (hm : m ≤ 8) (h0 : m ≠ 0) :
    Calls Try.prog 88 [.slice A n c, .int .u64 (v : Int), .int .i64 (m : Int)].toArray w (MadeBuf 5 (xs ++ digitsB v m) w) :=
  (refPut_any A n c xs v m w hl hrd hn hv).mono fun _ _ h => by
    rw [clamp_nat m hm] at h
    exact h.buf (by rw [List.length_append, digitsB_length]; omega)
end Go.Proofs.Ytfdlafjifjndeaa
/-
  The layer sums: its functions, each by one walk.
-/
namespace Go.Proofs.Ytfdlafjifjndeaa
open Go.RowKit Go.K attribute [local irreducible] Exit.then Exit.inBlock Exit.noGoto bodyPost Code.wp QL Sx Rx Qx Ex Dx Op1 Pure1 Still1 K.Sub Calm Code.wpIn
attribute [local irreducible] SIx RIx
/-- the value of a pair of numbers -/
def bothV (x y : Nat) : List Value := [.int .u64 (x : Int), .int .u64 (y : Int)]
theorem left_any (x y : Nat) (w : World) : Calls Try.prog 101 [.agg (bothV x y).toArray].toArray w fun e w' => e = .returned (.agg (bothV (x % 65521) (y % 65521)).toArray) ∧ Below w.heap.size w w' := by
  refine enter Try.func101 rfl Try.ntmps101 (by simp) ?_
  repeat (first | refine S_scope ?_ | refine S_label ?_ | refine E_noGoto_normal ?_ | refine E_noGoto_ret ?_ | refine E_noGoto_exit ?_ | refine S_yes rfl (by first | with_reducible rfl | decide) ?_ | refine S_no rfl (by first | with_reducible rfl | decide) ?_ | refine S_seq ?_ | refine E_seq ?_ | refine S_block ?_ | refine E_block_normal ?_ | refine S_skip ?_ | refine S_exit ?_ | refine S_ret ?_ | refine E_then_exit ?_ | refine E_then_ret ?_ | refine E_block_ret ?_ | refine E_block_exit ?_ | refine E_block_exit_other rfl ?_)
  refine S_region ?_
  refine R_cons rfl (op_boxRow rfl rfl (Nat.le_refl _) (fun b1 => ?_))
  refine R_cons rfl (op_allocRow zero_both rfl (Nat.le_refl _) (fun b2 => ?_))
  refine R_nil ?_
  repeat (first | refine S_scope ?_ | refine S_label ?_ | refine E_noGoto_normal ?_ | refine E_noGoto_ret ?_ | refine E_noGoto_exit ?_ | refine S_yes rfl (by first | with_reducible rfl | decide) ?_ | refine S_no rfl (by first | with_reducible rfl | decide) ?_ | refine S_seq ?_ | refine E_seq ?_ | refine S_block ?_ | refine E_block_normal ?_ | refine S_skip ?_ | refine S_exit ?_ | refine S_ret ?_ | refine E_then_exit ?_ | refine E_then_ret ?_ | refine E_block_ret ?_ | refine E_block_exit ?_ | refine E_block_exit_other rfl ?_)
  refine S_region ?_
  refine R_cons rfl (op_pure (by first | exact p_indexArr0 (j := 0) rfl rfl rfl arr_both (by decide) | exact p_indexArr (j := 0) rfl rfl rfl arr_both (by decide)) rfl ?_)
  refine R_cons rfl (op_pure (by first | exact p_load rfl sc_u64 (by repeat (first | exact List.Mem.head _ | apply List.Mem.tail)) (by first | assumption | exact bytesV_get (by omega) | exact wordsV_get (by omega) | rfl) | exact p_load_base rfl sc_u64 (by assumption) (by simp) (by assumption)) rfl ?_)
  refine R_cons rfl (op_pure (by first | exact p_bin rfl rfl (b_rem (by decide) (by assumption)) | exact p_bin rfl rfl (b_rem (by decide) (nat_rem _ 65521)) | exact p_bin rfl rfl (b_rem (by decide) (int_rem (by omega)))) rfl ?_)
  refine R_cons rfl (op_pure (by first | exact p_indexArr0 (j := 1) rfl rfl rfl arr_both (by decide) | exact p_indexArr (j := 1) rfl rfl rfl arr_both (by decide)) rfl ?_)
  refine R_cons rfl (op_pure (by first | exact p_load rfl sc_u64 (by repeat (first | exact List.Mem.head _ | apply List.Mem.tail)) (by first | assumption | exact bytesV_get (by omega) | exact wordsV_get (by omega) | rfl) | exact p_load_base rfl sc_u64 (by assumption) (by simp) (by assumption)) rfl ?_)
  refine R_cons rfl (op_pure (by first | exact p_bin rfl rfl (b_rem (by decide) (by assumption)) | exact p_bin rfl rfl (b_rem (by decide) (nat_rem _ 65521)) | exact p_bin rfl rfl (b_rem (by decide) (int_rem (by omega)))) rfl ?_)
  refine R_cons rfl (op_pure (p_buildAll (ps := [(0, .tmp 5), (1, .tmp 8)]) rfl (by kernel_rfl)) rfl ?_)
  refine R_cons rfl (op_storeRow rfl rfl (by first | exact bytesV_one _ | exact wordsV_one _ | (repeat (first | exact ones_nil | refine ones_cons rfl ?_))) row_both (by first | assumption | rfl | (simp only [bytesV_length, wordsV_length]; omega) | (rw [bytesV_length]; exact Sha.sha_length _)) (by repeat (first | exact At.here | apply At.there)) (by first | exact Nat.le_of_ble_eq_true rfl | omega | (simp only [bytesV_length, wordsV_length, List.length_cons, List.length_nil, List.length_replicate]; omega) | (simp only [bytesV_length, Sha.sha_length, List.length_replicate] <;> omega)) ?_)
  refine R_nil ?_
  repeat (first | refine S_scope ?_ | refine S_label ?_ | refine E_noGoto_normal ?_ | refine E_noGoto_ret ?_ | refine E_noGoto_exit ?_ | refine S_yes rfl (by first | with_reducible rfl | decide) ?_ | refine S_no rfl (by first | with_reducible rfl | decide) ?_ | refine S_seq ?_ | refine E_seq ?_ | refine S_block ?_ | refine E_block_normal ?_ | refine S_skip ?_ | refine S_exit ?_ | refine S_ret ?_ | refine E_then_exit ?_ | refine E_then_ret ?_ | refine E_block_ret ?_ | refine E_block_exit ?_ | refine E_block_exit_other rfl ?_)
  exact E_retRow rfl rfl (by repeat (first | exact List.Mem.head _ | apply List.Mem.tail)) row_both rfl fun w' hm => ⟨rfl, hm.below⟩
/-- the exact sums behind bytes -/
def exact (x y : Nat) : List UInt8 → Nat × Nat
  | [] => (x, y)
  | b :: r => exact (x + b.toNat) (y + (x + b.toNat)) r
theorem exact_snoc (l : List UInt8) (b : UInt8) : ∀ x y, exact x y (l ++ [b]) = ((exact x y l).1 + b.toNat, (exact x y l).2 + ((exact x y l).1 + b.toNat)) := by
  induction l with
  | nil => intro x y; rfl
  | cons c l ih => intro x y; simp only [List.cons_append, exact, ih]
theorem exact_le (l : List UInt8) : ∀ x y, (exact x y l).1 ≤ x + 255 * l.length ∧ (exact x y l).2 ≤ y + l.length * (x + 255 * l.length) := by
  induction l with
  | nil => intro x y; simp [exact]
  | cons c l ih =>
    intro x y
    have := ih (x + c.toNat) (y + (x + c.toNat))
    have hc := b_lt c
    simp only [exact, List.length_cons]
    refine ⟨by omega, Nat.le_trans this.2 ?_⟩
    have h1 : l.length * (x + c.toNat + 255 * l.length) ≤ l.length * (x + 255 * (l.length + 1)) := Nat.mul_le_mul_left _ (by omega)
    have h2 : (l.length + 1) * (x + 255 * (l.length + 1)) = l.length * (x + 255 * (l.length + 1)) + (x + 255 * (l.length + 1)) := Nat.succ_mul _ _
    omega
theorem take_snoc (xs : List UInt8) (k : Nat) (hk : k < xs.length) : xs.take (k + 1) = xs.take k ++ [xs.getD k 0] := by
  rw [List.take_succ_eq_append_getElem hk]
  simp [hk]
theorem takes_any (x y : Nat) (A : Option Addr) (c : Nat) (xs : List UInt8) (w : World) (hrd : Reads w A xs.length (bytesV xs)) (hn : xs.length ≤ 1024) (hx : x ≤ 65520) (hy : y ≤ 65520) :
    Calls Try.prog 103 [.agg (bothV x y).toArray, .slice A xs.length c].toArray w fun e w' => e = .returned (.agg (bothV ((exact x y xs).1 % 65521) ((exact x y xs).2 % 65521)).toArray) ∧ Below w.heap.size w w' := by
  refine enter Try.func103 rfl Try.ntmps103 (by simp) ?_
  repeat (first | refine S_scope ?_ | refine S_label ?_ | refine E_noGoto_normal ?_ | refine E_noGoto_ret ?_ | refine E_noGoto_exit ?_ | refine S_yes rfl (by first | with_reducible rfl | decide) ?_ | refine S_no rfl (by first | with_reducible rfl | decide) ?_ | refine S_seq ?_ | refine E_seq ?_ | refine S_block ?_ | refine E_block_normal ?_ | refine S_skip ?_ | refine S_exit ?_ | refine S_ret ?_ | refine E_then_exit ?_ | refine E_then_ret ?_ | refine E_block_ret ?_ | refine E_block_exit ?_ | refine E_block_exit_other rfl ?_)
  refine S_region ?_
  refine R_cons rfl (op_boxRow rfl rfl (Nat.le_refl _) (fun b2 => ?_))
  refine R_cons rfl (op_allocRow zero_both rfl (Nat.le_refl _) (fun b4 => ?_))
  refine R_nil ?_
  repeat (first | refine S_scope ?_ | refine S_label ?_ | refine E_noGoto_normal ?_ | refine E_noGoto_ret ?_ | refine E_noGoto_exit ?_ | refine S_yes rfl (by first | with_reducible rfl | decide) ?_ | refine S_no rfl (by first | with_reducible rfl | decide) ?_ | refine S_seq ?_ | refine E_seq ?_ | refine S_block ?_ | refine E_block_normal ?_ | refine S_skip ?_ | refine S_exit ?_ | refine S_ret ?_ | refine E_then_exit ?_ | refine E_then_ret ?_ | refine E_block_ret ?_ | refine E_block_exit ?_ | refine E_block_exit_other rfl ?_)
  refine S_region ?_
  refine R_cons rfl (op_pure (p_move rfl) rfl ?_)
  refine R_cons rfl (op_pure (p_len rfl slc_u8s) rfl ?_)
  refine R_cons rfl (op_pure (p_move rfl) rfl ?_)
  refine R_nil ?_
  repeat (first | refine S_scope ?_ | refine S_label ?_ | refine E_noGoto_normal ?_ | refine E_noGoto_ret ?_ | refine E_noGoto_exit ?_ | refine S_yes rfl (by first | with_reducible rfl | decide) ?_ | refine S_no rfl (by first | with_reducible rfl | decide) ?_ | refine S_seq ?_ | refine E_seq ?_ | refine S_block ?_ | refine E_block_normal ?_ | refine S_skip ?_ | refine S_exit ?_ | refine S_ret ?_ | refine E_then_exit ?_ | refine E_then_ret ?_ | refine E_block_ret ?_ | refine E_block_exit ?_ | refine E_block_exit_other rfl ?_)
  refine S_loop (fun k : Nat => [(9, .int .i64 (k : Int)), (8, .int .i64 (xs.length : Int)), (7, .slice A xs.length c), (4, .pointer (some ⟨b4, 0, none⟩)), (2, .pointer (some ⟨b2, 0, none⟩))])
    (fun k => [(b4, .cells [.int .u64 0, .int .u64 0].toArray 165 (0, 0)), (b2, .cells (bothV (exact x y (xs.take k)).1 (exact x y (xs.take k)).2).toArray 165 (0, 0))])
    (fun k => k ≤ xs.length) (fun k => xs.length - k) 0 (by omega) (by repeat (first | exact Sub.nil | refine Sub.cons rfl ?_)) (Fewer.refl _) ?_
  intro k hk
  have hle := exact_le (xs.take k) x y
  rw [List.length_take, Nat.min_eq_left hk] at hle
  have hm1 : k * (x + 255 * k) ≤ 1024 * (65520 + 255 * 1024) := Nat.mul_le_mul (by omega) (by omega)
  repeat (first | refine S_scope ?_ | refine S_label ?_ | refine E_noGoto_normal ?_ | refine E_noGoto_ret ?_ | refine E_noGoto_exit ?_ | refine S_yes rfl (by first | with_reducible rfl | decide) ?_ | refine S_no rfl (by first | with_reducible rfl | decide) ?_ | refine S_seq ?_ | refine E_seq ?_ | refine S_block ?_ | refine E_block_normal ?_ | refine S_skip ?_ | refine S_exit ?_ | refine S_ret ?_ | refine E_then_exit ?_ | refine E_then_ret ?_ | refine E_block_ret ?_ | refine E_block_exit ?_ | refine E_block_exit_other rfl ?_)
  refine S_region ?_
  refine R_cons rfl (op_pure (p_bin rfl rfl (b_lss (by first | assumption | exact decide_eq_true (by omega) | exact decide_eq_false (by omega) | rfl))) rfl ?_)
  refine R_nil ?_
  repeat (first | refine S_scope ?_ | refine S_label ?_ | refine E_noGoto_normal ?_ | refine E_noGoto_ret ?_ | refine E_noGoto_exit ?_ | refine S_yes rfl (by first | with_reducible rfl | decide) ?_ | refine S_no rfl (by first | with_reducible rfl | decide) ?_ | refine S_seq ?_ | refine E_seq ?_ | refine S_block ?_ | refine E_block_normal ?_ | refine S_skip ?_ | refine S_exit ?_ | refine S_ret ?_ | refine E_then_exit ?_ | refine E_then_ret ?_ | refine E_block_ret ?_ | refine E_block_exit ?_ | refine E_block_exit_other rfl ?_)
  refine S_cond rfl (fun hlt => ?_) (fun hge => ?_)
  · have hlt' : k < xs.length := by simpa using hlt
    obtain ⟨b, off, rfl, hb, hcell⟩ := hrd.2 (by omega)
    have hc := hcell k _ (bytesV_get hlt')
    have h8 := b_lt (xs.getD k 0)
    have hts := exact_snoc (xs.take k) (xs.getD k 0) x y
    rw [← take_snoc xs k hlt'] at hts
    generalize he : exact x y (xs.take k) = ex at *
    repeat (first | refine S_scope ?_ | refine S_label ?_ | refine E_noGoto_normal ?_ | refine E_noGoto_ret ?_ | refine E_noGoto_exit ?_ | refine S_yes rfl (by first | with_reducible rfl | decide) ?_ | refine S_no rfl (by first | with_reducible rfl | decide) ?_ | refine S_seq ?_ | refine E_seq ?_ | refine S_block ?_ | refine E_block_normal ?_ | refine S_skip ?_ | refine S_exit ?_ | refine S_ret ?_ | refine E_then_exit ?_ | refine E_then_ret ?_ | refine E_block_ret ?_ | refine E_block_exit ?_ | refine E_block_exit_other rfl ?_)
    refine S_region ?_
    refine R_cons rfl (op_pure (by exact p_indexSl rfl rfl (by repeat (first | assumption | exact lit0 | exact lit1 | apply IntWalk.up_add | apply IntWalk.up_div | apply IntWalk.up_mod | apply IntWalk.up_mul | rfl)) slc_u8s (by omega)) rfl ?_)
    refine R_cons rfl (op_pure (by first | exact p_load rfl sc_u8 (by repeat (first | exact List.Mem.head _ | apply List.Mem.tail)) (by first | assumption | exact bytesV_get (by omega) | exact wordsV_get (by omega) | rfl) | exact p_load_base rfl sc_u8 (by assumption) (by simp) (by assumption)) rfl ?_)
    refine R_cons rfl (op_pure (p_assign rfl) rfl ?_)
    refine R_nil ?_
    repeat (first | refine S_scope ?_ | refine S_label ?_ | refine E_noGoto_normal ?_ | refine E_noGoto_ret ?_ | refine E_noGoto_exit ?_ | refine S_yes rfl (by first | with_reducible rfl | decide) ?_ | refine S_no rfl (by first | with_reducible rfl | decide) ?_ | refine S_seq ?_ | refine E_seq ?_ | refine S_block ?_ | refine E_block_normal ?_ | refine S_skip ?_ | refine S_exit ?_ | refine S_ret ?_ | refine E_then_exit ?_ | refine E_then_ret ?_ | refine E_block_ret ?_ | refine E_block_exit ?_ | refine E_block_exit_other rfl ?_)
    refine S_region ?_
    refine R_cons rfl (op_pure (by first | exact p_indexArr0 (j := 0) rfl rfl rfl arr_both (by decide) | exact p_indexArr (j := 0) rfl rfl rfl arr_both (by decide)) rfl ?_)
    refine R_cons rfl (op_pure (by first | exact p_load rfl sc_u64 (by repeat (first | exact List.Mem.head _ | apply List.Mem.tail)) (by first | assumption | exact bytesV_get (by omega) | exact wordsV_get (by omega) | rfl) | exact p_load_base rfl sc_u64 (by assumption) (by simp) (by assumption)) rfl ?_)
    refine R_cons rfl (op_pure (p_move rfl) rfl ?_)
    refine R_cons rfl (op_pure (by exact p_convert rfl sc_u8 ik_u64 (by first | assumption | exact u8_nat _ | exact w8_i64 _ | exact w8_u64 _ | exact w8_u32n _ | exact w32_u64 _ | exact w32_i64 _ | exact w_in_i64 (by omega) | exact w_in_u64 (by omega) | exact w_in_u32 (by omega))) rfl ?_)
    refine R_cons rfl (op_pure (by first | exact p_bin rfl rfl (b_add (nat_add_u64 (by omega))) | exact p_bin rfl rfl (b_add (w_in_u64 (by omega)))) rfl ?_)
    refine R_cons rfl (op_pure (by first | exact p_indexArr0 (j := 0) rfl rfl rfl arr_both (by decide) | exact p_indexArr (j := 0) rfl rfl rfl arr_both (by decide)) rfl ?_)
    refine R_cons rfl (op_store rfl rfl rfl sc_u64 (by repeat (first | exact At.here | apply At.there)) (by first | exact Nat.le_of_ble_eq_true rfl | omega | (simp only [bytesV_length, wordsV_length]; omega) | (simp only [bytesV_length, wordsV_length, List.length_cons, List.length_nil, List.length_set, List.length_append]; omega) | decide) ?_)
    refine R_nil ?_
    repeat (first | refine S_scope ?_ | refine S_label ?_ | refine E_noGoto_normal ?_ | refine E_noGoto_ret ?_ | refine E_noGoto_exit ?_ | refine S_yes rfl (by first | with_reducible rfl | decide) ?_ | refine S_no rfl (by first | with_reducible rfl | decide) ?_ | refine S_seq ?_ | refine E_seq ?_ | refine S_block ?_ | refine E_block_normal ?_ | refine S_skip ?_ | refine S_exit ?_ | refine S_ret ?_ | refine E_then_exit ?_ | refine E_then_ret ?_ | refine E_block_ret ?_ | refine E_block_exit ?_ | refine E_block_exit_other rfl ?_)
    refine S_region ?_
    refine R_cons rfl (op_pure (by first | exact p_indexArr0 (j := 1) rfl rfl rfl arr_both (by decide) | exact p_indexArr (j := 1) rfl rfl rfl arr_both (by decide)) rfl ?_)
    refine R_cons rfl (op_pure (by first | exact p_load rfl sc_u64 (by repeat (first | exact List.Mem.head _ | apply List.Mem.tail)) (by first | assumption | exact bytesV_get (by omega) | exact wordsV_get (by omega) | rfl) | exact p_load_base rfl sc_u64 (by assumption) (by simp) (by assumption)) rfl ?_)
    refine R_cons rfl (op_pure (by first | exact p_indexArr0 (j := 0) rfl rfl rfl arr_both (by decide) | exact p_indexArr (j := 0) rfl rfl rfl arr_both (by decide)) rfl ?_)
    refine R_cons rfl (op_pure (by first | exact p_load rfl sc_u64 (by repeat (first | exact List.Mem.head _ | apply List.Mem.tail)) (by first | assumption | exact bytesV_get (by omega) | exact wordsV_get (by omega) | rfl) | exact p_load_base rfl sc_u64 (by assumption) (by simp) (by assumption)) rfl ?_)
    refine R_cons rfl (op_pure (by first | exact p_bin rfl rfl (b_add (nat_add_u64 (by omega))) | exact p_bin rfl rfl (b_add (w_in_u64 (by omega)))) rfl ?_)
    refine R_cons rfl (op_pure (by first | exact p_indexArr0 (j := 1) rfl rfl rfl arr_both (by decide) | exact p_indexArr (j := 1) rfl rfl rfl arr_both (by decide)) rfl ?_)
    refine R_cons rfl (op_store rfl rfl rfl sc_u64 (by repeat (first | exact At.here | apply At.there)) (by first | exact Nat.le_of_ble_eq_true rfl | omega | (simp only [bytesV_length, wordsV_length]; omega) | (simp only [bytesV_length, wordsV_length, List.length_cons, List.length_nil, List.length_set, List.length_append]; omega) | decide) ?_)
    refine R_nil ?_
    repeat (first | refine S_scope ?_ | refine S_label ?_ | refine E_noGoto_normal ?_ | refine E_noGoto_ret ?_ | refine E_noGoto_exit ?_ | refine S_yes rfl (by first | with_reducible rfl | decide) ?_ | refine S_no rfl (by first | with_reducible rfl | decide) ?_ | refine S_seq ?_ | refine E_seq ?_ | refine S_block ?_ | refine E_block_normal ?_ | refine S_skip ?_ | refine S_exit ?_ | refine S_ret ?_ | refine E_then_exit ?_ | refine E_then_ret ?_ | refine E_block_ret ?_ | refine E_block_exit ?_ | refine E_block_exit_other rfl ?_)
    refine S_region ?_
    refine R_cons rfl (op_pure (by exact p_bin rfl rfl (b_add (w_in_i64 (by omega)))) rfl ?_)
    refine R_cons rfl (op_pure (p_move rfl) rfl ?_)
    refine R_nil ?_
    repeat (first | refine S_scope ?_ | refine S_label ?_ | refine E_noGoto_normal ?_ | refine E_noGoto_ret ?_ | refine E_noGoto_exit ?_ | refine S_yes rfl (by first | with_reducible rfl | decide) ?_ | refine S_no rfl (by first | with_reducible rfl | decide) ?_ | refine S_seq ?_ | refine E_seq ?_ | refine S_block ?_ | refine E_block_normal ?_ | refine S_skip ?_ | refine S_exit ?_ | refine S_ret ?_ | refine E_then_exit ?_ | refine E_then_ret ?_ | refine E_block_ret ?_ | refine E_block_exit ?_ | refine E_block_exit_other rfl ?_)
    refine E_round (k + 1) (by omega) (by omega) (by repeat (first | exact Sub.nil | refine Sub.cons rfl ?_)) (.keep rfl (.keep (by rw [hts]; rfl) .nil))
  · have hge' : xs.length ≤ k := by simpa using hge
    rw [List.take_of_length_le hge']
    generalize exact x y xs = ex at *
    repeat (first | refine S_scope ?_ | refine S_label ?_ | refine E_noGoto_normal ?_ | refine E_noGoto_ret ?_ | refine E_noGoto_exit ?_ | refine S_yes rfl (by first | with_reducible rfl | decide) ?_ | refine S_no rfl (by first | with_reducible rfl | decide) ?_ | refine S_seq ?_ | refine E_seq ?_ | refine S_block ?_ | refine E_block_normal ?_ | refine S_skip ?_ | refine S_exit ?_ | refine S_ret ?_ | refine E_then_exit ?_ | refine E_then_ret ?_ | refine E_block_ret ?_ | refine E_block_exit ?_ | refine E_block_exit_other rfl ?_)
    refine S_region ?_
    refine R_cons rfl (op_pure (by first | exact p_loadRow rfl row_both (by repeat (first | exact List.Mem.head _ | apply List.Mem.tail)) (by first | assumption | rfl | (simp only [bytesV_length, wordsV_length]; omega)) | exact p_loadPart rfl row_both (by repeat (first | exact List.Mem.head _ | apply List.Mem.tail)) (by first | exact Nat.le_of_ble_eq_true rfl | omega | (simp only [bytesV_length, wordsV_length, List.length_cons, List.length_nil, List.length_replicate]; omega) | (simp only [bytesV_length, Sha.sha_length, List.length_replicate] <;> omega)) (by first | assumption | rfl)) rfl ?_)
    refine R_cons rfl (op_callV rfl rfl Try.func101 rfl (by kernel_rfl) rfl (Nat.le_refl _) (fun w' _ => left_any _ _ w') ?_)
    refine R_cons rfl (op_storeRow rfl rfl (by first | exact bytesV_one _ | exact wordsV_one _ | (repeat (first | exact ones_nil | refine ones_cons rfl ?_))) row_both (by first | assumption | rfl | (simp only [bytesV_length, wordsV_length]; omega) | (rw [bytesV_length]; exact Sha.sha_length _)) (by repeat (first | exact At.here | apply At.there)) (by first | exact Nat.le_of_ble_eq_true rfl | omega | (simp only [bytesV_length, wordsV_length, List.length_cons, List.length_nil, List.length_replicate]; omega) | (simp only [bytesV_length, Sha.sha_length, List.length_replicate] <;> omega)) ?_)
    refine R_nil ?_
    repeat (first | refine S_scope ?_ | refine S_label ?_ | refine E_noGoto_normal ?_ | refine E_noGoto_ret ?_ | refine E_noGoto_exit ?_ | refine S_yes rfl (by first | with_reducible rfl | decide) ?_ | refine S_no rfl (by first | with_reducible rfl | decide) ?_ | refine S_seq ?_ | refine E_seq ?_ | refine S_block ?_ | refine E_block_normal ?_ | refine S_skip ?_ | refine S_exit ?_ | refine S_ret ?_ | refine E_then_exit ?_ | refine E_then_ret ?_ | refine E_block_ret ?_ | refine E_block_exit ?_ | refine E_block_exit_other rfl ?_)
    exact E_retRow rfl rfl (by repeat (first | exact List.Mem.head _ | apply List.Mem.tail)) row_both rfl fun w' hm => ⟨rfl, hm.below⟩
theorem pieces_any (A : Option Addr) (n c : Nat) (w : World) : Calls Try.prog 102 [.slice A n c].toArray w fun e w' => ∃ bx, e = .returned (.func (.func 104) #[] [.pointer (some ⟨bx, 0, none⟩)].toArray) ∧ w.heap.size ≤ bx ∧ w'.heap[bx]? = some (.cells [.slice A n c].toArray 40 (0, 0)) ∧ Below w.heap.size w w' := by
  refine enter Try.func102 rfl Try.ntmps102 (by simp) ?_
  repeat (first | refine S_scope ?_ | refine S_label ?_ | refine E_noGoto_normal ?_ | refine E_noGoto_ret ?_ | refine E_noGoto_exit ?_ | refine S_yes rfl (by first | with_reducible rfl | decide) ?_ | refine S_no rfl (by first | with_reducible rfl | decide) ?_ | refine S_seq ?_ | refine E_seq ?_ | refine S_block ?_ | refine E_block_normal ?_ | refine S_skip ?_ | refine S_exit ?_ | refine S_ret ?_ | refine E_then_exit ?_ | refine E_then_ret ?_ | refine E_block_ret ?_ | refine E_block_exit ?_ | refine E_block_exit_other rfl ?_)
  refine S_region ?_
  refine R_cons rfl (op_box rfl rfl (Nat.le_refl _) (fun b1 => ?_))
  refine R_cons rfl (op_pure (p_assign rfl) rfl ?_)
  refine R_nil ?_
  repeat (first | refine S_scope ?_ | refine S_label ?_ | refine E_noGoto_normal ?_ | refine E_noGoto_ret ?_ | refine E_noGoto_exit ?_ | refine S_yes rfl (by first | with_reducible rfl | decide) ?_ | refine S_no rfl (by first | with_reducible rfl | decide) ?_ | refine S_seq ?_ | refine E_seq ?_ | refine S_block ?_ | refine E_block_normal ?_ | refine S_skip ?_ | refine S_exit ?_ | refine S_ret ?_ | refine E_then_exit ?_ | refine E_then_ret ?_ | refine E_block_ret ?_ | refine E_block_exit ?_ | refine E_block_exit_other rfl ?_)
  refine S_region ?_
  refine R_cons rfl (op_pure (p_makeFunc (xs := []) (ys := [.tmp 1]) rfl rfl) rfl ?_)
  refine R_cons rfl (op_pure (p_assign rfl) rfl ?_)
  refine R_nil ?_
  repeat (first | refine S_scope ?_ | refine S_label ?_ | refine E_noGoto_normal ?_ | refine E_noGoto_ret ?_ | refine E_noGoto_exit ?_ | refine S_yes rfl (by first | with_reducible rfl | decide) ?_ | refine S_no rfl (by first | with_reducible rfl | decide) ?_ | refine S_seq ?_ | refine E_seq ?_ | refine S_block ?_ | refine E_block_normal ?_ | refine S_skip ?_ | refine S_exit ?_ | refine S_ret ?_ | refine E_then_exit ?_ | refine E_then_ret ?_ | refine E_block_ret ?_ | refine E_block_exit ?_ | refine E_block_exit_other rfl ?_)
  refine E_ret1 rfl rfl fun w' hm => ⟨b1, rfl, ?_, (hm.own _ (by repeat (first | exact List.Mem.head _ | apply List.Mem.tail))).2, hm.below⟩
  rcases (hm.own _ (List.Mem.head _)).1 with h | h
  · exact h
  · cases h
/-- a piece of a slice of bytes -/
structure Piece where
  A : Option Addr
  n : Nat
  c : Nat
  xs : List UInt8
def Piece.val (p : Piece) : List Value := [.slice p.A p.n p.c]
def cuts : Nat → Option Addr → Nat → Nat → List UInt8 → List Piece
  | 0, _, _, _, _ => []
  | f + 1, A, n, c, xs => if n = 0 then [] else ⟨A, min 1024 n, c, xs.take (min 1024 n)⟩ :: cuts f (cutA A c (min 1024 n)) (n - min 1024 n) (c - min 1024 n) (xs.drop (min 1024 n))
theorem cuts_more (f : Nat) : ∀ (g : Nat) (A : Option Addr) (n c : Nat) (xs : List UInt8), n ≤ f → n ≤ g → cuts f A n c xs = cuts g A n c xs := by
  induction f with
  | zero =>
    intro g A n c xs hf _
    cases g with
    | zero => rfl
    | succ g => simp [cuts, show n = 0 by omega]
  | succ f ih =>
    intro g A n c xs hf hg
    cases g with
    | zero => simp [cuts, show n = 0 by omega]
    | succ g =>
      simp only [cuts]
      by_cases h : n = 0
      · rw [if_pos h, if_pos h]
      · rw [if_neg h, if_neg h, ih g _ _ _ _ (by omega) (by omega)]
theorem cuts_step {n c : Nat} {A : Option Addr} {xs : List UInt8} (hn : n ≠ 0) : cuts n A n c xs = ⟨A, min 1024 n, c, xs.take (min 1024 n)⟩ :: cuts (n - min 1024 n) (cutA A c (min 1024 n)) (n - min 1024 n) (c - min 1024 n) (xs.drop (min 1024 n)) := by
  obtain ⟨m, rfl⟩ : ∃ m, n = m + 1 := ⟨n - 1, by omega⟩
  rw [cuts, if_neg hn, cuts_more m (m + 1 - min 1024 (m + 1)) _ _ _ _ (by omega) (by omega)]
structure CutState where
  pre : List Piece
  A : Option Addr
  n : Nat
  c : Nat
  xs : List UInt8
theorem pieces_iter (A' : Option Addr) (n' c' : Nat) (xs' : List UInt8) (bx B : Nat) (w0 : Base) (hl : xs'.length = n') (hnc : n' ≤ c') (hcm : c' ≤ maxLen) :
    Iter Try.prog 104 [.pointer (some ⟨bx, 0, none⟩)] Piece.val B w0 [(bx, .cells [.slice A' n' c'].toArray 40 (0, 0))] (cuts n' A' n' c' xs') := by
  intro l J W hmem hst hyield hJ0
  refine enter_in Try.func104 rfl Try.ntmps104 (by simp) (fun a hf => ?_)
  refine wpIn_block ?_
  refine SI_loopW (N := 19) (D := []) (fun _ : CutState => [(1, .pointer (some ⟨bx, 0, none⟩)), (0, .func (.yield l) #[] #[])]) (fun s => [(bx, .cells [.slice s.A s.n s.c].toArray 40 (0, 0))]) [bx]
    (fun s W => J s.pre W ∧ Mem B w0 [(bx, .cells [.slice s.A s.n s.c].toArray 40 (0, 0))] W ∧ s.pre ++ cuts s.n s.A s.n s.c s.xs = cuts n' A' n' c' xs' ∧ s.xs.length = s.n ∧ s.n ≤ s.c ∧ s.c ≤ maxLen)
    (fun s => s.n) ⟨[], A', n', c', xs'⟩ (hf.sub (by repeat (first | exact Sub.nil | refine Sub.cons rfl ?_))) ⟨hJ0, hmem, rfl, hl, hnc, hcm⟩ (fun s W h => by have := h.2.1.here; simpa using this) ?_
  rintro ⟨pre, A, n, c, xs⟩ W ⟨hJ, hmW, htot, hl, hnc, hcm⟩
  dsimp only at hJ hmW htot hl hnc hcm ⊢
  have hcm' := hcm
  unfold maxLen at hcm'
  have hbx := (hmW.own _ (List.Mem.head _)).1
  repeat (first | refine SI_yes rfl (by first | with_reducible rfl | decide) ?_ | refine SI_no rfl (by first | with_reducible rfl | decide) ?_ | refine SI_seq ?_ | refine EI_seq ?_ | refine SI_block ?_ | refine E_block_normal ?_ | refine SI_skip ?_ | refine SI_exit ?_ | refine SI_ret ?_ | refine E_then_exit ?_ | refine E_then_ret ?_ | refine E_block_ret ?_ | refine E_block_exit ?_ | refine E_block_exit_other rfl ?_)
  refine SI_region ?_
  refine RI_cons rfl (by intro c h; cases h) (op_pure (p_load rfl sc_u8s (by repeat (first | exact List.Mem.head _ | apply List.Mem.tail)) (by rfl)) rfl ?_)
  refine RI_cons rfl (by intro c h; cases h) (op_pure (p_len rfl slc_u8s) rfl ?_)
  refine RI_cons rfl (by intro c h; cases h) (op_pure (p_bin rfl rfl (b_gtr (by first | assumption | exact decide_eq_true (by omega) | exact decide_eq_false (by omega) | rfl))) rfl ?_)
  refine RI_nil ?_
  repeat (first | refine SI_yes rfl (by first | with_reducible rfl | decide) ?_ | refine SI_no rfl (by first | with_reducible rfl | decide) ?_ | refine SI_seq ?_ | refine EI_seq ?_ | refine SI_block ?_ | refine E_block_normal ?_ | refine SI_skip ?_ | refine SI_exit ?_ | refine SI_ret ?_ | refine E_then_exit ?_ | refine E_then_ret ?_ | refine E_block_ret ?_ | refine E_block_exit ?_ | refine E_block_exit_other rfl ?_)
  refine SI_cond rfl (fun h => ?_) (fun h => ?_)
  · have hn0 : n ≠ 0 := by simp at h; omega
    rw [cuts_step hn0] at htot
    obtain ⟨m, hm⟩ : ∃ m, min 1024 n = m := ⟨_, rfl⟩
    rw [hm] at htot
    have hmn : m ≤ n := by omega
    have hm1 : m ≠ 0 := by omega
    have hmin : (if (n : Int) < 1024 then (n : Int) else 1024) = (m : Int) := by omega
    clear hm
    repeat (first | refine SI_yes rfl (by first | with_reducible rfl | decide) ?_ | refine SI_no rfl (by first | with_reducible rfl | decide) ?_ | refine SI_seq ?_ | refine EI_seq ?_ | refine SI_block ?_ | refine E_block_normal ?_ | refine SI_skip ?_ | refine SI_exit ?_ | refine SI_ret ?_ | refine E_then_exit ?_ | refine E_then_ret ?_ | refine E_block_ret ?_ | refine E_block_exit ?_ | refine E_block_exit_other rfl ?_)
    refine SI_region ?_
    refine RI_cons rfl (by intro c h; cases h) (op_pure (p_load rfl sc_u8s (by repeat (first | exact List.Mem.head _ | apply List.Mem.tail)) (by rfl)) rfl ?_)
    refine RI_cons rfl (by intro c h; cases h) (op_pure (p_len rfl slc_u8s) rfl ?_)
    refine RI_cons rfl (by intro c h; cases h) (op_pure (p_min2 rfl rfl hmin) rfl ?_)
    refine RI_cons rfl (by intro c h; cases h) (op_pure (p_assign rfl) rfl ?_)
    refine RI_nil ?_
    repeat (first | refine SI_yes rfl (by first | with_reducible rfl | decide) ?_ | refine SI_no rfl (by first | with_reducible rfl | decide) ?_ | refine SI_seq ?_ | refine EI_seq ?_ | refine SI_block ?_ | refine E_block_normal ?_ | refine SI_skip ?_ | refine SI_exit ?_ | refine SI_ret ?_ | refine E_then_exit ?_ | refine E_then_ret ?_ | refine E_block_ret ?_ | refine E_block_exit ?_ | refine E_block_exit_other rfl ?_)
    refine SI_region ?_
    refine RI_cons rfl (by intro c h; cases h) (op_pure (p_move rfl) rfl ?_)
    refine RI_cons rfl (by intro c h; cases h) (op_pure (p_load rfl sc_u8s (by repeat (first | exact List.Mem.head _ | apply List.Mem.tail)) (by rfl)) rfl ?_)
    refine RI_cons rfl (by intro c h; cases h) (op_pure (p_move rfl) rfl ?_)
    refine RI_cons rfl (by intro c h; cases h) (op_pure (p_sliceTo (h := m) rfl rfl rfl slc_u8s (by omega)) rfl ?_)
    refine RI_yield rfl rfl rfl (fun w hm => ?_)
    have hmB := hmW.back (by intro k hk; simp only [List.mem_singleton] at hk; subst hk; exact hbx) hm
    have hpre : pre ++ [(⟨A, m, c, xs.take m⟩ : Piece)] <+: cuts n' A' n' c' xs' := ⟨_, by rw [← htot, List.append_assoc]; rfl⟩
    refine yield_mono (hyield pre ⟨A, m, c, xs.take m⟩ w [(bx, .cells [.slice A n c].toArray 40 (0, 0))] hpre (hst pre W w hJ (Steps1.of hm)) rfl hmB) ?_
    rintro e w' ⟨rfl, hJ', hm'⟩
    refine ⟨.bool true, w'.heap.size, ⟨w', [bx]⟩, _, rfl, (by have := hm'.here; simpa using this), ?_⟩
    refine RI_cons rfl (by intro c h; cases h) (op_pure (p_not rfl) rfl ?_)
    refine RI_nil ?_
    repeat (first | refine SI_yes rfl (by first | with_reducible rfl | decide) ?_ | refine SI_no rfl (by first | with_reducible rfl | decide) ?_ | refine SI_seq ?_ | refine EI_seq ?_ | refine SI_block ?_ | refine E_block_normal ?_ | refine SI_skip ?_ | refine SI_exit ?_ | refine SI_ret ?_ | refine E_then_exit ?_ | refine E_then_ret ?_ | refine E_block_ret ?_ | refine E_block_exit ?_ | refine E_block_exit_other rfl ?_)
    refine SI_region ?_
    refine RI_cons rfl (by intro c h; cases h) (op_pure (p_load rfl sc_u8s (by repeat (first | exact List.Mem.head _ | apply List.Mem.tail)) (by rfl)) rfl ?_)
    refine RI_cons rfl (by intro c h; cases h) (op_pure (p_move rfl) rfl ?_)
    refine RI_cons rfl (by intro c h; cases h) (op_pure (p_sliceFrom (l := m) rfl rfl rfl slc_u8s (by omega)) rfl ?_)
    refine RI_cons rfl (by intro c h; cases h) (op_store rfl rfl rfl sc_u8s (by repeat (first | exact At.here | apply At.there)) (by first | exact Nat.le_of_ble_eq_true rfl | omega | (simp only [bytesV_length, wordsV_length]; omega) | (simp only [bytesV_length, wordsV_length, List.length_cons, List.length_nil, List.length_set, List.length_append]; omega) | decide) ?_)
    refine RI_nil ?_
    repeat (first | refine SI_yes rfl (by first | with_reducible rfl | decide) ?_ | refine SI_no rfl (by first | with_reducible rfl | decide) ?_ | refine SI_seq ?_ | refine EI_seq ?_ | refine SI_block ?_ | refine E_block_normal ?_ | refine SI_skip ?_ | refine SI_exit ?_ | refine SI_ret ?_ | refine E_then_exit ?_ | refine E_then_ret ?_ | refine E_block_ret ?_ | refine E_block_exit ?_ | refine E_block_exit_other rfl ?_)
    refine EI_end fun a w2 hf hm2 => ?_
    have hmB2 := hm'.back (by intro k hk; simp only [List.mem_singleton] at hk; subst hk; exact hbx) hm2
    exact ⟨⟨pre ++ [⟨A, m, c, xs.take m⟩], cutA A c m, n - m, c - m, xs.drop m⟩, by simp only; omega, hf.sub (by repeat (first | exact Sub.nil | refine Sub.cons rfl ?_)), hst _ w' w2 hJ' (Steps1.of hm2), hmB2, by simp only; rw [← htot, List.append_assoc]; rfl, by simp [hl], by simp only; omega, by simp only; unfold maxLen; omega⟩
  · have hn0 : n = 0 := by simp at h; omega
    subst hn0
    repeat (first | refine SI_yes rfl (by first | with_reducible rfl | decide) ?_ | refine SI_no rfl (by first | with_reducible rfl | decide) ?_ | refine SI_seq ?_ | refine EI_seq ?_ | refine SI_block ?_ | refine E_block_normal ?_ | refine SI_skip ?_ | refine SI_exit ?_ | refine SI_ret ?_ | refine E_then_exit ?_ | refine E_then_ret ?_ | refine E_block_ret ?_ | refine E_block_exit ?_ | refine E_block_exit_other rfl ?_)
    refine E_end0 rfl fun w hm => ⟨⟨_, rfl⟩, ?_⟩
    have : pre = cuts n' A' n' c' xs' := by rw [← htot]; simp [cuts]
    rw [← this]
    exact hst pre W w hJ (Steps1.of hm)
theorem exact_append (l m : List UInt8) : ∀ x y, exact x y (l ++ m) = exact (exact x y l).1 (exact x y l).2 m := by
  induction l with
  | nil => intro x y; rfl
  | cons c l ih => intro x y; simp only [List.cons_append, exact, ih]
/-- both numbers behind bytes, divided -/
def adl (x y : Nat) (l : List UInt8) : Nat × Nat := ((exact x y l).1 % 65521, (exact x y l).2 % 65521)
theorem exact_mod (l : List UInt8) : ∀ x y, adl (x % 65521) (y % 65521) l = adl x y l := by
  induction l with
  | nil => intro x y; simp [adl, exact]
  | cons c l ih =>
    intro x y
    have h1 := ih (x % 65521 + c.toNat) (y % 65521 + (x % 65521 + c.toNat))
    have h2 := ih (x + c.toNat) (y + (x + c.toNat))
    simp only [adl, exact] at h1 h2 ⊢
    rw [← h1, ← h2]
    rw [show (x % 65521 + c.toNat) % 65521 = (x + c.toNat) % 65521 by omega, show (y % 65521 + (x % 65521 + c.toNat)) % 65521 = (y + (x + c.toNat)) % 65521 by omega]
theorem adl_append (x y : Nat) (l m : List UInt8) : adl x y (l ++ m) = adl (adl x y l).1 (adl x y l).2 m := by
  rw [show adl (adl x y l).1 (adl x y l).2 m = adl (exact x y l).1 (exact x y l).2 m from exact_mod m _ _]
  simp only [adl, exact_append]
theorem adl_lt (x y : Nat) (l : List UInt8) : (adl x y l).1 < 65521 ∧ (adl x y l).2 < 65521 := ⟨Nat.mod_lt _ (by omega), Nat.mod_lt _ (by omega)⟩
def runP (s : Nat × Nat) (ps : List Piece) : Nat × Nat := ps.foldl (fun s p => adl s.1 s.2 p.xs) s
theorem runP_snoc (s : Nat × Nat) (ps : List Piece) (p : Piece) : runP s (ps ++ [p]) = adl (runP s ps).1 (runP s ps).2 p.xs := by simp [runP]
theorem runP_cuts (f : Nat) : ∀ (A : Option Addr) (n c : Nat) (xs : List UInt8) (x y : Nat), n ≤ f → xs.length = n → x < 65521 → y < 65521 → runP (x, y) (cuts f A n c xs) = adl x y xs := by
  induction f with
  | zero =>
    intro A n c xs x y hn hl hx hy
    obtain rfl : xs = [] := List.eq_nil_of_length_eq_zero (by omega)
    simp [cuts, runP, adl, exact, Nat.mod_eq_of_lt hx, Nat.mod_eq_of_lt hy]
  | succ f ih =>
    intro A n c xs x y hn hl hx hy
    simp only [cuts]
    by_cases h : n = 0
    · obtain rfl : xs = [] := List.eq_nil_of_length_eq_zero (by omega)
      rw [if_pos h]
      simp [runP, adl, exact, Nat.mod_eq_of_lt hx, Nat.mod_eq_of_lt hy]
    · rw [if_neg h]
      have h1 := adl_lt x y (xs.take (min 1024 n))
      have h2 := ih (cutA A c (min 1024 n)) (n - min 1024 n) (c - min 1024 n) (xs.drop (min 1024 n)) (adl x y (xs.take (min 1024 n))).1 (adl x y (xs.take (min 1024 n))).2 (by omega) (by simp; omega) h1.1 h1.2
      rw [← adl_append, List.take_append_drop] at h2
      rw [← h2]
      rfl
theorem cuts_reads {w : World} (f : Nat) : ∀ (A : Option Addr) (n c : Nat) (xs : List UInt8), Reads w A n (bytesV xs) → n ≤ c → ∀ p ∈ cuts f A n c xs, Reads w p.A p.n (bytesV p.xs) ∧ p.xs.length = p.n ∧ p.n ≤ 1024 := by
  induction f with
  | zero => intro A n c xs _ _ p hp; simp [cuts] at hp
  | succ f ih =>
    intro A n c xs hr hnc p hp
    simp only [cuts] at hp
    by_cases h : n = 0
    · rw [if_pos h] at hp; cases hp
    · rw [if_neg h] at hp
      have hl : xs.length = n := by have := hr.1; rwa [bytesV_length] at this
      rcases List.mem_cons.1 hp with rfl | hp
      · refine ⟨?_, by simp; omega, by simp only; omega⟩
        have := hr.head (k := min 1024 n) (by omega)
        simpa [bytesV, List.map_take] using this
      · refine ih _ _ _ _ ?_ (by omega) p hp
        have := hr.cut (k := min 1024 n) (by omega) hnc
        simpa [bytesV, List.map_drop] using this
/-- a sum, as it is kept: the low number and the high one -/
def onNat (s : Nat) (xs : List UInt8) : Nat := (adl (s % 65536 % 65521) (s / 65536 % 65521) xs).2 * 65536 + (adl (s % 65536 % 65521) (s / 65536 % 65521) xs).1
theorem on_any (s : Nat) (hs : s < 4294967296) (A : Option Addr) (n c : Nat) (xs : List UInt8) (w : World) (hl : xs.length = n) (hrd : Reads w A n (bytesV xs)) (hnc : n ≤ c) (hcm : c ≤ maxLen) :
    Calls Try.prog 97 [.int .u32 (s : Int), .slice A n c].toArray w fun e w' => e = .returned (.int .u32 (onNat s xs : Int)) ∧ Below w.heap.size w w' := by
  subst hl
  refine enterM Try.func97 rfl Try.ntmps97 (by simp) ?_
  repeat (first | refine S_scope ?_ | refine S_label ?_ | refine E_noGoto_normal ?_ | refine E_noGoto_ret ?_ | refine E_noGoto_exit ?_ | refine S_yes rfl (by first | with_reducible rfl | decide) ?_ | refine S_no rfl (by first | with_reducible rfl | decide) ?_ | refine S_seq ?_ | refine E_seq ?_ | refine S_block ?_ | refine E_block_normal ?_ | refine S_skip ?_ | refine S_exit ?_ | refine S_ret ?_ | refine E_then_exit ?_ | refine E_then_ret ?_ | refine E_block_ret ?_ | refine E_block_exit ?_ | refine E_block_exit_other rfl ?_)
  refine S_region ?_
  refine R_cons rfl (op_pure (p_assign rfl) rfl ?_)
  refine R_nil ?_
  repeat (first | refine S_scope ?_ | refine S_label ?_ | refine E_noGoto_normal ?_ | refine E_noGoto_ret ?_ | refine E_noGoto_exit ?_ | refine S_yes rfl (by first | with_reducible rfl | decide) ?_ | refine S_no rfl (by first | with_reducible rfl | decide) ?_ | refine S_seq ?_ | refine E_seq ?_ | refine S_block ?_ | refine E_block_normal ?_ | refine S_skip ?_ | refine S_exit ?_ | refine S_ret ?_ | refine E_then_exit ?_ | refine E_then_ret ?_ | refine E_block_ret ?_ | refine E_block_exit ?_ | refine E_block_exit_other rfl ?_)
  refine S_region ?_
  refine R_cons rfl (op_pure (p_move rfl) rfl ?_)
  refine R_cons rfl (op_pure (by exact p_bin rfl rfl (b_and (and16 _ (by omega)))) rfl ?_)
  refine R_cons rfl (op_pure (by exact p_convert rfl sc_u32 ik_u64 (by first | assumption | exact u8_nat _ | exact w8_i64 _ | exact w8_u64 _ | exact w8_u32n _ | exact w32_u64 _ | exact w32_i64 _ | exact w_in_i64 (by omega) | exact w_in_u64 (by omega) | exact w_in_u32 (by omega))) rfl ?_)
  refine R_cons rfl (op_pure (p_move rfl) rfl ?_)
  refine R_cons rfl (op_pure (by first | exact p_bin rfl rfl (b_shr (by decide) (by decide) (k32_shr _ 16 (by decide))) | exact p_bin rfl rfl (b_shr (by decide) (by decide) (shr_nat _ 16))) rfl ?_)
  refine R_cons rfl (op_pure (by exact p_convert rfl sc_u32 ik_u64 (by first | assumption | exact u8_nat _ | exact w8_i64 _ | exact w8_u64 _ | exact w8_u32n _ | exact w32_u64 _ | exact w32_i64 _ | exact w_in_i64 (by omega) | exact w_in_u64 (by omega) | exact w_in_u32 (by omega))) rfl ?_)
  refine R_cons rfl (op_pure (p_buildAll (ps := [(0, .tmp 9), (1, .tmp 12)]) rfl (by kernel_rfl)) rfl ?_)
  refine R_cons rfl (op_callV rfl rfl Try.func101 rfl (by kernel_rfl) rfl (Nat.le_refl _) (fun w' _ => left_any _ _ w') ?_)
  refine R_cons rfl (op_allocRow zero_both rfl (Nat.le_refl _) (fun b5 => ?_))
  refine R_cons rfl (op_storeRow rfl rfl (by first | exact bytesV_one _ | exact wordsV_one _ | (repeat (first | exact ones_nil | refine ones_cons rfl ?_))) row_both (by first | assumption | rfl | (simp only [bytesV_length, wordsV_length]; omega) | (rw [bytesV_length]; exact Sha.sha_length _)) (by repeat (first | exact At.here | apply At.there)) (by first | exact Nat.le_of_ble_eq_true rfl | omega | (simp only [bytesV_length, wordsV_length, List.length_cons, List.length_nil, List.length_replicate]; omega) | (simp only [bytesV_length, Sha.sha_length, List.length_replicate] <;> omega)) ?_)
  refine R_nil ?_
  repeat (first | refine S_scope ?_ | refine S_label ?_ | refine E_noGoto_normal ?_ | refine E_noGoto_ret ?_ | refine E_noGoto_exit ?_ | refine S_yes rfl (by first | with_reducible rfl | decide) ?_ | refine S_no rfl (by first | with_reducible rfl | decide) ?_ | refine S_seq ?_ | refine E_seq ?_ | refine S_block ?_ | refine E_block_normal ?_ | refine S_skip ?_ | refine S_exit ?_ | refine S_ret ?_ | refine E_then_exit ?_ | refine E_then_ret ?_ | refine E_block_ret ?_ | refine E_block_exit ?_ | refine E_block_exit_other rfl ?_)
  refine S_region ?_
  refine R_cons rfl (op_pure (p_move rfl) rfl ?_)
  refine R_cons rfl (op_call rfl rfl Try.func102 rfl (by kernel_rfl) rfl fun w1 hm => (pieces_any A xs.length c w1).mono ?_)
  rintro e w2 ⟨bx, rfl, hbx, hbo, hbel⟩
  refine ⟨_, _, rfl, hm.call1 (Nat.le_refl _) hbel hbx hbo, ?_⟩
  refine R_nil ?_
  repeat (first | refine S_scope ?_ | refine S_label ?_ | refine E_noGoto_normal ?_ | refine E_noGoto_ret ?_ | refine E_noGoto_exit ?_ | refine S_yes rfl (by first | with_reducible rfl | decide) ?_ | refine S_no rfl (by first | with_reducible rfl | decide) ?_ | refine S_seq ?_ | refine E_seq ?_ | refine S_block ?_ | refine E_block_normal ?_ | refine S_skip ?_ | refine S_exit ?_ | refine S_ret ?_ | refine E_then_exit ?_ | refine E_then_ret ?_ | refine E_block_ret ?_ | refine E_block_exit ?_ | refine E_block_exit_other rfl ?_)
  have hP : ∀ p ∈ cuts xs.length A xs.length c xs, Reads w p.A p.n (bytesV p.xs) ∧ p.xs.length = p.n ∧ p.n ≤ 1024 := cuts_reads _ _ _ _ _ hrd hnc
  have h0 : s % 65536 % 65521 < 65521 ∧ s / 65536 % 65521 < 65521 := ⟨Nat.mod_lt _ (by omega), Nat.mod_lt _ (by omega)⟩
  refine S_range (ps := [17]) (pieces_iter A xs.length c xs bx w.heap.size ⟨w, []⟩ rfl hnc hcm) (Nat.le_refl _) rfl Try.func104 rfl (by kernel_rfl) (fun _ => rfl) rfl
    (fun s : Nat × Nat => [(b5, .cells (bothV s.1 s.2).toArray 165 (0, 0))]) (fun pre t => t = runP (s % 65536 % 65521, s / 65536 % 65521) pre ∧ t.1 < 65521 ∧ t.2 < 65521) (s % 65536 % 65521, s / 65536 % 65521) ⟨rfl, h0.1, h0.2⟩ (Fewer.refl _)
    (fun p => [(6, .slice p.A p.n p.c), (5, .pointer (some ⟨b5, 0, none⟩))]) ?assign ?body ?done
  case assign =>
    intro l Hx p
    repeat (first | refine SI_yes rfl (by first | with_reducible rfl | decide) ?_ | refine SI_no rfl (by first | with_reducible rfl | decide) ?_ | refine SI_seq ?_ | refine EI_seq ?_ | refine SI_block ?_ | refine E_block_normal ?_ | refine SI_skip ?_ | refine SI_exit ?_ | refine SI_ret ?_ | refine E_then_exit ?_ | refine E_then_ret ?_ | refine E_block_ret ?_ | refine E_block_exit ?_ | refine E_block_exit_other rfl ?_)
    refine SI_region ?_
    refine RI_cons rfl (by intro c h; cases h) (op_pure (p_assign rfl) rfl ?_)
    refine RI_nil ?_
    repeat (first | refine SI_yes rfl (by first | with_reducible rfl | decide) ?_ | refine SI_no rfl (by first | with_reducible rfl | decide) ?_ | refine SI_seq ?_ | refine EI_seq ?_ | refine SI_block ?_ | refine E_block_normal ?_ | refine SI_skip ?_ | refine SI_exit ?_ | refine SI_ret ?_ | refine E_then_exit ?_ | refine E_then_ret ?_ | refine E_block_ret ?_ | refine E_block_exit ?_ | refine E_block_exit_other rfl ?_)
    exact EI_end fun a w hf hm => ⟨hf.sub (by repeat (first | exact Sub.nil | refine Sub.cons rfl ?_)), hm⟩
  case body =>
    rintro l Dk Lr Hj pre p t hpre ⟨ht, ht1, ht2⟩
    have hp := hP p (by obtain ⟨q, hq⟩ := hpre; rw [← hq]; simp)
    obtain ⟨hpr, hpl, hpn⟩ := hp
    have hb := adl_lt t.1 t.2 p.xs
    repeat (first | refine SI_yes rfl (by first | with_reducible rfl | decide) ?_ | refine SI_no rfl (by first | with_reducible rfl | decide) ?_ | refine SI_seq ?_ | refine EI_seq ?_ | refine SI_block ?_ | refine E_block_normal ?_ | refine SI_skip ?_ | refine SI_exit ?_ | refine SI_ret ?_ | refine E_then_exit ?_ | refine E_then_ret ?_ | refine E_block_ret ?_ | refine E_block_exit ?_ | refine E_block_exit_other rfl ?_)
    refine SI_region ?_
    refine RI_cons rfl (by intro c h; cases h) (op_pure (by first | exact p_loadRow rfl row_both (by repeat (first | exact List.Mem.head _ | apply List.Mem.tail)) (by first | assumption | rfl | (simp only [bytesV_length, wordsV_length]; omega)) | exact p_loadPart rfl row_both (by repeat (first | exact List.Mem.head _ | apply List.Mem.tail)) (by first | exact Nat.le_of_ble_eq_true rfl | omega | (simp only [bytesV_length, wordsV_length, List.length_cons, List.length_nil, List.length_replicate]; omega) | (simp only [bytesV_length, Sha.sha_length, List.length_replicate] <;> omega)) (by first | assumption | rfl)) rfl ?_)
    refine RI_cons rfl (by intro c h; cases h) (op_pure (p_move rfl) rfl ?_)
    refine RI_cons rfl (by intro c h; cases h) (op_callV (v := .agg (bothV (adl t.1 t.2 p.xs).1 (adl t.1 t.2 p.xs).2).toArray) rfl rfl Try.func103 rfl (by kernel_rfl) rfl (Nat.le_refl _) (fun w' hm => ?_) ?_)
    · have := takes_any t.1 t.2 p.A p.c p.xs w' (by rw [hpl]; exact hpr.base hm) (by omega) (by omega) (by omega)
      rw [hpl] at this
      exact this
    refine RI_cons rfl (by intro c h; cases h) (op_storeRow rfl rfl (by first | exact bytesV_one _ | exact wordsV_one _ | (repeat (first | exact ones_nil | refine ones_cons rfl ?_))) row_both (by first | assumption | rfl | (simp only [bytesV_length, wordsV_length]; omega) | (rw [bytesV_length]; exact Sha.sha_length _)) (by repeat (first | exact At.here | apply At.there)) (by first | exact Nat.le_of_ble_eq_true rfl | omega | (simp only [bytesV_length, wordsV_length, List.length_cons, List.length_nil, List.length_replicate]; omega) | (simp only [bytesV_length, Sha.sha_length, List.length_replicate] <;> omega)) ?_)
    refine RI_nil ?_
    repeat (first | refine SI_yes rfl (by first | with_reducible rfl | decide) ?_ | refine SI_no rfl (by first | with_reducible rfl | decide) ?_ | refine SI_seq ?_ | refine EI_seq ?_ | refine SI_block ?_ | refine E_block_normal ?_ | refine SI_skip ?_ | refine SI_exit ?_ | refine SI_ret ?_ | refine E_then_exit ?_ | refine E_then_ret ?_ | refine E_block_ret ?_ | refine E_block_exit ?_ | refine E_block_exit_other rfl ?_)
    exact E_roundEnd (adl t.1 t.2 p.xs) ⟨by rw [runP_snoc, ← ht], hb.1, hb.2⟩ (Fewer.refl _)
  case done =>
    rintro Dk t ⟨ht, ht1, ht2⟩
    rw [runP_cuts _ _ _ _ _ _ _ (Nat.le_refl _) rfl h0.1 h0.2] at ht
    repeat (first | refine S_scope ?_ | refine S_label ?_ | refine E_noGoto_normal ?_ | refine E_noGoto_ret ?_ | refine E_noGoto_exit ?_ | refine S_yes rfl (by first | with_reducible rfl | decide) ?_ | refine S_no rfl (by first | with_reducible rfl | decide) ?_ | refine S_seq ?_ | refine E_seq ?_ | refine S_block ?_ | refine E_block_normal ?_ | refine S_skip ?_ | refine S_exit ?_ | refine S_ret ?_ | refine E_then_exit ?_ | refine E_then_ret ?_ | refine E_block_ret ?_ | refine E_block_exit ?_ | refine E_block_exit_other rfl ?_)
    refine S_region ?_
    refine R_cons rfl (op_pure (by first | exact p_indexArr0 (j := 1) rfl rfl rfl arr_both (by decide) | exact p_indexArr (j := 1) rfl rfl rfl arr_both (by decide)) rfl ?_)
    refine R_cons rfl (op_pure (by first | exact p_load rfl sc_u64 (by repeat (first | exact List.Mem.head _ | apply List.Mem.tail)) (by first | assumption | exact bytesV_get (by omega) | exact wordsV_get (by omega) | rfl) | exact p_load_base rfl sc_u64 (by assumption) (by simp) (by assumption)) rfl ?_)
    refine R_cons rfl (op_pure (by exact p_bin rfl rfl (b_shl (by decide) (by decide) (shl_nat_u64 _ 16 (by omega)))) rfl ?_)
    refine R_cons rfl (op_pure (by first | exact p_indexArr0 (j := 0) rfl rfl rfl arr_both (by decide) | exact p_indexArr (j := 0) rfl rfl rfl arr_both (by decide)) rfl ?_)
    refine R_cons rfl (op_pure (by first | exact p_load rfl sc_u64 (by repeat (first | exact List.Mem.head _ | apply List.Mem.tail)) (by first | assumption | exact bytesV_get (by omega) | exact wordsV_get (by omega) | rfl) | exact p_load_base rfl sc_u64 (by assumption) (by simp) (by assumption)) rfl ?_)
    refine R_cons rfl (op_pure (by exact p_bin rfl rfl (b_or (or_disj _ _ (by omega) (by omega)))) rfl ?_)
    refine R_cons rfl (op_pure (by exact p_convert rfl sc_u64 ik_u32 (by first | assumption | exact u8_nat _ | exact w8_i64 _ | exact w8_u64 _ | exact w8_u32n _ | exact w32_u64 _ | exact w32_i64 _ | exact w_in_i64 (by omega) | exact w_in_u64 (by omega) | exact w_in_u32 (by omega))) rfl ?_)
    refine R_cons rfl (op_pure (p_assign rfl) rfl ?_)
    refine R_nil ?_
    repeat (first | refine S_scope ?_ | refine S_label ?_ | refine E_noGoto_normal ?_ | refine E_noGoto_ret ?_ | refine E_noGoto_exit ?_ | refine S_yes rfl (by first | with_reducible rfl | decide) ?_ | refine S_no rfl (by first | with_reducible rfl | decide) ?_ | refine S_seq ?_ | refine E_seq ?_ | refine S_block ?_ | refine E_block_normal ?_ | refine S_skip ?_ | refine S_exit ?_ | refine S_ret ?_ | refine E_then_exit ?_ | refine E_then_ret ?_ | refine E_block_ret ?_ | refine E_block_exit ?_ | refine E_block_exit_other rfl ?_)
    exact E_retM1 rfl rfl (by repeat (first | exact At.here | apply At.there)) fun w' hm => ⟨by rw [ht]; rfl, hm.below⟩
theorem of_any (A : Option Addr) (n c : Nat) (xs : List UInt8) (w : World) (hl : xs.length = n) (hrd : Reads w A n (bytesV xs)) (hnc : n ≤ c) (hcm : c ≤ maxLen) :
    Calls Try.prog 86 [.slice A n c].toArray w fun e w' => e = .returned (.int .u32 (onNat 1 xs : Int)) ∧ Below w.heap.size w w' := by
  refine enter Try.func86 rfl Try.ntmps86 (by simp) ?_
  repeat (first | refine S_scope ?_ | refine S_label ?_ | refine E_noGoto_normal ?_ | refine E_noGoto_ret ?_ | refine E_noGoto_exit ?_ | refine S_yes rfl (by first | with_reducible rfl | decide) ?_ | refine S_no rfl (by first | with_reducible rfl | decide) ?_ | refine S_seq ?_ | refine E_seq ?_ | refine S_block ?_ | refine E_block_normal ?_ | refine S_skip ?_ | refine S_exit ?_ | refine S_ret ?_ | refine E_then_exit ?_ | refine E_then_ret ?_ | refine E_block_ret ?_ | refine E_block_exit ?_ | refine E_block_exit_other rfl ?_)
  refine S_region ?_
  refine R_cons rfl (op_pure (p_assign rfl) rfl ?_)
  refine R_nil ?_
  repeat (first | refine S_scope ?_ | refine S_label ?_ | refine E_noGoto_normal ?_ | refine E_noGoto_ret ?_ | refine E_noGoto_exit ?_ | refine S_yes rfl (by first | with_reducible rfl | decide) ?_ | refine S_no rfl (by first | with_reducible rfl | decide) ?_ | refine S_seq ?_ | refine E_seq ?_ | refine S_block ?_ | refine E_block_normal ?_ | refine S_skip ?_ | refine S_exit ?_ | refine S_ret ?_ | refine E_then_exit ?_ | refine E_then_ret ?_ | refine E_block_ret ?_ | refine E_block_exit ?_ | refine E_block_exit_other rfl ?_)
  refine S_region ?_
  refine R_cons rfl (op_pure (p_move rfl) rfl ?_)
  refine R_cons rfl (op_callV rfl rfl Try.func97 rfl (by kernel_rfl) rfl (Nat.le_refl _) (fun w' hm => on_any 1 (by decide) A n c xs w' hl (hrd.base hm) hnc hcm) ?_)
  refine R_cons rfl (op_pure (p_assign rfl) rfl ?_)
  refine R_nil ?_
  repeat (first | refine S_scope ?_ | refine S_label ?_ | refine E_noGoto_normal ?_ | refine E_noGoto_ret ?_ | refine E_noGoto_exit ?_ | refine S_yes rfl (by first | with_reducible rfl | decide) ?_ | refine S_no rfl (by first | with_reducible rfl | decide) ?_ | refine S_seq ?_ | refine E_seq ?_ | refine S_block ?_ | refine E_block_normal ?_ | refine S_skip ?_ | refine S_exit ?_ | refine S_ret ?_ | refine E_then_exit ?_ | refine E_then_ret ?_ | refine E_block_ret ?_ | refine E_block_exit ?_ | refine E_block_exit_other rfl ?_)
  exact E_ret1 rfl rfl fun w' hm => ⟨rfl, hm.below⟩
theorem adl_snoc (x y : Nat) (l : List UInt8) (b : UInt8) : adl x y (l ++ [b]) = (((adl x y l).1 + b.toNat) % 65521, ((adl x y l).2 + ((adl x y l).1 + b.toNat) % 65521) % 65521) := by
  rw [adl_append]
  simp only [adl, exact, Prod.mk.injEq, true_and]
  omega
theorem refOn_any (s : Nat) (hs : s < 4294967296) (A : Option Addr) (n c : Nat) (xs : List UInt8) (w : World) (hl : xs.length = n) (hrd : Reads w A n (bytesV xs)) (hnc : n ≤ c) (hcm : c ≤ maxLen) :
    Calls Try.prog 98 [.int .u32 (s : Int), .slice A n c].toArray w fun e w' => e = .returned (.int .u32 (onNat s xs : Int)) ∧ Below w.heap.size w w' := by
  subst hl
  have hcm' := hcm
  unfold maxLen at hcm'
  refine enter Try.func98 rfl Try.ntmps98 (by simp) ?_
  repeat (first | refine S_scope ?_ | refine S_label ?_ | refine E_noGoto_normal ?_ | refine E_noGoto_ret ?_ | refine E_noGoto_exit ?_ | refine S_yes rfl (by first | with_reducible rfl | decide) ?_ | refine S_no rfl (by first | with_reducible rfl | decide) ?_ | refine S_seq ?_ | refine E_seq ?_ | refine S_block ?_ | refine E_block_normal ?_ | refine S_skip ?_ | refine S_exit ?_ | refine S_ret ?_ | refine E_then_exit ?_ | refine E_then_ret ?_ | refine E_block_ret ?_ | refine E_block_exit ?_ | refine E_block_exit_other rfl ?_)
  refine S_region ?_
  refine R_cons rfl (op_pure (p_assign rfl) rfl ?_)
  refine R_nil ?_
  repeat (first | refine S_scope ?_ | refine S_label ?_ | refine E_noGoto_normal ?_ | refine E_noGoto_ret ?_ | refine E_noGoto_exit ?_ | refine S_yes rfl (by first | with_reducible rfl | decide) ?_ | refine S_no rfl (by first | with_reducible rfl | decide) ?_ | refine S_seq ?_ | refine E_seq ?_ | refine S_block ?_ | refine E_block_normal ?_ | refine S_skip ?_ | refine S_exit ?_ | refine S_ret ?_ | refine E_then_exit ?_ | refine E_then_ret ?_ | refine E_block_ret ?_ | refine E_block_exit ?_ | refine E_block_exit_other rfl ?_)
  refine S_region ?_
  refine R_cons rfl (op_pure (p_move rfl) rfl ?_)
  refine R_cons rfl (op_pure (by first | exact p_bin rfl rfl (b_rem (by decide) (nat_rem _ 65536)) | exact p_bin rfl rfl (b_rem (by decide) (int_rem (by omega)))) rfl ?_)
  refine R_cons rfl (op_pure (by first | exact p_bin rfl rfl (b_rem (by decide) (nat_rem _ 65521)) | exact p_bin rfl rfl (b_rem (by decide) (int_rem (by omega)))) rfl ?_)
  refine R_cons rfl (op_pure (p_assign rfl) rfl ?_)
  refine R_nil ?_
  repeat (first | refine S_scope ?_ | refine S_label ?_ | refine E_noGoto_normal ?_ | refine E_noGoto_ret ?_ | refine E_noGoto_exit ?_ | refine S_yes rfl (by first | with_reducible rfl | decide) ?_ | refine S_no rfl (by first | with_reducible rfl | decide) ?_ | refine S_seq ?_ | refine E_seq ?_ | refine S_block ?_ | refine E_block_normal ?_ | refine S_skip ?_ | refine S_exit ?_ | refine S_ret ?_ | refine E_then_exit ?_ | refine E_then_ret ?_ | refine E_block_ret ?_ | refine E_block_exit ?_ | refine E_block_exit_other rfl ?_)
  refine S_region ?_
  refine R_cons rfl (op_pure (p_move rfl) rfl ?_)
  refine R_cons rfl (op_pure (by exact p_bin rfl rfl (b_quo (by decide) (nat_quo_u32 _ 65536 (by omega)))) rfl ?_)
  refine R_cons rfl (op_pure (by first | exact p_bin rfl rfl (b_rem (by decide) (nat_rem _ 65521)) | exact p_bin rfl rfl (b_rem (by decide) (int_rem (by omega)))) rfl ?_)
  refine R_cons rfl (op_pure (p_assign rfl) rfl ?_)
  refine R_nil ?_
  repeat (first | refine S_scope ?_ | refine S_label ?_ | refine E_noGoto_normal ?_ | refine E_noGoto_ret ?_ | refine E_noGoto_exit ?_ | refine S_yes rfl (by first | with_reducible rfl | decide) ?_ | refine S_no rfl (by first | with_reducible rfl | decide) ?_ | refine S_seq ?_ | refine E_seq ?_ | refine S_block ?_ | refine E_block_normal ?_ | refine S_skip ?_ | refine S_exit ?_ | refine S_ret ?_ | refine E_then_exit ?_ | refine E_then_ret ?_ | refine E_block_ret ?_ | refine E_block_exit ?_ | refine E_block_exit_other rfl ?_)
  refine S_region ?_
  refine R_cons rfl (op_pure (p_assign rfl) rfl ?_)
  refine R_nil ?_
  repeat (first | refine S_scope ?_ | refine S_label ?_ | refine E_noGoto_normal ?_ | refine E_noGoto_ret ?_ | refine E_noGoto_exit ?_ | refine S_yes rfl (by first | with_reducible rfl | decide) ?_ | refine S_no rfl (by first | with_reducible rfl | decide) ?_ | refine S_seq ?_ | refine E_seq ?_ | refine S_block ?_ | refine E_block_normal ?_ | refine S_skip ?_ | refine S_exit ?_ | refine S_ret ?_ | refine E_then_exit ?_ | refine E_then_ret ?_ | refine E_block_ret ?_ | refine E_block_exit ?_ | refine E_block_exit_other rfl ?_)
  obtain ⟨x, hx⟩ : ∃ x, s % 65536 % 65521 = x := ⟨_, rfl⟩
  obtain ⟨y, hy⟩ : ∃ y, s / 65536 % 65521 = y := ⟨_, rfl⟩
  refine S_loop (fun k : Nat => [(7, .int .i64 (k : Int)), (6, .int .u32 ((adl x y (xs.take k)).2 : Int)), (5, .int .u32 ((adl x y (xs.take k)).1 : Int)), (1, .slice A xs.length c)]) (fun _ => [])
    (fun k => k ≤ xs.length) (fun k => xs.length - k) 0 (by omega) ?_ (Fewer.refl _) ?_
  · have h1 : x % 65521 = x := by omega
    have h2 : y % 65521 = y := by omega
    refine Sub.cons rfl (Sub.cons ?_ (Sub.cons ?_ (Sub.cons rfl Sub.nil)))
    · show some _ = some _
      simp [adl, exact, h2, ← hy]
    · show some _ = some _
      simp [adl, exact, h1, ← hx]
  intro k hk
  have hb := adl_lt x y (xs.take k)
  repeat (first | refine S_scope ?_ | refine S_label ?_ | refine E_noGoto_normal ?_ | refine E_noGoto_ret ?_ | refine E_noGoto_exit ?_ | refine S_yes rfl (by first | with_reducible rfl | decide) ?_ | refine S_no rfl (by first | with_reducible rfl | decide) ?_ | refine S_seq ?_ | refine E_seq ?_ | refine S_block ?_ | refine E_block_normal ?_ | refine S_skip ?_ | refine S_exit ?_ | refine S_ret ?_ | refine E_then_exit ?_ | refine E_then_ret ?_ | refine E_block_ret ?_ | refine E_block_exit ?_ | refine E_block_exit_other rfl ?_)
  refine S_region ?_
  refine R_cons rfl (op_pure (p_move rfl) rfl ?_)
  refine R_cons rfl (op_pure (p_move rfl) rfl ?_)
  refine R_cons rfl (op_pure (p_len rfl slc_u8s) rfl ?_)
  refine R_cons rfl (op_pure (p_bin rfl rfl (b_lss (by first | assumption | exact decide_eq_true (by omega) | exact decide_eq_false (by omega) | rfl))) rfl ?_)
  refine R_nil ?_
  repeat (first | refine S_scope ?_ | refine S_label ?_ | refine E_noGoto_normal ?_ | refine E_noGoto_ret ?_ | refine E_noGoto_exit ?_ | refine S_yes rfl (by first | with_reducible rfl | decide) ?_ | refine S_no rfl (by first | with_reducible rfl | decide) ?_ | refine S_seq ?_ | refine E_seq ?_ | refine S_block ?_ | refine E_block_normal ?_ | refine S_skip ?_ | refine S_exit ?_ | refine S_ret ?_ | refine E_then_exit ?_ | refine E_then_ret ?_ | refine E_block_ret ?_ | refine E_block_exit ?_ | refine E_block_exit_other rfl ?_)
  refine S_cond rfl (fun hlt => ?_) (fun hge => ?_)
  · have hlt' : k < xs.length := by simpa using hlt
    obtain ⟨b, off, rfl, hb', hcell⟩ := hrd.2 (by omega)
    have hc := hcell k _ (bytesV_get hlt')
    have h8 := b_lt (xs.getD k 0)
    have hts := adl_snoc x y (xs.take k) (xs.getD k 0)
    rw [← take_snoc xs k hlt'] at hts
    generalize he : adl x y (xs.take k) = ex at *
    repeat (first | refine S_scope ?_ | refine S_label ?_ | refine E_noGoto_normal ?_ | refine E_noGoto_ret ?_ | refine E_noGoto_exit ?_ | refine S_yes rfl (by first | with_reducible rfl | decide) ?_ | refine S_no rfl (by first | with_reducible rfl | decide) ?_ | refine S_seq ?_ | refine E_seq ?_ | refine S_block ?_ | refine E_block_normal ?_ | refine S_skip ?_ | refine S_exit ?_ | refine S_ret ?_ | refine E_then_exit ?_ | refine E_then_ret ?_ | refine E_block_ret ?_ | refine E_block_exit ?_ | refine E_block_exit_other rfl ?_)
    refine S_region ?_
    refine R_cons rfl (op_pure (p_move rfl) rfl ?_)
    refine R_cons rfl (op_pure (p_move rfl) rfl ?_)
    refine R_cons rfl (op_pure (p_move rfl) rfl ?_)
    refine R_cons rfl (op_pure (by exact p_indexSl rfl rfl (by repeat (first | assumption | exact lit0 | exact lit1 | apply IntWalk.up_add | apply IntWalk.up_div | apply IntWalk.up_mod | apply IntWalk.up_mul | rfl)) slc_u8s (by omega)) rfl ?_)
    refine R_cons rfl (op_pure (by first | exact p_load rfl sc_u8 (by repeat (first | exact List.Mem.head _ | apply List.Mem.tail)) (by first | assumption | exact bytesV_get (by omega) | exact wordsV_get (by omega) | rfl) | exact p_load_base rfl sc_u8 (by assumption) (by simp) (by assumption)) rfl ?_)
    refine R_cons rfl (op_pure (by exact p_convert rfl sc_u8 ik_u32 (by first | assumption | exact u8_nat _ | exact w8_i64 _ | exact w8_u64 _ | exact w8_u32n _ | exact w32_u64 _ | exact w32_i64 _ | exact w_in_i64 (by omega) | exact w_in_u64 (by omega) | exact w_in_u32 (by omega))) rfl ?_)
    refine R_cons rfl (op_pure (by first | exact p_bin rfl rfl (b_add (k32_add _ _)) | exact p_bin rfl rfl (b_add (nat_add_u32 (by omega))) | exact p_bin rfl rfl (b_add (w_in_u32 (by omega)))) rfl ?_)
    refine R_cons rfl (op_pure (by first | exact p_bin rfl rfl (b_rem (by decide) (nat_rem _ 65521)) | exact p_bin rfl rfl (b_rem (by decide) (int_rem (by omega)))) rfl ?_)
    refine R_cons rfl (op_pure (p_assign rfl) rfl ?_)
    refine R_nil ?_
    repeat (first | refine S_scope ?_ | refine S_label ?_ | refine E_noGoto_normal ?_ | refine E_noGoto_ret ?_ | refine E_noGoto_exit ?_ | refine S_yes rfl (by first | with_reducible rfl | decide) ?_ | refine S_no rfl (by first | with_reducible rfl | decide) ?_ | refine S_seq ?_ | refine E_seq ?_ | refine S_block ?_ | refine E_block_normal ?_ | refine S_skip ?_ | refine S_exit ?_ | refine S_ret ?_ | refine E_then_exit ?_ | refine E_then_ret ?_ | refine E_block_ret ?_ | refine E_block_exit ?_ | refine E_block_exit_other rfl ?_)
    refine S_region ?_
    refine R_cons rfl (op_pure (p_move rfl) rfl ?_)
    refine R_cons rfl (op_pure (p_move rfl) rfl ?_)
    refine R_cons rfl (op_pure (by first | exact p_bin rfl rfl (b_add (k32_add _ _)) | exact p_bin rfl rfl (b_add (nat_add_u32 (by omega))) | exact p_bin rfl rfl (b_add (w_in_u32 (by omega)))) rfl ?_)
    refine R_cons rfl (op_pure (by first | exact p_bin rfl rfl (b_rem (by decide) (nat_rem _ 65521)) | exact p_bin rfl rfl (b_rem (by decide) (int_rem (by omega)))) rfl ?_)
    refine R_cons rfl (op_pure (p_assign rfl) rfl ?_)
    refine R_nil ?_
    repeat (first | refine S_scope ?_ | refine S_label ?_ | refine E_noGoto_normal ?_ | refine E_noGoto_ret ?_ | refine E_noGoto_exit ?_ | refine S_yes rfl (by first | with_reducible rfl | decide) ?_ | refine S_no rfl (by first | with_reducible rfl | decide) ?_ | refine S_seq ?_ | refine E_seq ?_ | refine S_block ?_ | refine E_block_normal ?_ | refine S_skip ?_ | refine S_exit ?_ | refine S_ret ?_ | refine E_then_exit ?_ | refine E_then_ret ?_ | refine E_block_ret ?_ | refine E_block_exit ?_ | refine E_block_exit_other rfl ?_)
    refine S_region ?_
    refine R_cons rfl (op_pure (p_move rfl) rfl ?_)
    refine R_cons rfl (op_pure (by exact p_bin rfl rfl (b_add (w_in_i64 (by omega)))) rfl ?_)
    refine R_cons rfl (op_pure (p_assign rfl) rfl ?_)
    refine R_nil ?_
    repeat (first | refine S_scope ?_ | refine S_label ?_ | refine E_noGoto_normal ?_ | refine E_noGoto_ret ?_ | refine E_noGoto_exit ?_ | refine S_yes rfl (by first | with_reducible rfl | decide) ?_ | refine S_no rfl (by first | with_reducible rfl | decide) ?_ | refine S_seq ?_ | refine E_seq ?_ | refine S_block ?_ | refine E_block_normal ?_ | refine S_skip ?_ | refine S_exit ?_ | refine S_ret ?_ | refine E_then_exit ?_ | refine E_then_ret ?_ | refine E_block_ret ?_ | refine E_block_exit ?_ | refine E_block_exit_other rfl ?_)
    exact E_round (k + 1) (by omega) (by omega) (Sub.cons rfl (Sub.cons (by rw [hts]; rfl) (Sub.cons (by rw [hts]; rfl) (Sub.cons rfl Sub.nil)))) (Fewer.refl _)
  · have hge' : xs.length ≤ k := by simpa using hge
    rw [List.take_of_length_le hge'] at *
    repeat (first | refine S_scope ?_ | refine S_label ?_ | refine E_noGoto_normal ?_ | refine E_noGoto_ret ?_ | refine E_noGoto_exit ?_ | refine S_yes rfl (by first | with_reducible rfl | decide) ?_ | refine S_no rfl (by first | with_reducible rfl | decide) ?_ | refine S_seq ?_ | refine E_seq ?_ | refine S_block ?_ | refine E_block_normal ?_ | refine S_skip ?_ | refine S_exit ?_ | refine S_ret ?_ | refine E_then_exit ?_ | refine E_then_ret ?_ | refine E_block_ret ?_ | refine E_block_exit ?_ | refine E_block_exit_other rfl ?_)
    refine S_region ?_
    refine R_cons rfl (op_pure (p_move rfl) rfl ?_)
    refine R_cons rfl (op_pure (by exact p_bin rfl rfl (b_mul (nat_mul_u32 _ 65536 (by omega)))) rfl ?_)
    refine R_cons rfl (op_pure (p_move rfl) rfl ?_)
    refine R_cons rfl (op_pure (by first | exact p_bin rfl rfl (b_add (k32_add _ _)) | exact p_bin rfl rfl (b_add (nat_add_u32 (by omega))) | exact p_bin rfl rfl (b_add (w_in_u32 (by omega)))) rfl ?_)
    refine R_cons rfl (op_pure (p_assign rfl) rfl ?_)
    refine R_nil ?_
    repeat (first | refine S_scope ?_ | refine S_label ?_ | refine E_noGoto_normal ?_ | refine E_noGoto_ret ?_ | refine E_noGoto_exit ?_ | refine S_yes rfl (by first | with_reducible rfl | decide) ?_ | refine S_no rfl (by first | with_reducible rfl | decide) ?_ | refine S_seq ?_ | refine E_seq ?_ | refine S_block ?_ | refine E_block_normal ?_ | refine S_skip ?_ | refine S_exit ?_ | refine S_ret ?_ | refine E_then_exit ?_ | refine E_then_ret ?_ | refine E_block_ret ?_ | refine E_block_exit ?_ | refine E_block_exit_other rfl ?_)
    exact E_ret1 rfl rfl fun w' hm => ⟨by unfold onNat; rw [hx, hy], hm.below⟩
end Go.Proofs.Ytfdlafjifjndeaa
