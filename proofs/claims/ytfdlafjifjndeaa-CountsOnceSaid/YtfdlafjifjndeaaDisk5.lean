
/-
  The layer disks: a disk that fails.
-/
import Derived.Test.YtfdlafjifjndeaaDisk4
import Derived.Test.YtfdlafjifjndeaaK28
namespace Go.Proofs.Ytfdlafjifjndeaa
open Go.RowKit Go.K
attribute [local irreducible] Exit.then Exit.inBlock Exit.noGoto bodyPost Code.wp QL Sx Rx Qx Ex Dx Op1 Pure1 Still1 K.Sub Calm Code.wpIn
set_option linter.unusedVariables false
theorem slc_bool : Slc Try.prog 60 4 := ⟨Try.underlying60, sc_bool⟩
attribute [local irreducible] secV leftS blownS

set_option maxHeartbeats 1000000 in
theorem dfail_nil (bd bs n cs : Nat) (vn : Value) (left : Int) (bl : Bool) (sure : List (List UInt8)) (sps : List Value) (hS : Secs sure) (hsl : sure.length = n) (hn : n ≠ 0) (hn2 : n ≤ 4096) (A : Option Addr) (m c : Nat) (w : World)
    (hb : w.heap[bd]? = some (.cells (diskC (.slice (some ⟨bs, 0, none⟩) n cs) vn (.slice none 0 0) left bl).toArray 113 (0, 0))) (hbs : w.heap[bs]? = some (.cells (secV sure ++ sps).toArray 115 (0, 0))) :
    Calls Try.prog 26 [.pointer (some ⟨bd, 0, none⟩), .slice A m c].toArray w fun e w' => ∃ s : Nat × Nat × Nat × Nat × Nat × List Value × List Value, e = .returned (Value.tuple ([Value.pointer (some ⟨s.1, 0, none⟩), Value.int .i64 0] : List Value).toArray) ∧ Mem w.heap.size ⟨w, []⟩ [(s.1, .cells (diskC (.slice (some ⟨s.2.1, 0, none⟩) n s.2.2.1) (.slice (some ⟨s.2.2.2.1, 0, none⟩) n s.2.2.2.2.1) (.slice none 0 0) (-1) false).toArray 113 (0, 0)), (s.2.1, .cells (secV sure ++ s.2.2.2.2.2.1).toArray 115 (0, 0)), (s.2.2.2.1, .cells (secV sure ++ s.2.2.2.2.2.2).toArray 115 (0, 0))] w' ∧ True := by
  have hbl := (Array.getElem?_eq_some_iff.1 hb).1
  have c0 : w.cell? ⟨bd, 0, none⟩ = some (.slice (some ⟨bs, 0, none⟩) n cs) := by rw [cell_of_row w bd 0 _ _ _ hb]; rfl
  have c2 : w.cell? ⟨bd, 2, none⟩ = some (.slice none 0 0) := by rw [cell_of_row w bd 2 _ _ _ hb]; rfl
  have hmin : (if (m : Int) < 0 then (m : Int) else 0) = ((0 : Nat) : Int) := if_neg (by omega)
  refine enter Try.func26 rfl Try.ntmps26 (by simp) ?_
  repeat (first | refine S_scope ?_ | refine S_label ?_ | refine E_noGoto_normal ?_ | refine E_noGoto_ret ?_ | refine E_noGoto_exit ?_ | refine S_yes rfl (by first | with_reducible rfl | decide) ?_ | refine S_no rfl (by first | with_reducible rfl | decide) ?_ | refine S_seq ?_ | refine E_seq ?_ | refine S_block ?_ | refine E_block_normal ?_ | refine S_skip ?_ | refine S_exit ?_ | refine S_ret ?_ | refine E_then_exit ?_ | refine E_then_ret ?_ | refine E_block_ret ?_ | refine E_block_exit ?_ | refine E_block_exit_other rfl ?_)
  refine S_region ?_
  refine R_cons rfl (op_pure (p_assign rfl) rfl ?_)
  refine R_cons rfl (op_pure (p_assign rfl) rfl ?_)
  refine R_nil ?_
  repeat (first | refine S_scope ?_ | refine S_label ?_ | refine E_noGoto_normal ?_ | refine E_noGoto_ret ?_ | refine E_noGoto_exit ?_ | refine S_yes rfl (by first | with_reducible rfl | decide) ?_ | refine S_no rfl (by first | with_reducible rfl | decide) ?_ | refine S_seq ?_ | refine E_seq ?_ | refine S_block ?_ | refine E_block_normal ?_ | refine S_skip ?_ | refine S_exit ?_ | refine S_ret ?_ | refine E_then_exit ?_ | refine E_then_ret ?_ | refine E_block_ret ?_ | refine E_block_exit ?_ | refine E_block_exit_other rfl ?_)
  refine S_region ?_
  refine R_cons rfl (op_pure (p_move rfl) rfl ?_)
  refine R_cons rfl (op_callV rfl rfl Try.func62 rfl (by kernel_rfl) rfl (Nat.le_refl _) (fun w' hm => dnone_any bd n cs _ _ _ left bl hn w' (below_block hm.below hb)) ?_)
  refine R_nil ?_
  repeat (first | refine S_scope ?_ | refine S_label ?_ | refine E_noGoto_normal ?_ | refine E_noGoto_ret ?_ | refine E_noGoto_exit ?_ | refine S_yes rfl (by first | with_reducible rfl | decide) ?_ | refine S_no rfl (by first | with_reducible rfl | decide) ?_ | refine S_seq ?_ | refine E_seq ?_ | refine S_block ?_ | refine E_block_normal ?_ | refine S_skip ?_ | refine S_exit ?_ | refine S_ret ?_ | refine E_then_exit ?_ | refine E_then_ret ?_ | refine E_block_ret ?_ | refine E_block_exit ?_ | refine E_block_exit_other rfl ?_)
  refine S_region ?_
  refine R_cons rfl (op_pure (p_move rfl) rfl ?_)
  refine R_cons rfl (op_pure (p_nilCheck rfl) rfl ?_)
  refine R_cons rfl (op_pure (by first | exact p_fieldAddr0 rfl fd_disks_Disk_0 | exact p_fieldAddr rfl fd_disks_Disk_0) rfl ?_)
  refine R_cons rfl (op_pure (p_load_base rfl sc_disks_sector hbl (by simp) c0) rfl ?_)
  refine R_cons rfl (op_call rfl rfl Try.func64 rfl (by kernel_rfl) rfl fun w1 hm1 => (dclone_any bs n cs sure sps hS hsl hn hn2 w1 (below_block hm1.below hbs)).mono ?_)
  rintro e w2 ⟨g, cap, sp', rfl, hg, hgo, hcap, hbel⟩
  refine ⟨_, _, rfl, hm1.call1 (Nat.le_refl _) hbel hg hgo, ?_⟩
  clear hm1 hbel hg hgo w1 w2
  refine R_cons rfl (op_pure (p_assign rfl) rfl ?_)
  refine R_nil ?_
  repeat (first | refine S_scope ?_ | refine S_label ?_ | refine E_noGoto_normal ?_ | refine E_noGoto_ret ?_ | refine E_noGoto_exit ?_ | refine S_yes rfl (by first | with_reducible rfl | decide) ?_ | refine S_no rfl (by first | with_reducible rfl | decide) ?_ | refine S_seq ?_ | refine E_seq ?_ | refine S_block ?_ | refine E_block_normal ?_ | refine S_skip ?_ | refine S_exit ?_ | refine S_ret ?_ | refine E_then_exit ?_ | refine E_then_ret ?_ | refine E_block_ret ?_ | refine E_block_exit ?_ | refine E_block_exit_other rfl ?_)
  refine S_quiet (by kernel_rfl) (by kernel_rfl) ?_
  refine Q_cons (Still1.of_pure (p_move rfl)) rfl ?_
  refine Q_cons (Still1.of_pure (p_nilCheck rfl)) rfl ?_
  refine Q_cons (Still1.of_pure (by first | exact p_fieldAddr0 rfl fd_disks_Disk_2 | exact p_fieldAddr rfl fd_disks_Disk_2)) rfl ?_
  refine Q_cons (Still1.of_pure (p_load_base rfl sc_disks_write hbl (by simp) c2)) rfl ?_
  refine Q_cons (Still1.of_pure (p_move rfl)) rfl ?_
  refine Q_cons (Still1.of_pure (p_nilCheck rfl)) rfl ?_
  refine Q_cons (Still1.of_pure (by first | exact p_fieldAddr0 rfl fd_disks_Disk_2 | exact p_fieldAddr rfl fd_disks_Disk_2)) rfl ?_
  refine Q_cons (Still1.of_pure (p_load_base rfl sc_disks_write hbl (by simp) c2)) rfl ?_
  refine Q_cons (Still1.of_pure (p_lenR rfl slr_disks_write)) rfl ?_
  refine Q_cons (Still1.of_pure (p_move rfl)) rfl ?_
  refine Q_cons (Still1.of_pure (p_len rfl slc_bool)) rfl ?_
  refine Q_cons (Still1.of_pure (p_min2 rfl rfl hmin)) rfl ?_
  refine Q_cons (Still1.of_pure (p_sliceToR (h := 0) rfl rfl rfl slr_disks_write (Nat.le_refl 0))) rfl ?_
  refine Q_cons (Still1.of_pure (p_lenR rfl slr_disks_write)) rfl ?_
  refine Q_cons (Still1.of_pure (p_move rfl)) rfl ?_
  refine Q_nil ?_
  repeat (first | refine S_scope ?_ | refine S_label ?_ | refine E_noGoto_normal ?_ | refine E_noGoto_ret ?_ | refine E_noGoto_exit ?_ | refine S_yes rfl (by first | with_reducible rfl | decide) ?_ | refine S_no rfl (by first | with_reducible rfl | decide) ?_ | refine S_seq ?_ | refine E_seq ?_ | refine S_block ?_ | refine E_block_normal ?_ | refine S_skip ?_ | refine S_exit ?_ | refine S_ret ?_ | refine E_then_exit ?_ | refine E_then_ret ?_ | refine E_block_ret ?_ | refine E_block_exit ?_ | refine E_block_exit_other rfl ?_)
  refine S_loop (fun _ : Unit => [(30, .int .i64 0), (29, .int .i64 ((0 : Nat) : Int)), (6, .slice (some ⟨g, 0, none⟩) n cap)]) (fun _ => [(g, .cells (secV sure ++ sp').toArray 115 (0, 0))]) (fun _ => True) (fun _ => 0) () trivial (by repeat (first | exact Sub.nil | refine Sub.cons rfl ?_)) (Fewer.refl _) ?_
  intro _ _
  repeat (first | refine S_scope ?_ | refine S_label ?_ | refine E_noGoto_normal ?_ | refine E_noGoto_ret ?_ | refine E_noGoto_exit ?_ | refine S_yes rfl (by first | with_reducible rfl | decide) ?_ | refine S_no rfl (by first | with_reducible rfl | decide) ?_ | refine S_seq ?_ | refine E_seq ?_ | refine S_block ?_ | refine E_block_normal ?_ | refine S_skip ?_ | refine S_exit ?_ | refine S_ret ?_ | refine E_then_exit ?_ | refine E_then_ret ?_ | refine E_block_ret ?_ | refine E_block_exit ?_ | refine E_block_exit_other rfl ?_)
  refine S_region ?_
  refine R_cons rfl (op_pure (p_bin rfl rfl (b_lss (by first | assumption | exact decide_eq_true (by omega) | exact decide_eq_false (by omega) | rfl))) rfl ?_)
  refine R_nil ?_
  repeat (first | refine S_scope ?_ | refine S_label ?_ | refine E_noGoto_normal ?_ | refine E_noGoto_ret ?_ | refine E_noGoto_exit ?_ | refine S_yes rfl (by first | with_reducible rfl | decide) ?_ | refine S_no rfl (by first | with_reducible rfl | decide) ?_ | refine S_seq ?_ | refine E_seq ?_ | refine S_block ?_ | refine E_block_normal ?_ | refine S_skip ?_ | refine S_exit ?_ | refine S_ret ?_ | refine E_then_exit ?_ | refine E_then_ret ?_ | refine E_block_ret ?_ | refine E_block_exit ?_ | refine E_block_exit_other rfl ?_)
  refine S_region ?_
  refine R_cons rfl (op_pure (p_move rfl) rfl ?_)
  refine R_cons rfl (op_callH (Hc := [(g, .cells (secV sure ++ sp').toArray 115 (0, 0))]) (K := []) rfl rfl Try.func51 rfl (by kernel_rfl) rfl (List.Perm.refl _) (fun w' hm => dof_any g n cap sure sp' hS hsl hn hn2 w' (by exact hm)) (fun v H' hp => ?_))
  obtain ⟨bd2, bn2, cn2, spn2, rfl, _, rfl⟩ := hp
  refine R_cons rfl (op_pure (p_assign rfl) rfl ?_)
  refine R_cons rfl (op_pure (p_assign rfl) rfl ?_)
  refine R_nil ?_
  repeat (first | refine S_scope ?_ | refine S_label ?_ | refine E_noGoto_normal ?_ | refine E_noGoto_ret ?_ | refine E_noGoto_exit ?_ | refine S_yes rfl (by first | with_reducible rfl | decide) ?_ | refine S_no rfl (by first | with_reducible rfl | decide) ?_ | refine S_seq ?_ | refine E_seq ?_ | refine S_block ?_ | refine E_block_normal ?_ | refine S_skip ?_ | refine S_exit ?_ | refine S_ret ?_ | refine E_then_exit ?_ | refine E_then_ret ?_ | refine E_block_ret ?_ | refine E_block_exit ?_ | refine E_block_exit_other rfl ?_)
  exact E_ret2 rfl rfl rfl fun w' hm => ⟨(bd2, g, cap, bn2, cn2, sp', spn2), rfl, hm, trivial⟩

set_option maxHeartbeats 1000000 in
theorem dfail_one (bd bs bw n cs cw : Nat) (vn : Value) (left : Int) (bl : Bool) (sure : List (List UInt8)) (sps spw : List Value) (hS : Secs sure) (hsl : sure.length = n) (hn : n ≠ 0) (hn2 : n ≤ 4096) (i : Nat) (hi : i < n) (x : List UInt8) (hx : x.length = 64) (hcw : 1 ≤ cw) (A : Option Addr) (c : Nat) (l : List Bool) (w : World)
    (hrd : Reads w A l.length (boolsV l)) (hb : w.heap[bd]? = some (.cells (diskC (.slice (some ⟨bs, 0, none⟩) n cs) vn (.slice (some ⟨bw, 0, none⟩) 1 cw) left bl).toArray 113 (0, 0))) (hbs : w.heap[bs]? = some (.cells (secV sure ++ sps).toArray 115 (0, 0))) (hbw : w.heap[bw]? = some (.cells ((Value.int .i64 (i : Int) :: bytesV x) ++ spw).toArray 120 (0, 0))) :
    Calls Try.prog 26 [.pointer (some ⟨bd, 0, none⟩), .slice A l.length c].toArray w fun e w' => ∃ s : Nat × Nat × Nat × Nat × Nat × List Value × List Value, e = .returned (Value.tuple ([Value.pointer (some ⟨s.1, 0, none⟩), Value.int .i64 0] : List Value).toArray) ∧ Mem w.heap.size ⟨w, []⟩ [(s.1, .cells (diskC (.slice (some ⟨s.2.1, 0, none⟩) n s.2.2.1) (.slice (some ⟨s.2.2.2.1, 0, none⟩) n s.2.2.2.2.1) (.slice none 0 0) (-1) false).toArray 113 (0, 0)), (s.2.1, .cells (secV (if l.getD 0 false then sure.set i x else sure) ++ s.2.2.2.2.2.1).toArray 115 (0, 0)), (s.2.2.2.1, .cells (secV (if l.getD 0 false then sure.set i x else sure) ++ s.2.2.2.2.2.2).toArray 115 (0, 0))] w' ∧ True := by
  have hbl := (Array.getElem?_eq_some_iff.1 hb).1
  have hbwl := (Array.getElem?_eq_some_iff.1 hbw).1
  have c0 : w.cell? ⟨bd, 0, none⟩ = some (.slice (some ⟨bs, 0, none⟩) n cs) := by rw [cell_of_row w bd 0 _ _ _ hb]; rfl
  have c2 : w.cell? ⟨bd, 2, none⟩ = some (.slice (some ⟨bw, 0, none⟩) 1 cw) := by rw [cell_of_row w bd 2 _ _ _ hb]; rfl
  have hxv : (bytesV x).length = 64 := by rw [bytesV_length, hx]
  have hrowl : (Value.int .i64 (i : Int) :: bytesV x).length = 65 := by rw [List.length_cons, hxv]
  have hrow1 : ∀ u ∈ (Value.int .i64 (i : Int) :: bytesV x), u.oneCell' = true := ones_cons rfl (bytesV_one x)
  have cw' : ∀ j v, (Value.int .i64 (i : Int) :: bytesV x)[j]? = some v → w.cell? ⟨bw, 0 + 0 * 65 + j, none⟩ = some v := fun j v hv => by
    rw [show 0 + 0 * 65 + j = j by omega, cell_of_row w bw j _ _ _ hbw]
    have hj : j < (Value.int .i64 (i : Int) :: bytesV x).length := (List.getElem?_eq_some_iff.1 hv).1
    rw [List.getElem?_toArray, List.getElem?_append_left hj]; exact hv
  have hc1 : Nat.min 1 l.length ≤ 1 := Nat.min_le_left _ _
  have hc2 : Nat.min 1 l.length ≤ l.length := Nat.min_le_right _ _
  have hc3 : Nat.min 1 l.length = 0 → l.length = 0 := fun h => by
    rcases Nat.eq_zero_or_pos l.length with h1 | h1
    · exact h1
    · rw [show Nat.min 1 l.length = 1 from Nat.min_eq_left h1] at h; cases h
  have hmin : (if (l.length : Int) < 1 then (l.length : Int) else 1) = ((Nat.min 1 l.length : Nat) : Int) := by
    by_cases h : l.length < 1
    · rw [if_pos (by omega), show Nat.min 1 l.length = l.length from Nat.min_eq_right (by omega)]
    · rw [if_neg (by omega), show Nat.min 1 l.length = 1 from Nat.min_eq_left (by omega)]; rfl
  generalize Nat.min 1 l.length = k at hc1 hc2 hc3 hmin
  refine enter Try.func26 rfl Try.ntmps26 (by simp) ?_
  repeat (first | refine S_scope ?_ | refine S_label ?_ | refine E_noGoto_normal ?_ | refine E_noGoto_ret ?_ | refine E_noGoto_exit ?_ | refine S_yes rfl (by first | with_reducible rfl | decide) ?_ | refine S_no rfl (by first | with_reducible rfl | decide) ?_ | refine S_seq ?_ | refine E_seq ?_ | refine S_block ?_ | refine E_block_normal ?_ | refine S_skip ?_ | refine S_exit ?_ | refine S_ret ?_ | refine E_then_exit ?_ | refine E_then_ret ?_ | refine E_block_ret ?_ | refine E_block_exit ?_ | refine E_block_exit_other rfl ?_)
  refine S_region ?_
  refine R_cons rfl (op_pure (p_assign rfl) rfl ?_)
  refine R_cons rfl (op_pure (p_assign rfl) rfl ?_)
  refine R_nil ?_
  repeat (first | refine S_scope ?_ | refine S_label ?_ | refine E_noGoto_normal ?_ | refine E_noGoto_ret ?_ | refine E_noGoto_exit ?_ | refine S_yes rfl (by first | with_reducible rfl | decide) ?_ | refine S_no rfl (by first | with_reducible rfl | decide) ?_ | refine S_seq ?_ | refine E_seq ?_ | refine S_block ?_ | refine E_block_normal ?_ | refine S_skip ?_ | refine S_exit ?_ | refine S_ret ?_ | refine E_then_exit ?_ | refine E_then_ret ?_ | refine E_block_ret ?_ | refine E_block_exit ?_ | refine E_block_exit_other rfl ?_)
  refine S_region ?_
  refine R_cons rfl (op_pure (p_move rfl) rfl ?_)
  refine R_cons rfl (op_callV rfl rfl Try.func62 rfl (by kernel_rfl) rfl (Nat.le_refl _) (fun w' hm => dnone_any bd n cs _ _ _ left bl hn w' (below_block hm.below hb)) ?_)
  refine R_nil ?_
  repeat (first | refine S_scope ?_ | refine S_label ?_ | refine E_noGoto_normal ?_ | refine E_noGoto_ret ?_ | refine E_noGoto_exit ?_ | refine S_yes rfl (by first | with_reducible rfl | decide) ?_ | refine S_no rfl (by first | with_reducible rfl | decide) ?_ | refine S_seq ?_ | refine E_seq ?_ | refine S_block ?_ | refine E_block_normal ?_ | refine S_skip ?_ | refine S_exit ?_ | refine S_ret ?_ | refine E_then_exit ?_ | refine E_then_ret ?_ | refine E_block_ret ?_ | refine E_block_exit ?_ | refine E_block_exit_other rfl ?_)
  refine S_region ?_
  refine R_cons rfl (op_pure (p_move rfl) rfl ?_)
  refine R_cons rfl (op_pure (p_nilCheck rfl) rfl ?_)
  refine R_cons rfl (op_pure (by first | exact p_fieldAddr0 rfl fd_disks_Disk_0 | exact p_fieldAddr rfl fd_disks_Disk_0) rfl ?_)
  refine R_cons rfl (op_pure (p_load_base rfl sc_disks_sector hbl (by simp) c0) rfl ?_)
  refine R_cons rfl (op_call rfl rfl Try.func64 rfl (by kernel_rfl) rfl fun w1 hm1 => (dclone_any bs n cs sure sps hS hsl hn hn2 w1 (below_block hm1.below hbs)).mono ?_)
  rintro e w2 ⟨g, cap, sp', rfl, hg, hgo, hcap, hbel⟩
  refine ⟨_, _, rfl, hm1.call1 (Nat.le_refl _) hbel hg hgo, ?_⟩
  clear hm1 hbel hg hgo w1 w2
  refine R_cons rfl (op_pure (p_assign rfl) rfl ?_)
  refine R_nil ?_
  repeat (first | refine S_scope ?_ | refine S_label ?_ | refine E_noGoto_normal ?_ | refine E_noGoto_ret ?_ | refine E_noGoto_exit ?_ | refine S_yes rfl (by first | with_reducible rfl | decide) ?_ | refine S_no rfl (by first | with_reducible rfl | decide) ?_ | refine S_seq ?_ | refine E_seq ?_ | refine S_block ?_ | refine E_block_normal ?_ | refine S_skip ?_ | refine S_exit ?_ | refine S_ret ?_ | refine E_then_exit ?_ | refine E_then_ret ?_ | refine E_block_ret ?_ | refine E_block_exit ?_ | refine E_block_exit_other rfl ?_)
  refine S_quiet (by kernel_rfl) (by kernel_rfl) ?_
  refine Q_cons (Still1.of_pure (p_move rfl)) rfl ?_
  refine Q_cons (Still1.of_pure (p_nilCheck rfl)) rfl ?_
  refine Q_cons (Still1.of_pure (by first | exact p_fieldAddr0 rfl fd_disks_Disk_2 | exact p_fieldAddr rfl fd_disks_Disk_2)) rfl ?_
  refine Q_cons (Still1.of_pure (p_load_base rfl sc_disks_write hbl (by simp) c2)) rfl ?_
  refine Q_cons (Still1.of_pure (p_move rfl)) rfl ?_
  refine Q_cons (Still1.of_pure (p_nilCheck rfl)) rfl ?_
  refine Q_cons (Still1.of_pure (by first | exact p_fieldAddr0 rfl fd_disks_Disk_2 | exact p_fieldAddr rfl fd_disks_Disk_2)) rfl ?_
  refine Q_cons (Still1.of_pure (p_load_base rfl sc_disks_write hbl (by simp) c2)) rfl ?_
  refine Q_cons (Still1.of_pure (p_lenR rfl slr_disks_write)) rfl ?_
  refine Q_cons (Still1.of_pure (p_move rfl)) rfl ?_
  refine Q_cons (Still1.of_pure (p_len rfl slc_bool)) rfl ?_
  refine Q_cons (Still1.of_pure (p_min2 rfl rfl hmin)) rfl ?_
  refine Q_cons (Still1.of_pure (p_sliceToR (h := k) rfl rfl rfl slr_disks_write (by omega))) rfl ?_
  refine Q_cons (Still1.of_pure (p_lenR rfl slr_disks_write)) rfl ?_
  refine Q_cons (Still1.of_pure (p_move rfl)) rfl ?_
  refine Q_nil ?_
  repeat (first | refine S_scope ?_ | refine S_label ?_ | refine E_noGoto_normal ?_ | refine E_noGoto_ret ?_ | refine E_noGoto_exit ?_ | refine S_yes rfl (by first | with_reducible rfl | decide) ?_ | refine S_no rfl (by first | with_reducible rfl | decide) ?_ | refine S_seq ?_ | refine E_seq ?_ | refine S_block ?_ | refine E_block_normal ?_ | refine S_skip ?_ | refine S_exit ?_ | refine S_ret ?_ | refine E_then_exit ?_ | refine E_then_ret ?_ | refine E_block_ret ?_ | refine E_block_exit ?_ | refine E_block_exit_other rfl ?_)
  refine S_loop (fun j : Nat => [(30, .int .i64 (j : Int)), (29, .int .i64 (k : Int)), (28, .slice (some ⟨bw, 0, none⟩) k cw), (6, .slice (some ⟨g, 0, none⟩) n cap), (1, .slice A l.length c)]) (fun j => [(g, .cells (secV (if j = 0 then sure else if l.getD 0 false then sure.set i x else sure) ++ sp').toArray 115 (0, 0))]) (fun j => j ≤ k) (fun j => k - j) 0 (Nat.zero_le _) (by repeat (first | exact Sub.nil | refine Sub.cons rfl ?_)) (Fewer.refl _) ?_
  intro j hj
  by_cases hlt : j < k
  · have hj0 : j = 0 := by omega
    have hk1 : k = 1 := by omega
    subst hj0 hk1
    have hl0 : 0 < l.length := by omega
    obtain ⟨bl_, offl, rfl, hbll, hcl⟩ := hrd.2 (by omega)
    have hl00 := hcl 0 (.bool (l.getD 0 false)) (boolsV_get hl0)
    rw [if_pos rfl]
    repeat (first | refine S_scope ?_ | refine S_label ?_ | refine E_noGoto_normal ?_ | refine E_noGoto_ret ?_ | refine E_noGoto_exit ?_ | refine S_yes rfl (by first | with_reducible rfl | decide) ?_ | refine S_no rfl (by first | with_reducible rfl | decide) ?_ | refine S_seq ?_ | refine E_seq ?_ | refine S_block ?_ | refine E_block_normal ?_ | refine S_skip ?_ | refine S_exit ?_ | refine S_ret ?_ | refine E_then_exit ?_ | refine E_then_ret ?_ | refine E_block_ret ?_ | refine E_block_exit ?_ | refine E_block_exit_other rfl ?_)
    refine S_region ?_
    refine R_cons rfl (op_pure (p_bin rfl rfl (b_lss rfl)) rfl ?_)
    refine R_nil ?_
    repeat (first | refine S_scope ?_ | refine S_label ?_ | refine E_noGoto_normal ?_ | refine E_noGoto_ret ?_ | refine E_noGoto_exit ?_ | refine S_yes rfl (by first | with_reducible rfl | decide) ?_ | refine S_no rfl (by first | with_reducible rfl | decide) ?_ | refine S_seq ?_ | refine E_seq ?_ | refine S_block ?_ | refine E_block_normal ?_ | refine S_skip ?_ | refine S_exit ?_ | refine S_ret ?_ | refine E_then_exit ?_ | refine E_then_ret ?_ | refine E_block_ret ?_ | refine E_block_exit ?_ | refine E_block_exit_other rfl ?_)
    refine S_region ?_
    refine R_cons rfl (op_pure (p_move rfl) rfl ?_)
    refine R_cons rfl (op_pure (p_indexR (j := 0) rfl rfl rfl slr_disks_write (by omega)) rfl ?_)
    refine R_cons rfl (op_pure (p_loadRowBase rfl row_disks_write hrowl hbwl (by simp) cw') rfl ?_)
    refine R_cons rfl (op_allocRow zero_disks_write rfl (Nat.le_refl _) (fun b8 => ?_))
    refine R_cons rfl (op_pure (p_assign rfl) rfl ?_)
    refine R_cons rfl (op_storeRow rfl rfl hrow1 row_disks_write hrowl (by repeat (first | exact At.here | apply At.there)) (by rw [hrowl]; exact Nat.le_of_ble_eq_true rfl) ?_)
    refine R_nil ?_
    repeat (first | refine S_scope ?_ | refine S_label ?_ | refine E_noGoto_normal ?_ | refine E_noGoto_ret ?_ | refine E_noGoto_exit ?_ | refine S_yes rfl (by first | with_reducible rfl | decide) ?_ | refine S_no rfl (by first | with_reducible rfl | decide) ?_ | refine S_seq ?_ | refine E_seq ?_ | refine S_block ?_ | refine E_block_normal ?_ | refine S_skip ?_ | refine S_exit ?_ | refine S_ret ?_ | refine E_then_exit ?_ | refine E_then_ret ?_ | refine E_block_ret ?_ | refine E_block_exit ?_ | refine E_block_exit_other rfl ?_)
    rw [lay_whole (by rw [hrowl]; rfl)]
    cases hlk : l.getD 0 false with
    | true =>
      rw [hlk] at hl00
      refine S_region ?_
      refine R_cons rfl (op_pure (p_move rfl) rfl ?_)
      refine R_cons rfl (op_pure (p_move rfl) rfl ?_)
      refine R_cons rfl (op_pure (p_indexSl (j := 0) rfl rfl rfl slc_bool hl0) rfl ?_)
      refine R_cons rfl (op_pure (p_load_base rfl sc_bool hbll (by simp) hl00) rfl ?_)
      refine R_nil ?_
      repeat (first | refine S_scope ?_ | refine S_label ?_ | refine E_noGoto_normal ?_ | refine E_noGoto_ret ?_ | refine E_noGoto_exit ?_ | refine S_yes rfl (by first | with_reducible rfl | decide) ?_ | refine S_no rfl (by first | with_reducible rfl | decide) ?_ | refine S_seq ?_ | refine E_seq ?_ | refine S_block ?_ | refine E_block_normal ?_ | refine S_skip ?_ | refine S_exit ?_ | refine S_ret ?_ | refine E_then_exit ?_ | refine E_then_ret ?_ | refine E_block_ret ?_ | refine E_block_exit ?_ | refine E_block_exit_other rfl ?_)
      refine S_region ?_
      refine R_cons rfl (op_pure (p_move rfl) rfl ?_)
      refine R_cons rfl (op_pure (by first | exact p_fieldAddr0 rfl fd_disks_write_0 | exact p_fieldAddr rfl fd_disks_write_0) rfl ?_)
      refine R_cons rfl (op_pure (by first | exact p_fieldAddr0 rfl fd_disks_place_0 | exact p_fieldAddr rfl fd_disks_place_0) rfl ?_)
      refine R_cons rfl (op_pure (p_load rfl sc_int (by repeat (first | exact List.Mem.head _ | apply List.Mem.tail)) (by rfl)) rfl ?_)
      refine R_cons rfl (op_pure (by first | exact p_fieldAddr0 rfl fd_disks_write_1 | exact p_fieldAddr rfl fd_disks_write_1) rfl ?_)
      refine R_cons rfl (op_pure (p_loadPart rfl row_disks_sector (by repeat (first | exact List.Mem.head _ | apply List.Mem.tail)) (by rw [hrowl]; exact Nat.le_refl 65) (xs := bytesV x) (by exact List.take_of_length_le (by rw [List.drop_succ_cons, List.drop_zero, hxv]; exact Nat.le_refl 64))) rfl ?_)
      refine R_cons rfl (op_pure (p_indexR (j := i) rfl rfl rfl slr_disks_sector hi) rfl ?_)
      refine R_cons rfl (op_storeRow rfl rfl (bytesV_one _) row_disks_sector hxv (by repeat (first | exact At.here | apply At.there)) (by rw [List.length_append, secV_length hS, hxv, hsl]; omega) ?_)
      refine R_nil ?_
      repeat (first | refine S_scope ?_ | refine S_label ?_ | refine E_noGoto_normal ?_ | refine E_noGoto_ret ?_ | refine E_noGoto_exit ?_ | refine S_yes rfl (by first | with_reducible rfl | decide) ?_ | refine S_no rfl (by first | with_reducible rfl | decide) ?_ | refine S_seq ?_ | refine E_seq ?_ | refine S_block ?_ | refine E_block_normal ?_ | refine S_skip ?_ | refine S_exit ?_ | refine S_ret ?_ | refine E_then_exit ?_ | refine E_then_ret ?_ | refine E_block_ret ?_ | refine E_block_exit ?_ | refine E_block_exit_other rfl ?_)
      rw [Nat.zero_add, lay_sec hS (by omega) hx]
      refine S_region ?_
      refine R_cons rfl (op_pure (p_bin rfl rfl (b_add (r := ((1 : Nat) : Int)) rfl)) rfl ?_)
      refine R_cons rfl (op_pure (p_move rfl) rfl ?_)
      refine R_nil ?_
      repeat (first | refine S_scope ?_ | refine S_label ?_ | refine E_noGoto_normal ?_ | refine E_noGoto_ret ?_ | refine E_noGoto_exit ?_ | refine S_yes rfl (by first | with_reducible rfl | decide) ?_ | refine S_no rfl (by first | with_reducible rfl | decide) ?_ | refine S_seq ?_ | refine E_seq ?_ | refine S_block ?_ | refine E_block_normal ?_ | refine S_skip ?_ | refine S_exit ?_ | refine S_ret ?_ | refine E_then_exit ?_ | refine E_then_ret ?_ | refine E_block_ret ?_ | refine E_block_exit ?_ | refine E_block_exit_other rfl ?_)
      exact E_round 1 (by omega) (by omega) (by repeat (first | exact Sub.nil | refine Sub.cons rfl ?_)) (by rw [if_neg (by omega), if_pos rfl]; exact (by repeat (first | exact Fewer.nil | exact Fewer.refl _ | refine Fewer.pick rfl (by repeat (first | exact Del.here | apply Del.there)) ?_)))
    | false =>
      rw [hlk] at hl00
      refine S_region ?_
      refine R_cons rfl (op_pure (p_move rfl) rfl ?_)
      refine R_cons rfl (op_pure (p_move rfl) rfl ?_)
      refine R_cons rfl (op_pure (p_indexSl (j := 0) rfl rfl rfl slc_bool hl0) rfl ?_)
      refine R_cons rfl (op_pure (p_load_base rfl sc_bool hbll (by simp) hl00) rfl ?_)
      refine R_nil ?_
      repeat (first | refine S_scope ?_ | refine S_label ?_ | refine E_noGoto_normal ?_ | refine E_noGoto_ret ?_ | refine E_noGoto_exit ?_ | refine S_yes rfl (by first | with_reducible rfl | decide) ?_ | refine S_no rfl (by first | with_reducible rfl | decide) ?_ | refine S_seq ?_ | refine E_seq ?_ | refine S_block ?_ | refine E_block_normal ?_ | refine S_skip ?_ | refine S_exit ?_ | refine S_ret ?_ | refine E_then_exit ?_ | refine E_then_ret ?_ | refine E_block_ret ?_ | refine E_block_exit ?_ | refine E_block_exit_other rfl ?_)
      refine S_region ?_
      refine R_cons rfl (op_pure (p_bin rfl rfl (b_add (r := ((1 : Nat) : Int)) rfl)) rfl ?_)
      refine R_cons rfl (op_pure (p_move rfl) rfl ?_)
      refine R_nil ?_
      repeat (first | refine S_scope ?_ | refine S_label ?_ | refine E_noGoto_normal ?_ | refine E_noGoto_ret ?_ | refine E_noGoto_exit ?_ | refine S_yes rfl (by first | with_reducible rfl | decide) ?_ | refine S_no rfl (by first | with_reducible rfl | decide) ?_ | refine S_seq ?_ | refine E_seq ?_ | refine S_block ?_ | refine E_block_normal ?_ | refine S_skip ?_ | refine S_exit ?_ | refine S_ret ?_ | refine E_then_exit ?_ | refine E_then_ret ?_ | refine E_block_ret ?_ | refine E_block_exit ?_ | refine E_block_exit_other rfl ?_)
      exact E_round 1 (by omega) (by omega) (by repeat (first | exact Sub.nil | refine Sub.cons rfl ?_)) (by rw [if_neg (by omega), if_neg (by decide)]; exact (by repeat (first | exact Fewer.nil | exact Fewer.refl _ | refine Fewer.pick rfl (by repeat (first | exact Del.here | apply Del.there)) ?_)))
  have hjk : j = k := by omega
  subst hjk
  have g1 : decide ((j : Int) < (j : Int)) = false := decide_eq_false (by omega)
  have hres : (if j = 0 then sure else if l.getD 0 false then sure.set i x else sure) = (if l.getD 0 false then sure.set i x else sure) := by
    by_cases h : j = 0
    · rw [if_pos h]
      have := hc3 h
      rw [List.getD_eq_getElem?_getD, List.getElem?_eq_none (by omega)]
      rfl
    · rw [if_neg h]
  have hSr : Secs (if l.getD 0 false then sure.set i x else sure) := by split; exact hS.set i hx; exact hS
  have hlr : (if l.getD 0 false then sure.set i x else sure).length = n := by split; rw [List.length_set, hsl]; exact hsl
  rw [hres]
  generalize (if l.getD 0 false then sure.set i x else sure) = res at hSr hlr
  repeat (first | refine S_scope ?_ | refine S_label ?_ | refine E_noGoto_normal ?_ | refine E_noGoto_ret ?_ | refine E_noGoto_exit ?_ | refine S_yes rfl (by first | with_reducible rfl | decide) ?_ | refine S_no rfl (by first | with_reducible rfl | decide) ?_ | refine S_seq ?_ | refine E_seq ?_ | refine S_block ?_ | refine E_block_normal ?_ | refine S_skip ?_ | refine S_exit ?_ | refine S_ret ?_ | refine E_then_exit ?_ | refine E_then_ret ?_ | refine E_block_ret ?_ | refine E_block_exit ?_ | refine E_block_exit_other rfl ?_)
  refine S_region ?_
  refine R_cons rfl (op_pure (p_bin rfl rfl (b_lss g1)) rfl ?_)
  refine R_nil ?_
  repeat (first | refine S_scope ?_ | refine S_label ?_ | refine E_noGoto_normal ?_ | refine E_noGoto_ret ?_ | refine E_noGoto_exit ?_ | refine S_yes rfl (by first | with_reducible rfl | decide) ?_ | refine S_no rfl (by first | with_reducible rfl | decide) ?_ | refine S_seq ?_ | refine E_seq ?_ | refine S_block ?_ | refine E_block_normal ?_ | refine S_skip ?_ | refine S_exit ?_ | refine S_ret ?_ | refine E_then_exit ?_ | refine E_then_ret ?_ | refine E_block_ret ?_ | refine E_block_exit ?_ | refine E_block_exit_other rfl ?_)
  refine S_region ?_
  refine R_cons rfl (op_pure (p_move rfl) rfl ?_)
  refine R_cons rfl (op_callH (Hc := [(g, .cells (secV res ++ sp').toArray 115 (0, 0))]) (K := []) rfl rfl Try.func51 rfl (by kernel_rfl) rfl (List.Perm.refl _) (fun w' hm => dof_any g n cap res sp' hSr hlr hn hn2 w' (by exact hm)) (fun v H' hp => ?_))
  obtain ⟨bd2, bn2, cn2, spn2, rfl, _, rfl⟩ := hp
  refine R_cons rfl (op_pure (p_assign rfl) rfl ?_)
  refine R_cons rfl (op_pure (p_assign rfl) rfl ?_)
  refine R_nil ?_
  repeat (first | refine S_scope ?_ | refine S_label ?_ | refine E_noGoto_normal ?_ | refine E_noGoto_ret ?_ | refine E_noGoto_exit ?_ | refine S_yes rfl (by first | with_reducible rfl | decide) ?_ | refine S_no rfl (by first | with_reducible rfl | decide) ?_ | refine S_seq ?_ | refine E_seq ?_ | refine S_block ?_ | refine E_block_normal ?_ | refine S_skip ?_ | refine S_exit ?_ | refine S_ret ?_ | refine E_then_exit ?_ | refine E_then_ret ?_ | refine E_block_ret ?_ | refine E_block_exit ?_ | refine E_block_exit_other rfl ?_)
  exact E_ret2 rfl rfl rfl fun w' hm => ⟨(bd2, g, cap, bn2, cn2, sp', spn2), rfl, hm, trivial⟩
end Go.Proofs.Ytfdlafjifjndeaa
