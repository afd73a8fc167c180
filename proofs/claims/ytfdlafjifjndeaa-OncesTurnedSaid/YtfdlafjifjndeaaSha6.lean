/-
  The layer shas: a run of bytes that come in parts; each function by one walk.
-/
import Derived.Test.YtfdlafjifjndeaaSha2
import Derived.Test.YtfdlafjifjndeaaRunLaw
namespace Go.Proofs.Ytfdlafjifjndeaa
open Go.Sha
open Go.RowKit Go.K
attribute [local irreducible] Exit.then Exit.inBlock Exit.noGoto bodyPost Code.wp QL Sx Rx Qx Ex Dx Op1 Pure1 Still1 K.Sub Calm Code.wpIn
attribute [local irreducible] took stOf rest runV
set_option linter.unusedVariables false

structure PutsAt where
  al : List UInt8
  blk : List UInt8
  A : Option Addr
  c : Nat
  xs : List UInt8

set_option maxHeartbeats 2000000 in
theorem puts_any (b : Nat) (all : List UInt8) (cs : List Value) (hrep : Rep all cs) (A : Option Addr) (n c : Nat) (xs : List UInt8) (w : World) (hb : w.heap[b]? = some (.cells cs.toArray 149 (0, 0))) (hl : xs.length = n) (hrd : Reads w A n (bytesV xs))
    (hne : n ≠ 0 → ∀ a, A = some a → a.block ≠ b) (hnc : n ≤ c) (hcm : c ≤ maxLen) (hmany : all.length + n ≤ 1152921504606846976) :
    Calls Try.prog 49 [.pointer (some ⟨b, 0, none⟩), .slice A n c].toArray w fun e w' => e = .returned (.tuple #[]) ∧ ∃ cs', Rep (all ++ xs) cs' ∧ Mem w.heap.size ⟨w, [b]⟩ [(b, .cells cs'.toArray 149 (0, 0))] w' := by
  subst hl
  obtain ⟨blk, hblk, hrest, rfl⟩ := hrep
  refine enter_at Try.func49 rfl Try.ntmps49 (by simp) (Mem.one hb) ?_
  repeat (first | refine S_scope ?_ | refine S_label ?_ | refine E_noGoto_normal ?_ | refine E_noGoto_ret ?_ | refine E_noGoto_exit ?_ | refine S_yes rfl (by first | with_reducible rfl | decide) ?_ | refine S_no rfl (by first | with_reducible rfl | decide) ?_ | refine S_seq ?_ | refine E_seq ?_ | refine S_block ?_ | refine E_block_normal ?_ | refine S_skip ?_ | refine S_exit ?_ | refine S_ret ?_ | refine E_then_exit ?_ | refine E_then_ret ?_ | refine E_block_ret ?_ | refine E_block_exit ?_ | refine E_block_exit_other rfl ?_)
  refine S_loop (fun s : PutsAt => [(1, .slice s.A s.xs.length s.c), (0, .pointer (some ⟨b, 0, none⟩))]) (fun s => [(b, .cells (runV (stOf s.al) s.blk s.al.length).toArray 149 (0, 0))])
    (fun s => s.al ++ s.xs = all ++ xs ∧ s.blk.length = 64 ∧ s.blk.take (s.al.length % 64) = rest s.al ∧ s.xs.length ≤ s.c ∧ s.c ≤ maxLen ∧ Reads w s.A s.xs.length (bytesV s.xs) ∧ (s.xs.length ≠ 0 → ∀ a, s.A = some a → a.block ≠ b)) (fun s => s.xs.length)
    ⟨all, blk, A, c, xs⟩ ⟨rfl, hblk, hrest, hnc, hcm, hrd, hne⟩ (by repeat (first | exact Sub.nil | refine Sub.cons rfl ?_)) (Fewer.refl _) ?_
  rintro ⟨al, blk, A, c, ys⟩ ⟨htot, hblk, hrest, hnc, hcm, hrd, hne⟩
  dsimp only at htot hblk hrest hnc hcm hrd hne ⊢
  have htl : al.length + ys.length = all.length + xs.length := by have := congrArg List.length htot; simpa using this
  repeat (first | refine S_scope ?_ | refine S_label ?_ | refine E_noGoto_normal ?_ | refine E_noGoto_ret ?_ | refine E_noGoto_exit ?_ | refine S_yes rfl (by first | with_reducible rfl | decide) ?_ | refine S_no rfl (by first | with_reducible rfl | decide) ?_ | refine S_seq ?_ | refine E_seq ?_ | refine S_block ?_ | refine E_block_normal ?_ | refine S_skip ?_ | refine S_exit ?_ | refine S_ret ?_ | refine E_then_exit ?_ | refine E_then_ret ?_ | refine E_block_ret ?_ | refine E_block_exit ?_ | refine E_block_exit_other rfl ?_)
  refine S_region ?_
  refine R_cons rfl (op_pure (p_move rfl) rfl ?_)
  refine R_cons rfl (op_pure (p_len rfl slc_u8s) rfl ?_)
  refine R_cons rfl (op_pure (p_bin rfl rfl (b_gtr (by first | assumption | exact decide_eq_true (by omega) | exact decide_eq_false (by omega) | rfl))) rfl ?_)
  refine R_nil ?_
  repeat (first | refine S_scope ?_ | refine S_label ?_ | refine E_noGoto_normal ?_ | refine E_noGoto_ret ?_ | refine E_noGoto_exit ?_ | refine S_yes rfl (by first | with_reducible rfl | decide) ?_ | refine S_no rfl (by first | with_reducible rfl | decide) ?_ | refine S_seq ?_ | refine E_seq ?_ | refine S_block ?_ | refine E_block_normal ?_ | refine S_skip ?_ | refine S_exit ?_ | refine S_ret ?_ | refine E_then_exit ?_ | refine E_then_ret ?_ | refine E_block_ret ?_ | refine E_block_exit ?_ | refine E_block_exit_other rfl ?_)
  refine S_cond rfl (fun hlt => ?_) (fun hge => ?_)
  · have hy0 : 0 < ys.length := by have h1 := of_decide_eq_true hlt; omega
    obtain ⟨k, hk⟩ : ∃ k, min ys.length (64 - al.length % 64) = k := ⟨_, rfl⟩
    have hk1 : 0 < k := by omega
    have hkr : al.length % 64 + k ≤ 64 := by omega
    have hky : k ≤ ys.length := by omega
    have hc73 := run_many (stOf al) blk al.length hblk
    have hrl := run_len (stOf al) blk al.length hblk
    have hsrc : ∀ w', Mem w.heap.size ⟨w, [b]⟩ [(b, .cells (runV (stOf al) blk al.length).toArray 149 (0, 0))] w' → Reads w' A ys.length (bytesV ys) := fun w' hm => hrd.off1 (hne (by omega)) hm
    have hfit : 9 + al.length % 64 + k ≤ (runV (stOf al) blk al.length).length := by omega
    repeat (first | refine S_scope ?_ | refine S_label ?_ | refine E_noGoto_normal ?_ | refine E_noGoto_ret ?_ | refine E_noGoto_exit ?_ | refine S_yes rfl (by first | with_reducible rfl | decide) ?_ | refine S_no rfl (by first | with_reducible rfl | decide) ?_ | refine S_seq ?_ | refine E_seq ?_ | refine S_block ?_ | refine E_block_normal ?_ | refine S_skip ?_ | refine S_exit ?_ | refine S_ret ?_ | refine E_then_exit ?_ | refine E_then_ret ?_ | refine E_block_ret ?_ | refine E_block_exit ?_ | refine E_block_exit_other rfl ?_)
    refine S_tail 10 (by kernel_rfl) (by kernel_rfl) (by kernel_rfl) (by kernel_rfl) ?_
    refine Q_cons (Still1.of_pure (p_move rfl)) rfl ?_
    refine Q_cons (Still1.of_pure (p_nilCheck rfl)) rfl ?_
    refine Q_cons (Still1.of_pure (by first | exact p_fieldAddr0 rfl fd_Run_2 | exact p_fieldAddr rfl fd_Run_2)) rfl ?_
    refine Q_cons (Still1.of_pure (p_move rfl)) rfl ?_
    refine Q_cons (Still1.of_pure (p_nilCheck rfl)) rfl ?_
    refine Q_cons (Still1.of_pure (by first | exact p_fieldAddr0 rfl fd_Run_3 | exact p_fieldAddr rfl fd_Run_3)) rfl ?_
    refine Q_cons (Still1.of_pure (by first | exact p_load rfl sc_u64 (by repeat (first | exact List.Mem.head _ | apply List.Mem.tail)) (by first | assumption | exact bytesV_get (by omega) | exact wordsV_get (by omega) | rfl) | exact p_load_base rfl sc_u64 (by assumption) (by simp) (by assumption))) rfl ?_
    refine Q_cons (Still1.of_pure (by first | exact p_bin rfl rfl (b_rem (by decide) (by assumption)) | exact p_bin rfl rfl (b_rem (by decide) (nat_rem _ 64)) | exact p_bin rfl rfl (b_rem (by decide) (int_rem (by omega))))) rfl ?_
    refine Q_cons (Still1.of_pure (p_sliceArrFrom rfl rfl (by repeat (first | assumption | exact lit0 | exact lit1 | apply IntWalk.up_add | apply IntWalk.up_div | apply IntWalk.up_mod | apply IntWalk.up_mul | rfl)) arr_b64 (by omega))) rfl ?_
    refine Q_cons (Still1.of_pure (p_move rfl)) rfl ?_
    refine Q_nop ?_
    refine Q_nop ?_
    refine Q_nil ?_
    refine E_tail ?_
    refine R_cons rfl (op_copy rfl rfl slc_u8s (by first | assumption | rfl) (fun w hm => by first | exact hsrc w hm | assumption | exact hm.readsAll (by repeat (first | exact List.Mem.head _ | apply List.Mem.tail)) (by first | assumption | rfl | (simp only [bytesV_length, wordsV_length]; omega) | (rw [bytesV_length]; exact Sha.sha_length _))) (bytesV_one _) (by repeat (first | exact At.here | apply At.there)) (by first | assumption | (first | exact Nat.le_of_ble_eq_true rfl | omega | (simp only [bytesV_length, wordsV_length, List.length_cons, List.length_nil, List.length_replicate]; omega) | (simp only [bytesV_length, Sha.sha_length, List.length_replicate] <;> omega))) rfl ?_)
    refine R_cons rfl (op_pure (p_assign rfl) rfl ?_)
    refine R_nil ?_
    repeat (first | refine S_scope ?_ | refine S_label ?_ | refine E_noGoto_normal ?_ | refine E_noGoto_ret ?_ | refine E_noGoto_exit ?_ | refine S_yes rfl (by first | with_reducible rfl | decide) ?_ | refine S_no rfl (by first | with_reducible rfl | decide) ?_ | refine S_seq ?_ | refine E_seq ?_ | refine S_block ?_ | refine E_block_normal ?_ | refine S_skip ?_ | refine S_exit ?_ | refine S_ret ?_ | refine E_then_exit ?_ | refine E_then_ret ?_ | refine E_block_ret ?_ | refine E_block_exit ?_ | refine E_block_exit_other rfl ?_)
    have hyl : (ys.take k).length = k := by rw [List.length_take]; omega
    have hcopy := run_copy (stOf al) blk (ys.take k) al.length (al.length % 64) hblk (by omega)
    rw [hyl, bytesV_take] at hcopy
    rw [hcopy]
    obtain ⟨blk2, hb2⟩ : ∃ b2, blk.take (al.length % 64) ++ ys.take k ++ blk.drop (al.length % 64 + k) = b2 := ⟨_, rfl⟩
    rw [hb2]
    have hblk2 : blk2.length = 64 := by rw [← hb2]; simp [hblk, hyl]; omega
    have hc73' := run_many (stOf al) blk2 al.length hblk2
    have hrl' := run_len (stOf al) blk2 al.length hblk2
    have hwk : IntKind.u64.wrap (k : Int) = (k : Int) := w_in_u64 (by omega)
    repeat (first | refine S_scope ?_ | refine S_label ?_ | refine E_noGoto_normal ?_ | refine E_noGoto_ret ?_ | refine E_noGoto_exit ?_ | refine S_yes rfl (by first | with_reducible rfl | decide) ?_ | refine S_no rfl (by first | with_reducible rfl | decide) ?_ | refine S_seq ?_ | refine E_seq ?_ | refine S_block ?_ | refine E_block_normal ?_ | refine S_skip ?_ | refine S_exit ?_ | refine S_ret ?_ | refine E_then_exit ?_ | refine E_then_ret ?_ | refine E_block_ret ?_ | refine E_block_exit ?_ | refine E_block_exit_other rfl ?_)
    refine S_region ?_
    refine R_cons rfl (op_pure (p_move rfl) rfl ?_)
    refine R_cons rfl (op_pure (p_nilCheck rfl) rfl ?_)
    refine R_cons rfl (op_pure (by first | exact p_fieldAddr0 rfl fd_Run_3 | exact p_fieldAddr rfl fd_Run_3) rfl ?_)
    refine R_cons rfl (op_pure (by first | exact p_load rfl sc_u64 (by repeat (first | exact List.Mem.head _ | apply List.Mem.tail)) (by first | assumption | exact bytesV_get (by omega) | exact wordsV_get (by omega) | rfl) | exact p_load_base rfl sc_u64 (by assumption) (by simp) (by assumption)) rfl ?_)
    refine R_cons rfl (op_pure (p_move rfl) rfl ?_)
    refine R_cons rfl (op_pure (by exact p_convert rfl sc_int ik_u64 (by first | assumption | exact u8_nat _ | exact w8_i64 _ | exact w8_u64 _ | exact w8_u32n _ | exact w32_u64 _ | exact w32_i64 _ | exact w_in_i64 (by omega) | exact w_in_u64 (by omega) | exact w_in_u32 (by omega))) rfl ?_)
    refine R_cons rfl (op_pure (by first | exact p_bin rfl rfl (b_add (nat_add_u64 (by omega))) | exact p_bin rfl rfl (b_add (w_in_u64 (by omega)))) rfl ?_)
    refine R_cons rfl (op_pure (p_nilCheck rfl) rfl ?_)
    refine R_cons rfl (op_pure (by first | exact p_fieldAddr0 rfl fd_Run_3 | exact p_fieldAddr rfl fd_Run_3) rfl ?_)
    refine R_cons rfl (op_store rfl rfl rfl sc_u64 (by repeat (first | exact At.here | apply At.there)) (by first | exact Nat.le_of_ble_eq_true rfl | omega | (simp only [bytesV_length, wordsV_length]; omega) | (simp only [bytesV_length, wordsV_length, List.length_cons, List.length_nil, List.length_set, List.length_append]; omega) | decide) ?_)
    refine R_nil ?_
    repeat (first | refine S_scope ?_ | refine S_label ?_ | refine E_noGoto_normal ?_ | refine E_noGoto_ret ?_ | refine E_noGoto_exit ?_ | refine S_yes rfl (by first | with_reducible rfl | decide) ?_ | refine S_no rfl (by first | with_reducible rfl | decide) ?_ | refine S_seq ?_ | refine E_seq ?_ | refine S_block ?_ | refine E_block_normal ?_ | refine S_skip ?_ | refine S_exit ?_ | refine S_ret ?_ | refine E_then_exit ?_ | refine E_then_ret ?_ | refine E_block_ret ?_ | refine E_block_exit ?_ | refine E_block_exit_other rfl ?_)
    rw [run_setMany _ _ _ _ hblk2]
    have hc73'' := run_many (stOf al) blk2 (al.length + k) hblk2
    have hrl'' := run_len (stOf al) blk2 (al.length + k) hblk2
    have hal2 : (al ++ ys.take k).length = al.length + k := by rw [List.length_append, hyl]
    have hF : blk2.take ((al ++ ys.take k).length % 64) = rest (al ++ ys.take k) := by
      rcases Nat.lt_or_ge (al.length % 64 + k) 64 with h | h
      · have := (rep_few (ys := ys.take k) hblk hrest (by omega)).2.1
        rw [hyl, hb2] at this
        exact this
      · have := rep_full (ys := ys.take k) hblk hrest (by omega)
        rw [this.2.1, this.2.2.1, List.take_zero]
    repeat (first | refine S_scope ?_ | refine S_label ?_ | refine E_noGoto_normal ?_ | refine E_noGoto_ret ?_ | refine E_noGoto_exit ?_ | refine S_yes rfl (by first | with_reducible rfl | decide) ?_ | refine S_no rfl (by first | with_reducible rfl | decide) ?_ | refine S_seq ?_ | refine E_seq ?_ | refine S_block ?_ | refine E_block_normal ?_ | refine S_skip ?_ | refine S_exit ?_ | refine S_ret ?_ | refine E_then_exit ?_ | refine E_then_ret ?_ | refine E_block_ret ?_ | refine E_block_exit ?_ | refine E_block_exit_other rfl ?_)
    refine S_region ?_
    refine R_cons rfl (op_pure (p_move rfl) rfl ?_)
    refine R_cons rfl (op_pure (p_nilCheck rfl) rfl ?_)
    refine R_cons rfl (op_pure (by first | exact p_fieldAddr0 rfl fd_Run_3 | exact p_fieldAddr rfl fd_Run_3) rfl ?_)
    refine R_cons rfl (op_pure (by first | exact p_load rfl sc_u64 (by repeat (first | exact List.Mem.head _ | apply List.Mem.tail)) (by first | assumption | exact bytesV_get (by omega) | exact wordsV_get (by omega) | rfl) | exact p_load_base rfl sc_u64 (by assumption) (by simp) (by assumption)) rfl ?_)
    refine R_cons rfl (op_pure (by first | exact p_bin rfl rfl (b_rem (by decide) (by assumption)) | exact p_bin rfl rfl (b_rem (by decide) (nat_rem _ 64)) | exact p_bin rfl rfl (b_rem (by decide) (int_rem (by omega)))) rfl ?_)
    refine R_cons rfl (op_pure (p_bin rfl rfl (b_eql (by first | assumption | exact beq_iff_eq.2 (by omega) | exact beq_eq_false_iff_ne.2 (by omega) | rfl))) rfl ?_)
    refine R_nil ?_
    refine E_seq (S_cut [(4, .int .i64 (k : Int)), (1, .slice A ys.length c), (0, .pointer (some ⟨b, 0, none⟩))] [(b, .cells (runV (stOf (al ++ ys.take k)) blk2 (al.length + k)).toArray 149 (0, 0))] ?_ ?_)
    · refine S_cond rfl (fun h64 => ?_) (fun h64 => ?_)
      · have hfull : al.length % 64 + k = 64 := by simp at h64; omega
        have hst := (rep_full (ys := ys.take k) hblk hrest (by omega)).2.2.2
        rw [hyl, hb2] at hst
        have hs1 := run_s (stOf al) blk2 (al.length + k)
        have hs9 := run_b (stOf al) blk2 (al.length + k) hblk2
        have hll := list_length (took (stOf al) blk2)
        have htl1 : 1 + 8 ≤ (runV (stOf al) blk2 (al.length + k)).length := by omega
        have htl9 : 9 + 64 ≤ (runV (stOf al) blk2 (al.length + k)).length := by omega
        refine S_tail 12 (by kernel_rfl) (by kernel_rfl) (by kernel_rfl) (by kernel_rfl) ?_
        refine Q_cons (Still1.of_pure (p_move rfl)) rfl ?_
        refine Q_cons (Still1.of_pure (p_move rfl)) rfl ?_
        refine Q_cons (Still1.of_pure (p_nilCheck rfl)) rfl ?_
        refine Q_cons (Still1.of_pure (by first | exact p_fieldAddr0 rfl fd_Run_1 | exact p_fieldAddr rfl fd_Run_1)) rfl ?_
        refine Q_cons (Still1.of_pure (by first | exact p_loadRow rfl row_eight (by repeat (first | exact List.Mem.head _ | apply List.Mem.tail)) (by first | assumption | rfl | (simp only [bytesV_length, wordsV_length]; omega)) | exact p_loadPart rfl row_eight (by repeat (first | exact List.Mem.head _ | apply List.Mem.tail)) (by first | exact Nat.le_of_ble_eq_true rfl | omega | (simp only [bytesV_length, wordsV_length, List.length_cons, List.length_nil, List.length_replicate]; omega) | (simp only [bytesV_length, Sha.sha_length, List.length_replicate] <;> omega)) (by first | assumption | rfl))) rfl ?_
        refine Q_cons (Still1.of_pure (p_move rfl)) rfl ?_
        refine Q_cons (Still1.of_pure (p_nilCheck rfl)) rfl ?_
        refine Q_cons (Still1.of_pure (by first | exact p_fieldAddr0 rfl fd_Run_2 | exact p_fieldAddr rfl fd_Run_2)) rfl ?_
        refine Q_cons (Still1.of_pure (by first | exact p_loadRow rfl row_b64 (by repeat (first | exact List.Mem.head _ | apply List.Mem.tail)) (by first | assumption | rfl | (simp only [bytesV_length, wordsV_length]; omega)) | exact p_loadPart rfl row_b64 (by repeat (first | exact List.Mem.head _ | apply List.Mem.tail)) (by first | exact Nat.le_of_ble_eq_true rfl | omega | (simp only [bytesV_length, wordsV_length, List.length_cons, List.length_nil, List.length_replicate]; omega) | (simp only [bytesV_length, Sha.sha_length, List.length_replicate] <;> omega)) (by first | assumption | rfl))) rfl ?_
        refine Q_cons (still_call rfl rfl Try.func84 rfl (by kernel_rfl) (Nat.le_refl _) (fun w' _ => took_any _ _ hblk2 w')) rfl ?_
        refine Q_cons (Still1.of_pure (p_nilCheck rfl)) rfl ?_
        refine Q_cons (Still1.of_pure (by first | exact p_fieldAddr0 rfl fd_Run_1 | exact p_fieldAddr rfl fd_Run_1)) rfl ?_
        refine Q_nop ?_
        refine Q_nil ?_
        refine E_tail ?_
        refine R_cons rfl (op_storeRow rfl rfl (by first | exact bytesV_one _ | exact wordsV_one _ | (repeat (first | exact ones_nil | refine ones_cons rfl ?_))) row_eight (by first | assumption | rfl | (simp only [bytesV_length, wordsV_length]; omega) | (rw [bytesV_length]; exact Sha.sha_length _)) (by repeat (first | exact At.here | apply At.there)) (by first | exact Nat.le_of_ble_eq_true rfl | omega | (simp only [bytesV_length, wordsV_length, List.length_cons, List.length_nil, List.length_replicate]; omega) | (simp only [bytesV_length, Sha.sha_length, List.length_replicate] <;> omega)) ?_)
        refine R_nil ?_
        exact E_mid (by repeat (first | exact Sub.nil | refine Sub.cons rfl ?_)) (.keep (by rw [hst, run_setS]) .nil)
      · have hfew : al.length % 64 + k < 64 := by simp at h64; omega
        have hst := (rep_few (ys := ys.take k) hblk hrest (by omega)).2.2
        repeat (first | refine S_scope ?_ | refine S_label ?_ | refine E_noGoto_normal ?_ | refine E_noGoto_ret ?_ | refine E_noGoto_exit ?_ | refine S_yes rfl (by first | with_reducible rfl | decide) ?_ | refine S_no rfl (by first | with_reducible rfl | decide) ?_ | refine S_seq ?_ | refine E_seq ?_ | refine S_block ?_ | refine E_block_normal ?_ | refine S_skip ?_ | refine S_exit ?_ | refine S_ret ?_ | refine E_then_exit ?_ | refine E_then_ret ?_ | refine E_block_ret ?_ | refine E_block_exit ?_ | refine E_block_exit_other rfl ?_)
        exact E_mid (by repeat (first | exact Sub.nil | refine Sub.cons rfl ?_)) (.keep (by rw [hst]) .nil)
    · repeat (first | refine S_scope ?_ | refine S_label ?_ | refine E_noGoto_normal ?_ | refine E_noGoto_ret ?_ | refine E_noGoto_exit ?_ | refine S_yes rfl (by first | with_reducible rfl | decide) ?_ | refine S_no rfl (by first | with_reducible rfl | decide) ?_ | refine S_seq ?_ | refine E_seq ?_ | refine S_block ?_ | refine E_block_normal ?_ | refine S_skip ?_ | refine S_exit ?_ | refine S_ret ?_ | refine E_then_exit ?_ | refine E_then_ret ?_ | refine E_block_ret ?_ | refine E_block_exit ?_ | refine E_block_exit_other rfl ?_)
      refine S_region ?_
      refine R_cons rfl (op_pure (p_move rfl) rfl ?_)
      refine R_cons rfl (op_pure (p_move rfl) rfl ?_)
      refine R_cons rfl (op_pure (p_sliceFrom rfl rfl (by repeat (first | assumption | exact lit0 | exact lit1 | apply IntWalk.up_add | apply IntWalk.up_div | apply IntWalk.up_mod | apply IntWalk.up_mul | rfl)) slc_u8s (by omega)) rfl ?_)
      refine R_cons rfl (op_pure (p_assign rfl) rfl ?_)
      refine R_nil ?_
      repeat (first | refine S_scope ?_ | refine S_label ?_ | refine E_noGoto_normal ?_ | refine E_noGoto_ret ?_ | refine E_noGoto_exit ?_ | refine S_yes rfl (by first | with_reducible rfl | decide) ?_ | refine S_no rfl (by first | with_reducible rfl | decide) ?_ | refine S_seq ?_ | refine E_seq ?_ | refine S_block ?_ | refine E_block_normal ?_ | refine S_skip ?_ | refine S_exit ?_ | refine S_ret ?_ | refine E_then_exit ?_ | refine E_then_ret ?_ | refine E_block_ret ?_ | refine E_block_exit ?_ | refine E_block_exit_other rfl ?_)
      refine E_round (σ := PutsAt) (s := ⟨al, blk, A, c, ys⟩) ⟨al ++ ys.take k, blk2, cutA A c k, c - k, ys.drop k⟩ ⟨?_, hblk2, hF, ?_, ?_, ?_, ?_⟩ ?_ ?_ ?_
      · show al ++ ys.take k ++ ys.drop k = _
        rw [List.append_assoc, List.take_append_drop]; exact htot
      · show (ys.drop k).length ≤ c - k
        rw [List.length_drop]; omega
      · show c - k ≤ maxLen
        omega
      · show Reads w (cutA A c k) (ys.drop k).length (bytesV (ys.drop k))
        rw [List.length_drop, bytesV_drop]
        exact hrd.cut hky hnc
      · exact fun _ => cutA_block (hne (by omega))
      · show (ys.drop k).length < ys.length
        rw [List.length_drop]; omega
      · refine Sub.cons (by show some _ = some _; rw [List.length_drop]) (Sub.cons rfl Sub.nil)
      · exact .keep (by show _ = Obj.cells (runV (stOf (al ++ ys.take k)) blk2 (al.length + k)).toArray _ _; rw [hal2]) .nil
  · have hy0 : ys = [] := by simp at hge; exact hge
    subst hy0
    rw [List.append_nil] at htot
    subst htot
    repeat (first | refine S_scope ?_ | refine S_label ?_ | refine E_noGoto_normal ?_ | refine E_noGoto_ret ?_ | refine E_noGoto_exit ?_ | refine S_yes rfl (by first | with_reducible rfl | decide) ?_ | refine S_no rfl (by first | with_reducible rfl | decide) ?_ | refine S_seq ?_ | refine E_seq ?_ | refine S_block ?_ | refine E_block_normal ?_ | refine S_skip ?_ | refine S_exit ?_ | refine S_ret ?_ | refine E_then_exit ?_ | refine E_then_ret ?_ | refine E_block_ret ?_ | refine E_block_exit ?_ | refine E_block_exit_other rfl ?_)
    exact E_end0 rfl fun w' hm => ⟨rfl, _, ⟨blk, hblk, hrest, rfl⟩, hm⟩
end Go.Proofs.Ytfdlafjifjndeaa
