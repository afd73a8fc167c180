/-
  Proved: a key is its bits, from the highest one of its first byte on; unlike keys part at a depth. No condition.
-/
import Derived.Test.YthkogneaimjhjaaRows
import Derived.Test.YthkogneaimjhjaaKeys2
namespace Go.Proofs.Ythkogneaimjhjaa.keysBits
open Go.ChangeShapes Go.WideShapes Go.ChangeAt Go.Sha
open Go.RowKit Go.K
attribute [local irreducible] Exit.then Exit.inBlock Exit.noGoto bodyPost Code.wp QL Sx Rx Qx Ex Dx Op1 Pure1 Still1 K.Sub Calm Code.wpIn
attribute [local irreducible] sha bitN backP partP
set_option linter.unusedVariables false
theorem or2 : ∀ x : Nat, x < 128 → ∀ b : Nat, b < 2 → bits .or .u8 ((2 * x : Nat) : Int) (b : Int) = ((UInt8.ofNat (2 * x + b)).toNat : Int) := by decide +kernel
theorem bitZ_nat (k : List UInt8) (d : Nat) (h : d < 256) : bitZ k (d : Int) = bitN k d := by unfold bitZ; rw [if_pos (by omega), Int.toNat_natCast]

set_option maxHeartbeats 2000000 in
theorem walk (w : World) (k : List UInt8) (hk : k.length = 32) (o : List UInt8) (ho : o.length = 32) :
    Calls Try.prog 3 [.agg (bytesV k).toArray, .agg (bytesV o).toArray].toArray w fun e w' => e = .returned (.bool true) ∧ Below w.heap.size w w' := by
  have hbk : (bytesV k).length = 32 := by rw [bytesV_length, hk]
  have hbo : (bytesV o).length = 32 := by rw [bytesV_length, ho]
  refine enter Try.func3 rfl Try.ntmps3 (by simp) ?_
  repeat (first | refine S_scope ?_ | refine S_label ?_ | refine E_noGoto_normal ?_ | refine E_noGoto_ret ?_ | refine E_noGoto_exit ?_ | refine S_yes rfl (by first | with_reducible rfl | decide) ?_ | refine S_no rfl (by first | with_reducible rfl | decide) ?_ | refine S_seq ?_ | refine E_seq ?_ | refine S_block ?_ | refine E_block_normal ?_ | refine S_skip ?_ | refine S_exit ?_ | refine S_ret ?_ | refine E_then_exit ?_ | refine E_then_ret ?_ | refine E_block_ret ?_ | refine E_block_exit ?_ | refine E_block_exit_other rfl ?_)
  refine S_region ?_
  refine R_cons rfl (op_boxRow rfl rfl (Nat.le_refl _) (fun b2 => ?_))
  refine R_cons rfl (op_boxRow rfl rfl (Nat.le_refl _) (fun b3 => ?_))
  refine R_cons rfl (op_pure (p_assign rfl) rfl ?_)
  refine R_nil ?_
  repeat (first | refine S_scope ?_ | refine S_label ?_ | refine E_noGoto_normal ?_ | refine E_noGoto_ret ?_ | refine E_noGoto_exit ?_ | refine S_yes rfl (by first | with_reducible rfl | decide) ?_ | refine S_no rfl (by first | with_reducible rfl | decide) ?_ | refine S_seq ?_ | refine E_seq ?_ | refine S_block ?_ | refine E_block_normal ?_ | refine S_skip ?_ | refine S_exit ?_ | refine S_ret ?_ | refine E_then_exit ?_ | refine E_then_ret ?_ | refine E_block_ret ?_ | refine E_block_exit ?_ | refine E_block_exit_other rfl ?_)
  refine S_region ?_
  refine R_cons rfl (op_allocRow zero_Sum rfl (Nat.le_refl _) (fun b5 => ?_))
  refine R_nil ?_
  repeat (first | refine S_scope ?_ | refine S_label ?_ | refine E_noGoto_normal ?_ | refine E_noGoto_ret ?_ | refine E_noGoto_exit ?_ | refine S_yes rfl (by first | with_reducible rfl | decide) ?_ | refine S_no rfl (by first | with_reducible rfl | decide) ?_ | refine S_seq ?_ | refine E_seq ?_ | refine S_block ?_ | refine E_block_normal ?_ | refine S_skip ?_ | refine S_exit ?_ | refine S_ret ?_ | refine E_then_exit ?_ | refine E_then_ret ?_ | refine E_block_ret ?_ | refine E_block_exit ?_ | refine E_block_exit_other rfl ?_)
  refine S_region ?_
  refine R_cons rfl (op_pure (p_assign rfl) rfl ?_)
  refine R_nil ?_
  repeat (first | refine S_scope ?_ | refine S_label ?_ | refine E_noGoto_normal ?_ | refine E_noGoto_ret ?_ | refine E_noGoto_exit ?_ | refine S_yes rfl (by first | with_reducible rfl | decide) ?_ | refine S_no rfl (by first | with_reducible rfl | decide) ?_ | refine S_seq ?_ | refine E_seq ?_ | refine S_block ?_ | refine E_block_normal ?_ | refine S_skip ?_ | refine S_exit ?_ | refine S_ret ?_ | refine E_then_exit ?_ | refine E_then_ret ?_ | refine E_block_ret ?_ | refine E_block_exit ?_ | refine E_block_exit_other rfl ?_)
  refine S_region ?_
  refine R_cons rfl (op_pure (p_assign rfl) rfl ?_)
  refine R_nil ?_
  repeat (first | refine S_scope ?_ | refine S_label ?_ | refine E_noGoto_normal ?_ | refine E_noGoto_ret ?_ | refine E_noGoto_exit ?_ | refine S_yes rfl (by first | with_reducible rfl | decide) ?_ | refine S_no rfl (by first | with_reducible rfl | decide) ?_ | refine S_seq ?_ | refine E_seq ?_ | refine S_block ?_ | refine E_block_normal ?_ | refine S_skip ?_ | refine S_exit ?_ | refine S_ret ?_ | refine E_then_exit ?_ | refine E_then_ret ?_ | refine E_block_ret ?_ | refine E_block_exit ?_ | refine E_block_exit_other rfl ?_)
  refine S_loop (fun d : Nat => [(7, .int .i64 (d : Int)), (6, .bool (partP k o d)), (5, .pointer (some ⟨b5, 0, none⟩)), (3, .pointer (some ⟨b3, 0, none⟩)), (2, .pointer (some ⟨b2, 0, none⟩))])
    (fun d => [(b5, .cells (bytesV (backP k d)).toArray 23 (0, 0)), (b3, .cells (bytesV o).toArray 23 (0, 0)), (b2, .cells (bytesV k).toArray 23 (0, 0))])
    (fun d => d ≤ 256) (fun d => 256 - d) 0 (Nat.zero_le _) (Sub.cons rfl (Sub.cons (by show some _ = some _; unfold partP; rfl) (by repeat (first | exact Sub.nil | refine Sub.cons rfl ?_)))) (.keep (by rw [show backP k 0 = List.replicate 32 0 by unfold backP; rfl]) (Fewer.refl _)) ?_
  intro d hd
  have hbl := backP_length k d
  repeat (first | refine S_scope ?_ | refine S_label ?_ | refine E_noGoto_normal ?_ | refine E_noGoto_ret ?_ | refine E_noGoto_exit ?_ | refine S_yes rfl (by first | with_reducible rfl | decide) ?_ | refine S_no rfl (by first | with_reducible rfl | decide) ?_ | refine S_seq ?_ | refine E_seq ?_ | refine S_block ?_ | refine E_block_normal ?_ | refine S_skip ?_ | refine S_exit ?_ | refine S_ret ?_ | refine E_then_exit ?_ | refine E_then_ret ?_ | refine E_block_ret ?_ | refine E_block_exit ?_ | refine E_block_exit_other rfl ?_)
  refine S_region ?_
  refine R_cons rfl (op_pure (p_move rfl) rfl ?_)
  refine R_cons rfl (op_pure (p_bin rfl rfl (b_lss rfl)) rfl ?_)
  refine R_nil ?_
  repeat (first | refine S_scope ?_ | refine S_label ?_ | refine E_noGoto_normal ?_ | refine E_noGoto_ret ?_ | refine E_noGoto_exit ?_ | refine S_yes rfl (by first | with_reducible rfl | decide) ?_ | refine S_no rfl (by first | with_reducible rfl | decide) ?_ | refine S_seq ?_ | refine E_seq ?_ | refine S_block ?_ | refine E_block_normal ?_ | refine S_skip ?_ | refine S_exit ?_ | refine S_ret ?_ | refine E_then_exit ?_ | refine E_then_ret ?_ | refine E_block_ret ?_ | refine E_block_exit ?_ | refine E_block_exit_other rfl ?_)
  refine S_cond rfl (fun hlt => ?_) (fun hge => ?_)
  · have hd' : d < 256 := by have := of_decide_eq_true hlt; omega
    clear hlt
    have hb2 := bitN_lt k d
    repeat (first | refine S_scope ?_ | refine S_label ?_ | refine E_noGoto_normal ?_ | refine E_noGoto_ret ?_ | refine E_noGoto_exit ?_ | refine S_yes rfl (by first | with_reducible rfl | decide) ?_ | refine S_no rfl (by first | with_reducible rfl | decide) ?_ | refine S_seq ?_ | refine E_seq ?_ | refine S_block ?_ | refine E_block_normal ?_ | refine S_skip ?_ | refine S_exit ?_ | refine S_ret ?_ | refine E_then_exit ?_ | refine E_then_ret ?_ | refine E_block_ret ?_ | refine E_block_exit ?_ | refine E_block_exit_other rfl ?_)
    refine S_region ?_
    refine R_cons rfl (op_pure (by first | exact p_loadRow rfl row_Sum (by repeat (first | exact List.Mem.head _ | apply List.Mem.tail)) (by first | assumption | rfl | (simp only [bytesV_length, wordsV_length]; omega)) | exact p_loadPart rfl row_Sum (by repeat (first | exact List.Mem.head _ | apply List.Mem.tail)) (by first | exact Nat.le_of_ble_eq_true rfl | omega | (simp only [bytesV_length, wordsV_length, List.length_cons, List.length_nil, List.length_replicate]; omega) | (simp only [bytesV_length, Sha.sha_length, List.length_replicate] <;> omega)) (by first | assumption | rfl)) rfl ?_)
    refine R_cons rfl (op_pure (p_move rfl) rfl ?_)
    refine R_cons rfl (op_callV rfl rfl Try.func15 rfl (by kernel_rfl) rfl (Nat.le_refl _) (fun w' _ => by have h := bit_any k hk (d : Int) (by omega) w'; rw [bitZ_nat k d hd'] at h; exact h) ?_)
    refine R_cons rfl (op_pure (p_assign rfl) rfl ?_)
    refine R_nil ?_
    repeat (first | refine S_scope ?_ | refine S_label ?_ | refine E_noGoto_normal ?_ | refine E_noGoto_ret ?_ | refine E_noGoto_exit ?_ | refine S_yes rfl (by first | with_reducible rfl | decide) ?_ | refine S_no rfl (by first | with_reducible rfl | decide) ?_ | refine S_seq ?_ | refine E_seq ?_ | refine S_block ?_ | refine E_block_normal ?_ | refine S_skip ?_ | refine S_exit ?_ | refine S_ret ?_ | refine E_then_exit ?_ | refine E_then_ret ?_ | refine E_block_ret ?_ | refine E_block_exit ?_ | refine E_block_exit_other rfl ?_)
    refine S_cut [(21, .bool false), (8, .int .i64 (bitN k d : Int)), (7, .int .i64 (d : Int)), (6, .bool (partP k o d)), (5, .pointer (some ⟨b5, 0, none⟩)), (3, .pointer (some ⟨b3, 0, none⟩)), (2, .pointer (some ⟨b2, 0, none⟩))]
      [(b5, .cells (bytesV (backP k d)).toArray 23 (0, 0)), (b3, .cells (bytesV o).toArray 23 (0, 0)), (b2, .cells (bytesV k).toArray 23 (0, 0))] ?_ ?_
    · rcases (by omega : bitN k d = 0 ∨ bitN k d = 1) with h | h
      · rw [h]
        clear h hb2
        refine S_region ?_
        refine R_cons rfl (op_pure (p_move rfl) rfl ?_)
        refine R_cons rfl (op_pure (p_bin (r := .bool false) rfl rfl (b_neq rfl)) rfl ?_)
        refine R_cons rfl (op_pure (p_move rfl) rfl ?_)
        first | refine R_pass rfl rfl rfl rfl ?_ | refine R_pass_undef rfl rfl rfl ?_ | refine R_guard rfl rfl rfl (op_pure (p_move rfl) rfl ?_)
        first | refine R_pass rfl rfl rfl rfl ?_ | refine R_pass_undef rfl rfl rfl ?_ | refine R_guard rfl rfl rfl (op_pure (p_bin rfl rfl (b_neq (by first | assumption | exact bne_iff_ne.2 (by omega) | exact bne_eq_false_iff_eq.2 (by omega) | rfl))) rfl ?_)
        refine R_cons rfl (op_pure (by first | exact p_pick_yes rfl rfl | exact p_pick_no rfl rfl | exact p_pick rfl rfl rfl) rfl ?_)
        refine R_nil ?_
        exact E_mid (by repeat (first | exact Sub.nil | refine Sub.cons rfl ?_)) (Fewer.refl _)
      · rw [h]
        clear h hb2
        refine S_region ?_
        refine R_cons rfl (op_pure (p_move rfl) rfl ?_)
        refine R_cons rfl (op_pure (p_bin (r := .bool true) rfl rfl (b_neq rfl)) rfl ?_)
        refine R_cons rfl (op_pure (p_move rfl) rfl ?_)
        first | refine R_pass rfl rfl rfl rfl ?_ | refine R_pass_undef rfl rfl rfl ?_ | refine R_guard rfl rfl rfl (op_pure (p_move rfl) rfl ?_)
        first | refine R_pass rfl rfl rfl rfl ?_ | refine R_pass_undef rfl rfl rfl ?_ | refine R_guard rfl rfl rfl (op_pure (p_bin (r := .bool false) rfl rfl (b_neq rfl)) rfl ?_)
        refine R_cons rfl (op_pure (by first | exact p_pick_yes rfl rfl | exact p_pick_no rfl rfl | exact p_pick rfl rfl rfl) rfl ?_)
        refine R_nil ?_
        exact E_mid (by repeat (first | exact Sub.nil | refine Sub.cons rfl ?_)) (Fewer.refl _)
    have hx := backP_half k d hd'
    have hstep : (backP k d).set (d / 8) (UInt8.ofNat (2 * ((backP k d).getD (d / 8) 0).toNat + bitN k d)) = backP k (d + 1) := by rw [backP]
    have hh := And.intro (or2 _ hx _ hb2) (And.intro (show IntKind.u8.wrap ((((backP k d).getD (d / 8) 0).toNat : Int) * 2 ^ (1 : Int).toNat) = ((2 * ((backP k d).getD (d / 8) 0).toNat : Nat) : Int) by rw [IntKind.wrap_u8, show (2 : Int) ^ (1 : Int).toNat = 2 from rfl]; generalize ((backP k d).getD (d / 8) 0).toNat = x at hx; omega) (show IntKind.u8.wrap (bitN k d : Int) = (bitN k d : Int) from w_in_u8 (by omega)))
    clear hx
    repeat (first | refine S_scope ?_ | refine S_label ?_ | refine E_noGoto_normal ?_ | refine E_noGoto_ret ?_ | refine E_noGoto_exit ?_ | refine S_yes rfl (by first | with_reducible rfl | decide) ?_ | refine S_no rfl (by first | with_reducible rfl | decide) ?_ | refine S_seq ?_ | refine E_seq ?_ | refine S_block ?_ | refine E_block_normal ?_ | refine S_skip ?_ | refine S_exit ?_ | refine S_ret ?_ | refine E_then_exit ?_ | refine E_then_ret ?_ | refine E_block_ret ?_ | refine E_block_exit ?_ | refine E_block_exit_other rfl ?_)
    refine S_region ?_
    refine R_cons rfl (op_pure (p_move rfl) rfl ?_)
    refine R_cons rfl (op_pure (p_bin rfl rfl (b_quo (by decide) (nat_quo_i64 d 8 (by omega)))) rfl ?_)
    refine R_cons rfl (op_pure (p_move rfl) rfl ?_)
    refine R_cons rfl (op_pure (p_bin rfl rfl (b_quo (by decide) (nat_quo_i64 d 8 (by omega)))) rfl ?_)
    refine R_cons rfl (op_pure (p_indexArr0 (j := d / 8) rfl rfl rfl arr_Sum (by omega)) rfl ?_)
    refine R_cons rfl (op_pure (p_load rfl sc_u8 (by repeat (first | exact List.Mem.head _ | apply List.Mem.tail)) (bytesV_get (by omega))) rfl ?_)
    refine R_cons rfl (op_pure (p_bin rfl rfl (b_shl (by decide) (by decide) hh.2.1)) rfl ?_)
    refine R_cons rfl (op_pure (p_move rfl) rfl ?_)
    refine R_cons rfl (op_pure (p_convert rfl sc_int ik_u8 hh.2.2) rfl ?_)
    refine R_cons rfl (op_pure (p_bin rfl rfl (b_or hh.1)) rfl ?_)
    refine R_cons rfl (op_pure (p_indexArr0 (j := d / 8) rfl rfl rfl arr_Sum (by omega)) rfl ?_)
    refine R_cons rfl (op_store rfl rfl rfl sc_u8 (by repeat (first | exact At.here | apply At.there)) (by first | exact Nat.le_of_ble_eq_true rfl | omega | (simp only [bytesV_length, wordsV_length]; omega) | (simp only [bytesV_length, wordsV_length, List.length_cons, List.length_nil, List.length_set, List.length_append]; omega) | decide) ?_)
    refine R_nil ?_
    repeat (first | refine S_scope ?_ | refine S_label ?_ | refine E_noGoto_normal ?_ | refine E_noGoto_ret ?_ | refine E_noGoto_exit ?_ | refine S_yes rfl (by first | with_reducible rfl | decide) ?_ | refine S_no rfl (by first | with_reducible rfl | decide) ?_ | refine S_seq ?_ | refine E_seq ?_ | refine S_block ?_ | refine E_block_normal ?_ | refine S_skip ?_ | refine S_exit ?_ | refine S_ret ?_ | refine E_then_exit ?_ | refine E_then_ret ?_ | refine E_block_ret ?_ | refine E_block_exit ?_ | refine E_block_exit_other rfl ?_)
    rw [bytesV_set, hstep]
    clear hh hstep
    refine S_cut [(7, .int .i64 (d : Int)), (6, .bool (partP k o (d + 1))), (5, .pointer (some ⟨b5, 0, none⟩)), (3, .pointer (some ⟨b3, 0, none⟩)), (2, .pointer (some ⟨b2, 0, none⟩))]
      [(b5, .cells (bytesV (backP k (d + 1))).toArray 23 (0, 0)), (b3, .cells (bytesV o).toArray 23 (0, 0)), (b2, .cells (bytesV k).toArray 23 (0, 0))] ?_ ?_
    · have hps : partP k o (d + 1) = (partP k o d || (bitN k d != bitN o d)) := by rw [partP]
      have hne : (((bitN k d : Nat) : Int) != ((bitN o d : Nat) : Int)) = (bitN k d != bitN o d) := by
        by_cases e : bitN k d = bitN o d
        · rw [e]; simp
        · rw [bne_iff_ne.2 e, bne_iff_ne.2 (by omega)]
      cases hp : partP k o d with
      | true =>
        refine S_region ?_
        refine R_cons rfl (op_pure (p_move rfl) rfl ?_)
        refine R_cons rfl (op_pure (p_move rfl) rfl ?_)
        first | refine R_pass rfl rfl rfl rfl ?_ | refine R_pass_undef rfl rfl rfl ?_ | refine R_guard rfl rfl rfl (op_pure (p_move rfl) rfl ?_)
        first | refine R_pass rfl rfl rfl rfl ?_ | refine R_pass_undef rfl rfl rfl ?_ | refine R_guard rfl rfl rfl (op_pure (by first | exact p_loadRow rfl row_Sum (by repeat (first | exact List.Mem.head _ | apply List.Mem.tail)) (by first | assumption | rfl | (simp only [bytesV_length, wordsV_length]; omega)) | exact p_loadPart rfl row_Sum (by repeat (first | exact List.Mem.head _ | apply List.Mem.tail)) (by first | exact Nat.le_of_ble_eq_true rfl | omega | (simp only [bytesV_length, wordsV_length, List.length_cons, List.length_nil, List.length_replicate]; omega) | (simp only [bytesV_length, Sha.sha_length, List.length_replicate] <;> omega)) (by first | assumption | rfl)) rfl ?_)
        first | refine R_pass rfl rfl rfl rfl ?_ | refine R_pass_undef rfl rfl rfl ?_ | refine R_guard rfl rfl rfl (op_pure (p_move rfl) rfl ?_)
        first | refine R_pass rfl rfl rfl rfl ?_ | refine R_pass_undef rfl rfl rfl ?_ | refine R_guard rfl rfl rfl (op_callV rfl rfl Try.func15 rfl (by kernel_rfl) rfl (Nat.le_refl _) (fun w' _ => by have h := bit_any o ho (d : Int) (by omega) w'; rw [bitZ_nat o d hd'] at h; exact h) ?_)
        first | refine R_pass rfl rfl rfl rfl ?_ | refine R_pass_undef rfl rfl rfl ?_ | refine R_guard rfl rfl rfl (op_pure (p_bin rfl rfl (b_neq hne)) rfl ?_)
        refine R_cons rfl (op_pure (by first | exact p_pick_yes rfl rfl | exact p_pick_no rfl rfl | exact p_pick rfl rfl rfl) rfl ?_)
        refine R_cons rfl (op_pure (p_assign rfl) rfl ?_)
        refine R_nil ?_
        exact E_mid (Sub.cons rfl (Sub.cons (by rw [hps, hp]; rfl) (by repeat (first | exact Sub.nil | refine Sub.cons rfl ?_)))) (Fewer.refl _)
      | false =>
        refine S_region ?_
        refine R_cons rfl (op_pure (p_move rfl) rfl ?_)
        refine R_cons rfl (op_pure (p_move rfl) rfl ?_)
        first | refine R_pass rfl rfl rfl rfl ?_ | refine R_pass_undef rfl rfl rfl ?_ | refine R_guard rfl rfl rfl (op_pure (p_move rfl) rfl ?_)
        first | refine R_pass rfl rfl rfl rfl ?_ | refine R_pass_undef rfl rfl rfl ?_ | refine R_guard rfl rfl rfl (op_pure (by first | exact p_loadRow rfl row_Sum (by repeat (first | exact List.Mem.head _ | apply List.Mem.tail)) (by first | assumption | rfl | (simp only [bytesV_length, wordsV_length]; omega)) | exact p_loadPart rfl row_Sum (by repeat (first | exact List.Mem.head _ | apply List.Mem.tail)) (by first | exact Nat.le_of_ble_eq_true rfl | omega | (simp only [bytesV_length, wordsV_length, List.length_cons, List.length_nil, List.length_replicate]; omega) | (simp only [bytesV_length, Sha.sha_length, List.length_replicate] <;> omega)) (by first | assumption | rfl)) rfl ?_)
        first | refine R_pass rfl rfl rfl rfl ?_ | refine R_pass_undef rfl rfl rfl ?_ | refine R_guard rfl rfl rfl (op_pure (p_move rfl) rfl ?_)
        first | refine R_pass rfl rfl rfl rfl ?_ | refine R_pass_undef rfl rfl rfl ?_ | refine R_guard rfl rfl rfl (op_callV rfl rfl Try.func15 rfl (by kernel_rfl) rfl (Nat.le_refl _) (fun w' _ => by have h := bit_any o ho (d : Int) (by omega) w'; rw [bitZ_nat o d hd'] at h; exact h) ?_)
        first | refine R_pass rfl rfl rfl rfl ?_ | refine R_pass_undef rfl rfl rfl ?_ | refine R_guard rfl rfl rfl (op_pure (p_bin rfl rfl (b_neq hne)) rfl ?_)
        refine R_cons rfl (op_pure (by first | exact p_pick_yes rfl rfl | exact p_pick_no rfl rfl | exact p_pick rfl rfl rfl) rfl ?_)
        refine R_cons rfl (op_pure (p_assign rfl) rfl ?_)
        refine R_nil ?_
        exact E_mid (Sub.cons rfl (Sub.cons (by rw [hps, hp]; rfl) (by repeat (first | exact Sub.nil | refine Sub.cons rfl ?_)))) (Fewer.refl _)
    repeat (first | refine S_scope ?_ | refine S_label ?_ | refine E_noGoto_normal ?_ | refine E_noGoto_ret ?_ | refine E_noGoto_exit ?_ | refine S_yes rfl (by first | with_reducible rfl | decide) ?_ | refine S_no rfl (by first | with_reducible rfl | decide) ?_ | refine S_seq ?_ | refine E_seq ?_ | refine S_block ?_ | refine E_block_normal ?_ | refine S_skip ?_ | refine S_exit ?_ | refine S_ret ?_ | refine E_then_exit ?_ | refine E_then_ret ?_ | refine E_block_ret ?_ | refine E_block_exit ?_ | refine E_block_exit_other rfl ?_)
    refine S_region ?_
    refine R_cons rfl (op_pure (p_move rfl) rfl ?_)
    refine R_cons rfl (op_pure (by exact p_bin rfl rfl (b_add (w_in_i64 (by omega)))) rfl ?_)
    refine R_cons rfl (op_pure (p_assign rfl) rfl ?_)
    refine R_nil ?_
    repeat (first | refine S_scope ?_ | refine S_label ?_ | refine E_noGoto_normal ?_ | refine E_noGoto_ret ?_ | refine E_noGoto_exit ?_ | refine S_yes rfl (by first | with_reducible rfl | decide) ?_ | refine S_no rfl (by first | with_reducible rfl | decide) ?_ | refine S_seq ?_ | refine E_seq ?_ | refine S_block ?_ | refine E_block_normal ?_ | refine S_skip ?_ | refine S_exit ?_ | refine S_ret ?_ | refine E_then_exit ?_ | refine E_then_ret ?_ | refine E_block_ret ?_ | refine E_block_exit ?_ | refine E_block_exit_other rfl ?_)
    exact E_round (d + 1) (by omega) (by omega) (by repeat (first | exact Sub.nil | refine Sub.cons rfl ?_)) (Fewer.refl _)
  have hd' : d = 256 := by have := of_decide_eq_false hge; omega
  subst hd'
  have hpa := partP_all k o hk ho
  rw [backP_all k hk]
  repeat (first | refine S_scope ?_ | refine S_label ?_ | refine E_noGoto_normal ?_ | refine E_noGoto_ret ?_ | refine E_noGoto_exit ?_ | refine S_yes rfl (by first | with_reducible rfl | decide) ?_ | refine S_no rfl (by first | with_reducible rfl | decide) ?_ | refine S_seq ?_ | refine E_seq ?_ | refine S_block ?_ | refine E_block_normal ?_ | refine S_skip ?_ | refine S_exit ?_ | refine S_ret ?_ | refine E_then_exit ?_ | refine E_then_ret ?_ | refine E_block_ret ?_ | refine E_block_exit ?_ | refine E_block_exit_other rfl ?_)
  refine S_region ?_
  refine R_cons rfl (op_callV rfl rfl Try.func16 rfl (by kernel_rfl) rfl (Nat.le_refl _) (fun w' _ => alive14 w') ?_)
  refine R_cons rfl (op_pure (p_move rfl) rfl ?_)
  first | refine R_pass rfl rfl rfl rfl ?_ | refine R_pass_undef rfl rfl rfl ?_ | refine R_guard rfl rfl rfl (op_pure (by first | exact p_loadRow rfl row_Sum (by repeat (first | exact List.Mem.head _ | apply List.Mem.tail)) (by first | assumption | rfl | (simp only [bytesV_length, wordsV_length]; omega)) | exact p_loadPart rfl row_Sum (by repeat (first | exact List.Mem.head _ | apply List.Mem.tail)) (by first | exact Nat.le_of_ble_eq_true rfl | omega | (simp only [bytesV_length, wordsV_length, List.length_cons, List.length_nil, List.length_replicate]; omega) | (simp only [bytesV_length, Sha.sha_length, List.length_replicate] <;> omega)) (by first | assumption | rfl)) rfl ?_)
  first | refine R_pass rfl rfl rfl rfl ?_ | refine R_pass_undef rfl rfl rfl ?_ | refine R_guard rfl rfl rfl (op_pure (by first | exact p_loadRow rfl row_Sum (by repeat (first | exact List.Mem.head _ | apply List.Mem.tail)) (by first | assumption | rfl | (simp only [bytesV_length, wordsV_length]; omega)) | exact p_loadPart rfl row_Sum (by repeat (first | exact List.Mem.head _ | apply List.Mem.tail)) (by first | exact Nat.le_of_ble_eq_true rfl | omega | (simp only [bytesV_length, wordsV_length, List.length_cons, List.length_nil, List.length_replicate]; omega) | (simp only [bytesV_length, Sha.sha_length, List.length_replicate] <;> omega)) (by first | assumption | rfl)) rfl ?_)
  first | refine R_pass rfl rfl rfl rfl ?_ | refine R_pass_undef rfl rfl rfl ?_ | refine R_guard rfl rfl rfl (op_pure (by exact p_eql_bytesR rfl rfl arr_Sum.1 Try.underlying5 (by kernel_rfl) (by kernel_rfl) (by first | assumption | exact Sha.sha_length _ | exact Sha.hmac_length _ _ | rfl) (by first | assumption | exact Sha.sha_length _ | exact Sha.hmac_length _ _ | rfl) (by first | assumption | exact beq_self_eq_true _ | rfl)) rfl ?_)
  refine R_cons rfl (op_pure (by first | exact p_pick_yes rfl rfl | exact p_pick_no rfl rfl | exact p_pick rfl rfl rfl) rfl ?_)
  refine R_cons rfl (op_pure (p_move rfl) rfl ?_)
  first | refine R_pass rfl rfl rfl rfl ?_ | refine R_pass_undef rfl rfl rfl ?_ | refine R_guard rfl rfl rfl (op_pure (p_move rfl) rfl ?_)
  first | refine R_pass rfl rfl rfl rfl ?_ | refine R_pass_undef rfl rfl rfl ?_ | refine R_guard rfl rfl rfl (op_pure (by first | exact p_loadRow rfl row_Sum (by repeat (first | exact List.Mem.head _ | apply List.Mem.tail)) (by first | assumption | rfl | (simp only [bytesV_length, wordsV_length]; omega)) | exact p_loadPart rfl row_Sum (by repeat (first | exact List.Mem.head _ | apply List.Mem.tail)) (by first | exact Nat.le_of_ble_eq_true rfl | omega | (simp only [bytesV_length, wordsV_length, List.length_cons, List.length_nil, List.length_replicate]; omega) | (simp only [bytesV_length, Sha.sha_length, List.length_replicate] <;> omega)) (by first | assumption | rfl)) rfl ?_)
  first | refine R_pass rfl rfl rfl rfl ?_ | refine R_pass_undef rfl rfl rfl ?_ | refine R_guard rfl rfl rfl (op_pure (by first | exact p_loadRow rfl row_Sum (by repeat (first | exact List.Mem.head _ | apply List.Mem.tail)) (by first | assumption | rfl | (simp only [bytesV_length, wordsV_length]; omega)) | exact p_loadPart rfl row_Sum (by repeat (first | exact List.Mem.head _ | apply List.Mem.tail)) (by first | exact Nat.le_of_ble_eq_true rfl | omega | (simp only [bytesV_length, wordsV_length, List.length_cons, List.length_nil, List.length_replicate]; omega) | (simp only [bytesV_length, Sha.sha_length, List.length_replicate] <;> omega)) (by first | assumption | rfl)) rfl ?_)
  first | refine R_pass rfl rfl rfl rfl ?_ | refine R_pass_undef rfl rfl rfl ?_ | refine R_guard rfl rfl rfl (op_pure (by exact p_neq_bytesR rfl rfl arr_Sum.1 Try.underlying5 (by kernel_rfl) (by kernel_rfl) (by first | assumption | exact Sha.sha_length _ | exact Sha.hmac_length _ _ | rfl) (by first | assumption | exact Sha.sha_length _ | exact Sha.hmac_length _ _ | rfl) (by first | assumption | exact not_self | rfl)) rfl ?_)
  first | refine R_pass rfl rfl rfl rfl ?_ | refine R_pass_undef rfl rfl rfl ?_ | refine R_guard rfl rfl rfl (op_pure (p_bin_bool rfl rfl (b_eql_bool ut_bool (by first | assumption | exact beq_self_eq_true _ | rfl))) rfl ?_)
  refine R_cons rfl (op_pure (by first | exact p_pick_yes rfl rfl | exact p_pick_no rfl rfl | exact p_pick rfl rfl rfl) rfl ?_)
  refine R_cons rfl (op_pure (p_assign rfl) rfl ?_)
  refine R_nil ?_
  repeat (first | refine S_scope ?_ | refine S_label ?_ | refine E_noGoto_normal ?_ | refine E_noGoto_ret ?_ | refine E_noGoto_exit ?_ | refine S_yes rfl (by first | with_reducible rfl | decide) ?_ | refine S_no rfl (by first | with_reducible rfl | decide) ?_ | refine S_seq ?_ | refine E_seq ?_ | refine S_block ?_ | refine E_block_normal ?_ | refine S_skip ?_ | refine S_exit ?_ | refine S_ret ?_ | refine E_then_exit ?_ | refine E_then_ret ?_ | refine E_block_ret ?_ | refine E_block_exit ?_ | refine E_block_exit_other rfl ?_)
  exact E_ret1 rfl rfl fun w' hm => ⟨rfl, hm.below⟩

theorem own : ownKnob Try.prog.godebug = none := by kernel_rfl
theorem laidOut : laidOutB Try.prog = true := by kernel_rfl
set_option maxRecDepth 100000 in
theorem lifted (os : Os) (started : os.Started) (H : Type) (enc : TypeId × Value → H) :
    ReturnsInHanded {} Try.checked os 3 .any (Rows.keysBitsSpec.pre6 enc Try.prog Try.f3 Rows.keysBitsRow.domain false) (Rows.keysBitsSpec.post enc Try.prog Try.f3 false true false false) := by
  refine returnsInHanded_of_change (C := Try.checked) own started (by kernel_rfl) Try.func3
    (ChangeSpec.witness6 (enc := enc) (C := Try.checked) false ⟨#[], #[.agg #[.int .u8 0, .int .u8 0, .int .u8 0, .int .u8 0, .int .u8 0, .int .u8 0, .int .u8 0, .int .u8 0, .int .u8 0, .int .u8 0, .int .u8 0, .int .u8 0, .int .u8 0, .int .u8 0, .int .u8 0, .int .u8 0, .int .u8 0, .int .u8 0, .int .u8 0, .int .u8 0, .int .u8 0, .int .u8 0, .int .u8 0, .int .u8 0, .int .u8 0, .int .u8 0, .int .u8 0, .int .u8 0, .int .u8 0, .int .u8 0, .int .u8 0, .int .u8 0], .agg #[.int .u8 0, .int .u8 0, .int .u8 0, .int .u8 0, .int .u8 0, .int .u8 0, .int .u8 0, .int .u8 0, .int .u8 0, .int .u8 0, .int .u8 0, .int .u8 0, .int .u8 0, .int .u8 0, .int .u8 0, .int .u8 0, .int .u8 0, .int .u8 0, .int .u8 0, .int .u8 0, .int .u8 0, .int .u8 0, .int .u8 0, .int .u8 0, .int .u8 0, .int .u8 0, .int .u8 0, .int .u8 0, .int .u8 0, .int .u8 0, .int .u8 0, .int .u8 0]], []⟩ 8 (by kernel_rfl) (by kernel_rfl) (by kernel_rfl) (by kernel_rfl)) ?_
  intro W base args ds gs before hval0 hW hcnd _
  have hval : ∀ (j : Nat) t v, Try.f3.params[j]? = some t → args[j]? = some v → Value.okWide Try.prog W .any base t v := hval0
  have hW' := hW
  obtain ⟨p, q, hA0, hV, rfl, hfz, hnd⟩ := hW
  have hA : DataW.TrodAll enc Try.prog W 0 (fun _ => true) true Try.f3.params.toList args.toList ds p := hA0
  rw [Try.params3] at hA hval
  obtain ⟨v0, vs0, d0, ds0, p0, q0, hargs, rfl, rfl, h0, r0⟩ := trodAll_cons hA
  obtain ⟨v1, vs1, d1, ds1, p1, q1, rfl, rfl, rfl, h1, r1⟩ := trodAll_cons r0
  obtain ⟨rfl, rfl, rfl⟩ := trodAll_nil r1
  obtain rfl : args = #[v0, v1] := by cases args; simp_all
  obtain ⟨rfl, rfl⟩ := trodVars_none hV
  have k0 := h0
  have lt0 : ∀ x ∈ p0, x.block < W.heap.size := by obtain ⟨m, hm⟩ := k0; exact DataW.trod_lt m _ _ _ hm
  have k1 := h1
  have lt1 : ∀ x ∈ p1, x.block < W.heap.size := by obtain ⟨m, hm⟩ := k1; exact DataW.trod_lt m _ _ _ hm
  obtain ⟨a0, rfl, l0⟩ := arg_bytes Try.underlying23 Try.underlying5 (by kernel_rfl) (by kernel_rfl) (hval 0 23 v0 rfl rfl) k0
  obtain ⟨a1, rfl, l1⟩ := arg_bytes Try.underlying23 Try.underlying5 (by kernel_rfl) (by kernel_rfl) (hval 1 23 v1 rfl rfl) k1
  clear hA0 hval0
  refine (walk W a0 l0 a1 l1).mono fun e W' ⟨he, bel⟩ => ?_
  subst he
  exact ⟨_, rfl, _, _, _, [], _, [], hW', trodAll_mk1 (shut_bool Try.underlying4 _), (trodAll_cons_mk (Below.trod laidOut (by kernel_rfl) (of_decide_eq_true (by kernel_rfl)) k0 bel lt0) (trodAll_cons_mk (Below.trod laidOut (by kernel_rfl) (of_decide_eq_true (by kernel_rfl)) k1 bel lt1) trodAll_mk0)), rfl, bel.frame _, fun h => by cases h⟩
/-- The statement. -/
theorem proved : Rows.KeysBitsSaid :=
  OpenClaim.holds_of_wide 3 Try.f3 rfl rfl rfl rfl rfl rfl rfl ⟨rfl, rfl, rfl, rfl, rfl⟩ rfl rfl rfl rfl rfl (by kernel_rfl) Try.func3 (by kernel_rfl)
    (of_decide_eq_true (by kernel_rfl)) (by unfold Func.isWrapper; first | (rw [if_pos (by decide +kernel)]; kernel_rfl) | (rw [if_neg (by decide +kernel)]; exact ⟨rfl, rfl⟩))
    (fun os started H enc _ => lifted os started H enc)
#print axioms proved
end Go.Proofs.Ythkogneaimjhjaa.keysBits
