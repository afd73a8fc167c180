/-
  The chapter's document on sums: the end, and the sum of bytes.
-/
import Derived.Test.YtfdlafjifjndeaaSha4
namespace Go.Proofs.Ytfdlafjifjndeaa
open Go.Sha
open Go.RowKit Go.K
attribute [local irreducible] Exit.then Exit.inBlock Exit.noGoto bodyPost Code.wp QL Sx Rx Qx Ex Dx Op1 Pure1 Still1 K.Sub Calm Code.wpIn
attribute [local irreducible] took pad be zeros blocks outB sha Buf.hp Buf.cap Buf.addr
set_option linter.unusedVariables false

set_option maxHeartbeats 1000000 in
theorem end_any (n : Nat) (hn : n ≤ 1000000000000) (w : World) :
    Calls Try.prog 75 [.int .i64 (n : Int)].toArray w fun e w' => ∃ g sp, e = .returned (Buf.val (some (g, sp)) (pad n)) ∧ Buf.ok (some (g, sp)) (pad n) ∧ w.heap.size ≤ g ∧ w'.heap[g]? = some (.cells (bytesV (pad n) ++ sp).toArray 5 (0, 0)) ∧ Below w.heap.size w w' := by
  have hz := zeros_le n
  refine enter Try.func75 rfl Try.ntmps75 (by simp) ?_
  repeat (first | refine S_scope ?_ | refine S_label ?_ | refine E_noGoto_normal ?_ | refine E_noGoto_ret ?_ | refine E_noGoto_exit ?_ | refine S_yes rfl (by first | with_reducible rfl | decide) ?_ | refine S_no rfl (by first | with_reducible rfl | decide) ?_ | refine S_seq ?_ | refine E_seq ?_ | refine S_block ?_ | refine E_block_normal ?_ | refine S_skip ?_ | refine S_exit ?_ | refine S_ret ?_ | refine E_then_exit ?_ | refine E_then_ret ?_ | refine E_block_ret ?_ | refine E_block_exit ?_ | refine E_block_exit_other rfl ?_)
  refine S_region ?_
  refine R_cons rfl (op_pure (p_assign rfl) rfl ?_)
  refine R_nil ?_
  repeat (first | refine S_scope ?_ | refine S_label ?_ | refine E_noGoto_normal ?_ | refine E_noGoto_ret ?_ | refine E_noGoto_exit ?_ | refine S_yes rfl (by first | with_reducible rfl | decide) ?_ | refine S_no rfl (by first | with_reducible rfl | decide) ?_ | refine S_seq ?_ | refine E_seq ?_ | refine S_block ?_ | refine E_block_normal ?_ | refine S_skip ?_ | refine S_exit ?_ | refine S_ret ?_ | refine E_then_exit ?_ | refine E_then_ret ?_ | refine E_block_ret ?_ | refine E_block_exit ?_ | refine E_block_exit_other rfl ?_)
  refine S_region ?_
  refine R_cons rfl (op_buildSliceAll (ps := [(0, .const (.int .u8 128))]) rfl slc_u8s.1 el_u8 (by decide) (by decide) (by first | kernel_rfl | rfl) rfl (Nat.le_refl _) (fun b5 => ?_))
  refine R_cons rfl (op_pure (p_assign rfl) rfl ?_)
  refine R_nil ?_
  repeat (first | refine S_scope ?_ | refine S_label ?_ | refine E_noGoto_normal ?_ | refine E_noGoto_ret ?_ | refine E_noGoto_exit ?_ | refine S_yes rfl (by first | with_reducible rfl | decide) ?_ | refine S_no rfl (by first | with_reducible rfl | decide) ?_ | refine S_seq ?_ | refine E_seq ?_ | refine S_block ?_ | refine E_block_normal ?_ | refine S_skip ?_ | refine S_exit ?_ | refine S_ret ?_ | refine E_then_exit ?_ | refine E_then_ret ?_ | refine E_block_ret ?_ | refine E_block_exit ?_ | refine E_block_exit_other rfl ?_)
  refine S_loop (σ := Nat × Buf) (fun s => [(3, s.2.val (128 :: List.replicate s.1 0)), (0, .int .i64 (n : Int))]) (fun s => s.2.hp 5 (128 :: List.replicate s.1 0))
    (fun s => s.1 ≤ zeros n ∧ s.2.ok (128 :: List.replicate s.1 0)) (fun s => zeros n - s.1) (0, some (b5, [])) ⟨Nat.zero_le _, by show _ + _ ≤ maxLen; unfold maxLen; simp⟩ (by unfold Buf.val Buf.addr Buf.cap; repeat (first | exact Sub.nil | refine Sub.cons rfl ?_)) (by unfold Buf.hp; exact Fewer.refl _) ?_
  rintro ⟨z, u⟩ ⟨hzz, hok⟩
  dsimp only at hzz hok ⊢
  have hln : (128 :: List.replicate z (0 : UInt8)).length = 1 + z := by simp; omega
  have hr : ((n : Int) + (((128 :: List.replicate z (0 : UInt8)).length : Nat) : Int) + 8).tmod 64 = (((n + (1 + z) + 8) % 64 : Nat) : Int) := by rw [hln]; exact nat_rem (n + (1 + z) + 8) 64
  repeat (first | refine S_scope ?_ | refine S_label ?_ | refine E_noGoto_normal ?_ | refine E_noGoto_ret ?_ | refine E_noGoto_exit ?_ | refine S_yes rfl (by first | with_reducible rfl | decide) ?_ | refine S_no rfl (by first | with_reducible rfl | decide) ?_ | refine S_seq ?_ | refine E_seq ?_ | refine S_block ?_ | refine E_block_normal ?_ | refine S_skip ?_ | refine S_exit ?_ | refine S_ret ?_ | refine E_then_exit ?_ | refine E_then_ret ?_ | refine E_block_ret ?_ | refine E_block_exit ?_ | refine E_block_exit_other rfl ?_)
  refine S_region ?_
  refine R_cons rfl (op_pure (p_move rfl) rfl ?_)
  refine R_cons rfl (op_pure (p_move rfl) rfl ?_)
  refine R_cons rfl (op_pure (p_len rfl slc_u8s) rfl ?_)
  refine R_cons rfl (op_pure (by exact p_bin rfl rfl (b_add (w_in_i64 (by omega)))) rfl ?_)
  refine R_cons rfl (op_pure (by exact p_bin rfl rfl (b_add (w_in_i64 (by omega)))) rfl ?_)
  refine R_cons rfl (op_pure (by first | exact p_bin rfl rfl (b_rem (by decide) (by assumption)) | exact p_bin rfl rfl (b_rem (by decide) (nat_rem _ 64))) rfl ?_)
  refine R_cons rfl (op_pure (p_bin rfl rfl (b_neq (by first | assumption | exact bne_iff_ne.2 (by omega) | exact bne_eq_false_iff_eq.2 (by omega) | rfl))) rfl ?_)
  refine R_nil ?_
  repeat (first | refine S_scope ?_ | refine S_label ?_ | refine E_noGoto_normal ?_ | refine E_noGoto_ret ?_ | refine E_noGoto_exit ?_ | refine S_yes rfl (by first | with_reducible rfl | decide) ?_ | refine S_no rfl (by first | with_reducible rfl | decide) ?_ | refine S_seq ?_ | refine E_seq ?_ | refine S_block ?_ | refine E_block_normal ?_ | refine S_skip ?_ | refine S_exit ?_ | refine S_ret ?_ | refine E_then_exit ?_ | refine E_then_ret ?_ | refine E_block_ret ?_ | refine E_block_exit ?_ | refine E_block_exit_other rfl ?_)
  have hzi := zeros_iff n z hzz
  refine S_cond rfl (fun hlt => ?_) (fun hge => ?_)
  · have hlt' : z < zeros n := by
      have : (n + (1 + z) + 8) % 64 ≠ 0 := by simp at hlt; omega
      have : z ≠ zeros n := fun e => this (hzi.2 e)
      omega
    repeat (first | refine S_scope ?_ | refine S_label ?_ | refine E_noGoto_normal ?_ | refine E_noGoto_ret ?_ | refine E_noGoto_exit ?_ | refine S_yes rfl (by first | with_reducible rfl | decide) ?_ | refine S_no rfl (by first | with_reducible rfl | decide) ?_ | refine S_seq ?_ | refine E_seq ?_ | refine S_block ?_ | refine E_block_normal ?_ | refine S_skip ?_ | refine S_exit ?_ | refine S_ret ?_ | refine E_then_exit ?_ | refine E_then_ret ?_ | refine E_block_ret ?_ | refine E_block_exit ?_ | refine E_block_exit_other rfl ?_)
    refine S_region ?_
    refine R_cons rfl (op_pure (p_move rfl) rfl ?_)
    refine R_cons rfl (op_buildSliceAll (ps := [(0, .const (.int .u8 0))]) rfl slc_u8s.1 el_u8 (by decide) (by decide) (by first | kernel_rfl | rfl) rfl (Nat.le_refl _) (fun b14 => ?_))
    refine R_cons rfl (op_appendBuf (ys := [0]) rfl rfl slc_u8s.1 el_u8 (by repeat (first | exact DelB.tail | exact DelB.no rfl | exact DelB.at_ rfl (by repeat (first | exact Del.here | apply Del.there)) | apply DelB.there)) hok (fun w hm => hm.readsAll (b := b14) (by repeat (first | exact List.Mem.head _ | apply List.Mem.tail)) rfl) (by rw [hln]; simp; omega) rfl (Nat.le_refl _) (fun u' hok' hne => ?_))
    refine R_cons rfl (op_pure (p_assign rfl) rfl ?_)
    refine R_nil ?_
    repeat (first | refine S_scope ?_ | refine S_label ?_ | refine E_noGoto_normal ?_ | refine E_noGoto_ret ?_ | refine E_noGoto_exit ?_ | refine S_yes rfl (by first | with_reducible rfl | decide) ?_ | refine S_no rfl (by first | with_reducible rfl | decide) ?_ | refine S_seq ?_ | refine E_seq ?_ | refine S_block ?_ | refine E_block_normal ?_ | refine S_skip ?_ | refine S_exit ?_ | refine S_ret ?_ | refine E_then_exit ?_ | refine E_then_ret ?_ | refine E_block_ret ?_ | refine E_block_exit ?_ | refine E_block_exit_other rfl ?_)
    have hpush : 128 :: List.replicate z (0 : UInt8) ++ [0] = 128 :: List.replicate (z + 1) 0 := by rw [List.replicate_succ']; rfl
    rw [hpush] at hok' ⊢
    exact E_round (s := (z, u)) (z + 1, u') ⟨by show z + 1 ≤ zeros n; omega, hok'⟩ (by show zeros n - (z + 1) < zeros n - z; omega) (by repeat (first | exact Sub.nil | refine Sub.cons rfl ?_)) (.drop (Fewer.refl _))
  · have hge' : z = zeros n := by
      refine hzi.1 ?_
      simp at hge; omega
    subst hge'
    repeat (first | refine S_scope ?_ | refine S_label ?_ | refine E_noGoto_normal ?_ | refine E_noGoto_ret ?_ | refine E_noGoto_exit ?_ | refine S_yes rfl (by first | with_reducible rfl | decide) ?_ | refine S_no rfl (by first | with_reducible rfl | decide) ?_ | refine S_seq ?_ | refine E_seq ?_ | refine S_block ?_ | refine E_block_normal ?_ | refine S_skip ?_ | refine S_exit ?_ | refine S_ret ?_ | refine E_then_exit ?_ | refine E_then_ret ?_ | refine E_block_ret ?_ | refine E_block_exit ?_ | refine E_block_exit_other rfl ?_)
    refine S_region ?_
    refine R_cons rfl (op_pure (p_assign rfl) rfl ?_)
    refine R_nil ?_
    repeat (first | refine S_scope ?_ | refine S_label ?_ | refine E_noGoto_normal ?_ | refine E_noGoto_ret ?_ | refine E_noGoto_exit ?_ | refine S_yes rfl (by first | with_reducible rfl | decide) ?_ | refine S_no rfl (by first | with_reducible rfl | decide) ?_ | refine S_seq ?_ | refine E_seq ?_ | refine S_block ?_ | refine E_block_normal ?_ | refine S_skip ?_ | refine S_exit ?_ | refine S_ret ?_ | refine E_then_exit ?_ | refine E_then_ret ?_ | refine E_block_ret ?_ | refine E_block_exit ?_ | refine E_block_exit_other rfl ?_)
    have hbl := be_length 8 (8 * n)
    refine S_loop (σ := Nat × Buf) (fun s => [(4, .int .i64 (7 - (s.1 : Int))), (3, s.2.val (128 :: List.replicate (zeros n) 0 ++ (be 8 (8 * n)).take s.1)), (0, .int .i64 (n : Int))]) (fun s => s.2.hp 5 (128 :: List.replicate (zeros n) 0 ++ (be 8 (8 * n)).take s.1))
      (fun s => s.1 ≤ 8 ∧ s.2.ok (128 :: List.replicate (zeros n) 0 ++ (be 8 (8 * n)).take s.1)) (fun s => 8 - s.1) (0, u) ⟨Nat.zero_le _, by show u.ok _; rw [List.take_zero, List.append_nil]; exact hok⟩
      (Sub.cons rfl (Sub.cons (by show _ = some (Buf.val u _); rw [List.take_zero, List.append_nil]; rfl) (Sub.cons rfl Sub.nil))) (by show Fewer (Buf.hp u _ _) _; rw [List.take_zero, List.append_nil]; exact Fewer.refl _) ?_
    rintro ⟨j, v⟩ ⟨hj, hokv⟩
    dsimp only at hj hokv ⊢
    repeat (first | refine S_scope ?_ | refine S_label ?_ | refine E_noGoto_normal ?_ | refine E_noGoto_ret ?_ | refine E_noGoto_exit ?_ | refine S_yes rfl (by first | with_reducible rfl | decide) ?_ | refine S_no rfl (by first | with_reducible rfl | decide) ?_ | refine S_seq ?_ | refine E_seq ?_ | refine S_block ?_ | refine E_block_normal ?_ | refine S_skip ?_ | refine S_exit ?_ | refine S_ret ?_ | refine E_then_exit ?_ | refine E_then_ret ?_ | refine E_block_ret ?_ | refine E_block_exit ?_ | refine E_block_exit_other rfl ?_)
    refine S_region ?_
    refine R_cons rfl (op_pure (p_move rfl) rfl ?_)
    refine R_cons rfl (op_pure (p_bin rfl rfl (b_geq (by first | assumption | exact decide_eq_true (by omega) | exact decide_eq_false (by omega) | rfl))) rfl ?_)
    refine R_nil ?_
    repeat (first | refine S_scope ?_ | refine S_label ?_ | refine E_noGoto_normal ?_ | refine E_noGoto_ret ?_ | refine E_noGoto_exit ?_ | refine S_yes rfl (by first | with_reducible rfl | decide) ?_ | refine S_no rfl (by first | with_reducible rfl | decide) ?_ | refine S_seq ?_ | refine E_seq ?_ | refine S_block ?_ | refine E_block_normal ?_ | refine S_skip ?_ | refine S_exit ?_ | refine S_ret ?_ | refine E_then_exit ?_ | refine E_then_ret ?_ | refine E_block_ret ?_ | refine E_block_exit ?_ | refine E_block_exit_other rfl ?_)
    refine S_cond rfl (fun hlt => ?_) (fun hge => ?_)
    · have hlt' : j < 8 := by simp at hlt; omega
      have hw : IntKind.u64.wrap (8 * (7 - (j : Int))) = ((8 * (7 - j) : Nat) : Int) := by rw [IntKind.wrap_u64]; omega
      have hsh : (8 * (n : Int)) / 2 ^ (((8 * (7 - j) : Nat) : Int)).toNat = ((8 * n / 2 ^ (8 * (7 - j)) : Nat) : Int) := shr_nat (8 * n) (8 * (7 - j))
      have hbt := be_take 8 (8 * n) j hlt'
      generalize hq : 8 * n / 2 ^ (8 * (7 - j)) = q at hsh
      rw [show 8 - 1 - j = 7 - j by omega, hq] at hbt
      repeat (first | refine S_scope ?_ | refine S_label ?_ | refine E_noGoto_normal ?_ | refine E_noGoto_ret ?_ | refine E_noGoto_exit ?_ | refine S_yes rfl (by first | with_reducible rfl | decide) ?_ | refine S_no rfl (by first | with_reducible rfl | decide) ?_ | refine S_seq ?_ | refine E_seq ?_ | refine S_block ?_ | refine E_block_normal ?_ | refine S_skip ?_ | refine S_exit ?_ | refine S_ret ?_ | refine E_then_exit ?_ | refine E_then_ret ?_ | refine E_block_ret ?_ | refine E_block_exit ?_ | refine E_block_exit_other rfl ?_)
      refine S_region ?_
      refine R_cons rfl (op_pure (p_move rfl) rfl ?_)
      refine R_cons rfl (op_pure (p_move rfl) rfl ?_)
      refine R_cons rfl (op_pure (by exact p_bin rfl rfl (b_mul (w_in_i64 (by omega)))) rfl ?_)
      refine R_cons rfl (op_pure (by exact p_convert rfl sc_int ik_u64 (by first | assumption | exact u8_nat _ | exact w8_i64 _ | exact w8_u64 _ | exact w8_u32n _ | exact w32_u64 _ | exact w32_i64 _ | exact w_in_i64 (by omega) | exact w_in_u64 (by omega) | exact w_in_u32 (by omega))) rfl ?_)
      refine R_cons rfl (op_pure (p_move rfl) rfl ?_)
      refine R_cons rfl (op_pure (by exact p_bin rfl rfl (b_mul (w_in_i64 (by omega)))) rfl ?_)
      refine R_cons rfl (op_pure (by exact p_convert rfl sc_int ik_uint (by first | assumption | exact u8_nat _ | exact w8_i64 _ | exact w8_u64 _ | exact w8_u32n _ | exact w32_u64 _ | exact w32_i64 _ | exact w_in_i64 (by omega) | exact w_in_u64 (by omega) | exact w_in_u32 (by omega))) rfl ?_)
      refine R_cons rfl (op_pure (by exact p_bin rfl rfl (b_shr (by omega) (by show _ ≤ (64 : Int); omega) (by assumption))) rfl ?_)
      refine R_cons rfl (op_pure (by exact p_convert rfl sc_u64 ik_u8 (by first | assumption | exact u8_nat _ | exact w8_i64 _ | exact w8_u64 _ | exact w8_u32n _ | exact w32_u64 _ | exact w32_i64 _ | exact w_in_i64 (by omega) | exact w_in_u64 (by omega) | exact w_in_u32 (by omega))) rfl ?_)
      refine R_cons rfl (op_buildSliceAll (ps := [(0, .tmp 28)]) rfl slc_u8s.1 el_u8 (by decide) (by decide) (by first | kernel_rfl | rfl) rfl (Nat.le_refl _) (fun b29 => ?_))
      refine R_cons rfl (op_appendBuf (ys := [UInt8.ofNat q]) rfl rfl slc_u8s.1 el_u8 (by repeat (first | exact DelB.tail | exact DelB.no rfl | exact DelB.at_ rfl (by repeat (first | exact Del.here | apply Del.there)) | apply DelB.there)) hokv (fun w hm => hm.readsAll (b := b29) (by repeat (first | exact List.Mem.head _ | apply List.Mem.tail)) rfl) (by simp [hbl]; omega) rfl (Nat.le_refl _) (fun u' hok' hne => ?_))
      refine R_cons rfl (op_pure (p_assign rfl) rfl ?_)
      refine R_nil ?_
      repeat (first | refine S_scope ?_ | refine S_label ?_ | refine E_noGoto_normal ?_ | refine E_noGoto_ret ?_ | refine E_noGoto_exit ?_ | refine S_yes rfl (by first | with_reducible rfl | decide) ?_ | refine S_no rfl (by first | with_reducible rfl | decide) ?_ | refine S_seq ?_ | refine E_seq ?_ | refine S_block ?_ | refine E_block_normal ?_ | refine S_skip ?_ | refine S_exit ?_ | refine S_ret ?_ | refine E_then_exit ?_ | refine E_then_ret ?_ | refine E_block_ret ?_ | refine E_block_exit ?_ | refine E_block_exit_other rfl ?_)
      refine S_region ?_
      refine R_cons rfl (op_pure (p_move rfl) rfl ?_)
      refine R_cons rfl (op_pure (by exact p_bin rfl rfl (b_sub (w_in_i64 (by omega)))) rfl ?_)
      refine R_cons rfl (op_pure (p_assign rfl) rfl ?_)
      refine R_nil ?_
      repeat (first | refine S_scope ?_ | refine S_label ?_ | refine E_noGoto_normal ?_ | refine E_noGoto_ret ?_ | refine E_noGoto_exit ?_ | refine S_yes rfl (by first | with_reducible rfl | decide) ?_ | refine S_no rfl (by first | with_reducible rfl | decide) ?_ | refine S_seq ?_ | refine E_seq ?_ | refine S_block ?_ | refine E_block_normal ?_ | refine S_skip ?_ | refine S_exit ?_ | refine S_ret ?_ | refine E_then_exit ?_ | refine E_then_ret ?_ | refine E_block_ret ?_ | refine E_block_exit ?_ | refine E_block_exit_other rfl ?_)
      rw [List.append_assoc, ← hbt] at hok' ⊢
      exact E_round (s := (j, v)) (j + 1, u') ⟨by show j + 1 ≤ 8; omega, hok'⟩ (by show 8 - (j + 1) < 8 - j; omega) (Sub.cons (by show some _ = some _; congr 2; omega) (Sub.cons rfl (Sub.cons rfl Sub.nil))) (.drop (Fewer.refl _))
    · have hge' : j = 8 := by simp at hge; omega
      subst hge'
      rw [List.take_of_length_le (by omega), List.cons_append, ← pad_eq] at hokv ⊢
      repeat (first | refine S_scope ?_ | refine S_label ?_ | refine E_noGoto_normal ?_ | refine E_noGoto_ret ?_ | refine E_noGoto_exit ?_ | refine S_yes rfl (by first | with_reducible rfl | decide) ?_ | refine S_no rfl (by first | with_reducible rfl | decide) ?_ | refine S_seq ?_ | refine E_seq ?_ | refine S_block ?_ | refine E_block_normal ?_ | refine S_skip ?_ | refine S_exit ?_ | refine S_ret ?_ | refine E_then_exit ?_ | refine E_then_ret ?_ | refine E_block_ret ?_ | refine E_block_exit ?_ | refine E_block_exit_other rfl ?_)
      refine S_region ?_
      refine R_cons rfl (op_pure (p_move rfl) rfl ?_)
      refine R_cons rfl (op_pure (p_assign rfl) rfl ?_)
      refine R_nil ?_
      repeat (first | refine S_scope ?_ | refine S_label ?_ | refine E_noGoto_normal ?_ | refine E_noGoto_ret ?_ | refine E_noGoto_exit ?_ | refine S_yes rfl (by first | with_reducible rfl | decide) ?_ | refine S_no rfl (by first | with_reducible rfl | decide) ?_ | refine S_seq ?_ | refine E_seq ?_ | refine S_block ?_ | refine E_block_normal ?_ | refine S_skip ?_ | refine S_exit ?_ | refine S_ret ?_ | refine E_then_exit ?_ | refine E_then_ret ?_ | refine E_block_ret ?_ | refine E_block_exit ?_ | refine E_block_exit_other rfl ?_)
      cases v with
      | none => exact absurd hokv (by show ¬ pad n = []; rw [pad_eq]; simp)
      | some p =>
        obtain ⟨g, sp⟩ := p
        unfold Buf.hp
        refine E_ret1 rfl rfl fun w' hm => ⟨g, sp, rfl, hokv, ?_, (hm.own (g, _) (List.Mem.head _)).2, hm.below⟩
        rcases (hm.own (g, _) (List.Mem.head _)).1 with h | h
        · exact h
        · cases h

set_option maxHeartbeats 1000000 in
theorem refOf_any (A : Option Addr) (n c : Nat) (xs : List UInt8) (w : World) (hl : xs.length = n) (hrd : Reads w A n (bytesV xs)) (hn : n ≤ 1000000000000) :
    Calls Try.prog 42 [.slice A n c].toArray w fun e w' => e = .returned (.agg (bytesV (sha xs)).toArray) ∧ Below w.heap.size w w' := by
  subst hl
  have hps := pad_small xs.length
  have hpw := pad_whole xs.length
  refine enter Try.func42 rfl Try.ntmps42 (by simp) ?_
  repeat (first | refine S_scope ?_ | refine S_label ?_ | refine E_noGoto_normal ?_ | refine E_noGoto_ret ?_ | refine E_noGoto_exit ?_ | refine S_yes rfl (by first | with_reducible rfl | decide) ?_ | refine S_no rfl (by first | with_reducible rfl | decide) ?_ | refine S_seq ?_ | refine E_seq ?_ | refine S_block ?_ | refine E_block_normal ?_ | refine S_skip ?_ | refine S_exit ?_ | refine S_ret ?_ | refine E_then_exit ?_ | refine E_then_ret ?_ | refine E_block_ret ?_ | refine E_block_exit ?_ | refine E_block_exit_other rfl ?_)
  refine S_region ?_
  refine R_cons rfl (op_allocRow zero_Sum rfl (Nat.le_refl _) (fun b2 => ?_))
  refine R_nil ?_
  repeat (first | refine S_scope ?_ | refine S_label ?_ | refine E_noGoto_normal ?_ | refine E_noGoto_ret ?_ | refine E_noGoto_exit ?_ | refine S_yes rfl (by first | with_reducible rfl | decide) ?_ | refine S_no rfl (by first | with_reducible rfl | decide) ?_ | refine S_seq ?_ | refine E_seq ?_ | refine S_block ?_ | refine E_block_normal ?_ | refine S_skip ?_ | refine S_exit ?_ | refine S_ret ?_ | refine E_then_exit ?_ | refine E_then_ret ?_ | refine E_block_ret ?_ | refine E_block_exit ?_ | refine E_block_exit_other rfl ?_)
  refine S_region ?_
  refine R_cons rfl (op_pure (p_move rfl) rfl ?_)
  refine R_cons rfl (op_appendBuf (u := none) (xs := []) (ys := xs) (by unfold Buf.val Buf.addr Buf.cap; rfl) rfl slc_u8s.1 el_u8 (.no rfl) Buf.none_ok (fun w hm => hrd.base hm) (by simp; omega) rfl (Nat.le_refl _) (fun u hok hne => ?_))
  rw [List.nil_append] at hok ⊢
  refine R_cons rfl (op_pure (p_move rfl) rfl ?_)
  refine R_cons rfl (op_pure (p_len rfl slc_u8s) rfl ?_)
  refine R_cons rfl (op_call rfl rfl Try.func75 rfl (by kernel_rfl) rfl fun w1 hm => (end_any xs.length hn w1).mono ?_)
  rintro e w2 ⟨g, sp, rfl, hokp, hg, hgo, hbel⟩
  refine ⟨_, _, rfl, hm.call1 (Nat.le_refl _) hbel hg hgo, ?_⟩
  refine R_cons rfl (op_appendBuf (u := u) (xs := xs) (ys := pad xs.length) rfl rfl slc_u8s.1 el_u8 (by exact .there (.there .tail)) hok (fun w hm => hm.readsBuf (e := 5) (by exact .at_ rfl .here) hokp) (by omega) rfl (Nat.le_refl _) (fun v hokv hnev => ?_))
  refine R_cons rfl (op_pure (p_assign rfl) rfl ?_)
  refine R_nil ?_
  repeat (first | refine S_scope ?_ | refine S_label ?_ | refine E_noGoto_normal ?_ | refine E_noGoto_ret ?_ | refine E_noGoto_exit ?_ | refine S_yes rfl (by first | with_reducible rfl | decide) ?_ | refine S_no rfl (by first | with_reducible rfl | decide) ?_ | refine S_seq ?_ | refine E_seq ?_ | refine S_block ?_ | refine E_block_normal ?_ | refine S_skip ?_ | refine S_exit ?_ | refine S_ret ?_ | refine E_then_exit ?_ | refine E_then_ret ?_ | refine E_block_ret ?_ | refine E_block_exit ?_ | refine E_block_exit_other rfl ?_)
  refine S_region ?_
  refine R_cons rfl (op_callV rfl rfl Try.func76 rfl (by kernel_rfl) rfl (Nat.le_refl _) (fun w' _ => refBegin_any w') ?_)
  refine R_cons rfl (op_allocRow zero_refEight rfl (Nat.le_refl _) (fun b4 => ?_))
  refine R_cons rfl (op_storeRow rfl rfl (by first | exact bytesV_one _ | exact wordsV_one _ | (repeat (first | exact ones_nil | refine ones_cons rfl ?_))) row_refEight (by first | assumption | rfl | (simp only [bytesV_length, wordsV_length]; omega) | (rw [bytesV_length]; exact Sha.sha_length _)) (by repeat (first | exact At.here | apply At.there)) (by first | exact Nat.le_of_ble_eq_true rfl | omega | (simp only [bytesV_length, wordsV_length, List.length_cons, List.length_nil, List.length_replicate]; omega) | (simp only [bytesV_length, Sha.sha_length, List.length_replicate] <;> omega)) ?_)
  refine R_nil ?_
  repeat (first | refine S_scope ?_ | refine S_label ?_ | refine E_noGoto_normal ?_ | refine E_noGoto_ret ?_ | refine E_noGoto_exit ?_ | refine S_yes rfl (by first | with_reducible rfl | decide) ?_ | refine S_no rfl (by first | with_reducible rfl | decide) ?_ | refine S_seq ?_ | refine E_seq ?_ | refine S_block ?_ | refine E_block_normal ?_ | refine S_skip ?_ | refine S_exit ?_ | refine S_ret ?_ | refine E_then_exit ?_ | refine E_then_ret ?_ | refine E_block_ret ?_ | refine E_block_exit ?_ | refine E_block_exit_other rfl ?_)
  refine S_region ?_
  refine R_cons rfl (op_pure (p_assign rfl) rfl ?_)
  refine R_nil ?_
  repeat (first | refine S_scope ?_ | refine S_label ?_ | refine E_noGoto_normal ?_ | refine E_noGoto_ret ?_ | refine E_noGoto_exit ?_ | refine S_yes rfl (by first | with_reducible rfl | decide) ?_ | refine S_no rfl (by first | with_reducible rfl | decide) ?_ | refine S_seq ?_ | refine E_seq ?_ | refine S_block ?_ | refine E_block_normal ?_ | refine S_skip ?_ | refine S_exit ?_ | refine S_ret ?_ | refine E_then_exit ?_ | refine E_then_ret ?_ | refine E_block_ret ?_ | refine E_block_exit ?_ | refine E_block_exit_other rfl ?_)
  generalize hT : xs ++ pad xs.length = tot at hokv hnev ⊢
  obtain ⟨M, hM⟩ : ∃ M, tot.length = 64 * M := ⟨tot.length / 64, by rw [← hT, List.length_append]; omega⟩
  have htl : tot.length ≤ 1000000000072 := by rw [← hT, List.length_append]; omega
  refine S_loop (fun k : Nat => [(5, .int .i64 ((64 * k : Nat) : Int)), (4, .pointer (some ⟨b4, 0, none⟩)), (3, v.val tot), (2, .pointer (some ⟨b2, 0, none⟩))])
    (fun k => (b4, .cells (wordsV (blocks k begin8 tot).list).toArray 133 (0, 0)) :: (b2, .cells (bytesV (List.replicate 32 0)).toArray 23 (0, 0)) :: v.hp 5 tot)
    (fun k => k ≤ M) (fun k => M - k) 0 (Nat.zero_le _) (by repeat (first | exact Sub.nil | refine Sub.cons rfl ?_)) (.keep (by rw [show blocks 0 begin8 tot = begin8 by unfold blocks; rfl, lay_whole (by simp [wordsV_length, list_length])]) (.drop (.keep rfl (Fewer.refl _)))) ?_
  intro k hk
  repeat (first | refine S_scope ?_ | refine S_label ?_ | refine E_noGoto_normal ?_ | refine E_noGoto_ret ?_ | refine E_noGoto_exit ?_ | refine S_yes rfl (by first | with_reducible rfl | decide) ?_ | refine S_no rfl (by first | with_reducible rfl | decide) ?_ | refine S_seq ?_ | refine E_seq ?_ | refine S_block ?_ | refine E_block_normal ?_ | refine S_skip ?_ | refine S_exit ?_ | refine S_ret ?_ | refine E_then_exit ?_ | refine E_then_ret ?_ | refine E_block_ret ?_ | refine E_block_exit ?_ | refine E_block_exit_other rfl ?_)
  refine S_region ?_
  refine R_cons rfl (op_pure (p_move rfl) rfl ?_)
  refine R_cons rfl (op_pure (p_move rfl) rfl ?_)
  refine R_cons rfl (op_pure (p_len rfl slc_u8s) rfl ?_)
  refine R_cons rfl (op_pure (p_bin rfl rfl (b_lss (by first | assumption | exact decide_eq_true (by omega) | exact decide_eq_false (by omega) | rfl))) rfl ?_)
  refine R_nil ?_
  repeat (first | refine S_scope ?_ | refine S_label ?_ | refine E_noGoto_normal ?_ | refine E_noGoto_ret ?_ | refine E_noGoto_exit ?_ | refine S_yes rfl (by first | with_reducible rfl | decide) ?_ | refine S_no rfl (by first | with_reducible rfl | decide) ?_ | refine S_seq ?_ | refine E_seq ?_ | refine S_block ?_ | refine E_block_normal ?_ | refine S_skip ?_ | refine S_exit ?_ | refine S_ret ?_ | refine E_then_exit ?_ | refine E_then_ret ?_ | refine E_block_ret ?_ | refine E_block_exit ?_ | refine E_block_exit_other rfl ?_)
  have hlc := Buf.len_cap hokv
  refine S_cond rfl (fun hlt => ?_) (fun hge => ?_)
  · have hlt' : k < M := by simp at hlt; omega
    have e64 : ((64 * k : Nat) : Int) + 64 = ((64 * k + 64 : Nat) : Int) := by omega
    have hbl : ((tot.drop (64 * k)).take 64).length = 64 := by simp; omega
    repeat (first | refine S_scope ?_ | refine S_label ?_ | refine E_noGoto_normal ?_ | refine E_noGoto_ret ?_ | refine E_noGoto_exit ?_ | refine S_yes rfl (by first | with_reducible rfl | decide) ?_ | refine S_no rfl (by first | with_reducible rfl | decide) ?_ | refine S_seq ?_ | refine E_seq ?_ | refine S_block ?_ | refine E_block_normal ?_ | refine S_skip ?_ | refine S_exit ?_ | refine S_ret ?_ | refine E_then_exit ?_ | refine E_then_ret ?_ | refine E_block_ret ?_ | refine E_block_exit ?_ | refine E_block_exit_other rfl ?_)
    refine S_tail 7 (by kernel_rfl) (by kernel_rfl) (by kernel_rfl) (by kernel_rfl) ?_
    refine Q_cons (Still1.of_pure (by first | exact p_loadRow rfl row_refEight (by repeat (first | exact List.Mem.head _ | apply List.Mem.tail)) (by first | assumption | rfl | (simp only [bytesV_length, wordsV_length]; omega)) | exact p_loadPart rfl row_refEight (by repeat (first | exact List.Mem.head _ | apply List.Mem.tail)) (by first | exact Nat.le_of_ble_eq_true rfl | omega | (simp only [bytesV_length, wordsV_length, List.length_cons, List.length_nil, List.length_replicate]; omega) | (simp only [bytesV_length, Sha.sha_length, List.length_replicate] <;> omega)) (by first | assumption | rfl))) rfl ?_
    refine Q_cons (Still1.of_pure (p_move rfl)) rfl ?_
    refine Q_cons (Still1.of_pure (p_move rfl)) rfl ?_
    refine Q_cons (Still1.of_pure (p_move rfl)) rfl ?_
    refine Q_cons (Still1.of_pure (by exact p_bin rfl rfl (b_add (w_in_i64 (by omega))))) rfl ?_
    refine Q_cons (Still1.of_pure (p_sliceMid rfl rfl rfl (by repeat (first | assumption | exact lit0 | exact lit1 | apply IntWalk.up_add | apply IntWalk.up_div | apply IntWalk.up_mod | apply IntWalk.up_mul | rfl)) (by repeat (first | assumption | exact lit0 | exact lit1 | apply IntWalk.up_add | apply IntWalk.up_div | apply IntWalk.up_mod | apply IntWalk.up_mul | rfl)) slc_u8s (by omega) (by omega))) rfl ?_
    refine Q_cons (still_call rfl rfl Try.func77 rfl (by kernel_rfl) (Nat.le_refl _) (fun w' hm => take_any' _ ((tot.drop (64 * k)).take 64) hbl _ _ _ (by omega) w' (by have h1 := hm.readsBuf (u := v) (e := 5) (xs := tot) (.there (.there .tail)) hokv; have h2 := (h1.cut (k := 64 * k) (cap := v.cap tot) (by omega) hlc).head (k := 64) (by omega); simpa [bytesV, List.map_take, List.map_drop] using h2))) rfl ?_
    refine Q_nop ?_
    refine Q_nil ?_
    refine E_tail ?_
    refine R_cons rfl (op_storeRow rfl rfl (by first | exact bytesV_one _ | exact wordsV_one _ | (repeat (first | exact ones_nil | refine ones_cons rfl ?_))) row_refEight (by first | assumption | rfl | (simp only [bytesV_length, wordsV_length]; omega) | (rw [bytesV_length]; exact Sha.sha_length _)) (by repeat (first | exact At.here | apply At.there)) (by first | exact Nat.le_of_ble_eq_true rfl | omega | (simp only [bytesV_length, wordsV_length, List.length_cons, List.length_nil, List.length_replicate]; omega) | (simp only [bytesV_length, Sha.sha_length, List.length_replicate] <;> omega)) ?_)
    refine R_nil ?_
    repeat (first | refine S_scope ?_ | refine S_label ?_ | refine E_noGoto_normal ?_ | refine E_noGoto_ret ?_ | refine E_noGoto_exit ?_ | refine S_yes rfl (by first | with_reducible rfl | decide) ?_ | refine S_no rfl (by first | with_reducible rfl | decide) ?_ | refine S_seq ?_ | refine E_seq ?_ | refine S_block ?_ | refine E_block_normal ?_ | refine S_skip ?_ | refine S_exit ?_ | refine S_ret ?_ | refine E_then_exit ?_ | refine E_then_ret ?_ | refine E_block_ret ?_ | refine E_block_exit ?_ | refine E_block_exit_other rfl ?_)
    refine S_region ?_
    refine R_cons rfl (op_pure (p_move rfl) rfl ?_)
    refine R_cons rfl (op_pure (by exact p_bin rfl rfl (b_add (w_in_i64 (by omega)))) rfl ?_)
    refine R_cons rfl (op_pure (p_assign rfl) rfl ?_)
    refine R_nil ?_
    repeat (first | refine S_scope ?_ | refine S_label ?_ | refine E_noGoto_normal ?_ | refine E_noGoto_ret ?_ | refine E_noGoto_exit ?_ | refine S_yes rfl (by first | with_reducible rfl | decide) ?_ | refine S_no rfl (by first | with_reducible rfl | decide) ?_ | refine S_seq ?_ | refine E_seq ?_ | refine S_block ?_ | refine E_block_normal ?_ | refine S_skip ?_ | refine S_exit ?_ | refine S_ret ?_ | refine E_then_exit ?_ | refine E_then_ret ?_ | refine E_block_ret ?_ | refine E_block_exit ?_ | refine E_block_exit_other rfl ?_)
    exact E_round (k + 1) (by omega) (by omega) (by repeat (first | exact Sub.nil | refine Sub.cons rfl ?_)) (.keep (by rw [lay_whole (by simp [wordsV_length, list_length]), blocks_succ]) (.keep rfl (Fewer.refl _)))
  · have hge' : k = M := by simp at hge; omega
    subst hge'
    have hol := outB_length (blocks k begin8 tot)
    repeat (first | refine S_scope ?_ | refine S_label ?_ | refine E_noGoto_normal ?_ | refine E_noGoto_ret ?_ | refine E_noGoto_exit ?_ | refine S_yes rfl (by first | with_reducible rfl | decide) ?_ | refine S_no rfl (by first | with_reducible rfl | decide) ?_ | refine S_seq ?_ | refine E_seq ?_ | refine S_block ?_ | refine E_block_normal ?_ | refine S_skip ?_ | refine S_exit ?_ | refine S_ret ?_ | refine E_then_exit ?_ | refine E_then_ret ?_ | refine E_block_ret ?_ | refine E_block_exit ?_ | refine E_block_exit_other rfl ?_)
    refine S_region ?_
    refine R_cons rfl (op_pure (by first | exact p_loadRow rfl row_refEight (by repeat (first | exact List.Mem.head _ | apply List.Mem.tail)) (by first | assumption | rfl | (simp only [bytesV_length, wordsV_length]; omega)) | exact p_loadPart rfl row_refEight (by repeat (first | exact List.Mem.head _ | apply List.Mem.tail)) (by first | exact Nat.le_of_ble_eq_true rfl | omega | (simp only [bytesV_length, wordsV_length, List.length_cons, List.length_nil, List.length_replicate]; omega) | (simp only [bytesV_length, Sha.sha_length, List.length_replicate] <;> omega)) (by first | assumption | rfl)) rfl ?_)
    refine R_cons rfl (op_callV rfl rfl Try.func78 rfl (by kernel_rfl) rfl (Nat.le_refl _) (fun w' _ => refSum_any _ w') ?_)
    refine R_cons rfl (op_storeRow rfl rfl (by first | exact bytesV_one _ | exact wordsV_one _ | (repeat (first | exact ones_nil | refine ones_cons rfl ?_))) row_Sum (by first | assumption | rfl | (simp only [bytesV_length, wordsV_length]; omega) | (rw [bytesV_length]; exact Sha.sha_length _)) (by repeat (first | exact At.here | apply At.there)) (by first | exact Nat.le_of_ble_eq_true rfl | omega | (simp only [bytesV_length, wordsV_length, List.length_cons, List.length_nil, List.length_replicate]; omega) | (simp only [bytesV_length, Sha.sha_length, List.length_replicate] <;> omega)) ?_)
    refine R_nil ?_
    repeat (first | refine S_scope ?_ | refine S_label ?_ | refine E_noGoto_normal ?_ | refine E_noGoto_ret ?_ | refine E_noGoto_exit ?_ | refine S_yes rfl (by first | with_reducible rfl | decide) ?_ | refine S_no rfl (by first | with_reducible rfl | decide) ?_ | refine S_seq ?_ | refine E_seq ?_ | refine S_block ?_ | refine E_block_normal ?_ | refine S_skip ?_ | refine S_exit ?_ | refine S_ret ?_ | refine E_then_exit ?_ | refine E_then_ret ?_ | refine E_block_ret ?_ | refine E_block_exit ?_ | refine E_block_exit_other rfl ?_)
    have hsha : outB (blocks k begin8 tot) = sha xs := by unfold sha stOf; rw [hT, hM, Nat.mul_div_cancel_left _ (by omega)]
    refine E_fewer (Sub.refl _) (H' := [(b2, .cells (bytesV (sha xs)).toArray 23 (0, 0))]) ?_ (E_retRow rfl rfl (by repeat (first | exact List.Mem.head _ | apply List.Mem.tail)) row_Sum (by rw [bytesV_length, sha_length]) fun w' hm => ⟨rfl, hm.below⟩)
    refine .drop (.keep ?_ .nil)
    rw [lay_whole (by rw [bytesV_length, bytesV_length, outB_length]; rfl), hsha]
end Go.Proofs.Ytfdlafjifjndeaa
