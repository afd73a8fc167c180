/-
  Proved: noughts behind bytes leave the low half, which they add to the high one as often as they are. No condition.
-/
import Derived.Test.YtbnpalnmgeahpaaRows
import Derived.Test.YtbnpalnmgeahpaaSumsLaw
import Derived.Test.YtbnpalnmgeahpaaAlive
namespace Go.Proofs.Ytbnpalnmgeahpaa.sumsNought
open Go.ChangeShapes Go.WideShapes Go.ChangeAt
open Go.RowKit Go.K
attribute [local irreducible] Exit.then Exit.inBlock bodyPost Code.wp Sx Rx Qx Ex Dx Op1 Pure1 Still1 K.Sub Calm SIx RIx Code.wpIn
attribute [local irreducible] onNat
set_option linter.unusedVariables false
theorem nought_low (s n : Nat) : onNat s (List.replicate n 0) % 65536 = s % 65536 % 65521 := by
  rw [on_low]; simp only [adl, exact_closed, allB_noughts]; omega
theorem nought_high (s n : Nat) : onNat s (List.replicate n 0) / 65536 = (s / 65536 % 65521 + n * (s % 65536 % 65521)) % 65521 := by
  rw [on_high]; simp only [adl, exact_closed, allW_noughts, List.length_replicate, Nat.add_zero]
theorem cells_noughts (n : Nat) : List.replicate n (Value.int .u8 0) = bytesV (List.replicate n 0) := by simp [bytesV, bv]

set_option maxHeartbeats 2000000 in
theorem walk (w : World) (s : UInt32) (many : UInt16) :
    Calls Try.prog 8 [.int .u32 (s.toNat : Int), .int .u16 (many.toNat : Int)].toArray w fun e w' => e = .returned (.bool true) ∧ Below w.heap.size w w' := by
  have h16 := many.toNat_lt
  have hs := w_lt s
  have hn : many.toNat % 5000 < 5000 := Nat.mod_lt _ (by omega)
  refine enter Try.func8 rfl Try.ntmps8 (by simp) ?_
  repeat (first | refine S_yes rfl rfl ?_ | refine S_no rfl rfl ?_ | refine S_seq ?_ | refine E_seq ?_ | refine S_block ?_ | refine E_block_normal ?_ | refine S_skip ?_ | refine S_exit ?_ | refine S_ret ?_ | refine E_then_exit ?_ | refine E_then_ret ?_ | refine E_block_ret ?_ | refine E_block_exit ?_ | refine E_block_exit_other rfl ?_)
  refine S_region ?_
  refine R_cons rfl (op_pure (p_assign rfl) rfl ?_)
  refine R_nil ?_
  repeat (first | refine S_yes rfl rfl ?_ | refine S_no rfl rfl ?_ | refine S_seq ?_ | refine E_seq ?_ | refine S_block ?_ | refine E_block_normal ?_ | refine S_skip ?_ | refine S_exit ?_ | refine S_ret ?_ | refine E_then_exit ?_ | refine E_then_ret ?_ | refine E_block_ret ?_ | refine E_block_exit ?_ | refine E_block_exit_other rfl ?_)
  refine S_region ?_
  refine R_cons rfl (op_pure (p_move rfl) rfl ?_)
  refine R_cons rfl (op_pure (by exact p_convert rfl sc_u16 ik_int (by first | exact w8_i64 _ | exact w8_u64 _ | exact w8_u32n _ | exact w32_u64 _ | exact w32_i64 _ | exact w_in_i64 (by omega) | exact w_in_u64 (by omega) | exact w_in_u32 (by omega))) rfl ?_)
  refine R_cons rfl (op_pure (by exact p_bin rfl rfl (b_rem (by decide) (nat_rem _ 5000))) rfl ?_)
  refine R_cons rfl (op_pure (p_assign rfl) rfl ?_)
  refine R_nil ?_
  repeat (first | refine S_yes rfl rfl ?_ | refine S_no rfl rfl ?_ | refine S_seq ?_ | refine E_seq ?_ | refine S_block ?_ | refine E_block_normal ?_ | refine S_skip ?_ | refine S_exit ?_ | refine S_ret ?_ | refine E_then_exit ?_ | refine E_then_ret ?_ | refine E_block_ret ?_ | refine E_block_exit ?_ | refine E_block_exit_other rfl ?_)
  obtain ⟨n, hne⟩ : ∃ n, many.toNat % 5000 = n := ⟨_, rfl⟩
  rw [hne] at hn ⊢
  refine S_region ?_
  refine R_cons rfl (op_pure (p_move rfl) rfl ?_)
  refine R_cons rfl (op_callV rfl rfl Try.func15 rfl (by kernel_rfl) rfl (Nat.le_refl _) (fun w' hm => on_any s.toNat hs none 0 0 [] w' rfl (Reads.nil _) (Nat.le_refl _) (Nat.zero_le _)) ?_)
  refine R_cons rfl (op_pure (p_assign rfl) rfl ?_)
  refine R_nil ?_
  repeat (first | refine S_yes rfl rfl ?_ | refine S_no rfl rfl ?_ | refine S_seq ?_ | refine E_seq ?_ | refine S_block ?_ | refine E_block_normal ?_ | refine S_skip ?_ | refine S_exit ?_ | refine S_ret ?_ | refine E_then_exit ?_ | refine E_then_ret ?_ | refine E_block_ret ?_ | refine E_block_exit ?_ | refine E_block_exit_other rfl ?_)
  refine S_region ?_
  refine R_cons rfl (op_pure (p_move rfl) rfl ?_)
  refine R_cons rfl (op_pure (p_move rfl) rfl ?_)
  refine R_cons rfl (op_makeSlice rfl rfl (by repeat (first | exact lit0 | exact lit1 | apply IntWalk.up_add | apply IntWalk.up_div | apply IntWalk.up_mod | apply IntWalk.up_mul | rfl)) (by repeat (first | exact lit0 | exact lit1 | apply IntWalk.up_add | apply IntWalk.up_div | apply IntWalk.up_mod | apply IntWalk.up_mul | rfl)) slc_u8s.1 el_u8 (by omega) (by omega) (by omega) rfl (Nat.le_refl _) (fun b15 => ?_))
  refine R_cons rfl (op_callV rfl rfl Try.func15 rfl (by kernel_rfl) rfl (Nat.le_refl _) (fun w' hm => on_any s.toNat hs _ n n (List.replicate n 0) w' (by simp) (by rw [← cells_noughts]; exact hm.readsAll (by repeat (first | exact List.Mem.head _ | apply List.Mem.tail)) (by simp)) (Nat.le_refl _) (by unfold maxLen; omega)) ?_)
  refine R_cons rfl (op_pure (p_assign rfl) rfl ?_)
  refine R_nil ?_
  repeat (first | refine S_yes rfl rfl ?_ | refine S_no rfl rfl ?_ | refine S_seq ?_ | refine E_seq ?_ | refine S_block ?_ | refine E_block_normal ?_ | refine S_skip ?_ | refine S_exit ?_ | refine S_ret ?_ | refine E_then_exit ?_ | refine E_then_ret ?_ | refine E_block_ret ?_ | refine E_block_exit ?_ | refine E_block_exit_other rfl ?_)
  have l1 := on_low s.toNat []
  have g1 := on_high s.toNat []
  have l2 := nought_low s.toNat n
  have g2 := nought_high s.toNat n
  have t1 := on_lt s.toNat []
  have t2 := on_lt s.toNat (List.replicate n 0)
  have hx : s.toNat % 65536 % 65521 < 65521 := Nat.mod_lt _ (by omega)
  have hy : s.toNat / 65536 % 65521 < 65521 := Nat.mod_lt _ (by omega)
  simp only [adl, exact, Nat.mod_mod] at l1 g1
  generalize onNat s.toNat [] = x at *
  generalize onNat s.toNat (List.replicate n 0) = y at *
  have hp : n * (x % 65536) ≤ 5000 * 65536 := Nat.mul_le_mul (by omega) (by omega)
  have hpi : (0 : Int) ≤ (n : Int) * ((x % 65536 : Nat) : Int) ∧ (n : Int) * ((x % 65536 : Nat) : Int) ≤ 18446744073709551615 := by rw [← Int.natCast_mul]; omega
  have hpe : (n : Int) * ((x % 65536 : Nat) : Int) = ((n * (s.toNat % 65536 % 65521) : Nat) : Int) := by rw [← Int.natCast_mul, l1]
  refine S_region ?_
  refine R_cons rfl (op_callV rfl rfl Try.func18 rfl (by kernel_rfl) rfl (Nat.le_refl _) (fun w' _ => alive4 w') ?_)
  refine R_cons rfl (op_pure (p_move rfl) rfl ?_)
  first | refine R_pass rfl rfl rfl rfl ?_ | refine R_pass_undef rfl rfl rfl ?_ | refine R_guard rfl rfl rfl (op_pure (p_move rfl) rfl ?_)
  first | refine R_pass rfl rfl rfl rfl ?_ | refine R_pass_undef rfl rfl rfl ?_ | refine R_guard rfl rfl rfl (op_pure (by first | exact p_bin rfl rfl (b_rem (by decide) (nat_rem _ 65536)) | exact p_bin rfl rfl (b_rem (by decide) (int_rem (by omega)))) rfl ?_)
  first | refine R_pass rfl rfl rfl rfl ?_ | refine R_pass_undef rfl rfl rfl ?_ | refine R_guard rfl rfl rfl (op_pure (p_move rfl) rfl ?_)
  first | refine R_pass rfl rfl rfl rfl ?_ | refine R_pass_undef rfl rfl rfl ?_ | refine R_guard rfl rfl rfl (op_pure (by first | exact p_bin rfl rfl (b_rem (by decide) (nat_rem _ 65536)) | exact p_bin rfl rfl (b_rem (by decide) (int_rem (by omega)))) rfl ?_)
  first | refine R_pass rfl rfl rfl rfl ?_ | refine R_pass_undef rfl rfl rfl ?_ | refine R_guard rfl rfl rfl (op_pure (by first | exact p_bin rfl rfl (b_rem (by decide) (nat_rem _ 65521)) | exact p_bin rfl rfl (b_rem (by decide) (int_rem (by omega)))) rfl ?_)
  first | refine R_pass rfl rfl rfl rfl ?_ | refine R_pass_undef rfl rfl rfl ?_ | refine R_guard rfl rfl rfl (op_pure (p_bin rfl rfl (b_eql (by first | assumption | exact beq_iff_eq.2 (by omega) | exact beq_eq_false_iff_ne.2 (by omega) | rfl))) rfl ?_)
  refine R_cons rfl (op_pure (by first | exact p_pick_yes rfl rfl | exact p_pick_no rfl rfl | exact p_pick rfl rfl rfl) rfl ?_)
  refine R_cons rfl (op_pure (p_move rfl) rfl ?_)
  first | refine R_pass rfl rfl rfl rfl ?_ | refine R_pass_undef rfl rfl rfl ?_ | refine R_guard rfl rfl rfl (op_pure (p_move rfl) rfl ?_)
  first | refine R_pass rfl rfl rfl rfl ?_ | refine R_pass_undef rfl rfl rfl ?_ | refine R_guard rfl rfl rfl (op_pure (by exact p_bin rfl rfl (b_quo (by decide) (nat_quo_u32 _ 65536 (by omega)))) rfl ?_)
  first | refine R_pass rfl rfl rfl rfl ?_ | refine R_pass_undef rfl rfl rfl ?_ | refine R_guard rfl rfl rfl (op_pure (p_move rfl) rfl ?_)
  first | refine R_pass rfl rfl rfl rfl ?_ | refine R_pass_undef rfl rfl rfl ?_ | refine R_guard rfl rfl rfl (op_pure (by exact p_bin rfl rfl (b_quo (by decide) (nat_quo_u32 _ 65536 (by omega)))) rfl ?_)
  first | refine R_pass rfl rfl rfl rfl ?_ | refine R_pass_undef rfl rfl rfl ?_ | refine R_guard rfl rfl rfl (op_pure (by first | exact p_bin rfl rfl (b_rem (by decide) (nat_rem _ 65521)) | exact p_bin rfl rfl (b_rem (by decide) (int_rem (by omega)))) rfl ?_)
  first | refine R_pass rfl rfl rfl rfl ?_ | refine R_pass_undef rfl rfl rfl ?_ | refine R_guard rfl rfl rfl (op_pure (p_bin rfl rfl (b_eql (by first | assumption | exact beq_iff_eq.2 (by omega) | exact beq_eq_false_iff_ne.2 (by omega) | rfl))) rfl ?_)
  refine R_cons rfl (op_pure (by first | exact p_pick_yes rfl rfl | exact p_pick_no rfl rfl | exact p_pick rfl rfl rfl) rfl ?_)
  refine R_cons rfl (op_pure (p_move rfl) rfl ?_)
  first | refine R_pass rfl rfl rfl rfl ?_ | refine R_pass_undef rfl rfl rfl ?_ | refine R_guard rfl rfl rfl (op_pure (p_move rfl) rfl ?_)
  first | refine R_pass rfl rfl rfl rfl ?_ | refine R_pass_undef rfl rfl rfl ?_ | refine R_guard rfl rfl rfl (op_pure (by first | exact p_bin rfl rfl (b_rem (by decide) (nat_rem _ 65536)) | exact p_bin rfl rfl (b_rem (by decide) (int_rem (by omega)))) rfl ?_)
  first | refine R_pass rfl rfl rfl rfl ?_ | refine R_pass_undef rfl rfl rfl ?_ | refine R_guard rfl rfl rfl (op_pure (p_move rfl) rfl ?_)
  first | refine R_pass rfl rfl rfl rfl ?_ | refine R_pass_undef rfl rfl rfl ?_ | refine R_guard rfl rfl rfl (op_pure (by first | exact p_bin rfl rfl (b_rem (by decide) (nat_rem _ 65536)) | exact p_bin rfl rfl (b_rem (by decide) (int_rem (by omega)))) rfl ?_)
  first | refine R_pass rfl rfl rfl rfl ?_ | refine R_pass_undef rfl rfl rfl ?_ | refine R_guard rfl rfl rfl (op_pure (p_bin rfl rfl (b_eql (by first | assumption | exact beq_iff_eq.2 (by omega) | exact beq_eq_false_iff_ne.2 (by omega) | rfl))) rfl ?_)
  refine R_cons rfl (op_pure (by first | exact p_pick_yes rfl rfl | exact p_pick_no rfl rfl | exact p_pick rfl rfl rfl) rfl ?_)
  refine R_cons rfl (op_pure (p_move rfl) rfl ?_)
  first | refine R_pass rfl rfl rfl rfl ?_ | refine R_pass_undef rfl rfl rfl ?_ | refine R_guard rfl rfl rfl (op_pure (p_move rfl) rfl ?_)
  first | refine R_pass rfl rfl rfl rfl ?_ | refine R_pass_undef rfl rfl rfl ?_ | refine R_guard rfl rfl rfl (op_pure (by exact p_bin rfl rfl (b_quo (by decide) (nat_quo_u32 _ 65536 (by omega)))) rfl ?_)
  first | refine R_pass rfl rfl rfl rfl ?_ | refine R_pass_undef rfl rfl rfl ?_ | refine R_guard rfl rfl rfl (op_pure (by exact p_convert rfl sc_u32 ik_u64 (by first | exact w8_i64 _ | exact w8_u64 _ | exact w8_u32n _ | exact w32_u64 _ | exact w32_i64 _ | exact w_in_i64 (by omega) | exact w_in_u64 (by omega) | exact w_in_u32 (by omega))) rfl ?_)
  first | refine R_pass rfl rfl rfl rfl ?_ | refine R_pass_undef rfl rfl rfl ?_ | refine R_guard rfl rfl rfl (op_pure (p_move rfl) rfl ?_)
  first | refine R_pass rfl rfl rfl rfl ?_ | refine R_pass_undef rfl rfl rfl ?_ | refine R_guard rfl rfl rfl (op_pure (by exact p_bin rfl rfl (b_quo (by decide) (nat_quo_u32 _ 65536 (by omega)))) rfl ?_)
  first | refine R_pass rfl rfl rfl rfl ?_ | refine R_pass_undef rfl rfl rfl ?_ | refine R_guard rfl rfl rfl (op_pure (by exact p_convert rfl sc_u32 ik_u64 (by first | exact w8_i64 _ | exact w8_u64 _ | exact w8_u32n _ | exact w32_u64 _ | exact w32_i64 _ | exact w_in_i64 (by omega) | exact w_in_u64 (by omega) | exact w_in_u32 (by omega))) rfl ?_)
  first | refine R_pass rfl rfl rfl rfl ?_ | refine R_pass_undef rfl rfl rfl ?_ | refine R_guard rfl rfl rfl (op_pure (p_move rfl) rfl ?_)
  first | refine R_pass rfl rfl rfl rfl ?_ | refine R_pass_undef rfl rfl rfl ?_ | refine R_guard rfl rfl rfl (op_pure (by exact p_convert rfl sc_int ik_u64 (by first | exact w8_i64 _ | exact w8_u64 _ | exact w8_u32n _ | exact w32_u64 _ | exact w32_i64 _ | exact w_in_i64 (by omega) | exact w_in_u64 (by omega) | exact w_in_u32 (by omega))) rfl ?_)
  first | refine R_pass rfl rfl rfl rfl ?_ | refine R_pass_undef rfl rfl rfl ?_ | refine R_guard rfl rfl rfl (op_pure (p_move rfl) rfl ?_)
  first | refine R_pass rfl rfl rfl rfl ?_ | refine R_pass_undef rfl rfl rfl ?_ | refine R_guard rfl rfl rfl (op_pure (by first | exact p_bin rfl rfl (b_rem (by decide) (nat_rem _ 65536)) | exact p_bin rfl rfl (b_rem (by decide) (int_rem (by omega)))) rfl ?_)
  first | refine R_pass rfl rfl rfl rfl ?_ | refine R_pass_undef rfl rfl rfl ?_ | refine R_guard rfl rfl rfl (op_pure (by exact p_convert rfl sc_u32 ik_u64 (by first | exact w8_i64 _ | exact w8_u64 _ | exact w8_u32n _ | exact w32_u64 _ | exact w32_i64 _ | exact w_in_i64 (by omega) | exact w_in_u64 (by omega) | exact w_in_u32 (by omega))) rfl ?_)
  first | refine R_pass rfl rfl rfl rfl ?_ | refine R_pass_undef rfl rfl rfl ?_ | refine R_guard rfl rfl rfl (op_pure (by exact p_bin rfl rfl (b_mul (mul_u64_of (by first | assumption | omega)))) rfl ?_)
  first | refine R_pass rfl rfl rfl rfl ?_ | refine R_pass_undef rfl rfl rfl ?_ | refine R_guard rfl rfl rfl (op_pure (by first | exact p_bin rfl rfl (b_add (nat_add_u64 (by omega))) | exact p_bin rfl rfl (b_add (w_in_u64 (by omega)))) rfl ?_)
  first | refine R_pass rfl rfl rfl rfl ?_ | refine R_pass_undef rfl rfl rfl ?_ | refine R_guard rfl rfl rfl (op_pure (by first | exact p_bin rfl rfl (b_rem (by decide) (nat_rem _ 65521)) | exact p_bin rfl rfl (b_rem (by decide) (int_rem (by omega)))) rfl ?_)
  first | refine R_pass rfl rfl rfl rfl ?_ | refine R_pass_undef rfl rfl rfl ?_ | refine R_guard rfl rfl rfl (op_pure (p_bin rfl rfl (b_eql (by first | assumption | exact beq_iff_eq.2 (by omega) | exact beq_eq_false_iff_ne.2 (by omega) | rfl))) rfl ?_)
  refine R_cons rfl (op_pure (by first | exact p_pick_yes rfl rfl | exact p_pick_no rfl rfl | exact p_pick rfl rfl rfl) rfl ?_)
  refine R_cons rfl (op_pure (p_assign rfl) rfl ?_)
  refine R_nil ?_
  repeat (first | refine S_yes rfl rfl ?_ | refine S_no rfl rfl ?_ | refine S_seq ?_ | refine E_seq ?_ | refine S_block ?_ | refine E_block_normal ?_ | refine S_skip ?_ | refine S_exit ?_ | refine S_ret ?_ | refine E_then_exit ?_ | refine E_then_ret ?_ | refine E_block_ret ?_ | refine E_block_exit ?_ | refine E_block_exit_other rfl ?_)
  exact E_ret1 rfl rfl fun w' hm => ⟨rfl, hm.below⟩

theorem own : ownKnob Try.prog.godebug = none := by kernel_rfl
theorem laidOut : laidOutB Try.prog = true := by kernel_rfl
set_option maxRecDepth 100000 in
theorem lifted (os : Os) (started : os.Started) (H : Type) (enc : TypeId × Value → H) :
    ReturnsInHanded {} Try.checked os 8 .any (Rows.sumsNoughtSpec.pre6 enc Try.prog Try.f8 Rows.sumsNoughtRow.domain false) (Rows.sumsNoughtSpec.post enc Try.prog Try.f8 false true false false) := by
  refine returnsInHanded_of_change (C := Try.checked) own started (by kernel_rfl) Try.func8
    (ChangeSpec.witness6 (enc := enc) (C := Try.checked) false ⟨#[], #[.int .u32 0, .int .u16 0], []⟩ 8 (by kernel_rfl) (by kernel_rfl) (by kernel_rfl) (by kernel_rfl)) ?_
  intro W base args ds gs before hval0 hW hcnd _
  have hval : ∀ (j : Nat) t v, Try.f8.params[j]? = some t → args[j]? = some v → Value.okWide Try.prog W .any base t v := hval0
  have hW' := hW
  obtain ⟨p, q, hA0, hV, rfl, hfz, hnd⟩ := hW
  have hA : DataW.TrodAll enc Try.prog W 0 (fun _ => true) true Try.f8.params.toList args.toList ds p := hA0
  rw [Try.params8] at hA hval
  obtain ⟨v0, vs0, d0, ds0, p0, q0, hargs, rfl, rfl, h0, r0⟩ := trodAll_cons hA
  obtain ⟨v1, vs1, d1, ds1, p1, q1, rfl, rfl, rfl, h1, r1⟩ := trodAll_cons r0
  obtain ⟨rfl, rfl, rfl⟩ := trodAll_nil r1
  obtain rfl : args = #[v0, v1] := by cases args; simp_all
  obtain ⟨rfl, rfl⟩ := trodVars_none hV
  have k0 := h0
  have lt0 : ∀ x ∈ p0, x.block < W.heap.size := by obtain ⟨m, hm⟩ := k0; exact DataW.trod_lt m _ _ _ hm
  have k1 := h1
  have lt1 : ∀ x ∈ p1, x.block < W.heap.size := by obtain ⟨m, hm⟩ := k1; exact DataW.trod_lt m _ _ _ hm
  obtain ⟨a0, rfl⟩ := arg_u32 Try.underlying28 (hval 0 28 v0 rfl rfl) k0
  obtain ⟨a1, rfl⟩ := arg_u16 Try.underlying37 (hval 1 37 v1 rfl rfl) k1
  clear hA0 hval0
  refine (walk W a0 a1).mono fun e W' ⟨he, bel⟩ => ?_
  subst he
  exact ⟨_, rfl, _, _, _, [], _, [], hW', trodAll_mk1 (shut_bool Try.underlying4 _), (trodAll_cons_mk (Below.trod laidOut (by kernel_rfl) (of_decide_eq_true (by kernel_rfl)) k0 bel lt0) (trodAll_cons_mk (Below.trod laidOut (by kernel_rfl) (of_decide_eq_true (by kernel_rfl)) k1 bel lt1) trodAll_mk0)), rfl, bel.frame _, fun h => by cases h⟩
/-- The statement. -/
theorem proved : Rows.SumsNoughtSaid :=
  OpenClaim.holds_of_wide 8 Try.f8 rfl rfl rfl rfl rfl rfl rfl ⟨rfl, rfl, rfl, rfl, rfl⟩ rfl rfl rfl rfl rfl (by kernel_rfl) Try.func8 (by kernel_rfl)
    (of_decide_eq_true (by kernel_rfl)) (by unfold Func.isWrapper; first | (rw [if_pos (by decide +kernel)]; kernel_rfl) | (rw [if_neg (by decide +kernel)]; exact ⟨rfl, rfl⟩))
    (fun os started H enc _ => lifted os started H enc)
#print axioms proved
end Go.Proofs.Ytbnpalnmgeahpaa.sumsNought
