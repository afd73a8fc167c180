/-
  Proved: of any message, and whatever signed it, what a key would come to is the chapter's. No condition.
-/
import Derived.Test.YtfdlafjifjndeaaRows
import Derived.Test.YtfdlafjifjndeaaOnce3
import Derived.Test.YtfdlafjifjndeaaK25
namespace Go.Proofs.Ytfdlafjifjndeaa.oncesFrom
open Go.ChangeShapes Go.WideShapes Go.ChangeAt Go.Sha
open Go.RowKit Go.K
attribute [local irreducible] Exit.then Exit.inBlock Exit.noGoto bodyPost Code.wp QL Sx Rx Qx Ex Dx Op1 Pure1 Still1 K.Sub Calm Code.wpIn
set_option linter.unusedVariables false

section
attribute [local irreducible] sha total Buf.hp Buf.cap Buf.addr ofS
set_option maxHeartbeats 1000000 in
theorem walk0 (w : World) (m : List UInt8) (hm32 : m.length = 32) (l : List (List UInt8)) (hs : Sums l) (hl : l.length = 128) :
    Calls Try.prog 3 [.agg (bytesV m).toArray, .agg (sumsV l).toArray].toArray w fun e w' => e = .returned (.bool true) ∧ Below w.heap.size w w' := by
  have hol := ofS_length m l
  have hsv : (sumsV l).length = 4096 := by rw [sumsV_length hs, hl]
  refine enter Try.func3 rfl Try.ntmps3 (by simp) ?_
  repeat (first | refine S_scope ?_ | refine S_label ?_ | refine E_noGoto_normal ?_ | refine E_noGoto_ret ?_ | refine E_noGoto_exit ?_ | refine S_yes rfl (by first | with_reducible rfl | decide) ?_ | refine S_no rfl (by first | with_reducible rfl | decide) ?_ | refine S_seq ?_ | refine E_seq ?_ | refine S_block ?_ | refine E_block_normal ?_ | refine S_skip ?_ | refine S_exit ?_ | refine S_ret ?_ | refine E_then_exit ?_ | refine E_then_ret ?_ | refine E_block_ret ?_ | refine E_block_exit ?_ | refine E_block_exit_other rfl ?_)
  refine S_region ?_
  refine R_cons rfl (op_boxRow rfl rfl (Nat.le_refl _) (fun b2 => ?_))
  refine R_cons rfl (op_boxRow rfl rfl (Nat.le_refl _) (fun b3 => ?_))
  refine R_cons rfl (op_pure (p_assign rfl) rfl ?_)
  refine R_nil ?_
  repeat (first | refine S_scope ?_ | refine S_label ?_ | refine E_noGoto_normal ?_ | refine E_noGoto_ret ?_ | refine E_noGoto_exit ?_ | refine S_yes rfl (by first | with_reducible rfl | decide) ?_ | refine S_no rfl (by first | with_reducible rfl | decide) ?_ | refine S_seq ?_ | refine E_seq ?_ | refine S_block ?_ | refine E_block_normal ?_ | refine S_skip ?_ | refine S_exit ?_ | refine S_ret ?_ | refine E_then_exit ?_ | refine E_then_ret ?_ | refine E_block_ret ?_ | refine E_block_exit ?_ | refine E_block_exit_other rfl ?_)
  refine S_quiet (by kernel_rfl) (by kernel_rfl) ?_
  refine Q_cons (Still1.of_pure (p_loadRow rfl row_Sum (by repeat (first | exact List.Mem.head _ | apply List.Mem.tail)) (by rw [bytesV_length, hm32]))) rfl ?_
  refine Q_cons (Still1.of_pure (p_loadRow rfl row_api_Once (by repeat (first | exact List.Mem.head _ | apply List.Mem.tail)) hsv)) rfl ?_
  refine Q_cons (still_call rfl rfl Try.func12 rfl (by kernel_rfl) (Nat.le_refl _) (fun w' _ => once_of_any m hm32 l hs hl w')) rfl ?_
  refine Q_cons (Still1.of_pure (p_loadRow rfl row_Sum (by repeat (first | exact List.Mem.head _ | apply List.Mem.tail)) (by rw [bytesV_length, hm32]))) rfl ?_
  refine Q_cons (Still1.of_pure (p_loadRow rfl row_api_Once (by repeat (first | exact List.Mem.head _ | apply List.Mem.tail)) hsv)) rfl ?_
  refine Q_cons (still_call rfl rfl Try.func13 rfl (by kernel_rfl) (Nat.le_refl _) (fun w' _ => ref_of_any m hm32 l hs hl w')) rfl ?_
  refine Q_cons (Still1.of_pure (p_eql_bytesR rfl rfl arr_Sum.1 Try.underlying5 (by kernel_rfl) (by kernel_rfl) hol hol (r := true) (beq_self_eq_true _))) rfl ?_
  refine Q_cons (Still1.of_pure (p_move rfl)) rfl ?_
  first | refine Q_pass rfl rfl rfl rfl ?_ | refine Q_pass_undef rfl rfl rfl ?_ | refine Q_guard rfl rfl (still_call rfl rfl Try.func14 rfl (by kernel_rfl) (Nat.le_refl _) (fun w' _ => lives19 w')) rfl ?_
  refine Q_cons (Still1.of_pure (by first | exact p_pick_yes rfl rfl | exact p_pick_no rfl rfl | exact p_pick rfl rfl rfl)) rfl ?_
  refine Q_cons (Still1.of_pure (p_assign rfl)) rfl ?_
  refine Q_nil ?_
  repeat (first | refine S_scope ?_ | refine S_label ?_ | refine E_noGoto_normal ?_ | refine E_noGoto_ret ?_ | refine E_noGoto_exit ?_ | refine S_yes rfl (by first | with_reducible rfl | decide) ?_ | refine S_no rfl (by first | with_reducible rfl | decide) ?_ | refine S_seq ?_ | refine E_seq ?_ | refine S_block ?_ | refine E_block_normal ?_ | refine S_skip ?_ | refine S_exit ?_ | refine S_ret ?_ | refine E_then_exit ?_ | refine E_then_ret ?_ | refine E_block_ret ?_ | refine E_block_exit ?_ | refine E_block_exit_other rfl ?_)
  exact E_ret1 rfl rfl fun w' hm => ⟨rfl, hm.below⟩
end
theorem walk (w : World) (m : List UInt8) (hm32 : m.length = 32) (t : List (List UInt8)) (ht : Sums t) (htl : t.length = 64) (o : List (List UInt8)) (ho : Sums o) (hol : o.length = 64) :
    Calls Try.prog 3 [.agg (bytesV m).toArray, .agg (sumsV t ++ sumsV o).toArray].toArray w fun e w' => e = .returned (.bool true) ∧ Below w.heap.size w w' := by
  have h := walk0 w m hm32 (t ++ o) (ht.append ho) (by rw [List.length_append, htl, hol])
  rw [sumsV_append] at h
  exact h

theorem great_in_order (w : World) : Input.okWideB Try.prog w 3 ⟨#[], #[.agg (bytesV (List.replicate 32 0)).toArray, .agg (bytesV (List.replicate 4096 0)).toArray], []⟩ = true :=
  input_okB Try.func3 (by kernel_rfl) (by kernel_rfl) fun j t v hj hv => by
    match j with
    | 0 => cases hj; cases hv; exact okB_bytes Try.underlying23 rfl (by kernel_rfl) (by kernel_rfl) Try.underlying5 _ List.length_replicate
    | 1 => cases hj; cases hv; exact okB_bytes Try.underlying26 rfl (by kernel_rfl) (by kernel_rfl) Try.underlying5 _ List.length_replicate
    | j + 2 => have h := (Array.getElem?_eq_some_iff.1 hv).1; simp only [List.size_toArray, List.length_cons, List.length_nil] at h; omega

theorem own : ownKnob Try.prog.godebug = none := by kernel_rfl
theorem laidOut : laidOutB Try.prog = true := by kernel_rfl
set_option maxRecDepth 100000 in
theorem lifted (os : Os) (started : os.Started) (H : Type) (enc : TypeId × Value → H) :
    ReturnsInHanded {} Try.checked os 3 .any (Rows.oncesFromSpec.pre6 enc Try.prog Try.f3 Rows.oncesFromRow.domain false) (Rows.oncesFromSpec.post enc Try.prog Try.f3 false true false false) := by
  refine returnsInHanded_of_change (C := Try.checked) own started (by kernel_rfl) Try.func3
    (ChangeSpec.witness6 (enc := enc) (C := Try.checked) false ⟨#[], #[.agg (bytesV (List.replicate 32 0)).toArray, .agg (bytesV (List.replicate 4096 0)).toArray], []⟩ 8 (by kernel_rfl) (by kernel_rfl) (great_in_order _) (by kernel_rfl)) ?_
  intro W base args ds gs before hval0 hW hcnd _
  have hval : ∀ (j : Nat) t v, Try.f3.params[j]? = some t → args[j]? = some v → Value.okWide Try.prog W .any base t v := hval0
  have hW' := hW
  obtain ⟨p, q, hA0, hV, rfl, hfz, hnd⟩ := hW
  have hA : DataW.TrodAll enc Try.prog W 0 (fun _ => true) true Try.f3.params.toList args.toList ds p := hA0
  rw [Try.params3] at hA hval
  obtain ⟨v0, vs0, d0, ds0, p0, q0, hargs, rfl, rfl, h0, r0⟩ := trodAll_cons hA
  obtain ⟨v1, vs1, d1, ds1, p1, q1, rfl, rfl, rfl, h1, r1⟩ := trodAll_cons r0
  obtain ⟨rfl, rfl, rfl⟩ := trodAll_nil r1
  obtain rfl : args = #[v0, v1] := by cases args; simp_all
  obtain ⟨rfl, rfl⟩ := trodVars_none hV
  have k0 := h0
  have lt0 : ∀ x ∈ p0, x.block < W.heap.size := by obtain ⟨m, hm⟩ := k0; exact DataW.trod_lt m _ _ _ hm
  have k1 := h1
  have lt1 : ∀ x ∈ p1, x.block < W.heap.size := by obtain ⟨m, hm⟩ := k1; exact DataW.trod_lt m _ _ _ hm
  obtain ⟨a0, rfl, l0⟩ := arg_bytes Try.underlying23 Try.underlying5 (by kernel_rfl) (by kernel_rfl) (hval 0 23 v0 rfl rfl) k0
  obtain ⟨⟨cs1⟩, rfl, _⟩ := okWide_struct Try.underlying26 (hval 1 26 v1 rfl rfl)
  have q1 := k1
  obtain ⟨fu1, g1⟩ := q1
  obtain ⟨ys1, m1, _, _, hl1, hy1, hg1⟩ := DataW.trod_struct Try.underlying26 g1
  obtain ⟨x1_0, r1_0⟩ := fld (i := 0) (o := 0) (s := 2048) (ty := 24) hg1 hy1 rfl rfl rfl (by kernel_rfl)
  obtain ⟨a1_0, e1_0, ss1_0, l1_0⟩ := open_sumRow Try.underlying24 Try.underlying23 Try.underlying5 (by kernel_rfl) (by kernel_rfl) (by kernel_rfl) r1_0
  obtain ⟨x1_1, r1_1⟩ := fld (i := 1) (o := 2048) (s := 2048) (ty := 24) hg1 hy1 rfl rfl rfl (by kernel_rfl)
  obtain ⟨a1_1, e1_1, ss1_1, l1_1⟩ := open_sumRow Try.underlying24 Try.underlying23 Try.underlying5 (by kernel_rfl) (by kernel_rfl) (by kernel_rfl) r1_1
  have e1 := part_all (part_cons e1_0 (part_last e1_1 (by rw [hl1]; kernel_rfl)))
  simp only [Value.cells] at e1
  subst e1
  clear hA0 hval0
  refine (walk W a0 l0 a1_0 ss1_0 l1_0 a1_1 ss1_1 l1_1).mono fun e W' ⟨he, bel⟩ => ?_
  subst he
  exact ⟨_, rfl, _, _, _, [], _, [], hW', trodAll_mk1 (shut_bool Try.underlying4 _), (trodAll_cons_mk (Below.trod laidOut (by kernel_rfl) (of_decide_eq_true (by kernel_rfl)) k0 bel lt0) (trodAll_cons_mk (Below.trod laidOut (by kernel_rfl) (of_decide_eq_true (by kernel_rfl)) k1 bel lt1) trodAll_mk0)), rfl, bel.frame _, fun h => by cases h⟩
/-- The statement. -/
theorem proved : Rows.OncesFromSaid :=
  OpenClaim.holds_of_wide 3 Try.f3 rfl rfl rfl rfl rfl rfl rfl ⟨rfl, rfl, rfl, rfl, rfl⟩ rfl rfl rfl rfl rfl (by kernel_rfl) Try.func3 (by kernel_rfl)
    (of_decide_eq_true (by kernel_rfl)) (by unfold Func.isWrapper; first | (rw [if_pos (by decide +kernel)]; kernel_rfl) | (rw [if_neg (by decide +kernel)]; exact ⟨rfl, rfl⟩))
    (fun os started H enc _ => lifted os started H enc)
#print axioms proved
end Go.Proofs.Ytfdlafjifjndeaa.oncesFrom
