/-
  Two helpers of the statements: a twin of bytes with a watchman behind them; whether it is left as it was. Each by one walk.
-/
import Derived.Test.YthkogneaimjhjaaTy
namespace Go.Proofs.Ythkogneaimjhjaa
open Go.RowKit Go.K
attribute [local irreducible] Exit.then Exit.inBlock Exit.noGoto bodyPost Code.wp QL Sx Rx Qx Ex Dx Op1 Pure1 Still1 K.Sub Calm Code.wpIn

theorem take_snoc8 (xs : List UInt8) (k : Nat) (hk : k < xs.length) : xs.take (k + 1) = xs.take k ++ [xs.getD k 0] := by
  rw [List.take_succ_eq_append_getElem hk]
  simp [hk]
theorem bytesV_snoc (xs : List UInt8) (b : UInt8) : bytesV (xs ++ [b]) = bytesV xs ++ [.int .u8 (b.toNat : Int)] := by simp [bytesV, bv]

theorem twin_any (A : Option Addr) (n c : Nat) (xs : List UInt8) (w : World) (hl : xs.length = n) (hrd : Reads w A n (bytesV xs)) (hn : n ≤ 1048576) :
    Calls Try.prog 19 [.slice A n c].toArray w fun e w' => ∃ g cap sp, e = .returned (.slice (some ⟨g, 0, none⟩) n cap) ∧ w.heap.size ≤ g ∧ w'.heap[g]? = some (.cells (bytesV (xs ++ [77]) ++ sp).toArray 5 (0, 0)) ∧
      (bytesV (xs ++ [77]) ++ sp).length = cap ∧ cap ≤ maxLen ∧ Below w.heap.size w w' := by
  subst hl
  refine enter Try.func19 rfl Try.ntmps19 (by simp) ?_
  repeat (first | refine S_scope ?_ | refine S_label ?_ | refine E_noGoto_normal ?_ | refine E_noGoto_ret ?_ | refine E_noGoto_exit ?_ | refine S_yes rfl (by first | with_reducible rfl | decide) ?_ | refine S_no rfl (by first | with_reducible rfl | decide) ?_ | refine S_seq ?_ | refine E_seq ?_ | refine S_block ?_ | refine E_block_normal ?_ | refine S_skip ?_ | refine S_exit ?_ | refine S_ret ?_ | refine E_then_exit ?_ | refine E_then_ret ?_ | refine E_block_ret ?_ | refine E_block_exit ?_ | refine E_block_exit_other rfl ?_)
  refine S_region ?_
  refine R_cons rfl (op_pure (p_assign rfl) rfl ?_)
  refine R_nil ?_
  repeat (first | refine S_scope ?_ | refine S_label ?_ | refine E_noGoto_normal ?_ | refine E_noGoto_ret ?_ | refine E_noGoto_exit ?_ | refine S_yes rfl (by first | with_reducible rfl | decide) ?_ | refine S_no rfl (by first | with_reducible rfl | decide) ?_ | refine S_seq ?_ | refine E_seq ?_ | refine S_block ?_ | refine E_block_normal ?_ | refine S_skip ?_ | refine S_exit ?_ | refine S_ret ?_ | refine E_then_exit ?_ | refine E_then_ret ?_ | refine E_block_ret ?_ | refine E_block_exit ?_ | refine E_block_exit_other rfl ?_)
  refine S_region ?_
  refine R_cons rfl (op_pure (p_move rfl) rfl ?_)
  refine R_cons rfl (op_pure (p_len rfl slc_u8s) rfl ?_)
  refine R_cons rfl (op_pure (by exact p_bin rfl rfl (b_add (w_in_i64 (by omega)))) rfl ?_)
  refine R_cons rfl (op_makeSlice rfl rfl (by repeat (first | assumption | exact lit0 | exact lit1 | apply IntWalk.up_add | apply IntWalk.up_div | apply IntWalk.up_mod | apply IntWalk.up_mul | rfl)) (by repeat (first | assumption | exact lit0 | exact lit1 | apply IntWalk.up_add | apply IntWalk.up_div | apply IntWalk.up_mod | apply IntWalk.up_mul | rfl)) slc_u8s.1 el_u8 (by omega) (by omega) (by omega) rfl (Nat.le_refl _) (fun b8 => ?_))
  refine R_cons rfl (op_pure (p_assign rfl) rfl ?_)
  refine R_nil ?_
  repeat (first | refine S_scope ?_ | refine S_label ?_ | refine E_noGoto_normal ?_ | refine E_noGoto_ret ?_ | refine E_noGoto_exit ?_ | refine S_yes rfl (by first | with_reducible rfl | decide) ?_ | refine S_no rfl (by first | with_reducible rfl | decide) ?_ | refine S_seq ?_ | refine E_seq ?_ | refine S_block ?_ | refine E_block_normal ?_ | refine S_skip ?_ | refine S_exit ?_ | refine S_ret ?_ | refine E_then_exit ?_ | refine E_then_ret ?_ | refine E_block_ret ?_ | refine E_block_exit ?_ | refine E_block_exit_other rfl ?_)
  refine S_region ?_
  refine R_cons rfl (op_pure (p_assign rfl) rfl ?_)
  refine R_nil ?_
  repeat (first | refine S_scope ?_ | refine S_label ?_ | refine E_noGoto_normal ?_ | refine E_noGoto_ret ?_ | refine E_noGoto_exit ?_ | refine S_yes rfl (by first | with_reducible rfl | decide) ?_ | refine S_no rfl (by first | with_reducible rfl | decide) ?_ | refine S_seq ?_ | refine E_seq ?_ | refine S_block ?_ | refine E_block_normal ?_ | refine S_skip ?_ | refine S_exit ?_ | refine S_ret ?_ | refine E_then_exit ?_ | refine E_then_ret ?_ | refine E_block_ret ?_ | refine E_block_exit ?_ | refine E_block_exit_other rfl ?_)
  refine S_loop (σ := Nat × Nat × Nat × List Value) (fun s => [(4, .int .i64 (s.1 : Int)), (3, .slice (some ⟨s.2.1, 0, none⟩) s.1 s.2.2.1), (0, .slice A xs.length c)])
    (fun s => [(s.2.1, .cells (bytesV (xs.take s.1) ++ s.2.2.2).toArray 5 (0, 0))]) (fun s => s.1 ≤ xs.length ∧ (bytesV (xs.take s.1) ++ s.2.2.2).length = s.2.2.1 ∧ s.2.2.1 ≤ maxLen) (fun s => xs.length - s.1)
    (0, b8, xs.length + 1, List.replicate (xs.length + 1) (.int .u8 0)) ⟨by simp, by simp [bytesV], by show xs.length + 1 ≤ maxLen; unfold maxLen; omega⟩ (by repeat (first | exact Sub.nil | refine Sub.cons rfl ?_)) (.keep (by simp [bytesV]) .nil) ?_
  rintro ⟨k, g, cap, sp⟩ ⟨hk, hlen, hcm⟩
  dsimp only at hk hlen hcm ⊢
  repeat (first | refine S_scope ?_ | refine S_label ?_ | refine E_noGoto_normal ?_ | refine E_noGoto_ret ?_ | refine E_noGoto_exit ?_ | refine S_yes rfl (by first | with_reducible rfl | decide) ?_ | refine S_no rfl (by first | with_reducible rfl | decide) ?_ | refine S_seq ?_ | refine E_seq ?_ | refine S_block ?_ | refine E_block_normal ?_ | refine S_skip ?_ | refine S_exit ?_ | refine S_ret ?_ | refine E_then_exit ?_ | refine E_then_ret ?_ | refine E_block_ret ?_ | refine E_block_exit ?_ | refine E_block_exit_other rfl ?_)
  refine S_region ?_
  refine R_cons rfl (op_pure (p_move rfl) rfl ?_)
  refine R_cons rfl (op_pure (p_move rfl) rfl ?_)
  refine R_cons rfl (op_pure (p_len rfl slc_u8s) rfl ?_)
  refine R_cons rfl (op_pure (p_bin rfl rfl (b_lss (by first | assumption | exact decide_eq_true (by omega) | exact decide_eq_false (by omega) | rfl))) rfl ?_)
  refine R_nil ?_
  repeat (first | refine S_scope ?_ | refine S_label ?_ | refine E_noGoto_normal ?_ | refine E_noGoto_ret ?_ | refine E_noGoto_exit ?_ | refine S_yes rfl (by first | with_reducible rfl | decide) ?_ | refine S_no rfl (by first | with_reducible rfl | decide) ?_ | refine S_seq ?_ | refine E_seq ?_ | refine S_block ?_ | refine E_block_normal ?_ | refine S_skip ?_ | refine S_exit ?_ | refine S_ret ?_ | refine E_then_exit ?_ | refine E_then_ret ?_ | refine E_block_ret ?_ | refine E_block_exit ?_ | refine E_block_exit_other rfl ?_)
  refine S_cond rfl (fun hlt => ?_) (fun hge => ?_)
  · have hlt' : k < xs.length := by simpa using hlt
    obtain ⟨b, off, rfl, hb', hcell⟩ := hrd.2 (by omega)
    have hc := hcell k _ (bytesV_get hlt')
    have hxl : (bytesV (xs.take k)).length = k := by rw [bytesV_length, List.length_take]; omega
    repeat (first | refine S_scope ?_ | refine S_label ?_ | refine E_noGoto_normal ?_ | refine E_noGoto_ret ?_ | refine E_noGoto_exit ?_ | refine S_yes rfl (by first | with_reducible rfl | decide) ?_ | refine S_no rfl (by first | with_reducible rfl | decide) ?_ | refine S_seq ?_ | refine E_seq ?_ | refine S_block ?_ | refine E_block_normal ?_ | refine S_skip ?_ | refine S_exit ?_ | refine S_ret ?_ | refine E_then_exit ?_ | refine E_then_ret ?_ | refine E_block_ret ?_ | refine E_block_exit ?_ | refine E_block_exit_other rfl ?_)
    refine S_region ?_
    refine R_cons rfl (op_pure (p_move rfl) rfl ?_)
    refine R_cons rfl (op_pure (p_move rfl) rfl ?_)
    refine R_cons rfl (op_pure (p_move rfl) rfl ?_)
    refine R_cons rfl (op_pure (by exact p_indexSl rfl rfl (by repeat (first | assumption | exact lit0 | exact lit1 | apply IntWalk.up_add | apply IntWalk.up_div | apply IntWalk.up_mod | apply IntWalk.up_mul | rfl)) slc_u8s (by omega)) rfl ?_)
    refine R_cons rfl (op_pure (by first | exact p_load rfl sc_u8 (by repeat (first | exact List.Mem.head _ | apply List.Mem.tail)) (by first | assumption | exact bytesV_get (by omega) | exact wordsV_get (by omega) | rfl) | exact p_load_base rfl sc_u8 (by assumption) (by simp) (by assumption)) rfl ?_)
    refine R_cons rfl (op_buildSliceAll (ps := [(0, .tmp 19)]) rfl slc_u8s.1 el_u8 (by decide) (by decide) (by first | kernel_rfl | rfl) rfl (Nat.le_refl _) (fun b20 => ?_))
    refine R_cons rfl (op_append rfl rfl slc_u8s.1 el_u8 (by repeat (first | exact Del.here | apply Del.there)) hxl hlen hcm (fun w hm => hm.readsAll (by repeat (first | exact List.Mem.head _ | apply List.Mem.tail)) rfl) (by first | exact bytesV_one _ | exact wordsV_one _ | (repeat (first | exact ones_nil | refine ones_cons rfl ?_))) (by unfold maxLen; omega) (by omega) rfl (Nat.le_refl _) (fun g' cap' sp' hlen' hcm' => ?_))
    refine R_cons rfl (op_pure (p_assign rfl) rfl ?_)
    refine R_nil ?_
    repeat (first | refine S_scope ?_ | refine S_label ?_ | refine E_noGoto_normal ?_ | refine E_noGoto_ret ?_ | refine E_noGoto_exit ?_ | refine S_yes rfl (by first | with_reducible rfl | decide) ?_ | refine S_no rfl (by first | with_reducible rfl | decide) ?_ | refine S_seq ?_ | refine E_seq ?_ | refine S_block ?_ | refine E_block_normal ?_ | refine S_skip ?_ | refine S_exit ?_ | refine S_ret ?_ | refine E_then_exit ?_ | refine E_then_ret ?_ | refine E_block_ret ?_ | refine E_block_exit ?_ | refine E_block_exit_other rfl ?_)
    refine S_region ?_
    refine R_cons rfl (op_pure (p_move rfl) rfl ?_)
    refine R_cons rfl (op_pure (by exact p_bin rfl rfl (b_add (w_in_i64 (by omega)))) rfl ?_)
    refine R_cons rfl (op_pure (p_assign rfl) rfl ?_)
    refine R_nil ?_
    repeat (first | refine S_scope ?_ | refine S_label ?_ | refine E_noGoto_normal ?_ | refine E_noGoto_ret ?_ | refine E_noGoto_exit ?_ | refine S_yes rfl (by first | with_reducible rfl | decide) ?_ | refine S_no rfl (by first | with_reducible rfl | decide) ?_ | refine S_seq ?_ | refine E_seq ?_ | refine S_block ?_ | refine E_block_normal ?_ | refine S_skip ?_ | refine S_exit ?_ | refine S_ret ?_ | refine E_then_exit ?_ | refine E_then_ret ?_ | refine E_block_ret ?_ | refine E_block_exit ?_ | refine E_block_exit_other rfl ?_)
    have hts : bytesV (xs.take (k + 1)) = bytesV (xs.take k) ++ [.int .u8 ((xs.getD k 0).toNat : Int)] := by rw [take_snoc8 xs k hlt', bytesV_snoc]
    refine E_round (s := (k, g, cap, sp)) (k + 1, g', cap', sp') ?_ ?_ ?_ ?_
    · refine ⟨?_, ?_, hcm'⟩
      · show k + 1 ≤ xs.length
        omega
      · show (bytesV (xs.take (k + 1)) ++ sp').length = cap'
        rw [hts]; exact hlen'
    · show xs.length - (k + 1) < xs.length - k
      omega
    · repeat (first | exact Sub.nil | refine Sub.cons rfl ?_)
    · refine .keep ?_ .nil
      rw [hts]
  · have hge' : xs.length = k := by have : xs.length ≤ k := by simpa using hge
                                    omega
    subst hge'
    rw [List.take_length] at *
    repeat (first | refine S_scope ?_ | refine S_label ?_ | refine E_noGoto_normal ?_ | refine E_noGoto_ret ?_ | refine E_noGoto_exit ?_ | refine S_yes rfl (by first | with_reducible rfl | decide) ?_ | refine S_no rfl (by first | with_reducible rfl | decide) ?_ | refine S_seq ?_ | refine E_seq ?_ | refine S_block ?_ | refine E_block_normal ?_ | refine S_skip ?_ | refine S_exit ?_ | refine S_ret ?_ | refine E_then_exit ?_ | refine E_then_ret ?_ | refine E_block_ret ?_ | refine E_block_exit ?_ | refine E_block_exit_other rfl ?_)
    refine S_region ?_
    refine R_cons rfl (op_pure (p_move rfl) rfl ?_)
    refine R_cons rfl (op_buildSliceAll (ps := [(0, .const (.int .u8 77))]) rfl slc_u8s.1 el_u8 (by decide) (by decide) (by first | kernel_rfl | rfl) rfl (Nat.le_refl _) (fun b23 => ?_))
    refine R_cons rfl (op_append rfl rfl slc_u8s.1 el_u8 (by repeat (first | exact Del.here | apply Del.there)) (bytesV_length _) hlen hcm (fun w hm => hm.readsAll (by repeat (first | exact List.Mem.head _ | apply List.Mem.tail)) rfl) (by first | exact bytesV_one _ | exact wordsV_one _ | (repeat (first | exact ones_nil | refine ones_cons rfl ?_))) (by unfold maxLen; omega) (by omega) rfl (Nat.le_refl _) (fun g' cap' sp' hlen' hcm' => ?_))
    have h77 : bytesV (xs ++ [77]) = bytesV xs ++ [.int .u8 77] := bytesV_snoc xs 77
    have hcap2 : xs.length ≤ cap' := by simp [bytesV_length] at hlen'; omega
    refine R_cons rfl (op_pure (p_move rfl) rfl ?_)
    refine R_cons rfl (op_pure (p_len rfl slc_u8s) rfl ?_)
    refine R_cons rfl (op_pure (p_sliceTo rfl rfl (by repeat (first | assumption | exact lit0 | exact lit1 | apply IntWalk.up_add | apply IntWalk.up_div | apply IntWalk.up_mod | apply IntWalk.up_mul | rfl)) slc_u8s (by omega)) rfl ?_)
    refine R_cons rfl (op_pure (p_assign rfl) rfl ?_)
    refine R_nil ?_
    repeat (first | refine S_scope ?_ | refine S_label ?_ | refine E_noGoto_normal ?_ | refine E_noGoto_ret ?_ | refine E_noGoto_exit ?_ | refine S_yes rfl (by first | with_reducible rfl | decide) ?_ | refine S_no rfl (by first | with_reducible rfl | decide) ?_ | refine S_seq ?_ | refine E_seq ?_ | refine S_block ?_ | refine E_block_normal ?_ | refine S_skip ?_ | refine S_exit ?_ | refine S_ret ?_ | refine E_then_exit ?_ | refine E_then_ret ?_ | refine E_block_ret ?_ | refine E_block_exit ?_ | refine E_block_exit_other rfl ?_)
    refine E_ret1 rfl rfl fun w' hm => ⟨g', cap', sp', rfl, ?_, ?_, by rw [h77]; exact hlen', hcm', hm.below⟩
    · rcases (hm.own (g', _) (by repeat (first | exact List.Mem.head _ | apply List.Mem.tail))).1 with h | h
      · exact h
      · cases h
    · rw [h77]; exact (hm.own (g', _) (by repeat (first | exact List.Mem.head _ | apply List.Mem.tail))).2

theorem left_bytes (A1 A2 : Option Addr) (n c1 c2 : Nat) (xs : List UInt8) (w : World) (hl : xs.length = n) (h1 : Reads w A1 (n + 1) (bytesV (xs ++ [77]))) (hc1 : n + 1 ≤ c1) (hm1 : c1 ≤ maxLen) (h2 : Reads w A2 n (bytesV xs)) :
    Calls Try.prog 27 [.slice A1 n c1, .slice A2 n c2].toArray w fun e w' => e = .returned (.bool true) ∧ Below w.heap.size w w' := by
  subst hl
  have hm1' := hm1
  unfold maxLen at hm1'
  obtain ⟨b1, o1, rfl, hb1, hcell1⟩ := h1.2 (by omega)
  refine enter Try.func27 rfl Try.ntmps27 (by simp) ?_
  repeat (first | refine S_scope ?_ | refine S_label ?_ | refine E_noGoto_normal ?_ | refine E_noGoto_ret ?_ | refine E_noGoto_exit ?_ | refine S_yes rfl (by first | with_reducible rfl | decide) ?_ | refine S_no rfl (by first | with_reducible rfl | decide) ?_ | refine S_seq ?_ | refine E_seq ?_ | refine S_block ?_ | refine E_block_normal ?_ | refine S_skip ?_ | refine S_exit ?_ | refine S_ret ?_ | refine E_then_exit ?_ | refine E_then_ret ?_ | refine E_block_ret ?_ | refine E_block_exit ?_ | refine E_block_exit_other rfl ?_)
  refine S_region ?_
  refine R_cons rfl (op_pure (p_assign rfl) rfl ?_)
  refine R_nil ?_
  repeat (first | refine S_scope ?_ | refine S_label ?_ | refine E_noGoto_normal ?_ | refine E_noGoto_ret ?_ | refine E_noGoto_exit ?_ | refine S_yes rfl (by first | with_reducible rfl | decide) ?_ | refine S_no rfl (by first | with_reducible rfl | decide) ?_ | refine S_seq ?_ | refine E_seq ?_ | refine S_block ?_ | refine E_block_normal ?_ | refine S_skip ?_ | refine S_exit ?_ | refine S_ret ?_ | refine E_then_exit ?_ | refine E_then_ret ?_ | refine E_block_ret ?_ | refine E_block_exit ?_ | refine E_block_exit_other rfl ?_)
  refine S_region ?_
  refine R_cons rfl (op_pure (p_move rfl) rfl ?_)
  refine R_cons rfl (op_pure (p_len rfl slc_u8s) rfl ?_)
  refine R_cons rfl (op_pure (p_move rfl) rfl ?_)
  refine R_cons rfl (op_pure (p_len rfl slc_u8s) rfl ?_)
  refine R_cons rfl (op_pure (p_bin rfl rfl (b_neq (by first | assumption | exact bne_iff_ne.2 (by omega) | exact bne_eq_false_iff_eq.2 (by omega) | rfl))) rfl ?_)
  refine R_cons rfl (op_pure (p_move rfl) rfl ?_)
  first | refine R_pass rfl rfl rfl rfl ?_ | refine R_pass_undef rfl rfl rfl ?_ | refine R_guard rfl rfl rfl (op_pure (p_move rfl) rfl ?_)
  first | refine R_pass rfl rfl rfl rfl ?_ | refine R_pass_undef rfl rfl rfl ?_ | refine R_guard rfl rfl rfl (op_pure (p_cap rfl slc_u8s.1) rfl ?_)
  first | refine R_pass rfl rfl rfl rfl ?_ | refine R_pass_undef rfl rfl rfl ?_ | refine R_guard rfl rfl rfl (op_pure (p_move rfl) rfl ?_)
  first | refine R_pass rfl rfl rfl rfl ?_ | refine R_pass_undef rfl rfl rfl ?_ | refine R_guard rfl rfl rfl (op_pure (p_len rfl slc_u8s) rfl ?_)
  first | refine R_pass rfl rfl rfl rfl ?_ | refine R_pass_undef rfl rfl rfl ?_ | refine R_guard rfl rfl rfl (op_pure (p_bin rfl rfl (b_leq (by first | assumption | exact decide_eq_true (by omega) | exact decide_eq_false (by omega) | rfl))) rfl ?_)
  refine R_cons rfl (op_pure (by first | exact p_pick_yes rfl rfl | exact p_pick_no rfl rfl | exact p_pick rfl rfl rfl) rfl ?_)
  refine R_nil ?_
  repeat (first | refine S_scope ?_ | refine S_label ?_ | refine E_noGoto_normal ?_ | refine E_noGoto_ret ?_ | refine E_noGoto_exit ?_ | refine S_yes rfl (by first | with_reducible rfl | decide) ?_ | refine S_no rfl (by first | with_reducible rfl | decide) ?_ | refine S_seq ?_ | refine E_seq ?_ | refine S_block ?_ | refine E_block_normal ?_ | refine S_skip ?_ | refine S_exit ?_ | refine S_ret ?_ | refine E_then_exit ?_ | refine E_then_ret ?_ | refine E_block_ret ?_ | refine E_block_exit ?_ | refine E_block_exit_other rfl ?_)
  refine S_region ?_
  refine R_cons rfl (op_pure (p_assign rfl) rfl ?_)
  refine R_nil ?_
  repeat (first | refine S_scope ?_ | refine S_label ?_ | refine E_noGoto_normal ?_ | refine E_noGoto_ret ?_ | refine E_noGoto_exit ?_ | refine S_yes rfl (by first | with_reducible rfl | decide) ?_ | refine S_no rfl (by first | with_reducible rfl | decide) ?_ | refine S_seq ?_ | refine E_seq ?_ | refine S_block ?_ | refine E_block_normal ?_ | refine S_skip ?_ | refine S_exit ?_ | refine S_ret ?_ | refine E_then_exit ?_ | refine E_then_ret ?_ | refine E_block_ret ?_ | refine E_block_exit ?_ | refine E_block_exit_other rfl ?_)
  refine S_loop (fun k : Nat => [(5, .int .i64 (k : Int)), (1, .slice A2 xs.length c2), (0, .slice (some ⟨b1, o1, none⟩) xs.length c1)]) (fun _ => [])
    (fun k => k ≤ xs.length) (fun k => xs.length - k) 0 (by omega) (by repeat (first | exact Sub.nil | refine Sub.cons rfl ?_)) (Fewer.refl _) ?_
  intro k hk
  repeat (first | refine S_scope ?_ | refine S_label ?_ | refine E_noGoto_normal ?_ | refine E_noGoto_ret ?_ | refine E_noGoto_exit ?_ | refine S_yes rfl (by first | with_reducible rfl | decide) ?_ | refine S_no rfl (by first | with_reducible rfl | decide) ?_ | refine S_seq ?_ | refine E_seq ?_ | refine S_block ?_ | refine E_block_normal ?_ | refine S_skip ?_ | refine S_exit ?_ | refine S_ret ?_ | refine E_then_exit ?_ | refine E_then_ret ?_ | refine E_block_ret ?_ | refine E_block_exit ?_ | refine E_block_exit_other rfl ?_)
  refine S_region ?_
  refine R_cons rfl (op_pure (p_move rfl) rfl ?_)
  refine R_cons rfl (op_pure (p_move rfl) rfl ?_)
  refine R_cons rfl (op_pure (p_len rfl slc_u8s) rfl ?_)
  refine R_cons rfl (op_pure (p_bin rfl rfl (b_lss (by first | assumption | exact decide_eq_true (by omega) | exact decide_eq_false (by omega) | rfl))) rfl ?_)
  refine R_nil ?_
  repeat (first | refine S_scope ?_ | refine S_label ?_ | refine E_noGoto_normal ?_ | refine E_noGoto_ret ?_ | refine E_noGoto_exit ?_ | refine S_yes rfl (by first | with_reducible rfl | decide) ?_ | refine S_no rfl (by first | with_reducible rfl | decide) ?_ | refine S_seq ?_ | refine E_seq ?_ | refine S_block ?_ | refine E_block_normal ?_ | refine S_skip ?_ | refine S_exit ?_ | refine S_ret ?_ | refine E_then_exit ?_ | refine E_then_ret ?_ | refine E_block_ret ?_ | refine E_block_exit ?_ | refine E_block_exit_other rfl ?_)
  refine S_cond rfl (fun hlt => ?_) (fun hge => ?_)
  · have hlt' : k < xs.length := by simpa using hlt
    obtain ⟨b2, o2, rfl, hb2, hcell2⟩ := h2.2 (by omega)
    have hc2 := hcell2 k _ (bytesV_get hlt')
    have hc1 := hcell1 k (.int .u8 ((xs.getD k 0).toNat : Int)) (by rw [bytesV_append, List.getElem?_append_left (by rw [bytesV_length]; exact hlt')]; exact bytesV_get hlt')
    repeat (first | refine S_scope ?_ | refine S_label ?_ | refine E_noGoto_normal ?_ | refine E_noGoto_ret ?_ | refine E_noGoto_exit ?_ | refine S_yes rfl (by first | with_reducible rfl | decide) ?_ | refine S_no rfl (by first | with_reducible rfl | decide) ?_ | refine S_seq ?_ | refine E_seq ?_ | refine S_block ?_ | refine E_block_normal ?_ | refine S_skip ?_ | refine S_exit ?_ | refine S_ret ?_ | refine E_then_exit ?_ | refine E_then_ret ?_ | refine E_block_ret ?_ | refine E_block_exit ?_ | refine E_block_exit_other rfl ?_)
    refine S_quiet (by kernel_rfl) (by kernel_rfl) ?_
    refine Q_cons (Still1.of_pure (p_move rfl)) rfl ?_
    refine Q_cons (Still1.of_pure (p_move rfl)) rfl ?_
    refine Q_cons (Still1.of_pure (by exact p_indexSl rfl rfl (by repeat (first | assumption | exact lit0 | exact lit1 | apply IntWalk.up_add | apply IntWalk.up_div | apply IntWalk.up_mod | apply IntWalk.up_mul | rfl)) slc_u8s (by omega))) rfl ?_
    refine Q_cons (Still1.of_pure (by first | exact p_load rfl sc_u8 (by repeat (first | exact List.Mem.head _ | apply List.Mem.tail)) (by first | assumption | exact bytesV_get (by omega) | exact wordsV_get (by omega) | rfl) | exact p_load_base rfl sc_u8 (by assumption) (by simp) (by assumption))) rfl ?_
    refine Q_cons (Still1.of_pure (p_move rfl)) rfl ?_
    refine Q_cons (Still1.of_pure (p_move rfl)) rfl ?_
    refine Q_cons (Still1.of_pure (by exact p_indexSl rfl rfl (by repeat (first | assumption | exact lit0 | exact lit1 | apply IntWalk.up_add | apply IntWalk.up_div | apply IntWalk.up_mod | apply IntWalk.up_mul | rfl)) slc_u8s (by omega))) rfl ?_
    refine Q_cons (Still1.of_pure (by first | exact p_load rfl sc_u8 (by repeat (first | exact List.Mem.head _ | apply List.Mem.tail)) (by first | assumption | exact bytesV_get (by omega) | exact wordsV_get (by omega) | rfl) | exact p_load_base rfl sc_u8 (by assumption) (by simp) (by assumption))) rfl ?_
    refine Q_cons (Still1.of_pure (p_bin rfl rfl (b_neq (by first | assumption | exact bne_iff_ne.2 (by omega) | exact bne_eq_false_iff_eq.2 (by omega) | rfl)))) rfl ?_
    refine Q_nil ?_
    repeat (first | refine S_scope ?_ | refine S_label ?_ | refine E_noGoto_normal ?_ | refine E_noGoto_ret ?_ | refine E_noGoto_exit ?_ | refine S_yes rfl (by first | with_reducible rfl | decide) ?_ | refine S_no rfl (by first | with_reducible rfl | decide) ?_ | refine S_seq ?_ | refine E_seq ?_ | refine S_block ?_ | refine E_block_normal ?_ | refine S_skip ?_ | refine S_exit ?_ | refine S_ret ?_ | refine E_then_exit ?_ | refine E_then_ret ?_ | refine E_block_ret ?_ | refine E_block_exit ?_ | refine E_block_exit_other rfl ?_)
    refine S_region ?_
    refine R_cons rfl (op_pure (p_move rfl) rfl ?_)
    refine R_cons rfl (op_pure (by exact p_bin rfl rfl (b_add (w_in_i64 (by omega)))) rfl ?_)
    refine R_cons rfl (op_pure (p_assign rfl) rfl ?_)
    refine R_nil ?_
    repeat (first | refine S_scope ?_ | refine S_label ?_ | refine E_noGoto_normal ?_ | refine E_noGoto_ret ?_ | refine E_noGoto_exit ?_ | refine S_yes rfl (by first | with_reducible rfl | decide) ?_ | refine S_no rfl (by first | with_reducible rfl | decide) ?_ | refine S_seq ?_ | refine E_seq ?_ | refine S_block ?_ | refine E_block_normal ?_ | refine S_skip ?_ | refine S_exit ?_ | refine S_ret ?_ | refine E_then_exit ?_ | refine E_then_ret ?_ | refine E_block_ret ?_ | refine E_block_exit ?_ | refine E_block_exit_other rfl ?_)
    exact E_round (k + 1) (by omega) (by omega) (by repeat (first | exact Sub.nil | refine Sub.cons rfl ?_)) (Fewer.refl _)
  · have hge' : xs.length ≤ k := by simpa using hge
    have hc77 := hcell1 xs.length (.int .u8 77) (by rw [bytesV_append, List.getElem?_append_right (by rw [bytesV_length]; exact Nat.le_refl _), bytesV_length, Nat.sub_self]; rfl)
    repeat (first | refine S_scope ?_ | refine S_label ?_ | refine E_noGoto_normal ?_ | refine E_noGoto_ret ?_ | refine E_noGoto_exit ?_ | refine S_yes rfl (by first | with_reducible rfl | decide) ?_ | refine S_no rfl (by first | with_reducible rfl | decide) ?_ | refine S_seq ?_ | refine E_seq ?_ | refine S_block ?_ | refine E_block_normal ?_ | refine S_skip ?_ | refine S_exit ?_ | refine S_ret ?_ | refine E_then_exit ?_ | refine E_then_ret ?_ | refine E_block_ret ?_ | refine E_block_exit ?_ | refine E_block_exit_other rfl ?_)
    refine S_region ?_
    refine R_cons rfl (op_pure (p_move rfl) rfl ?_)
    refine R_cons rfl (op_pure (p_move rfl) rfl ?_)
    refine R_cons rfl (op_pure (p_len rfl slc_u8s) rfl ?_)
    refine R_cons rfl (op_pure (by exact p_bin rfl rfl (b_add (w_in_i64 (by omega)))) rfl ?_)
    refine R_cons rfl (op_pure (p_sliceTo rfl rfl (by repeat (first | assumption | exact lit0 | exact lit1 | apply IntWalk.up_add | apply IntWalk.up_div | apply IntWalk.up_mod | apply IntWalk.up_mul | rfl)) slc_u8s (by omega)) rfl ?_)
    refine R_cons rfl (op_pure (p_move rfl) rfl ?_)
    refine R_cons rfl (op_pure (p_len rfl slc_u8s) rfl ?_)
    refine R_cons rfl (op_pure (by exact p_indexSl rfl rfl (by repeat (first | assumption | exact lit0 | exact lit1 | apply IntWalk.up_add | apply IntWalk.up_div | apply IntWalk.up_mod | apply IntWalk.up_mul | rfl)) slc_u8s (by omega)) rfl ?_)
    refine R_cons rfl (op_pure (by first | exact p_load rfl sc_u8 (by repeat (first | exact List.Mem.head _ | apply List.Mem.tail)) (by first | assumption | exact bytesV_get (by omega) | exact wordsV_get (by omega) | rfl) | exact p_load_base rfl sc_u8 (by assumption) (by simp) (by assumption)) rfl ?_)
    refine R_cons rfl (op_pure (p_assign rfl) rfl ?_)
    refine R_nil ?_
    repeat (first | refine S_scope ?_ | refine S_label ?_ | refine E_noGoto_normal ?_ | refine E_noGoto_ret ?_ | refine E_noGoto_exit ?_ | refine S_yes rfl (by first | with_reducible rfl | decide) ?_ | refine S_no rfl (by first | with_reducible rfl | decide) ?_ | refine S_seq ?_ | refine E_seq ?_ | refine S_block ?_ | refine E_block_normal ?_ | refine S_skip ?_ | refine S_exit ?_ | refine S_ret ?_ | refine E_then_exit ?_ | refine E_then_ret ?_ | refine E_block_ret ?_ | refine E_block_exit ?_ | refine E_block_exit_other rfl ?_)
    refine S_region ?_
    refine R_cons rfl (op_pure (p_move rfl) rfl ?_)
    refine R_cons rfl (op_pure (p_bin rfl rfl (b_eql (by first | assumption | exact beq_iff_eq.2 (by omega) | exact beq_eq_false_iff_ne.2 (by omega) | rfl))) rfl ?_)
    refine R_cons rfl (op_pure (p_assign rfl) rfl ?_)
    refine R_nil ?_
    repeat (first | refine S_scope ?_ | refine S_label ?_ | refine E_noGoto_normal ?_ | refine E_noGoto_ret ?_ | refine E_noGoto_exit ?_ | refine S_yes rfl (by first | with_reducible rfl | decide) ?_ | refine S_no rfl (by first | with_reducible rfl | decide) ?_ | refine S_seq ?_ | refine E_seq ?_ | refine S_block ?_ | refine E_block_normal ?_ | refine S_skip ?_ | refine S_exit ?_ | refine S_ret ?_ | refine E_then_exit ?_ | refine E_then_ret ?_ | refine E_block_ret ?_ | refine E_block_exit ?_ | refine E_block_exit_other rfl ?_)
    exact E_ret1 rfl rfl fun w' hm => ⟨rfl, hm.below⟩
end Go.Proofs.Ythkogneaimjhjaa
