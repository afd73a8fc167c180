/-
  The layer keys: the chapter's list of what is empty.
-/
import Derived.Test.YthkogneaimjhjaaKeys3
namespace Go.Sha
open Go.K
/-- what is empty, so far from the deepest on up to depth k -/
def partE (k : Nat) : List (List UInt8) := (List.range 257).map fun i => if k ≤ i then empS (256 - i) else List.replicate 32 0
theorem partE_length (k : Nat) : (partE k).length = 257 := by unfold partE; rw [List.length_map, List.length_range]
theorem partE_get (k i : Nat) (hi : i < 257) : (partE k)[i]? = some (if k ≤ i then empS (256 - i) else List.replicate 32 0) := by
  unfold partE
  rw [List.getElem?_map, List.getElem?_range hi]
  rfl
theorem partE_getD (k i : Nat) (hi : i < 257) (hk : k ≤ i) : (partE k).getD i [] = empS (256 - i) := by
  rw [List.getD_eq_getElem?_getD, partE_get k i hi, if_pos hk]; rfl
theorem partE_sums (k : Nat) : Sums (partE k) := fun x hx => by
  obtain ⟨i, hi⟩ := List.getElem?_of_mem hx
  have hl : i < 257 := by
    rcases Nat.lt_or_ge i 257 with h | h
    · exact h
    · rw [List.getElem?_eq_none (by rw [partE_length]; exact h)] at hi; cases hi
  rw [partE_get k i hl] at hi
  cases hi
  split
  · exact empS_length _
  · rw [List.length_replicate]
theorem partE_set (k : Nat) (hk : k ≤ 256) : (partE (k + 1)).set k (empS (256 - k)) = partE k := by
  apply List.ext_getElem?
  intro i
  rcases Nat.lt_or_ge i 257 with hi | hi
  · by_cases e : k = i
    · subst e
      rw [List.getElem?_set_self (by rw [partE_length]; exact hi), partE_get k k hi, if_pos (Nat.le_refl _)]
    · rw [List.getElem?_set_ne e, partE_get _ i hi, partE_get _ i hi]
      by_cases h : k ≤ i
      · rw [if_pos h, if_pos (by omega)]
      · rw [if_neg h, if_neg (by omega)]
  · rw [List.getElem?_eq_none (by rw [List.length_set, partE_length]; exact hi), List.getElem?_eq_none (by rw [partE_length]; exact hi)]
theorem partE_none : partE 257 = List.replicate 257 (List.replicate 32 0) := by
  apply List.ext_getElem?
  intro i
  rcases Nat.lt_or_ge i 257 with hi | hi
  · rw [partE_get _ i hi, if_neg (by omega), List.getElem?_replicate, if_pos hi]
  · rw [List.getElem?_eq_none (by rw [partE_length]; exact hi), List.getElem?_eq_none (by rw [List.length_replicate]; exact hi)]
theorem rep_flat (n : Nat) (x : List UInt8) : (List.replicate n (bytesV x)).flatMap id = sumsV (List.replicate n x) := by
  rw [sumsV_flat, List.flatMap_def, List.flatMap_def, List.map_replicate, List.map_replicate]
  rfl
end Go.Sha
namespace Go.Proofs.Ythkogneaimjhjaa
open Go.Sha
open Go.RowKit Go.K
attribute [local irreducible] Exit.then Exit.inBlock Exit.noGoto bodyPost Code.wp QL Sx Rx Qx Ex Dx Op1 Pure1 Still1 K.Sub Calm Code.wpIn
attribute [local irreducible] sha total Buf.hp Buf.cap Buf.addr bitN empS sideS valueS partE sumsV
set_option linter.unusedVariables false
set_option maxRecDepth 4000

set_option maxHeartbeats 1000000 in
theorem all_any (w : World) : Calls Try.prog 46 #[] w fun e w' => ∃ g, e = .returned (.slice (some ⟨g, 0, none⟩) 257 257) ∧ w.heap.size ≤ g ∧ w'.heap[g]? = some (.cells (sumsV (partE 0)).toArray 23 (0, 0)) ∧ Below w.heap.size w w' := by
  have hone : ∀ k, ∀ v ∈ sumsV (partE k), v.oneCell' = true := fun k => sumsV_one _
  have hlen : ∀ k, (sumsV (partE k)).length = 257 * 32 := fun k => by rw [sumsV_length (partE_sums k), partE_length]
  have h2l := sha_length [2]
  have hz : (List.replicate 257 (bytesV (List.replicate 32 0))).flatMap id = sumsV (partE 257) := by rw [rep_flat, partE_none]
  have hlay : ∀ k, k ≤ 256 → lay (sumsV (partE (k + 1))) (0 + k * 32) (bytesV (empS (256 - k))) = sumsV (partE k) := fun k hk => by
    rw [Nat.zero_add, lay_sum (partE_sums _) (by rw [partE_length]; omega) (empS_length _), partE_set k hk]
  have e0 : empS (256 - 256) = sha [2] := by unfold empS; rfl
  have hl0 : lay (sumsV (partE 257)) (0 + 256 * 32) (bytesV (sha [2])) = sumsV (partE 256) := by rw [← e0]; exact hlay 256 (Nat.le_refl _)
  have hfit : 0 + 256 * 32 + (bytesV (sha [2])).length ≤ (sumsV (partE 257)).length := by rw [bytesV_length, h2l, hlen]; omega
  refine enter Try.func46 rfl Try.ntmps46 (by simp) ?_
  repeat (first | refine S_scope ?_ | refine S_label ?_ | refine E_noGoto_normal ?_ | refine E_noGoto_ret ?_ | refine E_noGoto_exit ?_ | refine S_yes rfl (by first | with_reducible rfl | decide) ?_ | refine S_no rfl (by first | with_reducible rfl | decide) ?_ | refine S_seq ?_ | refine E_seq ?_ | refine S_block ?_ | refine E_block_normal ?_ | refine S_skip ?_ | refine S_exit ?_ | refine S_ret ?_ | refine E_then_exit ?_ | refine E_then_ret ?_ | refine E_block_ret ?_ | refine E_block_exit ?_ | refine E_block_exit_other rfl ?_)
  refine S_region ?_
  refine R_cons rfl (op_pure (p_assign rfl) rfl ?_)
  refine R_nil ?_
  repeat (first | refine S_scope ?_ | refine S_label ?_ | refine E_noGoto_normal ?_ | refine E_noGoto_ret ?_ | refine E_noGoto_exit ?_ | refine S_yes rfl (by first | with_reducible rfl | decide) ?_ | refine S_no rfl (by first | with_reducible rfl | decide) ?_ | refine S_seq ?_ | refine E_seq ?_ | refine S_block ?_ | refine E_block_normal ?_ | refine S_skip ?_ | refine S_exit ?_ | refine S_ret ?_ | refine E_then_exit ?_ | refine E_then_ret ?_ | refine E_block_ret ?_ | refine E_block_exit ?_ | refine E_block_exit_other rfl ?_)
  refine S_region ?_
  refine R_cons rfl (op_makeSliceR (l := 257) (c := 257) (zs := bytesV (List.replicate 32 0)) rfl rfl rfl rfl slr_api_Sum.1 elr_Sum rfl (by decide) (Nat.le_refl _) (by decide) (by decide) rfl (Nat.le_refl _) (fun b3 => ?_))
  refine R_cons rfl (op_pure (p_assign rfl) rfl ?_)
  refine R_nil ?_
  repeat (first | refine S_scope ?_ | refine S_label ?_ | refine E_noGoto_normal ?_ | refine E_noGoto_ret ?_ | refine E_noGoto_exit ?_ | refine S_yes rfl (by first | with_reducible rfl | decide) ?_ | refine S_no rfl (by first | with_reducible rfl | decide) ?_ | refine S_seq ?_ | refine E_seq ?_ | refine S_block ?_ | refine E_block_normal ?_ | refine S_skip ?_ | refine S_exit ?_ | refine S_ret ?_ | refine E_then_exit ?_ | refine E_then_ret ?_ | refine E_block_ret ?_ | refine E_block_exit ?_ | refine E_block_exit_other rfl ?_)
  rw [hz]
  refine S_region ?_
  refine R_cons rfl (op_pure (p_move rfl) rfl ?_)
  refine R_cons rfl (op_buildSliceAll (ps := [(0, .const (.int .u8 2))]) rfl slc_u8s.1 el_u8 (by decide) (by decide) (by first | kernel_rfl | rfl) rfl (Nat.le_refl _) (fun b5 => ?_))
  refine R_cons rfl (op_callV rfl rfl Try.func45 rfl (by kernel_rfl) rfl (Nat.le_refl _) (fun w' hm => refOf_any _ 1 1 [2] w' rfl (hm.readsAll (b := b5) (by repeat (first | exact List.Mem.head _ | apply List.Mem.tail)) rfl) (by omega)) ?_)
  refine R_cons rfl (op_pure (p_indexR (j := 256) rfl rfl rfl slr_api_Sum (by omega)) rfl ?_)
  refine R_cons rfl (op_storeRow rfl rfl (bytesV_one _) row_Sum (by rw [bytesV_length, h2l]) (by repeat (first | exact At.here | apply At.there)) hfit ?_)
  refine R_nil ?_
  repeat (first | refine S_scope ?_ | refine S_label ?_ | refine E_noGoto_normal ?_ | refine E_noGoto_ret ?_ | refine E_noGoto_exit ?_ | refine S_yes rfl (by first | with_reducible rfl | decide) ?_ | refine S_no rfl (by first | with_reducible rfl | decide) ?_ | refine S_seq ?_ | refine E_seq ?_ | refine S_block ?_ | refine E_block_normal ?_ | refine S_skip ?_ | refine S_exit ?_ | refine S_ret ?_ | refine E_then_exit ?_ | refine E_then_ret ?_ | refine E_block_ret ?_ | refine E_block_exit ?_ | refine E_block_exit_other rfl ?_)
  rw [hl0]
  refine S_region ?_
  refine R_cons rfl (op_pure (p_assign rfl) rfl ?_)
  refine R_nil ?_
  repeat (first | refine S_scope ?_ | refine S_label ?_ | refine E_noGoto_normal ?_ | refine E_noGoto_ret ?_ | refine E_noGoto_exit ?_ | refine S_yes rfl (by first | with_reducible rfl | decide) ?_ | refine S_no rfl (by first | with_reducible rfl | decide) ?_ | refine S_seq ?_ | refine E_seq ?_ | refine S_block ?_ | refine E_block_normal ?_ | refine S_skip ?_ | refine S_exit ?_ | refine S_ret ?_ | refine E_then_exit ?_ | refine E_then_ret ?_ | refine E_block_ret ?_ | refine E_block_exit ?_ | refine E_block_exit_other rfl ?_)
  refine S_loop (fun k : Nat => [(2, .int .i64 ((k : Int) - 1)), (1, .slice (some ⟨b3, 0, none⟩) 257 257)]) (fun k => [(b3, .cells (sumsV (partE k)).toArray 23 (0, 0))]) (fun k => k ≤ 256) (fun k => k) 256 (Nat.le_refl _) (by repeat (first | exact Sub.nil | refine Sub.cons rfl ?_)) (.drop (.keep rfl .nil)) ?_
  intro k hk
  cases k with
  | zero =>
    have g1 : decide ((0 : Int) ≤ (((0 : Nat) : Int) - 1)) = false := by decide
    repeat (first | refine S_scope ?_ | refine S_label ?_ | refine E_noGoto_normal ?_ | refine E_noGoto_ret ?_ | refine E_noGoto_exit ?_ | refine S_yes rfl (by first | with_reducible rfl | decide) ?_ | refine S_no rfl (by first | with_reducible rfl | decide) ?_ | refine S_seq ?_ | refine E_seq ?_ | refine S_block ?_ | refine E_block_normal ?_ | refine S_skip ?_ | refine S_exit ?_ | refine S_ret ?_ | refine E_then_exit ?_ | refine E_then_ret ?_ | refine E_block_ret ?_ | refine E_block_exit ?_ | refine E_block_exit_other rfl ?_)
    refine S_region ?_
    refine R_cons rfl (op_pure (p_move rfl) rfl ?_)
    refine R_cons rfl (op_pure (p_bin rfl rfl (b_geq g1)) rfl ?_)
    refine R_nil ?_
    repeat (first | refine S_scope ?_ | refine S_label ?_ | refine E_noGoto_normal ?_ | refine E_noGoto_ret ?_ | refine E_noGoto_exit ?_ | refine S_yes rfl (by first | with_reducible rfl | decide) ?_ | refine S_no rfl (by first | with_reducible rfl | decide) ?_ | refine S_seq ?_ | refine E_seq ?_ | refine S_block ?_ | refine E_block_normal ?_ | refine S_skip ?_ | refine S_exit ?_ | refine S_ret ?_ | refine E_then_exit ?_ | refine E_then_ret ?_ | refine E_block_ret ?_ | refine E_block_exit ?_ | refine E_block_exit_other rfl ?_)
    refine S_region ?_
    refine R_cons rfl (op_pure (p_move rfl) rfl ?_)
    refine R_cons rfl (op_pure (p_assign rfl) rfl ?_)
    refine R_nil ?_
    repeat (first | refine S_scope ?_ | refine S_label ?_ | refine E_noGoto_normal ?_ | refine E_noGoto_ret ?_ | refine E_noGoto_exit ?_ | refine S_yes rfl (by first | with_reducible rfl | decide) ?_ | refine S_no rfl (by first | with_reducible rfl | decide) ?_ | refine S_seq ?_ | refine E_seq ?_ | refine S_block ?_ | refine E_block_normal ?_ | refine S_skip ?_ | refine S_exit ?_ | refine S_ret ?_ | refine E_then_exit ?_ | refine E_then_ret ?_ | refine E_block_ret ?_ | refine E_block_exit ?_ | refine E_block_exit_other rfl ?_)
    refine E_ret1 rfl rfl fun w' hm => ⟨b3, rfl, ?_, (hm.own (b3, _) (by repeat (first | exact List.Mem.head _ | apply List.Mem.tail))).2, hm.below⟩
    rcases (hm.own (b3, _) (by repeat (first | exact List.Mem.head _ | apply List.Mem.tail))).1 with h | h
    · exact h
    · cases h
  | succ j =>
    rw [show (((j + 1 : Nat) : Int) - 1) = (j : Int) by omega]
    have g1 : decide ((0 : Int) ≤ (j : Int)) = true := decide_eq_true (by omega)
    have hadd : IntKind.i64.wrap ((j : Int) + 1) = ((j + 1 : Nat) : Int) := by rw [w_in_i64 (by omega)]; omega
    have hsub : IntKind.i64.wrap ((j : Int) - 1) = (j : Int) - 1 := w_in_i64 (by omega)
    have hget : (partE (j + 1)).getD (j + 1) [] = empS (256 - (j + 1)) := partE_getD _ _ (by omega) (Nat.le_refl _)
    have hst : empS (256 - j) = sideS (empS (256 - (j + 1))) (empS (256 - (j + 1))) := by rw [show 256 - j = (256 - (j + 1)) + 1 by omega, empS]
    have hel := empS_length (256 - (j + 1))
    have hsl := sideS_length (empS (256 - (j + 1))) (empS (256 - (j + 1)))
    have hl1 := hlay j (by omega)
    rw [hst] at hl1
    have hf1 : 0 + j * 32 + (bytesV (sideS (empS (256 - (j + 1))) (empS (256 - (j + 1))))).length ≤ (sumsV (partE (j + 1))).length := by rw [bytesV_length, hsl, hlen]; omega
    have hn1 : j + 1 < 257 ∧ j < 257 := by omega
    have hpl := partE_length (j + 1)
    clear hk
    repeat (first | refine S_scope ?_ | refine S_label ?_ | refine E_noGoto_normal ?_ | refine E_noGoto_ret ?_ | refine E_noGoto_exit ?_ | refine S_yes rfl (by first | with_reducible rfl | decide) ?_ | refine S_no rfl (by first | with_reducible rfl | decide) ?_ | refine S_seq ?_ | refine E_seq ?_ | refine S_block ?_ | refine E_block_normal ?_ | refine S_skip ?_ | refine S_exit ?_ | refine S_ret ?_ | refine E_then_exit ?_ | refine E_then_ret ?_ | refine E_block_ret ?_ | refine E_block_exit ?_ | refine E_block_exit_other rfl ?_)
    refine S_region ?_
    refine R_cons rfl (op_pure (p_move rfl) rfl ?_)
    refine R_cons rfl (op_pure (p_bin rfl rfl (b_geq g1)) rfl ?_)
    refine R_nil ?_
    repeat (first | refine S_scope ?_ | refine S_label ?_ | refine E_noGoto_normal ?_ | refine E_noGoto_ret ?_ | refine E_noGoto_exit ?_ | refine S_yes rfl (by first | with_reducible rfl | decide) ?_ | refine S_no rfl (by first | with_reducible rfl | decide) ?_ | refine S_seq ?_ | refine E_seq ?_ | refine S_block ?_ | refine E_block_normal ?_ | refine S_skip ?_ | refine S_exit ?_ | refine S_ret ?_ | refine E_then_exit ?_ | refine E_then_ret ?_ | refine E_block_ret ?_ | refine E_block_exit ?_ | refine E_block_exit_other rfl ?_)
    refine S_tail 14 (by kernel_rfl) (by kernel_rfl) (by kernel_rfl) (by kernel_rfl) ?_
    refine Q_cons (Still1.of_pure (p_move rfl)) rfl ?_
    refine Q_cons (Still1.of_pure (p_move rfl)) rfl ?_
    refine Q_cons (Still1.of_pure (p_move rfl)) rfl ?_
    refine Q_cons (Still1.of_pure (p_move rfl)) rfl ?_
    refine Q_cons (Still1.of_pure (p_bin rfl rfl (b_add hadd))) rfl ?_
    refine Q_cons (Still1.of_pure (p_indexR (j := j + 1) rfl rfl rfl slr_api_Sum hn1.1)) rfl ?_
    refine Q_cons (Still1.of_pure (p_loadR rfl row_Sum (n := 32) (cs := bytesV (empS (256 - (j + 1)))) (fun w' hm => by have h := (hm.readsS (b := b3) (partE_sums (j + 1)) (by repeat (first | exact List.Mem.head _ | apply List.Mem.tail))).at_ (j := j + 1) (by rw [hpl]; exact hn1.1); rw [hget] at h; exact h))) rfl ?_
    refine Q_cons (Still1.of_pure (p_move rfl)) rfl ?_
    refine Q_cons (Still1.of_pure (p_move rfl)) rfl ?_
    refine Q_cons (Still1.of_pure (p_bin rfl rfl (b_add hadd))) rfl ?_
    refine Q_cons (Still1.of_pure (p_indexR (j := j + 1) rfl rfl rfl slr_api_Sum hn1.1)) rfl ?_
    refine Q_cons (Still1.of_pure (p_loadR rfl row_Sum (n := 32) (cs := bytesV (empS (256 - (j + 1)))) (fun w' hm => by have h := (hm.readsS (b := b3) (partE_sums (j + 1)) (by repeat (first | exact List.Mem.head _ | apply List.Mem.tail))).at_ (j := j + 1) (by rw [hpl]; exact hn1.1); rw [hget] at h; exact h))) rfl ?_
    refine Q_cons (still_call rfl rfl Try.func26 rfl (by kernel_rfl) (Nat.le_refl _) (fun w' _ => refSide_any _ _ hel hel w')) rfl ?_
    refine Q_cons (Still1.of_pure (p_indexR (j := j) rfl rfl rfl slr_api_Sum hn1.2)) rfl ?_
    refine Q_nop ?_
    refine Q_nil ?_
    refine E_tail ?_
    refine R_cons rfl (op_storeRow rfl rfl (bytesV_one _) row_Sum (by rw [bytesV_length, hsl]) (by repeat (first | exact At.here | apply At.there)) hf1 ?_)
    refine R_nil ?_
    repeat (first | refine S_scope ?_ | refine S_label ?_ | refine E_noGoto_normal ?_ | refine E_noGoto_ret ?_ | refine E_noGoto_exit ?_ | refine S_yes rfl (by first | with_reducible rfl | decide) ?_ | refine S_no rfl (by first | with_reducible rfl | decide) ?_ | refine S_seq ?_ | refine E_seq ?_ | refine S_block ?_ | refine E_block_normal ?_ | refine S_skip ?_ | refine S_exit ?_ | refine S_ret ?_ | refine E_then_exit ?_ | refine E_then_ret ?_ | refine E_block_ret ?_ | refine E_block_exit ?_ | refine E_block_exit_other rfl ?_)
    rw [hl1]
    refine S_region ?_
    refine R_cons rfl (op_pure (p_move rfl) rfl ?_)
    refine R_cons rfl (op_pure (p_bin rfl rfl (b_sub hsub)) rfl ?_)
    refine R_cons rfl (op_pure (p_assign rfl) rfl ?_)
    refine R_nil ?_
    repeat (first | refine S_scope ?_ | refine S_label ?_ | refine E_noGoto_normal ?_ | refine E_noGoto_ret ?_ | refine E_noGoto_exit ?_ | refine S_yes rfl (by first | with_reducible rfl | decide) ?_ | refine S_no rfl (by first | with_reducible rfl | decide) ?_ | refine S_seq ?_ | refine E_seq ?_ | refine S_block ?_ | refine E_block_normal ?_ | refine S_skip ?_ | refine S_exit ?_ | refine S_ret ?_ | refine E_then_exit ?_ | refine E_then_ret ?_ | refine E_block_ret ?_ | refine E_block_exit ?_ | refine E_block_exit_other rfl ?_)
    exact E_round j (by omega) (by omega) (by repeat (first | exact Sub.nil | refine Sub.cons rfl ?_)) (Fewer.refl _)

theorem refEmpty_any (d : Int) (w : World) :
    Calls Try.prog 23 [.int .i64 d].toArray w fun e w' => e = .returned (.agg (bytesV (empS (levels d))).toArray) ∧ Below w.heap.size w w' := by
  obtain ⟨m, hm⟩ : ∃ m : Int, (if d < 256 then d else 256) = m := ⟨_, rfl⟩
  obtain ⟨n, hn⟩ : ∃ n : Nat, (if (0 : Int) < m then m else 0) = (n : Int) := ⟨m.toNat, by split <;> omega⟩
  have hn256 : n < 257 := by split at hm <;> split at hn <;> omega
  have hnd : 256 - n = levels d := by unfold levels; split at hm <;> split at hn <;> omega
  have hget : (partE 0).getD n [] = empS (levels d) := by rw [partE_getD 0 n hn256 (Nat.zero_le _), hnd]
  have hel := empS_length (levels d)
  have hpl := partE_length 0
  have hh := And.intro hm (And.intro hn hn256)
  clear hm hn hn256 hnd
  refine enter Try.func23 rfl Try.ntmps23 (by simp) ?_
  repeat (first | refine S_scope ?_ | refine S_label ?_ | refine E_noGoto_normal ?_ | refine E_noGoto_ret ?_ | refine E_noGoto_exit ?_ | refine S_yes rfl (by first | with_reducible rfl | decide) ?_ | refine S_no rfl (by first | with_reducible rfl | decide) ?_ | refine S_seq ?_ | refine E_seq ?_ | refine S_block ?_ | refine E_block_normal ?_ | refine S_skip ?_ | refine S_exit ?_ | refine S_ret ?_ | refine E_then_exit ?_ | refine E_then_ret ?_ | refine E_block_ret ?_ | refine E_block_exit ?_ | refine E_block_exit_other rfl ?_)
  refine S_region ?_
  refine R_cons rfl (op_allocRow zero_Sum rfl (Nat.le_refl _) (fun b2 => ?_))
  refine R_nil ?_
  repeat (first | refine S_scope ?_ | refine S_label ?_ | refine E_noGoto_normal ?_ | refine E_noGoto_ret ?_ | refine E_noGoto_exit ?_ | refine S_yes rfl (by first | with_reducible rfl | decide) ?_ | refine S_no rfl (by first | with_reducible rfl | decide) ?_ | refine S_seq ?_ | refine E_seq ?_ | refine S_block ?_ | refine E_block_normal ?_ | refine S_skip ?_ | refine S_exit ?_ | refine S_ret ?_ | refine E_then_exit ?_ | refine E_then_ret ?_ | refine E_block_ret ?_ | refine E_block_exit ?_ | refine E_block_exit_other rfl ?_)
  refine S_region ?_
  refine R_cons rfl (op_call rfl rfl Try.func46 rfl (by kernel_rfl) rfl fun w1 hm => (all_any w1).mono ?_)
  rintro e w2 ⟨g, rfl, hg, hgo, hbel⟩
  refine ⟨_, _, rfl, hm.call1 (Nat.le_refl _) hbel hg hgo, ?_⟩
  refine R_cons rfl (op_pure (p_move rfl) rfl ?_)
  refine R_cons rfl (op_pure (p_min2 rfl rfl hh.1) rfl ?_)
  refine R_cons rfl (op_pure (p_max2 rfl rfl hh.2.1) rfl ?_)
  refine R_cons rfl (op_pure (p_indexR (j := n) rfl rfl rfl slr_api_Sum hh.2.2) rfl ?_)
  refine R_cons rfl (op_pure (p_loadR rfl row_Sum (n := 32) (cs := bytesV (empS (levels d))) (fun w' hm => by have h := (hm.readsS (b := g) (partE_sums 0) (by repeat (first | exact List.Mem.head _ | apply List.Mem.tail))).at_ (j := n) (by rw [hpl]; exact hh.2.2); rw [hget] at h; exact h)) rfl ?_)
  refine R_cons rfl (op_storeRow rfl rfl (by first | exact bytesV_one _ | exact wordsV_one _ | (repeat (first | exact ones_nil | refine ones_cons rfl ?_))) row_Sum (by first | assumption | rfl | (simp only [bytesV_length, wordsV_length]; omega) | (rw [bytesV_length]; exact Sha.sha_length _)) (by repeat (first | exact At.here | apply At.there)) (by first | exact Nat.le_of_ble_eq_true rfl | omega | (simp only [bytesV_length, wordsV_length, List.length_cons, List.length_nil, List.length_replicate]; omega) | (simp only [bytesV_length, Sha.sha_length, List.length_replicate] <;> omega)) ?_)
  refine R_nil ?_
  repeat (first | refine S_scope ?_ | refine S_label ?_ | refine E_noGoto_normal ?_ | refine E_noGoto_ret ?_ | refine E_noGoto_exit ?_ | refine S_yes rfl (by first | with_reducible rfl | decide) ?_ | refine S_no rfl (by first | with_reducible rfl | decide) ?_ | refine S_seq ?_ | refine E_seq ?_ | refine S_block ?_ | refine E_block_normal ?_ | refine S_skip ?_ | refine S_exit ?_ | refine S_ret ?_ | refine E_then_exit ?_ | refine E_then_ret ?_ | refine E_block_ret ?_ | refine E_block_exit ?_ | refine E_block_exit_other rfl ?_)
  refine E_fewer (Sub.refl _) (H' := [(b2, .cells (bytesV (empS (levels d))).toArray 23 (0, 0))]) ?_ (E_retRow rfl rfl (by repeat (first | exact List.Mem.head _ | apply List.Mem.tail)) row_Sum (by rw [bytesV_length, hel]) fun w' hm => ⟨rfl, hm.below⟩)
  exact .drop (.keep (by rw [lay_whole (by rw [bytesV_length, bytesV_length, hel]; rfl)]) .nil)
end Go.Proofs.Ythkogneaimjhjaa
