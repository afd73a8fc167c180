/-
  The layer onces: what a key comes to, by what it signed and by its secrets; what it signs.
-/
import Derived.Test.YtfdlafjifjndeaaOnce1
namespace Go.Proofs.Ytfdlafjifjndeaa
open Go.Sha
open Go.RowKit Go.K
attribute [local irreducible] Exit.then Exit.inBlock Exit.noGoto bodyPost Code.wp QL Sx Rx Qx Ex Dx Op1 Pure1 Still1 K.Sub Calm Code.wpIn
attribute [local irreducible] sha total Buf.hp Buf.cap Buf.addr bitN secretS secN catN Rep sumsV
set_option linter.unusedVariables false

theorem z64 : bytesV (List.replicate 64 0) = sumsV [List.replicate 32 0, List.replicate 32 0] := by unfold sumsV; rfl
theorem sums2 {x y : List UInt8} (hx : x.length = 32) (hy : y.length = 32) : Sums [x, y] := Sums.cons hx (Sums.cons hy Sums.nil)
theorem sumsV2 (x y : List UInt8) : sumsV [x, y] = bytesV (x ++ y) := by unfold sumsV; simp
theorem z32 : (List.replicate 32 (0 : UInt8)).length = 32 := List.length_replicate
theorem pl01 (x y : List UInt8) (hx : x.length = 32) (hy : y.length = 32) : lay (lay (bytesV (List.replicate 64 0)) (0 + 0 * 32) (bytesV x)) (0 + 1 * 32) (bytesV y) = bytesV (x ++ y) := by
  rw [z64, Nat.zero_add, Nat.zero_add, lay_sum (sums2 z32 z32) (by simp) hx]
  show lay (sumsV [x, _]) (1 * 32) _ = _
  rw [lay_sum (sums2 hx z32) (by simp) hy]
  exact sumsV2 x y
theorem pl10 (x y : List UInt8) (hx : x.length = 32) (hy : y.length = 32) : lay (lay (bytesV (List.replicate 64 0)) (0 + 1 * 32) (bytesV y)) (0 + 0 * 32) (bytesV x) = bytesV (x ++ y) := by
  rw [z64, Nat.zero_add, Nat.zero_add, lay_sum (sums2 z32 z32) (by simp) hy]
  show lay (sumsV [_, y]) (0 * 32) _ = _
  rw [lay_sum (sums2 z32 hy) (by simp) hx]
  exact sumsV2 x y

set_option maxHeartbeats 2000000 in
theorem ofPair_any (bm bo : Nat) (m : List UInt8) (hm32 : m.length = 32) (l : List (List UInt8)) (hs : Sums l) (hl : l.length = 128) (n : Nat) (hn : n < 64) (w : World) (h1 : w.heap[bm]? = some (.cells (bytesV m).toArray 23 (0, 0))) (h2 : w.heap[bo]? = some (.cells (sumsV l).toArray 26 (0, 0))) :
    Calls Try.prog 37 [.int .i64 (n : Int), .pointer (some ⟨bm, 0, none⟩), .pointer (some ⟨bo, 0, none⟩)].toArray w fun e w' => e = .returned (.agg (bytesV (ofPair m l n)).toArray) ∧ Below w.heap.size w w' := by
  have hr1 : Reads w (some ⟨bm, 0, none⟩) 32 (bytesV m) := reads_block h1 (by rw [bytesV_length, hm32])
  have hr2 := readsS_block hs h2
  have ht0 := hr2.at_ (j := n) (by omega)
  have ho0 := hr2.at_ (j := 64 + n) (by omega)
  rw [show 0 + (64 + n) * 32 = 2048 + n * 32 by omega] at ho0
  have hx : (sha (l.getD n [])).length = 32 := sha_length _
  have hx0 : (l.getD n []).length = 32 := hs _ (by rw [List.getD_eq_getElem?_getD, List.getElem?_eq_getElem (by omega)]; exact List.getElem_mem _)
  have hy : (l.getD (64 + n) []).length = 32 := hs _ (by rw [List.getD_eq_getElem?_getD, List.getElem?_eq_getElem (by omega)]; exact List.getElem_mem _)
  have hpl := ofPair_length m l n hs (by omega)
  have hb := bitN_lt m n
  have hn256 : n < 256 := by omega
  refine enter Try.func37 rfl Try.ntmps37 (by simp) ?_
  by_cases hb0 : bitN m n = 0
  · have hp : ofPair m l n = sha (l.getD n []) ++ l.getD (64 + n) [] := by unfold ofPair; rw [if_pos hb0]
    repeat (first | refine S_scope ?_ | refine S_label ?_ | refine E_noGoto_normal ?_ | refine E_noGoto_ret ?_ | refine E_noGoto_exit ?_ | refine S_yes rfl (by first | with_reducible rfl | decide) ?_ | refine S_no rfl (by first | with_reducible rfl | decide) ?_ | refine S_seq ?_ | refine E_seq ?_ | refine S_block ?_ | refine E_block_normal ?_ | refine S_skip ?_ | refine S_exit ?_ | refine S_ret ?_ | refine E_then_exit ?_ | refine E_then_ret ?_ | refine E_block_ret ?_ | refine E_block_exit ?_ | refine E_block_exit_other rfl ?_)
    refine S_region ?_
    refine R_cons rfl (op_allocRow zero_onces_pair rfl (Nat.le_refl _) (fun b4 => ?_))
    refine R_nil ?_
    repeat (first | refine S_scope ?_ | refine S_label ?_ | refine E_noGoto_normal ?_ | refine E_noGoto_ret ?_ | refine E_noGoto_exit ?_ | refine S_yes rfl (by first | with_reducible rfl | decide) ?_ | refine S_no rfl (by first | with_reducible rfl | decide) ?_ | refine S_seq ?_ | refine E_seq ?_ | refine S_block ?_ | refine E_block_normal ?_ | refine S_skip ?_ | refine S_exit ?_ | refine S_ret ?_ | refine E_then_exit ?_ | refine E_then_ret ?_ | refine E_block_ret ?_ | refine E_block_exit ?_ | refine E_block_exit_other rfl ?_)
    refine S_region ?_
    refine R_cons rfl (op_pure (p_loadR rfl row_Sum (n := 32) (cs := bytesV m) (fun w' hm => hr1.base hm)) rfl ?_)
    refine R_cons rfl (op_pure (p_move rfl) rfl ?_)
    refine R_cons rfl (op_callV rfl rfl Try.func38 rfl (by kernel_rfl) rfl (Nat.le_refl _) (fun w' _ => by have h := bit19_any m hm32 n hn256 w'; rw [hb0] at h; exact h) ?_)
    refine R_cons rfl (op_pure (p_assign rfl) rfl ?_)
    refine R_nil ?_
    repeat (first | refine S_scope ?_ | refine S_label ?_ | refine E_noGoto_normal ?_ | refine E_noGoto_ret ?_ | refine E_noGoto_exit ?_ | refine S_yes rfl (by first | with_reducible rfl | decide) ?_ | refine S_no rfl (by first | with_reducible rfl | decide) ?_ | refine S_seq ?_ | refine E_seq ?_ | refine S_block ?_ | refine E_block_normal ?_ | refine S_skip ?_ | refine S_exit ?_ | refine S_ret ?_ | refine E_then_exit ?_ | refine E_then_ret ?_ | refine E_block_ret ?_ | refine E_block_exit ?_ | refine E_block_exit_other rfl ?_)
    refine S_cut [(4, .pointer (some ⟨b4, 0, none⟩))] [(b4, .cells (bytesV (ofPair m l n)).toArray 81 (0, 0))] ?_ ?_
    · refine S_drawn (by kernel_rfl) .nil ?_
      refine D_take 0 rfl (by kernel_rfl) (by kernel_rfl) (by kernel_rfl) (by repeat (first | exact calm_body | exact calm_mid | apply calm_noGoto | exact calm_midE | apply calm_then | apply calm_block)) (p_move rfl) rfl ?_
      refine D_take 1 rfl (by kernel_rfl) (by kernel_rfl) (by kernel_rfl) (by repeat (first | exact calm_body | exact calm_mid | apply calm_noGoto | exact calm_midE | apply calm_then | apply calm_block)) (p_move rfl) rfl ?_
      refine D_take 2 rfl (by kernel_rfl) (by kernel_rfl) (by kernel_rfl) (by repeat (first | exact calm_body | exact calm_mid | apply calm_noGoto | exact calm_midE | apply calm_then | apply calm_block)) (p_bin rfl rfl (b_sub (r := 1) (by decide))) rfl ?_
      refine D_take 3 rfl (by kernel_rfl) (by kernel_rfl) (by kernel_rfl) (by repeat (first | exact calm_body | exact calm_mid | apply calm_noGoto | exact calm_midE | apply calm_then | apply calm_block)) (p_move rfl) rfl ?_
      refine D_take 4 rfl (by kernel_rfl) (by kernel_rfl) (by kernel_rfl) (by repeat (first | exact calm_body | exact calm_mid | apply calm_noGoto | exact calm_midE | apply calm_then | apply calm_block)) (by first | exact p_fieldAddr0 rfl fd_api_Once_0 | exact p_fieldAddr rfl fd_api_Once_0) rfl ?_
      refine D_take 5 rfl (by kernel_rfl) (by kernel_rfl) (by kernel_rfl) (by repeat (first | exact calm_body | exact calm_mid | apply calm_noGoto | exact calm_midE | apply calm_then | apply calm_block)) (p_indexArrR (j := n) rfl rfl rfl ut_64_api_Sum row_Sum hn) rfl ?_
      refine D_take 6 rfl (by kernel_rfl) (by kernel_rfl) (by kernel_rfl) (by repeat (first | exact calm_body | exact calm_mid | apply calm_noGoto | exact calm_midE | apply calm_then | apply calm_block)) (p_loadR rfl row_Sum (n := 32) (cs := bytesV (l.getD n [])) (fun w' hm => ht0.base hm)) rfl ?_
      refine D_take 8 rfl (by kernel_rfl) (by kernel_rfl) (by kernel_rfl) (by repeat (first | exact calm_body | exact calm_mid | apply calm_noGoto | exact calm_midE | apply calm_then | apply calm_block)) (p_move rfl) rfl ?_
      refine D_take 9 rfl (by kernel_rfl) (by kernel_rfl) (by kernel_rfl) (by repeat (first | exact calm_body | exact calm_mid | apply calm_noGoto | exact calm_midE | apply calm_then | apply calm_block)) (by first | exact p_fieldAddr0 rfl fd_api_Once_1 | exact p_fieldAddr rfl fd_api_Once_1) rfl ?_
      refine D_take 10 rfl (by kernel_rfl) (by kernel_rfl) (by kernel_rfl) (by repeat (first | exact calm_body | exact calm_mid | apply calm_noGoto | exact calm_midE | apply calm_then | apply calm_block)) (p_indexArrR (j := n) rfl rfl rfl ut_64_api_Sum row_Sum hn) rfl ?_
      refine D_take 11 rfl (by kernel_rfl) (by kernel_rfl) (by kernel_rfl) (by repeat (first | exact calm_body | exact calm_mid | apply calm_noGoto | exact calm_midE | apply calm_then | apply calm_block)) (p_loadR rfl row_Sum (n := 32) (cs := bytesV (l.getD (64 + n) [])) (fun w' hm => ho0.base hm)) rfl ?_
      refine D_only 7 rfl (by kernel_rfl) rfl (op_callV rfl rfl Try.func39 rfl (by kernel_rfl) rfl (Nat.le_refl _) (fun w' _ => sum19_any (l.getD n []) hx0 w') ?_)
      refine ⟨(by repeat (first | exact Fewer.nil | refine Fewer.keep rfl ?_ | refine Fewer.drop ?_ | exact Fewer.refl _ | exact Fewer.inl _ _ | (simp only [List.append_nil]; first | exact Fewer.inl _ _ | exact Fewer.refl _))), ?_⟩
      refine D_take 12 rfl (by kernel_rfl) (by kernel_rfl) (by kernel_rfl) (by repeat (first | exact calm_body | exact calm_mid | apply calm_noGoto | exact calm_midE | apply calm_then | apply calm_block)) (p_indexArrR (j := 0) rfl rfl rfl ut_onces_pair row_Sum (by decide)) rfl ?_
      refine D_only 13 rfl (by kernel_rfl) rfl (op_storeRow rfl rfl (bytesV_one _) row_Sum (by rw [bytesV_length, hx]) (by repeat (first | exact At.here | apply At.there)) (by rw [bytesV_length, hx]; first | exact Nat.le_of_ble_eq_true rfl | (rw [lay_length]; exact Nat.le_of_ble_eq_true rfl)) ?_)
      refine ⟨(by repeat (first | exact Fewer.nil | refine Fewer.keep rfl ?_ | refine Fewer.drop ?_ | exact Fewer.refl _ | exact Fewer.inl _ _ | (simp only [List.append_nil]; first | exact Fewer.inl _ _ | exact Fewer.refl _))), ?_⟩
      refine D_take 14 rfl (by kernel_rfl) (by kernel_rfl) (by kernel_rfl) (by repeat (first | exact calm_body | exact calm_mid | apply calm_noGoto | exact calm_midE | apply calm_then | apply calm_block)) (p_indexArrR (j := 1) rfl rfl rfl ut_onces_pair row_Sum (by decide)) rfl ?_
      refine D_only 15 rfl (by kernel_rfl) rfl (op_storeRow rfl rfl (bytesV_one _) row_Sum (by rw [bytesV_length, hy]) (by repeat (first | exact At.here | apply At.there)) (by rw [bytesV_length, hy]; first | exact Nat.le_of_ble_eq_true rfl | (rw [lay_length]; exact Nat.le_of_ble_eq_true rfl)) ?_)
      refine ⟨(by repeat (first | exact Fewer.nil | refine Fewer.keep rfl ?_ | refine Fewer.drop ?_ | exact Fewer.refl _ | exact Fewer.inl _ _ | (simp only [List.append_nil]; first | exact Fewer.inl _ _ | exact Fewer.refl _))), ?_⟩
      refine D_done (by kernel_rfl) ?_
      first | rw [pl01 _ _ hx hy] | rw [pl10 _ _ hx hy]
      rw [← hp]
      exact E_mid (by repeat (first | exact Sub.nil | refine Sub.cons rfl ?_)) (Fewer.refl _)
    · repeat (first | refine S_scope ?_ | refine S_label ?_ | refine E_noGoto_normal ?_ | refine E_noGoto_ret ?_ | refine E_noGoto_exit ?_ | refine S_yes rfl (by first | with_reducible rfl | decide) ?_ | refine S_no rfl (by first | with_reducible rfl | decide) ?_ | refine S_seq ?_ | refine E_seq ?_ | refine S_block ?_ | refine E_block_normal ?_ | refine S_skip ?_ | refine S_exit ?_ | refine S_ret ?_ | refine E_then_exit ?_ | refine E_then_ret ?_ | refine E_block_ret ?_ | refine E_block_exit ?_ | refine E_block_exit_other rfl ?_)
      refine S_region ?_
      refine R_cons rfl (op_pure (p_loadRow rfl row_onces_pair (by repeat (first | exact List.Mem.head _ | apply List.Mem.tail)) (by rw [bytesV_length, hpl])) rfl ?_)
      refine R_cons rfl (op_storeRow rfl rfl (bytesV_one _) row_onces_pair (by rw [bytesV_length, hpl]) (by repeat (first | exact At.here | apply At.there)) (by rw [Nat.zero_add]; exact Nat.le_refl _) ?_)
      refine R_nil ?_
      repeat (first | refine S_scope ?_ | refine S_label ?_ | refine E_noGoto_normal ?_ | refine E_noGoto_ret ?_ | refine E_noGoto_exit ?_ | refine S_yes rfl (by first | with_reducible rfl | decide) ?_ | refine S_no rfl (by first | with_reducible rfl | decide) ?_ | refine S_seq ?_ | refine E_seq ?_ | refine S_block ?_ | refine E_block_normal ?_ | refine S_skip ?_ | refine S_exit ?_ | refine S_ret ?_ | refine E_then_exit ?_ | refine E_then_ret ?_ | refine E_block_ret ?_ | refine E_block_exit ?_ | refine E_block_exit_other rfl ?_)
      rw [lay_whole rfl]
      exact E_retRow rfl rfl (by repeat (first | exact List.Mem.head _ | apply List.Mem.tail)) row_onces_pair (by rw [bytesV_length, hpl]) fun w' hm => ⟨rfl, hm.below⟩
  · have hb1 : bitN m n = 1 := by omega
    have hp : ofPair m l n = l.getD (64 + n) [] ++ sha (l.getD n []) := by unfold ofPair; rw [if_neg hb0]
    repeat (first | refine S_scope ?_ | refine S_label ?_ | refine E_noGoto_normal ?_ | refine E_noGoto_ret ?_ | refine E_noGoto_exit ?_ | refine S_yes rfl (by first | with_reducible rfl | decide) ?_ | refine S_no rfl (by first | with_reducible rfl | decide) ?_ | refine S_seq ?_ | refine E_seq ?_ | refine S_block ?_ | refine E_block_normal ?_ | refine S_skip ?_ | refine S_exit ?_ | refine S_ret ?_ | refine E_then_exit ?_ | refine E_then_ret ?_ | refine E_block_ret ?_ | refine E_block_exit ?_ | refine E_block_exit_other rfl ?_)
    refine S_region ?_
    refine R_cons rfl (op_allocRow zero_onces_pair rfl (Nat.le_refl _) (fun b4 => ?_))
    refine R_nil ?_
    repeat (first | refine S_scope ?_ | refine S_label ?_ | refine E_noGoto_normal ?_ | refine E_noGoto_ret ?_ | refine E_noGoto_exit ?_ | refine S_yes rfl (by first | with_reducible rfl | decide) ?_ | refine S_no rfl (by first | with_reducible rfl | decide) ?_ | refine S_seq ?_ | refine E_seq ?_ | refine S_block ?_ | refine E_block_normal ?_ | refine S_skip ?_ | refine S_exit ?_ | refine S_ret ?_ | refine E_then_exit ?_ | refine E_then_ret ?_ | refine E_block_ret ?_ | refine E_block_exit ?_ | refine E_block_exit_other rfl ?_)
    refine S_region ?_
    refine R_cons rfl (op_pure (p_loadR rfl row_Sum (n := 32) (cs := bytesV m) (fun w' hm => hr1.base hm)) rfl ?_)
    refine R_cons rfl (op_pure (p_move rfl) rfl ?_)
    refine R_cons rfl (op_callV rfl rfl Try.func38 rfl (by kernel_rfl) rfl (Nat.le_refl _) (fun w' _ => by have h := bit19_any m hm32 n hn256 w'; rw [hb1] at h; exact h) ?_)
    refine R_cons rfl (op_pure (p_assign rfl) rfl ?_)
    refine R_nil ?_
    repeat (first | refine S_scope ?_ | refine S_label ?_ | refine E_noGoto_normal ?_ | refine E_noGoto_ret ?_ | refine E_noGoto_exit ?_ | refine S_yes rfl (by first | with_reducible rfl | decide) ?_ | refine S_no rfl (by first | with_reducible rfl | decide) ?_ | refine S_seq ?_ | refine E_seq ?_ | refine S_block ?_ | refine E_block_normal ?_ | refine S_skip ?_ | refine S_exit ?_ | refine S_ret ?_ | refine E_then_exit ?_ | refine E_then_ret ?_ | refine E_block_ret ?_ | refine E_block_exit ?_ | refine E_block_exit_other rfl ?_)
    refine S_cut [(4, .pointer (some ⟨b4, 0, none⟩))] [(b4, .cells (bytesV (ofPair m l n)).toArray 81 (0, 0))] ?_ ?_
    · refine S_drawn (by kernel_rfl) .nil ?_
      refine D_take 0 rfl (by kernel_rfl) (by kernel_rfl) (by kernel_rfl) (by repeat (first | exact calm_body | exact calm_mid | apply calm_noGoto | exact calm_midE | apply calm_then | apply calm_block)) (p_move rfl) rfl ?_
      refine D_take 1 rfl (by kernel_rfl) (by kernel_rfl) (by kernel_rfl) (by repeat (first | exact calm_body | exact calm_mid | apply calm_noGoto | exact calm_midE | apply calm_then | apply calm_block)) (p_move rfl) rfl ?_
      refine D_take 2 rfl (by kernel_rfl) (by kernel_rfl) (by kernel_rfl) (by repeat (first | exact calm_body | exact calm_mid | apply calm_noGoto | exact calm_midE | apply calm_then | apply calm_block)) (p_bin rfl rfl (b_sub (r := 0) (by decide))) rfl ?_
      refine D_take 3 rfl (by kernel_rfl) (by kernel_rfl) (by kernel_rfl) (by repeat (first | exact calm_body | exact calm_mid | apply calm_noGoto | exact calm_midE | apply calm_then | apply calm_block)) (p_move rfl) rfl ?_
      refine D_take 4 rfl (by kernel_rfl) (by kernel_rfl) (by kernel_rfl) (by repeat (first | exact calm_body | exact calm_mid | apply calm_noGoto | exact calm_midE | apply calm_then | apply calm_block)) (by first | exact p_fieldAddr0 rfl fd_api_Once_0 | exact p_fieldAddr rfl fd_api_Once_0) rfl ?_
      refine D_take 5 rfl (by kernel_rfl) (by kernel_rfl) (by kernel_rfl) (by repeat (first | exact calm_body | exact calm_mid | apply calm_noGoto | exact calm_midE | apply calm_then | apply calm_block)) (p_indexArrR (j := n) rfl rfl rfl ut_64_api_Sum row_Sum hn) rfl ?_
      refine D_take 6 rfl (by kernel_rfl) (by kernel_rfl) (by kernel_rfl) (by repeat (first | exact calm_body | exact calm_mid | apply calm_noGoto | exact calm_midE | apply calm_then | apply calm_block)) (p_loadR rfl row_Sum (n := 32) (cs := bytesV (l.getD n [])) (fun w' hm => ht0.base hm)) rfl ?_
      refine D_take 8 rfl (by kernel_rfl) (by kernel_rfl) (by kernel_rfl) (by repeat (first | exact calm_body | exact calm_mid | apply calm_noGoto | exact calm_midE | apply calm_then | apply calm_block)) (p_move rfl) rfl ?_
      refine D_take 9 rfl (by kernel_rfl) (by kernel_rfl) (by kernel_rfl) (by repeat (first | exact calm_body | exact calm_mid | apply calm_noGoto | exact calm_midE | apply calm_then | apply calm_block)) (by first | exact p_fieldAddr0 rfl fd_api_Once_1 | exact p_fieldAddr rfl fd_api_Once_1) rfl ?_
      refine D_take 10 rfl (by kernel_rfl) (by kernel_rfl) (by kernel_rfl) (by repeat (first | exact calm_body | exact calm_mid | apply calm_noGoto | exact calm_midE | apply calm_then | apply calm_block)) (p_indexArrR (j := n) rfl rfl rfl ut_64_api_Sum row_Sum hn) rfl ?_
      refine D_take 11 rfl (by kernel_rfl) (by kernel_rfl) (by kernel_rfl) (by repeat (first | exact calm_body | exact calm_mid | apply calm_noGoto | exact calm_midE | apply calm_then | apply calm_block)) (p_loadR rfl row_Sum (n := 32) (cs := bytesV (l.getD (64 + n) [])) (fun w' hm => ho0.base hm)) rfl ?_
      refine D_only 7 rfl (by kernel_rfl) rfl (op_callV rfl rfl Try.func39 rfl (by kernel_rfl) rfl (Nat.le_refl _) (fun w' _ => sum19_any (l.getD n []) hx0 w') ?_)
      refine ⟨(by repeat (first | exact Fewer.nil | refine Fewer.keep rfl ?_ | refine Fewer.drop ?_ | exact Fewer.refl _ | exact Fewer.inl _ _ | (simp only [List.append_nil]; first | exact Fewer.inl _ _ | exact Fewer.refl _))), ?_⟩
      refine D_take 12 rfl (by kernel_rfl) (by kernel_rfl) (by kernel_rfl) (by repeat (first | exact calm_body | exact calm_mid | apply calm_noGoto | exact calm_midE | apply calm_then | apply calm_block)) (p_indexArrR (j := 1) rfl rfl rfl ut_onces_pair row_Sum (by decide)) rfl ?_
      refine D_only 13 rfl (by kernel_rfl) rfl (op_storeRow rfl rfl (bytesV_one _) row_Sum (by rw [bytesV_length, hx]) (by repeat (first | exact At.here | apply At.there)) (by rw [bytesV_length, hx]; first | exact Nat.le_of_ble_eq_true rfl | (rw [lay_length]; exact Nat.le_of_ble_eq_true rfl)) ?_)
      refine ⟨(by repeat (first | exact Fewer.nil | refine Fewer.keep rfl ?_ | refine Fewer.drop ?_ | exact Fewer.refl _ | exact Fewer.inl _ _ | (simp only [List.append_nil]; first | exact Fewer.inl _ _ | exact Fewer.refl _))), ?_⟩
      refine D_take 14 rfl (by kernel_rfl) (by kernel_rfl) (by kernel_rfl) (by repeat (first | exact calm_body | exact calm_mid | apply calm_noGoto | exact calm_midE | apply calm_then | apply calm_block)) (p_indexArrR (j := 0) rfl rfl rfl ut_onces_pair row_Sum (by decide)) rfl ?_
      refine D_only 15 rfl (by kernel_rfl) rfl (op_storeRow rfl rfl (bytesV_one _) row_Sum (by rw [bytesV_length, hy]) (by repeat (first | exact At.here | apply At.there)) (by rw [bytesV_length, hy]; first | exact Nat.le_of_ble_eq_true rfl | (rw [lay_length]; exact Nat.le_of_ble_eq_true rfl)) ?_)
      refine ⟨(by repeat (first | exact Fewer.nil | refine Fewer.keep rfl ?_ | refine Fewer.drop ?_ | exact Fewer.refl _ | exact Fewer.inl _ _ | (simp only [List.append_nil]; first | exact Fewer.inl _ _ | exact Fewer.refl _))), ?_⟩
      refine D_done (by kernel_rfl) ?_
      first | rw [pl01 _ _ hy hx] | rw [pl10 _ _ hy hx]
      rw [← hp]
      exact E_mid (by repeat (first | exact Sub.nil | refine Sub.cons rfl ?_)) (Fewer.refl _)
    · repeat (first | refine S_scope ?_ | refine S_label ?_ | refine E_noGoto_normal ?_ | refine E_noGoto_ret ?_ | refine E_noGoto_exit ?_ | refine S_yes rfl (by first | with_reducible rfl | decide) ?_ | refine S_no rfl (by first | with_reducible rfl | decide) ?_ | refine S_seq ?_ | refine E_seq ?_ | refine S_block ?_ | refine E_block_normal ?_ | refine S_skip ?_ | refine S_exit ?_ | refine S_ret ?_ | refine E_then_exit ?_ | refine E_then_ret ?_ | refine E_block_ret ?_ | refine E_block_exit ?_ | refine E_block_exit_other rfl ?_)
      refine S_region ?_
      refine R_cons rfl (op_pure (p_loadRow rfl row_onces_pair (by repeat (first | exact List.Mem.head _ | apply List.Mem.tail)) (by rw [bytesV_length, hpl])) rfl ?_)
      refine R_cons rfl (op_storeRow rfl rfl (bytesV_one _) row_onces_pair (by rw [bytesV_length, hpl]) (by repeat (first | exact At.here | apply At.there)) (by rw [Nat.zero_add]; exact Nat.le_refl _) ?_)
      refine R_nil ?_
      repeat (first | refine S_scope ?_ | refine S_label ?_ | refine E_noGoto_normal ?_ | refine E_noGoto_ret ?_ | refine E_noGoto_exit ?_ | refine S_yes rfl (by first | with_reducible rfl | decide) ?_ | refine S_no rfl (by first | with_reducible rfl | decide) ?_ | refine S_seq ?_ | refine E_seq ?_ | refine S_block ?_ | refine E_block_normal ?_ | refine S_skip ?_ | refine S_exit ?_ | refine S_ret ?_ | refine E_then_exit ?_ | refine E_then_ret ?_ | refine E_block_ret ?_ | refine E_block_exit ?_ | refine E_block_exit_other rfl ?_)
      rw [lay_whole rfl]
      exact E_retRow rfl rfl (by repeat (first | exact List.Mem.head _ | apply List.Mem.tail)) row_onces_pair (by rw [bytesV_length, hpl]) fun w' hm => ⟨rfl, hm.below⟩

set_option maxHeartbeats 1000000 in
theorem once_of_any (m : List UInt8) (hm32 : m.length = 32) (l : List (List UInt8)) (hs : Sums l) (hl : l.length = 128) (w : World) :
    Calls Try.prog 12 [.agg (bytesV m).toArray, .agg (sumsV l).toArray].toArray w fun e w' => e = .returned (.agg (bytesV (ofS m l)).toArray) ∧ Below w.heap.size w w' := by
  have hol : (sha (catN (ofPair m l) 64)).length = 32 := ofS_length m l
  have hcl : ∀ n, n ≤ 64 → (catN (ofPair m l) n).length = n * 64 := by
    intro n
    induction n with
    | zero => intro _; simp [catN]
    | succ n ih => intro h; rw [catN, List.length_append, ih (by omega), ofPair_length m l n hs (by omega), Nat.succ_mul]
  have hsl : (sumsV l).length = 4096 := by rw [sumsV_length hs, hl]
  refine enter Try.func12 rfl Try.ntmps12 (by simp) ?_
  repeat (first | refine S_scope ?_ | refine S_label ?_ | refine E_noGoto_normal ?_ | refine E_noGoto_ret ?_ | refine E_noGoto_exit ?_ | refine S_yes rfl (by first | with_reducible rfl | decide) ?_ | refine S_no rfl (by first | with_reducible rfl | decide) ?_ | refine S_seq ?_ | refine E_seq ?_ | refine S_block ?_ | refine E_block_normal ?_ | refine S_skip ?_ | refine S_exit ?_ | refine S_ret ?_ | refine E_then_exit ?_ | refine E_then_ret ?_ | refine E_block_ret ?_ | refine E_block_exit ?_ | refine E_block_exit_other rfl ?_)
  refine S_region ?_
  refine R_cons rfl (op_boxRow rfl rfl (Nat.le_refl _) (fun b2 => ?_))
  refine R_cons rfl (op_boxRow rfl rfl (Nat.le_refl _) (fun b3 => ?_))
  refine R_cons rfl (op_allocRow zero_Sum rfl (Nat.le_refl _) (fun b4 => ?_))
  refine R_nil ?_
  repeat (first | refine S_scope ?_ | refine S_label ?_ | refine E_noGoto_normal ?_ | refine E_noGoto_ret ?_ | refine E_noGoto_exit ?_ | refine S_yes rfl (by first | with_reducible rfl | decide) ?_ | refine S_no rfl (by first | with_reducible rfl | decide) ?_ | refine S_seq ?_ | refine E_seq ?_ | refine S_block ?_ | refine E_block_normal ?_ | refine S_skip ?_ | refine S_exit ?_ | refine S_ret ?_ | refine E_then_exit ?_ | refine E_then_ret ?_ | refine E_block_ret ?_ | refine E_block_exit ?_ | refine E_block_exit_other rfl ?_)
  refine S_region ?_
  refine R_cons rfl (op_pure (p_makeFunc (xs := []) (ys := [.tmp 2, .tmp 3]) rfl rfl) rfl ?_)
  refine R_cons rfl (op_callV rfl rfl Try.func36 rfl (by kernel_rfl) rfl (Nat.le_refl _) (fun w' hm => whole_any 37 _ [.pointer (some ⟨b2, 0, none⟩), .pointer (some ⟨b3, 0, none⟩)] (ofPair m l) (fun n hn => ofPair_length m l n hs (by omega)) hcl Try.func37 rfl (by kernel_rfl) w' (fun n hn w'' hb => ofPair_any b2 b3 m hm32 l hs hl n hn w'' (below_block hb (hm.own (b2, _) (by repeat (first | exact List.Mem.head _ | apply List.Mem.tail))).2) (below_block hb (hm.own (b3, _) (by repeat (first | exact List.Mem.head _ | apply List.Mem.tail))).2))) ?_)
  refine R_cons rfl (op_storeRow rfl rfl (bytesV_one _) row_Sum (by rw [bytesV_length, hol]) (by repeat (first | exact At.here | apply At.there)) (by rw [bytesV_length, bytesV_length, hol]; exact Nat.le_refl 32) ?_)
  refine R_nil ?_
  repeat (first | refine S_scope ?_ | refine S_label ?_ | refine E_noGoto_normal ?_ | refine E_noGoto_ret ?_ | refine E_noGoto_exit ?_ | refine S_yes rfl (by first | with_reducible rfl | decide) ?_ | refine S_no rfl (by first | with_reducible rfl | decide) ?_ | refine S_seq ?_ | refine E_seq ?_ | refine S_block ?_ | refine E_block_normal ?_ | refine S_skip ?_ | refine S_exit ?_ | refine S_ret ?_ | refine E_then_exit ?_ | refine E_then_ret ?_ | refine E_block_ret ?_ | refine E_block_exit ?_ | refine E_block_exit_other rfl ?_)
  refine E_fewer (Sub.refl _) (H' := [(b4, .cells (bytesV (ofS m l)).toArray 23 (0, 0))]) ?_ (E_retRow rfl rfl (by repeat (first | exact List.Mem.head _ | apply List.Mem.tail)) row_Sum (by rw [bytesV_length]; exact hol) fun w' hm => ⟨rfl, hm.below⟩)
  exact .keep (by rw [lay_whole (by rw [bytesV_length, bytesV_length, hol]; rfl)]; rfl) .nil

/-- a bit's secrets, as far as they are told -/
def secP (seed : List UInt8) (idx n : Nat) : Nat → List (List UInt8)
  | 0 => [List.replicate 32 0, List.replicate 32 0]
  | 1 => [secN seed idx n 0, List.replicate 32 0]
  | _ => [secN seed idx n 0, secN seed idx n 1]
theorem secP_sums (seed : List UInt8) (idx n k : Nat) : Sums (secP seed idx n k) := by
  unfold secP
  split
  · exact sums2 z32 z32
  · exact sums2 (secN_length _ _ _ _) z32
  · exact sums2 (secN_length _ _ _ _) (secN_length _ _ _ _)
theorem secP_length (seed : List UInt8) (idx n k : Nat) : (secP seed idx n k).length = 2 := by unfold secP; split <;> rfl
theorem secP_step (seed : List UInt8) (idx n k : Nat) (hk : k < 2) : (secP seed idx n k).set k (secN seed idx n k) = secP seed idx n (k + 1) := by
  match k, hk with
  | 0, _ => rfl
  | 1, _ => rfl
theorem secOf_any (seed : List UInt8) (hs : seed.length = 32) (idx : UInt32) (n k : Nat) (w : World) :
    Calls Try.prog 17 [.agg (bytesV seed).toArray, .int .u32 (idx.toNat : Int), .int .i64 (n : Int), .int .i64 (k : Int)].toArray w fun e w' => e = .returned (.tuple [.agg (bytesV (secN seed idx.toNat n k)).toArray, .int .i64 (secretE n k)].toArray) ∧ Below w.heap.size w w' := by
  have h := seedOf_any seed hs idx n k w
  unfold secN
  exact h

set_option maxHeartbeats 1000000 in
theorem secrets_any (seed : List UInt8) (hs : seed.length = 32) (idx : UInt32) (n : Nat) (w : World) :
    Calls Try.prog 43 [.agg (bytesV seed).toArray, .int .u32 (idx.toNat : Int), .int .i64 (n : Int)].toArray w fun e w' => e = .returned (.agg (sumsV (secP seed idx.toNat n 2)).toArray) ∧ Below w.heap.size w w' := by
  have hbs : (bytesV seed).length = 32 := by rw [bytesV_length, hs]
  have hpl : ∀ k, (sumsV (secP seed idx.toNat n k)).length = 64 := fun k => by rw [sumsV_length (secP_sums _ _ _ _), secP_length]
  have hlay : ∀ k, k < 2 → lay (sumsV (secP seed idx.toNat n k)) (0 + k * 32) (bytesV (secN seed idx.toNat n k)) = sumsV (secP seed idx.toNat n (k + 1)) := fun k hk => by
    rw [Nat.zero_add, lay_sum (secP_sums _ _ _ _) (by rw [secP_length]; exact hk) (secN_length _ _ _ _), secP_step _ _ _ _ hk]
  refine enter Try.func43 rfl Try.ntmps43 (by simp) ?_
  repeat (first | refine S_scope ?_ | refine S_label ?_ | refine E_noGoto_normal ?_ | refine E_noGoto_ret ?_ | refine E_noGoto_exit ?_ | refine S_yes rfl (by first | with_reducible rfl | decide) ?_ | refine S_no rfl (by first | with_reducible rfl | decide) ?_ | refine S_seq ?_ | refine E_seq ?_ | refine S_block ?_ | refine E_block_normal ?_ | refine S_skip ?_ | refine S_exit ?_ | refine S_ret ?_ | refine E_then_exit ?_ | refine E_then_ret ?_ | refine E_block_ret ?_ | refine E_block_exit ?_ | refine E_block_exit_other rfl ?_)
  refine S_region ?_
  refine R_cons rfl (op_boxRow rfl rfl (Nat.le_refl _) (fun b3 => ?_))
  refine R_cons rfl (op_allocRow zero_onces_pair rfl (Nat.le_refl _) (fun b6 => ?_))
  refine R_nil ?_
  repeat (first | refine S_scope ?_ | refine S_label ?_ | refine E_noGoto_normal ?_ | refine E_noGoto_ret ?_ | refine E_noGoto_exit ?_ | refine S_yes rfl (by first | with_reducible rfl | decide) ?_ | refine S_no rfl (by first | with_reducible rfl | decide) ?_ | refine S_seq ?_ | refine E_seq ?_ | refine S_block ?_ | refine E_block_normal ?_ | refine S_skip ?_ | refine S_exit ?_ | refine S_ret ?_ | refine E_then_exit ?_ | refine E_then_ret ?_ | refine E_block_ret ?_ | refine E_block_exit ?_ | refine E_block_exit_other rfl ?_)
  refine S_region ?_
  refine R_cons rfl (op_pure (p_move rfl) rfl ?_)
  refine R_nil ?_
  repeat (first | refine S_scope ?_ | refine S_label ?_ | refine E_noGoto_normal ?_ | refine E_noGoto_ret ?_ | refine E_noGoto_exit ?_ | refine S_yes rfl (by first | with_reducible rfl | decide) ?_ | refine S_no rfl (by first | with_reducible rfl | decide) ?_ | refine S_seq ?_ | refine E_seq ?_ | refine S_block ?_ | refine E_block_normal ?_ | refine S_skip ?_ | refine S_exit ?_ | refine S_ret ?_ | refine E_then_exit ?_ | refine E_then_ret ?_ | refine E_block_ret ?_ | refine E_block_exit ?_ | refine E_block_exit_other rfl ?_)
  refine S_loop (fun k : Nat => [(8, .int .i64 (k : Int)), (6, .pointer (some ⟨b6, 0, none⟩)), (3, .pointer (some ⟨b3, 0, none⟩)), (2, .int .i64 (n : Int)), (1, .int .u32 (idx.toNat : Int))]) (fun k => [(b6, .cells (sumsV (secP seed idx.toNat n k)).toArray 81 (0, 0)), (b3, .cells (bytesV seed).toArray 23 (0, 0))])
    (fun k => k ≤ 2) (fun k => 2 - k) 0 (Nat.zero_le _) (by repeat (first | exact Sub.nil | refine Sub.cons rfl ?_)) (.keep (by rw [z64]; rfl) (Fewer.refl _)) ?_
  intro k hk
  by_cases hlt : k < 2
  · have g1 : decide ((k : Int) < 2) = true := decide_eq_true (by omega)
    have hadd : IntKind.i64.wrap ((k : Int) + 1) = ((k + 1 : Nat) : Int) := by rw [w_in_i64 (by omega)]; omega
    have hl := hlay k hlt
    have hsl := secN_length seed idx.toNat n k
    have hp := hpl k
    repeat (first | refine S_scope ?_ | refine S_label ?_ | refine E_noGoto_normal ?_ | refine E_noGoto_ret ?_ | refine E_noGoto_exit ?_ | refine S_yes rfl (by first | with_reducible rfl | decide) ?_ | refine S_no rfl (by first | with_reducible rfl | decide) ?_ | refine S_seq ?_ | refine E_seq ?_ | refine S_block ?_ | refine E_block_normal ?_ | refine S_skip ?_ | refine S_exit ?_ | refine S_ret ?_ | refine E_then_exit ?_ | refine E_then_ret ?_ | refine E_block_ret ?_ | refine E_block_exit ?_ | refine E_block_exit_other rfl ?_)
    refine S_region ?_
    refine R_cons rfl (op_pure (p_bin rfl rfl (b_lss g1)) rfl ?_)
    refine R_nil ?_
    repeat (first | refine S_scope ?_ | refine S_label ?_ | refine E_noGoto_normal ?_ | refine E_noGoto_ret ?_ | refine E_noGoto_exit ?_ | refine S_yes rfl (by first | with_reducible rfl | decide) ?_ | refine S_no rfl (by first | with_reducible rfl | decide) ?_ | refine S_seq ?_ | refine E_seq ?_ | refine S_block ?_ | refine E_block_normal ?_ | refine S_skip ?_ | refine S_exit ?_ | refine S_ret ?_ | refine E_then_exit ?_ | refine E_then_ret ?_ | refine E_block_ret ?_ | refine E_block_exit ?_ | refine E_block_exit_other rfl ?_)
    refine S_region ?_
    refine R_cons rfl (op_pure (p_move rfl) rfl ?_)
    refine R_cons rfl (op_pure (p_assign rfl) rfl ?_)
    refine R_nil ?_
    repeat (first | refine S_scope ?_ | refine S_label ?_ | refine E_noGoto_normal ?_ | refine E_noGoto_ret ?_ | refine E_noGoto_exit ?_ | refine S_yes rfl (by first | with_reducible rfl | decide) ?_ | refine S_no rfl (by first | with_reducible rfl | decide) ?_ | refine S_seq ?_ | refine E_seq ?_ | refine S_block ?_ | refine E_block_normal ?_ | refine S_skip ?_ | refine S_exit ?_ | refine S_ret ?_ | refine E_then_exit ?_ | refine E_then_ret ?_ | refine E_block_ret ?_ | refine E_block_exit ?_ | refine E_block_exit_other rfl ?_)
    refine S_region ?_
    refine R_cons rfl (op_pure (p_move rfl) rfl ?_)
    refine R_cons rfl (op_pure (by first | exact p_loadRow rfl row_Sum (by repeat (first | exact List.Mem.head _ | apply List.Mem.tail)) (by first | assumption | rfl | (simp only [bytesV_length, wordsV_length]; omega)) | exact p_loadPart rfl row_Sum (by repeat (first | exact List.Mem.head _ | apply List.Mem.tail)) (by first | exact Nat.le_of_ble_eq_true rfl | omega | (simp only [bytesV_length, wordsV_length, List.length_cons, List.length_nil, List.length_replicate]; omega) | (simp only [bytesV_length, Sha.sha_length, List.length_replicate] <;> omega)) (by first | assumption | rfl)) rfl ?_)
    refine R_cons rfl (op_pure (p_move rfl) rfl ?_)
    refine R_cons rfl (op_pure (p_move rfl) rfl ?_)
    refine R_cons rfl (op_pure (p_move rfl) rfl ?_)
    refine R_cons rfl (op_callV rfl rfl Try.func17 rfl (by kernel_rfl) rfl (Nat.le_refl _) (fun w' _ => secOf_any seed hs idx n k w') ?_)
    refine R_cons rfl (op_pure (p_move rfl) rfl ?_)
    refine R_cons rfl (op_pure (p_extract (i := 0) rfl rfl) rfl ?_)
    refine R_cons rfl (op_pure (p_extract (i := 1) rfl rfl) rfl ?_)
    refine R_cons rfl (op_pure (p_indexArrR (j := k) rfl rfl rfl ut_onces_pair row_Sum hlt) rfl ?_)
    refine R_cons rfl (op_storeRow rfl rfl (bytesV_one _) row_Sum (by rw [bytesV_length, hsl]) (by repeat (first | exact At.here | apply At.there)) (by rw [bytesV_length, hsl, hp]; omega) ?_)
    refine R_nil ?_
    repeat (first | refine S_scope ?_ | refine S_label ?_ | refine E_noGoto_normal ?_ | refine E_noGoto_ret ?_ | refine E_noGoto_exit ?_ | refine S_yes rfl (by first | with_reducible rfl | decide) ?_ | refine S_no rfl (by first | with_reducible rfl | decide) ?_ | refine S_seq ?_ | refine E_seq ?_ | refine S_block ?_ | refine E_block_normal ?_ | refine S_skip ?_ | refine S_exit ?_ | refine S_ret ?_ | refine E_then_exit ?_ | refine E_then_ret ?_ | refine E_block_ret ?_ | refine E_block_exit ?_ | refine E_block_exit_other rfl ?_)
    refine S_region ?_
    refine R_cons rfl (op_pure (p_bin rfl rfl (b_add hadd)) rfl ?_)
    refine R_cons rfl (op_pure (p_move rfl) rfl ?_)
    refine R_nil ?_
    repeat (first | refine S_scope ?_ | refine S_label ?_ | refine E_noGoto_normal ?_ | refine E_noGoto_ret ?_ | refine E_noGoto_exit ?_ | refine S_yes rfl (by first | with_reducible rfl | decide) ?_ | refine S_no rfl (by first | with_reducible rfl | decide) ?_ | refine S_seq ?_ | refine E_seq ?_ | refine S_block ?_ | refine E_block_normal ?_ | refine S_skip ?_ | refine S_exit ?_ | refine S_ret ?_ | refine E_then_exit ?_ | refine E_then_ret ?_ | refine E_block_ret ?_ | refine E_block_exit ?_ | refine E_block_exit_other rfl ?_)
    rw [hl]
    exact E_round (k + 1) (by omega) (by omega) (by repeat (first | exact Sub.nil | refine Sub.cons rfl ?_)) (Fewer.refl _)
  · have g1 : decide ((k : Int) < 2) = false := decide_eq_false (by omega)
    obtain rfl : k = 2 := by omega
    have hp := hpl 2
    repeat (first | refine S_scope ?_ | refine S_label ?_ | refine E_noGoto_normal ?_ | refine E_noGoto_ret ?_ | refine E_noGoto_exit ?_ | refine S_yes rfl (by first | with_reducible rfl | decide) ?_ | refine S_no rfl (by first | with_reducible rfl | decide) ?_ | refine S_seq ?_ | refine E_seq ?_ | refine S_block ?_ | refine E_block_normal ?_ | refine S_skip ?_ | refine S_exit ?_ | refine S_ret ?_ | refine E_then_exit ?_ | refine E_then_ret ?_ | refine E_block_ret ?_ | refine E_block_exit ?_ | refine E_block_exit_other rfl ?_)
    refine S_region ?_
    refine R_cons rfl (op_pure (p_bin rfl rfl (b_lss g1)) rfl ?_)
    refine R_nil ?_
    repeat (first | refine S_scope ?_ | refine S_label ?_ | refine E_noGoto_normal ?_ | refine E_noGoto_ret ?_ | refine E_noGoto_exit ?_ | refine S_yes rfl (by first | with_reducible rfl | decide) ?_ | refine S_no rfl (by first | with_reducible rfl | decide) ?_ | refine S_seq ?_ | refine E_seq ?_ | refine S_block ?_ | refine E_block_normal ?_ | refine S_skip ?_ | refine S_exit ?_ | refine S_ret ?_ | refine E_then_exit ?_ | refine E_then_ret ?_ | refine E_block_ret ?_ | refine E_block_exit ?_ | refine E_block_exit_other rfl ?_)
    refine S_region ?_
    refine R_cons rfl (op_pure (p_loadRow rfl row_onces_pair (by repeat (first | exact List.Mem.head _ | apply List.Mem.tail)) hp) rfl ?_)
    refine R_cons rfl (op_storeRow rfl rfl (sumsV_one _) row_onces_pair hp (by repeat (first | exact At.here | apply At.there)) (by rw [Nat.zero_add]; exact Nat.le_refl _) ?_)
    refine R_nil ?_
    repeat (first | refine S_scope ?_ | refine S_label ?_ | refine E_noGoto_normal ?_ | refine E_noGoto_ret ?_ | refine E_noGoto_exit ?_ | refine S_yes rfl (by first | with_reducible rfl | decide) ?_ | refine S_no rfl (by first | with_reducible rfl | decide) ?_ | refine S_seq ?_ | refine E_seq ?_ | refine S_block ?_ | refine E_block_normal ?_ | refine S_skip ?_ | refine S_exit ?_ | refine S_ret ?_ | refine E_then_exit ?_ | refine E_then_ret ?_ | refine E_block_ret ?_ | refine E_block_exit ?_ | refine E_block_exit_other rfl ?_)
    rw [lay_whole rfl]
    exact E_retRow rfl rfl (by repeat (first | exact List.Mem.head _ | apply List.Mem.tail)) row_onces_pair hp fun w' hm => ⟨rfl, hm.below⟩

set_option maxHeartbeats 1000000 in
theorem pubPair_any (bs bi : Nat) (seed : List UInt8) (hs : seed.length = 32) (idx : UInt32) (n : Nat) (w : World) (h1 : w.heap[bs]? = some (.cells (bytesV seed).toArray 23 (0, 0))) (h2 : w.heap[bi]? = some (.cells [.int .u32 (idx.toNat : Int)].toArray 30 (0, 0))) :
    Calls Try.prog 44 [.int .i64 (n : Int), .pointer (some ⟨bs, 0, none⟩), .pointer (some ⟨bi, 0, none⟩)].toArray w fun e w' => e = .returned (.agg (bytesV (pubPair seed idx.toNat n)).toArray) ∧ Below w.heap.size w w' := by
  have hr1 : Reads w (some ⟨bs, 0, none⟩) 32 (bytesV seed) := reads_block h1 (by rw [bytesV_length, hs])
  have hbi := (Array.getElem?_eq_some_iff.1 h2).1
  have hc2 : w.cell? ⟨bi, 0, none⟩ = some (.int .u32 (idx.toNat : Int)) := by rw [cell_of_row w bi 0 _ _ _ h2]; rfl
  have s0 := secN_length seed idx.toNat n 0
  have s1 := secN_length seed idx.toNat n 1
  have e0 := sha_length (secN seed idx.toNat n 0)
  have e1 := sha_length (secN seed idx.toNat n 1)
  have hpl := pubPair_length seed idx.toNat n
  have hsp : (sumsV (secP seed idx.toNat n 2)).length = 64 := by rw [sumsV_length (secP_sums _ _ _ _), secP_length]
  have hpv : bytesV (pubPair seed idx.toNat n) = lay (lay (bytesV (List.replicate 64 0)) (0 * 32) (bytesV (sha (secN seed idx.toNat n 0)))) (1 * 32) (bytesV (sha (secN seed idx.toNat n 1))) := by
    have h := pl01 _ _ e0 e1
    rw [Nat.zero_add, Nat.zero_add] at h
    rw [h]; rfl
  have hb : Try.prog.built 81 [(0, .agg (bytesV (sha (secN seed idx.toNat n 0))).toArray), (1, .agg (bytesV (sha (secN seed idx.toNat n 1))).toArray)] = some (bytesV (pubPair seed idx.toNat n)).toArray := by
    rw [blt_onces_pair, fill_cons (off := 0 * 32) (vc := bytesV (sha (secN seed idx.toNat n 0))) (by rw [bytesV_length, e0]) rfl (by rw [bytesV_length, e0]; exact Nat.le_of_ble_eq_true rfl),
      fill_cons (off := 1 * 32) (vc := bytesV (sha (secN seed idx.toNat n 1))) (by rw [bytesV_length, e1]) rfl (by rw [lay_length, bytesV_length, e1]; exact Nat.le_of_ble_eq_true rfl), fill_nil, hpv]
  clear hpv
  refine enter Try.func44 rfl Try.ntmps44 (by simp) ?_
  repeat (first | refine S_scope ?_ | refine S_label ?_ | refine E_noGoto_normal ?_ | refine E_noGoto_ret ?_ | refine E_noGoto_exit ?_ | refine S_yes rfl (by first | with_reducible rfl | decide) ?_ | refine S_no rfl (by first | with_reducible rfl | decide) ?_ | refine S_seq ?_ | refine E_seq ?_ | refine S_block ?_ | refine E_block_normal ?_ | refine S_skip ?_ | refine S_exit ?_ | refine S_ret ?_ | refine E_then_exit ?_ | refine E_then_ret ?_ | refine E_block_ret ?_ | refine E_block_exit ?_ | refine E_block_exit_other rfl ?_)
  refine S_region ?_
  refine R_cons rfl (op_allocRow zero_onces_pair rfl (Nat.le_refl _) (fun b4 => ?_))
  refine R_nil ?_
  repeat (first | refine S_scope ?_ | refine S_label ?_ | refine E_noGoto_normal ?_ | refine E_noGoto_ret ?_ | refine E_noGoto_exit ?_ | refine S_yes rfl (by first | with_reducible rfl | decide) ?_ | refine S_no rfl (by first | with_reducible rfl | decide) ?_ | refine S_seq ?_ | refine E_seq ?_ | refine S_block ?_ | refine E_block_normal ?_ | refine S_skip ?_ | refine S_exit ?_ | refine S_ret ?_ | refine E_then_exit ?_ | refine E_then_ret ?_ | refine E_block_ret ?_ | refine E_block_exit ?_ | refine E_block_exit_other rfl ?_)
  refine S_region ?_
  refine R_cons rfl (op_pure (p_loadR rfl row_Sum (n := 32) (cs := bytesV seed) (fun w' hm => hr1.base hm)) rfl ?_)
  refine R_cons rfl (op_pure (p_load_base rfl sc_u32 hbi (by simp) hc2) rfl ?_)
  refine R_cons rfl (op_pure (p_move rfl) rfl ?_)
  refine R_cons rfl (op_callV rfl rfl Try.func43 rfl (by kernel_rfl) rfl (Nat.le_refl _) (fun w' _ => secrets_any seed hs idx n w') ?_)
  refine R_cons rfl (op_allocRow zero_onces_pair rfl (Nat.le_refl _) (fun b5 => ?_))
  refine R_cons rfl (op_storeRow rfl rfl (sumsV_one _) row_onces_pair hsp (by repeat (first | exact At.here | apply At.there)) (by rw [hsp]; exact Nat.le_of_ble_eq_true rfl) ?_)
  refine R_nil ?_
  repeat (first | refine S_scope ?_ | refine S_label ?_ | refine E_noGoto_normal ?_ | refine E_noGoto_ret ?_ | refine E_noGoto_exit ?_ | refine S_yes rfl (by first | with_reducible rfl | decide) ?_ | refine S_no rfl (by first | with_reducible rfl | decide) ?_ | refine S_seq ?_ | refine E_seq ?_ | refine S_block ?_ | refine E_block_normal ?_ | refine S_skip ?_ | refine S_exit ?_ | refine S_ret ?_ | refine E_then_exit ?_ | refine E_then_ret ?_ | refine E_block_ret ?_ | refine E_block_exit ?_ | refine E_block_exit_other rfl ?_)
  rw [lay_whole (by rw [hsp]; rfl)]
  refine S_tail 7 (by kernel_rfl) (by kernel_rfl) (by kernel_rfl) (by kernel_rfl) ?_
  refine Q_cons (Still1.of_pure (p_indexArrR (j := 0) rfl rfl rfl ut_onces_pair row_Sum (by decide))) rfl ?_
  refine Q_cons (Still1.of_pure (p_loadR rfl row_Sum (n := 32) (cs := bytesV (secN seed idx.toNat n 0)) (fun w' hm => (hm.readsS (b := b5) (secP_sums seed idx.toNat n 2) (by repeat (first | exact List.Mem.head _ | apply List.Mem.tail))).at_ (j := 0) (by rw [secP_length]; omega)))) rfl ?_
  refine Q_cons (still_call rfl rfl Try.func39 rfl (by kernel_rfl) (Nat.le_refl _) (fun w' _ => sum19_any _ s0 w')) rfl ?_
  refine Q_cons (Still1.of_pure (p_indexArrR (j := 1) rfl rfl rfl ut_onces_pair row_Sum (by decide))) rfl ?_
  refine Q_cons (Still1.of_pure (p_loadR rfl row_Sum (n := 32) (cs := bytesV (secN seed idx.toNat n 1)) (fun w' hm => (hm.readsS (b := b5) (secP_sums seed idx.toNat n 2) (by repeat (first | exact List.Mem.head _ | apply List.Mem.tail))).at_ (j := 1) (by rw [secP_length]; omega)))) rfl ?_
  refine Q_cons (still_call rfl rfl Try.func39 rfl (by kernel_rfl) (Nat.le_refl _) (fun w' _ => sum19_any _ s1 w')) rfl ?_
  refine Q_cons (Still1.of_pure (p_build (ps := [(0, .tmp 12), (1, .tmp 15)]) (cs := bytesV (pubPair seed idx.toNat n)) rfl hb)) rfl ?_
  refine Q_nop ?_
  refine Q_nil ?_
  refine E_tail ?_
  refine R_cons rfl (op_storeRow rfl rfl (bytesV_one _) row_onces_pair (by rw [bytesV_length, hpl]) (by repeat (first | exact At.here | apply At.there)) (by rw [bytesV_length, bytesV_length, hpl]; exact Nat.le_refl 64) ?_)
  refine R_nil ?_
  repeat (first | refine S_scope ?_ | refine S_label ?_ | refine E_noGoto_normal ?_ | refine E_noGoto_ret ?_ | refine E_noGoto_exit ?_ | refine S_yes rfl (by first | with_reducible rfl | decide) ?_ | refine S_no rfl (by first | with_reducible rfl | decide) ?_ | refine S_seq ?_ | refine E_seq ?_ | refine S_block ?_ | refine E_block_normal ?_ | refine S_skip ?_ | refine S_exit ?_ | refine S_ret ?_ | refine E_then_exit ?_ | refine E_then_ret ?_ | refine E_block_ret ?_ | refine E_block_exit ?_ | refine E_block_exit_other rfl ?_)
  rw [lay_whole (by rw [bytesV_length, bytesV_length, hpl]; rfl)]
  exact E_retRow rfl rfl (by repeat (first | exact List.Mem.head _ | apply List.Mem.tail)) row_onces_pair (by rw [bytesV_length, hpl]) fun w' hm => ⟨rfl, hm.below⟩

set_option maxHeartbeats 1000000 in
theorem public_any (seed : List UInt8) (hs : seed.length = 32) (idx : UInt32) (w : World) :
    Calls Try.prog 16 [.agg (bytesV seed).toArray, .int .u32 (idx.toNat : Int)].toArray w fun e w' => e = .returned (.agg (bytesV (pubS seed idx.toNat)).toArray) ∧ Below w.heap.size w w' := by
  have hol : (sha (catN (pubPair seed idx.toNat) 64)).length = 32 := pubS_length seed idx.toNat
  have hcl : ∀ n, n ≤ 64 → (catN (pubPair seed idx.toNat) n).length = n * 64 := fun n _ => catN_length _ 64 n (pubPair_length seed idx.toNat)
  refine enter Try.func16 rfl Try.ntmps16 (by simp) ?_
  repeat (first | refine S_scope ?_ | refine S_label ?_ | refine E_noGoto_normal ?_ | refine E_noGoto_ret ?_ | refine E_noGoto_exit ?_ | refine S_yes rfl (by first | with_reducible rfl | decide) ?_ | refine S_no rfl (by first | with_reducible rfl | decide) ?_ | refine S_seq ?_ | refine E_seq ?_ | refine S_block ?_ | refine E_block_normal ?_ | refine S_skip ?_ | refine S_exit ?_ | refine S_ret ?_ | refine E_then_exit ?_ | refine E_then_ret ?_ | refine E_block_ret ?_ | refine E_block_exit ?_ | refine E_block_exit_other rfl ?_)
  refine S_region ?_
  refine R_cons rfl (op_boxRow rfl rfl (Nat.le_refl _) (fun b2 => ?_))
  refine R_cons rfl (op_box rfl rfl (Nat.le_refl _) (fun b3 => ?_))
  refine R_cons rfl (op_allocRow zero_Sum rfl (Nat.le_refl _) (fun b4 => ?_))
  refine R_nil ?_
  repeat (first | refine S_scope ?_ | refine S_label ?_ | refine E_noGoto_normal ?_ | refine E_noGoto_ret ?_ | refine E_noGoto_exit ?_ | refine S_yes rfl (by first | with_reducible rfl | decide) ?_ | refine S_no rfl (by first | with_reducible rfl | decide) ?_ | refine S_seq ?_ | refine E_seq ?_ | refine S_block ?_ | refine E_block_normal ?_ | refine S_skip ?_ | refine S_exit ?_ | refine S_ret ?_ | refine E_then_exit ?_ | refine E_then_ret ?_ | refine E_block_ret ?_ | refine E_block_exit ?_ | refine E_block_exit_other rfl ?_)
  refine S_region ?_
  refine R_cons rfl (op_pure (p_makeFunc (xs := []) (ys := [.tmp 2, .tmp 3]) rfl rfl) rfl ?_)
  refine R_cons rfl (op_callV rfl rfl Try.func36 rfl (by kernel_rfl) rfl (Nat.le_refl _) (fun w' hm => whole_any 44 _ [.pointer (some ⟨b2, 0, none⟩), .pointer (some ⟨b3, 0, none⟩)] (pubPair seed idx.toNat) (fun n _ => pubPair_length seed idx.toNat n) hcl Try.func44 rfl (by kernel_rfl) w' (fun n hn w'' hb => pubPair_any b2 b3 seed hs idx n w'' (below_block hb (hm.own (b2, _) (by repeat (first | exact List.Mem.head _ | apply List.Mem.tail))).2) (below_block hb (hm.own (b3, _) (by repeat (first | exact List.Mem.head _ | apply List.Mem.tail))).2))) ?_)
  refine R_cons rfl (op_storeRow rfl rfl (bytesV_one _) row_Sum (by rw [bytesV_length, hol]) (by repeat (first | exact At.here | apply At.there)) (by rw [bytesV_length, bytesV_length, hol]; exact Nat.le_refl 32) ?_)
  refine R_nil ?_
  repeat (first | refine S_scope ?_ | refine S_label ?_ | refine E_noGoto_normal ?_ | refine E_noGoto_ret ?_ | refine E_noGoto_exit ?_ | refine S_yes rfl (by first | with_reducible rfl | decide) ?_ | refine S_no rfl (by first | with_reducible rfl | decide) ?_ | refine S_seq ?_ | refine E_seq ?_ | refine S_block ?_ | refine E_block_normal ?_ | refine S_skip ?_ | refine S_exit ?_ | refine S_ret ?_ | refine E_then_exit ?_ | refine E_then_ret ?_ | refine E_block_ret ?_ | refine E_block_exit ?_ | refine E_block_exit_other rfl ?_)
  refine E_fewer (Sub.refl _) (H' := [(b4, .cells (bytesV (pubS seed idx.toNat)).toArray 23 (0, 0))]) ?_ (E_retRow rfl rfl (by repeat (first | exact List.Mem.head _ | apply List.Mem.tail)) row_Sum (by rw [bytesV_length]; exact hol) fun w' hm => ⟨rfl, hm.below⟩)
  exact .keep (by rw [lay_whole (by rw [bytesV_length, bytesV_length, hol]; rfl)]; rfl) .nil
end Go.Proofs.Ytfdlafjifjndeaa
