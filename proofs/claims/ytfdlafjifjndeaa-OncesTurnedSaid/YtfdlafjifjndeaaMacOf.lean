/-
  The layer macs: the sum of parts by a key is HMAC.
-/
import Derived.Test.YtfdlafjifjndeaaMacs1
namespace Go.Proofs.Ytfdlafjifjndeaa
open Go.Sha
open Go.RowKit Go.K
attribute [local irreducible] Exit.then Exit.inBlock Exit.noGoto bodyPost Code.wp QL Sx Rx Qx Ex Dx Op1 Pure1 Still1 K.Sub Calm Code.wpIn
attribute [local irreducible] sha madeK byK hmac upTo
set_option linter.unusedVariables false

set_option maxHeartbeats 1000000 in
theorem macOf_any (A : Option Addr) (n c : Nat) (xs : List UInt8) (w : World) (hl : xs.length = n) (hrd : Reads w A n (bytesV xs)) (hnc : n ≤ c) (hcm : c ≤ maxLen) (hn : n ≤ 1000000000000)
    (A2 : Option Addr) (c2 : Nat) (ls : List Sl) (hrd2 : Reads w A2 ls.length (ls.map Sl.val)) (hok : ∀ s ∈ ls, s.ok w) (hll : ls.length ≤ 1000) (htot : total ls ≤ 100000000000) :
    Calls Try.prog 46 [.slice A n c, .slice A2 ls.length c2].toArray w fun e w' => e = .returned (.agg (bytesV (hmac xs (upTo ls ls.length))).toArray) ∧ Below w.heap.size w w' := by
  subst hl
  have hml := madeK_length xs
  have hb1 := byK_length 54 (madeK xs)
  have hb2 := byK_length 92 (madeK xs)
  refine enter Try.func46 rfl Try.ntmps46 (by simp) ?_
  repeat (first | refine S_scope ?_ | refine S_label ?_ | refine E_noGoto_normal ?_ | refine E_noGoto_ret ?_ | refine E_noGoto_exit ?_ | refine S_yes rfl (by first | with_reducible rfl | decide) ?_ | refine S_no rfl (by first | with_reducible rfl | decide) ?_ | refine S_seq ?_ | refine E_seq ?_ | refine S_block ?_ | refine E_block_normal ?_ | refine S_skip ?_ | refine S_exit ?_ | refine S_ret ?_ | refine E_then_exit ?_ | refine E_then_ret ?_ | refine E_block_ret ?_ | refine E_block_exit ?_ | refine E_block_exit_other rfl ?_)
  refine S_region ?_
  refine R_cons rfl (op_allocRow zero_Sum rfl (Nat.le_refl _) (fun b4 => ?_))
  refine R_nil ?_
  repeat (first | refine S_scope ?_ | refine S_label ?_ | refine E_noGoto_normal ?_ | refine E_noGoto_ret ?_ | refine E_noGoto_exit ?_ | refine S_yes rfl (by first | with_reducible rfl | decide) ?_ | refine S_no rfl (by first | with_reducible rfl | decide) ?_ | refine S_seq ?_ | refine E_seq ?_ | refine S_block ?_ | refine E_block_normal ?_ | refine S_skip ?_ | refine S_exit ?_ | refine S_ret ?_ | refine E_then_exit ?_ | refine E_then_ret ?_ | refine E_block_ret ?_ | refine E_block_exit ?_ | refine E_block_exit_other rfl ?_)
  refine S_region ?_
  refine R_cons rfl (op_pure (p_move rfl) rfl ?_)
  refine R_cons rfl (op_callV rfl rfl Try.func79 rfl (by kernel_rfl) rfl (Nat.le_refl _) (fun w' hm => made_any A xs.length c xs w' rfl (hrd.base hm) hnc hcm hn) ?_)
  refine R_cons rfl (op_allocRow zero_block rfl (Nat.le_refl _) (fun b5 => ?_))
  refine R_cons rfl (op_storeRow rfl rfl (by first | exact bytesV_one _ | exact wordsV_one _ | (repeat (first | exact ones_nil | refine ones_cons rfl ?_))) row_block (by first | assumption | rfl | (simp only [bytesV_length, wordsV_length]; omega) | (rw [bytesV_length]; exact Sha.sha_length _)) (by repeat (first | exact At.here | apply At.there)) (by first | exact Nat.le_of_ble_eq_true rfl | omega | (simp only [bytesV_length, wordsV_length, List.length_cons, List.length_nil, List.length_replicate]; omega) | (simp only [bytesV_length, Sha.sha_length, List.length_replicate] <;> omega)) ?_)
  refine R_nil ?_
  repeat (first | refine S_scope ?_ | refine S_label ?_ | refine E_noGoto_normal ?_ | refine E_noGoto_ret ?_ | refine E_noGoto_exit ?_ | refine S_yes rfl (by first | with_reducible rfl | decide) ?_ | refine S_no rfl (by first | with_reducible rfl | decide) ?_ | refine S_seq ?_ | refine E_seq ?_ | refine S_block ?_ | refine E_block_normal ?_ | refine S_skip ?_ | refine S_exit ?_ | refine S_ret ?_ | refine E_then_exit ?_ | refine E_then_ret ?_ | refine E_block_ret ?_ | refine E_block_exit ?_ | refine E_block_exit_other rfl ?_)
  rw [lay_whole (by rw [bytesV_length, bytesV_length, hml]; rfl)]
  have hin := sha_length (byK 54 (madeK xs) ++ upTo ls ls.length)
  refine S_region ?_
  refine R_cons rfl (op_pure (by first | exact p_loadRow rfl row_block (by repeat (first | exact List.Mem.head _ | apply List.Mem.tail)) (by first | assumption | rfl | (simp only [bytesV_length, wordsV_length]; omega)) | exact p_loadPart rfl row_block (by repeat (first | exact List.Mem.head _ | apply List.Mem.tail)) (by first | exact Nat.le_of_ble_eq_true rfl | omega | (simp only [bytesV_length, wordsV_length, List.length_cons, List.length_nil, List.length_replicate]; omega) | (simp only [bytesV_length, Sha.sha_length, List.length_replicate] <;> omega)) (by first | assumption | rfl)) rfl ?_)
  refine R_cons rfl (op_callV rfl rfl Try.func81 rfl (by kernel_rfl) rfl (Nat.le_refl _) (fun w' _ => by_any (madeK xs) 54 hml w') ?_)
  refine R_cons rfl (op_pure (p_move rfl) rfl ?_)
  refine R_cons rfl (op_callV rfl rfl Try.func80 rfl (by kernel_rfl) rfl (Nat.le_refl _) (fun w' hm => macSum_any (byK 54 (madeK xs)) (by rw [hb1, hml]) A2 c2 ls w' (hrd2.base hm) (fun s hs => Sl.ok_base (hok s hs) hm) hll htot) ?_)
  refine R_cons rfl (op_allocRow zero_Sum rfl (Nat.le_refl _) (fun b6 => ?_))
  refine R_cons rfl (op_storeRow rfl rfl (by first | exact bytesV_one _ | exact wordsV_one _ | (repeat (first | exact ones_nil | refine ones_cons rfl ?_))) row_Sum (by first | assumption | rfl | (simp only [bytesV_length, wordsV_length]; omega) | (rw [bytesV_length]; exact Sha.sha_length _)) (by repeat (first | exact At.here | apply At.there)) (by first | exact Nat.le_of_ble_eq_true rfl | omega | (simp only [bytesV_length, wordsV_length, List.length_cons, List.length_nil, List.length_replicate]; omega) | (simp only [bytesV_length, Sha.sha_length, List.length_replicate] <;> omega)) ?_)
  refine R_nil ?_
  repeat (first | refine S_scope ?_ | refine S_label ?_ | refine E_noGoto_normal ?_ | refine E_noGoto_ret ?_ | refine E_noGoto_exit ?_ | refine S_yes rfl (by first | with_reducible rfl | decide) ?_ | refine S_no rfl (by first | with_reducible rfl | decide) ?_ | refine S_seq ?_ | refine E_seq ?_ | refine S_block ?_ | refine E_block_normal ?_ | refine S_skip ?_ | refine S_exit ?_ | refine S_ret ?_ | refine E_then_exit ?_ | refine E_then_ret ?_ | refine E_block_ret ?_ | refine E_block_exit ?_ | refine E_block_exit_other rfl ?_)
  have hlast := sha_length (byK 92 (madeK xs) ++ sha (byK 54 (madeK xs) ++ upTo ls ls.length))
  rw [lay_whole (by rw [bytesV_length, bytesV_length, hin]; rfl)]
  generalize hinn : sha (byK 54 (madeK xs) ++ upTo ls ls.length) = inn at hin hlast
  refine S_cut [(4, .pointer (some ⟨b4, 0, none⟩))] [(b4, .cells (bytesV (hmac xs (upTo ls ls.length))).toArray 23 (0, 0))] ?_ ?_
  · have hup : upTo [(⟨some ⟨b6, 0, none⟩, 32, inn⟩ : Sl)] [(⟨some ⟨b6, 0, none⟩, 32, inn⟩ : Sl)].length = inn := upTo_one _
    refine S_drawn (by kernel_rfl) (.keep rfl (.keep rfl .nil)) ?_
    refine D_take 0 rfl (by kernel_rfl) (by kernel_rfl) (by kernel_rfl) (by repeat (first | exact calm_body | exact calm_mid | apply calm_noGoto | exact calm_midE | apply calm_then | apply calm_block)) (by first | exact p_loadRow rfl row_block (by repeat (first | exact List.Mem.head _ | apply List.Mem.tail)) (by first | assumption | rfl | (simp only [bytesV_length, wordsV_length]; omega)) | exact p_loadPart rfl row_block (by repeat (first | exact List.Mem.head _ | apply List.Mem.tail)) (by first | exact Nat.le_of_ble_eq_true rfl | omega | (simp only [bytesV_length, wordsV_length, List.length_cons, List.length_nil, List.length_replicate]; omega) | (simp only [bytesV_length, Sha.sha_length, List.length_replicate] <;> omega)) (by first | assumption | rfl)) rfl ?_
    refine D_take 2 rfl (by kernel_rfl) (by kernel_rfl) (by kernel_rfl) (by repeat (first | exact calm_body | exact calm_mid | apply calm_noGoto | exact calm_midE | apply calm_then | apply calm_block)) (p_sliceArr rfl arr_Sum) rfl ?_
    refine D_two 1 3 (by kernel_rfl) ?_ ?_
    · refine step_plain 1 rfl rfl (op_callV rfl rfl Try.func81 rfl (by kernel_rfl) rfl (Nat.le_refl _) (fun w' _ => by_any (madeK xs) 92 hml w') ?_)
      refine ⟨(by repeat (first | exact Fewer.nil | refine Fewer.keep rfl ?_ | refine Fewer.drop ?_ | exact Fewer.refl _ | exact Fewer.inl _ _ | (simp only [List.append_nil]; first | exact Fewer.inl _ _ | exact Fewer.refl _))), ?_⟩
      refine D_only 3 rfl (by kernel_rfl) rfl (op_buildSliceAll (ps := [(0, .tmp 15)]) rfl slc_u8ss.1 el_u8s (by decide) (by decide) (by first | kernel_rfl | rfl) rfl (Nat.le_refl _) (fun b16 => ?_))
      refine ⟨(by repeat (first | exact Fewer.nil | refine Fewer.keep rfl ?_ | refine Fewer.drop ?_ | exact Fewer.refl _ | exact Fewer.inl _ _ | (simp only [List.append_nil]; first | exact Fewer.inl _ _ | exact Fewer.refl _))), ?_⟩
      refine D_only 4 rfl (by kernel_rfl) rfl (op_callV rfl rfl Try.func80 rfl (by kernel_rfl) rfl (Nat.le_refl _) (fun w' hm => macSum_any (byK 92 (madeK xs)) (by rw [hb2, hml]) (some ⟨b16, 0, none⟩) 1 [⟨some ⟨b6, 0, none⟩, 32, inn⟩] w' (by have h1 := hm.readsAll (b := b16) (n := 1) (cs := [.slice (some ⟨b6, 0, none⟩) 32 32]) (by repeat (first | exact List.Mem.head _ | apply List.Mem.tail)) rfl; have e : List.map Sl.val [(⟨some ⟨b6, 0, none⟩, 32, inn⟩ : Sl)] = [.slice (some ⟨b6, 0, none⟩) 32 32] := (by show [Value.slice _ inn.length 32] = _; rw [hin]); rw [e]; exact h1) (fun s hs => by rw [List.mem_singleton] at hs; subst hs; refine ⟨?_, by show inn.length ≤ 32; omega, by show 32 ≤ maxLen; unfold maxLen; omega, by show inn.length ≤ _; omega⟩; have h1 := hm.readsAll (b := b6) (n := 32) (by repeat (first | exact List.Mem.head _ | apply List.Mem.tail)) (by rw [bytesV_length, hin]); show Reads w' _ inn.length _; rw [hin]; exact h1) (by simp) (by rw [total_one]; show inn.length ≤ _; omega)) ?_)
      refine ⟨(by repeat (first | exact Fewer.nil | refine Fewer.keep rfl ?_ | refine Fewer.drop ?_ | exact Fewer.refl _ | exact Fewer.inl _ _ | (simp only [List.append_nil]; first | exact Fewer.inl _ _ | exact Fewer.refl _))), ?_⟩
      refine D_only 5 rfl (by kernel_rfl) rfl (op_storeRow rfl rfl (by first | exact bytesV_one _ | exact wordsV_one _ | (repeat (first | exact ones_nil | refine ones_cons rfl ?_))) row_Sum (by first | assumption | rfl | (simp only [bytesV_length, wordsV_length]; omega) | (rw [bytesV_length]; exact Sha.sha_length _)) (by repeat (first | exact At.here | apply At.there)) (by first | exact Nat.le_of_ble_eq_true rfl | omega | (simp only [bytesV_length, wordsV_length, List.length_cons, List.length_nil, List.length_replicate]; omega) | (simp only [bytesV_length, Sha.sha_length, List.length_replicate] <;> omega)) ?_)
      refine ⟨(by repeat (first | exact Fewer.nil | refine Fewer.keep rfl ?_ | refine Fewer.drop ?_ | exact Fewer.refl _ | exact Fewer.inl _ _ | (simp only [List.append_nil]; first | exact Fewer.inl _ _ | exact Fewer.refl _))), ?_⟩
      refine D_done (by kernel_rfl) ?_
      refine E_mid (by repeat (first | exact Sub.nil | refine Sub.cons rfl ?_)) (.drop (.drop (.drop (.keep ?_ .nil))))
      rw [hup, lay_whole (by rw [bytesV_length, bytesV_length, sha_length]; rfl)]
      unfold hmac
      rw [hinn]
    · refine step_plain 3 rfl rfl (op_buildSliceAll (ps := [(0, .tmp 15)]) rfl slc_u8ss.1 el_u8s (by decide) (by decide) (by first | kernel_rfl | rfl) rfl (Nat.le_refl _) (fun b16 => ?_))
      refine ⟨(by repeat (first | exact Fewer.nil | refine Fewer.keep rfl ?_ | refine Fewer.drop ?_ | exact Fewer.refl _ | exact Fewer.inl _ _ | (simp only [List.append_nil]; first | exact Fewer.inl _ _ | exact Fewer.refl _))), ?_⟩
      refine D_only 1 rfl (by kernel_rfl) rfl (op_callV rfl rfl Try.func81 rfl (by kernel_rfl) rfl (Nat.le_refl _) (fun w' _ => by_any (madeK xs) 92 hml w') ?_)
      refine ⟨(by repeat (first | exact Fewer.nil | refine Fewer.keep rfl ?_ | refine Fewer.drop ?_ | exact Fewer.refl _ | exact Fewer.inl _ _ | (simp only [List.append_nil]; first | exact Fewer.inl _ _ | exact Fewer.refl _))), ?_⟩
      refine D_only 4 rfl (by kernel_rfl) rfl (op_callV rfl rfl Try.func80 rfl (by kernel_rfl) rfl (Nat.le_refl _) (fun w' hm => macSum_any (byK 92 (madeK xs)) (by rw [hb2, hml]) (some ⟨b16, 0, none⟩) 1 [⟨some ⟨b6, 0, none⟩, 32, inn⟩] w' (by have h1 := hm.readsAll (b := b16) (n := 1) (cs := [.slice (some ⟨b6, 0, none⟩) 32 32]) (by repeat (first | exact List.Mem.head _ | apply List.Mem.tail)) rfl; have e : List.map Sl.val [(⟨some ⟨b6, 0, none⟩, 32, inn⟩ : Sl)] = [.slice (some ⟨b6, 0, none⟩) 32 32] := (by show [Value.slice _ inn.length 32] = _; rw [hin]); rw [e]; exact h1) (fun s hs => by rw [List.mem_singleton] at hs; subst hs; refine ⟨?_, by show inn.length ≤ 32; omega, by show 32 ≤ maxLen; unfold maxLen; omega, by show inn.length ≤ _; omega⟩; have h1 := hm.readsAll (b := b6) (n := 32) (by repeat (first | exact List.Mem.head _ | apply List.Mem.tail)) (by rw [bytesV_length, hin]); show Reads w' _ inn.length _; rw [hin]; exact h1) (by simp) (by rw [total_one]; show inn.length ≤ _; omega)) ?_)
      refine ⟨(by repeat (first | exact Fewer.nil | refine Fewer.keep rfl ?_ | refine Fewer.drop ?_ | exact Fewer.refl _ | exact Fewer.inl _ _ | (simp only [List.append_nil]; first | exact Fewer.inl _ _ | exact Fewer.refl _))), ?_⟩
      refine D_only 5 rfl (by kernel_rfl) rfl (op_storeRow rfl rfl (by first | exact bytesV_one _ | exact wordsV_one _ | (repeat (first | exact ones_nil | refine ones_cons rfl ?_))) row_Sum (by first | assumption | rfl | (simp only [bytesV_length, wordsV_length]; omega) | (rw [bytesV_length]; exact Sha.sha_length _)) (by repeat (first | exact At.here | apply At.there)) (by first | exact Nat.le_of_ble_eq_true rfl | omega | (simp only [bytesV_length, wordsV_length, List.length_cons, List.length_nil, List.length_replicate]; omega) | (simp only [bytesV_length, Sha.sha_length, List.length_replicate] <;> omega)) ?_)
      refine ⟨(by repeat (first | exact Fewer.nil | refine Fewer.keep rfl ?_ | refine Fewer.drop ?_ | exact Fewer.refl _ | exact Fewer.inl _ _ | (simp only [List.append_nil]; first | exact Fewer.inl _ _ | exact Fewer.refl _))), ?_⟩
      refine D_done (by kernel_rfl) ?_
      refine E_mid (by repeat (first | exact Sub.nil | refine Sub.cons rfl ?_)) (.drop (.drop (.drop (.keep ?_ .nil))))
      rw [hup, lay_whole (by rw [bytesV_length, bytesV_length, sha_length]; rfl)]
      unfold hmac
      rw [hinn]
  · repeat (first | refine S_scope ?_ | refine S_label ?_ | refine E_noGoto_normal ?_ | refine E_noGoto_ret ?_ | refine E_noGoto_exit ?_ | refine S_yes rfl (by first | with_reducible rfl | decide) ?_ | refine S_no rfl (by first | with_reducible rfl | decide) ?_ | refine S_seq ?_ | refine E_seq ?_ | refine S_block ?_ | refine E_block_normal ?_ | refine S_skip ?_ | refine S_exit ?_ | refine S_ret ?_ | refine E_then_exit ?_ | refine E_then_ret ?_ | refine E_block_ret ?_ | refine E_block_exit ?_ | refine E_block_exit_other rfl ?_)
    exact E_retRow rfl rfl (by repeat (first | exact List.Mem.head _ | apply List.Mem.tail)) row_Sum (by rw [bytesV_length, hmac_length]) fun w' hm => ⟨rfl, hm.below⟩
end Go.Proofs.Ytfdlafjifjndeaa
