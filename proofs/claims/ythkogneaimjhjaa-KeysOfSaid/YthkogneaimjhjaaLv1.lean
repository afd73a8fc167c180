/-
  The layer leaves: a leaf's sum, a node's, of the code and of the chapter's document.
-/
import Derived.Test.YthkogneaimjhjaaConcat
import Derived.Test.YthkogneaimjhjaaSha5
import Derived.Test.YthkogneaimjhjaaSha7
import Derived.Test.YthkogneaimjhjaaLeafLaw
namespace Go.Proofs.Ythkogneaimjhjaa
open Go.Sha
open Go.RowKit Go.K
attribute [local irreducible] Exit.then Exit.inBlock Exit.noGoto bodyPost Code.wp QL Sx Rx Qx Ex Dx Op1 Pure1 Still1 K.Sub Calm Code.wpIn
attribute [local irreducible] sha total Buf.hp Buf.cap Buf.addr leafS nodeS
set_option linter.unusedVariables false

set_option maxHeartbeats 1000000 in
theorem leaf_any (A : Option Addr) (n c : Nat) (v : List UInt8) (w : World) (hl : v.length = n) (hrd : Reads w A n (bytesV v)) (hnc : n ≤ c) (hcm : c ≤ maxLen) (hn : n ≤ 1000000000) :
    Calls Try.prog 35 [.slice A n c].toArray w fun e w' => e = .returned (.agg (bytesV (leafS v)).toArray) ∧ Below w.heap.size w w' := by
  subst hl
  have htl : (0 :: v).length = 1 + v.length := by simp; omega
  have h3l := sha_length (0 :: v)
  refine enter Try.func35 rfl Try.ntmps35 (by simp) ?_
  repeat (first | refine S_scope ?_ | refine S_label ?_ | refine E_noGoto_normal ?_ | refine E_noGoto_ret ?_ | refine E_noGoto_exit ?_ | refine S_yes rfl (by first | with_reducible rfl | decide) ?_ | refine S_no rfl (by first | with_reducible rfl | decide) ?_ | refine S_seq ?_ | refine E_seq ?_ | refine S_block ?_ | refine E_block_normal ?_ | refine S_skip ?_ | refine S_exit ?_ | refine S_ret ?_ | refine E_then_exit ?_ | refine E_then_ret ?_ | refine E_block_ret ?_ | refine E_block_exit ?_ | refine E_block_exit_other rfl ?_)
  refine S_region ?_
  refine R_cons rfl (op_allocRow zero_Sum rfl (Nat.le_refl _) (fun b2 => ?_))
  refine R_nil ?_
  repeat (first | refine S_scope ?_ | refine S_label ?_ | refine E_noGoto_normal ?_ | refine E_noGoto_ret ?_ | refine E_noGoto_exit ?_ | refine S_yes rfl (by first | with_reducible rfl | decide) ?_ | refine S_no rfl (by first | with_reducible rfl | decide) ?_ | refine S_seq ?_ | refine E_seq ?_ | refine S_block ?_ | refine E_block_normal ?_ | refine S_skip ?_ | refine S_exit ?_ | refine S_ret ?_ | refine E_then_exit ?_ | refine E_then_ret ?_ | refine E_block_ret ?_ | refine E_block_exit ?_ | refine E_block_exit_other rfl ?_)
  have hup : ∀ b9 : Nat, upTo [(⟨some ⟨b9, 0, none⟩, 1, [0]⟩ : Sl), ⟨A, c, v⟩] [(⟨some ⟨b9, 0, none⟩, 1, [0]⟩ : Sl), ⟨A, c, v⟩].length = 0 :: v := fun _ => by simp [upTo]
  have hto : ∀ b9 : Nat, total [(⟨some ⟨b9, 0, none⟩, 1, [0]⟩ : Sl), ⟨A, c, v⟩] = 1 + v.length := fun _ => by unfold total; simp
  have hva : ∀ b9 : Nat, List.map Sl.val [(⟨some ⟨b9, 0, none⟩, 1, [0]⟩ : Sl), ⟨A, c, v⟩] = [.slice (some ⟨b9, 0, none⟩) 1 1, .slice A v.length c] := fun _ => by simp [Sl.val]
  repeat (first | refine S_scope ?_ | refine S_label ?_ | refine E_noGoto_normal ?_ | refine E_noGoto_ret ?_ | refine E_noGoto_exit ?_ | refine S_yes rfl (by first | with_reducible rfl | decide) ?_ | refine S_no rfl (by first | with_reducible rfl | decide) ?_ | refine S_seq ?_ | refine E_seq ?_ | refine S_block ?_ | refine E_block_normal ?_ | refine S_skip ?_ | refine S_exit ?_ | refine S_ret ?_ | refine E_then_exit ?_ | refine E_then_ret ?_ | refine E_block_ret ?_ | refine E_block_exit ?_ | refine E_block_exit_other rfl ?_)
  refine S_region ?_
  refine R_cons rfl (op_buildSliceAll (ps := [(0, .const (.int .u8 0))]) rfl slc_u8s.1 el_u8 (by decide) (by decide) (by first | kernel_rfl | rfl) rfl (Nat.le_refl _) (fun b3 => ?_))
  refine R_cons rfl (op_pure (p_move rfl) rfl ?_)
  refine R_cons rfl (op_buildSliceAll (ps := [(0, .tmp 3), (1, .tmp 4)]) rfl slc_u8ss.1 el_u8s (by decide) (by decide) (by first | kernel_rfl | rfl) rfl (Nat.le_refl _) (fun b5 => ?_))
  refine R_cons rfl (op_callBuf (xs := 0 :: v) rfl rfl Try.func43 rfl (by kernel_rfl) rfl (Nat.le_refl _) (fun w' hm => by have h1 := hm.readsAll (b := b5) (n := 2) (cs := [.slice (some ⟨b3, 0, none⟩) 1 1, .slice A v.length c]) (by repeat (first | exact List.Mem.head _ | apply List.Mem.tail)) rfl; rw [← hva b3] at h1; have h4 := hm.readsAll (b := b3) (n := 1) (cs := bytesV [0]) (by repeat (first | exact List.Mem.head _ | apply List.Mem.tail)) rfl; have h5 := concat_any (some ⟨b5, 0, none⟩) 2 [(⟨some ⟨b3, 0, none⟩, 1, [0]⟩ : Sl), ⟨A, c, v⟩] w' h1 (fun s hs => by simp only [List.mem_cons, List.not_mem_nil, or_false] at hs; rcases hs with rfl | rfl; exact ⟨h4, Nat.le_refl _, (by show 1 ≤ maxLen; unfold maxLen; omega), Nat.le_of_ble_eq_true rfl⟩; exact ⟨hrd.base hm, hnc, hcm, (by show v.length ≤ _; omega)⟩) (Nat.le_of_ble_eq_true rfl) (by rw [hto]; omega) (by rw [hup, htl]; omega); rw [hup] at h5; exact h5) (fun g sp hokb => ?_))
  refine R_cons rfl (op_callV rfl rfl Try.func29 rfl (by kernel_rfl) rfl (Nat.le_refl _) (fun w' hm => of_any _ _ _ (0 :: v) w' rfl (hm.readsBuf (u := some (g, sp)) (e := 5) (by repeat (first | exact DelB.tail | exact DelB.no rfl | exact DelB.at_ rfl (by repeat (first | exact Del.here | apply Del.there)) | apply DelB.there)) hokb) (Buf.len_cap hokb) (Buf.cap_max hokb) (by rw [htl]; omega)) ?_)
  refine R_cons rfl (op_storeRow rfl rfl (by first | exact bytesV_one _ | exact wordsV_one _ | (repeat (first | exact ones_nil | refine ones_cons rfl ?_))) row_Sum (by first | assumption | rfl | (simp only [bytesV_length, wordsV_length]; omega) | (rw [bytesV_length]; exact Sha.sha_length _)) (by repeat (first | exact At.here | apply At.there)) (by first | exact Nat.le_of_ble_eq_true rfl | omega | (simp only [bytesV_length, wordsV_length, List.length_cons, List.length_nil, List.length_replicate]; omega) | (simp only [bytesV_length, Sha.sha_length, List.length_replicate] <;> omega)) ?_)
  refine R_nil ?_
  repeat (first | refine S_scope ?_ | refine S_label ?_ | refine E_noGoto_normal ?_ | refine E_noGoto_ret ?_ | refine E_noGoto_exit ?_ | refine S_yes rfl (by first | with_reducible rfl | decide) ?_ | refine S_no rfl (by first | with_reducible rfl | decide) ?_ | refine S_seq ?_ | refine E_seq ?_ | refine S_block ?_ | refine E_block_normal ?_ | refine S_skip ?_ | refine S_exit ?_ | refine S_ret ?_ | refine E_then_exit ?_ | refine E_then_ret ?_ | refine E_block_ret ?_ | refine E_block_exit ?_ | refine E_block_exit_other rfl ?_)
  refine E_fewer (Sub.refl _) (H' := [(b2, .cells (bytesV (leafS v)).toArray 23 (0, 0))]) ?_ (E_retRow rfl rfl (by repeat (first | exact List.Mem.head _ | apply List.Mem.tail)) row_Sum (by rw [bytesV_length, leafS_length]) fun w' hm => ⟨rfl, hm.below⟩)
  exact .drop (.drop (.drop (.keep (by rw [lay_whole (by rw [bytesV_length, bytesV_length, h3l]; rfl)]; unfold leafS; rfl) .nil)))

theorem node_any (l r : List UInt8) (hl : l.length = 32) (hr : r.length = 32) (w : World) :
    Calls Try.prog 37 [.agg (bytesV l).toArray, .agg (bytesV r).toArray].toArray w fun e w' => e = .returned (.agg (bytesV (nodeS l r)).toArray) ∧ Below w.heap.size w w' := by
  have hbl : (bytesV l).length = 32 := by rw [bytesV_length, hl]
  have hbr : (bytesV r).length = 32 := by rw [bytesV_length, hr]
  have htl : (1 :: (l ++ r)).length = 65 := by simp [hl, hr]
  refine enter Try.func37 rfl Try.ntmps37 (by simp) ?_
  repeat (first | refine S_scope ?_ | refine S_label ?_ | refine E_noGoto_normal ?_ | refine E_noGoto_ret ?_ | refine E_noGoto_exit ?_ | refine S_yes rfl (by first | with_reducible rfl | decide) ?_ | refine S_no rfl (by first | with_reducible rfl | decide) ?_ | refine S_seq ?_ | refine E_seq ?_ | refine S_block ?_ | refine E_block_normal ?_ | refine S_skip ?_ | refine S_exit ?_ | refine S_ret ?_ | refine E_then_exit ?_ | refine E_then_ret ?_ | refine E_block_ret ?_ | refine E_block_exit ?_ | refine E_block_exit_other rfl ?_)
  refine S_region ?_
  refine R_cons rfl (op_boxRow rfl rfl (Nat.le_refl _) (fun b2 => ?_))
  refine R_cons rfl (op_boxRow rfl rfl (Nat.le_refl _) (fun b3 => ?_))
  refine R_cons rfl (op_allocRow zero_Sum rfl (Nat.le_refl _) (fun b4 => ?_))
  refine R_nil ?_
  repeat (first | refine S_scope ?_ | refine S_label ?_ | refine E_noGoto_normal ?_ | refine E_noGoto_ret ?_ | refine E_noGoto_exit ?_ | refine S_yes rfl (by first | with_reducible rfl | decide) ?_ | refine S_no rfl (by first | with_reducible rfl | decide) ?_ | refine S_seq ?_ | refine E_seq ?_ | refine S_block ?_ | refine E_block_normal ?_ | refine S_skip ?_ | refine S_exit ?_ | refine S_ret ?_ | refine E_then_exit ?_ | refine E_then_ret ?_ | refine E_block_ret ?_ | refine E_block_exit ?_ | refine E_block_exit_other rfl ?_)
  have hup : ∀ b5 : Nat, upTo [(⟨some ⟨b5, 0, none⟩, 1, [1]⟩ : Sl), ⟨some ⟨b2, 0, none⟩, 32, l⟩, ⟨some ⟨b3, 0, none⟩, 32, r⟩] [(⟨some ⟨b5, 0, none⟩, 1, [1]⟩ : Sl), ⟨some ⟨b2, 0, none⟩, 32, l⟩, ⟨some ⟨b3, 0, none⟩, 32, r⟩].length = 1 :: (l ++ r) := fun _ => by simp [upTo]
  have hto : ∀ b5 : Nat, total [(⟨some ⟨b5, 0, none⟩, 1, [1]⟩ : Sl), ⟨some ⟨b2, 0, none⟩, 32, l⟩, ⟨some ⟨b3, 0, none⟩, 32, r⟩] = 65 := fun _ => by unfold total; simp [hl, hr]
  have hva : ∀ b5 : Nat, List.map Sl.val [(⟨some ⟨b5, 0, none⟩, 1, [1]⟩ : Sl), ⟨some ⟨b2, 0, none⟩, 32, l⟩, ⟨some ⟨b3, 0, none⟩, 32, r⟩] = [.slice (some ⟨b5, 0, none⟩) 1 1, .slice (some ⟨b2, 0, none⟩) 32 32, .slice (some ⟨b3, 0, none⟩) 32 32] := fun _ => by simp [Sl.val, hl, hr]
  refine S_cut [(4, .pointer (some ⟨b4, 0, none⟩))] [(b4, .cells (bytesV (nodeS l r)).toArray 23 (0, 0))] ?_ ?_
  · refine S_drawn (by kernel_rfl) .nil ?_
    refine D_take 1 rfl (by kernel_rfl) (by kernel_rfl) (by kernel_rfl) (by repeat (first | exact calm_body | exact calm_mid | apply calm_noGoto | exact calm_midE | apply calm_then | apply calm_block)) (p_sliceArr rfl arr_Sum) rfl ?_
    refine D_take 2 rfl (by kernel_rfl) (by kernel_rfl) (by kernel_rfl) (by repeat (first | exact calm_body | exact calm_mid | apply calm_noGoto | exact calm_midE | apply calm_then | apply calm_block)) (p_sliceArr rfl arr_Sum) rfl ?_
    refine D_only 0 rfl (by kernel_rfl) rfl (op_buildSliceAll (ps := [(0, .const (.int .u8 1))]) rfl slc_u8s.1 el_u8 (by decide) (by decide) (by first | kernel_rfl | rfl) rfl (Nat.le_refl _) (fun b5 => ?_))
    refine ⟨(by repeat (first | exact Fewer.nil | refine Fewer.keep rfl ?_ | refine Fewer.drop ?_ | exact Fewer.refl _ | exact Fewer.inl _ _ | (simp only [List.append_nil]; first | exact Fewer.inl _ _ | exact Fewer.refl _))), ?_⟩
    refine D_only 3 rfl (by kernel_rfl) rfl (op_buildSliceAll (ps := [(0, .tmp 5), (1, .tmp 6), (2, .tmp 7)]) rfl slc_u8ss.1 el_u8s (by decide) (by decide) (by first | kernel_rfl | rfl) rfl (Nat.le_refl _) (fun b8 => ?_))
    refine ⟨(by repeat (first | exact Fewer.nil | refine Fewer.keep rfl ?_ | refine Fewer.drop ?_ | exact Fewer.refl _ | exact Fewer.inl _ _ | (simp only [List.append_nil]; first | exact Fewer.inl _ _ | exact Fewer.refl _))), ?_⟩
    refine D_only 4 rfl (by kernel_rfl) rfl (op_callBuf (xs := 1 :: (l ++ r)) rfl rfl Try.func43 rfl (by kernel_rfl) rfl (Nat.le_refl _) (fun w' hm => by have h1 := hm.readsAll (b := b8) (n := 3) (cs := [.slice (some ⟨b5, 0, none⟩) 1 1, .slice (some ⟨b2, 0, none⟩) 32 32, .slice (some ⟨b3, 0, none⟩) 32 32]) (by repeat (first | exact List.Mem.head _ | apply List.Mem.tail)) rfl; rw [← hva b5] at h1; have h2 := hm.readsAll (b := b2) (n := l.length) (cs := bytesV l) (by repeat (first | exact List.Mem.head _ | apply List.Mem.tail)) (bytesV_length l); have h3 := hm.readsAll (b := b3) (n := r.length) (cs := bytesV r) (by repeat (first | exact List.Mem.head _ | apply List.Mem.tail)) (bytesV_length r); have h4 := hm.readsAll (b := b5) (n := 1) (cs := bytesV [1]) (by repeat (first | exact List.Mem.head _ | apply List.Mem.tail)) rfl; have h5 := concat_any (some ⟨b8, 0, none⟩) 3 [(⟨some ⟨b5, 0, none⟩, 1, [1]⟩ : Sl), ⟨some ⟨b2, 0, none⟩, 32, l⟩, ⟨some ⟨b3, 0, none⟩, 32, r⟩] w' h1 (fun s hs => by simp only [List.mem_cons, List.not_mem_nil, or_false] at hs; rcases hs with rfl | rfl | rfl; exact ⟨h4, Nat.le_refl _, (by show 1 ≤ maxLen; unfold maxLen; omega), Nat.le_of_ble_eq_true rfl⟩; exact ⟨h2, (by show l.length ≤ 32; omega), (by show 32 ≤ maxLen; unfold maxLen; omega), (by show l.length ≤ _; omega)⟩; exact ⟨h3, (by show r.length ≤ 32; omega), (by show 32 ≤ maxLen; unfold maxLen; omega), (by show r.length ≤ _; omega)⟩) (Nat.le_of_ble_eq_true rfl) (by rw [hto]; omega) (by rw [hup, htl]; omega); rw [hup] at h5; exact h5) (fun g sp hokb => ?_))
    refine ⟨(by repeat (first | exact Fewer.nil | refine Fewer.keep rfl ?_ | refine Fewer.drop ?_ | exact Fewer.refl _ | exact Fewer.inl _ _ | (simp only [List.append_nil]; first | exact Fewer.inl _ _ | exact Fewer.refl _))), ?_⟩
    refine D_only 5 rfl (by kernel_rfl) rfl (op_callV rfl rfl Try.func29 rfl (by kernel_rfl) rfl (Nat.le_refl _) (fun w' hm => of_any _ _ _ (1 :: (l ++ r)) w' rfl (hm.readsBuf (u := some (g, sp)) (e := 5) (by repeat (first | exact DelB.tail | exact DelB.no rfl | exact DelB.at_ rfl (by repeat (first | exact Del.here | apply Del.there)) | apply DelB.there)) hokb) (Buf.len_cap hokb) (Buf.cap_max hokb) (by rw [htl]; omega)) ?_)
    refine ⟨(by repeat (first | exact Fewer.nil | refine Fewer.keep rfl ?_ | refine Fewer.drop ?_ | exact Fewer.refl _ | exact Fewer.inl _ _ | (simp only [List.append_nil]; first | exact Fewer.inl _ _ | exact Fewer.refl _))), ?_⟩
    refine D_only 6 rfl (by kernel_rfl) rfl (op_storeRow rfl rfl (by first | exact bytesV_one _ | exact wordsV_one _ | (repeat (first | exact ones_nil | refine ones_cons rfl ?_))) row_Sum (by first | assumption | rfl | (simp only [bytesV_length, wordsV_length]; omega) | (rw [bytesV_length]; exact Sha.sha_length _)) (by repeat (first | exact At.here | apply At.there)) (by first | exact Nat.le_of_ble_eq_true rfl | omega | (simp only [bytesV_length, wordsV_length, List.length_cons, List.length_nil, List.length_replicate]; omega) | (simp only [bytesV_length, Sha.sha_length, List.length_replicate] <;> omega)) ?_)
    refine ⟨(by repeat (first | exact Fewer.nil | refine Fewer.keep rfl ?_ | refine Fewer.drop ?_ | exact Fewer.refl _ | exact Fewer.inl _ _ | (simp only [List.append_nil]; first | exact Fewer.inl _ _ | exact Fewer.refl _))), ?_⟩
    refine D_done (by kernel_rfl) ?_
    refine E_mid (by repeat (first | exact Sub.nil | refine Sub.cons rfl ?_)) (.drop (.drop (.drop (.keep ?_ .nil))))
    rw [lay_whole (by rw [bytesV_length, bytesV_length, sha_length]; rfl)]
    unfold nodeS
    rfl
  · repeat (first | refine S_scope ?_ | refine S_label ?_ | refine E_noGoto_normal ?_ | refine E_noGoto_ret ?_ | refine E_noGoto_exit ?_ | refine S_yes rfl (by first | with_reducible rfl | decide) ?_ | refine S_no rfl (by first | with_reducible rfl | decide) ?_ | refine S_seq ?_ | refine E_seq ?_ | refine S_block ?_ | refine E_block_normal ?_ | refine S_skip ?_ | refine S_exit ?_ | refine S_ret ?_ | refine E_then_exit ?_ | refine E_then_ret ?_ | refine E_block_ret ?_ | refine E_block_exit ?_ | refine E_block_exit_other rfl ?_)
    exact E_retRow rfl rfl (by repeat (first | exact List.Mem.head _ | apply List.Mem.tail)) row_Sum (by rw [bytesV_length, nodeS_length]) fun w' hm => ⟨rfl, hm.below⟩

theorem refLeaf_any (A : Option Addr) (n c : Nat) (v : List UInt8) (w : World) (hl : v.length = n) (hrd : Reads w A n (bytesV v)) (hn : n ≤ 1000000000) :
    Calls Try.prog 36 [.slice A n c].toArray w fun e w' => e = .returned (.agg (bytesV (leafS v)).toArray) ∧ Below w.heap.size w w' := by
  subst hl
  have h3l := sha_length (0 :: v)
  refine enter Try.func36 rfl Try.ntmps36 (by simp) ?_
  repeat (first | refine S_scope ?_ | refine S_label ?_ | refine E_noGoto_normal ?_ | refine E_noGoto_ret ?_ | refine E_noGoto_exit ?_ | refine S_yes rfl (by first | with_reducible rfl | decide) ?_ | refine S_no rfl (by first | with_reducible rfl | decide) ?_ | refine S_seq ?_ | refine E_seq ?_ | refine S_block ?_ | refine E_block_normal ?_ | refine S_skip ?_ | refine S_exit ?_ | refine S_ret ?_ | refine E_then_exit ?_ | refine E_then_ret ?_ | refine E_block_ret ?_ | refine E_block_exit ?_ | refine E_block_exit_other rfl ?_)
  refine S_region ?_
  refine R_cons rfl (op_allocRow zero_Sum rfl (Nat.le_refl _) (fun b2 => ?_))
  refine R_nil ?_
  repeat (first | refine S_scope ?_ | refine S_label ?_ | refine E_noGoto_normal ?_ | refine E_noGoto_ret ?_ | refine E_noGoto_exit ?_ | refine S_yes rfl (by first | with_reducible rfl | decide) ?_ | refine S_no rfl (by first | with_reducible rfl | decide) ?_ | refine S_seq ?_ | refine E_seq ?_ | refine S_block ?_ | refine E_block_normal ?_ | refine S_skip ?_ | refine S_exit ?_ | refine S_ret ?_ | refine E_then_exit ?_ | refine E_then_ret ?_ | refine E_block_ret ?_ | refine E_block_exit ?_ | refine E_block_exit_other rfl ?_)
  refine S_region ?_
  refine R_cons rfl (op_buildSliceAll (ps := [(0, .const (.int .u8 0))]) rfl slc_u8s.1 el_u8 (by decide) (by decide) (by first | kernel_rfl | rfl) rfl (Nat.le_refl _) (fun b3 => ?_))
  refine R_cons rfl (op_pure (p_move rfl) rfl ?_)
  refine R_cons rfl (op_appendBuf (u := some (b3, [])) (xs := [0]) (ys := v) (by unfold Buf.val Buf.addr Buf.cap; rfl) rfl slc_u8s.1 el_u8 (by repeat (first | exact DelB.tail | exact DelB.no rfl | exact DelB.at_ rfl (by repeat (first | exact Del.here | apply Del.there)) | apply DelB.there)) (by show _ ≤ maxLen; exact Nat.le_of_ble_eq_true rfl) (fun w hm => hrd.base hm) (by simp; omega) rfl (Nat.le_refl _) (fun u hok hne => ?_))
  refine R_cons rfl (op_callV rfl rfl Try.func45 rfl (by kernel_rfl) rfl (Nat.le_refl _) (fun w' hm => refOf_any _ _ _ (0 :: v) w' rfl (hm.readsBuf (u := u) (e := 5) (by repeat (first | exact DelB.tail | exact DelB.no rfl | exact DelB.at_ rfl (by repeat (first | exact Del.here | apply Del.there)) | apply DelB.there)) hok) (by simp; omega)) ?_)
  refine R_cons rfl (op_storeRow rfl rfl (by first | exact bytesV_one _ | exact wordsV_one _ | (repeat (first | exact ones_nil | refine ones_cons rfl ?_))) row_Sum (by first | assumption | rfl | (simp only [bytesV_length, wordsV_length]; omega) | (rw [bytesV_length]; exact Sha.sha_length _)) (by repeat (first | exact At.here | apply At.there)) (by first | exact Nat.le_of_ble_eq_true rfl | omega | (simp only [bytesV_length, wordsV_length, List.length_cons, List.length_nil, List.length_replicate]; omega) | (simp only [bytesV_length, Sha.sha_length, List.length_replicate] <;> omega)) ?_)
  refine R_nil ?_
  repeat (first | refine S_scope ?_ | refine S_label ?_ | refine E_noGoto_normal ?_ | refine E_noGoto_ret ?_ | refine E_noGoto_exit ?_ | refine S_yes rfl (by first | with_reducible rfl | decide) ?_ | refine S_no rfl (by first | with_reducible rfl | decide) ?_ | refine S_seq ?_ | refine E_seq ?_ | refine S_block ?_ | refine E_block_normal ?_ | refine S_skip ?_ | refine S_exit ?_ | refine S_ret ?_ | refine E_then_exit ?_ | refine E_then_ret ?_ | refine E_block_ret ?_ | refine E_block_exit ?_ | refine E_block_exit_other rfl ?_)
  refine E_fewer (Sub.refl _) (H' := [(b2, .cells (bytesV (leafS v)).toArray 23 (0, 0))]) ?_ (E_retRow rfl rfl (by repeat (first | exact List.Mem.head _ | apply List.Mem.tail)) row_Sum (by rw [bytesV_length, leafS_length]) fun w' hm => ⟨rfl, hm.below⟩)
  exact .keep (by rw [lay_whole (by rw [bytesV_length, bytesV_length, h3l]; rfl)]; unfold leafS; rfl) (by repeat (first | exact .nil | refine .drop ?_))

set_option maxHeartbeats 1000000 in
theorem refNode_any (l r : List UInt8) (hl : l.length = 32) (hr : r.length = 32) (w : World) :
    Calls Try.prog 38 [.agg (bytesV l).toArray, .agg (bytesV r).toArray].toArray w fun e w' => e = .returned (.agg (bytesV (nodeS l r)).toArray) ∧ Below w.heap.size w w' := by
  have hbl : (bytesV l).length = 32 := by rw [bytesV_length, hl]
  have hbr : (bytesV r).length = 32 := by rw [bytesV_length, hr]
  have h1l : ([1] ++ l).length = 33 := by simp [hl]
  have h2l : ([1] ++ l ++ r).length = 65 := by simp [hl, hr]
  refine enter Try.func38 rfl Try.ntmps38 (by simp) ?_
  repeat (first | refine S_scope ?_ | refine S_label ?_ | refine E_noGoto_normal ?_ | refine E_noGoto_ret ?_ | refine E_noGoto_exit ?_ | refine S_yes rfl (by first | with_reducible rfl | decide) ?_ | refine S_no rfl (by first | with_reducible rfl | decide) ?_ | refine S_seq ?_ | refine E_seq ?_ | refine S_block ?_ | refine E_block_normal ?_ | refine S_skip ?_ | refine S_exit ?_ | refine S_ret ?_ | refine E_then_exit ?_ | refine E_then_ret ?_ | refine E_block_ret ?_ | refine E_block_exit ?_ | refine E_block_exit_other rfl ?_)
  refine S_region ?_
  refine R_cons rfl (op_boxRow rfl rfl (Nat.le_refl _) (fun b2 => ?_))
  refine R_cons rfl (op_boxRow rfl rfl (Nat.le_refl _) (fun b3 => ?_))
  refine R_cons rfl (op_allocRow zero_Sum rfl (Nat.le_refl _) (fun b4 => ?_))
  refine R_nil ?_
  repeat (first | refine S_scope ?_ | refine S_label ?_ | refine E_noGoto_normal ?_ | refine E_noGoto_ret ?_ | refine E_noGoto_exit ?_ | refine S_yes rfl (by first | with_reducible rfl | decide) ?_ | refine S_no rfl (by first | with_reducible rfl | decide) ?_ | refine S_seq ?_ | refine E_seq ?_ | refine S_block ?_ | refine E_block_normal ?_ | refine S_skip ?_ | refine S_exit ?_ | refine S_ret ?_ | refine E_then_exit ?_ | refine E_then_ret ?_ | refine E_block_ret ?_ | refine E_block_exit ?_ | refine E_block_exit_other rfl ?_)
  refine S_cut [(4, .pointer (some ⟨b4, 0, none⟩))] [(b4, .cells (bytesV (nodeS l r)).toArray 23 (0, 0))] ?_ ?_
  · refine S_drawn (by kernel_rfl) .nil ?_
    refine D_take 1 rfl (by kernel_rfl) (by kernel_rfl) (by kernel_rfl) (by repeat (first | exact calm_body | exact calm_mid | apply calm_noGoto | exact calm_midE | apply calm_then | apply calm_block)) (p_sliceArr rfl arr_Sum) rfl ?_
    refine D_take 3 rfl (by kernel_rfl) (by kernel_rfl) (by kernel_rfl) (by repeat (first | exact calm_body | exact calm_mid | apply calm_noGoto | exact calm_midE | apply calm_then | apply calm_block)) (p_sliceArr rfl arr_Sum) rfl ?_
    refine D_only 0 rfl (by kernel_rfl) rfl (op_buildSliceAll (ps := [(0, .const (.int .u8 1))]) rfl slc_u8s.1 el_u8 (by decide) (by decide) (by first | kernel_rfl | rfl) rfl (Nat.le_refl _) (fun b5 => ?_))
    refine ⟨(by repeat (first | exact Fewer.nil | refine Fewer.keep rfl ?_ | refine Fewer.drop ?_ | exact Fewer.refl _ | exact Fewer.inl _ _ | (simp only [List.append_nil]; first | exact Fewer.inl _ _ | exact Fewer.refl _))), ?_⟩
    refine D_only 2 rfl (by kernel_rfl) rfl (op_appendBuf (u := some (b5, [])) (xs := [1]) (ys := l) (by unfold Buf.val Buf.addr Buf.cap; rfl) rfl slc_u8s.1 el_u8 (by repeat (first | exact DelB.tail | exact DelB.no rfl | exact DelB.at_ rfl (by repeat (first | exact Del.here | apply Del.there)) | apply DelB.there)) (by show _ ≤ maxLen; exact Nat.le_of_ble_eq_true rfl) (fun w hm => hm.readsAll (b := b2) (by repeat (first | exact List.Mem.head _ | apply List.Mem.tail)) hbl) (by rw [hl]; simp) rfl (Nat.le_refl _) (fun u hok hne => ?_))
    refine ⟨(by repeat (first | exact Fewer.nil | refine Fewer.keep rfl ?_ | refine Fewer.drop ?_ | exact Fewer.refl _ | exact Fewer.inl _ _ | (simp only [List.append_nil]; first | exact Fewer.inl _ _ | exact Fewer.refl _))), ?_⟩
    refine D_only 4 rfl (by kernel_rfl) rfl (op_appendBuf (u := u) (xs := [1] ++ l) (ys := r) rfl rfl slc_u8s.1 el_u8 (by repeat (first | exact DelB.tail | exact DelB.no rfl | exact DelB.at_ rfl (by repeat (first | exact Del.here | apply Del.there)) | apply DelB.there)) hok (fun w hm => hm.readsAll (b := b3) (by repeat (first | exact List.Mem.head _ | apply List.Mem.tail)) hbr) (by rw [h1l, hr]; simp) rfl (Nat.le_refl _) (fun v hokv hnev => ?_))
    refine ⟨(by repeat (first | exact Fewer.nil | refine Fewer.keep rfl ?_ | refine Fewer.drop ?_ | exact Fewer.refl _ | exact Fewer.inl _ _ | (simp only [List.append_nil]; first | exact Fewer.inl _ _ | exact Fewer.refl _))), ?_⟩
    refine D_only 5 rfl (by kernel_rfl) rfl (op_callV rfl rfl Try.func45 rfl (by kernel_rfl) rfl (Nat.le_refl _) (fun w' hm => refOf_any _ _ _ ([1] ++ l ++ r) w' rfl (hm.readsBuf (u := v) (e := 5) (by repeat (first | exact DelB.tail | exact DelB.no rfl | exact DelB.at_ rfl (by repeat (first | exact Del.here | apply Del.there)) | apply DelB.there)) hokv) (by rw [h2l]; omega)) ?_)
    refine ⟨(by repeat (first | exact Fewer.nil | refine Fewer.keep rfl ?_ | refine Fewer.drop ?_ | exact Fewer.refl _ | exact Fewer.inl _ _ | (simp only [List.append_nil]; first | exact Fewer.inl _ _ | exact Fewer.refl _))), ?_⟩
    refine D_only 6 rfl (by kernel_rfl) rfl (op_storeRow rfl rfl (by first | exact bytesV_one _ | exact wordsV_one _ | (repeat (first | exact ones_nil | refine ones_cons rfl ?_))) row_Sum (by first | assumption | rfl | (simp only [bytesV_length, wordsV_length]; omega) | (rw [bytesV_length]; exact Sha.sha_length _)) (by repeat (first | exact At.here | apply At.there)) (by first | exact Nat.le_of_ble_eq_true rfl | omega | (simp only [bytesV_length, wordsV_length, List.length_cons, List.length_nil, List.length_replicate]; omega) | (simp only [bytesV_length, Sha.sha_length, List.length_replicate] <;> omega)) ?_)
    refine ⟨(by repeat (first | exact Fewer.nil | refine Fewer.keep rfl ?_ | refine Fewer.drop ?_ | exact Fewer.refl _ | exact Fewer.inl _ _ | (simp only [List.append_nil]; first | exact Fewer.inl _ _ | exact Fewer.refl _))), ?_⟩
    refine D_done (by kernel_rfl) ?_
    refine E_mid (by repeat (first | exact Sub.nil | refine Sub.cons rfl ?_)) ?_
    rw [lay_whole (by rw [bytesV_length, bytesV_length, sha_length]; rfl)]
    unfold nodeS
    exact .keep rfl (by repeat (first | exact .nil | refine .drop ?_))
  · repeat (first | refine S_scope ?_ | refine S_label ?_ | refine E_noGoto_normal ?_ | refine E_noGoto_ret ?_ | refine E_noGoto_exit ?_ | refine S_yes rfl (by first | with_reducible rfl | decide) ?_ | refine S_no rfl (by first | with_reducible rfl | decide) ?_ | refine S_seq ?_ | refine E_seq ?_ | refine S_block ?_ | refine E_block_normal ?_ | refine S_skip ?_ | refine S_exit ?_ | refine S_ret ?_ | refine E_then_exit ?_ | refine E_then_ret ?_ | refine E_block_ret ?_ | refine E_block_exit ?_ | refine E_block_exit_other rfl ?_)
    exact E_retRow rfl rfl (by repeat (first | exact List.Mem.head _ | apply List.Mem.tail)) row_Sum (by rw [bytesV_length, nodeS_length]) fun w' hm => ⟨rfl, hm.below⟩
end Go.Proofs.Ythkogneaimjhjaa
