/-
  The layer seeds: a secret, of the code and of the chapter's document; the chapter's secrets that each statement asks.
-/
import Derived.Test.YthkogneaimjhjaaSeeds1
namespace Go.Proofs.Ythkogneaimjhjaa
open Go.Sha
open Go.RowKit Go.K
attribute [local irreducible] Exit.then Exit.inBlock Exit.noGoto bodyPost Code.wp QL Sx Rx Qx Ex Dx Op1 Pure1 Still1 K.Sub Calm Code.wpIn
attribute [local irreducible] sha hmac madeK byK total upTo Buf.hp Buf.cap Buf.addr digitsB seedMsg
set_option linter.unusedVariables false

theorem once_up (B1 B2 B3 : Option Addr) (c2 idx : Nat) (bit side : Int) : upTo [(⟨B1, 4, [111, 110, 99, 101]⟩ : Sl), ⟨B2, c2, digitsB idx 4⟩, ⟨B3, 2, [byteZ bit, byteZ side]⟩] 3 = seedMsg idx bit side := by
  unfold upTo seedMsg; simp
theorem once_total (B1 B2 B3 : Option Addr) (c2 idx : Nat) (bit side : Int) : total [(⟨B1, 4, [111, 110, 99, 101]⟩ : Sl), ⟨B2, c2, digitsB idx 4⟩, ⟨B3, 2, [byteZ bit, byteZ side]⟩] = 10 := by
  unfold total; simp [digitsB_length]
theorem mac_once (A A2 B1 B2 B3 : Option Addr) (c2 idx : Nat) (bit side : Int) (seed : List UInt8) (hs : seed.length = 32) (w : World) (hrd : Reads w A 32 (bytesV seed)) (hrd2 : Reads w A2 3 [.slice B1 4 4, .slice B2 (digitsB idx 4).length c2, .slice B3 2 2]) (h1 : Reads w B1 4 (bytesV [111, 110, 99, 101]))
    (h2 : Reads w B2 (digitsB idx 4).length (bytesV (digitsB idx 4))) (hc : (digitsB idx 4).length ≤ c2) (hm : c2 ≤ maxLen) (h3 : Reads w B3 2 (bytesV [byteZ bit, byteZ side])) :
    Calls Try.prog 33 [.slice A 32 32, .slice A2 3 3].toArray w fun e w' => e = .returned (.agg (bytesV (hmac seed (seedMsg idx bit side))).toArray) ∧ Below w.heap.size w w' := by
  have h := macOf_any A 32 32 seed w hs hrd (Nat.le_refl _) (by unfold maxLen; omega) (by omega) A2 3 [(⟨B1, 4, [111, 110, 99, 101]⟩ : Sl), ⟨B2, c2, digitsB idx 4⟩, ⟨B3, 2, [byteZ bit, byteZ side]⟩] hrd2 (fun s hs => by
    simp only [List.mem_cons, List.not_mem_nil, or_false] at hs
    have hd := digitsB_length idx 4
    rcases hs with rfl | rfl | rfl
    · exact ⟨h1, Nat.le_refl _, (by show 4 ≤ maxLen; unfold maxLen; omega), Nat.le_of_ble_eq_true rfl⟩
    · exact ⟨h2, hc, hm, (by show (digitsB idx 4).length ≤ _; omega)⟩
    · exact ⟨h3, Nat.le_refl _, (by show 2 ≤ maxLen; unfold maxLen; omega), Nat.le_of_ble_eq_true rfl⟩) (Nat.le_of_ble_eq_true rfl) (by rw [once_total]; omega)
  rw [show List.length _ = 3 from rfl, once_up] at h
  exact h

set_option maxHeartbeats 4000000 in
theorem seedOf_any (seed : List UInt8) (hs : seed.length = 32) (idx : UInt32) (bit side : Int) (w : World) :
    Calls Try.prog 30 [.agg (bytesV seed).toArray, .int .u32 (idx.toNat : Int), .int .i64 bit, .int .i64 side].toArray w fun e w' => e = .returned (.tuple [.agg (bytesV (secretS seed idx.toNat bit side)).toArray, .int .i64 (secretE bit side)].toArray) ∧ Below w.heap.size w w' := by
  have hbs : (bytesV seed).length = 32 := by rw [bytesV_length, hs]
  have hsl := secretS_length seed idx.toNat bit side
  have hml := hmac_length seed (seedMsg idx.toNat bit side)
  refine enter Try.func30 rfl Try.ntmps30 (by simp) ?_
  by_cases hok : okP bit side
  · have hd : decide ((0 ≤ bit ∧ bit ≤ 63) ∧ 0 ≤ side ∧ side ≤ 1) = true := decide_eq_true hok
    have hS : secretS seed idx.toNat bit side = hmac seed (seedMsg idx.toNat bit side) := by unfold secretS; rw [if_pos hok]
    have hE : secretE bit side = 0 := by unfold secretE; rw [if_pos hok]
    have hi : idx.toNat ≤ 18446744073709551615 := by have := idx.toNat_lt; omega
    have hb1 := wrap_byteZ bit
    have hb2 := wrap_byteZ side
    have hh := And.intro hi (And.intro hb1 (And.intro hb2 hd))
    clear hi hb1 hb2 hd hok
    repeat (first | refine S_scope ?_ | refine S_label ?_ | refine E_noGoto_normal ?_ | refine E_noGoto_ret ?_ | refine E_noGoto_exit ?_ | refine S_yes rfl (by first | with_reducible rfl | decide) ?_ | refine S_no rfl (by first | with_reducible rfl | decide) ?_ | refine S_seq ?_ | refine E_seq ?_ | refine S_block ?_ | refine E_block_normal ?_ | refine S_skip ?_ | refine S_exit ?_ | refine S_ret ?_ | refine E_then_exit ?_ | refine E_then_ret ?_ | refine E_block_ret ?_ | refine E_block_exit ?_ | refine E_block_exit_other rfl ?_)
    refine S_region ?_
    refine R_cons rfl (op_boxRow rfl rfl (Nat.le_refl _) (fun b4 => ?_))
    refine R_cons rfl (op_allocRow zero_Sum rfl (Nat.le_refl _) (fun b8 => ?_))
    refine R_cons rfl (op_pure (p_assign rfl) rfl ?_)
    refine R_nil ?_
    repeat (first | refine S_scope ?_ | refine S_label ?_ | refine E_noGoto_normal ?_ | refine E_noGoto_ret ?_ | refine E_noGoto_exit ?_ | refine S_yes rfl (by first | with_reducible rfl | decide) ?_ | refine S_no rfl (by first | with_reducible rfl | decide) ?_ | refine S_seq ?_ | refine E_seq ?_ | refine S_block ?_ | refine E_block_normal ?_ | refine S_skip ?_ | refine S_exit ?_ | refine S_ret ?_ | refine E_then_exit ?_ | refine E_then_ret ?_ | refine E_block_ret ?_ | refine E_block_exit ?_ | refine E_block_exit_other rfl ?_)
    refine S_region ?_
    refine R_cons rfl (op_pure (p_move rfl) rfl ?_)
    refine R_cons rfl (op_pure (p_buildAll (ps := [(0, .tmp 10), (1, .const (.int .i64 63))]) rfl (by kernel_rfl)) rfl ?_)
    refine R_cons rfl (op_pure (p_move rfl) rfl ?_)
    refine R_cons rfl (op_pure (p_buildAll (ps := [(0, .tmp 12), (1, .const (.int .i64 1))]) rfl (by kernel_rfl)) rfl ?_)
    refine R_cons rfl (op_buildSliceR (ps := [(0, .tmp 11), (1, .tmp 13)]) (l := [pairV (bit, 63), pairV (side, 1)]) rfl rfl slr_i2s.1 elr_i2 (by intro x hx; simp only [List.mem_cons, List.not_mem_nil, or_false] at hx; rcases hx with rfl | rfl <;> rfl) rfl (by decide) (by decide) rfl (Nat.le_refl _) (fun b14 => ?_))
    refine R_cons rfl (op_callV rfl rfl Try.func51 rfl (by kernel_rfl) rfl (Nat.le_refl _) (fun w' hm => by have h := within_any b14 (bit, 63) (side, 1) w' (hm.readsAll (b := b14) (by repeat (first | exact List.Mem.head _ | apply List.Mem.tail)) rfl); rw [hh.2.2.2] at h; exact h) ?_)
    refine R_cons rfl (op_pure (p_not rfl) rfl ?_)
    refine R_nil ?_
    repeat (first | refine S_scope ?_ | refine S_label ?_ | refine E_noGoto_normal ?_ | refine E_noGoto_ret ?_ | refine E_noGoto_exit ?_ | refine S_yes rfl (by first | with_reducible rfl | decide) ?_ | refine S_no rfl (by first | with_reducible rfl | decide) ?_ | refine S_seq ?_ | refine E_seq ?_ | refine S_block ?_ | refine E_block_normal ?_ | refine S_skip ?_ | refine S_exit ?_ | refine S_ret ?_ | refine E_then_exit ?_ | refine E_then_ret ?_ | refine E_block_ret ?_ | refine E_block_exit ?_ | refine E_block_exit_other rfl ?_)
    refine S_cut [(9, .int .i64 0), (8, .pointer (some ⟨b8, 0, none⟩))] [(b8, .cells (bytesV (hmac seed (seedMsg idx.toNat bit side))).toArray 23 (0, 0))] ?_ ?_
    · refine S_drawn (by kernel_rfl) (Fewer.drop (Fewer.drop (Fewer.refl _))) ?_
      refine D_take 0 rfl (by kernel_rfl) (by kernel_rfl) (by kernel_rfl) (by repeat (first | exact calm_body | exact calm_mid | apply calm_noGoto | exact calm_midE | apply calm_then | apply calm_block)) (p_sliceArr rfl arr_Sum) rfl ?_
      refine D_take 3 rfl (by kernel_rfl) (by kernel_rfl) (by kernel_rfl) (by repeat (first | exact calm_body | exact calm_mid | apply calm_noGoto | exact calm_midE | apply calm_then | apply calm_block)) (p_move rfl) rfl ?_
      refine D_take 4 rfl (by kernel_rfl) (by kernel_rfl) (by kernel_rfl) (by repeat (first | exact calm_body | exact calm_mid | apply calm_noGoto | exact calm_midE | apply calm_then | apply calm_block)) (by exact p_convert rfl sc_u32 ik_u64 (by first | assumption | exact u8_nat _ | exact w8_i64 _ | exact w8_u64 _ | exact w8_u32n _ | exact w32_u64 _ | exact w32_i64 _ | exact w_in_i64 (by omega) | exact w_in_u64 (by omega) | exact w_in_u32 (by omega))) rfl ?_
      refine D_take 6 rfl (by kernel_rfl) (by kernel_rfl) (by kernel_rfl) (by repeat (first | exact calm_body | exact calm_mid | apply calm_noGoto | exact calm_midE | apply calm_then | apply calm_block)) (p_move rfl) rfl ?_
      refine D_take 7 rfl (by kernel_rfl) (by kernel_rfl) (by kernel_rfl) (by repeat (first | exact calm_body | exact calm_mid | apply calm_noGoto | exact calm_midE | apply calm_then | apply calm_block)) (p_convert rfl sc_int ik_u8 hh.2.1) rfl ?_
      refine D_take 8 rfl (by kernel_rfl) (by kernel_rfl) (by kernel_rfl) (by repeat (first | exact calm_body | exact calm_mid | apply calm_noGoto | exact calm_midE | apply calm_then | apply calm_block)) (p_move rfl) rfl ?_
      refine D_take 9 rfl (by kernel_rfl) (by kernel_rfl) (by kernel_rfl) (by repeat (first | exact calm_body | exact calm_mid | apply calm_noGoto | exact calm_midE | apply calm_then | apply calm_block)) (p_convert rfl sc_int ik_u8 hh.2.2.1) rfl ?_
      refine D_three 1 5 10 (by kernel_rfl) ?_ ?_ ?_
      · refine step_plain 1 rfl rfl (op_buildSliceAll (ps := [(0, .const (.int .u8 111)), (1, .const (.int .u8 110)), (2, .const (.int .u8 99)), (3, .const (.int .u8 101))]) rfl slc_u8s.1 el_u8 (by decide) (by decide) (by first | kernel_rfl | rfl) rfl (Nat.le_refl _) (fun b19 => ?_))
        refine ⟨(by repeat (first | exact Fewer.nil | refine Fewer.keep rfl ?_ | refine Fewer.drop ?_ | exact Fewer.refl _ | exact Fewer.inl _ _ | (simp only [List.append_nil]; first | exact Fewer.inl _ _ | exact Fewer.refl _))), ?_⟩
        refine D_three 2 5 10 (by kernel_rfl) ?_ ?_ ?_
        · refine step_plain 2 rfl rfl (op_convBytes rfl slc_u8s.1 Try.underlying5 (by repeat (first | exact At.here | apply At.there)) rfl ?_)
          refine ⟨(by repeat (first | exact Fewer.nil | refine Fewer.keep rfl ?_ | refine Fewer.drop ?_ | exact Fewer.refl _ | exact Fewer.inl _ _ | (simp only [List.append_nil]; first | exact Fewer.inl _ _ | exact Fewer.refl _))), ?_⟩
          refine D_two 5 10 (by kernel_rfl) ?_ ?_
          · refine step_plain 5 rfl rfl (op_callBuf (xs := digitsB idx.toNat 4) rfl rfl Try.func28 rfl (by kernel_rfl) rfl (Nat.le_refl _) (fun w' hm => by have h := putBuf none 0 0 [] idx.toNat 4 w' rfl (Reads.nil _) (by omega) hh.1 (by omega) (by omega); rw [List.nil_append] at h; exact h) (fun g sp hok5 => ?_))
            refine ⟨(by repeat (first | exact Fewer.nil | refine Fewer.keep rfl ?_ | refine Fewer.drop ?_ | exact Fewer.refl _ | exact Fewer.inl _ _ | (simp only [List.append_nil]; first | exact Fewer.inl _ _ | exact Fewer.refl _))), ?_⟩
            refine D_only 10 rfl (by kernel_rfl) rfl (op_buildSliceAll (ps := [(0, .tmp 25), (1, .tmp 27)]) rfl slc_u8s.1 el_u8 (by decide) (by decide) (by first | kernel_rfl | rfl) rfl (Nat.le_refl _) (fun b28 => ?_))
            refine ⟨(by repeat (first | exact Fewer.nil | refine Fewer.keep rfl ?_ | refine Fewer.drop ?_ | exact Fewer.refl _ | exact Fewer.inl _ _ | (simp only [List.append_nil]; first | exact Fewer.inl _ _ | exact Fewer.refl _))), ?_⟩
            refine D_only 11 rfl (by kernel_rfl) rfl (op_buildSliceAll (ps := [(0, .tmp 20), (1, .tmp 23), (2, .tmp 28)]) rfl slc_u8ss.1 el_u8s (by decide) (by decide) (by first | kernel_rfl | rfl) rfl (Nat.le_refl _) (fun b29 => ?_))
            refine ⟨(by repeat (first | exact Fewer.nil | refine Fewer.keep rfl ?_ | refine Fewer.drop ?_ | exact Fewer.refl _ | exact Fewer.inl _ _ | (simp only [List.append_nil]; first | exact Fewer.inl _ _ | exact Fewer.refl _))), ?_⟩
            refine D_only 12 rfl (by kernel_rfl) rfl (op_callV rfl rfl Try.func33 rfl (by kernel_rfl) rfl (Nat.le_refl _) (fun w' hm => mac_once (some ⟨b4, 0, none⟩) (some ⟨b29, 0, none⟩) (some ⟨b19, 0, none⟩) (Buf.addr (some (g, sp))) (some ⟨b28, 0, none⟩) (Buf.cap (some (g, sp)) (digitsB idx.toNat 4)) idx.toNat bit side seed hs w' (hm.readsAll (b := b4) (by repeat (first | exact List.Mem.head _ | apply List.Mem.tail)) hbs) (hm.readsAll (b := b29) (by repeat (first | exact List.Mem.head _ | apply List.Mem.tail)) rfl) (hm.readsAll (b := b19) (by repeat (first | exact List.Mem.head _ | apply List.Mem.tail)) rfl) (hm.readsBuf (u := some (g, sp)) (e := 5) (by repeat (first | exact DelB.tail | exact DelB.no rfl | exact DelB.at_ rfl (by repeat (first | exact Del.here | apply Del.there)) | apply DelB.there)) hok5) (Buf.len_cap hok5) (Buf.cap_max hok5) (hm.readsAll (b := b28) (by repeat (first | exact List.Mem.head _ | apply List.Mem.tail)) rfl)) ?_)
            refine ⟨(by repeat (first | exact Fewer.nil | refine Fewer.keep rfl ?_ | refine Fewer.drop ?_ | exact Fewer.refl _ | exact Fewer.inl _ _ | (simp only [List.append_nil]; first | exact Fewer.inl _ _ | exact Fewer.refl _))), ?_⟩
            refine D_only 13 rfl (by kernel_rfl) rfl (op_storeRow rfl rfl (by first | exact bytesV_one _ | exact wordsV_one _ | (repeat (first | exact ones_nil | refine ones_cons rfl ?_))) row_Sum (by first | assumption | rfl | (simp only [bytesV_length, wordsV_length]; omega) | (rw [bytesV_length]; exact Sha.sha_length _)) (by repeat (first | exact At.here | apply At.there)) (by first | exact Nat.le_of_ble_eq_true rfl | omega | (simp only [bytesV_length, wordsV_length, List.length_cons, List.length_nil, List.length_replicate]; omega) | (simp only [bytesV_length, Sha.sha_length, List.length_replicate] <;> omega)) ?_)
            refine ⟨(by repeat (first | exact Fewer.nil | refine Fewer.keep rfl ?_ | refine Fewer.drop ?_ | exact Fewer.refl _ | exact Fewer.inl _ _ | (simp only [List.append_nil]; first | exact Fewer.inl _ _ | exact Fewer.refl _))), ?_⟩
            refine D_take 14 rfl (by kernel_rfl) (by kernel_rfl) (by kernel_rfl) (by repeat (first | exact calm_body | exact calm_mid | apply calm_noGoto | exact calm_midE | apply calm_then | apply calm_block)) (p_assign rfl) rfl ?_
            refine D_done (by kernel_rfl) ?_
            refine E_mid (by repeat (first | exact Sub.nil | refine Sub.cons rfl ?_)) ?_
            rw [lay_whole (by rw [bytesV_length, bytesV_length, hml]; rfl)]
            repeat (first | exact .keep rfl .nil | refine .drop ?_)
          · refine step_plain 10 rfl rfl (op_buildSliceAll (ps := [(0, .tmp 25), (1, .tmp 27)]) rfl slc_u8s.1 el_u8 (by decide) (by decide) (by first | kernel_rfl | rfl) rfl (Nat.le_refl _) (fun b28 => ?_))
            refine ⟨(by repeat (first | exact Fewer.nil | refine Fewer.keep rfl ?_ | refine Fewer.drop ?_ | exact Fewer.refl _ | exact Fewer.inl _ _ | (simp only [List.append_nil]; first | exact Fewer.inl _ _ | exact Fewer.refl _))), ?_⟩
            refine D_only 5 rfl (by kernel_rfl) rfl (op_callBuf (xs := digitsB idx.toNat 4) rfl rfl Try.func28 rfl (by kernel_rfl) rfl (Nat.le_refl _) (fun w' hm => by have h := putBuf none 0 0 [] idx.toNat 4 w' rfl (Reads.nil _) (by omega) hh.1 (by omega) (by omega); rw [List.nil_append] at h; exact h) (fun g sp hok5 => ?_))
            refine ⟨(by repeat (first | exact Fewer.nil | refine Fewer.keep rfl ?_ | refine Fewer.drop ?_ | exact Fewer.refl _ | exact Fewer.inl _ _ | (simp only [List.append_nil]; first | exact Fewer.inl _ _ | exact Fewer.refl _))), ?_⟩
            refine D_only 11 rfl (by kernel_rfl) rfl (op_buildSliceAll (ps := [(0, .tmp 20), (1, .tmp 23), (2, .tmp 28)]) rfl slc_u8ss.1 el_u8s (by decide) (by decide) (by first | kernel_rfl | rfl) rfl (Nat.le_refl _) (fun b29 => ?_))
            refine ⟨(by repeat (first | exact Fewer.nil | refine Fewer.keep rfl ?_ | refine Fewer.drop ?_ | exact Fewer.refl _ | exact Fewer.inl _ _ | (simp only [List.append_nil]; first | exact Fewer.inl _ _ | exact Fewer.refl _))), ?_⟩
            refine D_only 12 rfl (by kernel_rfl) rfl (op_callV rfl rfl Try.func33 rfl (by kernel_rfl) rfl (Nat.le_refl _) (fun w' hm => mac_once (some ⟨b4, 0, none⟩) (some ⟨b29, 0, none⟩) (some ⟨b19, 0, none⟩) (Buf.addr (some (g, sp))) (some ⟨b28, 0, none⟩) (Buf.cap (some (g, sp)) (digitsB idx.toNat 4)) idx.toNat bit side seed hs w' (hm.readsAll (b := b4) (by repeat (first | exact List.Mem.head _ | apply List.Mem.tail)) hbs) (hm.readsAll (b := b29) (by repeat (first | exact List.Mem.head _ | apply List.Mem.tail)) rfl) (hm.readsAll (b := b19) (by repeat (first | exact List.Mem.head _ | apply List.Mem.tail)) rfl) (hm.readsBuf (u := some (g, sp)) (e := 5) (by repeat (first | exact DelB.tail | exact DelB.no rfl | exact DelB.at_ rfl (by repeat (first | exact Del.here | apply Del.there)) | apply DelB.there)) hok5) (Buf.len_cap hok5) (Buf.cap_max hok5) (hm.readsAll (b := b28) (by repeat (first | exact List.Mem.head _ | apply List.Mem.tail)) rfl)) ?_)
            refine ⟨(by repeat (first | exact Fewer.nil | refine Fewer.keep rfl ?_ | refine Fewer.drop ?_ | exact Fewer.refl _ | exact Fewer.inl _ _ | (simp only [List.append_nil]; first | exact Fewer.inl _ _ | exact Fewer.refl _))), ?_⟩
            refine D_only 13 rfl (by kernel_rfl) rfl (op_storeRow rfl rfl (by first | exact bytesV_one _ | exact wordsV_one _ | (repeat (first | exact ones_nil | refine ones_cons rfl ?_))) row_Sum (by first | assumption | rfl | (simp only [bytesV_length, wordsV_length]; omega) | (rw [bytesV_length]; exact Sha.sha_length _)) (by repeat (first | exact At.here | apply At.there)) (by first | exact Nat.le_of_ble_eq_true rfl | omega | (simp only [bytesV_length, wordsV_length, List.length_cons, List.length_nil, List.length_replicate]; omega) | (simp only [bytesV_length, Sha.sha_length, List.length_replicate] <;> omega)) ?_)
            refine ⟨(by repeat (first | exact Fewer.nil | refine Fewer.keep rfl ?_ | refine Fewer.drop ?_ | exact Fewer.refl _ | exact Fewer.inl _ _ | (simp only [List.append_nil]; first | exact Fewer.inl _ _ | exact Fewer.refl _))), ?_⟩
            refine D_take 14 rfl (by kernel_rfl) (by kernel_rfl) (by kernel_rfl) (by repeat (first | exact calm_body | exact calm_mid | apply calm_noGoto | exact calm_midE | apply calm_then | apply calm_block)) (p_assign rfl) rfl ?_
            refine D_done (by kernel_rfl) ?_
            refine E_mid (by repeat (first | exact Sub.nil | refine Sub.cons rfl ?_)) ?_
            rw [lay_whole (by rw [bytesV_length, bytesV_length, hml]; rfl)]
            repeat (first | exact .keep rfl .nil | refine .drop ?_)
        · refine step_plain 5 rfl rfl (op_callBuf (xs := digitsB idx.toNat 4) rfl rfl Try.func28 rfl (by kernel_rfl) rfl (Nat.le_refl _) (fun w' hm => by have h := putBuf none 0 0 [] idx.toNat 4 w' rfl (Reads.nil _) (by omega) hh.1 (by omega) (by omega); rw [List.nil_append] at h; exact h) (fun g sp hok5 => ?_))
          refine ⟨(by repeat (first | exact Fewer.nil | refine Fewer.keep rfl ?_ | refine Fewer.drop ?_ | exact Fewer.refl _ | exact Fewer.inl _ _ | (simp only [List.append_nil]; first | exact Fewer.inl _ _ | exact Fewer.refl _))), ?_⟩
          refine D_two 2 10 (by kernel_rfl) ?_ ?_
          · refine step_plain 2 rfl rfl (op_convBytes rfl slc_u8s.1 Try.underlying5 (by repeat (first | exact At.here | apply At.there)) rfl ?_)
            refine ⟨(by repeat (first | exact Fewer.nil | refine Fewer.keep rfl ?_ | refine Fewer.drop ?_ | exact Fewer.refl _ | exact Fewer.inl _ _ | (simp only [List.append_nil]; first | exact Fewer.inl _ _ | exact Fewer.refl _))), ?_⟩
            refine D_only 10 rfl (by kernel_rfl) rfl (op_buildSliceAll (ps := [(0, .tmp 25), (1, .tmp 27)]) rfl slc_u8s.1 el_u8 (by decide) (by decide) (by first | kernel_rfl | rfl) rfl (Nat.le_refl _) (fun b28 => ?_))
            refine ⟨(by repeat (first | exact Fewer.nil | refine Fewer.keep rfl ?_ | refine Fewer.drop ?_ | exact Fewer.refl _ | exact Fewer.inl _ _ | (simp only [List.append_nil]; first | exact Fewer.inl _ _ | exact Fewer.refl _))), ?_⟩
            refine D_only 11 rfl (by kernel_rfl) rfl (op_buildSliceAll (ps := [(0, .tmp 20), (1, .tmp 23), (2, .tmp 28)]) rfl slc_u8ss.1 el_u8s (by decide) (by decide) (by first | kernel_rfl | rfl) rfl (Nat.le_refl _) (fun b29 => ?_))
            refine ⟨(by repeat (first | exact Fewer.nil | refine Fewer.keep rfl ?_ | refine Fewer.drop ?_ | exact Fewer.refl _ | exact Fewer.inl _ _ | (simp only [List.append_nil]; first | exact Fewer.inl _ _ | exact Fewer.refl _))), ?_⟩
            refine D_only 12 rfl (by kernel_rfl) rfl (op_callV rfl rfl Try.func33 rfl (by kernel_rfl) rfl (Nat.le_refl _) (fun w' hm => mac_once (some ⟨b4, 0, none⟩) (some ⟨b29, 0, none⟩) (some ⟨b19, 0, none⟩) (Buf.addr (some (g, sp))) (some ⟨b28, 0, none⟩) (Buf.cap (some (g, sp)) (digitsB idx.toNat 4)) idx.toNat bit side seed hs w' (hm.readsAll (b := b4) (by repeat (first | exact List.Mem.head _ | apply List.Mem.tail)) hbs) (hm.readsAll (b := b29) (by repeat (first | exact List.Mem.head _ | apply List.Mem.tail)) rfl) (hm.readsAll (b := b19) (by repeat (first | exact List.Mem.head _ | apply List.Mem.tail)) rfl) (hm.readsBuf (u := some (g, sp)) (e := 5) (by repeat (first | exact DelB.tail | exact DelB.no rfl | exact DelB.at_ rfl (by repeat (first | exact Del.here | apply Del.there)) | apply DelB.there)) hok5) (Buf.len_cap hok5) (Buf.cap_max hok5) (hm.readsAll (b := b28) (by repeat (first | exact List.Mem.head _ | apply List.Mem.tail)) rfl)) ?_)
            refine ⟨(by repeat (first | exact Fewer.nil | refine Fewer.keep rfl ?_ | refine Fewer.drop ?_ | exact Fewer.refl _ | exact Fewer.inl _ _ | (simp only [List.append_nil]; first | exact Fewer.inl _ _ | exact Fewer.refl _))), ?_⟩
            refine D_only 13 rfl (by kernel_rfl) rfl (op_storeRow rfl rfl (by first | exact bytesV_one _ | exact wordsV_one _ | (repeat (first | exact ones_nil | refine ones_cons rfl ?_))) row_Sum (by first | assumption | rfl | (simp only [bytesV_length, wordsV_length]; omega) | (rw [bytesV_length]; exact Sha.sha_length _)) (by repeat (first | exact At.here | apply At.there)) (by first | exact Nat.le_of_ble_eq_true rfl | omega | (simp only [bytesV_length, wordsV_length, List.length_cons, List.length_nil, List.length_replicate]; omega) | (simp only [bytesV_length, Sha.sha_length, List.length_replicate] <;> omega)) ?_)
            refine ⟨(by repeat (first | exact Fewer.nil | refine Fewer.keep rfl ?_ | refine Fewer.drop ?_ | exact Fewer.refl _ | exact Fewer.inl _ _ | (simp only [List.append_nil]; first | exact Fewer.inl _ _ | exact Fewer.refl _))), ?_⟩
            refine D_take 14 rfl (by kernel_rfl) (by kernel_rfl) (by kernel_rfl) (by repeat (first | exact calm_body | exact calm_mid | apply calm_noGoto | exact calm_midE | apply calm_then | apply calm_block)) (p_assign rfl) rfl ?_
            refine D_done (by kernel_rfl) ?_
            refine E_mid (by repeat (first | exact Sub.nil | refine Sub.cons rfl ?_)) ?_
            rw [lay_whole (by rw [bytesV_length, bytesV_length, hml]; rfl)]
            repeat (first | exact .keep rfl .nil | refine .drop ?_)
          · refine step_plain 10 rfl rfl (op_buildSliceAll (ps := [(0, .tmp 25), (1, .tmp 27)]) rfl slc_u8s.1 el_u8 (by decide) (by decide) (by first | kernel_rfl | rfl) rfl (Nat.le_refl _) (fun b28 => ?_))
            refine ⟨(by repeat (first | exact Fewer.nil | refine Fewer.keep rfl ?_ | refine Fewer.drop ?_ | exact Fewer.refl _ | exact Fewer.inl _ _ | (simp only [List.append_nil]; first | exact Fewer.inl _ _ | exact Fewer.refl _))), ?_⟩
            refine D_only 2 rfl (by kernel_rfl) rfl (op_convBytes rfl slc_u8s.1 Try.underlying5 (by repeat (first | exact At.here | apply At.there)) rfl ?_)
            refine ⟨(by repeat (first | exact Fewer.nil | refine Fewer.keep rfl ?_ | refine Fewer.drop ?_ | exact Fewer.refl _ | exact Fewer.inl _ _ | (simp only [List.append_nil]; first | exact Fewer.inl _ _ | exact Fewer.refl _))), ?_⟩
            refine D_only 11 rfl (by kernel_rfl) rfl (op_buildSliceAll (ps := [(0, .tmp 20), (1, .tmp 23), (2, .tmp 28)]) rfl slc_u8ss.1 el_u8s (by decide) (by decide) (by first | kernel_rfl | rfl) rfl (Nat.le_refl _) (fun b29 => ?_))
            refine ⟨(by repeat (first | exact Fewer.nil | refine Fewer.keep rfl ?_ | refine Fewer.drop ?_ | exact Fewer.refl _ | exact Fewer.inl _ _ | (simp only [List.append_nil]; first | exact Fewer.inl _ _ | exact Fewer.refl _))), ?_⟩
            refine D_only 12 rfl (by kernel_rfl) rfl (op_callV rfl rfl Try.func33 rfl (by kernel_rfl) rfl (Nat.le_refl _) (fun w' hm => mac_once (some ⟨b4, 0, none⟩) (some ⟨b29, 0, none⟩) (some ⟨b19, 0, none⟩) (Buf.addr (some (g, sp))) (some ⟨b28, 0, none⟩) (Buf.cap (some (g, sp)) (digitsB idx.toNat 4)) idx.toNat bit side seed hs w' (hm.readsAll (b := b4) (by repeat (first | exact List.Mem.head _ | apply List.Mem.tail)) hbs) (hm.readsAll (b := b29) (by repeat (first | exact List.Mem.head _ | apply List.Mem.tail)) rfl) (hm.readsAll (b := b19) (by repeat (first | exact List.Mem.head _ | apply List.Mem.tail)) rfl) (hm.readsBuf (u := some (g, sp)) (e := 5) (by repeat (first | exact DelB.tail | exact DelB.no rfl | exact DelB.at_ rfl (by repeat (first | exact Del.here | apply Del.there)) | apply DelB.there)) hok5) (Buf.len_cap hok5) (Buf.cap_max hok5) (hm.readsAll (b := b28) (by repeat (first | exact List.Mem.head _ | apply List.Mem.tail)) rfl)) ?_)
            refine ⟨(by repeat (first | exact Fewer.nil | refine Fewer.keep rfl ?_ | refine Fewer.drop ?_ | exact Fewer.refl _ | exact Fewer.inl _ _ | (simp only [List.append_nil]; first | exact Fewer.inl _ _ | exact Fewer.refl _))), ?_⟩
            refine D_only 13 rfl (by kernel_rfl) rfl (op_storeRow rfl rfl (by first | exact bytesV_one _ | exact wordsV_one _ | (repeat (first | exact ones_nil | refine ones_cons rfl ?_))) row_Sum (by first | assumption | rfl | (simp only [bytesV_length, wordsV_length]; omega) | (rw [bytesV_length]; exact Sha.sha_length _)) (by repeat (first | exact At.here | apply At.there)) (by first | exact Nat.le_of_ble_eq_true rfl | omega | (simp only [bytesV_length, wordsV_length, List.length_cons, List.length_nil, List.length_replicate]; omega) | (simp only [bytesV_length, Sha.sha_length, List.length_replicate] <;> omega)) ?_)
            refine ⟨(by repeat (first | exact Fewer.nil | refine Fewer.keep rfl ?_ | refine Fewer.drop ?_ | exact Fewer.refl _ | exact Fewer.inl _ _ | (simp only [List.append_nil]; first | exact Fewer.inl _ _ | exact Fewer.refl _))), ?_⟩
            refine D_take 14 rfl (by kernel_rfl) (by kernel_rfl) (by kernel_rfl) (by repeat (first | exact calm_body | exact calm_mid | apply calm_noGoto | exact calm_midE | apply calm_then | apply calm_block)) (p_assign rfl) rfl ?_
            refine D_done (by kernel_rfl) ?_
            refine E_mid (by repeat (first | exact Sub.nil | refine Sub.cons rfl ?_)) ?_
            rw [lay_whole (by rw [bytesV_length, bytesV_length, hml]; rfl)]
            repeat (first | exact .keep rfl .nil | refine .drop ?_)
        · refine step_plain 10 rfl rfl (op_buildSliceAll (ps := [(0, .tmp 25), (1, .tmp 27)]) rfl slc_u8s.1 el_u8 (by decide) (by decide) (by first | kernel_rfl | rfl) rfl (Nat.le_refl _) (fun b28 => ?_))
          refine ⟨(by repeat (first | exact Fewer.nil | refine Fewer.keep rfl ?_ | refine Fewer.drop ?_ | exact Fewer.refl _ | exact Fewer.inl _ _ | (simp only [List.append_nil]; first | exact Fewer.inl _ _ | exact Fewer.refl _))), ?_⟩
          refine D_two 2 5 (by kernel_rfl) ?_ ?_
          · refine step_plain 2 rfl rfl (op_convBytes rfl slc_u8s.1 Try.underlying5 (by repeat (first | exact At.here | apply At.there)) rfl ?_)
            refine ⟨(by repeat (first | exact Fewer.nil | refine Fewer.keep rfl ?_ | refine Fewer.drop ?_ | exact Fewer.refl _ | exact Fewer.inl _ _ | (simp only [List.append_nil]; first | exact Fewer.inl _ _ | exact Fewer.refl _))), ?_⟩
            refine D_only 5 rfl (by kernel_rfl) rfl (op_callBuf (xs := digitsB idx.toNat 4) rfl rfl Try.func28 rfl (by kernel_rfl) rfl (Nat.le_refl _) (fun w' hm => by have h := putBuf none 0 0 [] idx.toNat 4 w' rfl (Reads.nil _) (by omega) hh.1 (by omega) (by omega); rw [List.nil_append] at h; exact h) (fun g sp hok5 => ?_))
            refine ⟨(by repeat (first | exact Fewer.nil | refine Fewer.keep rfl ?_ | refine Fewer.drop ?_ | exact Fewer.refl _ | exact Fewer.inl _ _ | (simp only [List.append_nil]; first | exact Fewer.inl _ _ | exact Fewer.refl _))), ?_⟩
            refine D_only 11 rfl (by kernel_rfl) rfl (op_buildSliceAll (ps := [(0, .tmp 20), (1, .tmp 23), (2, .tmp 28)]) rfl slc_u8ss.1 el_u8s (by decide) (by decide) (by first | kernel_rfl | rfl) rfl (Nat.le_refl _) (fun b29 => ?_))
            refine ⟨(by repeat (first | exact Fewer.nil | refine Fewer.keep rfl ?_ | refine Fewer.drop ?_ | exact Fewer.refl _ | exact Fewer.inl _ _ | (simp only [List.append_nil]; first | exact Fewer.inl _ _ | exact Fewer.refl _))), ?_⟩
            refine D_only 12 rfl (by kernel_rfl) rfl (op_callV rfl rfl Try.func33 rfl (by kernel_rfl) rfl (Nat.le_refl _) (fun w' hm => mac_once (some ⟨b4, 0, none⟩) (some ⟨b29, 0, none⟩) (some ⟨b19, 0, none⟩) (Buf.addr (some (g, sp))) (some ⟨b28, 0, none⟩) (Buf.cap (some (g, sp)) (digitsB idx.toNat 4)) idx.toNat bit side seed hs w' (hm.readsAll (b := b4) (by repeat (first | exact List.Mem.head _ | apply List.Mem.tail)) hbs) (hm.readsAll (b := b29) (by repeat (first | exact List.Mem.head _ | apply List.Mem.tail)) rfl) (hm.readsAll (b := b19) (by repeat (first | exact List.Mem.head _ | apply List.Mem.tail)) rfl) (hm.readsBuf (u := some (g, sp)) (e := 5) (by repeat (first | exact DelB.tail | exact DelB.no rfl | exact DelB.at_ rfl (by repeat (first | exact Del.here | apply Del.there)) | apply DelB.there)) hok5) (Buf.len_cap hok5) (Buf.cap_max hok5) (hm.readsAll (b := b28) (by repeat (first | exact List.Mem.head _ | apply List.Mem.tail)) rfl)) ?_)
            refine ⟨(by repeat (first | exact Fewer.nil | refine Fewer.keep rfl ?_ | refine Fewer.drop ?_ | exact Fewer.refl _ | exact Fewer.inl _ _ | (simp only [List.append_nil]; first | exact Fewer.inl _ _ | exact Fewer.refl _))), ?_⟩
            refine D_only 13 rfl (by kernel_rfl) rfl (op_storeRow rfl rfl (by first | exact bytesV_one _ | exact wordsV_one _ | (repeat (first | exact ones_nil | refine ones_cons rfl ?_))) row_Sum (by first | assumption | rfl | (simp only [bytesV_length, wordsV_length]; omega) | (rw [bytesV_length]; exact Sha.sha_length _)) (by repeat (first | exact At.here | apply At.there)) (by first | exact Nat.le_of_ble_eq_true rfl | omega | (simp only [bytesV_length, wordsV_length, List.length_cons, List.length_nil, List.length_replicate]; omega) | (simp only [bytesV_length, Sha.sha_length, List.length_replicate] <;> omega)) ?_)
            refine ⟨(by repeat (first | exact Fewer.nil | refine Fewer.keep rfl ?_ | refine Fewer.drop ?_ | exact Fewer.refl _ | exact Fewer.inl _ _ | (simp only [List.append_nil]; first | exact Fewer.inl _ _ | exact Fewer.refl _))), ?_⟩
            refine D_take 14 rfl (by kernel_rfl) (by kernel_rfl) (by kernel_rfl) (by repeat (first | exact calm_body | exact calm_mid | apply calm_noGoto | exact calm_midE | apply calm_then | apply calm_block)) (p_assign rfl) rfl ?_
            refine D_done (by kernel_rfl) ?_
            refine E_mid (by repeat (first | exact Sub.nil | refine Sub.cons rfl ?_)) ?_
            rw [lay_whole (by rw [bytesV_length, bytesV_length, hml]; rfl)]
            repeat (first | exact .keep rfl .nil | refine .drop ?_)
          · refine step_plain 5 rfl rfl (op_callBuf (xs := digitsB idx.toNat 4) rfl rfl Try.func28 rfl (by kernel_rfl) rfl (Nat.le_refl _) (fun w' hm => by have h := putBuf none 0 0 [] idx.toNat 4 w' rfl (Reads.nil _) (by omega) hh.1 (by omega) (by omega); rw [List.nil_append] at h; exact h) (fun g sp hok5 => ?_))
            refine ⟨(by repeat (first | exact Fewer.nil | refine Fewer.keep rfl ?_ | refine Fewer.drop ?_ | exact Fewer.refl _ | exact Fewer.inl _ _ | (simp only [List.append_nil]; first | exact Fewer.inl _ _ | exact Fewer.refl _))), ?_⟩
            refine D_only 2 rfl (by kernel_rfl) rfl (op_convBytes rfl slc_u8s.1 Try.underlying5 (by repeat (first | exact At.here | apply At.there)) rfl ?_)
            refine ⟨(by repeat (first | exact Fewer.nil | refine Fewer.keep rfl ?_ | refine Fewer.drop ?_ | exact Fewer.refl _ | exact Fewer.inl _ _ | (simp only [List.append_nil]; first | exact Fewer.inl _ _ | exact Fewer.refl _))), ?_⟩
            refine D_only 11 rfl (by kernel_rfl) rfl (op_buildSliceAll (ps := [(0, .tmp 20), (1, .tmp 23), (2, .tmp 28)]) rfl slc_u8ss.1 el_u8s (by decide) (by decide) (by first | kernel_rfl | rfl) rfl (Nat.le_refl _) (fun b29 => ?_))
            refine ⟨(by repeat (first | exact Fewer.nil | refine Fewer.keep rfl ?_ | refine Fewer.drop ?_ | exact Fewer.refl _ | exact Fewer.inl _ _ | (simp only [List.append_nil]; first | exact Fewer.inl _ _ | exact Fewer.refl _))), ?_⟩
            refine D_only 12 rfl (by kernel_rfl) rfl (op_callV rfl rfl Try.func33 rfl (by kernel_rfl) rfl (Nat.le_refl _) (fun w' hm => mac_once (some ⟨b4, 0, none⟩) (some ⟨b29, 0, none⟩) (some ⟨b19, 0, none⟩) (Buf.addr (some (g, sp))) (some ⟨b28, 0, none⟩) (Buf.cap (some (g, sp)) (digitsB idx.toNat 4)) idx.toNat bit side seed hs w' (hm.readsAll (b := b4) (by repeat (first | exact List.Mem.head _ | apply List.Mem.tail)) hbs) (hm.readsAll (b := b29) (by repeat (first | exact List.Mem.head _ | apply List.Mem.tail)) rfl) (hm.readsAll (b := b19) (by repeat (first | exact List.Mem.head _ | apply List.Mem.tail)) rfl) (hm.readsBuf (u := some (g, sp)) (e := 5) (by repeat (first | exact DelB.tail | exact DelB.no rfl | exact DelB.at_ rfl (by repeat (first | exact Del.here | apply Del.there)) | apply DelB.there)) hok5) (Buf.len_cap hok5) (Buf.cap_max hok5) (hm.readsAll (b := b28) (by repeat (first | exact List.Mem.head _ | apply List.Mem.tail)) rfl)) ?_)
            refine ⟨(by repeat (first | exact Fewer.nil | refine Fewer.keep rfl ?_ | refine Fewer.drop ?_ | exact Fewer.refl _ | exact Fewer.inl _ _ | (simp only [List.append_nil]; first | exact Fewer.inl _ _ | exact Fewer.refl _))), ?_⟩
            refine D_only 13 rfl (by kernel_rfl) rfl (op_storeRow rfl rfl (by first | exact bytesV_one _ | exact wordsV_one _ | (repeat (first | exact ones_nil | refine ones_cons rfl ?_))) row_Sum (by first | assumption | rfl | (simp only [bytesV_length, wordsV_length]; omega) | (rw [bytesV_length]; exact Sha.sha_length _)) (by repeat (first | exact At.here | apply At.there)) (by first | exact Nat.le_of_ble_eq_true rfl | omega | (simp only [bytesV_length, wordsV_length, List.length_cons, List.length_nil, List.length_replicate]; omega) | (simp only [bytesV_length, Sha.sha_length, List.length_replicate] <;> omega)) ?_)
            refine ⟨(by repeat (first | exact Fewer.nil | refine Fewer.keep rfl ?_ | refine Fewer.drop ?_ | exact Fewer.refl _ | exact Fewer.inl _ _ | (simp only [List.append_nil]; first | exact Fewer.inl _ _ | exact Fewer.refl _))), ?_⟩
            refine D_take 14 rfl (by kernel_rfl) (by kernel_rfl) (by kernel_rfl) (by repeat (first | exact calm_body | exact calm_mid | apply calm_noGoto | exact calm_midE | apply calm_then | apply calm_block)) (p_assign rfl) rfl ?_
            refine D_done (by kernel_rfl) ?_
            refine E_mid (by repeat (first | exact Sub.nil | refine Sub.cons rfl ?_)) ?_
            rw [lay_whole (by rw [bytesV_length, bytesV_length, hml]; rfl)]
            repeat (first | exact .keep rfl .nil | refine .drop ?_)
      · refine step_plain 5 rfl rfl (op_callBuf (xs := digitsB idx.toNat 4) rfl rfl Try.func28 rfl (by kernel_rfl) rfl (Nat.le_refl _) (fun w' hm => by have h := putBuf none 0 0 [] idx.toNat 4 w' rfl (Reads.nil _) (by omega) hh.1 (by omega) (by omega); rw [List.nil_append] at h; exact h) (fun g sp hok5 => ?_))
        refine ⟨(by repeat (first | exact Fewer.nil | refine Fewer.keep rfl ?_ | refine Fewer.drop ?_ | exact Fewer.refl _ | exact Fewer.inl _ _ | (simp only [List.append_nil]; first | exact Fewer.inl _ _ | exact Fewer.refl _))), ?_⟩
        refine D_two 1 10 (by kernel_rfl) ?_ ?_
        · refine step_plain 1 rfl rfl (op_buildSliceAll (ps := [(0, .const (.int .u8 111)), (1, .const (.int .u8 110)), (2, .const (.int .u8 99)), (3, .const (.int .u8 101))]) rfl slc_u8s.1 el_u8 (by decide) (by decide) (by first | kernel_rfl | rfl) rfl (Nat.le_refl _) (fun b19 => ?_))
          refine ⟨(by repeat (first | exact Fewer.nil | refine Fewer.keep rfl ?_ | refine Fewer.drop ?_ | exact Fewer.refl _ | exact Fewer.inl _ _ | (simp only [List.append_nil]; first | exact Fewer.inl _ _ | exact Fewer.refl _))), ?_⟩
          refine D_two 2 10 (by kernel_rfl) ?_ ?_
          · refine step_plain 2 rfl rfl (op_convBytes rfl slc_u8s.1 Try.underlying5 (by repeat (first | exact At.here | apply At.there)) rfl ?_)
            refine ⟨(by repeat (first | exact Fewer.nil | refine Fewer.keep rfl ?_ | refine Fewer.drop ?_ | exact Fewer.refl _ | exact Fewer.inl _ _ | (simp only [List.append_nil]; first | exact Fewer.inl _ _ | exact Fewer.refl _))), ?_⟩
            refine D_only 10 rfl (by kernel_rfl) rfl (op_buildSliceAll (ps := [(0, .tmp 25), (1, .tmp 27)]) rfl slc_u8s.1 el_u8 (by decide) (by decide) (by first | kernel_rfl | rfl) rfl (Nat.le_refl _) (fun b28 => ?_))
            refine ⟨(by repeat (first | exact Fewer.nil | refine Fewer.keep rfl ?_ | refine Fewer.drop ?_ | exact Fewer.refl _ | exact Fewer.inl _ _ | (simp only [List.append_nil]; first | exact Fewer.inl _ _ | exact Fewer.refl _))), ?_⟩
            refine D_only 11 rfl (by kernel_rfl) rfl (op_buildSliceAll (ps := [(0, .tmp 20), (1, .tmp 23), (2, .tmp 28)]) rfl slc_u8ss.1 el_u8s (by decide) (by decide) (by first | kernel_rfl | rfl) rfl (Nat.le_refl _) (fun b29 => ?_))
            refine ⟨(by repeat (first | exact Fewer.nil | refine Fewer.keep rfl ?_ | refine Fewer.drop ?_ | exact Fewer.refl _ | exact Fewer.inl _ _ | (simp only [List.append_nil]; first | exact Fewer.inl _ _ | exact Fewer.refl _))), ?_⟩
            refine D_only 12 rfl (by kernel_rfl) rfl (op_callV rfl rfl Try.func33 rfl (by kernel_rfl) rfl (Nat.le_refl _) (fun w' hm => mac_once (some ⟨b4, 0, none⟩) (some ⟨b29, 0, none⟩) (some ⟨b19, 0, none⟩) (Buf.addr (some (g, sp))) (some ⟨b28, 0, none⟩) (Buf.cap (some (g, sp)) (digitsB idx.toNat 4)) idx.toNat bit side seed hs w' (hm.readsAll (b := b4) (by repeat (first | exact List.Mem.head _ | apply List.Mem.tail)) hbs) (hm.readsAll (b := b29) (by repeat (first | exact List.Mem.head _ | apply List.Mem.tail)) rfl) (hm.readsAll (b := b19) (by repeat (first | exact List.Mem.head _ | apply List.Mem.tail)) rfl) (hm.readsBuf (u := some (g, sp)) (e := 5) (by repeat (first | exact DelB.tail | exact DelB.no rfl | exact DelB.at_ rfl (by repeat (first | exact Del.here | apply Del.there)) | apply DelB.there)) hok5) (Buf.len_cap hok5) (Buf.cap_max hok5) (hm.readsAll (b := b28) (by repeat (first | exact List.Mem.head _ | apply List.Mem.tail)) rfl)) ?_)
            refine ⟨(by repeat (first | exact Fewer.nil | refine Fewer.keep rfl ?_ | refine Fewer.drop ?_ | exact Fewer.refl _ | exact Fewer.inl _ _ | (simp only [List.append_nil]; first | exact Fewer.inl _ _ | exact Fewer.refl _))), ?_⟩
            refine D_only 13 rfl (by kernel_rfl) rfl (op_storeRow rfl rfl (by first | exact bytesV_one _ | exact wordsV_one _ | (repeat (first | exact ones_nil | refine ones_cons rfl ?_))) row_Sum (by first | assumption | rfl | (simp only [bytesV_length, wordsV_length]; omega) | (rw [bytesV_length]; exact Sha.sha_length _)) (by repeat (first | exact At.here | apply At.there)) (by first | exact Nat.le_of_ble_eq_true rfl | omega | (simp only [bytesV_length, wordsV_length, List.length_cons, List.length_nil, List.length_replicate]; omega) | (simp only [bytesV_length, Sha.sha_length, List.length_replicate] <;> omega)) ?_)
            refine ⟨(by repeat (first | exact Fewer.nil | refine Fewer.keep rfl ?_ | refine Fewer.drop ?_ | exact Fewer.refl _ | exact Fewer.inl _ _ | (simp only [List.append_nil]; first | exact Fewer.inl _ _ | exact Fewer.refl _))), ?_⟩
            refine D_take 14 rfl (by kernel_rfl) (by kernel_rfl) (by kernel_rfl) (by repeat (first | exact calm_body | exact calm_mid | apply calm_noGoto | exact calm_midE | apply calm_then | apply calm_block)) (p_assign rfl) rfl ?_
            refine D_done (by kernel_rfl) ?_
            refine E_mid (by repeat (first | exact Sub.nil | refine Sub.cons rfl ?_)) ?_
            rw [lay_whole (by rw [bytesV_length, bytesV_length, hml]; rfl)]
            repeat (first | exact .keep rfl .nil | refine .drop ?_)
          · refine step_plain 10 rfl rfl (op_buildSliceAll (ps := [(0, .tmp 25), (1, .tmp 27)]) rfl slc_u8s.1 el_u8 (by decide) (by decide) (by first | kernel_rfl | rfl) rfl (Nat.le_refl _) (fun b28 => ?_))
            refine ⟨(by repeat (first | exact Fewer.nil | refine Fewer.keep rfl ?_ | refine Fewer.drop ?_ | exact Fewer.refl _ | exact Fewer.inl _ _ | (simp only [List.append_nil]; first | exact Fewer.inl _ _ | exact Fewer.refl _))), ?_⟩
            refine D_only 2 rfl (by kernel_rfl) rfl (op_convBytes rfl slc_u8s.1 Try.underlying5 (by repeat (first | exact At.here | apply At.there)) rfl ?_)
            refine ⟨(by repeat (first | exact Fewer.nil | refine Fewer.keep rfl ?_ | refine Fewer.drop ?_ | exact Fewer.refl _ | exact Fewer.inl _ _ | (simp only [List.append_nil]; first | exact Fewer.inl _ _ | exact Fewer.refl _))), ?_⟩
            refine D_only 11 rfl (by kernel_rfl) rfl (op_buildSliceAll (ps := [(0, .tmp 20), (1, .tmp 23), (2, .tmp 28)]) rfl slc_u8ss.1 el_u8s (by decide) (by decide) (by first | kernel_rfl | rfl) rfl (Nat.le_refl _) (fun b29 => ?_))
            refine ⟨(by repeat (first | exact Fewer.nil | refine Fewer.keep rfl ?_ | refine Fewer.drop ?_ | exact Fewer.refl _ | exact Fewer.inl _ _ | (simp only [List.append_nil]; first | exact Fewer.inl _ _ | exact Fewer.refl _))), ?_⟩
            refine D_only 12 rfl (by kernel_rfl) rfl (op_callV rfl rfl Try.func33 rfl (by kernel_rfl) rfl (Nat.le_refl _) (fun w' hm => mac_once (some ⟨b4, 0, none⟩) (some ⟨b29, 0, none⟩) (some ⟨b19, 0, none⟩) (Buf.addr (some (g, sp))) (some ⟨b28, 0, none⟩) (Buf.cap (some (g, sp)) (digitsB idx.toNat 4)) idx.toNat bit side seed hs w' (hm.readsAll (b := b4) (by repeat (first | exact List.Mem.head _ | apply List.Mem.tail)) hbs) (hm.readsAll (b := b29) (by repeat (first | exact List.Mem.head _ | apply List.Mem.tail)) rfl) (hm.readsAll (b := b19) (by repeat (first | exact List.Mem.head _ | apply List.Mem.tail)) rfl) (hm.readsBuf (u := some (g, sp)) (e := 5) (by repeat (first | exact DelB.tail | exact DelB.no rfl | exact DelB.at_ rfl (by repeat (first | exact Del.here | apply Del.there)) | apply DelB.there)) hok5) (Buf.len_cap hok5) (Buf.cap_max hok5) (hm.readsAll (b := b28) (by repeat (first | exact List.Mem.head _ | apply List.Mem.tail)) rfl)) ?_)
            refine ⟨(by repeat (first | exact Fewer.nil | refine Fewer.keep rfl ?_ | refine Fewer.drop ?_ | exact Fewer.refl _ | exact Fewer.inl _ _ | (simp only [List.append_nil]; first | exact Fewer.inl _ _ | exact Fewer.refl _))), ?_⟩
            refine D_only 13 rfl (by kernel_rfl) rfl (op_storeRow rfl rfl (by first | exact bytesV_one _ | exact wordsV_one _ | (repeat (first | exact ones_nil | refine ones_cons rfl ?_))) row_Sum (by first | assumption | rfl | (simp only [bytesV_length, wordsV_length]; omega) | (rw [bytesV_length]; exact Sha.sha_length _)) (by repeat (first | exact At.here | apply At.there)) (by first | exact Nat.le_of_ble_eq_true rfl | omega | (simp only [bytesV_length, wordsV_length, List.length_cons, List.length_nil, List.length_replicate]; omega) | (simp only [bytesV_length, Sha.sha_length, List.length_replicate] <;> omega)) ?_)
            refine ⟨(by repeat (first | exact Fewer.nil | refine Fewer.keep rfl ?_ | refine Fewer.drop ?_ | exact Fewer.refl _ | exact Fewer.inl _ _ | (simp only [List.append_nil]; first | exact Fewer.inl _ _ | exact Fewer.refl _))), ?_⟩
            refine D_take 14 rfl (by kernel_rfl) (by kernel_rfl) (by kernel_rfl) (by repeat (first | exact calm_body | exact calm_mid | apply calm_noGoto | exact calm_midE | apply calm_then | apply calm_block)) (p_assign rfl) rfl ?_
            refine D_done (by kernel_rfl) ?_
            refine E_mid (by repeat (first | exact Sub.nil | refine Sub.cons rfl ?_)) ?_
            rw [lay_whole (by rw [bytesV_length, bytesV_length, hml]; rfl)]
            repeat (first | exact .keep rfl .nil | refine .drop ?_)
        · refine step_plain 10 rfl rfl (op_buildSliceAll (ps := [(0, .tmp 25), (1, .tmp 27)]) rfl slc_u8s.1 el_u8 (by decide) (by decide) (by first | kernel_rfl | rfl) rfl (Nat.le_refl _) (fun b28 => ?_))
          refine ⟨(by repeat (first | exact Fewer.nil | refine Fewer.keep rfl ?_ | refine Fewer.drop ?_ | exact Fewer.refl _ | exact Fewer.inl _ _ | (simp only [List.append_nil]; first | exact Fewer.inl _ _ | exact Fewer.refl _))), ?_⟩
          refine D_only 1 rfl (by kernel_rfl) rfl (op_buildSliceAll (ps := [(0, .const (.int .u8 111)), (1, .const (.int .u8 110)), (2, .const (.int .u8 99)), (3, .const (.int .u8 101))]) rfl slc_u8s.1 el_u8 (by decide) (by decide) (by first | kernel_rfl | rfl) rfl (Nat.le_refl _) (fun b19 => ?_))
          refine ⟨(by repeat (first | exact Fewer.nil | refine Fewer.keep rfl ?_ | refine Fewer.drop ?_ | exact Fewer.refl _ | exact Fewer.inl _ _ | (simp only [List.append_nil]; first | exact Fewer.inl _ _ | exact Fewer.refl _))), ?_⟩
          refine D_only 2 rfl (by kernel_rfl) rfl (op_convBytes rfl slc_u8s.1 Try.underlying5 (by repeat (first | exact At.here | apply At.there)) rfl ?_)
          refine ⟨(by repeat (first | exact Fewer.nil | refine Fewer.keep rfl ?_ | refine Fewer.drop ?_ | exact Fewer.refl _ | exact Fewer.inl _ _ | (simp only [List.append_nil]; first | exact Fewer.inl _ _ | exact Fewer.refl _))), ?_⟩
          refine D_only 11 rfl (by kernel_rfl) rfl (op_buildSliceAll (ps := [(0, .tmp 20), (1, .tmp 23), (2, .tmp 28)]) rfl slc_u8ss.1 el_u8s (by decide) (by decide) (by first | kernel_rfl | rfl) rfl (Nat.le_refl _) (fun b29 => ?_))
          refine ⟨(by repeat (first | exact Fewer.nil | refine Fewer.keep rfl ?_ | refine Fewer.drop ?_ | exact Fewer.refl _ | exact Fewer.inl _ _ | (simp only [List.append_nil]; first | exact Fewer.inl _ _ | exact Fewer.refl _))), ?_⟩
          refine D_only 12 rfl (by kernel_rfl) rfl (op_callV rfl rfl Try.func33 rfl (by kernel_rfl) rfl (Nat.le_refl _) (fun w' hm => mac_once (some ⟨b4, 0, none⟩) (some ⟨b29, 0, none⟩) (some ⟨b19, 0, none⟩) (Buf.addr (some (g, sp))) (some ⟨b28, 0, none⟩) (Buf.cap (some (g, sp)) (digitsB idx.toNat 4)) idx.toNat bit side seed hs w' (hm.readsAll (b := b4) (by repeat (first | exact List.Mem.head _ | apply List.Mem.tail)) hbs) (hm.readsAll (b := b29) (by repeat (first | exact List.Mem.head _ | apply List.Mem.tail)) rfl) (hm.readsAll (b := b19) (by repeat (first | exact List.Mem.head _ | apply List.Mem.tail)) rfl) (hm.readsBuf (u := some (g, sp)) (e := 5) (by repeat (first | exact DelB.tail | exact DelB.no rfl | exact DelB.at_ rfl (by repeat (first | exact Del.here | apply Del.there)) | apply DelB.there)) hok5) (Buf.len_cap hok5) (Buf.cap_max hok5) (hm.readsAll (b := b28) (by repeat (first | exact List.Mem.head _ | apply List.Mem.tail)) rfl)) ?_)
          refine ⟨(by repeat (first | exact Fewer.nil | refine Fewer.keep rfl ?_ | refine Fewer.drop ?_ | exact Fewer.refl _ | exact Fewer.inl _ _ | (simp only [List.append_nil]; first | exact Fewer.inl _ _ | exact Fewer.refl _))), ?_⟩
          refine D_only 13 rfl (by kernel_rfl) rfl (op_storeRow rfl rfl (by first | exact bytesV_one _ | exact wordsV_one _ | (repeat (first | exact ones_nil | refine ones_cons rfl ?_))) row_Sum (by first | assumption | rfl | (simp only [bytesV_length, wordsV_length]; omega) | (rw [bytesV_length]; exact Sha.sha_length _)) (by repeat (first | exact At.here | apply At.there)) (by first | exact Nat.le_of_ble_eq_true rfl | omega | (simp only [bytesV_length, wordsV_length, List.length_cons, List.length_nil, List.length_replicate]; omega) | (simp only [bytesV_length, Sha.sha_length, List.length_replicate] <;> omega)) ?_)
          refine ⟨(by repeat (first | exact Fewer.nil | refine Fewer.keep rfl ?_ | refine Fewer.drop ?_ | exact Fewer.refl _ | exact Fewer.inl _ _ | (simp only [List.append_nil]; first | exact Fewer.inl _ _ | exact Fewer.refl _))), ?_⟩
          refine D_take 14 rfl (by kernel_rfl) (by kernel_rfl) (by kernel_rfl) (by repeat (first | exact calm_body | exact calm_mid | apply calm_noGoto | exact calm_midE | apply calm_then | apply calm_block)) (p_assign rfl) rfl ?_
          refine D_done (by kernel_rfl) ?_
          refine E_mid (by repeat (first | exact Sub.nil | refine Sub.cons rfl ?_)) ?_
          rw [lay_whole (by rw [bytesV_length, bytesV_length, hml]; rfl)]
          repeat (first | exact .keep rfl .nil | refine .drop ?_)
      · refine step_plain 10 rfl rfl (op_buildSliceAll (ps := [(0, .tmp 25), (1, .tmp 27)]) rfl slc_u8s.1 el_u8 (by decide) (by decide) (by first | kernel_rfl | rfl) rfl (Nat.le_refl _) (fun b28 => ?_))
        refine ⟨(by repeat (first | exact Fewer.nil | refine Fewer.keep rfl ?_ | refine Fewer.drop ?_ | exact Fewer.refl _ | exact Fewer.inl _ _ | (simp only [List.append_nil]; first | exact Fewer.inl _ _ | exact Fewer.refl _))), ?_⟩
        refine D_two 1 5 (by kernel_rfl) ?_ ?_
        · refine step_plain 1 rfl rfl (op_buildSliceAll (ps := [(0, .const (.int .u8 111)), (1, .const (.int .u8 110)), (2, .const (.int .u8 99)), (3, .const (.int .u8 101))]) rfl slc_u8s.1 el_u8 (by decide) (by decide) (by first | kernel_rfl | rfl) rfl (Nat.le_refl _) (fun b19 => ?_))
          refine ⟨(by repeat (first | exact Fewer.nil | refine Fewer.keep rfl ?_ | refine Fewer.drop ?_ | exact Fewer.refl _ | exact Fewer.inl _ _ | (simp only [List.append_nil]; first | exact Fewer.inl _ _ | exact Fewer.refl _))), ?_⟩
          refine D_two 2 5 (by kernel_rfl) ?_ ?_
          · refine step_plain 2 rfl rfl (op_convBytes rfl slc_u8s.1 Try.underlying5 (by repeat (first | exact At.here | apply At.there)) rfl ?_)
            refine ⟨(by repeat (first | exact Fewer.nil | refine Fewer.keep rfl ?_ | refine Fewer.drop ?_ | exact Fewer.refl _ | exact Fewer.inl _ _ | (simp only [List.append_nil]; first | exact Fewer.inl _ _ | exact Fewer.refl _))), ?_⟩
            refine D_only 5 rfl (by kernel_rfl) rfl (op_callBuf (xs := digitsB idx.toNat 4) rfl rfl Try.func28 rfl (by kernel_rfl) rfl (Nat.le_refl _) (fun w' hm => by have h := putBuf none 0 0 [] idx.toNat 4 w' rfl (Reads.nil _) (by omega) hh.1 (by omega) (by omega); rw [List.nil_append] at h; exact h) (fun g sp hok5 => ?_))
            refine ⟨(by repeat (first | exact Fewer.nil | refine Fewer.keep rfl ?_ | refine Fewer.drop ?_ | exact Fewer.refl _ | exact Fewer.inl _ _ | (simp only [List.append_nil]; first | exact Fewer.inl _ _ | exact Fewer.refl _))), ?_⟩
            refine D_only 11 rfl (by kernel_rfl) rfl (op_buildSliceAll (ps := [(0, .tmp 20), (1, .tmp 23), (2, .tmp 28)]) rfl slc_u8ss.1 el_u8s (by decide) (by decide) (by first | kernel_rfl | rfl) rfl (Nat.le_refl _) (fun b29 => ?_))
            refine ⟨(by repeat (first | exact Fewer.nil | refine Fewer.keep rfl ?_ | refine Fewer.drop ?_ | exact Fewer.refl _ | exact Fewer.inl _ _ | (simp only [List.append_nil]; first | exact Fewer.inl _ _ | exact Fewer.refl _))), ?_⟩
            refine D_only 12 rfl (by kernel_rfl) rfl (op_callV rfl rfl Try.func33 rfl (by kernel_rfl) rfl (Nat.le_refl _) (fun w' hm => mac_once (some ⟨b4, 0, none⟩) (some ⟨b29, 0, none⟩) (some ⟨b19, 0, none⟩) (Buf.addr (some (g, sp))) (some ⟨b28, 0, none⟩) (Buf.cap (some (g, sp)) (digitsB idx.toNat 4)) idx.toNat bit side seed hs w' (hm.readsAll (b := b4) (by repeat (first | exact List.Mem.head _ | apply List.Mem.tail)) hbs) (hm.readsAll (b := b29) (by repeat (first | exact List.Mem.head _ | apply List.Mem.tail)) rfl) (hm.readsAll (b := b19) (by repeat (first | exact List.Mem.head _ | apply List.Mem.tail)) rfl) (hm.readsBuf (u := some (g, sp)) (e := 5) (by repeat (first | exact DelB.tail | exact DelB.no rfl | exact DelB.at_ rfl (by repeat (first | exact Del.here | apply Del.there)) | apply DelB.there)) hok5) (Buf.len_cap hok5) (Buf.cap_max hok5) (hm.readsAll (b := b28) (by repeat (first | exact List.Mem.head _ | apply List.Mem.tail)) rfl)) ?_)
            refine ⟨(by repeat (first | exact Fewer.nil | refine Fewer.keep rfl ?_ | refine Fewer.drop ?_ | exact Fewer.refl _ | exact Fewer.inl _ _ | (simp only [List.append_nil]; first | exact Fewer.inl _ _ | exact Fewer.refl _))), ?_⟩
            refine D_only 13 rfl (by kernel_rfl) rfl (op_storeRow rfl rfl (by first | exact bytesV_one _ | exact wordsV_one _ | (repeat (first | exact ones_nil | refine ones_cons rfl ?_))) row_Sum (by first | assumption | rfl | (simp only [bytesV_length, wordsV_length]; omega) | (rw [bytesV_length]; exact Sha.sha_length _)) (by repeat (first | exact At.here | apply At.there)) (by first | exact Nat.le_of_ble_eq_true rfl | omega | (simp only [bytesV_length, wordsV_length, List.length_cons, List.length_nil, List.length_replicate]; omega) | (simp only [bytesV_length, Sha.sha_length, List.length_replicate] <;> omega)) ?_)
            refine ⟨(by repeat (first | exact Fewer.nil | refine Fewer.keep rfl ?_ | refine Fewer.drop ?_ | exact Fewer.refl _ | exact Fewer.inl _ _ | (simp only [List.append_nil]; first | exact Fewer.inl _ _ | exact Fewer.refl _))), ?_⟩
            refine D_take 14 rfl (by kernel_rfl) (by kernel_rfl) (by kernel_rfl) (by repeat (first | exact calm_body | exact calm_mid | apply calm_noGoto | exact calm_midE | apply calm_then | apply calm_block)) (p_assign rfl) rfl ?_
            refine D_done (by kernel_rfl) ?_
            refine E_mid (by repeat (first | exact Sub.nil | refine Sub.cons rfl ?_)) ?_
            rw [lay_whole (by rw [bytesV_length, bytesV_length, hml]; rfl)]
            repeat (first | exact .keep rfl .nil | refine .drop ?_)
          · refine step_plain 5 rfl rfl (op_callBuf (xs := digitsB idx.toNat 4) rfl rfl Try.func28 rfl (by kernel_rfl) rfl (Nat.le_refl _) (fun w' hm => by have h := putBuf none 0 0 [] idx.toNat 4 w' rfl (Reads.nil _) (by omega) hh.1 (by omega) (by omega); rw [List.nil_append] at h; exact h) (fun g sp hok5 => ?_))
            refine ⟨(by repeat (first | exact Fewer.nil | refine Fewer.keep rfl ?_ | refine Fewer.drop ?_ | exact Fewer.refl _ | exact Fewer.inl _ _ | (simp only [List.append_nil]; first | exact Fewer.inl _ _ | exact Fewer.refl _))), ?_⟩
            refine D_only 2 rfl (by kernel_rfl) rfl (op_convBytes rfl slc_u8s.1 Try.underlying5 (by repeat (first | exact At.here | apply At.there)) rfl ?_)
            refine ⟨(by repeat (first | exact Fewer.nil | refine Fewer.keep rfl ?_ | refine Fewer.drop ?_ | exact Fewer.refl _ | exact Fewer.inl _ _ | (simp only [List.append_nil]; first | exact Fewer.inl _ _ | exact Fewer.refl _))), ?_⟩
            refine D_only 11 rfl (by kernel_rfl) rfl (op_buildSliceAll (ps := [(0, .tmp 20), (1, .tmp 23), (2, .tmp 28)]) rfl slc_u8ss.1 el_u8s (by decide) (by decide) (by first | kernel_rfl | rfl) rfl (Nat.le_refl _) (fun b29 => ?_))
            refine ⟨(by repeat (first | exact Fewer.nil | refine Fewer.keep rfl ?_ | refine Fewer.drop ?_ | exact Fewer.refl _ | exact Fewer.inl _ _ | (simp only [List.append_nil]; first | exact Fewer.inl _ _ | exact Fewer.refl _))), ?_⟩
            refine D_only 12 rfl (by kernel_rfl) rfl (op_callV rfl rfl Try.func33 rfl (by kernel_rfl) rfl (Nat.le_refl _) (fun w' hm => mac_once (some ⟨b4, 0, none⟩) (some ⟨b29, 0, none⟩) (some ⟨b19, 0, none⟩) (Buf.addr (some (g, sp))) (some ⟨b28, 0, none⟩) (Buf.cap (some (g, sp)) (digitsB idx.toNat 4)) idx.toNat bit side seed hs w' (hm.readsAll (b := b4) (by repeat (first | exact List.Mem.head _ | apply List.Mem.tail)) hbs) (hm.readsAll (b := b29) (by repeat (first | exact List.Mem.head _ | apply List.Mem.tail)) rfl) (hm.readsAll (b := b19) (by repeat (first | exact List.Mem.head _ | apply List.Mem.tail)) rfl) (hm.readsBuf (u := some (g, sp)) (e := 5) (by repeat (first | exact DelB.tail | exact DelB.no rfl | exact DelB.at_ rfl (by repeat (first | exact Del.here | apply Del.there)) | apply DelB.there)) hok5) (Buf.len_cap hok5) (Buf.cap_max hok5) (hm.readsAll (b := b28) (by repeat (first | exact List.Mem.head _ | apply List.Mem.tail)) rfl)) ?_)
            refine ⟨(by repeat (first | exact Fewer.nil | refine Fewer.keep rfl ?_ | refine Fewer.drop ?_ | exact Fewer.refl _ | exact Fewer.inl _ _ | (simp only [List.append_nil]; first | exact Fewer.inl _ _ | exact Fewer.refl _))), ?_⟩
            refine D_only 13 rfl (by kernel_rfl) rfl (op_storeRow rfl rfl (by first | exact bytesV_one _ | exact wordsV_one _ | (repeat (first | exact ones_nil | refine ones_cons rfl ?_))) row_Sum (by first | assumption | rfl | (simp only [bytesV_length, wordsV_length]; omega) | (rw [bytesV_length]; exact Sha.sha_length _)) (by repeat (first | exact At.here | apply At.there)) (by first | exact Nat.le_of_ble_eq_true rfl | omega | (simp only [bytesV_length, wordsV_length, List.length_cons, List.length_nil, List.length_replicate]; omega) | (simp only [bytesV_length, Sha.sha_length, List.length_replicate] <;> omega)) ?_)
            refine ⟨(by repeat (first | exact Fewer.nil | refine Fewer.keep rfl ?_ | refine Fewer.drop ?_ | exact Fewer.refl _ | exact Fewer.inl _ _ | (simp only [List.append_nil]; first | exact Fewer.inl _ _ | exact Fewer.refl _))), ?_⟩
            refine D_take 14 rfl (by kernel_rfl) (by kernel_rfl) (by kernel_rfl) (by repeat (first | exact calm_body | exact calm_mid | apply calm_noGoto | exact calm_midE | apply calm_then | apply calm_block)) (p_assign rfl) rfl ?_
            refine D_done (by kernel_rfl) ?_
            refine E_mid (by repeat (first | exact Sub.nil | refine Sub.cons rfl ?_)) ?_
            rw [lay_whole (by rw [bytesV_length, bytesV_length, hml]; rfl)]
            repeat (first | exact .keep rfl .nil | refine .drop ?_)
        · refine step_plain 5 rfl rfl (op_callBuf (xs := digitsB idx.toNat 4) rfl rfl Try.func28 rfl (by kernel_rfl) rfl (Nat.le_refl _) (fun w' hm => by have h := putBuf none 0 0 [] idx.toNat 4 w' rfl (Reads.nil _) (by omega) hh.1 (by omega) (by omega); rw [List.nil_append] at h; exact h) (fun g sp hok5 => ?_))
          refine ⟨(by repeat (first | exact Fewer.nil | refine Fewer.keep rfl ?_ | refine Fewer.drop ?_ | exact Fewer.refl _ | exact Fewer.inl _ _ | (simp only [List.append_nil]; first | exact Fewer.inl _ _ | exact Fewer.refl _))), ?_⟩
          refine D_only 1 rfl (by kernel_rfl) rfl (op_buildSliceAll (ps := [(0, .const (.int .u8 111)), (1, .const (.int .u8 110)), (2, .const (.int .u8 99)), (3, .const (.int .u8 101))]) rfl slc_u8s.1 el_u8 (by decide) (by decide) (by first | kernel_rfl | rfl) rfl (Nat.le_refl _) (fun b19 => ?_))
          refine ⟨(by repeat (first | exact Fewer.nil | refine Fewer.keep rfl ?_ | refine Fewer.drop ?_ | exact Fewer.refl _ | exact Fewer.inl _ _ | (simp only [List.append_nil]; first | exact Fewer.inl _ _ | exact Fewer.refl _))), ?_⟩
          refine D_only 2 rfl (by kernel_rfl) rfl (op_convBytes rfl slc_u8s.1 Try.underlying5 (by repeat (first | exact At.here | apply At.there)) rfl ?_)
          refine ⟨(by repeat (first | exact Fewer.nil | refine Fewer.keep rfl ?_ | refine Fewer.drop ?_ | exact Fewer.refl _ | exact Fewer.inl _ _ | (simp only [List.append_nil]; first | exact Fewer.inl _ _ | exact Fewer.refl _))), ?_⟩
          refine D_only 11 rfl (by kernel_rfl) rfl (op_buildSliceAll (ps := [(0, .tmp 20), (1, .tmp 23), (2, .tmp 28)]) rfl slc_u8ss.1 el_u8s (by decide) (by decide) (by first | kernel_rfl | rfl) rfl (Nat.le_refl _) (fun b29 => ?_))
          refine ⟨(by repeat (first | exact Fewer.nil | refine Fewer.keep rfl ?_ | refine Fewer.drop ?_ | exact Fewer.refl _ | exact Fewer.inl _ _ | (simp only [List.append_nil]; first | exact Fewer.inl _ _ | exact Fewer.refl _))), ?_⟩
          refine D_only 12 rfl (by kernel_rfl) rfl (op_callV rfl rfl Try.func33 rfl (by kernel_rfl) rfl (Nat.le_refl _) (fun w' hm => mac_once (some ⟨b4, 0, none⟩) (some ⟨b29, 0, none⟩) (some ⟨b19, 0, none⟩) (Buf.addr (some (g, sp))) (some ⟨b28, 0, none⟩) (Buf.cap (some (g, sp)) (digitsB idx.toNat 4)) idx.toNat bit side seed hs w' (hm.readsAll (b := b4) (by repeat (first | exact List.Mem.head _ | apply List.Mem.tail)) hbs) (hm.readsAll (b := b29) (by repeat (first | exact List.Mem.head _ | apply List.Mem.tail)) rfl) (hm.readsAll (b := b19) (by repeat (first | exact List.Mem.head _ | apply List.Mem.tail)) rfl) (hm.readsBuf (u := some (g, sp)) (e := 5) (by repeat (first | exact DelB.tail | exact DelB.no rfl | exact DelB.at_ rfl (by repeat (first | exact Del.here | apply Del.there)) | apply DelB.there)) hok5) (Buf.len_cap hok5) (Buf.cap_max hok5) (hm.readsAll (b := b28) (by repeat (first | exact List.Mem.head _ | apply List.Mem.tail)) rfl)) ?_)
          refine ⟨(by repeat (first | exact Fewer.nil | refine Fewer.keep rfl ?_ | refine Fewer.drop ?_ | exact Fewer.refl _ | exact Fewer.inl _ _ | (simp only [List.append_nil]; first | exact Fewer.inl _ _ | exact Fewer.refl _))), ?_⟩
          refine D_only 13 rfl (by kernel_rfl) rfl (op_storeRow rfl rfl (by first | exact bytesV_one _ | exact wordsV_one _ | (repeat (first | exact ones_nil | refine ones_cons rfl ?_))) row_Sum (by first | assumption | rfl | (simp only [bytesV_length, wordsV_length]; omega) | (rw [bytesV_length]; exact Sha.sha_length _)) (by repeat (first | exact At.here | apply At.there)) (by first | exact Nat.le_of_ble_eq_true rfl | omega | (simp only [bytesV_length, wordsV_length, List.length_cons, List.length_nil, List.length_replicate]; omega) | (simp only [bytesV_length, Sha.sha_length, List.length_replicate] <;> omega)) ?_)
          refine ⟨(by repeat (first | exact Fewer.nil | refine Fewer.keep rfl ?_ | refine Fewer.drop ?_ | exact Fewer.refl _ | exact Fewer.inl _ _ | (simp only [List.append_nil]; first | exact Fewer.inl _ _ | exact Fewer.refl _))), ?_⟩
          refine D_take 14 rfl (by kernel_rfl) (by kernel_rfl) (by kernel_rfl) (by repeat (first | exact calm_body | exact calm_mid | apply calm_noGoto | exact calm_midE | apply calm_then | apply calm_block)) (p_assign rfl) rfl ?_
          refine D_done (by kernel_rfl) ?_
          refine E_mid (by repeat (first | exact Sub.nil | refine Sub.cons rfl ?_)) ?_
          rw [lay_whole (by rw [bytesV_length, bytesV_length, hml]; rfl)]
          repeat (first | exact .keep rfl .nil | refine .drop ?_)
    · repeat (first | refine S_scope ?_ | refine S_label ?_ | refine E_noGoto_normal ?_ | refine E_noGoto_ret ?_ | refine E_noGoto_exit ?_ | refine S_yes rfl (by first | with_reducible rfl | decide) ?_ | refine S_no rfl (by first | with_reducible rfl | decide) ?_ | refine S_seq ?_ | refine E_seq ?_ | refine S_block ?_ | refine E_block_normal ?_ | refine S_skip ?_ | refine S_exit ?_ | refine S_ret ?_ | refine E_then_exit ?_ | refine E_then_ret ?_ | refine E_block_ret ?_ | refine E_block_exit ?_ | refine E_block_exit_other rfl ?_)
      exact E_retRow1 rfl rfl rfl (by repeat (first | exact List.Mem.head _ | apply List.Mem.tail)) row_Sum (by rw [bytesV_length, hml]) fun w' hm => ⟨by rw [hS, hE], hm.below⟩
  · have hd : decide ((0 ≤ bit ∧ bit ≤ 63) ∧ 0 ≤ side ∧ side ≤ 1) = false := decide_eq_false hok
    have hS : secretS seed idx.toNat bit side = List.replicate 32 0 := by unfold secretS; rw [if_neg hok]
    have hE : secretE bit side = 1 := by unfold secretE; rw [if_neg hok]
    repeat (first | refine S_scope ?_ | refine S_label ?_ | refine E_noGoto_normal ?_ | refine E_noGoto_ret ?_ | refine E_noGoto_exit ?_ | refine S_yes rfl (by first | with_reducible rfl | decide) ?_ | refine S_no rfl (by first | with_reducible rfl | decide) ?_ | refine S_seq ?_ | refine E_seq ?_ | refine S_block ?_ | refine E_block_normal ?_ | refine S_skip ?_ | refine S_exit ?_ | refine S_ret ?_ | refine E_then_exit ?_ | refine E_then_ret ?_ | refine E_block_ret ?_ | refine E_block_exit ?_ | refine E_block_exit_other rfl ?_)
    refine S_region ?_
    refine R_cons rfl (op_boxRow rfl rfl (Nat.le_refl _) (fun b4 => ?_))
    refine R_cons rfl (op_allocRow zero_Sum rfl (Nat.le_refl _) (fun b8 => ?_))
    refine R_cons rfl (op_pure (p_assign rfl) rfl ?_)
    refine R_nil ?_
    repeat (first | refine S_scope ?_ | refine S_label ?_ | refine E_noGoto_normal ?_ | refine E_noGoto_ret ?_ | refine E_noGoto_exit ?_ | refine S_yes rfl (by first | with_reducible rfl | decide) ?_ | refine S_no rfl (by first | with_reducible rfl | decide) ?_ | refine S_seq ?_ | refine E_seq ?_ | refine S_block ?_ | refine E_block_normal ?_ | refine S_skip ?_ | refine S_exit ?_ | refine S_ret ?_ | refine E_then_exit ?_ | refine E_then_ret ?_ | refine E_block_ret ?_ | refine E_block_exit ?_ | refine E_block_exit_other rfl ?_)
    refine S_region ?_
    refine R_cons rfl (op_pure (p_move rfl) rfl ?_)
    refine R_cons rfl (op_pure (p_buildAll (ps := [(0, .tmp 10), (1, .const (.int .i64 63))]) rfl (by kernel_rfl)) rfl ?_)
    refine R_cons rfl (op_pure (p_move rfl) rfl ?_)
    refine R_cons rfl (op_pure (p_buildAll (ps := [(0, .tmp 12), (1, .const (.int .i64 1))]) rfl (by kernel_rfl)) rfl ?_)
    refine R_cons rfl (op_buildSliceR (ps := [(0, .tmp 11), (1, .tmp 13)]) (l := [pairV (bit, 63), pairV (side, 1)]) rfl rfl slr_i2s.1 elr_i2 (by intro x hx; simp only [List.mem_cons, List.not_mem_nil, or_false] at hx; rcases hx with rfl | rfl <;> rfl) rfl (by decide) (by decide) rfl (Nat.le_refl _) (fun b14 => ?_))
    refine R_cons rfl (op_callV rfl rfl Try.func51 rfl (by kernel_rfl) rfl (Nat.le_refl _) (fun w' hm => by have h := within_any b14 (bit, 63) (side, 1) w' (hm.readsAll (b := b14) (by repeat (first | exact List.Mem.head _ | apply List.Mem.tail)) rfl); rw [hd] at h; exact h) ?_)
    refine R_cons rfl (op_pure (p_not rfl) rfl ?_)
    refine R_nil ?_
    repeat (first | refine S_scope ?_ | refine S_label ?_ | refine E_noGoto_normal ?_ | refine E_noGoto_ret ?_ | refine E_noGoto_exit ?_ | refine S_yes rfl (by first | with_reducible rfl | decide) ?_ | refine S_no rfl (by first | with_reducible rfl | decide) ?_ | refine S_seq ?_ | refine E_seq ?_ | refine S_block ?_ | refine E_block_normal ?_ | refine S_skip ?_ | refine S_exit ?_ | refine S_ret ?_ | refine E_then_exit ?_ | refine E_then_ret ?_ | refine E_block_ret ?_ | refine E_block_exit ?_ | refine E_block_exit_other rfl ?_)
    refine S_region ?_
    refine R_cons rfl (op_pure (p_build (ps := []) (cs := bytesV (List.replicate 32 0)) rfl (by kernel_rfl)) rfl ?_)
    refine R_cons rfl (op_storeRow rfl rfl (by first | exact bytesV_one _ | exact wordsV_one _ | (repeat (first | exact ones_nil | refine ones_cons rfl ?_))) row_Sum (by first | assumption | rfl | (simp only [bytesV_length, wordsV_length]; omega) | (rw [bytesV_length]; exact Sha.sha_length _)) (by repeat (first | exact At.here | apply At.there)) (by first | exact Nat.le_of_ble_eq_true rfl | omega | (simp only [bytesV_length, wordsV_length, List.length_cons, List.length_nil, List.length_replicate]; omega) | (simp only [bytesV_length, Sha.sha_length, List.length_replicate] <;> omega)) ?_)
    refine R_cons rfl (op_pure (p_assign rfl) rfl ?_)
    refine R_nil ?_
    repeat (first | refine S_scope ?_ | refine S_label ?_ | refine E_noGoto_normal ?_ | refine E_noGoto_ret ?_ | refine E_noGoto_exit ?_ | refine S_yes rfl (by first | with_reducible rfl | decide) ?_ | refine S_no rfl (by first | with_reducible rfl | decide) ?_ | refine S_seq ?_ | refine E_seq ?_ | refine S_block ?_ | refine E_block_normal ?_ | refine S_skip ?_ | refine S_exit ?_ | refine S_ret ?_ | refine E_then_exit ?_ | refine E_then_ret ?_ | refine E_block_ret ?_ | refine E_block_exit ?_ | refine E_block_exit_other rfl ?_)
    rw [lay_whole (by rfl)]
    exact E_retRow1 rfl rfl rfl (by repeat (first | exact List.Mem.head _ | apply List.Mem.tail)) row_Sum (by rfl) fun w' hm => ⟨by rw [hS, hE], hm.below⟩

theorem mac_one (F : Nat) (hF : F = 33 ∨ F = 52) (A A2 B1 : Option Addr) (c2 : Nat) (m : List UInt8) (hml : m.length ≤ 1000000) (seed : List UInt8) (hs : seed.length = 32) (w : World) (hrd : Reads w A 32 (bytesV seed)) (hrd2 : Reads w A2 1 [.slice B1 m.length c2]) (h1 : Reads w B1 m.length (bytesV m)) (hc : m.length ≤ c2) (hm : c2 ≤ maxLen) :
    Calls Try.prog F [.slice A 32 32, .slice A2 1 1].toArray w fun e w' => e = .returned (.agg (bytesV (hmac seed m)).toArray) ∧ Below w.heap.size w w' := by
  have hok : ∀ s ∈ [(⟨B1, c2, m⟩ : Sl)], s.ok w := fun s hs => by
    rw [List.mem_singleton] at hs
    subst hs
    exact ⟨h1, hc, hm, (by show m.length ≤ _; omega)⟩
  have hup : upTo [(⟨B1, c2, m⟩ : Sl)] [(⟨B1, c2, m⟩ : Sl)].length = m := upTo_one _
  have htot : total [(⟨B1, c2, m⟩ : Sl)] ≤ 100000000000 := by rw [total_one]; show m.length ≤ _; omega
  rcases hF with rfl | rfl
  · have h := macOf_any A 32 32 seed w hs hrd (Nat.le_refl _) (by unfold maxLen; omega) (by omega) A2 1 [(⟨B1, c2, m⟩ : Sl)] hrd2 hok (Nat.le_of_ble_eq_true rfl) htot
    rw [hup] at h
    exact h
  · have h := refMac_any A 32 32 seed w hs hrd (by omega) A2 1 [(⟨B1, c2, m⟩ : Sl)] hrd2 hok (Nat.le_of_ble_eq_true rfl) htot
    rw [hup] at h
    exact h
theorem msg_eq (idx : Nat) (bit side : Int) : [111, 110, 99, 101] ++ digitsB idx 4 ++ [byteZ bit, byteZ side] = seedMsg idx bit side := by unfold seedMsg; rw [List.append_assoc]

set_option maxHeartbeats 4000000 in
theorem refSeedOf_any (seed : List UInt8) (hs : seed.length = 32) (idx : UInt32) (bit side : Int) (w : World) :
    Calls Try.prog 31 [.agg (bytesV seed).toArray, .int .u32 (idx.toNat : Int), .int .i64 bit, .int .i64 side].toArray w fun e w' => e = .returned (.tuple [.agg (bytesV (secretS seed idx.toNat bit side)).toArray, .int .i64 (secretE bit side)].toArray) ∧ Below w.heap.size w w' := by
  have hbs : (bytesV seed).length = 32 := by rw [bytesV_length, hs]
  have hml := hmac_length seed (seedMsg idx.toNat bit side)
  refine enter Try.func31 rfl Try.ntmps31 (by simp) ?_
  by_cases hok : okP bit side
  · have hS : secretS seed idx.toNat bit side = hmac seed (seedMsg idx.toNat bit side) := by unfold secretS; rw [if_pos hok]
    have hE : secretE bit side = 0 := by unfold secretE; rw [if_pos hok]
    have hi : idx.toNat ≤ 18446744073709551615 := by have := idx.toNat_lt; omega
    have hb1 := wrap_byteZ bit
    have hb2 := wrap_byteZ side
    have g1 : decide (bit < 0) = false := decide_eq_false (by unfold okP at hok; omega)
    have g2 : decide (64 ≤ bit) = false := decide_eq_false (by unfold okP at hok; omega)
    have g3 : decide (side < 0) = false := decide_eq_false (by unfold okP at hok; omega)
    have g4 : decide (1 < side) = false := decide_eq_false (by unfold okP at hok; omega)
    have l8 : ([111, 110, 99, 101] ++ digitsB idx.toNat 4).length = 8 := by rw [List.length_append, digitsB_length]; rfl
    have l10 := seedMsg_length idx.toNat bit side
    have hme := msg_eq idx.toNat bit side
    have hh := And.intro hi (And.intro hb1 (And.intro hb2 (And.intro g1 (And.intro g2 (And.intro g3 g4)))))
    clear hi hb1 hb2 g1 g2 g3 g4 hok
    repeat (first | refine S_scope ?_ | refine S_label ?_ | refine E_noGoto_normal ?_ | refine E_noGoto_ret ?_ | refine E_noGoto_exit ?_ | refine S_yes rfl (by first | with_reducible rfl | decide) ?_ | refine S_no rfl (by first | with_reducible rfl | decide) ?_ | refine S_seq ?_ | refine E_seq ?_ | refine S_block ?_ | refine E_block_normal ?_ | refine S_skip ?_ | refine S_exit ?_ | refine S_ret ?_ | refine E_then_exit ?_ | refine E_then_ret ?_ | refine E_block_ret ?_ | refine E_block_exit ?_ | refine E_block_exit_other rfl ?_)
    refine S_region ?_
    refine R_cons rfl (op_boxRow rfl rfl (Nat.le_refl _) (fun b4 => ?_))
    refine R_cons rfl (op_allocRow zero_Sum rfl (Nat.le_refl _) (fun b8 => ?_))
    refine R_cons rfl (op_pure (p_assign rfl) rfl ?_)
    refine R_nil ?_
    repeat (first | refine S_scope ?_ | refine S_label ?_ | refine E_noGoto_normal ?_ | refine E_noGoto_ret ?_ | refine E_noGoto_exit ?_ | refine S_yes rfl (by first | with_reducible rfl | decide) ?_ | refine S_no rfl (by first | with_reducible rfl | decide) ?_ | refine S_seq ?_ | refine E_seq ?_ | refine S_block ?_ | refine E_block_normal ?_ | refine S_skip ?_ | refine S_exit ?_ | refine S_ret ?_ | refine E_then_exit ?_ | refine E_then_ret ?_ | refine E_block_ret ?_ | refine E_block_exit ?_ | refine E_block_exit_other rfl ?_)
    refine S_region ?_
    refine R_cons rfl (op_pure (p_move rfl) rfl ?_)
    refine R_cons rfl (op_pure (p_bin rfl rfl (b_lss hh.2.2.2.1)) rfl ?_)
    refine R_cons rfl (op_pure (p_move rfl) rfl ?_)
    first | refine R_pass rfl rfl rfl rfl ?_ | refine R_pass_undef rfl rfl rfl ?_ | refine R_guard rfl rfl rfl (op_pure (p_move rfl) rfl ?_)
    first | refine R_pass rfl rfl rfl rfl ?_ | refine R_pass_undef rfl rfl rfl ?_ | refine R_guard rfl rfl rfl (op_pure (p_bin rfl rfl (b_geq hh.2.2.2.2.1)) rfl ?_)
    refine R_cons rfl (op_pure (by first | exact p_pick_yes rfl rfl | exact p_pick_no rfl rfl | exact p_pick rfl rfl rfl) rfl ?_)
    refine R_cons rfl (op_pure (p_move rfl) rfl ?_)
    first | refine R_pass rfl rfl rfl rfl ?_ | refine R_pass_undef rfl rfl rfl ?_ | refine R_guard rfl rfl rfl (op_pure (p_move rfl) rfl ?_)
    first | refine R_pass rfl rfl rfl rfl ?_ | refine R_pass_undef rfl rfl rfl ?_ | refine R_guard rfl rfl rfl (op_pure (p_bin rfl rfl (b_lss hh.2.2.2.2.2.1)) rfl ?_)
    refine R_cons rfl (op_pure (by first | exact p_pick_yes rfl rfl | exact p_pick_no rfl rfl | exact p_pick rfl rfl rfl) rfl ?_)
    refine R_cons rfl (op_pure (p_move rfl) rfl ?_)
    first | refine R_pass rfl rfl rfl rfl ?_ | refine R_pass_undef rfl rfl rfl ?_ | refine R_guard rfl rfl rfl (op_pure (p_move rfl) rfl ?_)
    first | refine R_pass rfl rfl rfl rfl ?_ | refine R_pass_undef rfl rfl rfl ?_ | refine R_guard rfl rfl rfl (op_pure (p_bin rfl rfl (b_gtr hh.2.2.2.2.2.2)) rfl ?_)
    refine R_cons rfl (op_pure (by first | exact p_pick_yes rfl rfl | exact p_pick_no rfl rfl | exact p_pick rfl rfl rfl) rfl ?_)
    refine R_nil ?_
    repeat (first | refine S_scope ?_ | refine S_label ?_ | refine E_noGoto_normal ?_ | refine E_noGoto_ret ?_ | refine E_noGoto_exit ?_ | refine S_yes rfl (by first | with_reducible rfl | decide) ?_ | refine S_no rfl (by first | with_reducible rfl | decide) ?_ | refine S_seq ?_ | refine E_seq ?_ | refine S_block ?_ | refine E_block_normal ?_ | refine S_skip ?_ | refine S_exit ?_ | refine S_ret ?_ | refine E_then_exit ?_ | refine E_then_ret ?_ | refine E_block_ret ?_ | refine E_block_exit ?_ | refine E_block_exit_other rfl ?_)
    refine S_region ?_
    refine R_cons rfl (op_buildSliceAll (ps := [(0, .const (.int .u8 111)), (1, .const (.int .u8 110)), (2, .const (.int .u8 99)), (3, .const (.int .u8 101))]) rfl slc_u8s.1 el_u8 (by decide) (by decide) (by first | kernel_rfl | rfl) rfl (Nat.le_refl _) (fun b26 => ?_))
    refine R_cons rfl (op_convBytes rfl slc_u8s.1 Try.underlying5 (by repeat (first | exact At.here | apply At.there)) rfl ?_)
    refine R_cons rfl (op_pure (p_move rfl) rfl ?_)
    refine R_cons rfl (op_pure (by exact p_convert rfl sc_u32 ik_u64 (by first | assumption | exact u8_nat _ | exact w8_i64 _ | exact w8_u64 _ | exact w8_u32n _ | exact w32_u64 _ | exact w32_i64 _ | exact w_in_i64 (by omega) | exact w_in_u64 (by omega) | exact w_in_u32 (by omega))) rfl ?_)
    refine R_cons rfl (op_callBuf (xs := [111, 110, 99, 101] ++ digitsB idx.toNat 4) rfl rfl Try.func44 rfl (by kernel_rfl) rfl (Nat.le_refl _) (fun w' hm => refPutBuf (some ⟨b26, 0, none⟩) 4 4 [111, 110, 99, 101] idx.toNat 4 w' rfl (hm.readsAll (b := b26) (by repeat (first | exact List.Mem.head _ | apply List.Mem.tail)) rfl) (by omega) hh.1 (by omega) (by omega)) (fun g sp hok5 => ?_))
    refine R_cons rfl (op_pure (p_assign rfl) rfl ?_)
    refine R_nil ?_
    repeat (first | refine S_scope ?_ | refine S_label ?_ | refine E_noGoto_normal ?_ | refine E_noGoto_ret ?_ | refine E_noGoto_exit ?_ | refine S_yes rfl (by first | with_reducible rfl | decide) ?_ | refine S_no rfl (by first | with_reducible rfl | decide) ?_ | refine S_seq ?_ | refine E_seq ?_ | refine S_block ?_ | refine E_block_normal ?_ | refine S_skip ?_ | refine S_exit ?_ | refine S_ret ?_ | refine E_then_exit ?_ | refine E_then_ret ?_ | refine E_block_ret ?_ | refine E_block_exit ?_ | refine E_block_exit_other rfl ?_)
    refine S_cut [(9, .int .i64 0), (8, .pointer (some ⟨b8, 0, none⟩))] [(b8, .cells (bytesV (hmac seed (seedMsg idx.toNat bit side))).toArray 23 (0, 0))] ?_ ?_
    · refine S_drawn (by kernel_rfl) (Fewer.drop (Fewer.drop (Fewer.drop (Fewer.refl _)))) ?_
      refine D_take 0 rfl (by kernel_rfl) (by kernel_rfl) (by kernel_rfl) (by repeat (first | exact calm_body | exact calm_mid | apply calm_noGoto | exact calm_midE | apply calm_then | apply calm_block)) (p_sliceArr rfl arr_Sum) rfl ?_
      refine D_take 1 rfl (by kernel_rfl) (by kernel_rfl) (by kernel_rfl) (by repeat (first | exact calm_body | exact calm_mid | apply calm_noGoto | exact calm_midE | apply calm_then | apply calm_block)) (p_move rfl) rfl ?_
      refine D_take 2 rfl (by kernel_rfl) (by kernel_rfl) (by kernel_rfl) (by repeat (first | exact calm_body | exact calm_mid | apply calm_noGoto | exact calm_midE | apply calm_then | apply calm_block)) (p_move rfl) rfl ?_
      refine D_take 3 rfl (by kernel_rfl) (by kernel_rfl) (by kernel_rfl) (by repeat (first | exact calm_body | exact calm_mid | apply calm_noGoto | exact calm_midE | apply calm_then | apply calm_block)) (p_convert rfl sc_int ik_u8 hh.2.1) rfl ?_
      refine D_take 4 rfl (by kernel_rfl) (by kernel_rfl) (by kernel_rfl) (by repeat (first | exact calm_body | exact calm_mid | apply calm_noGoto | exact calm_midE | apply calm_then | apply calm_block)) (p_move rfl) rfl ?_
      refine D_take 5 rfl (by kernel_rfl) (by kernel_rfl) (by kernel_rfl) (by repeat (first | exact calm_body | exact calm_mid | apply calm_noGoto | exact calm_midE | apply calm_then | apply calm_block)) (p_convert rfl sc_int ik_u8 hh.2.2.1) rfl ?_
      refine D_only 6 rfl (by kernel_rfl) rfl (op_buildSliceAll (ps := [(0, .tmp 34), (1, .tmp 36)]) rfl slc_u8s.1 el_u8 (by decide) (by decide) (by first | kernel_rfl | rfl) rfl (Nat.le_refl _) (fun b37 => ?_))
      refine ⟨(by repeat (first | exact Fewer.nil | refine Fewer.keep rfl ?_ | refine Fewer.drop ?_ | exact Fewer.refl _ | exact Fewer.inl _ _ | (simp only [List.append_nil]; first | exact Fewer.inl _ _ | exact Fewer.refl _))), ?_⟩
      refine D_only 7 rfl (by kernel_rfl) rfl (op_appendBuf (u := some (g, sp)) (xs := [111, 110, 99, 101] ++ digitsB idx.toNat 4) (ys := [byteZ bit, byteZ side]) rfl rfl slc_u8s.1 el_u8 (by repeat (first | exact DelB.tail | exact DelB.no rfl | exact DelB.at_ rfl (by repeat (first | exact Del.here | apply Del.there)) | apply DelB.there)) hok5 (fun w hm => hm.readsAll (b := b37) (by repeat (first | exact List.Mem.head _ | apply List.Mem.tail)) rfl) (by rw [l8]; simp) rfl (Nat.le_refl _) (fun u hoku hneu => ?_))
      refine ⟨(by repeat (first | exact Fewer.nil | refine Fewer.keep rfl ?_ | refine Fewer.drop ?_ | exact Fewer.refl _ | exact Fewer.inl _ _ | (simp only [List.append_nil]; first | exact Fewer.inl _ _ | exact Fewer.refl _))), ?_⟩
      refine D_only 8 rfl (by kernel_rfl) rfl (op_buildSliceAll (ps := [(0, .tmp 38)]) rfl slc_u8ss.1 el_u8s (by decide) (by decide) (by first | kernel_rfl | rfl) rfl (Nat.le_refl _) (fun b39 => ?_))
      refine ⟨(by repeat (first | exact Fewer.nil | refine Fewer.keep rfl ?_ | refine Fewer.drop ?_ | exact Fewer.refl _ | exact Fewer.inl _ _ | (simp only [List.append_nil]; first | exact Fewer.inl _ _ | exact Fewer.refl _))), ?_⟩
      refine D_only 9 rfl (by kernel_rfl) rfl (op_callV rfl rfl Try.func52 rfl (by kernel_rfl) rfl (Nat.le_refl _) (fun w' hm => by have h := mac_one 52 (.inr rfl) (some ⟨b4, 0, none⟩) (some ⟨b39, 0, none⟩) (Buf.addr u) (Buf.cap u ([111, 110, 99, 101] ++ digitsB idx.toNat 4 ++ [byteZ bit, byteZ side])) ([111, 110, 99, 101] ++ digitsB idx.toNat 4 ++ [byteZ bit, byteZ side]) (by rw [hme, l10]; omega) seed hs w' (hm.readsAll (b := b4) (by repeat (first | exact List.Mem.head _ | apply List.Mem.tail)) hbs) (hm.readsAll (b := b39) (by repeat (first | exact List.Mem.head _ | apply List.Mem.tail)) rfl) (hm.readsBuf (u := u) (e := 5) (by repeat (first | exact DelB.tail | exact DelB.no rfl | exact DelB.at_ rfl (by repeat (first | exact Del.here | apply Del.there)) | apply DelB.there)) hoku) (Buf.len_cap hoku) (Buf.cap_max hoku); rw [hme] at h; exact h) ?_)
      refine ⟨(by repeat (first | exact Fewer.nil | refine Fewer.keep rfl ?_ | refine Fewer.drop ?_ | exact Fewer.refl _ | exact Fewer.inl _ _ | (simp only [List.append_nil]; first | exact Fewer.inl _ _ | exact Fewer.refl _))), ?_⟩
      refine D_only 10 rfl (by kernel_rfl) rfl (op_storeRow rfl rfl (by first | exact bytesV_one _ | exact wordsV_one _ | (repeat (first | exact ones_nil | refine ones_cons rfl ?_))) row_Sum (by first | assumption | rfl | (simp only [bytesV_length, wordsV_length]; omega) | (rw [bytesV_length]; exact Sha.sha_length _)) (by repeat (first | exact At.here | apply At.there)) (by first | exact Nat.le_of_ble_eq_true rfl | omega | (simp only [bytesV_length, wordsV_length, List.length_cons, List.length_nil, List.length_replicate]; omega) | (simp only [bytesV_length, Sha.sha_length, List.length_replicate] <;> omega)) ?_)
      refine ⟨(by repeat (first | exact Fewer.nil | refine Fewer.keep rfl ?_ | refine Fewer.drop ?_ | exact Fewer.refl _ | exact Fewer.inl _ _ | (simp only [List.append_nil]; first | exact Fewer.inl _ _ | exact Fewer.refl _))), ?_⟩
      refine D_take 11 rfl (by kernel_rfl) (by kernel_rfl) (by kernel_rfl) (by repeat (first | exact calm_body | exact calm_mid | apply calm_noGoto | exact calm_midE | apply calm_then | apply calm_block)) (p_assign rfl) rfl ?_
      refine D_done (by kernel_rfl) ?_
      refine E_mid (by repeat (first | exact Sub.nil | refine Sub.cons rfl ?_)) ?_
      rw [lay_whole (by rw [bytesV_length, bytesV_length, hml]; rfl)]
      repeat (first | exact .keep rfl .nil | refine .drop ?_)
    · repeat (first | refine S_scope ?_ | refine S_label ?_ | refine E_noGoto_normal ?_ | refine E_noGoto_ret ?_ | refine E_noGoto_exit ?_ | refine S_yes rfl (by first | with_reducible rfl | decide) ?_ | refine S_no rfl (by first | with_reducible rfl | decide) ?_ | refine S_seq ?_ | refine E_seq ?_ | refine S_block ?_ | refine E_block_normal ?_ | refine S_skip ?_ | refine S_exit ?_ | refine S_ret ?_ | refine E_then_exit ?_ | refine E_then_ret ?_ | refine E_block_ret ?_ | refine E_block_exit ?_ | refine E_block_exit_other rfl ?_)
      exact E_retRow1 rfl rfl rfl (by repeat (first | exact List.Mem.head _ | apply List.Mem.tail)) row_Sum (by rw [bytesV_length, hml]) fun w' hm => ⟨by rw [hS, hE], hm.below⟩
  · have hS : secretS seed idx.toNat bit side = List.replicate 32 0 := by unfold secretS; rw [if_neg hok]
    have hE : secretE bit side = 1 := by unfold secretE; rw [if_neg hok]
    have h4 : bit < 0 ∨ (¬ bit < 0 ∧ 64 ≤ bit) ∨ (¬ bit < 0 ∧ ¬ 64 ≤ bit ∧ side < 0) ∨ (¬ bit < 0 ∧ ¬ 64 ≤ bit ∧ ¬ side < 0 ∧ 1 < side) := by unfold okP at hok; omega
    clear hok
    rcases h4 with h | ⟨h1, h⟩ | ⟨h1, h2, h⟩ | ⟨h1, h2, h3, h⟩
    · have g1 : decide (bit < 0) = true := decide_eq_true h
      repeat (first | refine S_scope ?_ | refine S_label ?_ | refine E_noGoto_normal ?_ | refine E_noGoto_ret ?_ | refine E_noGoto_exit ?_ | refine S_yes rfl (by first | with_reducible rfl | decide) ?_ | refine S_no rfl (by first | with_reducible rfl | decide) ?_ | refine S_seq ?_ | refine E_seq ?_ | refine S_block ?_ | refine E_block_normal ?_ | refine S_skip ?_ | refine S_exit ?_ | refine S_ret ?_ | refine E_then_exit ?_ | refine E_then_ret ?_ | refine E_block_ret ?_ | refine E_block_exit ?_ | refine E_block_exit_other rfl ?_)
      refine S_region ?_
      refine R_cons rfl (op_boxRow rfl rfl (Nat.le_refl _) (fun b4 => ?_))
      refine R_cons rfl (op_allocRow zero_Sum rfl (Nat.le_refl _) (fun b8 => ?_))
      refine R_cons rfl (op_pure (p_assign rfl) rfl ?_)
      refine R_nil ?_
      repeat (first | refine S_scope ?_ | refine S_label ?_ | refine E_noGoto_normal ?_ | refine E_noGoto_ret ?_ | refine E_noGoto_exit ?_ | refine S_yes rfl (by first | with_reducible rfl | decide) ?_ | refine S_no rfl (by first | with_reducible rfl | decide) ?_ | refine S_seq ?_ | refine E_seq ?_ | refine S_block ?_ | refine E_block_normal ?_ | refine S_skip ?_ | refine S_exit ?_ | refine S_ret ?_ | refine E_then_exit ?_ | refine E_then_ret ?_ | refine E_block_ret ?_ | refine E_block_exit ?_ | refine E_block_exit_other rfl ?_)
      refine S_region ?_
      refine R_cons rfl (op_pure (p_move rfl) rfl ?_)
      refine R_cons rfl (op_pure (p_bin rfl rfl (b_lss g1)) rfl ?_)
      refine R_cons rfl (op_pure (p_move rfl) rfl ?_)
      first | refine R_pass rfl rfl rfl rfl ?_ | refine R_pass_undef rfl rfl rfl ?_ | refine R_guard rfl rfl rfl (op_pure (p_move rfl) rfl ?_)
      first | refine R_pass rfl rfl rfl rfl ?_ | refine R_pass_undef rfl rfl rfl ?_ | refine R_guard rfl rfl rfl (op_pure (p_bin rfl rfl (b_geq hh.2.2.2.2.1)) rfl ?_)
      refine R_cons rfl (op_pure (by first | exact p_pick_yes rfl rfl | exact p_pick_no rfl rfl | exact p_pick rfl rfl rfl) rfl ?_)
      refine R_cons rfl (op_pure (p_move rfl) rfl ?_)
      first | refine R_pass rfl rfl rfl rfl ?_ | refine R_pass_undef rfl rfl rfl ?_ | refine R_guard rfl rfl rfl (op_pure (p_move rfl) rfl ?_)
      first | refine R_pass rfl rfl rfl rfl ?_ | refine R_pass_undef rfl rfl rfl ?_ | refine R_guard rfl rfl rfl (op_pure (p_bin rfl rfl (b_lss hh.2.2.2.2.2.1)) rfl ?_)
      refine R_cons rfl (op_pure (by first | exact p_pick_yes rfl rfl | exact p_pick_no rfl rfl | exact p_pick rfl rfl rfl) rfl ?_)
      refine R_cons rfl (op_pure (p_move rfl) rfl ?_)
      first | refine R_pass rfl rfl rfl rfl ?_ | refine R_pass_undef rfl rfl rfl ?_ | refine R_guard rfl rfl rfl (op_pure (p_move rfl) rfl ?_)
      first | refine R_pass rfl rfl rfl rfl ?_ | refine R_pass_undef rfl rfl rfl ?_ | refine R_guard rfl rfl rfl (op_pure (p_bin rfl rfl (b_gtr hh.2.2.2.2.2.2)) rfl ?_)
      refine R_cons rfl (op_pure (by first | exact p_pick_yes rfl rfl | exact p_pick_no rfl rfl | exact p_pick rfl rfl rfl) rfl ?_)
      refine R_nil ?_
      repeat (first | refine S_scope ?_ | refine S_label ?_ | refine E_noGoto_normal ?_ | refine E_noGoto_ret ?_ | refine E_noGoto_exit ?_ | refine S_yes rfl (by first | with_reducible rfl | decide) ?_ | refine S_no rfl (by first | with_reducible rfl | decide) ?_ | refine S_seq ?_ | refine E_seq ?_ | refine S_block ?_ | refine E_block_normal ?_ | refine S_skip ?_ | refine S_exit ?_ | refine S_ret ?_ | refine E_then_exit ?_ | refine E_then_ret ?_ | refine E_block_ret ?_ | refine E_block_exit ?_ | refine E_block_exit_other rfl ?_)
      refine S_region ?_
      refine R_cons rfl (op_pure (p_build (ps := []) (cs := bytesV (List.replicate 32 0)) rfl (by kernel_rfl)) rfl ?_)
      refine R_cons rfl (op_storeRow rfl rfl (by first | exact bytesV_one _ | exact wordsV_one _ | (repeat (first | exact ones_nil | refine ones_cons rfl ?_))) row_Sum (by first | assumption | rfl | (simp only [bytesV_length, wordsV_length]; omega) | (rw [bytesV_length]; exact Sha.sha_length _)) (by repeat (first | exact At.here | apply At.there)) (by first | exact Nat.le_of_ble_eq_true rfl | omega | (simp only [bytesV_length, wordsV_length, List.length_cons, List.length_nil, List.length_replicate]; omega) | (simp only [bytesV_length, Sha.sha_length, List.length_replicate] <;> omega)) ?_)
      refine R_cons rfl (op_pure (p_assign rfl) rfl ?_)
      refine R_nil ?_
      repeat (first | refine S_scope ?_ | refine S_label ?_ | refine E_noGoto_normal ?_ | refine E_noGoto_ret ?_ | refine E_noGoto_exit ?_ | refine S_yes rfl (by first | with_reducible rfl | decide) ?_ | refine S_no rfl (by first | with_reducible rfl | decide) ?_ | refine S_seq ?_ | refine E_seq ?_ | refine S_block ?_ | refine E_block_normal ?_ | refine S_skip ?_ | refine S_exit ?_ | refine S_ret ?_ | refine E_then_exit ?_ | refine E_then_ret ?_ | refine E_block_ret ?_ | refine E_block_exit ?_ | refine E_block_exit_other rfl ?_)
      rw [lay_whole (by rfl)]
      exact E_retRow1 rfl rfl rfl (by repeat (first | exact List.Mem.head _ | apply List.Mem.tail)) row_Sum (by rfl) fun w' hm => ⟨by rw [hS, hE], hm.below⟩
    · have g1 : decide (bit < 0) = false := decide_eq_false h1
      have g2 : decide (64 ≤ bit) = true := decide_eq_true h
      repeat (first | refine S_scope ?_ | refine S_label ?_ | refine E_noGoto_normal ?_ | refine E_noGoto_ret ?_ | refine E_noGoto_exit ?_ | refine S_yes rfl (by first | with_reducible rfl | decide) ?_ | refine S_no rfl (by first | with_reducible rfl | decide) ?_ | refine S_seq ?_ | refine E_seq ?_ | refine S_block ?_ | refine E_block_normal ?_ | refine S_skip ?_ | refine S_exit ?_ | refine S_ret ?_ | refine E_then_exit ?_ | refine E_then_ret ?_ | refine E_block_ret ?_ | refine E_block_exit ?_ | refine E_block_exit_other rfl ?_)
      refine S_region ?_
      refine R_cons rfl (op_boxRow rfl rfl (Nat.le_refl _) (fun b4 => ?_))
      refine R_cons rfl (op_allocRow zero_Sum rfl (Nat.le_refl _) (fun b8 => ?_))
      refine R_cons rfl (op_pure (p_assign rfl) rfl ?_)
      refine R_nil ?_
      repeat (first | refine S_scope ?_ | refine S_label ?_ | refine E_noGoto_normal ?_ | refine E_noGoto_ret ?_ | refine E_noGoto_exit ?_ | refine S_yes rfl (by first | with_reducible rfl | decide) ?_ | refine S_no rfl (by first | with_reducible rfl | decide) ?_ | refine S_seq ?_ | refine E_seq ?_ | refine S_block ?_ | refine E_block_normal ?_ | refine S_skip ?_ | refine S_exit ?_ | refine S_ret ?_ | refine E_then_exit ?_ | refine E_then_ret ?_ | refine E_block_ret ?_ | refine E_block_exit ?_ | refine E_block_exit_other rfl ?_)
      refine S_region ?_
      refine R_cons rfl (op_pure (p_move rfl) rfl ?_)
      refine R_cons rfl (op_pure (p_bin rfl rfl (b_lss g1)) rfl ?_)
      refine R_cons rfl (op_pure (p_move rfl) rfl ?_)
      first | refine R_pass rfl rfl rfl rfl ?_ | refine R_pass_undef rfl rfl rfl ?_ | refine R_guard rfl rfl rfl (op_pure (p_move rfl) rfl ?_)
      first | refine R_pass rfl rfl rfl rfl ?_ | refine R_pass_undef rfl rfl rfl ?_ | refine R_guard rfl rfl rfl (op_pure (p_bin rfl rfl (b_geq g2)) rfl ?_)
      refine R_cons rfl (op_pure (by first | exact p_pick_yes rfl rfl | exact p_pick_no rfl rfl | exact p_pick rfl rfl rfl) rfl ?_)
      refine R_cons rfl (op_pure (p_move rfl) rfl ?_)
      first | refine R_pass rfl rfl rfl rfl ?_ | refine R_pass_undef rfl rfl rfl ?_ | refine R_guard rfl rfl rfl (op_pure (p_move rfl) rfl ?_)
      first | refine R_pass rfl rfl rfl rfl ?_ | refine R_pass_undef rfl rfl rfl ?_ | refine R_guard rfl rfl rfl (op_pure (p_bin rfl rfl (b_lss hh.2.2.2.2.2.1)) rfl ?_)
      refine R_cons rfl (op_pure (by first | exact p_pick_yes rfl rfl | exact p_pick_no rfl rfl | exact p_pick rfl rfl rfl) rfl ?_)
      refine R_cons rfl (op_pure (p_move rfl) rfl ?_)
      first | refine R_pass rfl rfl rfl rfl ?_ | refine R_pass_undef rfl rfl rfl ?_ | refine R_guard rfl rfl rfl (op_pure (p_move rfl) rfl ?_)
      first | refine R_pass rfl rfl rfl rfl ?_ | refine R_pass_undef rfl rfl rfl ?_ | refine R_guard rfl rfl rfl (op_pure (p_bin rfl rfl (b_gtr hh.2.2.2.2.2.2)) rfl ?_)
      refine R_cons rfl (op_pure (by first | exact p_pick_yes rfl rfl | exact p_pick_no rfl rfl | exact p_pick rfl rfl rfl) rfl ?_)
      refine R_nil ?_
      repeat (first | refine S_scope ?_ | refine S_label ?_ | refine E_noGoto_normal ?_ | refine E_noGoto_ret ?_ | refine E_noGoto_exit ?_ | refine S_yes rfl (by first | with_reducible rfl | decide) ?_ | refine S_no rfl (by first | with_reducible rfl | decide) ?_ | refine S_seq ?_ | refine E_seq ?_ | refine S_block ?_ | refine E_block_normal ?_ | refine S_skip ?_ | refine S_exit ?_ | refine S_ret ?_ | refine E_then_exit ?_ | refine E_then_ret ?_ | refine E_block_ret ?_ | refine E_block_exit ?_ | refine E_block_exit_other rfl ?_)
      refine S_region ?_
      refine R_cons rfl (op_pure (p_build (ps := []) (cs := bytesV (List.replicate 32 0)) rfl (by kernel_rfl)) rfl ?_)
      refine R_cons rfl (op_storeRow rfl rfl (by first | exact bytesV_one _ | exact wordsV_one _ | (repeat (first | exact ones_nil | refine ones_cons rfl ?_))) row_Sum (by first | assumption | rfl | (simp only [bytesV_length, wordsV_length]; omega) | (rw [bytesV_length]; exact Sha.sha_length _)) (by repeat (first | exact At.here | apply At.there)) (by first | exact Nat.le_of_ble_eq_true rfl | omega | (simp only [bytesV_length, wordsV_length, List.length_cons, List.length_nil, List.length_replicate]; omega) | (simp only [bytesV_length, Sha.sha_length, List.length_replicate] <;> omega)) ?_)
      refine R_cons rfl (op_pure (p_assign rfl) rfl ?_)
      refine R_nil ?_
      repeat (first | refine S_scope ?_ | refine S_label ?_ | refine E_noGoto_normal ?_ | refine E_noGoto_ret ?_ | refine E_noGoto_exit ?_ | refine S_yes rfl (by first | with_reducible rfl | decide) ?_ | refine S_no rfl (by first | with_reducible rfl | decide) ?_ | refine S_seq ?_ | refine E_seq ?_ | refine S_block ?_ | refine E_block_normal ?_ | refine S_skip ?_ | refine S_exit ?_ | refine S_ret ?_ | refine E_then_exit ?_ | refine E_then_ret ?_ | refine E_block_ret ?_ | refine E_block_exit ?_ | refine E_block_exit_other rfl ?_)
      rw [lay_whole (by rfl)]
      exact E_retRow1 rfl rfl rfl (by repeat (first | exact List.Mem.head _ | apply List.Mem.tail)) row_Sum (by rfl) fun w' hm => ⟨by rw [hS, hE], hm.below⟩
    · have g1 : decide (bit < 0) = false := decide_eq_false h1
      have g2 : decide (64 ≤ bit) = false := decide_eq_false h2
      have g3 : decide (side < 0) = true := decide_eq_true h
      repeat (first | refine S_scope ?_ | refine S_label ?_ | refine E_noGoto_normal ?_ | refine E_noGoto_ret ?_ | refine E_noGoto_exit ?_ | refine S_yes rfl (by first | with_reducible rfl | decide) ?_ | refine S_no rfl (by first | with_reducible rfl | decide) ?_ | refine S_seq ?_ | refine E_seq ?_ | refine S_block ?_ | refine E_block_normal ?_ | refine S_skip ?_ | refine S_exit ?_ | refine S_ret ?_ | refine E_then_exit ?_ | refine E_then_ret ?_ | refine E_block_ret ?_ | refine E_block_exit ?_ | refine E_block_exit_other rfl ?_)
      refine S_region ?_
      refine R_cons rfl (op_boxRow rfl rfl (Nat.le_refl _) (fun b4 => ?_))
      refine R_cons rfl (op_allocRow zero_Sum rfl (Nat.le_refl _) (fun b8 => ?_))
      refine R_cons rfl (op_pure (p_assign rfl) rfl ?_)
      refine R_nil ?_
      repeat (first | refine S_scope ?_ | refine S_label ?_ | refine E_noGoto_normal ?_ | refine E_noGoto_ret ?_ | refine E_noGoto_exit ?_ | refine S_yes rfl (by first | with_reducible rfl | decide) ?_ | refine S_no rfl (by first | with_reducible rfl | decide) ?_ | refine S_seq ?_ | refine E_seq ?_ | refine S_block ?_ | refine E_block_normal ?_ | refine S_skip ?_ | refine S_exit ?_ | refine S_ret ?_ | refine E_then_exit ?_ | refine E_then_ret ?_ | refine E_block_ret ?_ | refine E_block_exit ?_ | refine E_block_exit_other rfl ?_)
      refine S_region ?_
      refine R_cons rfl (op_pure (p_move rfl) rfl ?_)
      refine R_cons rfl (op_pure (p_bin rfl rfl (b_lss g1)) rfl ?_)
      refine R_cons rfl (op_pure (p_move rfl) rfl ?_)
      first | refine R_pass rfl rfl rfl rfl ?_ | refine R_pass_undef rfl rfl rfl ?_ | refine R_guard rfl rfl rfl (op_pure (p_move rfl) rfl ?_)
      first | refine R_pass rfl rfl rfl rfl ?_ | refine R_pass_undef rfl rfl rfl ?_ | refine R_guard rfl rfl rfl (op_pure (p_bin rfl rfl (b_geq g2)) rfl ?_)
      refine R_cons rfl (op_pure (by first | exact p_pick_yes rfl rfl | exact p_pick_no rfl rfl | exact p_pick rfl rfl rfl) rfl ?_)
      refine R_cons rfl (op_pure (p_move rfl) rfl ?_)
      first | refine R_pass rfl rfl rfl rfl ?_ | refine R_pass_undef rfl rfl rfl ?_ | refine R_guard rfl rfl rfl (op_pure (p_move rfl) rfl ?_)
      first | refine R_pass rfl rfl rfl rfl ?_ | refine R_pass_undef rfl rfl rfl ?_ | refine R_guard rfl rfl rfl (op_pure (p_bin rfl rfl (b_lss g3)) rfl ?_)
      refine R_cons rfl (op_pure (by first | exact p_pick_yes rfl rfl | exact p_pick_no rfl rfl | exact p_pick rfl rfl rfl) rfl ?_)
      refine R_cons rfl (op_pure (p_move rfl) rfl ?_)
      first | refine R_pass rfl rfl rfl rfl ?_ | refine R_pass_undef rfl rfl rfl ?_ | refine R_guard rfl rfl rfl (op_pure (p_move rfl) rfl ?_)
      first | refine R_pass rfl rfl rfl rfl ?_ | refine R_pass_undef rfl rfl rfl ?_ | refine R_guard rfl rfl rfl (op_pure (p_bin rfl rfl (b_gtr hh.2.2.2.2.2.2)) rfl ?_)
      refine R_cons rfl (op_pure (by first | exact p_pick_yes rfl rfl | exact p_pick_no rfl rfl | exact p_pick rfl rfl rfl) rfl ?_)
      refine R_nil ?_
      repeat (first | refine S_scope ?_ | refine S_label ?_ | refine E_noGoto_normal ?_ | refine E_noGoto_ret ?_ | refine E_noGoto_exit ?_ | refine S_yes rfl (by first | with_reducible rfl | decide) ?_ | refine S_no rfl (by first | with_reducible rfl | decide) ?_ | refine S_seq ?_ | refine E_seq ?_ | refine S_block ?_ | refine E_block_normal ?_ | refine S_skip ?_ | refine S_exit ?_ | refine S_ret ?_ | refine E_then_exit ?_ | refine E_then_ret ?_ | refine E_block_ret ?_ | refine E_block_exit ?_ | refine E_block_exit_other rfl ?_)
      refine S_region ?_
      refine R_cons rfl (op_pure (p_build (ps := []) (cs := bytesV (List.replicate 32 0)) rfl (by kernel_rfl)) rfl ?_)
      refine R_cons rfl (op_storeRow rfl rfl (by first | exact bytesV_one _ | exact wordsV_one _ | (repeat (first | exact ones_nil | refine ones_cons rfl ?_))) row_Sum (by first | assumption | rfl | (simp only [bytesV_length, wordsV_length]; omega) | (rw [bytesV_length]; exact Sha.sha_length _)) (by repeat (first | exact At.here | apply At.there)) (by first | exact Nat.le_of_ble_eq_true rfl | omega | (simp only [bytesV_length, wordsV_length, List.length_cons, List.length_nil, List.length_replicate]; omega) | (simp only [bytesV_length, Sha.sha_length, List.length_replicate] <;> omega)) ?_)
      refine R_cons rfl (op_pure (p_assign rfl) rfl ?_)
      refine R_nil ?_
      repeat (first | refine S_scope ?_ | refine S_label ?_ | refine E_noGoto_normal ?_ | refine E_noGoto_ret ?_ | refine E_noGoto_exit ?_ | refine S_yes rfl (by first | with_reducible rfl | decide) ?_ | refine S_no rfl (by first | with_reducible rfl | decide) ?_ | refine S_seq ?_ | refine E_seq ?_ | refine S_block ?_ | refine E_block_normal ?_ | refine S_skip ?_ | refine S_exit ?_ | refine S_ret ?_ | refine E_then_exit ?_ | refine E_then_ret ?_ | refine E_block_ret ?_ | refine E_block_exit ?_ | refine E_block_exit_other rfl ?_)
      rw [lay_whole (by rfl)]
      exact E_retRow1 rfl rfl rfl (by repeat (first | exact List.Mem.head _ | apply List.Mem.tail)) row_Sum (by rfl) fun w' hm => ⟨by rw [hS, hE], hm.below⟩
    · have g1 : decide (bit < 0) = false := decide_eq_false h1
      have g2 : decide (64 ≤ bit) = false := decide_eq_false h2
      have g3 : decide (side < 0) = false := decide_eq_false h3
      have g4 : decide (1 < side) = true := decide_eq_true h
      repeat (first | refine S_scope ?_ | refine S_label ?_ | refine E_noGoto_normal ?_ | refine E_noGoto_ret ?_ | refine E_noGoto_exit ?_ | refine S_yes rfl (by first | with_reducible rfl | decide) ?_ | refine S_no rfl (by first | with_reducible rfl | decide) ?_ | refine S_seq ?_ | refine E_seq ?_ | refine S_block ?_ | refine E_block_normal ?_ | refine S_skip ?_ | refine S_exit ?_ | refine S_ret ?_ | refine E_then_exit ?_ | refine E_then_ret ?_ | refine E_block_ret ?_ | refine E_block_exit ?_ | refine E_block_exit_other rfl ?_)
      refine S_region ?_
      refine R_cons rfl (op_boxRow rfl rfl (Nat.le_refl _) (fun b4 => ?_))
      refine R_cons rfl (op_allocRow zero_Sum rfl (Nat.le_refl _) (fun b8 => ?_))
      refine R_cons rfl (op_pure (p_assign rfl) rfl ?_)
      refine R_nil ?_
      repeat (first | refine S_scope ?_ | refine S_label ?_ | refine E_noGoto_normal ?_ | refine E_noGoto_ret ?_ | refine E_noGoto_exit ?_ | refine S_yes rfl (by first | with_reducible rfl | decide) ?_ | refine S_no rfl (by first | with_reducible rfl | decide) ?_ | refine S_seq ?_ | refine E_seq ?_ | refine S_block ?_ | refine E_block_normal ?_ | refine S_skip ?_ | refine S_exit ?_ | refine S_ret ?_ | refine E_then_exit ?_ | refine E_then_ret ?_ | refine E_block_ret ?_ | refine E_block_exit ?_ | refine E_block_exit_other rfl ?_)
      refine S_region ?_
      refine R_cons rfl (op_pure (p_move rfl) rfl ?_)
      refine R_cons rfl (op_pure (p_bin rfl rfl (b_lss g1)) rfl ?_)
      refine R_cons rfl (op_pure (p_move rfl) rfl ?_)
      first | refine R_pass rfl rfl rfl rfl ?_ | refine R_pass_undef rfl rfl rfl ?_ | refine R_guard rfl rfl rfl (op_pure (p_move rfl) rfl ?_)
      first | refine R_pass rfl rfl rfl rfl ?_ | refine R_pass_undef rfl rfl rfl ?_ | refine R_guard rfl rfl rfl (op_pure (p_bin rfl rfl (b_geq g2)) rfl ?_)
      refine R_cons rfl (op_pure (by first | exact p_pick_yes rfl rfl | exact p_pick_no rfl rfl | exact p_pick rfl rfl rfl) rfl ?_)
      refine R_cons rfl (op_pure (p_move rfl) rfl ?_)
      first | refine R_pass rfl rfl rfl rfl ?_ | refine R_pass_undef rfl rfl rfl ?_ | refine R_guard rfl rfl rfl (op_pure (p_move rfl) rfl ?_)
      first | refine R_pass rfl rfl rfl rfl ?_ | refine R_pass_undef rfl rfl rfl ?_ | refine R_guard rfl rfl rfl (op_pure (p_bin rfl rfl (b_lss g3)) rfl ?_)
      refine R_cons rfl (op_pure (by first | exact p_pick_yes rfl rfl | exact p_pick_no rfl rfl | exact p_pick rfl rfl rfl) rfl ?_)
      refine R_cons rfl (op_pure (p_move rfl) rfl ?_)
      first | refine R_pass rfl rfl rfl rfl ?_ | refine R_pass_undef rfl rfl rfl ?_ | refine R_guard rfl rfl rfl (op_pure (p_move rfl) rfl ?_)
      first | refine R_pass rfl rfl rfl rfl ?_ | refine R_pass_undef rfl rfl rfl ?_ | refine R_guard rfl rfl rfl (op_pure (p_bin rfl rfl (b_gtr g4)) rfl ?_)
      refine R_cons rfl (op_pure (by first | exact p_pick_yes rfl rfl | exact p_pick_no rfl rfl | exact p_pick rfl rfl rfl) rfl ?_)
      refine R_nil ?_
      repeat (first | refine S_scope ?_ | refine S_label ?_ | refine E_noGoto_normal ?_ | refine E_noGoto_ret ?_ | refine E_noGoto_exit ?_ | refine S_yes rfl (by first | with_reducible rfl | decide) ?_ | refine S_no rfl (by first | with_reducible rfl | decide) ?_ | refine S_seq ?_ | refine E_seq ?_ | refine S_block ?_ | refine E_block_normal ?_ | refine S_skip ?_ | refine S_exit ?_ | refine S_ret ?_ | refine E_then_exit ?_ | refine E_then_ret ?_ | refine E_block_ret ?_ | refine E_block_exit ?_ | refine E_block_exit_other rfl ?_)
      refine S_region ?_
      refine R_cons rfl (op_pure (p_build (ps := []) (cs := bytesV (List.replicate 32 0)) rfl (by kernel_rfl)) rfl ?_)
      refine R_cons rfl (op_storeRow rfl rfl (by first | exact bytesV_one _ | exact wordsV_one _ | (repeat (first | exact ones_nil | refine ones_cons rfl ?_))) row_Sum (by first | assumption | rfl | (simp only [bytesV_length, wordsV_length]; omega) | (rw [bytesV_length]; exact Sha.sha_length _)) (by repeat (first | exact At.here | apply At.there)) (by first | exact Nat.le_of_ble_eq_true rfl | omega | (simp only [bytesV_length, wordsV_length, List.length_cons, List.length_nil, List.length_replicate]; omega) | (simp only [bytesV_length, Sha.sha_length, List.length_replicate] <;> omega)) ?_)
      refine R_cons rfl (op_pure (p_assign rfl) rfl ?_)
      refine R_nil ?_
      repeat (first | refine S_scope ?_ | refine S_label ?_ | refine E_noGoto_normal ?_ | refine E_noGoto_ret ?_ | refine E_noGoto_exit ?_ | refine S_yes rfl (by first | with_reducible rfl | decide) ?_ | refine S_no rfl (by first | with_reducible rfl | decide) ?_ | refine S_seq ?_ | refine E_seq ?_ | refine S_block ?_ | refine E_block_normal ?_ | refine S_skip ?_ | refine S_exit ?_ | refine S_ret ?_ | refine E_then_exit ?_ | refine E_then_ret ?_ | refine E_block_ret ?_ | refine E_block_exit ?_ | refine E_block_exit_other rfl ?_)
      rw [lay_whole (by rfl)]
      exact E_retRow1 rfl rfl rfl (by repeat (first | exact List.Mem.head _ | apply List.Mem.tail)) row_Sum (by rfl) fun w' hm => ⟨by rw [hS, hE], hm.below⟩

set_option maxHeartbeats 4000000 in
theorem lives18 (w : World) : Calls Try.prog 32 #[] w fun e w' => e = .returned (.bool true) ∧ Below w.heap.size w w' := by
  have e0 : secretE 0 0 = 0 := by decide
  have e1 : secretE 64 0 = 1 := by decide
  have e2 : secretE 0 2 = 1 := by decide
  have e3 : secretE (-1) 0 = 1 := by decide
  have s0 : secretS (List.replicate 32 0) 0 0 0 = hmac (List.replicate 32 0) [111, 110, 99, 101, 0, 0, 0, 0, 0, 0] := by
    unfold secretS
    rw [if_pos (by decide), show seedMsg 0 0 0 = [111, 110, 99, 101, 0, 0, 0, 0, 0, 0] from by decide +kernel]
  have l0 := secretS_length (List.replicate 32 0) 0 0 0
  have l1 := secretS_length (List.replicate 32 0) 0 64 0
  have l2 := secretS_length (List.replicate 32 0) 0 0 2
  have l3 := secretS_length (List.replicate 32 0) 0 (-1) 0
  have lm := hmac_length (List.replicate 32 0) [111, 110, 99, 101, 0, 0, 0, 0, 0, 0]
  have hz : (List.replicate 32 (0 : UInt8)).length = 32 := by simp
  have hq : (secretS (List.replicate 32 0) 0 0 0 == hmac (List.replicate 32 0) [111, 110, 99, 101, 0, 0, 0, 0, 0, 0]) = true := by rw [s0]; exact beq_self_eq_true _
  clear s0
  refine enter Try.func32 rfl Try.ntmps32 (by simp) ?_
  have hlay : ∀ x : List UInt8, x.length = 32 → lay (bytesV (List.replicate 32 0)) 0 (bytesV x) = bytesV x := fun x hx => lay_whole (by rw [bytesV_length, bytesV_length, hx]; rfl)
  have hhide := And.intro e0 (And.intro e1 (And.intro e2 e3))
  repeat (first | refine S_scope ?_ | refine S_label ?_ | refine E_noGoto_normal ?_ | refine E_noGoto_ret ?_ | refine E_noGoto_exit ?_ | refine S_yes rfl (by first | with_reducible rfl | decide) ?_ | refine S_no rfl (by first | with_reducible rfl | decide) ?_ | refine S_seq ?_ | refine E_seq ?_ | refine S_block ?_ | refine E_block_normal ?_ | refine S_skip ?_ | refine S_exit ?_ | refine S_ret ?_ | refine E_then_exit ?_ | refine E_then_ret ?_ | refine E_block_ret ?_ | refine E_block_exit ?_ | refine E_block_exit_other rfl ?_)
  refine S_region ?_
  refine R_cons rfl (op_pure (p_assign rfl) rfl ?_)
  refine R_nil ?_
  repeat (first | refine S_scope ?_ | refine S_label ?_ | refine E_noGoto_normal ?_ | refine E_noGoto_ret ?_ | refine E_noGoto_exit ?_ | refine S_yes rfl (by first | with_reducible rfl | decide) ?_ | refine S_no rfl (by first | with_reducible rfl | decide) ?_ | refine S_seq ?_ | refine E_seq ?_ | refine S_block ?_ | refine E_block_normal ?_ | refine S_skip ?_ | refine S_exit ?_ | refine S_ret ?_ | refine E_then_exit ?_ | refine E_then_ret ?_ | refine E_block_ret ?_ | refine E_block_exit ?_ | refine E_block_exit_other rfl ?_)
  refine S_region ?_
  refine R_cons rfl (op_allocRow zero_Sum rfl (Nat.le_refl _) (fun b1 => ?_))
  refine R_nil ?_
  repeat (first | refine S_scope ?_ | refine S_label ?_ | refine E_noGoto_normal ?_ | refine E_noGoto_ret ?_ | refine E_noGoto_exit ?_ | refine S_yes rfl (by first | with_reducible rfl | decide) ?_ | refine S_no rfl (by first | with_reducible rfl | decide) ?_ | refine S_seq ?_ | refine E_seq ?_ | refine S_block ?_ | refine E_block_normal ?_ | refine S_skip ?_ | refine S_exit ?_ | refine S_ret ?_ | refine E_then_exit ?_ | refine E_then_ret ?_ | refine E_block_ret ?_ | refine E_block_exit ?_ | refine E_block_exit_other rfl ?_)
  refine S_region ?_
  refine R_cons rfl (op_pure (by first | exact p_loadRow rfl row_Sum (by repeat (first | exact List.Mem.head _ | apply List.Mem.tail)) (by first | assumption | rfl | (simp only [bytesV_length, wordsV_length]; omega)) | exact p_loadPart rfl row_Sum (by repeat (first | exact List.Mem.head _ | apply List.Mem.tail)) (by first | exact Nat.le_of_ble_eq_true rfl | omega | (simp only [bytesV_length, wordsV_length, List.length_cons, List.length_nil, List.length_replicate]; omega) | (simp only [bytesV_length, Sha.sha_length, List.length_replicate] <;> omega)) (by first | assumption | rfl)) rfl ?_)
  refine R_cons rfl (op_callV rfl rfl Try.func30 rfl (by kernel_rfl) rfl (Nat.le_refl _) (fun w' _ => by have h := seedOf_any (List.replicate 32 0) hz 0 0 0 w'; rw [show (0 : UInt32).toNat = 0 from rfl, e0] at h; exact h) ?_)
  refine R_cons rfl (op_pure (p_move rfl) rfl ?_)
  refine R_cons rfl (op_pure (p_extract (i := 0) rfl rfl) rfl ?_)
  refine R_cons rfl (op_pure (p_extract (i := 1) rfl rfl) rfl ?_)
  refine R_cons rfl (op_allocRow zero_Sum rfl (Nat.le_refl _) (fun b2 => ?_))
  refine R_cons rfl (op_storeRow rfl rfl (by first | exact bytesV_one _ | exact wordsV_one _ | (repeat (first | exact ones_nil | refine ones_cons rfl ?_))) row_Sum (by first | assumption | rfl | (simp only [bytesV_length, wordsV_length]; omega) | (rw [bytesV_length]; exact Sha.sha_length _)) (by repeat (first | exact At.here | apply At.there)) (by first | exact Nat.le_of_ble_eq_true rfl | omega | (simp only [bytesV_length, wordsV_length, List.length_cons, List.length_nil, List.length_replicate]; omega) | (simp only [bytesV_length, Sha.sha_length, List.length_replicate] <;> omega)) ?_)
  refine R_cons rfl (op_pure (p_assign rfl) rfl ?_)
  refine R_nil ?_
  repeat (first | refine S_scope ?_ | refine S_label ?_ | refine E_noGoto_normal ?_ | refine E_noGoto_ret ?_ | refine E_noGoto_exit ?_ | refine S_yes rfl (by first | with_reducible rfl | decide) ?_ | refine S_no rfl (by first | with_reducible rfl | decide) ?_ | refine S_seq ?_ | refine E_seq ?_ | refine S_block ?_ | refine E_block_normal ?_ | refine S_skip ?_ | refine S_exit ?_ | refine S_ret ?_ | refine E_then_exit ?_ | refine E_then_ret ?_ | refine E_block_ret ?_ | refine E_block_exit ?_ | refine E_block_exit_other rfl ?_)
  rw [hlay _ l0]
  refine S_region ?_
  refine R_cons rfl (op_pure (by first | exact p_loadRow rfl row_Sum (by repeat (first | exact List.Mem.head _ | apply List.Mem.tail)) (by first | assumption | rfl | (simp only [bytesV_length, wordsV_length]; omega)) | exact p_loadPart rfl row_Sum (by repeat (first | exact List.Mem.head _ | apply List.Mem.tail)) (by first | exact Nat.le_of_ble_eq_true rfl | omega | (simp only [bytesV_length, wordsV_length, List.length_cons, List.length_nil, List.length_replicate]; omega) | (simp only [bytesV_length, Sha.sha_length, List.length_replicate] <;> omega)) (by first | assumption | rfl)) rfl ?_)
  refine R_cons rfl (op_callV rfl rfl Try.func30 rfl (by kernel_rfl) rfl (Nat.le_refl _) (fun w' _ => by have h := seedOf_any (List.replicate 32 0) hz 0 64 0 w'; rw [show (0 : UInt32).toNat = 0 from rfl, e1] at h; exact h) ?_)
  refine R_cons rfl (op_pure (p_move rfl) rfl ?_)
  refine R_cons rfl (op_pure (p_extract (i := 0) rfl rfl) rfl ?_)
  refine R_cons rfl (op_pure (p_extract (i := 1) rfl rfl) rfl ?_)
  refine R_cons rfl (op_allocRow zero_Sum rfl (Nat.le_refl _) (fun b4 => ?_))
  refine R_cons rfl (op_storeRow rfl rfl (by first | exact bytesV_one _ | exact wordsV_one _ | (repeat (first | exact ones_nil | refine ones_cons rfl ?_))) row_Sum (by first | assumption | rfl | (simp only [bytesV_length, wordsV_length]; omega) | (rw [bytesV_length]; exact Sha.sha_length _)) (by repeat (first | exact At.here | apply At.there)) (by first | exact Nat.le_of_ble_eq_true rfl | omega | (simp only [bytesV_length, wordsV_length, List.length_cons, List.length_nil, List.length_replicate]; omega) | (simp only [bytesV_length, Sha.sha_length, List.length_replicate] <;> omega)) ?_)
  refine R_cons rfl (op_pure (p_assign rfl) rfl ?_)
  refine R_nil ?_
  repeat (first | refine S_scope ?_ | refine S_label ?_ | refine E_noGoto_normal ?_ | refine E_noGoto_ret ?_ | refine E_noGoto_exit ?_ | refine S_yes rfl (by first | with_reducible rfl | decide) ?_ | refine S_no rfl (by first | with_reducible rfl | decide) ?_ | refine S_seq ?_ | refine E_seq ?_ | refine S_block ?_ | refine E_block_normal ?_ | refine S_skip ?_ | refine S_exit ?_ | refine S_ret ?_ | refine E_then_exit ?_ | refine E_then_ret ?_ | refine E_block_ret ?_ | refine E_block_exit ?_ | refine E_block_exit_other rfl ?_)
  rw [hlay _ l1]
  refine S_region ?_
  refine R_cons rfl (op_pure (by first | exact p_loadRow rfl row_Sum (by repeat (first | exact List.Mem.head _ | apply List.Mem.tail)) (by first | assumption | rfl | (simp only [bytesV_length, wordsV_length]; omega)) | exact p_loadPart rfl row_Sum (by repeat (first | exact List.Mem.head _ | apply List.Mem.tail)) (by first | exact Nat.le_of_ble_eq_true rfl | omega | (simp only [bytesV_length, wordsV_length, List.length_cons, List.length_nil, List.length_replicate]; omega) | (simp only [bytesV_length, Sha.sha_length, List.length_replicate] <;> omega)) (by first | assumption | rfl)) rfl ?_)
  refine R_cons rfl (op_callV rfl rfl Try.func30 rfl (by kernel_rfl) rfl (Nat.le_refl _) (fun w' _ => by have h := seedOf_any (List.replicate 32 0) hz 0 0 2 w'; rw [show (0 : UInt32).toNat = 0 from rfl, e2] at h; exact h) ?_)
  refine R_cons rfl (op_pure (p_move rfl) rfl ?_)
  refine R_cons rfl (op_pure (p_extract (i := 0) rfl rfl) rfl ?_)
  refine R_cons rfl (op_pure (p_extract (i := 1) rfl rfl) rfl ?_)
  refine R_cons rfl (op_allocRow zero_Sum rfl (Nat.le_refl _) (fun b6 => ?_))
  refine R_cons rfl (op_storeRow rfl rfl (by first | exact bytesV_one _ | exact wordsV_one _ | (repeat (first | exact ones_nil | refine ones_cons rfl ?_))) row_Sum (by first | assumption | rfl | (simp only [bytesV_length, wordsV_length]; omega) | (rw [bytesV_length]; exact Sha.sha_length _)) (by repeat (first | exact At.here | apply At.there)) (by first | exact Nat.le_of_ble_eq_true rfl | omega | (simp only [bytesV_length, wordsV_length, List.length_cons, List.length_nil, List.length_replicate]; omega) | (simp only [bytesV_length, Sha.sha_length, List.length_replicate] <;> omega)) ?_)
  refine R_cons rfl (op_pure (p_assign rfl) rfl ?_)
  refine R_nil ?_
  repeat (first | refine S_scope ?_ | refine S_label ?_ | refine E_noGoto_normal ?_ | refine E_noGoto_ret ?_ | refine E_noGoto_exit ?_ | refine S_yes rfl (by first | with_reducible rfl | decide) ?_ | refine S_no rfl (by first | with_reducible rfl | decide) ?_ | refine S_seq ?_ | refine E_seq ?_ | refine S_block ?_ | refine E_block_normal ?_ | refine S_skip ?_ | refine S_exit ?_ | refine S_ret ?_ | refine E_then_exit ?_ | refine E_then_ret ?_ | refine E_block_ret ?_ | refine E_block_exit ?_ | refine E_block_exit_other rfl ?_)
  rw [hlay _ l2]
  refine S_region ?_
  refine R_cons rfl (op_pure (by first | exact p_loadRow rfl row_Sum (by repeat (first | exact List.Mem.head _ | apply List.Mem.tail)) (by first | assumption | rfl | (simp only [bytesV_length, wordsV_length]; omega)) | exact p_loadPart rfl row_Sum (by repeat (first | exact List.Mem.head _ | apply List.Mem.tail)) (by first | exact Nat.le_of_ble_eq_true rfl | omega | (simp only [bytesV_length, wordsV_length, List.length_cons, List.length_nil, List.length_replicate]; omega) | (simp only [bytesV_length, Sha.sha_length, List.length_replicate] <;> omega)) (by first | assumption | rfl)) rfl ?_)
  refine R_cons rfl (op_callV rfl rfl Try.func30 rfl (by kernel_rfl) rfl (Nat.le_refl _) (fun w' _ => by have h := seedOf_any (List.replicate 32 0) hz 0 (-1) 0 w'; rw [show (0 : UInt32).toNat = 0 from rfl, e3] at h; exact h) ?_)
  refine R_cons rfl (op_pure (p_move rfl) rfl ?_)
  refine R_cons rfl (op_pure (p_extract (i := 0) rfl rfl) rfl ?_)
  refine R_cons rfl (op_pure (p_extract (i := 1) rfl rfl) rfl ?_)
  refine R_cons rfl (op_allocRow zero_Sum rfl (Nat.le_refl _) (fun b8 => ?_))
  refine R_cons rfl (op_storeRow rfl rfl (by first | exact bytesV_one _ | exact wordsV_one _ | (repeat (first | exact ones_nil | refine ones_cons rfl ?_))) row_Sum (by first | assumption | rfl | (simp only [bytesV_length, wordsV_length]; omega) | (rw [bytesV_length]; exact Sha.sha_length _)) (by repeat (first | exact At.here | apply At.there)) (by first | exact Nat.le_of_ble_eq_true rfl | omega | (simp only [bytesV_length, wordsV_length, List.length_cons, List.length_nil, List.length_replicate]; omega) | (simp only [bytesV_length, Sha.sha_length, List.length_replicate] <;> omega)) ?_)
  refine R_cons rfl (op_pure (p_assign rfl) rfl ?_)
  refine R_nil ?_
  repeat (first | refine S_scope ?_ | refine S_label ?_ | refine E_noGoto_normal ?_ | refine E_noGoto_ret ?_ | refine E_noGoto_exit ?_ | refine S_yes rfl (by first | with_reducible rfl | decide) ?_ | refine S_no rfl (by first | with_reducible rfl | decide) ?_ | refine S_seq ?_ | refine E_seq ?_ | refine S_block ?_ | refine E_block_normal ?_ | refine S_skip ?_ | refine S_exit ?_ | refine S_ret ?_ | refine E_then_exit ?_ | refine E_then_ret ?_ | refine E_block_ret ?_ | refine E_block_exit ?_ | refine E_block_exit_other rfl ?_)
  rw [hlay _ l3]
  generalize hv0 : secretS (List.replicate 32 0) 0 0 0 = v0 at *
  generalize secretS (List.replicate 32 0) 0 64 0 = v1 at *
  generalize secretS (List.replicate 32 0) 0 0 2 = v2 at *
  generalize secretS (List.replicate 32 0) 0 (-1) 0 = v3 at *
  clear hhide e0 e1 e2 e3
  refine S_cut [(0, .bool true)] [] ?_ ?_
  · refine S_drawn (by kernel_rfl) (Fewer.refl _) ?_
    refine D_take 0 rfl (by kernel_rfl) (by kernel_rfl) (by kernel_rfl) (by repeat (first | exact calm_body | exact calm_mid | apply calm_noGoto | exact calm_midE | apply calm_then | apply calm_block)) (by first | exact p_loadRow rfl row_Sum (by repeat (first | exact List.Mem.head _ | apply List.Mem.tail)) (by first | assumption | rfl | (simp only [bytesV_length, wordsV_length]; omega)) | exact p_loadPart rfl row_Sum (by repeat (first | exact List.Mem.head _ | apply List.Mem.tail)) (by first | exact Nat.le_of_ble_eq_true rfl | omega | (simp only [bytesV_length, wordsV_length, List.length_cons, List.length_nil, List.length_replicate]; omega) | (simp only [bytesV_length, Sha.sha_length, List.length_replicate] <;> omega)) (by first | assumption | rfl)) rfl ?_
    refine D_take 1 rfl (by kernel_rfl) (by kernel_rfl) (by kernel_rfl) (by repeat (first | exact calm_body | exact calm_mid | apply calm_noGoto | exact calm_midE | apply calm_then | apply calm_block)) (p_sliceArr rfl arr_Sum) rfl ?_
    refine D_only 2 rfl (by kernel_rfl) rfl (op_buildSliceAll (ps := [(0, .const (.int .u8 111)), (1, .const (.int .u8 110)), (2, .const (.int .u8 99)), (3, .const (.int .u8 101)), (4, .const (.int .u8 0)), (5, .const (.int .u8 0)), (6, .const (.int .u8 0)), (7, .const (.int .u8 0)), (8, .const (.int .u8 0)), (9, .const (.int .u8 0))]) rfl slc_u8s.1 el_u8 (by decide) (by decide) (by first | kernel_rfl | rfl) rfl (Nat.le_refl _) (fun b32 => ?_))
    refine ⟨(by repeat (first | exact Fewer.nil | refine Fewer.keep rfl ?_ | refine Fewer.drop ?_ | exact Fewer.refl _ | exact Fewer.inl _ _ | (simp only [List.append_nil]; first | exact Fewer.inl _ _ | exact Fewer.refl _))), ?_⟩
    refine D_only 3 rfl (by kernel_rfl) rfl (op_convBytes rfl slc_u8s.1 Try.underlying5 (by repeat (first | exact At.here | apply At.there)) rfl ?_)
    refine ⟨(by repeat (first | exact Fewer.nil | refine Fewer.keep rfl ?_ | refine Fewer.drop ?_ | exact Fewer.refl _ | exact Fewer.inl _ _ | (simp only [List.append_nil]; first | exact Fewer.inl _ _ | exact Fewer.refl _))), ?_⟩
    refine D_only 4 rfl (by kernel_rfl) rfl (op_buildSliceAll (ps := [(0, .tmp 33)]) rfl slc_u8ss.1 el_u8s (by decide) (by decide) (by first | kernel_rfl | rfl) rfl (Nat.le_refl _) (fun b34 => ?_))
    refine ⟨(by repeat (first | exact Fewer.nil | refine Fewer.keep rfl ?_ | refine Fewer.drop ?_ | exact Fewer.refl _ | exact Fewer.inl _ _ | (simp only [List.append_nil]; first | exact Fewer.inl _ _ | exact Fewer.refl _))), ?_⟩
    refine D_only 5 rfl (by kernel_rfl) rfl (op_callV rfl rfl Try.func33 rfl (by kernel_rfl) rfl (Nat.le_refl _) (fun w' hm => mac_one 33 (.inl rfl) (some ⟨b1, 0, none⟩) (some ⟨b34, 0, none⟩) (some ⟨b32, 0, none⟩) 10 [111, 110, 99, 101, 0, 0, 0, 0, 0, 0] (by decide) (List.replicate 32 0) hz w' (hm.readsAll (b := b1) (by repeat (first | exact List.Mem.head _ | apply List.Mem.tail)) rfl) (hm.readsAll (b := b34) (by repeat (first | exact List.Mem.head _ | apply List.Mem.tail)) rfl) (hm.readsAll (b := b32) (by repeat (first | exact List.Mem.head _ | apply List.Mem.tail)) rfl) (by decide) (by show 10 ≤ maxLen; unfold maxLen; omega)) ?_)
    refine ⟨(by repeat (first | exact Fewer.nil | refine Fewer.keep rfl ?_ | refine Fewer.drop ?_ | exact Fewer.refl _ | exact Fewer.inl _ _ | (simp only [List.append_nil]; first | exact Fewer.inl _ _ | exact Fewer.refl _))), ?_⟩
    refine D_take 6 rfl (by kernel_rfl) (by kernel_rfl) (by kernel_rfl) (by repeat (first | exact calm_body | exact calm_mid | apply calm_noGoto | exact calm_midE | apply calm_then | apply calm_block)) (p_eql_bytesR rfl rfl arr_Sum.1 Try.underlying5 (by kernel_rfl) (by kernel_rfl) l0 lm hq) rfl ?_
    refine D_take 7 rfl (by kernel_rfl) (by kernel_rfl) (by kernel_rfl) (by repeat (first | exact calm_body | exact calm_mid | apply calm_noGoto | exact calm_midE | apply calm_then | apply calm_block)) (p_move rfl) rfl ?_
    first | refine D_pass 8 rfl (by kernel_rfl) (by kernel_rfl) (by kernel_rfl) (by repeat (first | exact calm_body | exact calm_mid | apply calm_noGoto | exact calm_midE | apply calm_then | apply calm_block)) rfl rfl rfl rfl ?_ | refine D_pass_undef 8 rfl (by kernel_rfl) (by kernel_rfl) (by kernel_rfl) (by repeat (first | exact calm_body | exact calm_mid | apply calm_noGoto | exact calm_midE | apply calm_then | apply calm_block)) rfl rfl rfl ?_ | refine D_take_guard 8 rfl (by kernel_rfl) (by kernel_rfl) (by kernel_rfl) (by repeat (first | exact calm_body | exact calm_mid | apply calm_noGoto | exact calm_midE | apply calm_then | apply calm_block)) rfl rfl (p_move rfl) rfl ?_
    first | refine D_pass 9 rfl (by kernel_rfl) (by kernel_rfl) (by kernel_rfl) (by repeat (first | exact calm_body | exact calm_mid | apply calm_noGoto | exact calm_midE | apply calm_then | apply calm_block)) rfl rfl rfl rfl ?_ | refine D_pass_undef 9 rfl (by kernel_rfl) (by kernel_rfl) (by kernel_rfl) (by repeat (first | exact calm_body | exact calm_mid | apply calm_noGoto | exact calm_midE | apply calm_then | apply calm_block)) rfl rfl rfl ?_ | refine D_take_guard 9 rfl (by kernel_rfl) (by kernel_rfl) (by kernel_rfl) (by repeat (first | exact calm_body | exact calm_mid | apply calm_noGoto | exact calm_midE | apply calm_then | apply calm_block)) rfl rfl (p_bin rfl rfl (b_eql (by first | assumption | exact beq_iff_eq.2 (by omega) | exact beq_eq_false_iff_ne.2 (by omega) | rfl))) rfl ?_
    refine D_take 10 rfl (by kernel_rfl) (by kernel_rfl) (by kernel_rfl) (by repeat (first | exact calm_body | exact calm_mid | apply calm_noGoto | exact calm_midE | apply calm_then | apply calm_block)) (by first | exact p_pick_yes rfl rfl | exact p_pick_no rfl rfl | exact p_pick rfl rfl rfl) rfl ?_
    refine D_take 11 rfl (by kernel_rfl) (by kernel_rfl) (by kernel_rfl) (by repeat (first | exact calm_body | exact calm_mid | apply calm_noGoto | exact calm_midE | apply calm_then | apply calm_block)) (p_move rfl) rfl ?_
    first | refine D_pass 12 rfl (by kernel_rfl) (by kernel_rfl) (by kernel_rfl) (by repeat (first | exact calm_body | exact calm_mid | apply calm_noGoto | exact calm_midE | apply calm_then | apply calm_block)) rfl rfl rfl rfl ?_ | refine D_pass_undef 12 rfl (by kernel_rfl) (by kernel_rfl) (by kernel_rfl) (by repeat (first | exact calm_body | exact calm_mid | apply calm_noGoto | exact calm_midE | apply calm_then | apply calm_block)) rfl rfl rfl ?_ | refine D_take_guard 12 rfl (by kernel_rfl) (by kernel_rfl) (by kernel_rfl) (by repeat (first | exact calm_body | exact calm_mid | apply calm_noGoto | exact calm_midE | apply calm_then | apply calm_block)) rfl rfl (p_move rfl) rfl ?_
    first | refine D_pass 13 rfl (by kernel_rfl) (by kernel_rfl) (by kernel_rfl) (by repeat (first | exact calm_body | exact calm_mid | apply calm_noGoto | exact calm_midE | apply calm_then | apply calm_block)) rfl rfl rfl rfl ?_ | refine D_pass_undef 13 rfl (by kernel_rfl) (by kernel_rfl) (by kernel_rfl) (by repeat (first | exact calm_body | exact calm_mid | apply calm_noGoto | exact calm_midE | apply calm_then | apply calm_block)) rfl rfl rfl ?_ | refine D_take_guard 13 rfl (by kernel_rfl) (by kernel_rfl) (by kernel_rfl) (by repeat (first | exact calm_body | exact calm_mid | apply calm_noGoto | exact calm_midE | apply calm_then | apply calm_block)) rfl rfl (p_bin rfl rfl (b_eql (by first | assumption | exact beq_iff_eq.2 (by omega) | exact beq_eq_false_iff_ne.2 (by omega) | rfl))) rfl ?_
    refine D_take 14 rfl (by kernel_rfl) (by kernel_rfl) (by kernel_rfl) (by repeat (first | exact calm_body | exact calm_mid | apply calm_noGoto | exact calm_midE | apply calm_then | apply calm_block)) (by first | exact p_pick_yes rfl rfl | exact p_pick_no rfl rfl | exact p_pick rfl rfl rfl) rfl ?_
    refine D_take 15 rfl (by kernel_rfl) (by kernel_rfl) (by kernel_rfl) (by repeat (first | exact calm_body | exact calm_mid | apply calm_noGoto | exact calm_midE | apply calm_then | apply calm_block)) (p_move rfl) rfl ?_
    first | refine D_pass 16 rfl (by kernel_rfl) (by kernel_rfl) (by kernel_rfl) (by repeat (first | exact calm_body | exact calm_mid | apply calm_noGoto | exact calm_midE | apply calm_then | apply calm_block)) rfl rfl rfl rfl ?_ | refine D_pass_undef 16 rfl (by kernel_rfl) (by kernel_rfl) (by kernel_rfl) (by repeat (first | exact calm_body | exact calm_mid | apply calm_noGoto | exact calm_midE | apply calm_then | apply calm_block)) rfl rfl rfl ?_ | refine D_take_guard 16 rfl (by kernel_rfl) (by kernel_rfl) (by kernel_rfl) (by repeat (first | exact calm_body | exact calm_mid | apply calm_noGoto | exact calm_midE | apply calm_then | apply calm_block)) rfl rfl (p_move rfl) rfl ?_
    first | refine D_pass 17 rfl (by kernel_rfl) (by kernel_rfl) (by kernel_rfl) (by repeat (first | exact calm_body | exact calm_mid | apply calm_noGoto | exact calm_midE | apply calm_then | apply calm_block)) rfl rfl rfl rfl ?_ | refine D_pass_undef 17 rfl (by kernel_rfl) (by kernel_rfl) (by kernel_rfl) (by repeat (first | exact calm_body | exact calm_mid | apply calm_noGoto | exact calm_midE | apply calm_then | apply calm_block)) rfl rfl rfl ?_ | refine D_take_guard 17 rfl (by kernel_rfl) (by kernel_rfl) (by kernel_rfl) (by repeat (first | exact calm_body | exact calm_mid | apply calm_noGoto | exact calm_midE | apply calm_then | apply calm_block)) rfl rfl (p_bin rfl rfl (b_eql (by first | assumption | exact beq_iff_eq.2 (by omega) | exact beq_eq_false_iff_ne.2 (by omega) | rfl))) rfl ?_
    refine D_take 18 rfl (by kernel_rfl) (by kernel_rfl) (by kernel_rfl) (by repeat (first | exact calm_body | exact calm_mid | apply calm_noGoto | exact calm_midE | apply calm_then | apply calm_block)) (by first | exact p_pick_yes rfl rfl | exact p_pick_no rfl rfl | exact p_pick rfl rfl rfl) rfl ?_
    refine D_take 19 rfl (by kernel_rfl) (by kernel_rfl) (by kernel_rfl) (by repeat (first | exact calm_body | exact calm_mid | apply calm_noGoto | exact calm_midE | apply calm_then | apply calm_block)) (p_move rfl) rfl ?_
    first | refine D_pass 20 rfl (by kernel_rfl) (by kernel_rfl) (by kernel_rfl) (by repeat (first | exact calm_body | exact calm_mid | apply calm_noGoto | exact calm_midE | apply calm_then | apply calm_block)) rfl rfl rfl rfl ?_ | refine D_pass_undef 20 rfl (by kernel_rfl) (by kernel_rfl) (by kernel_rfl) (by repeat (first | exact calm_body | exact calm_mid | apply calm_noGoto | exact calm_midE | apply calm_then | apply calm_block)) rfl rfl rfl ?_ | refine D_take_guard 20 rfl (by kernel_rfl) (by kernel_rfl) (by kernel_rfl) (by repeat (first | exact calm_body | exact calm_mid | apply calm_noGoto | exact calm_midE | apply calm_then | apply calm_block)) rfl rfl (p_move rfl) rfl ?_
    first | refine D_pass 21 rfl (by kernel_rfl) (by kernel_rfl) (by kernel_rfl) (by repeat (first | exact calm_body | exact calm_mid | apply calm_noGoto | exact calm_midE | apply calm_then | apply calm_block)) rfl rfl rfl rfl ?_ | refine D_pass_undef 21 rfl (by kernel_rfl) (by kernel_rfl) (by kernel_rfl) (by repeat (first | exact calm_body | exact calm_mid | apply calm_noGoto | exact calm_midE | apply calm_then | apply calm_block)) rfl rfl rfl ?_ | refine D_take_guard 21 rfl (by kernel_rfl) (by kernel_rfl) (by kernel_rfl) (by repeat (first | exact calm_body | exact calm_mid | apply calm_noGoto | exact calm_midE | apply calm_then | apply calm_block)) rfl rfl (p_bin rfl rfl (b_eql (by first | assumption | exact beq_iff_eq.2 (by omega) | exact beq_eq_false_iff_ne.2 (by omega) | rfl))) rfl ?_
    refine D_take 22 rfl (by kernel_rfl) (by kernel_rfl) (by kernel_rfl) (by repeat (first | exact calm_body | exact calm_mid | apply calm_noGoto | exact calm_midE | apply calm_then | apply calm_block)) (by first | exact p_pick_yes rfl rfl | exact p_pick_no rfl rfl | exact p_pick rfl rfl rfl) rfl ?_
    refine D_take 23 rfl (by kernel_rfl) (by kernel_rfl) (by kernel_rfl) (by repeat (first | exact calm_body | exact calm_mid | apply calm_noGoto | exact calm_midE | apply calm_then | apply calm_block)) (p_assign rfl) rfl ?_
    refine D_done (by kernel_rfl) ?_
    exact E_mid (by repeat (first | exact Sub.nil | refine Sub.cons rfl ?_)) .nil
  · repeat (first | refine S_scope ?_ | refine S_label ?_ | refine E_noGoto_normal ?_ | refine E_noGoto_ret ?_ | refine E_noGoto_exit ?_ | refine S_yes rfl (by first | with_reducible rfl | decide) ?_ | refine S_no rfl (by first | with_reducible rfl | decide) ?_ | refine S_seq ?_ | refine E_seq ?_ | refine S_block ?_ | refine E_block_normal ?_ | refine S_skip ?_ | refine S_exit ?_ | refine S_ret ?_ | refine E_then_exit ?_ | refine E_then_ret ?_ | refine E_block_ret ?_ | refine E_block_exit ?_ | refine E_block_exit_other rfl ?_)
    exact E_ret1 rfl rfl fun w' hm => ⟨rfl, hm.below⟩
end Go.Proofs.Ythkogneaimjhjaa
