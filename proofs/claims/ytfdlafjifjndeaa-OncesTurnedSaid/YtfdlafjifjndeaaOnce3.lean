/-
  The layer onces: what a key signs; the chapter's answer; the statements' own example.
-/
import Derived.Test.YtfdlafjifjndeaaOnce2
import Derived.Test.YtfdlafjifjndeaaK26
namespace Go.Proofs.Ytfdlafjifjndeaa
open Go.Sha
theorem live_secret : (!(secretS (List.replicate 32 0) 3 0 1 == List.replicate 32 0)) = true := by decide +kernel
open Go.RowKit Go.K
attribute [local irreducible] Exit.then Exit.inBlock Exit.noGoto bodyPost Code.wp QL Sx Rx Qx Ex Dx Op1 Pure1 Still1 K.Sub Calm Code.wpIn
attribute [local irreducible] sha total Buf.hp Buf.cap Buf.addr bitN secretS secN catN Rep sumsV ofPair signP signL ofS pubS
set_option linter.unusedVariables false

theorem z4096 : bytesV (List.replicate 2048 0) ++ bytesV (List.replicate 2048 0) = sumsV (List.replicate 128 (List.replicate 32 0)) := by
  unfold sumsV
  rw [List.flatten_replicate_replicate, ← bytesV_append, List.replicate_append_replicate]
theorem secP_get (seed : List UInt8) (idx n k : Nat) (hk : k < 2) : (secP seed idx n 2).getD k [] = secN seed idx n k := by
  match k, hk with
  | 0, _ => rfl
  | 1, _ => rfl

theorem eqOnce (l : List (List UInt8)) (hs : Sums l) (hl : l.length = 128) (w : World) : (Op.equalIn 10000 26 (.agg (sumsV l).toArray) (.agg (sumsV l).toArray)).run Try.prog w = .ok true w := by
  have h := eq_two_self (P := Try.prog) w 9996 64 2048 26 24 23 5 ⟨"Told", 24, 0, false, "", "", 0⟩ ⟨"Others", 24, 2048, false, "", "", 2048⟩ (by kernel_rfl) (by kernel_rfl) (by kernel_rfl) ⟨rfl, rfl, by decide⟩ ⟨rfl, rfl, by decide⟩ row_64_api_Sum rfl
    Try.underlying24 Try.underlying23 Try.underlying5 row_Sum (by kernel_rfl) (l.take 64) (l.drop 64) (hs.take 64) (by rw [List.length_take]; omega) (hs.drop 64) (by rw [List.length_drop]; omega)
  rw [List.take_append_drop] at h
  exact h
set_option maxHeartbeats 2000000 in
theorem sign_any (seed : List UInt8) (hs : seed.length = 32) (idx : UInt32) (m : List UInt8) (hm32 : m.length = 32) (w : World) :
    Calls Try.prog 15 [.agg (bytesV seed).toArray, .int .u32 (idx.toNat : Int), .agg (bytesV m).toArray].toArray w fun e w' => e = .returned (.agg (sumsV (signL seed idx.toNat m)).toArray) ∧ Below w.heap.size w w' := by
  have hbs : (bytesV seed).length = 32 := by rw [bytesV_length, hs]
  have hbm : (bytesV m).length = 32 := by rw [bytesV_length, hm32]
  have hpl : ∀ k, (sumsV (signP seed idx.toNat m k)).length = 4096 := fun k => by rw [sumsV_length (signP_sums _ _ _ _), signP_length]
  have hz : bytesV (List.replicate 2048 0) ++ bytesV (List.replicate 2048 0) = sumsV (signP seed idx.toNat m 0) := by rw [z4096, signP_zero]
  have hsl : signL seed idx.toNat m = signP seed idx.toNat m 64 := by unfold signL; rfl
  refine enter Try.func15 rfl Try.ntmps15 (by simp) ?_
  repeat (first | refine S_scope ?_ | refine S_label ?_ | refine E_noGoto_normal ?_ | refine E_noGoto_ret ?_ | refine E_noGoto_exit ?_ | refine S_yes rfl (by first | with_reducible rfl | decide) ?_ | refine S_no rfl (by first | with_reducible rfl | decide) ?_ | refine S_seq ?_ | refine E_seq ?_ | refine S_block ?_ | refine E_block_normal ?_ | refine S_skip ?_ | refine S_exit ?_ | refine S_ret ?_ | refine E_then_exit ?_ | refine E_then_ret ?_ | refine E_block_ret ?_ | refine E_block_exit ?_ | refine E_block_exit_other rfl ?_)
  refine S_region ?_
  refine R_cons rfl (op_boxRow rfl rfl (Nat.le_refl _) (fun b3 => ?_))
  refine R_cons rfl (op_boxRow rfl rfl (Nat.le_refl _) (fun b5 => ?_))
  refine R_cons rfl (op_allocRow zero_api_Once rfl (Nat.le_refl _) (fun b6 => ?_))
  refine R_nil ?_
  repeat (first | refine S_scope ?_ | refine S_label ?_ | refine E_noGoto_normal ?_ | refine E_noGoto_ret ?_ | refine E_noGoto_exit ?_ | refine S_yes rfl (by first | with_reducible rfl | decide) ?_ | refine S_no rfl (by first | with_reducible rfl | decide) ?_ | refine S_seq ?_ | refine E_seq ?_ | refine S_block ?_ | refine E_block_normal ?_ | refine S_skip ?_ | refine S_exit ?_ | refine S_ret ?_ | refine E_then_exit ?_ | refine E_then_ret ?_ | refine E_block_ret ?_ | refine E_block_exit ?_ | refine E_block_exit_other rfl ?_)
  refine S_region ?_
  refine R_cons rfl (op_pure (p_move rfl) rfl ?_)
  refine R_nil ?_
  repeat (first | refine S_scope ?_ | refine S_label ?_ | refine E_noGoto_normal ?_ | refine E_noGoto_ret ?_ | refine E_noGoto_exit ?_ | refine S_yes rfl (by first | with_reducible rfl | decide) ?_ | refine S_no rfl (by first | with_reducible rfl | decide) ?_ | refine S_seq ?_ | refine E_seq ?_ | refine S_block ?_ | refine E_block_normal ?_ | refine S_skip ?_ | refine S_exit ?_ | refine S_ret ?_ | refine E_then_exit ?_ | refine E_then_ret ?_ | refine E_block_ret ?_ | refine E_block_exit ?_ | refine E_block_exit_other rfl ?_)
  rw [hz]
  refine S_loop (fun k : Nat => [(10, .int .i64 (k : Int)), (6, .pointer (some ⟨b6, 0, none⟩)), (5, .pointer (some ⟨b5, 0, none⟩)), (3, .pointer (some ⟨b3, 0, none⟩)), (1, .int .u32 (idx.toNat : Int))])
    (fun k => [(b6, .cells (sumsV (signP seed idx.toNat m k)).toArray 26 (0, 0)), (b5, .cells (bytesV m).toArray 23 (0, 0)), (b3, .cells (bytesV seed).toArray 23 (0, 0))])
    (fun k => k ≤ 64) (fun k => 64 - k) 0 (Nat.zero_le _) (by repeat (first | exact Sub.nil | refine Sub.cons rfl ?_)) (Fewer.refl _) ?_
  intro k hk
  by_cases hlt : k < 64
  · have g1 : decide ((k : Int) < 64) = true := decide_eq_true (by omega)
    have hadd : IntKind.i64.wrap ((k : Int) + 1) = ((k + 1 : Nat) : Int) := by rw [w_in_i64 (by omega)]; omega
    have hb := bitN_lt m k
    have hsub : IntKind.i64.wrap (1 - (bitN m k : Int)) = ((1 - bitN m k : Nat) : Int) := by rw [w_in_i64 (by omega)]; omega
    have hb' : 1 - bitN m k < 2 := by omega
    have s0 := secN_length seed idx.toNat k (bitN m k)
    have s1 := secN_length seed idx.toNat k (1 - bitN m k)
    have e1 := sha_length (secN seed idx.toNat k (1 - bitN m k))
    have hp := hpl k
    have hsp : (sumsV (secP seed idx.toNat k 2)).length = 64 := by rw [sumsV_length (secP_sums _ _ _ _), secP_length]
    have hg0 := secP_get seed idx.toNat k (bitN m k) hb
    have hg1 := secP_get seed idx.toNat k (1 - bitN m k) hb'
    have hl1 : lay (sumsV (signP seed idx.toNat m k)) (0 + k * 32) (bytesV (secN seed idx.toNat k (bitN m k))) = sumsV ((signP seed idx.toNat m k).set k (secN seed idx.toNat k (bitN m k))) := by
      rw [Nat.zero_add, lay_sum (signP_sums _ _ _ _) (by rw [signP_length]; omega) s0]
    have hS1 := (signP_sums seed idx.toNat m k).set k s0
    have hl2 : lay (sumsV ((signP seed idx.toNat m k).set k (secN seed idx.toNat k (bitN m k)))) (2048 + k * 32) (bytesV (sha (secN seed idx.toNat k (1 - bitN m k)))) = sumsV (signP seed idx.toNat m (k + 1)) := by
      rw [show 2048 + k * 32 = (64 + k) * 32 by omega, lay_sum hS1 (by rw [List.length_set, signP_length]; omega) e1, signP_step _ _ _ _ hlt]
    have hp1 : (sumsV ((signP seed idx.toNat m k).set k (secN seed idx.toNat k (bitN m k)))).length = 4096 := by rw [sumsV_length hS1, List.length_set, signP_length]
    have hf1 : 0 + k * 32 + (bytesV (secN seed idx.toNat k (bitN m k))).length ≤ (sumsV (signP seed idx.toNat m k)).length := by rw [bytesV_length, s0, hp]; omega
    have hf2 : 2048 + k * 32 + (bytesV (sha (secN seed idx.toNat k (1 - bitN m k)))).length ≤ (sumsV ((signP seed idx.toNat m k).set k (secN seed idx.toNat k (bitN m k)))).length := by rw [bytesV_length, e1, hp1]; omega
    have hf1' : 0 + k * 32 + 32 ≤ (sumsV (signP seed idx.toNat m k)).length := by rw [hp]; omega
    have htk : (bytesV (secN seed idx.toNat k (bitN m k))).take 32 = bytesV (secN seed idx.toNat k (bitN m k)) := List.take_of_length_le (by rw [bytesV_length, s0]; exact Nat.le_refl _)
    have hh := And.intro hlt (And.intro (show k < 256 by omega) (show 64 - (k + 1) < 64 - k by omega))
    clear hlt hk
    repeat (first | refine S_scope ?_ | refine S_label ?_ | refine E_noGoto_normal ?_ | refine E_noGoto_ret ?_ | refine E_noGoto_exit ?_ | refine S_yes rfl (by first | with_reducible rfl | decide) ?_ | refine S_no rfl (by first | with_reducible rfl | decide) ?_ | refine S_seq ?_ | refine E_seq ?_ | refine S_block ?_ | refine E_block_normal ?_ | refine S_skip ?_ | refine S_exit ?_ | refine S_ret ?_ | refine E_then_exit ?_ | refine E_then_ret ?_ | refine E_block_ret ?_ | refine E_block_exit ?_ | refine E_block_exit_other rfl ?_)
    refine S_region ?_
    refine R_cons rfl (op_pure (p_bin rfl rfl (b_lss g1)) rfl ?_)
    refine R_nil ?_
    repeat (first | refine S_scope ?_ | refine S_label ?_ | refine E_noGoto_normal ?_ | refine E_noGoto_ret ?_ | refine E_noGoto_exit ?_ | refine S_yes rfl (by first | with_reducible rfl | decide) ?_ | refine S_no rfl (by first | with_reducible rfl | decide) ?_ | refine S_seq ?_ | refine E_seq ?_ | refine S_block ?_ | refine E_block_normal ?_ | refine S_skip ?_ | refine S_exit ?_ | refine S_ret ?_ | refine E_then_exit ?_ | refine E_then_ret ?_ | refine E_block_ret ?_ | refine E_block_exit ?_ | refine E_block_exit_other rfl ?_)
    refine S_region ?_
    refine R_cons rfl (op_pure (p_move rfl) rfl ?_)
    refine R_cons rfl (op_pure (p_assign rfl) rfl ?_)
    refine R_nil ?_
    repeat (first | refine S_scope ?_ | refine S_label ?_ | refine E_noGoto_normal ?_ | refine E_noGoto_ret ?_ | refine E_noGoto_exit ?_ | refine S_yes rfl (by first | with_reducible rfl | decide) ?_ | refine S_no rfl (by first | with_reducible rfl | decide) ?_ | refine S_seq ?_ | refine E_seq ?_ | refine S_block ?_ | refine E_block_normal ?_ | refine S_skip ?_ | refine S_exit ?_ | refine S_ret ?_ | refine E_then_exit ?_ | refine E_then_ret ?_ | refine E_block_ret ?_ | refine E_block_exit ?_ | refine E_block_exit_other rfl ?_)
    refine S_cutE (σ := Nat) (fun q => [(10, .int .i64 (k : Int)), (9, .int .i64 (bitN m k : Int)), (8, .pointer (some ⟨q, 0, none⟩)), (7, .int .i64 (k : Int)), (6, .pointer (some ⟨b6, 0, none⟩)), (5, .pointer (some ⟨b5, 0, none⟩)), (3, .pointer (some ⟨b3, 0, none⟩)), (1, .int .u32 (idx.toNat : Int))])
      (fun q => [(q, .cells (sumsV (secP seed idx.toNat k 2)).toArray 81 (0, 0)), (b6, .cells (sumsV (signP seed idx.toNat m k)).toArray 26 (0, 0)), (b5, .cells (bytesV m).toArray 23 (0, 0)), (b3, .cells (bytesV seed).toArray 23 (0, 0))]) (fun _ => True) ?_ ?_
    · refine S_drawn (by kernel_rfl) (Fewer.refl _) ?_
      refine D_take 0 rfl (by kernel_rfl) (by kernel_rfl) (by kernel_rfl) (by repeat (first | exact calm_body | exact calm_mid | apply calm_noGoto | exact calm_midE | apply calm_then | apply calm_block)) (p_loadRow rfl row_Sum (by repeat (first | exact List.Mem.head _ | apply List.Mem.tail)) hbs) rfl ?_
      refine D_take 1 rfl (by kernel_rfl) (by kernel_rfl) (by kernel_rfl) (by repeat (first | exact calm_body | exact calm_mid | apply calm_noGoto | exact calm_midE | apply calm_then | apply calm_block)) (p_move rfl) rfl ?_
      refine D_take 2 rfl (by kernel_rfl) (by kernel_rfl) (by kernel_rfl) (by repeat (first | exact calm_body | exact calm_mid | apply calm_noGoto | exact calm_midE | apply calm_then | apply calm_block)) (p_move rfl) rfl ?_
      refine D_take 4 rfl (by kernel_rfl) (by kernel_rfl) (by kernel_rfl) (by repeat (first | exact calm_body | exact calm_mid | apply calm_noGoto | exact calm_midE | apply calm_then | apply calm_block)) (p_loadRow rfl row_Sum (by repeat (first | exact List.Mem.head _ | apply List.Mem.tail)) hbm) rfl ?_
      refine D_take 5 rfl (by kernel_rfl) (by kernel_rfl) (by kernel_rfl) (by repeat (first | exact calm_body | exact calm_mid | apply calm_noGoto | exact calm_midE | apply calm_then | apply calm_block)) (p_move rfl) rfl ?_
      refine D_two 3 7 (by kernel_rfl) ?_ ?_
      · refine step_plain 3 rfl rfl (op_callV rfl rfl Try.func43 rfl (by kernel_rfl) rfl (Nat.le_refl _) (fun w' _ => secrets_any seed hs idx k w') ?_)
        refine ⟨(by repeat (first | exact Fewer.nil | refine Fewer.keep rfl ?_ | refine Fewer.drop ?_ | exact Fewer.refl _ | exact Fewer.inl _ _ | (simp only [List.append_nil]; first | exact Fewer.inl _ _ | exact Fewer.refl _))), ?_⟩
        refine D_two 6 7 (by kernel_rfl) ?_ ?_
        · refine step_plain 6 rfl rfl (op_callV rfl rfl Try.func38 rfl (by kernel_rfl) rfl (Nat.le_refl _) (fun w' _ => bit19_any m hm32 k hh.2.1 w') ?_)
          refine ⟨(by repeat (first | exact Fewer.nil | refine Fewer.keep rfl ?_ | refine Fewer.drop ?_ | exact Fewer.refl _ | exact Fewer.inl _ _ | (simp only [List.append_nil]; first | exact Fewer.inl _ _ | exact Fewer.refl _))), ?_⟩
          refine D_only 7 rfl (by kernel_rfl) rfl (op_allocRow zero_onces_pair rfl (Nat.le_refl _) (fun b8 => ?_))
          refine ⟨(by repeat (first | exact Fewer.nil | refine Fewer.keep rfl ?_ | refine Fewer.drop ?_ | exact Fewer.refl _ | exact Fewer.inl _ _ | (simp only [List.append_nil]; first | exact Fewer.inl _ _ | exact Fewer.refl _))), ?_⟩
          refine D_only 8 rfl (by kernel_rfl) rfl (op_storeRow rfl rfl (sumsV_one _) row_onces_pair hsp (by repeat (first | exact At.here | apply At.there)) (by rw [hsp]; exact Nat.le_of_ble_eq_true rfl) ?_)
          refine ⟨(by repeat (first | exact Fewer.nil | refine Fewer.keep rfl ?_ | refine Fewer.drop ?_ | exact Fewer.refl _ | exact Fewer.inl _ _ | (simp only [List.append_nil]; first | exact Fewer.inl _ _ | exact Fewer.refl _))), ?_⟩
          refine D_take 9 rfl (by kernel_rfl) (by kernel_rfl) (by kernel_rfl) (by repeat (first | exact calm_body | exact calm_mid | apply calm_noGoto | exact calm_midE | apply calm_then | apply calm_block)) (p_assign rfl) rfl ?_
          refine D_done (by kernel_rfl) ?_
          rw [lay_whole (by rw [hsp]; rfl)]
          exact E_midE b8 trivial (by repeat (first | exact Sub.nil | refine Sub.cons rfl ?_)) (Fewer.refl _)
        · refine step_plain 7 rfl rfl (op_allocRow zero_onces_pair rfl (Nat.le_refl _) (fun b8 => ?_))
          refine ⟨(by repeat (first | exact Fewer.nil | refine Fewer.keep rfl ?_ | refine Fewer.drop ?_ | exact Fewer.refl _ | exact Fewer.inl _ _ | (simp only [List.append_nil]; first | exact Fewer.inl _ _ | exact Fewer.refl _))), ?_⟩
          refine D_only 6 rfl (by kernel_rfl) rfl (op_callV rfl rfl Try.func38 rfl (by kernel_rfl) rfl (Nat.le_refl _) (fun w' _ => bit19_any m hm32 k hh.2.1 w') ?_)
          refine ⟨(by repeat (first | exact Fewer.nil | refine Fewer.keep rfl ?_ | refine Fewer.drop ?_ | exact Fewer.refl _ | exact Fewer.inl _ _ | (simp only [List.append_nil]; first | exact Fewer.inl _ _ | exact Fewer.refl _))), ?_⟩
          refine D_only 8 rfl (by kernel_rfl) rfl (op_storeRow rfl rfl (sumsV_one _) row_onces_pair hsp (by repeat (first | exact At.here | apply At.there)) (by rw [hsp]; exact Nat.le_of_ble_eq_true rfl) ?_)
          refine ⟨(by repeat (first | exact Fewer.nil | refine Fewer.keep rfl ?_ | refine Fewer.drop ?_ | exact Fewer.refl _ | exact Fewer.inl _ _ | (simp only [List.append_nil]; first | exact Fewer.inl _ _ | exact Fewer.refl _))), ?_⟩
          refine D_take 9 rfl (by kernel_rfl) (by kernel_rfl) (by kernel_rfl) (by repeat (first | exact calm_body | exact calm_mid | apply calm_noGoto | exact calm_midE | apply calm_then | apply calm_block)) (p_assign rfl) rfl ?_
          refine D_done (by kernel_rfl) ?_
          rw [lay_whole (by rw [hsp]; rfl)]
          exact E_midE b8 trivial (by repeat (first | exact Sub.nil | refine Sub.cons rfl ?_)) (Fewer.refl _)
      · refine step_plain 7 rfl rfl (op_allocRow zero_onces_pair rfl (Nat.le_refl _) (fun b8 => ?_))
        refine ⟨(by repeat (first | exact Fewer.nil | refine Fewer.keep rfl ?_ | refine Fewer.drop ?_ | exact Fewer.refl _ | exact Fewer.inl _ _ | (simp only [List.append_nil]; first | exact Fewer.inl _ _ | exact Fewer.refl _))), ?_⟩
        refine D_only 3 rfl (by kernel_rfl) rfl (op_callV rfl rfl Try.func43 rfl (by kernel_rfl) rfl (Nat.le_refl _) (fun w' _ => secrets_any seed hs idx k w') ?_)
        refine ⟨(by repeat (first | exact Fewer.nil | refine Fewer.keep rfl ?_ | refine Fewer.drop ?_ | exact Fewer.refl _ | exact Fewer.inl _ _ | (simp only [List.append_nil]; first | exact Fewer.inl _ _ | exact Fewer.refl _))), ?_⟩
        refine D_only 6 rfl (by kernel_rfl) rfl (op_callV rfl rfl Try.func38 rfl (by kernel_rfl) rfl (Nat.le_refl _) (fun w' _ => bit19_any m hm32 k hh.2.1 w') ?_)
        refine ⟨(by repeat (first | exact Fewer.nil | refine Fewer.keep rfl ?_ | refine Fewer.drop ?_ | exact Fewer.refl _ | exact Fewer.inl _ _ | (simp only [List.append_nil]; first | exact Fewer.inl _ _ | exact Fewer.refl _))), ?_⟩
        refine D_only 8 rfl (by kernel_rfl) rfl (op_storeRow rfl rfl (sumsV_one _) row_onces_pair hsp (by repeat (first | exact At.here | apply At.there)) (by rw [hsp]; exact Nat.le_of_ble_eq_true rfl) ?_)
        refine ⟨(by repeat (first | exact Fewer.nil | refine Fewer.keep rfl ?_ | refine Fewer.drop ?_ | exact Fewer.refl _ | exact Fewer.inl _ _ | (simp only [List.append_nil]; first | exact Fewer.inl _ _ | exact Fewer.refl _))), ?_⟩
        refine D_take 9 rfl (by kernel_rfl) (by kernel_rfl) (by kernel_rfl) (by repeat (first | exact calm_body | exact calm_mid | apply calm_noGoto | exact calm_midE | apply calm_then | apply calm_block)) (p_assign rfl) rfl ?_
        refine D_done (by kernel_rfl) ?_
        rw [lay_whole (by rw [hsp]; rfl)]
        exact E_midE b8 trivial (by repeat (first | exact Sub.nil | refine Sub.cons rfl ?_)) (Fewer.refl _)
    intro q _
    repeat (first | refine S_scope ?_ | refine S_label ?_ | refine E_noGoto_normal ?_ | refine E_noGoto_ret ?_ | refine E_noGoto_exit ?_ | refine S_yes rfl (by first | with_reducible rfl | decide) ?_ | refine S_no rfl (by first | with_reducible rfl | decide) ?_ | refine S_seq ?_ | refine E_seq ?_ | refine S_block ?_ | refine E_block_normal ?_ | refine S_skip ?_ | refine S_exit ?_ | refine S_ret ?_ | refine E_then_exit ?_ | refine E_then_ret ?_ | refine E_block_ret ?_ | refine E_block_exit ?_ | refine E_block_exit_other rfl ?_)
    refine S_tail 7 (by kernel_rfl) (by kernel_rfl) (by kernel_rfl) (by kernel_rfl) ?_
    refine Q_cons (Still1.of_pure (p_move rfl)) rfl ?_
    refine Q_cons (Still1.of_pure (by first | exact p_fieldAddr0 rfl fd_api_Once_0 | exact p_fieldAddr rfl fd_api_Once_0)) rfl ?_
    refine Q_cons (Still1.of_pure (p_indexArrR (j := k) rfl rfl rfl ut_64_api_Sum row_Sum hh.1)) rfl ?_
    refine Q_cons (Still1.of_pure (p_sliceArr rfl arr_Sum)) rfl ?_
    refine Q_cons (Still1.of_pure (p_move rfl)) rfl ?_
    refine Q_cons (Still1.of_pure (p_indexArrR (j := bitN m k) rfl rfl rfl ut_onces_pair row_Sum hb)) rfl ?_
    refine Q_cons (Still1.of_pure (p_sliceArr rfl arr_Sum)) rfl ?_
    refine Q_nop ?_
    refine Q_nil ?_
    refine E_tail ?_
    refine R_cons rfl (op_copy (n := 32) rfl rfl slc_u8s rfl (fun w' hm => by have h := (hm.readsS (b := q) (secP_sums seed idx.toNat k 2) (by repeat (first | exact List.Mem.head _ | apply List.Mem.tail))).at_ (j := bitN m k) (by rw [secP_length]; exact hb); rw [hg0] at h; exact h) (bytesV_one _) (by repeat (first | exact At.here | apply At.there)) hf1' rfl ?_)
    refine R_nil ?_
    repeat (first | refine S_scope ?_ | refine S_label ?_ | refine E_noGoto_normal ?_ | refine E_noGoto_ret ?_ | refine E_noGoto_exit ?_ | refine S_yes rfl (by first | with_reducible rfl | decide) ?_ | refine S_no rfl (by first | with_reducible rfl | decide) ?_ | refine S_seq ?_ | refine E_seq ?_ | refine S_block ?_ | refine E_block_normal ?_ | refine S_skip ?_ | refine S_exit ?_ | refine S_ret ?_ | refine E_then_exit ?_ | refine E_then_ret ?_ | refine E_block_ret ?_ | refine E_block_exit ?_ | refine E_block_exit_other rfl ?_)
    rw [htk, hl1]
    refine S_region ?_
    refine R_cons rfl (op_pure (p_move rfl) rfl ?_)
    refine R_cons rfl (op_pure (p_move rfl) rfl ?_)
    refine R_cons rfl (op_pure (p_bin rfl rfl (b_sub hsub)) rfl ?_)
    refine R_cons rfl (op_pure (p_indexArrR (j := 1 - bitN m k) rfl rfl rfl ut_onces_pair row_Sum hb') rfl ?_)
    refine R_cons rfl (op_pure (p_loadR rfl row_Sum (n := 32) (cs := bytesV (secN seed idx.toNat k (1 - bitN m k))) (fun w' hm => by have h := (hm.readsS (b := q) (secP_sums seed idx.toNat k 2) (by repeat (first | exact List.Mem.head _ | apply List.Mem.tail))).at_ (j := 1 - bitN m k) (by rw [secP_length]; exact hb'); rw [hg1] at h; exact h)) rfl ?_)
    refine R_cons rfl (op_callV rfl rfl Try.func39 rfl (by kernel_rfl) rfl (Nat.le_refl _) (fun w' _ => sum19_any _ s1 w') ?_)
    refine R_cons rfl (op_pure (by first | exact p_fieldAddr0 rfl fd_api_Once_1 | exact p_fieldAddr rfl fd_api_Once_1) rfl ?_)
    refine R_cons rfl (op_pure (p_indexArrR (j := k) rfl rfl rfl ut_64_api_Sum row_Sum hh.1) rfl ?_)
    refine R_cons rfl (op_storeRow rfl rfl (bytesV_one _) row_Sum (by rw [bytesV_length, e1]) (by repeat (first | exact At.here | apply At.there)) hf2 ?_)
    refine R_nil ?_
    repeat (first | refine S_scope ?_ | refine S_label ?_ | refine E_noGoto_normal ?_ | refine E_noGoto_ret ?_ | refine E_noGoto_exit ?_ | refine S_yes rfl (by first | with_reducible rfl | decide) ?_ | refine S_no rfl (by first | with_reducible rfl | decide) ?_ | refine S_seq ?_ | refine E_seq ?_ | refine S_block ?_ | refine E_block_normal ?_ | refine S_skip ?_ | refine S_exit ?_ | refine S_ret ?_ | refine E_then_exit ?_ | refine E_then_ret ?_ | refine E_block_ret ?_ | refine E_block_exit ?_ | refine E_block_exit_other rfl ?_)
    rw [hl2]
    refine S_region ?_
    refine R_cons rfl (op_pure (p_bin rfl rfl (b_add hadd)) rfl ?_)
    refine R_cons rfl (op_pure (p_move rfl) rfl ?_)
    refine R_nil ?_
    repeat (first | refine S_scope ?_ | refine S_label ?_ | refine E_noGoto_normal ?_ | refine E_noGoto_ret ?_ | refine E_noGoto_exit ?_ | refine S_yes rfl (by first | with_reducible rfl | decide) ?_ | refine S_no rfl (by first | with_reducible rfl | decide) ?_ | refine S_seq ?_ | refine E_seq ?_ | refine S_block ?_ | refine E_block_normal ?_ | refine S_skip ?_ | refine S_exit ?_ | refine S_ret ?_ | refine E_then_exit ?_ | refine E_then_ret ?_ | refine E_block_ret ?_ | refine E_block_exit ?_ | refine E_block_exit_other rfl ?_)
    exact E_round (k + 1) hh.1 hh.2.2 (by repeat (first | exact Sub.nil | refine Sub.cons rfl ?_)) (.drop (Fewer.refl _))
  · have g1 : decide ((k : Int) < 64) = false := decide_eq_false (by omega)
    obtain rfl : k = 64 := by omega
    have hp := hpl 64
    rw [← hsl] at hp ⊢
    clear hk hlt hpl
    repeat (first | refine S_scope ?_ | refine S_label ?_ | refine E_noGoto_normal ?_ | refine E_noGoto_ret ?_ | refine E_noGoto_exit ?_ | refine S_yes rfl (by first | with_reducible rfl | decide) ?_ | refine S_no rfl (by first | with_reducible rfl | decide) ?_ | refine S_seq ?_ | refine E_seq ?_ | refine S_block ?_ | refine E_block_normal ?_ | refine S_skip ?_ | refine S_exit ?_ | refine S_ret ?_ | refine E_then_exit ?_ | refine E_then_ret ?_ | refine E_block_ret ?_ | refine E_block_exit ?_ | refine E_block_exit_other rfl ?_)
    refine S_region ?_
    refine R_cons rfl (op_pure (p_bin rfl rfl (b_lss g1)) rfl ?_)
    refine R_nil ?_
    repeat (first | refine S_scope ?_ | refine S_label ?_ | refine E_noGoto_normal ?_ | refine E_noGoto_ret ?_ | refine E_noGoto_exit ?_ | refine S_yes rfl (by first | with_reducible rfl | decide) ?_ | refine S_no rfl (by first | with_reducible rfl | decide) ?_ | refine S_seq ?_ | refine E_seq ?_ | refine S_block ?_ | refine E_block_normal ?_ | refine S_skip ?_ | refine S_exit ?_ | refine S_ret ?_ | refine E_then_exit ?_ | refine E_then_ret ?_ | refine E_block_ret ?_ | refine E_block_exit ?_ | refine E_block_exit_other rfl ?_)
    refine S_region ?_
    refine R_cons rfl (op_pure (p_loadRow rfl row_api_Once (by repeat (first | exact List.Mem.head _ | apply List.Mem.tail)) hp) rfl ?_)
    refine R_cons rfl (op_storeRow rfl rfl (sumsV_one _) row_api_Once hp (by repeat (first | exact At.here | apply At.there)) (by rw [Nat.zero_add]; exact Nat.le_refl _) ?_)
    refine R_nil ?_
    repeat (first | refine S_scope ?_ | refine S_label ?_ | refine E_noGoto_normal ?_ | refine E_noGoto_ret ?_ | refine E_noGoto_exit ?_ | refine S_yes rfl (by first | with_reducible rfl | decide) ?_ | refine S_no rfl (by first | with_reducible rfl | decide) ?_ | refine S_seq ?_ | refine E_seq ?_ | refine S_block ?_ | refine E_block_normal ?_ | refine S_skip ?_ | refine S_exit ?_ | refine S_ret ?_ | refine E_then_exit ?_ | refine E_then_ret ?_ | refine E_block_ret ?_ | refine E_block_exit ?_ | refine E_block_exit_other rfl ?_)
    rw [lay_whole rfl]
    exact E_retRow rfl rfl (by repeat (first | exact List.Mem.head _ | apply List.Mem.tail)) row_api_Once hp fun w' hm => ⟨rfl, hm.below⟩

set_option maxHeartbeats 4000000 in
theorem ref_of_any (m : List UInt8) (hm32 : m.length = 32) (l : List (List UInt8)) (hs : Sums l) (hl : l.length = 128) (w : World) :
    Calls Try.prog 13 [.agg (bytesV m).toArray, .agg (sumsV l).toArray].toArray w fun e w' => e = .returned (.agg (bytesV (ofS m l)).toArray) ∧ Below w.heap.size w w' := by
  have hol : (sha (catN (ofPair m l) 64)).length = 32 := by have h := ofS_length m l; unfold ofS at h; exact h
  have hcl : ∀ n, n ≤ 64 → (catN (ofPair m l) n).length = n * 64 := by
    intro n
    induction n with
    | zero => intro _; simp [catN]
    | succ n ih => intro h; rw [catN, List.length_append, ih (by omega), ofPair_length m l n hs (by omega), Nat.succ_mul]
  have hsl : (sumsV l).length = 4096 := by rw [sumsV_length hs, hl]
  have hbm : (bytesV m).length = 32 := by rw [bytesV_length, hm32]
  refine enter Try.func13 rfl Try.ntmps13 (by simp) ?_
  repeat (first | refine S_scope ?_ | refine S_label ?_ | refine E_noGoto_normal ?_ | refine E_noGoto_ret ?_ | refine E_noGoto_exit ?_ | refine S_yes rfl (by first | with_reducible rfl | decide) ?_ | refine S_no rfl (by first | with_reducible rfl | decide) ?_ | refine S_seq ?_ | refine E_seq ?_ | refine S_block ?_ | refine E_block_normal ?_ | refine S_skip ?_ | refine S_exit ?_ | refine S_ret ?_ | refine E_then_exit ?_ | refine E_then_ret ?_ | refine E_block_ret ?_ | refine E_block_exit ?_ | refine E_block_exit_other rfl ?_)
  refine S_region ?_
  refine R_cons rfl (op_boxRow rfl rfl (Nat.le_refl _) (fun b2 => ?_))
  refine R_cons rfl (op_boxRow rfl rfl (Nat.le_refl _) (fun b3 => ?_))
  refine R_cons rfl (op_allocRow zero_Sum rfl (Nat.le_refl _) (fun b4 => ?_))
  refine R_nil ?_
  repeat (first | refine S_scope ?_ | refine S_label ?_ | refine E_noGoto_normal ?_ | refine E_noGoto_ret ?_ | refine E_noGoto_exit ?_ | refine S_yes rfl (by first | with_reducible rfl | decide) ?_ | refine S_no rfl (by first | with_reducible rfl | decide) ?_ | refine S_seq ?_ | refine E_seq ?_ | refine S_block ?_ | refine E_block_normal ?_ | refine S_skip ?_ | refine S_exit ?_ | refine S_ret ?_ | refine E_then_exit ?_ | refine E_then_ret ?_ | refine E_block_ret ?_ | refine E_block_exit ?_ | refine E_block_exit_other rfl ?_)
  refine S_region ?_
  refine R_cons rfl (op_pure (p_assign rfl) rfl ?_)
  refine R_nil ?_
  repeat (first | refine S_scope ?_ | refine S_label ?_ | refine E_noGoto_normal ?_ | refine E_noGoto_ret ?_ | refine E_noGoto_exit ?_ | refine S_yes rfl (by first | with_reducible rfl | decide) ?_ | refine S_no rfl (by first | with_reducible rfl | decide) ?_ | refine S_seq ?_ | refine E_seq ?_ | refine S_block ?_ | refine E_block_normal ?_ | refine S_skip ?_ | refine S_exit ?_ | refine S_ret ?_ | refine E_then_exit ?_ | refine E_then_ret ?_ | refine E_block_ret ?_ | refine E_block_exit ?_ | refine E_block_exit_other rfl ?_)
  refine S_region ?_
  refine R_cons rfl (op_pure (p_assign rfl) rfl ?_)
  refine R_nil ?_
  repeat (first | refine S_scope ?_ | refine S_label ?_ | refine E_noGoto_normal ?_ | refine E_noGoto_ret ?_ | refine E_noGoto_exit ?_ | refine S_yes rfl (by first | with_reducible rfl | decide) ?_ | refine S_no rfl (by first | with_reducible rfl | decide) ?_ | refine S_seq ?_ | refine E_seq ?_ | refine S_block ?_ | refine E_block_normal ?_ | refine S_skip ?_ | refine S_exit ?_ | refine S_ret ?_ | refine E_then_exit ?_ | refine E_then_ret ?_ | refine E_block_ret ?_ | refine E_block_exit ?_ | refine E_block_exit_other rfl ?_)
  refine S_loop (σ := Nat × Buf) (fun s => [(6, .int .i64 (s.1 : Int)), (5, s.2.val (catN (ofPair m l) s.1)), (4, .pointer (some ⟨b4, 0, none⟩)), (3, .pointer (some ⟨b3, 0, none⟩)), (2, .pointer (some ⟨b2, 0, none⟩))])
    (fun s => (b4, .cells (bytesV (List.replicate 32 0)).toArray 23 (0, 0)) :: (b3, .cells (sumsV l).toArray 26 (0, 0)) :: (b2, .cells (bytesV m).toArray 23 (0, 0)) :: s.2.hp 5 (catN (ofPair m l) s.1)) (fun s => s.1 ≤ 64 ∧ s.2.ok (catN (ofPair m l) s.1)) (fun s => 64 - s.1) (0, none)
    ⟨Nat.zero_le _, by show catN (ofPair m l) 0 = []; unfold catN; rfl⟩ (Sub.cons rfl (Sub.cons (by unfold Buf.val Buf.addr Buf.cap catN; rfl) (by repeat (first | exact Sub.nil | refine Sub.cons rfl ?_)))) (by unfold Buf.hp; exact Fewer.refl _) ?_
  rintro ⟨n, u⟩ ⟨hn, hok⟩
  dsimp only at hn hok ⊢
  have hcn := hcl n hn
  by_cases hlt : n < 64
  · have g1 : decide ((n : Int) < 64) = true := decide_eq_true (by omega)
    have hadd : IntKind.i64.wrap ((n : Int) + 1) = ((n + 1 : Nat) : Int) := by rw [w_in_i64 (by omega)]; omega
    have hx : (sha (l.getD n [])).length = 32 := sha_length _
    have hx0 : (l.getD n []).length = 32 := hs _ (by rw [List.getD_eq_getElem?_getD, List.getElem?_eq_getElem (by omega)]; exact List.getElem_mem _)
    have hy : (l.getD (64 + n) []).length = 32 := hs _ (by rw [List.getD_eq_getElem?_getD, List.getElem?_eq_getElem (by omega)]; exact List.getElem_mem _)
    have hadr : 0 + (64 + n) * 32 = 2048 + n * 32 := by omega
    have hin : n < l.length ∧ 64 + n < l.length ∧ n < 256 := by omega
    have hb := bitN_lt m n
    repeat (first | refine S_scope ?_ | refine S_label ?_ | refine E_noGoto_normal ?_ | refine E_noGoto_ret ?_ | refine E_noGoto_exit ?_ | refine S_yes rfl (by first | with_reducible rfl | decide) ?_ | refine S_no rfl (by first | with_reducible rfl | decide) ?_ | refine S_seq ?_ | refine E_seq ?_ | refine S_block ?_ | refine E_block_normal ?_ | refine S_skip ?_ | refine S_exit ?_ | refine S_ret ?_ | refine E_then_exit ?_ | refine E_then_ret ?_ | refine E_block_ret ?_ | refine E_block_exit ?_ | refine E_block_exit_other rfl ?_)
    refine S_region ?_
    refine R_cons rfl (op_pure (p_move rfl) rfl ?_)
    refine R_cons rfl (op_pure (p_bin rfl rfl (b_lss g1)) rfl ?_)
    refine R_nil ?_
    repeat (first | refine S_scope ?_ | refine S_label ?_ | refine E_noGoto_normal ?_ | refine E_noGoto_ret ?_ | refine E_noGoto_exit ?_ | refine S_yes rfl (by first | with_reducible rfl | decide) ?_ | refine S_no rfl (by first | with_reducible rfl | decide) ?_ | refine S_seq ?_ | refine E_seq ?_ | refine S_block ?_ | refine E_block_normal ?_ | refine S_skip ?_ | refine S_exit ?_ | refine S_ret ?_ | refine E_then_exit ?_ | refine E_then_ret ?_ | refine E_block_ret ?_ | refine E_block_exit ?_ | refine E_block_exit_other rfl ?_)
    refine S_region ?_
    refine R_cons rfl (op_pure (p_move rfl) rfl ?_)
    refine R_cons rfl (op_pure (by first | exact p_fieldAddr0 rfl fd_api_Once_0 | exact p_fieldAddr rfl fd_api_Once_0) rfl ?_)
    refine R_cons rfl (op_pure (p_indexArrR (j := n) rfl rfl rfl ut_64_api_Sum row_Sum hlt) rfl ?_)
    refine R_cons rfl (op_pure (p_loadR rfl row_Sum (n := 32) (cs := bytesV (l.getD n [])) (fun w' hm => (hm.readsS (b := b3) hs (by repeat (first | exact List.Mem.head _ | apply List.Mem.tail))).at_ (j := n) hin.1)) rfl ?_)
    refine R_cons rfl (op_callV rfl rfl Try.func40 rfl (by kernel_rfl) rfl (Nat.le_refl _) (fun w' _ => refSum19_any _ hx0 w') ?_)
    refine R_cons rfl (op_allocRow zero_Sum rfl (Nat.le_refl _) (fun b7 => ?_))
    refine R_cons rfl (op_storeRow rfl rfl (bytesV_one _) row_Sum (by rw [bytesV_length, hx]) (by repeat (first | exact At.here | apply At.there)) (by rw [bytesV_length, bytesV_length, hx]; exact Nat.le_refl 32) ?_)
    refine R_nil ?_
    repeat (first | refine S_scope ?_ | refine S_label ?_ | refine E_noGoto_normal ?_ | refine E_noGoto_ret ?_ | refine E_noGoto_exit ?_ | refine S_yes rfl (by first | with_reducible rfl | decide) ?_ | refine S_no rfl (by first | with_reducible rfl | decide) ?_ | refine S_seq ?_ | refine E_seq ?_ | refine S_block ?_ | refine E_block_normal ?_ | refine S_skip ?_ | refine S_exit ?_ | refine S_ret ?_ | refine E_then_exit ?_ | refine E_then_ret ?_ | refine E_block_ret ?_ | refine E_block_exit ?_ | refine E_block_exit_other rfl ?_)
    rw [lay_whole (by rw [bytesV_length, bytesV_length, hx]; rfl)]
    refine S_region ?_
    refine R_cons rfl (op_pure (p_move rfl) rfl ?_)
    refine R_cons rfl (op_pure (by first | exact p_fieldAddr0 rfl fd_api_Once_1 | exact p_fieldAddr rfl fd_api_Once_1) rfl ?_)
    refine R_cons rfl (op_pure (p_indexArrR (j := n) rfl rfl rfl ut_64_api_Sum row_Sum hlt) rfl ?_)
    refine R_cons rfl (op_pure (p_loadR rfl row_Sum (n := 32) (cs := bytesV (l.getD (64 + n) [])) (fun w' hm => by have h := (hm.readsS (b := b3) hs (by repeat (first | exact List.Mem.head _ | apply List.Mem.tail))).at_ (j := 64 + n) hin.2.1; rw [hadr] at h; exact h)) rfl ?_)
    refine R_cons rfl (op_allocRow zero_Sum rfl (Nat.le_refl _) (fun b8 => ?_))
    refine R_cons rfl (op_storeRow rfl rfl (bytesV_one _) row_Sum (by rw [bytesV_length, hy]) (by repeat (first | exact At.here | apply At.there)) (by rw [bytesV_length, bytesV_length, hy]; exact Nat.le_refl 32) ?_)
    refine R_nil ?_
    repeat (first | refine S_scope ?_ | refine S_label ?_ | refine E_noGoto_normal ?_ | refine E_noGoto_ret ?_ | refine E_noGoto_exit ?_ | refine S_yes rfl (by first | with_reducible rfl | decide) ?_ | refine S_no rfl (by first | with_reducible rfl | decide) ?_ | refine S_seq ?_ | refine E_seq ?_ | refine S_block ?_ | refine E_block_normal ?_ | refine S_skip ?_ | refine S_exit ?_ | refine S_ret ?_ | refine E_then_exit ?_ | refine E_then_ret ?_ | refine E_block_ret ?_ | refine E_block_exit ?_ | refine E_block_exit_other rfl ?_)
    rw [lay_whole (by rw [bytesV_length, bytesV_length, hy]; rfl)]
    by_cases hb0 : bitN m n = 0
    · have hsucc : catN (ofPair m l) n ++ (sha (l.getD n []) ++ l.getD (64 + n) []) = catN (ofPair m l) (n + 1) := by rw [catN]; unfold ofPair; rw [if_pos hb0]
      refine S_region ?_
      refine R_cons rfl (op_pure (p_loadRow rfl row_Sum (by repeat (first | exact List.Mem.head _ | apply List.Mem.tail)) hbm) rfl ?_)
      refine R_cons rfl (op_pure (p_move rfl) rfl ?_)
      refine R_cons rfl (op_callV rfl rfl Try.func41 rfl (by kernel_rfl) rfl (Nat.le_refl _) (fun w' _ => by have h := refBit19_any m hm32 n hin.2.2 w'; rw [hb0] at h; exact h) ?_)
      refine R_cons rfl (op_pure (p_bin rfl rfl (b_eql (r := false) (by decide))) rfl ?_)
      refine R_nil ?_
      repeat (first | refine S_scope ?_ | refine S_label ?_ | refine E_noGoto_normal ?_ | refine E_noGoto_ret ?_ | refine E_noGoto_exit ?_ | refine S_yes rfl (by first | with_reducible rfl | decide) ?_ | refine S_no rfl (by first | with_reducible rfl | decide) ?_ | refine S_seq ?_ | refine E_seq ?_ | refine S_block ?_ | refine E_block_normal ?_ | refine S_skip ?_ | refine S_exit ?_ | refine S_ret ?_ | refine E_then_exit ?_ | refine E_then_ret ?_ | refine E_block_ret ?_ | refine E_block_exit ?_ | refine E_block_exit_other rfl ?_)
      refine S_cutE (σ := Buf) (fun v => [(6, .int .i64 (n : Int)), (5, v.val (catN (ofPair m l) (n + 1))), (4, .pointer (some ⟨b4, 0, none⟩)), (3, .pointer (some ⟨b3, 0, none⟩)), (2, .pointer (some ⟨b2, 0, none⟩))])
        (fun v => (b4, .cells (bytesV (List.replicate 32 0)).toArray 23 (0, 0)) :: (b3, .cells (sumsV l).toArray 26 (0, 0)) :: (b2, .cells (bytesV m).toArray 23 (0, 0)) :: v.hp 5 (catN (ofPair m l) (n + 1))) (fun v => v.ok (catN (ofPair m l) (n + 1))) ?_ ?_
      · refine S_drawn (by kernel_rfl) (.keep rfl (.keep rfl (.keep rfl (.keep rfl (.keep rfl .nil))))) ?_
        refine D_take 0 rfl (by kernel_rfl) (by kernel_rfl) (by kernel_rfl) (by repeat (first | exact calm_body | exact calm_mid | apply calm_noGoto | exact calm_midE | apply calm_then | apply calm_block)) (p_move rfl) rfl ?_
        refine D_take 1 rfl (by kernel_rfl) (by kernel_rfl) (by kernel_rfl) (by repeat (first | exact calm_body | exact calm_mid | apply calm_noGoto | exact calm_midE | apply calm_then | apply calm_block)) (p_sliceArr rfl arr_Sum) rfl ?_
        refine D_take 3 rfl (by kernel_rfl) (by kernel_rfl) (by kernel_rfl) (by repeat (first | exact calm_body | exact calm_mid | apply calm_noGoto | exact calm_midE | apply calm_then | apply calm_block)) (p_sliceArr rfl arr_Sum) rfl ?_
        refine D_only 2 rfl (by kernel_rfl) rfl (op_appendBuf (u := u) (xs := catN (ofPair m l) n) (ys := (sha (l.getD n []))) rfl rfl slc_u8s.1 el_u8 (by exact .there (.there (.there (.there (.there .tail))))) hok (fun w hm => hm.readsAll (b := b7) (by repeat (first | exact List.Mem.head _ | apply List.Mem.tail)) (by rw [bytesV_length, hx])) (by rw [hcn, hx]; omega) rfl (Nat.le_refl _) (fun u1 hok1 hne1 => ?_))
        refine ⟨(by repeat (first | exact Fewer.nil | refine Fewer.keep rfl ?_ | refine Fewer.drop ?_ | exact Fewer.refl _ | exact Fewer.inl _ _ | (simp only [List.append_nil]; first | exact Fewer.inl _ _ | exact Fewer.refl _))), ?_⟩
        refine D_only 4 rfl (by kernel_rfl) rfl (op_appendBuf (u := u1) (xs := catN (ofPair m l) n ++ (sha (l.getD n []))) (ys := (l.getD (64 + n) [])) rfl rfl slc_u8s.1 el_u8 (by exact .right .tail) hok1 (fun w hm => hm.readsAll (b := b8) (by repeat (first | exact List.Mem.head _ | apply List.Mem.tail)) (by rw [bytesV_length, hy])) (by rw [List.length_append, hcn, hx, hy]; omega) rfl (Nat.le_refl _) (fun u2 hok2 hne2 => ?_))
        refine ⟨(by repeat (first | exact Fewer.nil | refine Fewer.keep rfl ?_ | refine Fewer.drop ?_ | exact Fewer.refl _ | exact Fewer.inl _ _ | (simp only [List.append_nil]; first | exact Fewer.inl _ _ | exact Fewer.refl _))), ?_⟩
        refine D_take 5 rfl (by kernel_rfl) (by kernel_rfl) (by kernel_rfl) (by repeat (first | exact calm_body | exact calm_mid | apply calm_noGoto | exact calm_midE | apply calm_then | apply calm_block)) (p_assign rfl) rfl ?_
        refine D_done (by kernel_rfl) ?_
        rw [List.append_assoc, hsucc] at hok2 ⊢
        exact E_midE u2 hok2 (by repeat (first | exact Sub.nil | refine Sub.cons rfl ?_)) (by rw [List.append_nil]; exact .drop (.drop (Fewer.refl _)))
      intro v hokv
      repeat (first | refine S_scope ?_ | refine S_label ?_ | refine E_noGoto_normal ?_ | refine E_noGoto_ret ?_ | refine E_noGoto_exit ?_ | refine S_yes rfl (by first | with_reducible rfl | decide) ?_ | refine S_no rfl (by first | with_reducible rfl | decide) ?_ | refine S_seq ?_ | refine E_seq ?_ | refine S_block ?_ | refine E_block_normal ?_ | refine S_skip ?_ | refine S_exit ?_ | refine S_ret ?_ | refine E_then_exit ?_ | refine E_then_ret ?_ | refine E_block_ret ?_ | refine E_block_exit ?_ | refine E_block_exit_other rfl ?_)
      refine S_region ?_
      refine R_cons rfl (op_pure (p_move rfl) rfl ?_)
      refine R_cons rfl (op_pure (p_bin rfl rfl (b_add hadd)) rfl ?_)
      refine R_cons rfl (op_pure (p_assign rfl) rfl ?_)
      refine R_nil ?_
      repeat (first | refine S_scope ?_ | refine S_label ?_ | refine E_noGoto_normal ?_ | refine E_noGoto_ret ?_ | refine E_noGoto_exit ?_ | refine S_yes rfl (by first | with_reducible rfl | decide) ?_ | refine S_no rfl (by first | with_reducible rfl | decide) ?_ | refine S_seq ?_ | refine E_seq ?_ | refine S_block ?_ | refine E_block_normal ?_ | refine S_skip ?_ | refine S_exit ?_ | refine S_ret ?_ | refine E_then_exit ?_ | refine E_then_ret ?_ | refine E_block_ret ?_ | refine E_block_exit ?_ | refine E_block_exit_other rfl ?_)
      exact E_round (s := (n, u)) (n + 1, v) ⟨hlt, hokv⟩ (by show 64 - (n + 1) < 64 - n; omega) (by repeat (first | exact Sub.nil | refine Sub.cons rfl ?_)) (Fewer.refl _)
    · have hb1 : bitN m n = 1 := by omega
      have hsucc : catN (ofPair m l) n ++ (l.getD (64 + n) [] ++ sha (l.getD n [])) = catN (ofPair m l) (n + 1) := by rw [catN]; unfold ofPair; rw [if_neg hb0]
      refine S_region ?_
      refine R_cons rfl (op_pure (p_loadRow rfl row_Sum (by repeat (first | exact List.Mem.head _ | apply List.Mem.tail)) hbm) rfl ?_)
      refine R_cons rfl (op_pure (p_move rfl) rfl ?_)
      refine R_cons rfl (op_callV rfl rfl Try.func41 rfl (by kernel_rfl) rfl (Nat.le_refl _) (fun w' _ => by have h := refBit19_any m hm32 n hin.2.2 w'; rw [hb1] at h; exact h) ?_)
      refine R_cons rfl (op_pure (p_bin rfl rfl (b_eql (r := true) (by decide))) rfl ?_)
      refine R_nil ?_
      repeat (first | refine S_scope ?_ | refine S_label ?_ | refine E_noGoto_normal ?_ | refine E_noGoto_ret ?_ | refine E_noGoto_exit ?_ | refine S_yes rfl (by first | with_reducible rfl | decide) ?_ | refine S_no rfl (by first | with_reducible rfl | decide) ?_ | refine S_seq ?_ | refine E_seq ?_ | refine S_block ?_ | refine E_block_normal ?_ | refine S_skip ?_ | refine S_exit ?_ | refine S_ret ?_ | refine E_then_exit ?_ | refine E_then_ret ?_ | refine E_block_ret ?_ | refine E_block_exit ?_ | refine E_block_exit_other rfl ?_)
      refine S_region ?_
      refine R_cons rfl (op_pure (p_loadRow rfl row_Sum (by repeat (first | exact List.Mem.head _ | apply List.Mem.tail)) (by rw [bytesV_length, hy])) rfl ?_)
      refine R_cons rfl (op_pure (p_loadRow rfl row_Sum (by repeat (first | exact List.Mem.head _ | apply List.Mem.tail)) (by rw [bytesV_length, hx])) rfl ?_)
      refine R_cons rfl (op_storeRow rfl rfl (bytesV_one _) row_Sum (by rw [bytesV_length, hy]) (by repeat (first | exact At.here | apply At.there)) (by rw [bytesV_length, bytesV_length, hx, hy]; exact Nat.le_refl 32) ?_)
      refine R_cons rfl (op_storeRow rfl rfl (bytesV_one _) row_Sum (by rw [bytesV_length, hx]) (by repeat (first | exact At.here | apply At.there)) (by rw [bytesV_length, bytesV_length, hx, hy]; exact Nat.le_refl 32) ?_)
      refine R_nil ?_
      rw [lay_whole (by rw [bytesV_length, bytesV_length, hx, hy]), lay_whole (by rw [bytesV_length, bytesV_length, hx, hy])]
      repeat (first | refine S_scope ?_ | refine S_label ?_ | refine E_noGoto_normal ?_ | refine E_noGoto_ret ?_ | refine E_noGoto_exit ?_ | refine S_yes rfl (by first | with_reducible rfl | decide) ?_ | refine S_no rfl (by first | with_reducible rfl | decide) ?_ | refine S_seq ?_ | refine E_seq ?_ | refine S_block ?_ | refine E_block_normal ?_ | refine S_skip ?_ | refine S_exit ?_ | refine S_ret ?_ | refine E_then_exit ?_ | refine E_then_ret ?_ | refine E_block_ret ?_ | refine E_block_exit ?_ | refine E_block_exit_other rfl ?_)
      refine S_cutE (σ := Buf) (fun v => [(6, .int .i64 (n : Int)), (5, v.val (catN (ofPair m l) (n + 1))), (4, .pointer (some ⟨b4, 0, none⟩)), (3, .pointer (some ⟨b3, 0, none⟩)), (2, .pointer (some ⟨b2, 0, none⟩))])
        (fun v => (b4, .cells (bytesV (List.replicate 32 0)).toArray 23 (0, 0)) :: (b3, .cells (sumsV l).toArray 26 (0, 0)) :: (b2, .cells (bytesV m).toArray 23 (0, 0)) :: v.hp 5 (catN (ofPair m l) (n + 1))) (fun v => v.ok (catN (ofPair m l) (n + 1))) ?_ ?_
      · refine S_drawn (by kernel_rfl) (.keep rfl (.keep rfl (.keep rfl (.keep rfl (.keep rfl .nil))))) ?_
        refine D_take 0 rfl (by kernel_rfl) (by kernel_rfl) (by kernel_rfl) (by repeat (first | exact calm_body | exact calm_mid | apply calm_noGoto | exact calm_midE | apply calm_then | apply calm_block)) (p_move rfl) rfl ?_
        refine D_take 1 rfl (by kernel_rfl) (by kernel_rfl) (by kernel_rfl) (by repeat (first | exact calm_body | exact calm_mid | apply calm_noGoto | exact calm_midE | apply calm_then | apply calm_block)) (p_sliceArr rfl arr_Sum) rfl ?_
        refine D_take 3 rfl (by kernel_rfl) (by kernel_rfl) (by kernel_rfl) (by repeat (first | exact calm_body | exact calm_mid | apply calm_noGoto | exact calm_midE | apply calm_then | apply calm_block)) (p_sliceArr rfl arr_Sum) rfl ?_
        refine D_only 2 rfl (by kernel_rfl) rfl (op_appendBuf (u := u) (xs := catN (ofPair m l) n) (ys := (l.getD (64 + n) [])) rfl rfl slc_u8s.1 el_u8 (by exact .there (.there (.there (.there (.there .tail))))) hok (fun w hm => hm.readsAll (b := b7) (by repeat (first | exact List.Mem.head _ | apply List.Mem.tail)) (by rw [bytesV_length, hy])) (by rw [hcn, hy]; omega) rfl (Nat.le_refl _) (fun u1 hok1 hne1 => ?_))
        refine ⟨(by repeat (first | exact Fewer.nil | refine Fewer.keep rfl ?_ | refine Fewer.drop ?_ | exact Fewer.refl _ | exact Fewer.inl _ _ | (simp only [List.append_nil]; first | exact Fewer.inl _ _ | exact Fewer.refl _))), ?_⟩
        refine D_only 4 rfl (by kernel_rfl) rfl (op_appendBuf (u := u1) (xs := catN (ofPair m l) n ++ (l.getD (64 + n) [])) (ys := (sha (l.getD n []))) rfl rfl slc_u8s.1 el_u8 (by exact .right .tail) hok1 (fun w hm => hm.readsAll (b := b8) (by repeat (first | exact List.Mem.head _ | apply List.Mem.tail)) (by rw [bytesV_length, hx])) (by rw [List.length_append, hcn, hy, hx]; omega) rfl (Nat.le_refl _) (fun u2 hok2 hne2 => ?_))
        refine ⟨(by repeat (first | exact Fewer.nil | refine Fewer.keep rfl ?_ | refine Fewer.drop ?_ | exact Fewer.refl _ | exact Fewer.inl _ _ | (simp only [List.append_nil]; first | exact Fewer.inl _ _ | exact Fewer.refl _))), ?_⟩
        refine D_take 5 rfl (by kernel_rfl) (by kernel_rfl) (by kernel_rfl) (by repeat (first | exact calm_body | exact calm_mid | apply calm_noGoto | exact calm_midE | apply calm_then | apply calm_block)) (p_assign rfl) rfl ?_
        refine D_done (by kernel_rfl) ?_
        rw [List.append_assoc, hsucc] at hok2 ⊢
        exact E_midE u2 hok2 (by repeat (first | exact Sub.nil | refine Sub.cons rfl ?_)) (by rw [List.append_nil]; exact .drop (.drop (Fewer.refl _)))
      intro v hokv
      repeat (first | refine S_scope ?_ | refine S_label ?_ | refine E_noGoto_normal ?_ | refine E_noGoto_ret ?_ | refine E_noGoto_exit ?_ | refine S_yes rfl (by first | with_reducible rfl | decide) ?_ | refine S_no rfl (by first | with_reducible rfl | decide) ?_ | refine S_seq ?_ | refine E_seq ?_ | refine S_block ?_ | refine E_block_normal ?_ | refine S_skip ?_ | refine S_exit ?_ | refine S_ret ?_ | refine E_then_exit ?_ | refine E_then_ret ?_ | refine E_block_ret ?_ | refine E_block_exit ?_ | refine E_block_exit_other rfl ?_)
      refine S_region ?_
      refine R_cons rfl (op_pure (p_move rfl) rfl ?_)
      refine R_cons rfl (op_pure (p_bin rfl rfl (b_add hadd)) rfl ?_)
      refine R_cons rfl (op_pure (p_assign rfl) rfl ?_)
      refine R_nil ?_
      repeat (first | refine S_scope ?_ | refine S_label ?_ | refine E_noGoto_normal ?_ | refine E_noGoto_ret ?_ | refine E_noGoto_exit ?_ | refine S_yes rfl (by first | with_reducible rfl | decide) ?_ | refine S_no rfl (by first | with_reducible rfl | decide) ?_ | refine S_seq ?_ | refine E_seq ?_ | refine S_block ?_ | refine E_block_normal ?_ | refine S_skip ?_ | refine S_exit ?_ | refine S_ret ?_ | refine E_then_exit ?_ | refine E_then_ret ?_ | refine E_block_ret ?_ | refine E_block_exit ?_ | refine E_block_exit_other rfl ?_)
      exact E_round (s := (n, u)) (n + 1, v) ⟨hlt, hokv⟩ (by show 64 - (n + 1) < 64 - n; omega) (by repeat (first | exact Sub.nil | refine Sub.cons rfl ?_)) (Fewer.refl _)
  · have g1 : decide ((n : Int) < 64) = false := decide_eq_false (by omega)
    obtain rfl : n = 64 := by omega
    obtain ⟨g, sp, rfl⟩ := Buf.some_of hok (by omega)
    repeat (first | refine S_scope ?_ | refine S_label ?_ | refine E_noGoto_normal ?_ | refine E_noGoto_ret ?_ | refine E_noGoto_exit ?_ | refine S_yes rfl (by first | with_reducible rfl | decide) ?_ | refine S_no rfl (by first | with_reducible rfl | decide) ?_ | refine S_seq ?_ | refine E_seq ?_ | refine S_block ?_ | refine E_block_normal ?_ | refine S_skip ?_ | refine S_exit ?_ | refine S_ret ?_ | refine E_then_exit ?_ | refine E_then_ret ?_ | refine E_block_ret ?_ | refine E_block_exit ?_ | refine E_block_exit_other rfl ?_)
    refine S_region ?_
    refine R_cons rfl (op_pure (p_move rfl) rfl ?_)
    refine R_cons rfl (op_pure (p_bin rfl rfl (b_lss g1)) rfl ?_)
    refine R_nil ?_
    repeat (first | refine S_scope ?_ | refine S_label ?_ | refine E_noGoto_normal ?_ | refine E_noGoto_ret ?_ | refine E_noGoto_exit ?_ | refine S_yes rfl (by first | with_reducible rfl | decide) ?_ | refine S_no rfl (by first | with_reducible rfl | decide) ?_ | refine S_seq ?_ | refine E_seq ?_ | refine S_block ?_ | refine E_block_normal ?_ | refine S_skip ?_ | refine S_exit ?_ | refine S_ret ?_ | refine E_then_exit ?_ | refine E_then_ret ?_ | refine E_block_ret ?_ | refine E_block_exit ?_ | refine E_block_exit_other rfl ?_)
    refine S_region ?_
    refine R_cons rfl (op_pure (p_move rfl) rfl ?_)
    refine R_cons rfl (op_callV rfl rfl Try.func42 rfl (by kernel_rfl) rfl (Nat.le_refl _) (fun w' hm => refOf_any _ _ _ (catN (ofPair m l) 64) w' rfl (hm.readsBuf (u := some (g, sp)) (e := 5) (by exact .there (.there (.there .tail))) hok) (by omega)) ?_)
    refine R_cons rfl (op_storeRow rfl rfl (bytesV_one _) row_Sum (by rw [bytesV_length, hol]) (by repeat (first | exact At.here | apply At.there)) (by rw [bytesV_length, bytesV_length, hol]; exact Nat.le_refl 32) ?_)
    refine R_nil ?_
    repeat (first | refine S_scope ?_ | refine S_label ?_ | refine E_noGoto_normal ?_ | refine E_noGoto_ret ?_ | refine E_noGoto_exit ?_ | refine S_yes rfl (by first | with_reducible rfl | decide) ?_ | refine S_no rfl (by first | with_reducible rfl | decide) ?_ | refine S_seq ?_ | refine E_seq ?_ | refine S_block ?_ | refine E_block_normal ?_ | refine S_skip ?_ | refine S_exit ?_ | refine S_ret ?_ | refine E_then_exit ?_ | refine E_then_ret ?_ | refine E_block_ret ?_ | refine E_block_exit ?_ | refine E_block_exit_other rfl ?_)
    refine E_fewer (Sub.refl _) (H' := [(b4, .cells (bytesV (ofS m l)).toArray 23 (0, 0))]) ?_ (E_retRow rfl rfl (by repeat (first | exact List.Mem.head _ | apply List.Mem.tail)) row_Sum (by rw [bytesV_length, ofS_length]) fun w' hm => ⟨rfl, hm.below⟩)
    exact .keep (by rw [lay_whole (by rw [bytesV_length, bytesV_length, hol]; rfl)]; unfold ofS; rfl) .nil

set_option maxHeartbeats 2000000 in
theorem lives19 (w : World) : Calls Try.prog 14 #[] w fun e w' => e = .returned (.bool true) ∧ Below w.heap.size w w' := by
  have hm32 : (129 :: List.replicate 31 (0 : UInt8)).length = 32 := by simp
  have hz := z32
  have hb : bitN (129 :: List.replicate 31 0) 0 = 1 := by decide +kernel
  have htold : (signL (List.replicate 32 0) 3 (129 :: List.replicate 31 0)).getD 0 [] = secretS (List.replicate 32 0) 3 0 1 := by
    rw [signL_told _ _ _ 0 (by omega), hb]; unfold secN; rfl
  have e0 : secretE 0 1 = 0 := by decide
  have hne := live_secret
  have hl := secretS_length (List.replicate 32 0) 3 0 1
  have hss := signP_sums (List.replicate 32 0) 3 (129 :: List.replicate 31 0) 64
  have hsn : (signP (List.replicate 32 0) 3 (129 :: List.replicate 31 0) 64).length = 128 := signP_length _ _ _ _
  have hsd : signP (List.replicate 32 0) 3 (129 :: List.replicate 31 0) 64 = signL (List.replicate 32 0) 3 (129 :: List.replicate 31 0) := by unfold signL; rfl
  rw [hsd] at hss hsn
  have hfin : (ofS (129 :: List.replicate 31 0) (signL (List.replicate 32 0) 3 (129 :: List.replicate 31 0)) == pubS (List.replicate 32 0) 3) = true := by rw [of_sign]; exact beq_self_eq_true _
  have ho := ofS_length (129 :: List.replicate 31 0) (signL (List.replicate 32 0) 3 (129 :: List.replicate 31 0))
  have hp := pubS_length (List.replicate 32 0) 3
  have hsv : (sumsV (signL (List.replicate 32 0) 3 (129 :: List.replicate 31 0))).length = 4096 := by rw [sumsV_length hss, hsn]
  clear hsd hb
  refine enter Try.func14 rfl Try.ntmps14 (by simp) ?_
  have hzs : Sums (List.replicate 128 (List.replicate 32 (0 : UInt8))) := fun x hx => by rw [List.eq_of_mem_replicate hx]; exact z32
  have hsz : (sumsV (signL (List.replicate 32 0) 3 (129 :: List.replicate 31 0))).length = (sumsV (List.replicate 128 (List.replicate 32 (0 : UInt8)))).length := by rw [hsv, sumsV_length hzs, List.length_replicate]
  have hset : (bytesV (List.replicate 32 0)).set 0 (.int .u8 129) = bytesV (129 :: List.replicate 31 0) := rfl
  repeat (first | refine S_scope ?_ | refine S_label ?_ | refine E_noGoto_normal ?_ | refine E_noGoto_ret ?_ | refine E_noGoto_exit ?_ | refine S_yes rfl (by first | with_reducible rfl | decide) ?_ | refine S_no rfl (by first | with_reducible rfl | decide) ?_ | refine S_seq ?_ | refine E_seq ?_ | refine S_block ?_ | refine E_block_normal ?_ | refine S_skip ?_ | refine S_exit ?_ | refine S_ret ?_ | refine E_then_exit ?_ | refine E_then_ret ?_ | refine E_block_ret ?_ | refine E_block_exit ?_ | refine E_block_exit_other rfl ?_)
  refine S_region ?_
  refine R_cons rfl (op_pure (p_assign rfl) rfl ?_)
  refine R_nil ?_
  repeat (first | refine S_scope ?_ | refine S_label ?_ | refine E_noGoto_normal ?_ | refine E_noGoto_ret ?_ | refine E_noGoto_exit ?_ | refine S_yes rfl (by first | with_reducible rfl | decide) ?_ | refine S_no rfl (by first | with_reducible rfl | decide) ?_ | refine S_seq ?_ | refine E_seq ?_ | refine S_block ?_ | refine E_block_normal ?_ | refine S_skip ?_ | refine S_exit ?_ | refine S_ret ?_ | refine E_then_exit ?_ | refine E_then_ret ?_ | refine E_block_ret ?_ | refine E_block_exit ?_ | refine E_block_exit_other rfl ?_)
  refine S_region ?_
  refine R_cons rfl (op_allocRow zero_Sum rfl (Nat.le_refl _) (fun b1 => ?_))
  refine R_cons rfl (op_allocRow zero_Sum rfl (Nat.le_refl _) (fun b2 => ?_))
  refine R_nil ?_
  repeat (first | refine S_scope ?_ | refine S_label ?_ | refine E_noGoto_normal ?_ | refine E_noGoto_ret ?_ | refine E_noGoto_exit ?_ | refine S_yes rfl (by first | with_reducible rfl | decide) ?_ | refine S_no rfl (by first | with_reducible rfl | decide) ?_ | refine S_seq ?_ | refine E_seq ?_ | refine S_block ?_ | refine E_block_normal ?_ | refine S_skip ?_ | refine S_exit ?_ | refine S_ret ?_ | refine E_then_exit ?_ | refine E_then_ret ?_ | refine E_block_ret ?_ | refine E_block_exit ?_ | refine E_block_exit_other rfl ?_)
  refine S_region ?_
  refine R_cons rfl (op_pure (by first | exact p_indexArr0 (j := 0) rfl rfl rfl arr_Sum (by decide) | exact p_indexArr (j := 0) rfl rfl rfl arr_Sum (by decide)) rfl ?_)
  refine R_cons rfl (op_store rfl rfl rfl sc_u8 (by repeat (first | exact At.here | apply At.there)) (by first | exact Nat.le_of_ble_eq_true rfl | omega | (simp only [bytesV_length, wordsV_length]; omega) | (simp only [bytesV_length, wordsV_length, List.length_cons, List.length_nil, List.length_set, List.length_append]; omega) | decide) ?_)
  refine R_nil ?_
  repeat (first | refine S_scope ?_ | refine S_label ?_ | refine E_noGoto_normal ?_ | refine E_noGoto_ret ?_ | refine E_noGoto_exit ?_ | refine S_yes rfl (by first | with_reducible rfl | decide) ?_ | refine S_no rfl (by first | with_reducible rfl | decide) ?_ | refine S_seq ?_ | refine E_seq ?_ | refine S_block ?_ | refine E_block_normal ?_ | refine S_skip ?_ | refine S_exit ?_ | refine S_ret ?_ | refine E_then_exit ?_ | refine E_then_ret ?_ | refine E_block_ret ?_ | refine E_block_exit ?_ | refine E_block_exit_other rfl ?_)
  rw [hset]
  generalize hmm : (129 :: List.replicate 31 0 : List UInt8) = m at *
  refine S_region ?_
  refine R_cons rfl (op_pure (p_loadRow rfl row_Sum (by repeat (first | exact List.Mem.head _ | apply List.Mem.tail)) (by rw [bytesV_length, hz])) rfl ?_)
  refine R_cons rfl (op_pure (p_loadRow rfl row_Sum (by repeat (first | exact List.Mem.head _ | apply List.Mem.tail)) (by rw [bytesV_length, hm32])) rfl ?_)
  refine R_cons rfl (op_callV rfl rfl Try.func15 rfl (by kernel_rfl) rfl (Nat.le_refl _) (fun w' _ => sign_any _ hz 3 _ hm32 w') ?_)
  refine R_cons rfl (op_allocRow zero_api_Once rfl (Nat.le_refl _) (fun b3 => ?_))
  refine R_cons rfl (op_storeRow rfl rfl (sumsV_one _) row_api_Once hsv (by repeat (first | exact At.here | apply At.there)) (by rw [Nat.zero_add, z4096]; exact Nat.le_of_eq hsz) ?_)
  refine R_nil ?_
  repeat (first | refine S_scope ?_ | refine S_label ?_ | refine E_noGoto_normal ?_ | refine E_noGoto_ret ?_ | refine E_noGoto_exit ?_ | refine S_yes rfl (by first | with_reducible rfl | decide) ?_ | refine S_no rfl (by first | with_reducible rfl | decide) ?_ | refine S_seq ?_ | refine E_seq ?_ | refine S_block ?_ | refine E_block_normal ?_ | refine S_skip ?_ | refine S_exit ?_ | refine S_ret ?_ | refine E_then_exit ?_ | refine E_then_ret ?_ | refine E_block_ret ?_ | refine E_block_exit ?_ | refine E_block_exit_other rfl ?_)
  rw [lay_whole (by rw [z4096]; exact hsz.symm)]
  refine S_region ?_
  refine R_cons rfl (op_pure (p_loadRow rfl row_Sum (by repeat (first | exact List.Mem.head _ | apply List.Mem.tail)) (by rw [bytesV_length, hz])) rfl ?_)
  refine R_cons rfl (op_callV rfl rfl Try.func17 rfl (by kernel_rfl) rfl (Nat.le_refl _) (fun w' _ => by have h := seedOf_any (List.replicate 32 0) hz 3 0 1 w'; rw [show (3 : UInt32).toNat = 3 from rfl, e0] at h; exact h) ?_)
  refine R_cons rfl (op_pure (p_move rfl) rfl ?_)
  refine R_cons rfl (op_pure (p_extract (i := 0) rfl rfl) rfl ?_)
  refine R_cons rfl (op_pure (p_extract (i := 1) rfl rfl) rfl ?_)
  refine R_cons rfl (op_allocRow zero_Sum rfl (Nat.le_refl _) (fun b4 => ?_))
  refine R_cons rfl (op_storeRow rfl rfl (bytesV_one _) row_Sum (by rw [bytesV_length, hl]) (by repeat (first | exact At.here | apply At.there)) (by rw [bytesV_length, bytesV_length, hl]; exact Nat.le_refl 32) ?_)
  refine R_cons rfl (op_pure (p_assign rfl) rfl ?_)
  refine R_nil ?_
  repeat (first | refine S_scope ?_ | refine S_label ?_ | refine E_noGoto_normal ?_ | refine E_noGoto_ret ?_ | refine E_noGoto_exit ?_ | refine S_yes rfl (by first | with_reducible rfl | decide) ?_ | refine S_no rfl (by first | with_reducible rfl | decide) ?_ | refine S_seq ?_ | refine E_seq ?_ | refine S_block ?_ | refine E_block_normal ?_ | refine S_skip ?_ | refine S_exit ?_ | refine S_ret ?_ | refine E_then_exit ?_ | refine E_then_ret ?_ | refine E_block_ret ?_ | refine E_block_exit ?_ | refine E_block_exit_other rfl ?_)
  rw [lay_whole (by rw [bytesV_length, bytesV_length, hl]; rfl)]
  have hne2 : (secretS (List.replicate 32 0) 3 0 1 != List.replicate 32 0) = true := by
    rw [bne]; exact hne
  generalize secretS (List.replicate 32 0) 3 0 1 = v at *
  refine S_quiet (by kernel_rfl) (by kernel_rfl) ?_
  refine Q_cons (Still1.of_pure (p_move rfl)) rfl ?_
  refine Q_cons (Still1.of_pure (p_bin rfl rfl (b_eql (by first | assumption | exact beq_iff_eq.2 (by omega) | exact beq_eq_false_iff_ne.2 (by omega) | rfl)))) rfl ?_
  refine Q_cons (Still1.of_pure (p_move rfl)) rfl ?_
  first | refine Q_pass rfl rfl rfl rfl ?_ | refine Q_pass_undef rfl rfl rfl ?_ | refine Q_guard rfl rfl (Still1.of_pure (p_loadRow rfl row_Sum (by repeat (first | exact List.Mem.head _ | apply List.Mem.tail)) (by rw [bytesV_length, hl]))) rfl ?_
  first | refine Q_pass rfl rfl rfl rfl ?_ | refine Q_pass_undef rfl rfl rfl ?_ | refine Q_guard rfl rfl (Still1.of_pure (p_build (ps := []) (cs := bytesV (List.replicate 32 0)) rfl (by kernel_rfl))) rfl ?_
  first | refine Q_pass rfl rfl rfl rfl ?_ | refine Q_pass_undef rfl rfl rfl ?_ | refine Q_guard rfl rfl (Still1.of_pure (p_neq_bytesR rfl rfl arr_Sum.1 Try.underlying5 (by kernel_rfl) (by kernel_rfl) hl z32 hne)) rfl ?_
  refine Q_cons (Still1.of_pure (by first | exact p_pick_yes rfl rfl | exact p_pick_no rfl rfl | exact p_pick rfl rfl rfl)) rfl ?_
  refine Q_cons (Still1.of_pure (p_move rfl)) rfl ?_
  first | refine Q_pass rfl rfl rfl rfl ?_ | refine Q_pass_undef rfl rfl rfl ?_ | refine Q_guard rfl rfl (Still1.of_pure (by first | exact p_fieldAddr0 rfl fd_api_Once_0 | exact p_fieldAddr rfl fd_api_Once_0)) rfl ?_
  first | refine Q_pass rfl rfl rfl rfl ?_ | refine Q_pass_undef rfl rfl rfl ?_ | refine Q_guard rfl rfl (Still1.of_pure (p_indexArrR (j := 0) rfl rfl rfl ut_64_api_Sum row_Sum (by decide))) rfl ?_
  first | refine Q_pass rfl rfl rfl rfl ?_ | refine Q_pass_undef rfl rfl rfl ?_ | refine Q_guard rfl rfl (Still1.of_pure (p_loadR rfl row_Sum (n := 32) (cs := bytesV v) (fun w' hm => by have h := (hm.readsS (b := b3) hss (by repeat (first | exact List.Mem.head _ | apply List.Mem.tail))).at_ (j := 0) (by rw [hsn]; omega); rw [htold] at h; exact h))) rfl ?_
  first | refine Q_pass rfl rfl rfl rfl ?_ | refine Q_pass_undef rfl rfl rfl ?_ | refine Q_guard rfl rfl (Still1.of_pure (p_loadRow rfl row_Sum (by repeat (first | exact List.Mem.head _ | apply List.Mem.tail)) (by rw [bytesV_length, hl]))) rfl ?_
  first | refine Q_pass rfl rfl rfl rfl ?_ | refine Q_pass_undef rfl rfl rfl ?_ | refine Q_guard rfl rfl (Still1.of_pure (p_eql_bytesR rfl rfl arr_Sum.1 Try.underlying5 (by kernel_rfl) (by kernel_rfl) hl hl (r := true) (beq_self_eq_true _))) rfl ?_
  refine Q_cons (Still1.of_pure (by first | exact p_pick_yes rfl rfl | exact p_pick_no rfl rfl | exact p_pick rfl rfl rfl)) rfl ?_
  refine Q_cons (Still1.of_pure (p_move rfl)) rfl ?_
  first | refine Q_pass rfl rfl rfl rfl ?_ | refine Q_pass_undef rfl rfl rfl ?_ | refine Q_guard rfl rfl (Still1.of_pure (p_loadRow rfl row_Sum (by repeat (first | exact List.Mem.head _ | apply List.Mem.tail)) (by rw [bytesV_length, hm32]))) rfl ?_
  first | refine Q_pass rfl rfl rfl rfl ?_ | refine Q_pass_undef rfl rfl rfl ?_ | refine Q_guard rfl rfl (Still1.of_pure (p_loadRow rfl row_api_Once (by repeat (first | exact List.Mem.head _ | apply List.Mem.tail)) hsv)) rfl ?_
  first | refine Q_pass rfl rfl rfl rfl ?_ | refine Q_pass_undef rfl rfl rfl ?_ | refine Q_guard rfl rfl (still_call rfl rfl Try.func12 rfl (by kernel_rfl) (Nat.le_refl _) (fun w' _ => once_of_any _ hm32 _ hss hsn w')) rfl ?_
  first | refine Q_pass rfl rfl rfl rfl ?_ | refine Q_pass_undef rfl rfl rfl ?_ | refine Q_guard rfl rfl (Still1.of_pure (p_loadRow rfl row_Sum (by repeat (first | exact List.Mem.head _ | apply List.Mem.tail)) (by rw [bytesV_length, hz]))) rfl ?_
  first | refine Q_pass rfl rfl rfl rfl ?_ | refine Q_pass_undef rfl rfl rfl ?_ | refine Q_guard rfl rfl (still_call rfl rfl Try.func16 rfl (by kernel_rfl) (Nat.le_refl _) (fun w' _ => public_any _ hz 3 w')) rfl ?_
  first | refine Q_pass rfl rfl rfl rfl ?_ | refine Q_pass_undef rfl rfl rfl ?_ | refine Q_guard rfl rfl (Still1.of_pure (p_eql_bytesR rfl rfl arr_Sum.1 Try.underlying5 (by kernel_rfl) (by kernel_rfl) ho hp hfin)) rfl ?_
  refine Q_cons (Still1.of_pure (by first | exact p_pick_yes rfl rfl | exact p_pick_no rfl rfl | exact p_pick rfl rfl rfl)) rfl ?_
  refine Q_cons (Still1.of_pure (p_assign rfl)) rfl ?_
  refine Q_nil ?_
  repeat (first | refine S_scope ?_ | refine S_label ?_ | refine E_noGoto_normal ?_ | refine E_noGoto_ret ?_ | refine E_noGoto_exit ?_ | refine S_yes rfl (by first | with_reducible rfl | decide) ?_ | refine S_no rfl (by first | with_reducible rfl | decide) ?_ | refine S_seq ?_ | refine E_seq ?_ | refine S_block ?_ | refine E_block_normal ?_ | refine S_skip ?_ | refine S_exit ?_ | refine S_ret ?_ | refine E_then_exit ?_ | refine E_then_ret ?_ | refine E_block_ret ?_ | refine E_block_exit ?_ | refine E_block_exit_other rfl ?_)
  exact E_ret1 rfl rfl fun w' hm => ⟨rfl, hm.below⟩
theorem signL_sums (seed : List UInt8) (idx : Nat) (m : List UInt8) : Sums (signL seed idx m) := by unfold signL; exact signP_sums _ _ _ _
theorem signL_length (seed : List UInt8) (idx : Nat) (m : List UInt8) : (signL seed idx m).length = 128 := by unfold signL; exact signP_length _ _ _ _
end Go.Proofs.Ytfdlafjifjndeaa
