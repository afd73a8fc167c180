/-
  The layer keys: bits, sides, what stands at a key, what is empty; each function by one walk.
-/
import Derived.Test.YthkogneaimjhjaaConcat
import Derived.Test.YthkogneaimjhjaaSha7
import Derived.Test.YthkogneaimjhjaaKeyLaw
namespace Go.Proofs.Ythkogneaimjhjaa
open Go.Sha
open Go.RowKit Go.K
attribute [local irreducible] Exit.then Exit.inBlock Exit.noGoto bodyPost Code.wp QL Sx Rx Qx Ex Dx Op1 Pure1 Still1 K.Sub Calm Code.wpIn
attribute [local irreducible] sha total Buf.hp Buf.cap Buf.addr bitN empS sideS
set_option linter.unusedVariables false

theorem and1 : ∀ q, q < 256 → bits .and .i64 ((q : Nat) : Int) 1 = ((q % 2 : Nat) : Int) := by decide +kernel
theorem bit_any (k : List UInt8) (hk : k.length = 32) (d : Int) (hd : -9223372036854775808 ≤ d ∧ d ≤ 9223372036854775807) (w : World) :
    Calls Try.prog 15 [.agg (bytesV k).toArray, .int .i64 d].toArray w fun e w' => e = .returned (.int .i64 (bitZ k d : Int)) ∧ Below w.heap.size w w' := by
  refine enter Try.func15 rfl Try.ntmps15 (by simp) ?_
  by_cases h0 : d < 0
  · have h1 : decide (d < 0) = true := decide_eq_true h0
    have hz : bitZ k d = 0 := by unfold bitZ; rw [if_neg (by omega)]
    repeat (first | refine S_scope ?_ | refine S_label ?_ | refine E_noGoto_normal ?_ | refine E_noGoto_ret ?_ | refine E_noGoto_exit ?_ | refine S_yes rfl (by first | with_reducible rfl | decide) ?_ | refine S_no rfl (by first | with_reducible rfl | decide) ?_ | refine S_seq ?_ | refine E_seq ?_ | refine S_block ?_ | refine E_block_normal ?_ | refine S_skip ?_ | refine S_exit ?_ | refine S_ret ?_ | refine E_then_exit ?_ | refine E_then_ret ?_ | refine E_block_ret ?_ | refine E_block_exit ?_ | refine E_block_exit_other rfl ?_)
    refine S_region ?_
    refine R_cons rfl (op_boxRow rfl rfl (Nat.le_refl _) (fun b2 => ?_))
    refine R_cons rfl (op_pure (p_assign rfl) rfl ?_)
    refine R_nil ?_
    repeat (first | refine S_scope ?_ | refine S_label ?_ | refine E_noGoto_normal ?_ | refine E_noGoto_ret ?_ | refine E_noGoto_exit ?_ | refine S_yes rfl (by first | with_reducible rfl | decide) ?_ | refine S_no rfl (by first | with_reducible rfl | decide) ?_ | refine S_seq ?_ | refine E_seq ?_ | refine S_block ?_ | refine E_block_normal ?_ | refine S_skip ?_ | refine S_exit ?_ | refine S_ret ?_ | refine E_then_exit ?_ | refine E_then_ret ?_ | refine E_block_ret ?_ | refine E_block_exit ?_ | refine E_block_exit_other rfl ?_)
    refine S_region ?_
    refine R_cons rfl (op_pure (p_move rfl) rfl ?_)
    refine R_cons rfl (op_pure (p_bin rfl rfl (b_lss h1)) rfl ?_)
    refine R_cons rfl (op_pure (p_move rfl) rfl ?_)
    first | refine R_pass rfl rfl rfl rfl ?_ | refine R_pass_undef rfl rfl rfl ?_ | refine R_guard rfl rfl rfl (op_pure (p_move rfl) rfl ?_)
    first | refine R_pass rfl rfl rfl rfl ?_ | refine R_pass_undef rfl rfl rfl ?_ | refine R_guard rfl rfl rfl (op_pure (p_bin rfl rfl (b_geq h2)) rfl ?_)
    refine R_cons rfl (op_pure (by first | exact p_pick_yes rfl rfl | exact p_pick_no rfl rfl | exact p_pick rfl rfl rfl) rfl ?_)
    refine R_nil ?_
    repeat (first | refine S_scope ?_ | refine S_label ?_ | refine E_noGoto_normal ?_ | refine E_noGoto_ret ?_ | refine E_noGoto_exit ?_ | refine S_yes rfl (by first | with_reducible rfl | decide) ?_ | refine S_no rfl (by first | with_reducible rfl | decide) ?_ | refine S_seq ?_ | refine E_seq ?_ | refine S_block ?_ | refine E_block_normal ?_ | refine S_skip ?_ | refine S_exit ?_ | refine S_ret ?_ | refine E_then_exit ?_ | refine E_then_ret ?_ | refine E_block_ret ?_ | refine E_block_exit ?_ | refine E_block_exit_other rfl ?_)
    refine S_region ?_
    refine R_cons rfl (op_pure (p_assign rfl) rfl ?_)
    refine R_nil ?_
    repeat (first | refine S_scope ?_ | refine S_label ?_ | refine E_noGoto_normal ?_ | refine E_noGoto_ret ?_ | refine E_noGoto_exit ?_ | refine S_yes rfl (by first | with_reducible rfl | decide) ?_ | refine S_no rfl (by first | with_reducible rfl | decide) ?_ | refine S_seq ?_ | refine E_seq ?_ | refine S_block ?_ | refine E_block_normal ?_ | refine S_skip ?_ | refine S_exit ?_ | refine S_ret ?_ | refine E_then_exit ?_ | refine E_then_ret ?_ | refine E_block_ret ?_ | refine E_block_exit ?_ | refine E_block_exit_other rfl ?_)
    exact E_ret1 rfl rfl fun w' hm => ⟨by rw [hz]; rfl, hm.below⟩
  have h1 : decide (d < 0) = false := decide_eq_false h0
  by_cases h256 : 256 ≤ d
  · have h2 : decide ((256 : Int) ≤ d) = true := decide_eq_true h256
    have hz : bitZ k d = 0 := by unfold bitZ; rw [if_neg (by omega)]
    repeat (first | refine S_scope ?_ | refine S_label ?_ | refine E_noGoto_normal ?_ | refine E_noGoto_ret ?_ | refine E_noGoto_exit ?_ | refine S_yes rfl (by first | with_reducible rfl | decide) ?_ | refine S_no rfl (by first | with_reducible rfl | decide) ?_ | refine S_seq ?_ | refine E_seq ?_ | refine S_block ?_ | refine E_block_normal ?_ | refine S_skip ?_ | refine S_exit ?_ | refine S_ret ?_ | refine E_then_exit ?_ | refine E_then_ret ?_ | refine E_block_ret ?_ | refine E_block_exit ?_ | refine E_block_exit_other rfl ?_)
    refine S_region ?_
    refine R_cons rfl (op_boxRow rfl rfl (Nat.le_refl _) (fun b2 => ?_))
    refine R_cons rfl (op_pure (p_assign rfl) rfl ?_)
    refine R_nil ?_
    repeat (first | refine S_scope ?_ | refine S_label ?_ | refine E_noGoto_normal ?_ | refine E_noGoto_ret ?_ | refine E_noGoto_exit ?_ | refine S_yes rfl (by first | with_reducible rfl | decide) ?_ | refine S_no rfl (by first | with_reducible rfl | decide) ?_ | refine S_seq ?_ | refine E_seq ?_ | refine S_block ?_ | refine E_block_normal ?_ | refine S_skip ?_ | refine S_exit ?_ | refine S_ret ?_ | refine E_then_exit ?_ | refine E_then_ret ?_ | refine E_block_ret ?_ | refine E_block_exit ?_ | refine E_block_exit_other rfl ?_)
    refine S_region ?_
    refine R_cons rfl (op_pure (p_move rfl) rfl ?_)
    refine R_cons rfl (op_pure (p_bin rfl rfl (b_lss h1)) rfl ?_)
    refine R_cons rfl (op_pure (p_move rfl) rfl ?_)
    first | refine R_pass rfl rfl rfl rfl ?_ | refine R_pass_undef rfl rfl rfl ?_ | refine R_guard rfl rfl rfl (op_pure (p_move rfl) rfl ?_)
    first | refine R_pass rfl rfl rfl rfl ?_ | refine R_pass_undef rfl rfl rfl ?_ | refine R_guard rfl rfl rfl (op_pure (p_bin rfl rfl (b_geq h2)) rfl ?_)
    refine R_cons rfl (op_pure (by first | exact p_pick_yes rfl rfl | exact p_pick_no rfl rfl | exact p_pick rfl rfl rfl) rfl ?_)
    refine R_nil ?_
    repeat (first | refine S_scope ?_ | refine S_label ?_ | refine E_noGoto_normal ?_ | refine E_noGoto_ret ?_ | refine E_noGoto_exit ?_ | refine S_yes rfl (by first | with_reducible rfl | decide) ?_ | refine S_no rfl (by first | with_reducible rfl | decide) ?_ | refine S_seq ?_ | refine E_seq ?_ | refine S_block ?_ | refine E_block_normal ?_ | refine S_skip ?_ | refine S_exit ?_ | refine S_ret ?_ | refine E_then_exit ?_ | refine E_then_ret ?_ | refine E_block_ret ?_ | refine E_block_exit ?_ | refine E_block_exit_other rfl ?_)
    refine S_region ?_
    refine R_cons rfl (op_pure (p_assign rfl) rfl ?_)
    refine R_nil ?_
    repeat (first | refine S_scope ?_ | refine S_label ?_ | refine E_noGoto_normal ?_ | refine E_noGoto_ret ?_ | refine E_noGoto_exit ?_ | refine S_yes rfl (by first | with_reducible rfl | decide) ?_ | refine S_no rfl (by first | with_reducible rfl | decide) ?_ | refine S_seq ?_ | refine E_seq ?_ | refine S_block ?_ | refine E_block_normal ?_ | refine S_skip ?_ | refine S_exit ?_ | refine S_ret ?_ | refine E_then_exit ?_ | refine E_then_ret ?_ | refine E_block_ret ?_ | refine E_block_exit ?_ | refine E_block_exit_other rfl ?_)
    exact E_ret1 rfl rfl fun w' hm => ⟨by rw [hz]; rfl, hm.below⟩
  have h2 : decide ((256 : Int) ≤ d) = false := decide_eq_false h256
  obtain ⟨n, rfl⟩ : ∃ n : Nat, d = (n : Int) := ⟨d.toNat, by omega⟩
  have hn : n < 256 := by omega
  have hz : bitZ k (n : Int) = bitN k n := by unfold bitZ; rw [if_pos (by omega), Int.toNat_natCast]
  have hx := b_lt (k.getD (n / 8) 0)
  have hsh : ((k.getD (n / 8) 0).toNat : Int) / 2 ^ (7 - ((n % 8 : Nat) : Int)).toNat = (((k.getD (n / 8) 0).toNat / 2 ^ (7 - n % 8) : Nat) : Int) := by
    rw [show (7 - ((n % 8 : Nat) : Int)) = ((7 - n % 8 : Nat) : Int) by omega]
    exact shr_nat _ _
  have hq : bitN k n = (k.getD (n / 8) 0).toNat / 2 ^ (7 - n % 8) % 2 := by unfold bitN; rfl
  have hlt : (k.getD (n / 8) 0).toNat / 2 ^ (7 - n % 8) < 256 := Nat.lt_of_le_of_lt (Nat.div_le_self _ _) hx
  generalize (k.getD (n / 8) 0).toNat / 2 ^ (7 - n % 8) = q at hsh hq hlt
  have hwr : IntKind.i64.wrap (q : Int) = (q : Int) := w_in_i64 (by omega)
  have hh := And.intro hsh (And.intro hwr (And.intro (and1 q hlt) hq))
  clear hsh hwr hq hx hd
  repeat (first | refine S_scope ?_ | refine S_label ?_ | refine E_noGoto_normal ?_ | refine E_noGoto_ret ?_ | refine E_noGoto_exit ?_ | refine S_yes rfl (by first | with_reducible rfl | decide) ?_ | refine S_no rfl (by first | with_reducible rfl | decide) ?_ | refine S_seq ?_ | refine E_seq ?_ | refine S_block ?_ | refine E_block_normal ?_ | refine S_skip ?_ | refine S_exit ?_ | refine S_ret ?_ | refine E_then_exit ?_ | refine E_then_ret ?_ | refine E_block_ret ?_ | refine E_block_exit ?_ | refine E_block_exit_other rfl ?_)
  refine S_region ?_
  refine R_cons rfl (op_boxRow rfl rfl (Nat.le_refl _) (fun b2 => ?_))
  refine R_cons rfl (op_pure (p_assign rfl) rfl ?_)
  refine R_nil ?_
  repeat (first | refine S_scope ?_ | refine S_label ?_ | refine E_noGoto_normal ?_ | refine E_noGoto_ret ?_ | refine E_noGoto_exit ?_ | refine S_yes rfl (by first | with_reducible rfl | decide) ?_ | refine S_no rfl (by first | with_reducible rfl | decide) ?_ | refine S_seq ?_ | refine E_seq ?_ | refine S_block ?_ | refine E_block_normal ?_ | refine S_skip ?_ | refine S_exit ?_ | refine S_ret ?_ | refine E_then_exit ?_ | refine E_then_ret ?_ | refine E_block_ret ?_ | refine E_block_exit ?_ | refine E_block_exit_other rfl ?_)
  refine S_region ?_
  refine R_cons rfl (op_pure (p_move rfl) rfl ?_)
  refine R_cons rfl (op_pure (p_bin rfl rfl (b_lss h1)) rfl ?_)
  refine R_cons rfl (op_pure (p_move rfl) rfl ?_)
  first | refine R_pass rfl rfl rfl rfl ?_ | refine R_pass_undef rfl rfl rfl ?_ | refine R_guard rfl rfl rfl (op_pure (p_move rfl) rfl ?_)
  first | refine R_pass rfl rfl rfl rfl ?_ | refine R_pass_undef rfl rfl rfl ?_ | refine R_guard rfl rfl rfl (op_pure (p_bin rfl rfl (b_geq h2)) rfl ?_)
  refine R_cons rfl (op_pure (by first | exact p_pick_yes rfl rfl | exact p_pick_no rfl rfl | exact p_pick rfl rfl rfl) rfl ?_)
  refine R_nil ?_
  repeat (first | refine S_scope ?_ | refine S_label ?_ | refine E_noGoto_normal ?_ | refine E_noGoto_ret ?_ | refine E_noGoto_exit ?_ | refine S_yes rfl (by first | with_reducible rfl | decide) ?_ | refine S_no rfl (by first | with_reducible rfl | decide) ?_ | refine S_seq ?_ | refine E_seq ?_ | refine S_block ?_ | refine E_block_normal ?_ | refine S_skip ?_ | refine S_exit ?_ | refine S_ret ?_ | refine E_then_exit ?_ | refine E_then_ret ?_ | refine E_block_ret ?_ | refine E_block_exit ?_ | refine E_block_exit_other rfl ?_)
  refine S_region ?_
  refine R_cons rfl (op_pure (p_move rfl) rfl ?_)
  refine R_cons rfl (op_pure (by exact p_bin rfl rfl (b_quo (by decide) (nat_quo_i64 _ 8 (by omega)))) rfl ?_)
  refine R_cons rfl (op_pure (p_indexArr0 (j := n / 8) rfl rfl rfl arr_Sum (by omega)) rfl ?_)
  refine R_cons rfl (op_pure (p_load rfl sc_u8 (by repeat (first | exact List.Mem.head _ | apply List.Mem.tail)) (bytesV_get (by omega))) rfl ?_)
  refine R_cons rfl (op_pure (p_move rfl) rfl ?_)
  refine R_cons rfl (op_pure (p_bin rfl rfl (b_rem (by decide) (nat_rem _ 8))) rfl ?_)
  refine R_cons rfl (op_pure (by exact p_bin rfl rfl (b_sub (w_in_i64 (by omega)))) rfl ?_)
  refine R_cons rfl (op_pure (p_bin rfl rfl (b_shr (by omega) (by show _ ≤ (8 : Int); omega) hh.1)) rfl ?_)
  refine R_cons rfl (op_pure (p_convert rfl sc_u8 ik_int hh.2.1) rfl ?_)
  refine R_cons rfl (op_pure (p_bin rfl rfl (b_and hh.2.2.1)) rfl ?_)
  refine R_cons rfl (op_pure (p_assign rfl) rfl ?_)
  refine R_nil ?_
  repeat (first | refine S_scope ?_ | refine S_label ?_ | refine E_noGoto_normal ?_ | refine E_noGoto_ret ?_ | refine E_noGoto_exit ?_ | refine S_yes rfl (by first | with_reducible rfl | decide) ?_ | refine S_no rfl (by first | with_reducible rfl | decide) ?_ | refine S_seq ?_ | refine E_seq ?_ | refine S_block ?_ | refine E_block_normal ?_ | refine S_skip ?_ | refine S_exit ?_ | refine S_ret ?_ | refine E_then_exit ?_ | refine E_then_ret ?_ | refine E_block_ret ?_ | refine E_block_exit ?_ | refine E_block_exit_other rfl ?_)
  exact E_ret1 rfl rfl fun w' hm => ⟨by rw [hz, hh.2.2.2], hm.below⟩

theorem side_any (l r : List UInt8) (hl : l.length = 32) (hr : r.length = 32) (w : World) :
    Calls Try.prog 18 [.agg (bytesV l).toArray, .agg (bytesV r).toArray].toArray w fun e w' => e = .returned (.agg (bytesV (sideS l r)).toArray) ∧ Below w.heap.size w w' := by
  have hbl : (bytesV l).length = 32 := by rw [bytesV_length, hl]
  have hbr : (bytesV r).length = 32 := by rw [bytesV_length, hr]
  have htl : (4 :: (l ++ r)).length = 65 := by simp [hl, hr]
  refine enter Try.func18 rfl Try.ntmps18 (by simp) ?_
  repeat (first | refine S_scope ?_ | refine S_label ?_ | refine E_noGoto_normal ?_ | refine E_noGoto_ret ?_ | refine E_noGoto_exit ?_ | refine S_yes rfl (by first | with_reducible rfl | decide) ?_ | refine S_no rfl (by first | with_reducible rfl | decide) ?_ | refine S_seq ?_ | refine E_seq ?_ | refine S_block ?_ | refine E_block_normal ?_ | refine S_skip ?_ | refine S_exit ?_ | refine S_ret ?_ | refine E_then_exit ?_ | refine E_then_ret ?_ | refine E_block_ret ?_ | refine E_block_exit ?_ | refine E_block_exit_other rfl ?_)
  refine S_region ?_
  refine R_cons rfl (op_boxRow rfl rfl (Nat.le_refl _) (fun b2 => ?_))
  refine R_cons rfl (op_boxRow rfl rfl (Nat.le_refl _) (fun b3 => ?_))
  refine R_cons rfl (op_allocRow zero_Sum rfl (Nat.le_refl _) (fun b4 => ?_))
  refine R_nil ?_
  repeat (first | refine S_scope ?_ | refine S_label ?_ | refine E_noGoto_normal ?_ | refine E_noGoto_ret ?_ | refine E_noGoto_exit ?_ | refine S_yes rfl (by first | with_reducible rfl | decide) ?_ | refine S_no rfl (by first | with_reducible rfl | decide) ?_ | refine S_seq ?_ | refine E_seq ?_ | refine S_block ?_ | refine E_block_normal ?_ | refine S_skip ?_ | refine S_exit ?_ | refine S_ret ?_ | refine E_then_exit ?_ | refine E_then_ret ?_ | refine E_block_ret ?_ | refine E_block_exit ?_ | refine E_block_exit_other rfl ?_)
  have hup : ∀ b5 : Nat, upTo [(⟨some ⟨b5, 0, none⟩, 1, [4]⟩ : Sl), ⟨some ⟨b2, 0, none⟩, 32, l⟩, ⟨some ⟨b3, 0, none⟩, 32, r⟩] [(⟨some ⟨b5, 0, none⟩, 1, [4]⟩ : Sl), ⟨some ⟨b2, 0, none⟩, 32, l⟩, ⟨some ⟨b3, 0, none⟩, 32, r⟩].length = 4 :: (l ++ r) := fun _ => by simp [upTo]
  have hto : ∀ b5 : Nat, total [(⟨some ⟨b5, 0, none⟩, 1, [4]⟩ : Sl), ⟨some ⟨b2, 0, none⟩, 32, l⟩, ⟨some ⟨b3, 0, none⟩, 32, r⟩] = 65 := fun _ => by unfold total; simp [hl, hr]
  have hva : ∀ b5 : Nat, List.map Sl.val [(⟨some ⟨b5, 0, none⟩, 1, [4]⟩ : Sl), ⟨some ⟨b2, 0, none⟩, 32, l⟩, ⟨some ⟨b3, 0, none⟩, 32, r⟩] = [.slice (some ⟨b5, 0, none⟩) 1 1, .slice (some ⟨b2, 0, none⟩) 32 32, .slice (some ⟨b3, 0, none⟩) 32 32] := fun _ => by simp [Sl.val, hl, hr]
  refine S_cut [(4, .pointer (some ⟨b4, 0, none⟩))] [(b4, .cells (bytesV (sideS l r)).toArray 23 (0, 0))] ?_ ?_
  · refine S_drawn (by kernel_rfl) .nil ?_
    refine D_take 1 rfl (by kernel_rfl) (by kernel_rfl) (by kernel_rfl) (by repeat (first | exact calm_body | exact calm_mid | apply calm_noGoto | exact calm_midE | apply calm_then | apply calm_block)) (p_sliceArr rfl arr_Sum) rfl ?_
    refine D_take 2 rfl (by kernel_rfl) (by kernel_rfl) (by kernel_rfl) (by repeat (first | exact calm_body | exact calm_mid | apply calm_noGoto | exact calm_midE | apply calm_then | apply calm_block)) (p_sliceArr rfl arr_Sum) rfl ?_
    refine D_only 0 rfl (by kernel_rfl) rfl (op_buildSliceAll (ps := [(0, .const (.int .u8 4))]) rfl slc_u8s.1 el_u8 (by decide) (by decide) (by first | kernel_rfl | rfl) rfl (Nat.le_refl _) (fun b5 => ?_))
    refine ⟨(by repeat (first | exact Fewer.nil | refine Fewer.keep rfl ?_ | refine Fewer.drop ?_ | exact Fewer.refl _ | exact Fewer.inl _ _ | (simp only [List.append_nil]; first | exact Fewer.inl _ _ | exact Fewer.refl _))), ?_⟩
    refine D_only 3 rfl (by kernel_rfl) rfl (op_buildSliceAll (ps := [(0, .tmp 5), (1, .tmp 6), (2, .tmp 7)]) rfl slc_u8ss.1 el_u8s (by decide) (by decide) (by first | kernel_rfl | rfl) rfl (Nat.le_refl _) (fun b8 => ?_))
    refine ⟨(by repeat (first | exact Fewer.nil | refine Fewer.keep rfl ?_ | refine Fewer.drop ?_ | exact Fewer.refl _ | exact Fewer.inl _ _ | (simp only [List.append_nil]; first | exact Fewer.inl _ _ | exact Fewer.refl _))), ?_⟩
    refine D_only 4 rfl (by kernel_rfl) rfl (op_callBuf (xs := 4 :: (l ++ r)) rfl rfl Try.func43 rfl (by kernel_rfl) rfl (Nat.le_refl _) (fun w' hm => by have h1 := hm.readsAll (b := b8) (n := 3) (cs := [.slice (some ⟨b5, 0, none⟩) 1 1, .slice (some ⟨b2, 0, none⟩) 32 32, .slice (some ⟨b3, 0, none⟩) 32 32]) (by repeat (first | exact List.Mem.head _ | apply List.Mem.tail)) rfl; rw [← hva b5] at h1; have h2 := hm.readsAll (b := b2) (n := l.length) (cs := bytesV l) (by repeat (first | exact List.Mem.head _ | apply List.Mem.tail)) (bytesV_length l); have h3 := hm.readsAll (b := b3) (n := r.length) (cs := bytesV r) (by repeat (first | exact List.Mem.head _ | apply List.Mem.tail)) (bytesV_length r); have h4 := hm.readsAll (b := b5) (n := 1) (cs := bytesV [4]) (by repeat (first | exact List.Mem.head _ | apply List.Mem.tail)) rfl; have h5 := concat_any (some ⟨b8, 0, none⟩) 3 [(⟨some ⟨b5, 0, none⟩, 1, [4]⟩ : Sl), ⟨some ⟨b2, 0, none⟩, 32, l⟩, ⟨some ⟨b3, 0, none⟩, 32, r⟩] w' h1 (fun s hs => by simp only [List.mem_cons, List.not_mem_nil, or_false] at hs; rcases hs with rfl | rfl | rfl; exact ⟨h4, Nat.le_refl _, (by show 1 ≤ maxLen; unfold maxLen; omega), Nat.le_of_ble_eq_true rfl⟩; exact ⟨h2, (by show l.length ≤ 32; omega), (by show 32 ≤ maxLen; unfold maxLen; omega), (by show l.length ≤ _; omega)⟩; exact ⟨h3, (by show r.length ≤ 32; omega), (by show 32 ≤ maxLen; unfold maxLen; omega), (by show r.length ≤ _; omega)⟩) (Nat.le_of_ble_eq_true rfl) (by rw [hto]; omega) (by rw [hup, htl]; omega); rw [hup] at h5; exact h5) (fun g sp hokb => ?_))
    refine ⟨(by repeat (first | exact Fewer.nil | refine Fewer.keep rfl ?_ | refine Fewer.drop ?_ | exact Fewer.refl _ | exact Fewer.inl _ _ | (simp only [List.append_nil]; first | exact Fewer.inl _ _ | exact Fewer.refl _))), ?_⟩
    refine D_only 5 rfl (by kernel_rfl) rfl (op_callV rfl rfl Try.func29 rfl (by kernel_rfl) rfl (Nat.le_refl _) (fun w' hm => of_any _ _ _ (4 :: (l ++ r)) w' rfl (hm.readsBuf (u := some (g, sp)) (e := 5) (by repeat (first | exact DelB.tail | exact DelB.no rfl | exact DelB.at_ rfl (by repeat (first | exact Del.here | apply Del.there)) | apply DelB.there)) hokb) (Buf.len_cap hokb) (Buf.cap_max hokb) (by rw [htl]; omega)) ?_)
    refine ⟨(by repeat (first | exact Fewer.nil | refine Fewer.keep rfl ?_ | refine Fewer.drop ?_ | exact Fewer.refl _ | exact Fewer.inl _ _ | (simp only [List.append_nil]; first | exact Fewer.inl _ _ | exact Fewer.refl _))), ?_⟩
    refine D_only 6 rfl (by kernel_rfl) rfl (op_storeRow rfl rfl (by first | exact bytesV_one _ | exact wordsV_one _ | (repeat (first | exact ones_nil | refine ones_cons rfl ?_))) row_Sum (by first | assumption | rfl | (simp only [bytesV_length, wordsV_length]; omega) | (rw [bytesV_length]; exact Sha.sha_length _)) (by repeat (first | exact At.here | apply At.there)) (by first | exact Nat.le_of_ble_eq_true rfl | omega | (simp only [bytesV_length, wordsV_length, List.length_cons, List.length_nil, List.length_replicate]; omega) | (simp only [bytesV_length, Sha.sha_length, List.length_replicate] <;> omega)) ?_)
    refine ⟨(by repeat (first | exact Fewer.nil | refine Fewer.keep rfl ?_ | refine Fewer.drop ?_ | exact Fewer.refl _ | exact Fewer.inl _ _ | (simp only [List.append_nil]; first | exact Fewer.inl _ _ | exact Fewer.refl _))), ?_⟩
    refine D_done (by kernel_rfl) ?_
    refine E_mid (by repeat (first | exact Sub.nil | refine Sub.cons rfl ?_)) (.drop (.drop (.drop (.keep ?_ .nil))))
    rw [lay_whole (by rw [bytesV_length, bytesV_length, sha_length]; rfl)]
    unfold sideS
    rfl
  · repeat (first | refine S_scope ?_ | refine S_label ?_ | refine E_noGoto_normal ?_ | refine E_noGoto_ret ?_ | refine E_noGoto_exit ?_ | refine S_yes rfl (by first | with_reducible rfl | decide) ?_ | refine S_no rfl (by first | with_reducible rfl | decide) ?_ | refine S_seq ?_ | refine E_seq ?_ | refine S_block ?_ | refine E_block_normal ?_ | refine S_skip ?_ | refine S_exit ?_ | refine S_ret ?_ | refine E_then_exit ?_ | refine E_then_ret ?_ | refine E_block_ret ?_ | refine E_block_exit ?_ | refine E_block_exit_other rfl ?_)
    exact E_retRow rfl rfl (by repeat (first | exact List.Mem.head _ | apply List.Mem.tail)) row_Sum (by rw [bytesV_length, sideS_length]) fun w' hm => ⟨rfl, hm.below⟩
end Go.Proofs.Ythkogneaimjhjaa
