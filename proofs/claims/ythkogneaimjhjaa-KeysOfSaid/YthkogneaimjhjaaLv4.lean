/-
  The statements' own text of a sum, and what they ask as alive.
-/
import Derived.Test.YthkogneaimjhjaaLv3
import Derived.Test.YthkogneaimjhjaaK16
namespace Go.Proofs.Ythkogneaimjhjaa
open Go.Sha
open Go.RowKit Go.K
attribute [local irreducible] Exit.then Exit.inBlock Exit.noGoto bodyPost Code.wp QL Sx Rx Qx Ex Dx Op1 Pure1 Still1 K.Sub Calm Code.wpIn
attribute [local irreducible] sha total Buf.hp Buf.cap Buf.addr leafS nodeS cutN
set_option linter.unusedVariables false

/-- a digit of 16 -/
def hexDig (n : Nat) : UInt8 := UInt8.ofNat (if n < 10 then 48 + n else 87 + n)
def hexOf : List UInt8 → List UInt8
  | [] => []
  | b :: r => hexDig (b.toNat / 16) :: hexDig (b.toNat % 16) :: hexOf r
theorem hexOf_append (a b : List UInt8) : hexOf (a ++ b) = hexOf a ++ hexOf b := by
  induction a with
  | nil => rfl
  | cons x a ih => simp [hexOf, ih]
theorem hexOf_length (a : List UInt8) : (hexOf a).length = 2 * a.length := by
  induction a with
  | nil => rfl
  | cons x a ih => simp [hexOf, ih]; omega
theorem hexDig_part : ∀ d, d < 16 → ((ByteArray.mk #[48, 49, 50, 51, 52, 53, 54, 55, 56, 57, 97, 98, 99, 100, 101, 102]).extract d (d + 1)).data = [hexDig d].toArray := by decide +kernel
theorem hexDig_text (d : Nat) (h : d < 16) : Value.string ((ByteArray.mk #[48, 49, 50, 51, 52, 53, 54, 55, 56, 57, 97, 98, 99, 100, 101, 102]).extract d (d + 1)) = tx [hexDig d] := by
  unfold tx
  congr 1
  apply ByteArray.ext
  exact hexDig_part d h
theorem and15 : ∀ q, q < 256 → bits .and .u8 ((q : Nat) : Int) 15 = ((q % 16 : Nat) : Int) := by decide +kernel
theorem take_snoc_u8 (xs : List UInt8) (k : Nat) (hk : k < xs.length) : xs.take (k + 1) = xs.take k ++ [xs.getD k 0] := by
  rw [List.take_succ_eq_append_getElem hk]
  simp [hk]

set_option maxHeartbeats 1000000 in
theorem text_any (xs : List UInt8) (hl : xs.length = 32) (w : World) :
    Calls Try.prog 59 [.agg (bytesV xs).toArray].toArray w fun e w' => e = .returned (tx (hexOf xs)) ∧ Below w.heap.size w w' := by
  have hbl : (bytesV xs).length = 32 := by rw [bytesV_length, hl]
  refine enter Try.func59 rfl Try.ntmps59 (by simp) ?_
  repeat (first | refine S_scope ?_ | refine S_label ?_ | refine E_noGoto_normal ?_ | refine E_noGoto_ret ?_ | refine E_noGoto_exit ?_ | refine S_yes rfl (by first | with_reducible rfl | decide) ?_ | refine S_no rfl (by first | with_reducible rfl | decide) ?_ | refine S_seq ?_ | refine E_seq ?_ | refine S_block ?_ | refine E_block_normal ?_ | refine S_skip ?_ | refine S_exit ?_ | refine S_ret ?_ | refine E_then_exit ?_ | refine E_then_ret ?_ | refine E_block_ret ?_ | refine E_block_exit ?_ | refine E_block_exit_other rfl ?_)
  refine S_region ?_
  refine R_cons rfl (op_boxRow rfl rfl (Nat.le_refl _) (fun b1 => ?_))
  refine R_cons rfl (op_pure (p_assign rfl) rfl ?_)
  refine R_nil ?_
  repeat (first | refine S_scope ?_ | refine S_label ?_ | refine E_noGoto_normal ?_ | refine E_noGoto_ret ?_ | refine E_noGoto_exit ?_ | refine S_yes rfl (by first | with_reducible rfl | decide) ?_ | refine S_no rfl (by first | with_reducible rfl | decide) ?_ | refine S_seq ?_ | refine E_seq ?_ | refine S_block ?_ | refine E_block_normal ?_ | refine S_skip ?_ | refine S_exit ?_ | refine S_ret ?_ | refine E_then_exit ?_ | refine E_then_ret ?_ | refine E_block_ret ?_ | refine E_block_exit ?_ | refine E_block_exit_other rfl ?_)
  refine S_region ?_
  refine R_cons rfl (op_pure (p_assign rfl) rfl ?_)
  refine R_nil ?_
  repeat (first | refine S_scope ?_ | refine S_label ?_ | refine E_noGoto_normal ?_ | refine E_noGoto_ret ?_ | refine E_noGoto_exit ?_ | refine S_yes rfl (by first | with_reducible rfl | decide) ?_ | refine S_no rfl (by first | with_reducible rfl | decide) ?_ | refine S_seq ?_ | refine E_seq ?_ | refine S_block ?_ | refine E_block_normal ?_ | refine S_skip ?_ | refine S_exit ?_ | refine S_ret ?_ | refine E_then_exit ?_ | refine E_then_ret ?_ | refine E_block_ret ?_ | refine E_block_exit ?_ | refine E_block_exit_other rfl ?_)
  refine S_region ?_
  refine R_cons rfl (op_pure (p_assign rfl) rfl ?_)
  refine R_nil ?_
  repeat (first | refine S_scope ?_ | refine S_label ?_ | refine E_noGoto_normal ?_ | refine E_noGoto_ret ?_ | refine E_noGoto_exit ?_ | refine S_yes rfl (by first | with_reducible rfl | decide) ?_ | refine S_no rfl (by first | with_reducible rfl | decide) ?_ | refine S_seq ?_ | refine E_seq ?_ | refine S_block ?_ | refine E_block_normal ?_ | refine S_skip ?_ | refine S_exit ?_ | refine S_ret ?_ | refine E_then_exit ?_ | refine E_then_ret ?_ | refine E_block_ret ?_ | refine E_block_exit ?_ | refine E_block_exit_other rfl ?_)
  refine S_loop (fun i : Nat => [(4, .int .i64 (i : Int)), (3, tx (hexOf (xs.take i))), (1, .pointer (some ⟨b1, 0, none⟩))]) (fun i => [(b1, .cells (bytesV xs).toArray 23 (0, 0))]) (fun i => i ≤ 32) (fun i => 32 - i) 0 (Nat.zero_le _) (by repeat (first | exact Sub.nil | refine Sub.cons rfl ?_)) (Fewer.refl _) ?_
  intro i hi
  by_cases hlt : i < 32
  · have g1 : decide ((i : Int) < 32) = true := decide_eq_true (by omega)
    have hx := b_lt (xs.getD i 0)
    have hts : hexOf (xs.take (i + 1)) = hexOf (xs.take i) ++ [hexDig ((xs.getD i 0).toNat / 16)] ++ [hexDig ((xs.getD i 0).toNat % 16)] := by
      rw [take_snoc_u8 xs i (by omega), hexOf_append]; simp [hexOf]
    have hln : (hexOf (xs.take i)).length = 2 * i := by rw [hexOf_length, List.length_take]; omega
    have hc : (bytesV xs)[i]? = some (.int .u8 ((xs.getD i 0).toNat : Int)) := bytesV_get (by omega)
    have hs1 : ((xs.getD i 0).toNat : Int) / 2 ^ ((4 : Int)).toNat = (((xs.getD i 0).toNat / 16 : Nat) : Int) := by rw [show ((4 : Int)).toNat = 4 from rfl]; omega
    have hd1 : (xs.getD i 0).toNat / 16 < 16 := by omega
    have hd2 : (xs.getD i 0).toNat % 16 < 16 := by omega
    have hand := and15 (xs.getD i 0).toNat hx
    generalize (xs.getD i 0).toNat / 16 = p at *
    generalize (xs.getD i 0).toNat % 16 = q at *
    have ha1 : IntKind.u8.wrap ((p : Int) + 1) = ((p + 1 : Nat) : Int) := by rw [w_in_u8 (by omega)]; omega
    have ha2 : IntKind.u8.wrap ((q : Int) + 1) = ((q + 1 : Nat) : Int) := by rw [w_in_u8 (by omega)]; omega
    have ha3 : IntKind.i64.wrap ((i : Int) + 1) = ((i + 1 : Nat) : Int) := by rw [w_in_i64 (by omega)]; omega
    have hh := And.intro hs1 (And.intro hand (And.intro ha1 (And.intro ha2 ha3)))
    clear hs1 hand ha1 ha2 ha3 hx
    repeat (first | refine S_scope ?_ | refine S_label ?_ | refine E_noGoto_normal ?_ | refine E_noGoto_ret ?_ | refine E_noGoto_exit ?_ | refine S_yes rfl (by first | with_reducible rfl | decide) ?_ | refine S_no rfl (by first | with_reducible rfl | decide) ?_ | refine S_seq ?_ | refine E_seq ?_ | refine S_block ?_ | refine E_block_normal ?_ | refine S_skip ?_ | refine S_exit ?_ | refine S_ret ?_ | refine E_then_exit ?_ | refine E_then_ret ?_ | refine E_block_ret ?_ | refine E_block_exit ?_ | refine E_block_exit_other rfl ?_)
    refine S_region ?_
    refine R_cons rfl (op_pure (p_move rfl) rfl ?_)
    refine R_cons rfl (op_pure (p_bin rfl rfl (b_lss g1)) rfl ?_)
    refine R_nil ?_
    repeat (first | refine S_scope ?_ | refine S_label ?_ | refine E_noGoto_normal ?_ | refine E_noGoto_ret ?_ | refine E_noGoto_exit ?_ | refine S_yes rfl (by first | with_reducible rfl | decide) ?_ | refine S_no rfl (by first | with_reducible rfl | decide) ?_ | refine S_seq ?_ | refine E_seq ?_ | refine S_block ?_ | refine E_block_normal ?_ | refine S_skip ?_ | refine S_exit ?_ | refine S_ret ?_ | refine E_then_exit ?_ | refine E_then_ret ?_ | refine E_block_ret ?_ | refine E_block_exit ?_ | refine E_block_exit_other rfl ?_)
    refine S_quiet (by kernel_rfl) (by kernel_rfl) ?_
    refine Q_cons (Still1.of_pure (p_move rfl)) rfl ?_
    refine Q_cons (Still1.of_pure (p_move rfl)) rfl ?_
    refine Q_cons (Still1.of_pure (p_indexArr0 (j := i) rfl rfl rfl arr_Sum (by omega))) rfl ?_
    refine Q_cons (Still1.of_pure (p_load rfl sc_u8 (by repeat (first | exact List.Mem.head _ | apply List.Mem.tail)) hc)) rfl ?_
    refine Q_cons (Still1.of_pure (p_bin rfl rfl (b_shr (by omega) (by show _ ≤ (8 : Int); omega) hh.1))) rfl ?_
    refine Q_cons (Still1.of_pure (p_move rfl)) rfl ?_
    refine Q_cons (Still1.of_pure (p_indexArr0 (j := i) rfl rfl rfl arr_Sum (by omega))) rfl ?_
    refine Q_cons (Still1.of_pure (p_load rfl sc_u8 (by repeat (first | exact List.Mem.head _ | apply List.Mem.tail)) hc)) rfl ?_
    refine Q_cons (Still1.of_pure (p_bin rfl rfl (b_shr (by omega) (by show _ ≤ (8 : Int); omega) hh.1))) rfl ?_
    refine Q_cons (Still1.of_pure (p_bin rfl rfl (b_add hh.2.2.1))) rfl ?_
    refine Q_cons (Still1.of_pure (p_sliceStr rfl rfl rfl rfl rfl Try.underlying9 (Nat.le_succ _) (by show _ ≤ 16; omega) (hexDig_text p hd1))) rfl ?_
    refine Q_cons (Still1.of_pure (p_addStr rfl rfl (by rw [tx_size, tx_size, hln]; simp; omega) (tx_append _ _))) rfl ?_
    refine Q_cons (Still1.of_pure (p_move rfl)) rfl ?_
    refine Q_cons (Still1.of_pure (p_indexArr0 (j := i) rfl rfl rfl arr_Sum (by omega))) rfl ?_
    refine Q_cons (Still1.of_pure (p_load rfl sc_u8 (by repeat (first | exact List.Mem.head _ | apply List.Mem.tail)) hc)) rfl ?_
    refine Q_cons (Still1.of_pure (p_bin rfl rfl (b_and hh.2.1))) rfl ?_
    refine Q_cons (Still1.of_pure (p_move rfl)) rfl ?_
    refine Q_cons (Still1.of_pure (p_indexArr0 (j := i) rfl rfl rfl arr_Sum (by omega))) rfl ?_
    refine Q_cons (Still1.of_pure (p_load rfl sc_u8 (by repeat (first | exact List.Mem.head _ | apply List.Mem.tail)) hc)) rfl ?_
    refine Q_cons (Still1.of_pure (p_bin rfl rfl (b_and hh.2.1))) rfl ?_
    refine Q_cons (Still1.of_pure (p_bin rfl rfl (b_add hh.2.2.2.1))) rfl ?_
    refine Q_cons (Still1.of_pure (p_sliceStr rfl rfl rfl rfl rfl Try.underlying9 (Nat.le_succ _) (by show _ ≤ 16; omega) (hexDig_text q hd2))) rfl ?_
    refine Q_cons (Still1.of_pure (p_addStr rfl rfl (by rw [tx_size, tx_size, List.length_append, hln]; simp; omega) (tx_append _ _))) rfl ?_
    refine Q_cons (Still1.of_pure (p_assign rfl)) rfl ?_
    refine Q_nil ?_
    repeat (first | refine S_scope ?_ | refine S_label ?_ | refine E_noGoto_normal ?_ | refine E_noGoto_ret ?_ | refine E_noGoto_exit ?_ | refine S_yes rfl (by first | with_reducible rfl | decide) ?_ | refine S_no rfl (by first | with_reducible rfl | decide) ?_ | refine S_seq ?_ | refine E_seq ?_ | refine S_block ?_ | refine E_block_normal ?_ | refine S_skip ?_ | refine S_exit ?_ | refine S_ret ?_ | refine E_then_exit ?_ | refine E_then_ret ?_ | refine E_block_ret ?_ | refine E_block_exit ?_ | refine E_block_exit_other rfl ?_)
    refine S_region ?_
    refine R_cons rfl (op_pure (p_move rfl) rfl ?_)
    refine R_cons rfl (op_pure (p_bin rfl rfl (b_add hh.2.2.2.2)) rfl ?_)
    refine R_cons rfl (op_pure (p_assign rfl) rfl ?_)
    refine R_nil ?_
    repeat (first | refine S_scope ?_ | refine S_label ?_ | refine E_noGoto_normal ?_ | refine E_noGoto_ret ?_ | refine E_noGoto_exit ?_ | refine S_yes rfl (by first | with_reducible rfl | decide) ?_ | refine S_no rfl (by first | with_reducible rfl | decide) ?_ | refine S_seq ?_ | refine E_seq ?_ | refine S_block ?_ | refine E_block_normal ?_ | refine S_skip ?_ | refine S_exit ?_ | refine S_ret ?_ | refine E_then_exit ?_ | refine E_then_ret ?_ | refine E_block_ret ?_ | refine E_block_exit ?_ | refine E_block_exit_other rfl ?_)
    exact E_round (s := i) (i + 1) (by omega) (by omega) (Sub.cons rfl (Sub.cons (by rw [hts]; rfl) (by repeat (first | exact Sub.nil | refine Sub.cons rfl ?_)))) (Fewer.refl _)
  · obtain rfl : i = 32 := by omega
    repeat (first | refine S_scope ?_ | refine S_label ?_ | refine E_noGoto_normal ?_ | refine E_noGoto_ret ?_ | refine E_noGoto_exit ?_ | refine S_yes rfl (by first | with_reducible rfl | decide) ?_ | refine S_no rfl (by first | with_reducible rfl | decide) ?_ | refine S_seq ?_ | refine E_seq ?_ | refine S_block ?_ | refine E_block_normal ?_ | refine S_skip ?_ | refine S_exit ?_ | refine S_ret ?_ | refine E_then_exit ?_ | refine E_then_ret ?_ | refine E_block_ret ?_ | refine E_block_exit ?_ | refine E_block_exit_other rfl ?_)
    refine S_region ?_
    refine R_cons rfl (op_pure (p_move rfl) rfl ?_)
    refine R_cons rfl (op_pure (p_bin rfl rfl (b_lss (r := false) (by decide))) rfl ?_)
    refine R_nil ?_
    repeat (first | refine S_scope ?_ | refine S_label ?_ | refine E_noGoto_normal ?_ | refine E_noGoto_ret ?_ | refine E_noGoto_exit ?_ | refine S_yes rfl (by first | with_reducible rfl | decide) ?_ | refine S_no rfl (by first | with_reducible rfl | decide) ?_ | refine S_seq ?_ | refine E_seq ?_ | refine S_block ?_ | refine E_block_normal ?_ | refine S_skip ?_ | refine S_exit ?_ | refine S_ret ?_ | refine E_then_exit ?_ | refine E_then_ret ?_ | refine E_block_ret ?_ | refine E_block_exit ?_ | refine E_block_exit_other rfl ?_)
    refine S_region ?_
    refine R_cons rfl (op_pure (p_move rfl) rfl ?_)
    refine R_cons rfl (op_pure (p_assign rfl) rfl ?_)
    refine R_nil ?_
    repeat (first | refine S_scope ?_ | refine S_label ?_ | refine E_noGoto_normal ?_ | refine E_noGoto_ret ?_ | refine E_noGoto_exit ?_ | refine S_yes rfl (by first | with_reducible rfl | decide) ?_ | refine S_no rfl (by first | with_reducible rfl | decide) ?_ | refine S_seq ?_ | refine E_seq ?_ | refine S_block ?_ | refine E_block_normal ?_ | refine S_skip ?_ | refine S_exit ?_ | refine S_ret ?_ | refine E_then_exit ?_ | refine E_then_ret ?_ | refine E_block_ret ?_ | refine E_block_exit ?_ | refine E_block_exit_other rfl ?_)
    exact E_ret1 rfl rfl fun w' hm => ⟨by rw [← hl, List.take_length], hm.below⟩
end Go.Proofs.Ythkogneaimjhjaa
