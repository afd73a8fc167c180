/-
  The layer onces: a message's bit, a secret's sum, what a key comes to.
-/
import Derived.Test.YtfdlafjifjndeaaOnceLaw
import Derived.Test.YtfdlafjifjndeaaSha7
import Derived.Test.YtfdlafjifjndeaaK24
namespace Go.Proofs.Ytfdlafjifjndeaa
open Go.Sha
open Go.RowKit Go.K
attribute [local irreducible] Exit.then Exit.inBlock Exit.noGoto bodyPost Code.wp QL Sx Rx Qx Ex Dx Op1 Pure1 Still1 K.Sub Calm Code.wpIn
attribute [local irreducible] sha total Buf.hp Buf.cap Buf.addr bitN secretS catN Rep
set_option linter.unusedVariables false
theorem row_api_Once : Row Try.prog 26 4096 := ⟨_, Try.underlying26, rfl, by kernel_rfl⟩
theorem zero_api_Once : Zr Try.prog 26 ((bytesV (List.replicate 2048 0) ++ (bytesV (List.replicate 2048 0)))) := by unfold Zr; kernel_rfl
theorem fd_api_Once_0 : FldAt Try.prog 26 0 0 := ⟨_, _, 2047, Try.underlying26, rfl, rfl, by kernel_rfl⟩
theorem fd_api_Once_1 : FldAt Try.prog 26 1 2048 := ⟨_, _, 2047, Try.underlying26, rfl, rfl, by kernel_rfl⟩
theorem row_64_api_Sum : Row Try.prog 24 2048 := ⟨_, Try.underlying24, rfl, by kernel_rfl⟩
theorem zero_64_api_Sum : Zr Try.prog 24 (bytesV (List.replicate 2048 0)) := by unfold Zr; kernel_rfl
theorem ut_64_api_Sum : Try.prog.underlying 24 = some (.array 64 23) := Try.underlying24
theorem row_onces_pair : Row Try.prog 81 64 := ⟨_, Try.underlying81, rfl, by kernel_rfl⟩
theorem zero_onces_pair : Zr Try.prog 81 (bytesV (List.replicate 64 0)) := by unfold Zr; kernel_rfl
theorem elr_onces_pair : ElR Try.prog 81 (.agg (bytesV (List.replicate 64 0)).toArray) 64 64 := by
  obtain ⟨i, h1, h2, h3, h4⟩ := info_parts (show (Try.prog.info? 81).map (fun i => (i.zero, i.size, i.bytes)) = some (some (.agg (bytesV (List.replicate 64 0)).toArray), 64, 64) from by kernel_rfl)
  exact ⟨i, h1, h2, h3, h4, rfl⟩
theorem blt_onces_pair : ∀ parts, Try.prog.built 81 parts = Instr.fill (fun i => some (i * 32, 32)) (bytesV (List.replicate 64 0)).toArray parts := fun parts => by kernel_rfl
theorem ut_onces_pair : Try.prog.underlying 81 = some (.array 2 23) := Try.underlying81
theorem elr_Sum : ElR Try.prog 23 (.agg (bytesV (List.replicate 32 0)).toArray) 32 32 := by
  obtain ⟨i, h1, h2, h3, h4⟩ := info_parts (show (Try.prog.info? 23).map (fun i => (i.zero, i.size, i.bytes)) = some (some (.agg (bytesV (List.replicate 32 0)).toArray), 32, 32) from by kernel_rfl)
  exact ⟨i, h1, h2, h3, h4, rfl⟩
theorem and1 : ∀ q, q < 256 → bits .and .i64 ((q : Nat) : Int) 1 = ((q % 2 : Nat) : Int) := by decide +kernel

theorem bit19_any (k : List UInt8) (hk : k.length = 32) (n : Nat) (hn : n < 256) (w : World) :
    Calls Try.prog 38 [.agg (bytesV k).toArray, .int .i64 (n : Int)].toArray w fun e w' => e = .returned (.int .i64 (bitN k n : Int)) ∧ Below w.heap.size w w' := by
  refine enter Try.func38 rfl Try.ntmps38 (by simp) ?_
  have hx := b_lt (k.getD (n / 8) 0)
  have hsh : ((k.getD (n / 8) 0).toNat : Int) / 2 ^ (7 - ((n % 8 : Nat) : Int)).toNat = (((k.getD (n / 8) 0).toNat / 2 ^ (7 - n % 8) : Nat) : Int) := by
    rw [show (7 - ((n % 8 : Nat) : Int)) = ((7 - n % 8 : Nat) : Int) by omega]
    exact shr_nat _ _
  have hq : bitN k n = (k.getD (n / 8) 0).toNat / 2 ^ (7 - n % 8) % 2 := by unfold bitN; rfl
  have hlt : (k.getD (n / 8) 0).toNat / 2 ^ (7 - n % 8) < 256 := Nat.lt_of_le_of_lt (Nat.div_le_self _ _) hx
  generalize (k.getD (n / 8) 0).toNat / 2 ^ (7 - n % 8) = q at hsh hq hlt
  have hwr : IntKind.i64.wrap (q : Int) = (q : Int) := w_in_i64 (by omega)
  have hqu : IntKind.i64.wrap ((n : Int).tdiv 8) = ((n / 8 : Nat) : Int) := nat_quo_i64 n 8 (by omega)
  have hsb : IntKind.i64.wrap (7 - ((n % 8 : Nat) : Int)) = 7 - ((n % 8 : Nat) : Int) := w_in_i64 (by omega)
  have hh := And.intro hsh (And.intro hwr (And.intro (and1 q hlt) (And.intro hq (And.intro hqu (And.intro hsb (show n / 8 < 32 by omega))))))
  have h78 : (0 : Int) ≤ 7 - ((n % 8 : Nat) : Int) ∧ 7 - ((n % 8 : Nat) : Int) ≤ 8 := by omega
  clear hsh hwr hq hx hn hqu hsb hlt
  repeat (first | refine S_scope ?_ | refine S_label ?_ | refine E_noGoto_normal ?_ | refine E_noGoto_ret ?_ | refine E_noGoto_exit ?_ | refine S_yes rfl (by first | with_reducible rfl | decide) ?_ | refine S_no rfl (by first | with_reducible rfl | decide) ?_ | refine S_seq ?_ | refine E_seq ?_ | refine S_block ?_ | refine E_block_normal ?_ | refine S_skip ?_ | refine S_exit ?_ | refine S_ret ?_ | refine E_then_exit ?_ | refine E_then_ret ?_ | refine E_block_ret ?_ | refine E_block_exit ?_ | refine E_block_exit_other rfl ?_)
  refine S_region ?_
  refine R_cons rfl (op_boxRow rfl rfl (Nat.le_refl _) (fun b2 => ?_))
  refine R_cons rfl (op_pure (p_assign rfl) rfl ?_)
  refine R_nil ?_
  repeat (first | refine S_scope ?_ | refine S_label ?_ | refine E_noGoto_normal ?_ | refine E_noGoto_ret ?_ | refine E_noGoto_exit ?_ | refine S_yes rfl (by first | with_reducible rfl | decide) ?_ | refine S_no rfl (by first | with_reducible rfl | decide) ?_ | refine S_seq ?_ | refine E_seq ?_ | refine S_block ?_ | refine E_block_normal ?_ | refine S_skip ?_ | refine S_exit ?_ | refine S_ret ?_ | refine E_then_exit ?_ | refine E_then_ret ?_ | refine E_block_ret ?_ | refine E_block_exit ?_ | refine E_block_exit_other rfl ?_)
  refine S_region ?_
  refine R_cons rfl (op_pure (p_move rfl) rfl ?_)
  refine R_cons rfl (op_pure (p_bin rfl rfl (b_quo (by decide) hh.2.2.2.2.1)) rfl ?_)
  refine R_cons rfl (op_pure (p_indexArr0 (j := n / 8) rfl rfl rfl arr_Sum hh.2.2.2.2.2.2) rfl ?_)
  refine R_cons rfl (op_pure (p_load rfl sc_u8 (by repeat (first | exact List.Mem.head _ | apply List.Mem.tail)) (bytesV_get (by rw [hk]; exact hh.2.2.2.2.2.2))) rfl ?_)
  refine R_cons rfl (op_pure (p_move rfl) rfl ?_)
  refine R_cons rfl (op_pure (p_bin rfl rfl (b_rem (by decide) (nat_rem _ 8))) rfl ?_)
  refine R_cons rfl (op_pure (p_bin rfl rfl (b_sub hh.2.2.2.2.2.1)) rfl ?_)
  refine R_cons rfl (op_pure (p_bin rfl rfl (b_shr h78.1 h78.2 hh.1)) rfl ?_)
  refine R_cons rfl (op_pure (p_convert rfl sc_u8 ik_int hh.2.1) rfl ?_)
  refine R_cons rfl (op_pure (p_bin rfl rfl (b_and hh.2.2.1)) rfl ?_)
  refine R_cons rfl (op_pure (p_assign rfl) rfl ?_)
  refine R_nil ?_
  repeat (first | refine S_scope ?_ | refine S_label ?_ | refine E_noGoto_normal ?_ | refine E_noGoto_ret ?_ | refine E_noGoto_exit ?_ | refine S_yes rfl (by first | with_reducible rfl | decide) ?_ | refine S_no rfl (by first | with_reducible rfl | decide) ?_ | refine S_seq ?_ | refine E_seq ?_ | refine S_block ?_ | refine E_block_normal ?_ | refine S_skip ?_ | refine S_exit ?_ | refine S_ret ?_ | refine E_then_exit ?_ | refine E_then_ret ?_ | refine E_block_ret ?_ | refine E_block_exit ?_ | refine E_block_exit_other rfl ?_)
  exact E_ret1 rfl rfl fun w' hm => ⟨by rw [hh.2.2.2.1], hm.below⟩

theorem refBit19_any (k : List UInt8) (hk : k.length = 32) (n : Nat) (hn : n < 256) (w : World) :
    Calls Try.prog 41 [.agg (bytesV k).toArray, .int .i64 (n : Int)].toArray w fun e w' => e = .returned (.int .i64 (bitN k n : Int)) ∧ Below w.heap.size w w' := by
  refine enter Try.func41 rfl Try.ntmps41 (by simp) ?_
  have hx := b_lt (k.getD (n / 8) 0)
  have hsh : ((k.getD (n / 8) 0).toNat : Int) / 2 ^ (7 - ((n % 8 : Nat) : Int)).toNat = (((k.getD (n / 8) 0).toNat / 2 ^ (7 - n % 8) : Nat) : Int) := by
    rw [show (7 - ((n % 8 : Nat) : Int)) = ((7 - n % 8 : Nat) : Int) by omega]
    exact shr_nat _ _
  have hq : bitN k n = (k.getD (n / 8) 0).toNat / 2 ^ (7 - n % 8) % 2 := by unfold bitN; rfl
  have hlt : (k.getD (n / 8) 0).toNat / 2 ^ (7 - n % 8) < 256 := Nat.lt_of_le_of_lt (Nat.div_le_self _ _) hx
  generalize (k.getD (n / 8) 0).toNat / 2 ^ (7 - n % 8) = q at hsh hq hlt
  have hwr : IntKind.i64.wrap (q : Int) = (q : Int) := w_in_i64 (by omega)
  have hqu : IntKind.i64.wrap ((n : Int).tdiv 8) = ((n / 8 : Nat) : Int) := nat_quo_i64 n 8 (by omega)
  have hsb : IntKind.i64.wrap (7 - ((n % 8 : Nat) : Int)) = 7 - ((n % 8 : Nat) : Int) := w_in_i64 (by omega)
  have hh := And.intro hsh (And.intro hwr (And.intro (and1 q hlt) (And.intro hq (And.intro hqu (And.intro hsb (show n / 8 < 32 by omega))))))
  have h78 : (0 : Int) ≤ 7 - ((n % 8 : Nat) : Int) ∧ 7 - ((n % 8 : Nat) : Int) ≤ 8 := by omega
  clear hsh hwr hq hx hn hqu hsb hlt
  repeat (first | refine S_scope ?_ | refine S_label ?_ | refine E_noGoto_normal ?_ | refine E_noGoto_ret ?_ | refine E_noGoto_exit ?_ | refine S_yes rfl (by first | with_reducible rfl | decide) ?_ | refine S_no rfl (by first | with_reducible rfl | decide) ?_ | refine S_seq ?_ | refine E_seq ?_ | refine S_block ?_ | refine E_block_normal ?_ | refine S_skip ?_ | refine S_exit ?_ | refine S_ret ?_ | refine E_then_exit ?_ | refine E_then_ret ?_ | refine E_block_ret ?_ | refine E_block_exit ?_ | refine E_block_exit_other rfl ?_)
  refine S_region ?_
  refine R_cons rfl (op_boxRow rfl rfl (Nat.le_refl _) (fun b2 => ?_))
  refine R_cons rfl (op_pure (p_assign rfl) rfl ?_)
  refine R_nil ?_
  repeat (first | refine S_scope ?_ | refine S_label ?_ | refine E_noGoto_normal ?_ | refine E_noGoto_ret ?_ | refine E_noGoto_exit ?_ | refine S_yes rfl (by first | with_reducible rfl | decide) ?_ | refine S_no rfl (by first | with_reducible rfl | decide) ?_ | refine S_seq ?_ | refine E_seq ?_ | refine S_block ?_ | refine E_block_normal ?_ | refine S_skip ?_ | refine S_exit ?_ | refine S_ret ?_ | refine E_then_exit ?_ | refine E_then_ret ?_ | refine E_block_ret ?_ | refine E_block_exit ?_ | refine E_block_exit_other rfl ?_)
  refine S_region ?_
  refine R_cons rfl (op_pure (p_move rfl) rfl ?_)
  refine R_cons rfl (op_pure (p_bin rfl rfl (b_quo (by decide) hh.2.2.2.2.1)) rfl ?_)
  refine R_cons rfl (op_pure (p_indexArr0 (j := n / 8) rfl rfl rfl arr_Sum hh.2.2.2.2.2.2) rfl ?_)
  refine R_cons rfl (op_pure (p_load rfl sc_u8 (by repeat (first | exact List.Mem.head _ | apply List.Mem.tail)) (bytesV_get (by rw [hk]; exact hh.2.2.2.2.2.2))) rfl ?_)
  refine R_cons rfl (op_pure (p_move rfl) rfl ?_)
  refine R_cons rfl (op_pure (p_bin rfl rfl (b_rem (by decide) (nat_rem _ 8))) rfl ?_)
  refine R_cons rfl (op_pure (p_bin rfl rfl (b_sub hh.2.2.2.2.2.1)) rfl ?_)
  refine R_cons rfl (op_pure (p_bin rfl rfl (b_shr h78.1 h78.2 hh.1)) rfl ?_)
  refine R_cons rfl (op_pure (p_convert rfl sc_u8 ik_int hh.2.1) rfl ?_)
  refine R_cons rfl (op_pure (p_bin rfl rfl (b_and hh.2.2.1)) rfl ?_)
  refine R_cons rfl (op_pure (p_assign rfl) rfl ?_)
  refine R_nil ?_
  repeat (first | refine S_scope ?_ | refine S_label ?_ | refine E_noGoto_normal ?_ | refine E_noGoto_ret ?_ | refine E_noGoto_exit ?_ | refine S_yes rfl (by first | with_reducible rfl | decide) ?_ | refine S_no rfl (by first | with_reducible rfl | decide) ?_ | refine S_seq ?_ | refine E_seq ?_ | refine S_block ?_ | refine E_block_normal ?_ | refine S_skip ?_ | refine S_exit ?_ | refine S_ret ?_ | refine E_then_exit ?_ | refine E_then_ret ?_ | refine E_block_ret ?_ | refine E_block_exit ?_ | refine E_block_exit_other rfl ?_)
  exact E_ret1 rfl rfl fun w' hm => ⟨by rw [hh.2.2.2.1], hm.below⟩

theorem sum19_any (x : List UInt8) (hx : x.length = 32) (w : World) :
    Calls Try.prog 39 [.agg (bytesV x).toArray].toArray w fun e w' => e = .returned (.agg (bytesV (sha x)).toArray) ∧ Below w.heap.size w w' := by
  have hbx : (bytesV x).length = 32 := by rw [bytesV_length, hx]
  have hsl := sha_length x
  refine enter Try.func39 rfl Try.ntmps39 (by simp) ?_
  repeat (first | refine S_scope ?_ | refine S_label ?_ | refine E_noGoto_normal ?_ | refine E_noGoto_ret ?_ | refine E_noGoto_exit ?_ | refine S_yes rfl (by first | with_reducible rfl | decide) ?_ | refine S_no rfl (by first | with_reducible rfl | decide) ?_ | refine S_seq ?_ | refine E_seq ?_ | refine S_block ?_ | refine E_block_normal ?_ | refine S_skip ?_ | refine S_exit ?_ | refine S_ret ?_ | refine E_then_exit ?_ | refine E_then_ret ?_ | refine E_block_ret ?_ | refine E_block_exit ?_ | refine E_block_exit_other rfl ?_)
  refine S_region ?_
  refine R_cons rfl (op_boxRow rfl rfl (Nat.le_refl _) (fun b1 => ?_))
  refine R_cons rfl (op_allocRow zero_Sum rfl (Nat.le_refl _) (fun b2 => ?_))
  refine R_nil ?_
  repeat (first | refine S_scope ?_ | refine S_label ?_ | refine E_noGoto_normal ?_ | refine E_noGoto_ret ?_ | refine E_noGoto_exit ?_ | refine S_yes rfl (by first | with_reducible rfl | decide) ?_ | refine S_no rfl (by first | with_reducible rfl | decide) ?_ | refine S_seq ?_ | refine E_seq ?_ | refine S_block ?_ | refine E_block_normal ?_ | refine S_skip ?_ | refine S_exit ?_ | refine S_ret ?_ | refine E_then_exit ?_ | refine E_then_ret ?_ | refine E_block_ret ?_ | refine E_block_exit ?_ | refine E_block_exit_other rfl ?_)
  refine S_region ?_
  refine R_cons rfl (op_pure (p_sliceArr rfl arr_Sum) rfl ?_)
  refine R_cons rfl (op_callV rfl rfl Try.func18 rfl (by kernel_rfl) rfl (Nat.le_refl _) (fun w' hm => of_any _ 32 32 x w' hx (hm.readsAll (b := b1) (by repeat (first | exact List.Mem.head _ | apply List.Mem.tail)) hbx) (Nat.le_refl _) (by unfold maxLen; omega) (by omega)) ?_)
  refine R_cons rfl (op_storeRow rfl rfl (by first | exact bytesV_one _ | exact wordsV_one _ | (repeat (first | exact ones_nil | refine ones_cons rfl ?_))) row_Sum (by first | assumption | rfl | (simp only [bytesV_length, wordsV_length]; omega) | (rw [bytesV_length]; exact Sha.sha_length _)) (by repeat (first | exact At.here | apply At.there)) (by first | exact Nat.le_of_ble_eq_true rfl | omega | (simp only [bytesV_length, wordsV_length, List.length_cons, List.length_nil, List.length_replicate]; omega) | (simp only [bytesV_length, Sha.sha_length, List.length_replicate] <;> omega)) ?_)
  refine R_nil ?_
  repeat (first | refine S_scope ?_ | refine S_label ?_ | refine E_noGoto_normal ?_ | refine E_noGoto_ret ?_ | refine E_noGoto_exit ?_ | refine S_yes rfl (by first | with_reducible rfl | decide) ?_ | refine S_no rfl (by first | with_reducible rfl | decide) ?_ | refine S_seq ?_ | refine E_seq ?_ | refine S_block ?_ | refine E_block_normal ?_ | refine S_skip ?_ | refine S_exit ?_ | refine S_ret ?_ | refine E_then_exit ?_ | refine E_then_ret ?_ | refine E_block_ret ?_ | refine E_block_exit ?_ | refine E_block_exit_other rfl ?_)
  refine E_fewer (Sub.refl _) (H' := [(b2, .cells (bytesV (sha x)).toArray 23 (0, 0))]) ?_ (E_retRow rfl rfl (by repeat (first | exact List.Mem.head _ | apply List.Mem.tail)) row_Sum (by rw [bytesV_length, hsl]) fun w' hm => ⟨rfl, hm.below⟩)
  exact .keep (by rw [lay_whole (by rw [bytesV_length, bytesV_length, hsl]; rfl)]) .nil

theorem refSum19_any (x : List UInt8) (hx : x.length = 32) (w : World) :
    Calls Try.prog 40 [.agg (bytesV x).toArray].toArray w fun e w' => e = .returned (.agg (bytesV (sha x)).toArray) ∧ Below w.heap.size w w' := by
  have hbx : (bytesV x).length = 32 := by rw [bytesV_length, hx]
  have hsl := sha_length x
  refine enter Try.func40 rfl Try.ntmps40 (by simp) ?_
  repeat (first | refine S_scope ?_ | refine S_label ?_ | refine E_noGoto_normal ?_ | refine E_noGoto_ret ?_ | refine E_noGoto_exit ?_ | refine S_yes rfl (by first | with_reducible rfl | decide) ?_ | refine S_no rfl (by first | with_reducible rfl | decide) ?_ | refine S_seq ?_ | refine E_seq ?_ | refine S_block ?_ | refine E_block_normal ?_ | refine S_skip ?_ | refine S_exit ?_ | refine S_ret ?_ | refine E_then_exit ?_ | refine E_then_ret ?_ | refine E_block_ret ?_ | refine E_block_exit ?_ | refine E_block_exit_other rfl ?_)
  refine S_region ?_
  refine R_cons rfl (op_boxRow rfl rfl (Nat.le_refl _) (fun b1 => ?_))
  refine R_cons rfl (op_allocRow zero_Sum rfl (Nat.le_refl _) (fun b2 => ?_))
  refine R_nil ?_
  repeat (first | refine S_scope ?_ | refine S_label ?_ | refine E_noGoto_normal ?_ | refine E_noGoto_ret ?_ | refine E_noGoto_exit ?_ | refine S_yes rfl (by first | with_reducible rfl | decide) ?_ | refine S_no rfl (by first | with_reducible rfl | decide) ?_ | refine S_seq ?_ | refine E_seq ?_ | refine S_block ?_ | refine E_block_normal ?_ | refine S_skip ?_ | refine S_exit ?_ | refine S_ret ?_ | refine E_then_exit ?_ | refine E_then_ret ?_ | refine E_block_ret ?_ | refine E_block_exit ?_ | refine E_block_exit_other rfl ?_)
  refine S_region ?_
  refine R_cons rfl (op_pure (p_sliceArr rfl arr_Sum) rfl ?_)
  refine R_cons rfl (op_callV rfl rfl Try.func42 rfl (by kernel_rfl) rfl (Nat.le_refl _) (fun w' hm => refOf_any _ 32 32 x w' hx (hm.readsAll (b := b1) (by repeat (first | exact List.Mem.head _ | apply List.Mem.tail)) hbx) (by omega)) ?_)
  refine R_cons rfl (op_storeRow rfl rfl (by first | exact bytesV_one _ | exact wordsV_one _ | (repeat (first | exact ones_nil | refine ones_cons rfl ?_))) row_Sum (by first | assumption | rfl | (simp only [bytesV_length, wordsV_length]; omega) | (rw [bytesV_length]; exact Sha.sha_length _)) (by repeat (first | exact At.here | apply At.there)) (by first | exact Nat.le_of_ble_eq_true rfl | omega | (simp only [bytesV_length, wordsV_length, List.length_cons, List.length_nil, List.length_replicate]; omega) | (simp only [bytesV_length, Sha.sha_length, List.length_replicate] <;> omega)) ?_)
  refine R_nil ?_
  repeat (first | refine S_scope ?_ | refine S_label ?_ | refine E_noGoto_normal ?_ | refine E_noGoto_ret ?_ | refine E_noGoto_exit ?_ | refine S_yes rfl (by first | with_reducible rfl | decide) ?_ | refine S_no rfl (by first | with_reducible rfl | decide) ?_ | refine S_seq ?_ | refine E_seq ?_ | refine S_block ?_ | refine E_block_normal ?_ | refine S_skip ?_ | refine S_exit ?_ | refine S_ret ?_ | refine E_then_exit ?_ | refine E_then_ret ?_ | refine E_block_ret ?_ | refine E_block_exit ?_ | refine E_block_exit_other rfl ?_)
  refine E_fewer (Sub.refl _) (H' := [(b2, .cells (bytesV (sha x)).toArray 23 (0, 0))]) ?_ (E_retRow rfl rfl (by repeat (first | exact List.Mem.head _ | apply List.Mem.tail)) row_Sum (by rw [bytesV_length, hsl]) fun w' hm => ⟨rfl, hm.below⟩)
  exact .keep (by rw [lay_whole (by rw [bytesV_length, bytesV_length, hsl]; rfl)]) .nil

set_option maxHeartbeats 2000000 in
theorem whole_any (F : Nat) (fn : Func) (caps : List Value) (pr : Nat → List UInt8) (hpl : ∀ n, n < 64 → (pr n).length = 64) (hcl : ∀ n, n ≤ 64 → (catN pr n).length = n * 64) (hf0 : Try.prog.funcs[F]? = some fn) (hb0 : fn.body.isNone = false) (hn0 : (fn.name == "runtime.NumGoroutine") = false) (w : World)
    (hcall : ∀ n : Nat, n < 64 → ∀ w', Below w.heap.size w w' → Calls Try.prog F ([Value.int .i64 (n : Int)] ++ caps).toArray w' fun e w'' => e = .returned (.agg (bytesV (pr n)).toArray) ∧ Below w'.heap.size w' w'') :
    Calls Try.prog 36 [.func (.func F) #[] caps.toArray].toArray w fun e w' => e = .returned (.agg (bytesV (sha (catN pr 64))).toArray) ∧ Below w.heap.size w w' := by
  refine enter Try.func36 rfl Try.ntmps36 (by simp) ?_
  repeat (first | refine S_scope ?_ | refine S_label ?_ | refine E_noGoto_normal ?_ | refine E_noGoto_ret ?_ | refine E_noGoto_exit ?_ | refine S_yes rfl (by first | with_reducible rfl | decide) ?_ | refine S_no rfl (by first | with_reducible rfl | decide) ?_ | refine S_seq ?_ | refine E_seq ?_ | refine S_block ?_ | refine E_block_normal ?_ | refine S_skip ?_ | refine S_exit ?_ | refine S_ret ?_ | refine E_then_exit ?_ | refine E_then_ret ?_ | refine E_block_ret ?_ | refine E_block_exit ?_ | refine E_block_exit_other rfl ?_)
  refine S_region ?_
  refine R_cons rfl (op_allocRow zero_Sum rfl (Nat.le_refl _) (fun b2 => ?_))
  refine R_nil ?_
  repeat (first | refine S_scope ?_ | refine S_label ?_ | refine E_noGoto_normal ?_ | refine E_noGoto_ret ?_ | refine E_noGoto_exit ?_ | refine S_yes rfl (by first | with_reducible rfl | decide) ?_ | refine S_no rfl (by first | with_reducible rfl | decide) ?_ | refine S_seq ?_ | refine E_seq ?_ | refine S_block ?_ | refine E_block_normal ?_ | refine S_skip ?_ | refine S_exit ?_ | refine S_ret ?_ | refine E_then_exit ?_ | refine E_then_ret ?_ | refine E_block_ret ?_ | refine E_block_exit ?_ | refine E_block_exit_other rfl ?_)
  refine S_region ?_
  refine R_cons rfl (op_call (vs := []) (first := []) (cap := []) rfl rfl Try.func48 rfl (by kernel_rfl) rfl fun w1 hm => (new_any w1).mono ?_)
  rintro e w2 ⟨g, cs0, rfl, hr0, hg, hgo, hbel⟩
  refine ⟨_, _, rfl, hm.call1 (Nat.le_refl _) hbel hg hgo, ?_⟩
  clear hm hbel hg hgo w1 w2
  refine R_cons rfl (op_pure (p_assign rfl) rfl ?_)
  refine R_nil ?_
  repeat (first | refine S_scope ?_ | refine S_label ?_ | refine E_noGoto_normal ?_ | refine E_noGoto_ret ?_ | refine E_noGoto_exit ?_ | refine S_yes rfl (by first | with_reducible rfl | decide) ?_ | refine S_no rfl (by first | with_reducible rfl | decide) ?_ | refine S_seq ?_ | refine E_seq ?_ | refine S_block ?_ | refine E_block_normal ?_ | refine S_skip ?_ | refine S_exit ?_ | refine S_ret ?_ | refine E_then_exit ?_ | refine E_then_ret ?_ | refine E_block_ret ?_ | refine E_block_exit ?_ | refine E_block_exit_other rfl ?_)
  refine S_region ?_
  refine R_cons rfl (op_pure (p_move rfl) rfl ?_)
  refine R_nil ?_
  repeat (first | refine S_scope ?_ | refine S_label ?_ | refine E_noGoto_normal ?_ | refine E_noGoto_ret ?_ | refine E_noGoto_exit ?_ | refine S_yes rfl (by first | with_reducible rfl | decide) ?_ | refine S_no rfl (by first | with_reducible rfl | decide) ?_ | refine S_seq ?_ | refine E_seq ?_ | refine S_block ?_ | refine E_block_normal ?_ | refine S_skip ?_ | refine S_exit ?_ | refine S_ret ?_ | refine E_then_exit ?_ | refine E_then_ret ?_ | refine E_block_ret ?_ | refine E_block_exit ?_ | refine E_block_exit_other rfl ?_)
  refine S_loop (σ := Nat × List Value) (fun s => [(8, .int .i64 (s.1 : Int)), (3, .pointer (some ⟨g, 0, none⟩)), (2, .pointer (some ⟨b2, 0, none⟩)), (0, .func (.func F) #[] caps.toArray)])
    (fun s => [(g, .cells s.2.toArray 149 (0, 0)), (b2, .cells (bytesV (List.replicate 32 0)).toArray 23 (0, 0))]) (fun s => s.1 ≤ 64 ∧ Rep (catN pr s.1) s.2) (fun s => 64 - s.1) (0, cs0) ⟨Nat.zero_le _, by show Rep (catN pr 0) cs0; unfold catN; exact hr0⟩ (by repeat (first | exact Sub.nil | refine Sub.cons rfl ?_)) (Fewer.refl _) ?_
  rintro ⟨n, cs⟩ ⟨hn, hr⟩
  dsimp only at hn hr ⊢
  by_cases hlt : n < 64
  · have g1 : decide ((n : Int) < 64) = true := decide_eq_true (by omega)
    have hadd : IntKind.i64.wrap ((n : Int) + 1) = ((n + 1 : Nat) : Int) := by rw [w_in_i64 (by omega)]; omega
    have hp := hpl n hlt
    have hcn := hcl n hn
    have hsucc : catN pr n ++ pr n = catN pr (n + 1) := by rw [catN]
    have hc := hcall n hlt
    generalize pr n = p at *
    generalize catN pr n = q at *
    have hh := And.intro hlt (show q.length ≤ 4096 by omega)
    clear hlt hn hcn
    repeat (first | refine S_scope ?_ | refine S_label ?_ | refine E_noGoto_normal ?_ | refine E_noGoto_ret ?_ | refine E_noGoto_exit ?_ | refine S_yes rfl (by first | with_reducible rfl | decide) ?_ | refine S_no rfl (by first | with_reducible rfl | decide) ?_ | refine S_seq ?_ | refine E_seq ?_ | refine S_block ?_ | refine E_block_normal ?_ | refine S_skip ?_ | refine S_exit ?_ | refine S_ret ?_ | refine E_then_exit ?_ | refine E_then_ret ?_ | refine E_block_ret ?_ | refine E_block_exit ?_ | refine E_block_exit_other rfl ?_)
    refine S_region ?_
    refine R_cons rfl (op_pure (p_bin rfl rfl (b_lss g1)) rfl ?_)
    refine R_nil ?_
    repeat (first | refine S_scope ?_ | refine S_label ?_ | refine E_noGoto_normal ?_ | refine E_noGoto_ret ?_ | refine E_noGoto_exit ?_ | refine S_yes rfl (by first | with_reducible rfl | decide) ?_ | refine S_no rfl (by first | with_reducible rfl | decide) ?_ | refine S_seq ?_ | refine E_seq ?_ | refine S_block ?_ | refine E_block_normal ?_ | refine S_skip ?_ | refine S_exit ?_ | refine S_ret ?_ | refine E_then_exit ?_ | refine E_then_ret ?_ | refine E_block_ret ?_ | refine E_block_exit ?_ | refine E_block_exit_other rfl ?_)
    refine S_region ?_
    refine R_cons rfl (op_pure (p_move rfl) rfl ?_)
    refine R_cons rfl (op_pure (p_assign rfl) rfl ?_)
    refine R_nil ?_
    repeat (first | refine S_scope ?_ | refine S_label ?_ | refine E_noGoto_normal ?_ | refine E_noGoto_ret ?_ | refine E_noGoto_exit ?_ | refine S_yes rfl (by first | with_reducible rfl | decide) ?_ | refine S_no rfl (by first | with_reducible rfl | decide) ?_ | refine S_seq ?_ | refine E_seq ?_ | refine S_block ?_ | refine E_block_normal ?_ | refine S_skip ?_ | refine S_exit ?_ | refine S_ret ?_ | refine E_then_exit ?_ | refine E_then_ret ?_ | refine E_block_ret ?_ | refine E_block_exit ?_ | refine E_block_exit_other rfl ?_)
    refine S_region ?_
    refine R_cons rfl (op_pure (p_move rfl) rfl ?_)
    refine R_cons rfl (op_pure (p_move rfl) rfl ?_)
    refine R_cons rfl (op_callV (first := []) (cap := caps) rfl rfl hf0 hb0 hn0 rfl (Nat.le_refl _) (fun w' hm => hc w' hm.below) ?_)
    refine R_cons rfl (op_allocRow zero_onces_pair rfl (Nat.le_refl _) (fun b5 => ?_))
    refine R_cons rfl (op_storeRow rfl rfl (bytesV_one _) row_onces_pair (by rw [bytesV_length, hp]) (by repeat (first | exact At.here | apply At.there)) (by rw [bytesV_length, bytesV_length, hp]; exact Nat.le_refl 64) ?_)
    refine R_nil ?_
    repeat (first | refine S_scope ?_ | refine S_label ?_ | refine E_noGoto_normal ?_ | refine E_noGoto_ret ?_ | refine E_noGoto_exit ?_ | refine S_yes rfl (by first | with_reducible rfl | decide) ?_ | refine S_no rfl (by first | with_reducible rfl | decide) ?_ | refine S_seq ?_ | refine E_seq ?_ | refine S_block ?_ | refine E_block_normal ?_ | refine S_skip ?_ | refine S_exit ?_ | refine S_ret ?_ | refine E_then_exit ?_ | refine E_then_ret ?_ | refine E_block_ret ?_ | refine E_block_exit ?_ | refine E_block_exit_other rfl ?_)
    rw [lay_whole (by rw [bytesV_length, bytesV_length, hp]; rfl)]
    refine S_region ?_
    refine R_cons rfl (op_pure (p_move rfl) rfl ?_)
    refine R_nil ?_
    repeat (first | refine S_scope ?_ | refine S_label ?_ | refine E_noGoto_normal ?_ | refine E_noGoto_ret ?_ | refine E_noGoto_exit ?_ | refine S_yes rfl (by first | with_reducible rfl | decide) ?_ | refine S_no rfl (by first | with_reducible rfl | decide) ?_ | refine S_seq ?_ | refine E_seq ?_ | refine S_block ?_ | refine E_block_normal ?_ | refine S_skip ?_ | refine S_exit ?_ | refine S_ret ?_ | refine E_then_exit ?_ | refine E_then_ret ?_ | refine E_block_ret ?_ | refine E_block_exit ?_ | refine E_block_exit_other rfl ?_)
    refine S_loop (σ := Nat × List Value) (fun s => [(14, .int .i64 (s.1 : Int)), (8, .int .i64 (n : Int)), (5, .pointer (some ⟨b5, 0, none⟩)), (3, .pointer (some ⟨g, 0, none⟩)), (2, .pointer (some ⟨b2, 0, none⟩)), (0, .func (.func F) #[] caps.toArray)])
      (fun s => [(b5, .cells (bytesV p).toArray 81 (0, 0)), (g, .cells s.2.toArray 149 (0, 0)), (b2, .cells (bytesV (List.replicate 32 0)).toArray 23 (0, 0))]) (fun s => s.1 ≤ 2 ∧ Rep (q ++ p.take (s.1 * 32)) s.2) (fun s => 2 - s.1) (0, cs) ⟨Nat.zero_le _, by show Rep (q ++ List.take 0 p) cs; rw [List.take_zero, List.append_nil]; exact hr⟩ (by repeat (first | exact Sub.nil | refine Sub.cons rfl ?_)) (Fewer.refl _) ?_
    rintro ⟨i, cs1⟩ ⟨hi, hr1⟩
    dsimp only at hi hr1 ⊢
    by_cases hi2 : i < 2
    · have g2 : decide ((i : Int) < 2) = true := decide_eq_true (by omega)
      have hadd2 : IntKind.i64.wrap ((i : Int) + 1) = ((i + 1 : Nat) : Int) := by rw [w_in_i64 (by omega)]; omega
      have htk : p.take (i * 32) ++ (p.drop (i * 32)).take 32 = p.take ((i + 1) * 32) := by rw [Nat.succ_mul, List.take_add]
      have hxl : ((p.drop (i * 32)).take 32).length = 32 := by rw [List.length_take, List.length_drop]; omega
      have hxv : ((bytesV p).drop (0 + i * 32)).take 32 = bytesV ((p.drop (i * 32)).take 32) := by rw [Nat.zero_add]; unfold bytesV; rw [← List.map_drop, ← List.map_take]
      have hfit : 0 + i * 32 + 32 ≤ (bytesV p).length := by rw [bytesV_length]; omega
      have htl : (q ++ p.take (i * 32)).length + 32 ≤ 1152921504606846976 := by rw [List.length_append, List.length_take]; omega
      repeat (first | refine S_scope ?_ | refine S_label ?_ | refine E_noGoto_normal ?_ | refine E_noGoto_ret ?_ | refine E_noGoto_exit ?_ | refine S_yes rfl (by first | with_reducible rfl | decide) ?_ | refine S_no rfl (by first | with_reducible rfl | decide) ?_ | refine S_seq ?_ | refine E_seq ?_ | refine S_block ?_ | refine E_block_normal ?_ | refine S_skip ?_ | refine S_exit ?_ | refine S_ret ?_ | refine E_then_exit ?_ | refine E_then_ret ?_ | refine E_block_ret ?_ | refine E_block_exit ?_ | refine E_block_exit_other rfl ?_)
      refine S_region ?_
      refine R_cons rfl (op_pure (p_bin rfl rfl (b_lss g2)) rfl ?_)
      refine R_nil ?_
      repeat (first | refine S_scope ?_ | refine S_label ?_ | refine E_noGoto_normal ?_ | refine E_noGoto_ret ?_ | refine E_noGoto_exit ?_ | refine S_yes rfl (by first | with_reducible rfl | decide) ?_ | refine S_no rfl (by first | with_reducible rfl | decide) ?_ | refine S_seq ?_ | refine E_seq ?_ | refine S_block ?_ | refine E_block_normal ?_ | refine S_skip ?_ | refine S_exit ?_ | refine S_ret ?_ | refine E_then_exit ?_ | refine E_then_ret ?_ | refine E_block_ret ?_ | refine E_block_exit ?_ | refine E_block_exit_other rfl ?_)
      refine S_region ?_
      refine R_cons rfl (op_pure (p_move rfl) rfl ?_)
      refine R_cons rfl (op_pure (p_assign rfl) rfl ?_)
      refine R_nil ?_
      repeat (first | refine S_scope ?_ | refine S_label ?_ | refine E_noGoto_normal ?_ | refine E_noGoto_ret ?_ | refine E_noGoto_exit ?_ | refine S_yes rfl (by first | with_reducible rfl | decide) ?_ | refine S_no rfl (by first | with_reducible rfl | decide) ?_ | refine S_seq ?_ | refine E_seq ?_ | refine S_block ?_ | refine E_block_normal ?_ | refine S_skip ?_ | refine S_exit ?_ | refine S_ret ?_ | refine E_then_exit ?_ | refine E_then_ret ?_ | refine E_block_ret ?_ | refine E_block_exit ?_ | refine E_block_exit_other rfl ?_)
      refine S_region ?_
      refine R_cons rfl (op_pure (p_move rfl) rfl ?_)
      refine R_cons rfl (op_pure (p_move rfl) rfl ?_)
      refine R_cons rfl (op_pure (p_indexArrR (j := i) rfl rfl rfl ut_onces_pair row_Sum hi2) rfl ?_)
      refine R_cons rfl (op_pure (p_sliceArr rfl arr_Sum) rfl ?_)
      refine R_cons rfl (op_write (xs := (p.drop (i * 32)).take 32) (fun o' => [(b5, _), (g, o'), (b2, _)]) hr1 (fun o' => .there .here) rfl hxl (fun w hm => hm.reads (b := b5) (by repeat (first | exact List.Mem.head _ | apply List.Mem.tail)) hxv hfit) (fun w hm _ a ha => by cases ha; exact (List.pairwise_cons.1 hm.apart).1 (g, _) (by repeat (first | exact List.Mem.head _ | apply List.Mem.tail))) (Nat.le_refl _) (by unfold maxLen; omega) htl rfl (fun cs2 hr2 => ?_))
      refine R_nil ?_
      repeat (first | refine S_scope ?_ | refine S_label ?_ | refine E_noGoto_normal ?_ | refine E_noGoto_ret ?_ | refine E_noGoto_exit ?_ | refine S_yes rfl (by first | with_reducible rfl | decide) ?_ | refine S_no rfl (by first | with_reducible rfl | decide) ?_ | refine S_seq ?_ | refine E_seq ?_ | refine S_block ?_ | refine E_block_normal ?_ | refine S_skip ?_ | refine S_exit ?_ | refine S_ret ?_ | refine E_then_exit ?_ | refine E_then_ret ?_ | refine E_block_ret ?_ | refine E_block_exit ?_ | refine E_block_exit_other rfl ?_)
      refine S_region ?_
      refine R_cons rfl (op_pure (p_bin rfl rfl (b_add hadd2)) rfl ?_)
      refine R_cons rfl (op_pure (p_move rfl) rfl ?_)
      refine R_nil ?_
      repeat (first | refine S_scope ?_ | refine S_label ?_ | refine E_noGoto_normal ?_ | refine E_noGoto_ret ?_ | refine E_noGoto_exit ?_ | refine S_yes rfl (by first | with_reducible rfl | decide) ?_ | refine S_no rfl (by first | with_reducible rfl | decide) ?_ | refine S_seq ?_ | refine E_seq ?_ | refine S_block ?_ | refine E_block_normal ?_ | refine S_skip ?_ | refine S_exit ?_ | refine S_ret ?_ | refine E_then_exit ?_ | refine E_then_ret ?_ | refine E_block_ret ?_ | refine E_block_exit ?_ | refine E_block_exit_other rfl ?_)
      rw [List.append_assoc, htk] at hr2
      exact E_round (s := (i, cs1)) (i + 1, cs2) ⟨by show i + 1 ≤ 2; omega, hr2⟩ (by show 2 - (i + 1) < 2 - i; omega) (by repeat (first | exact Sub.nil | refine Sub.cons rfl ?_)) (Fewer.refl _)
    · have g2 : decide ((i : Int) < 2) = false := decide_eq_false (by omega)
      obtain rfl : i = 2 := by omega
      rw [List.take_of_length_le (by omega), hsucc] at hr1
      repeat (first | refine S_scope ?_ | refine S_label ?_ | refine E_noGoto_normal ?_ | refine E_noGoto_ret ?_ | refine E_noGoto_exit ?_ | refine S_yes rfl (by first | with_reducible rfl | decide) ?_ | refine S_no rfl (by first | with_reducible rfl | decide) ?_ | refine S_seq ?_ | refine E_seq ?_ | refine S_block ?_ | refine E_block_normal ?_ | refine S_skip ?_ | refine S_exit ?_ | refine S_ret ?_ | refine E_then_exit ?_ | refine E_then_ret ?_ | refine E_block_ret ?_ | refine E_block_exit ?_ | refine E_block_exit_other rfl ?_)
      refine S_region ?_
      refine R_cons rfl (op_pure (p_bin rfl rfl (b_lss g2)) rfl ?_)
      refine R_nil ?_
      repeat (first | refine S_scope ?_ | refine S_label ?_ | refine E_noGoto_normal ?_ | refine E_noGoto_ret ?_ | refine E_noGoto_exit ?_ | refine S_yes rfl (by first | with_reducible rfl | decide) ?_ | refine S_no rfl (by first | with_reducible rfl | decide) ?_ | refine S_seq ?_ | refine E_seq ?_ | refine S_block ?_ | refine E_block_normal ?_ | refine S_skip ?_ | refine S_exit ?_ | refine S_ret ?_ | refine E_then_exit ?_ | refine E_then_ret ?_ | refine E_block_ret ?_ | refine E_block_exit ?_ | refine E_block_exit_other rfl ?_)
      refine S_region ?_
      refine R_cons rfl (op_pure (p_bin rfl rfl (b_add hadd)) rfl ?_)
      refine R_cons rfl (op_pure (p_move rfl) rfl ?_)
      refine R_nil ?_
      repeat (first | refine S_scope ?_ | refine S_label ?_ | refine E_noGoto_normal ?_ | refine E_noGoto_ret ?_ | refine E_noGoto_exit ?_ | refine S_yes rfl (by first | with_reducible rfl | decide) ?_ | refine S_no rfl (by first | with_reducible rfl | decide) ?_ | refine S_seq ?_ | refine E_seq ?_ | refine S_block ?_ | refine E_block_normal ?_ | refine S_skip ?_ | refine S_exit ?_ | refine S_ret ?_ | refine E_then_exit ?_ | refine E_then_ret ?_ | refine E_block_ret ?_ | refine E_block_exit ?_ | refine E_block_exit_other rfl ?_)
      exact E_round (s := (n, cs)) (n + 1, cs1) ⟨hh.1, hr1⟩ (by have := hh.1; show 64 - (n + 1) < 64 - n; omega) (by repeat (first | exact Sub.nil | refine Sub.cons rfl ?_)) (.drop (Fewer.refl _))
  · have g1 : decide ((n : Int) < 64) = false := decide_eq_false (by omega)
    obtain rfl : n = 64 := by omega
    have hl64 := hcl 64 hn
    have hsl := sha_length (catN pr 64)
    repeat (first | refine S_scope ?_ | refine S_label ?_ | refine E_noGoto_normal ?_ | refine E_noGoto_ret ?_ | refine E_noGoto_exit ?_ | refine S_yes rfl (by first | with_reducible rfl | decide) ?_ | refine S_no rfl (by first | with_reducible rfl | decide) ?_ | refine S_seq ?_ | refine E_seq ?_ | refine S_block ?_ | refine E_block_normal ?_ | refine S_skip ?_ | refine S_exit ?_ | refine S_ret ?_ | refine E_then_exit ?_ | refine E_then_ret ?_ | refine E_block_ret ?_ | refine E_block_exit ?_ | refine E_block_exit_other rfl ?_)
    refine S_region ?_
    refine R_cons rfl (op_pure (p_bin rfl rfl (b_lss g1)) rfl ?_)
    refine R_nil ?_
    repeat (first | refine S_scope ?_ | refine S_label ?_ | refine E_noGoto_normal ?_ | refine E_noGoto_ret ?_ | refine E_noGoto_exit ?_ | refine S_yes rfl (by first | with_reducible rfl | decide) ?_ | refine S_no rfl (by first | with_reducible rfl | decide) ?_ | refine S_seq ?_ | refine E_seq ?_ | refine S_block ?_ | refine E_block_normal ?_ | refine S_skip ?_ | refine S_exit ?_ | refine S_ret ?_ | refine E_then_exit ?_ | refine E_then_ret ?_ | refine E_block_ret ?_ | refine E_block_exit ?_ | refine E_block_exit_other rfl ?_)
    refine S_region ?_
    refine R_cons rfl (op_pure (p_move rfl) rfl ?_)
    refine R_cons rfl (op_callV rfl rfl Try.func74 rfl (by kernel_rfl) rfl (Nat.le_refl _) (fun w' hm => sum_any g _ cs hr (by omega) w' (hm.own (g, _) (by repeat (first | exact List.Mem.head _ | apply List.Mem.tail))).2) ?_)
    refine R_cons rfl (op_storeRow rfl rfl (bytesV_one _) row_Sum (by rw [bytesV_length, hsl]) (by repeat (first | exact At.here | apply At.there)) (by rw [bytesV_length, bytesV_length, hsl]; exact Nat.le_refl 32) ?_)
    refine R_nil ?_
    repeat (first | refine S_scope ?_ | refine S_label ?_ | refine E_noGoto_normal ?_ | refine E_noGoto_ret ?_ | refine E_noGoto_exit ?_ | refine S_yes rfl (by first | with_reducible rfl | decide) ?_ | refine S_no rfl (by first | with_reducible rfl | decide) ?_ | refine S_seq ?_ | refine E_seq ?_ | refine S_block ?_ | refine E_block_normal ?_ | refine S_skip ?_ | refine S_exit ?_ | refine S_ret ?_ | refine E_then_exit ?_ | refine E_then_ret ?_ | refine E_block_ret ?_ | refine E_block_exit ?_ | refine E_block_exit_other rfl ?_)
    refine E_fewer (Sub.refl _) (H' := [(b2, .cells (bytesV (sha (catN pr 64))).toArray 23 (0, 0))]) ?_ (E_retRow rfl rfl (by repeat (first | exact List.Mem.head _ | apply List.Mem.tail)) row_Sum (by rw [bytesV_length, hsl]) fun w' hm => ⟨rfl, hm.below⟩)
    exact .drop (.keep (by rw [lay_whole (by rw [bytesV_length, bytesV_length, hsl]; rfl)]) .nil)
end Go.Proofs.Ytfdlafjifjndeaa
