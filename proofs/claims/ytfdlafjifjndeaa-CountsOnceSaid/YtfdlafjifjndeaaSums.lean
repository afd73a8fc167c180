/-
  The layer sums: its functions, each by one walk.
-/
import Derived.Test.YtfdlafjifjndeaaTy
import Derived.Test.YtfdlafjifjndeaaK4
namespace Go.Proofs.Ytfdlafjifjndeaa
open Go.RowKit Go.K attribute [local irreducible] Exit.then Exit.inBlock Exit.noGoto bodyPost Code.wp QL Sx Rx Qx Ex Dx Op1 Pure1 Still1 K.Sub Calm Code.wpIn
attribute [local irreducible] SIx RIx

/-- the value of a pair of numbers -/
def bothV (x y : Nat) : List Value := [.int .u64 (x : Int), .int .u64 (y : Int)]

theorem left_any (x y : Nat) (w : World) : Calls Try.prog 101 [.agg (bothV x y).toArray].toArray w fun e w' => e = .returned (.agg (bothV (x % 65521) (y % 65521)).toArray) ∧ Below w.heap.size w w' := by
  refine enter Try.func101 rfl Try.ntmps101 (by simp) ?_
  repeat (first | refine S_scope ?_ | refine S_label ?_ | refine E_noGoto_normal ?_ | refine E_noGoto_ret ?_ | refine E_noGoto_exit ?_ | refine S_yes rfl (by first | with_reducible rfl | decide) ?_ | refine S_no rfl (by first | with_reducible rfl | decide) ?_ | refine S_seq ?_ | refine E_seq ?_ | refine S_block ?_ | refine E_block_normal ?_ | refine S_skip ?_ | refine S_exit ?_ | refine S_ret ?_ | refine E_then_exit ?_ | refine E_then_ret ?_ | refine E_block_ret ?_ | refine E_block_exit ?_ | refine E_block_exit_other rfl ?_)
  refine S_region ?_
  refine R_cons rfl (op_boxRow rfl rfl (Nat.le_refl _) (fun b1 => ?_))
  refine R_cons rfl (op_allocRow zero_both rfl (Nat.le_refl _) (fun b2 => ?_))
  refine R_nil ?_
  repeat (first | refine S_scope ?_ | refine S_label ?_ | refine E_noGoto_normal ?_ | refine E_noGoto_ret ?_ | refine E_noGoto_exit ?_ | refine S_yes rfl (by first | with_reducible rfl | decide) ?_ | refine S_no rfl (by first | with_reducible rfl | decide) ?_ | refine S_seq ?_ | refine E_seq ?_ | refine S_block ?_ | refine E_block_normal ?_ | refine S_skip ?_ | refine S_exit ?_ | refine S_ret ?_ | refine E_then_exit ?_ | refine E_then_ret ?_ | refine E_block_ret ?_ | refine E_block_exit ?_ | refine E_block_exit_other rfl ?_)
  refine S_region ?_
  refine R_cons rfl (op_pure (by first | exact p_indexArr0 (j := 0) rfl rfl rfl arr_both (by decide) | exact p_indexArr (j := 0) rfl rfl rfl arr_both (by decide)) rfl ?_)
  refine R_cons rfl (op_pure (by first | exact p_load rfl sc_u64 (by repeat (first | exact List.Mem.head _ | apply List.Mem.tail)) (by first | assumption | exact bytesV_get (by omega) | exact wordsV_get (by omega) | rfl) | exact p_load_base rfl sc_u64 (by assumption) (by simp) (by assumption)) rfl ?_)
  refine R_cons rfl (op_pure (by first | exact p_bin rfl rfl (b_rem (by decide) (by assumption)) | exact p_bin rfl rfl (b_rem (by decide) (nat_rem _ 65521)) | exact p_bin rfl rfl (b_rem (by decide) (int_rem (by omega)))) rfl ?_)
  refine R_cons rfl (op_pure (by first | exact p_indexArr0 (j := 1) rfl rfl rfl arr_both (by decide) | exact p_indexArr (j := 1) rfl rfl rfl arr_both (by decide)) rfl ?_)
  refine R_cons rfl (op_pure (by first | exact p_load rfl sc_u64 (by repeat (first | exact List.Mem.head _ | apply List.Mem.tail)) (by first | assumption | exact bytesV_get (by omega) | exact wordsV_get (by omega) | rfl) | exact p_load_base rfl sc_u64 (by assumption) (by simp) (by assumption)) rfl ?_)
  refine R_cons rfl (op_pure (by first | exact p_bin rfl rfl (b_rem (by decide) (by assumption)) | exact p_bin rfl rfl (b_rem (by decide) (nat_rem _ 65521)) | exact p_bin rfl rfl (b_rem (by decide) (int_rem (by omega)))) rfl ?_)
  refine R_cons rfl (op_pure (p_buildAll (ps := [(0, .tmp 5), (1, .tmp 8)]) rfl (by kernel_rfl)) rfl ?_)
  refine R_cons rfl (op_storeRow rfl rfl (by first | exact bytesV_one _ | exact wordsV_one _ | (repeat (first | exact ones_nil | refine ones_cons rfl ?_))) row_both (by first | assumption | rfl | (simp only [bytesV_length, wordsV_length]; omega) | (rw [bytesV_length]; exact Sha.sha_length _)) (by repeat (first | exact At.here | apply At.there)) (by first | exact Nat.le_of_ble_eq_true rfl | omega | (simp only [bytesV_length, wordsV_length, List.length_cons, List.length_nil, List.length_replicate]; omega) | (simp only [bytesV_length, Sha.sha_length, List.length_replicate] <;> omega)) ?_)
  refine R_nil ?_
  repeat (first | refine S_scope ?_ | refine S_label ?_ | refine E_noGoto_normal ?_ | refine E_noGoto_ret ?_ | refine E_noGoto_exit ?_ | refine S_yes rfl (by first | with_reducible rfl | decide) ?_ | refine S_no rfl (by first | with_reducible rfl | decide) ?_ | refine S_seq ?_ | refine E_seq ?_ | refine S_block ?_ | refine E_block_normal ?_ | refine S_skip ?_ | refine S_exit ?_ | refine S_ret ?_ | refine E_then_exit ?_ | refine E_then_ret ?_ | refine E_block_ret ?_ | refine E_block_exit ?_ | refine E_block_exit_other rfl ?_)
  exact E_retRow rfl rfl (by repeat (first | exact List.Mem.head _ | apply List.Mem.tail)) row_both rfl fun w' hm => ⟨rfl, hm.below⟩

/-- the exact sums behind bytes -/
def exact (x y : Nat) : List UInt8 → Nat × Nat
  | [] => (x, y)
  | b :: r => exact (x + b.toNat) (y + (x + b.toNat)) r
theorem exact_snoc (l : List UInt8) (b : UInt8) : ∀ x y, exact x y (l ++ [b]) = ((exact x y l).1 + b.toNat, (exact x y l).2 + ((exact x y l).1 + b.toNat)) := by
  induction l with
  | nil => intro x y; rfl
  | cons c l ih => intro x y; simp only [List.cons_append, exact, ih]
theorem exact_le (l : List UInt8) : ∀ x y, (exact x y l).1 ≤ x + 255 * l.length ∧ (exact x y l).2 ≤ y + l.length * (x + 255 * l.length) := by
  induction l with
  | nil => intro x y; simp [exact]
  | cons c l ih =>
    intro x y
    have := ih (x + c.toNat) (y + (x + c.toNat))
    have hc := b_lt c
    simp only [exact, List.length_cons]
    refine ⟨by omega, Nat.le_trans this.2 ?_⟩
    have h1 : l.length * (x + c.toNat + 255 * l.length) ≤ l.length * (x + 255 * (l.length + 1)) := Nat.mul_le_mul_left _ (by omega)
    have h2 : (l.length + 1) * (x + 255 * (l.length + 1)) = l.length * (x + 255 * (l.length + 1)) + (x + 255 * (l.length + 1)) := Nat.succ_mul _ _
    omega
theorem take_snoc (xs : List UInt8) (k : Nat) (hk : k < xs.length) : xs.take (k + 1) = xs.take k ++ [xs.getD k 0] := by
  rw [List.take_succ_eq_append_getElem hk]
  simp [hk]

theorem takes_any (x y : Nat) (A : Option Addr) (c : Nat) (xs : List UInt8) (w : World) (hrd : Reads w A xs.length (bytesV xs)) (hn : xs.length ≤ 1024) (hx : x ≤ 65520) (hy : y ≤ 65520) :
    Calls Try.prog 103 [.agg (bothV x y).toArray, .slice A xs.length c].toArray w fun e w' => e = .returned (.agg (bothV ((exact x y xs).1 % 65521) ((exact x y xs).2 % 65521)).toArray) ∧ Below w.heap.size w w' := by
  refine enter Try.func103 rfl Try.ntmps103 (by simp) ?_
  repeat (first | refine S_scope ?_ | refine S_label ?_ | refine E_noGoto_normal ?_ | refine E_noGoto_ret ?_ | refine E_noGoto_exit ?_ | refine S_yes rfl (by first | with_reducible rfl | decide) ?_ | refine S_no rfl (by first | with_reducible rfl | decide) ?_ | refine S_seq ?_ | refine E_seq ?_ | refine S_block ?_ | refine E_block_normal ?_ | refine S_skip ?_ | refine S_exit ?_ | refine S_ret ?_ | refine E_then_exit ?_ | refine E_then_ret ?_ | refine E_block_ret ?_ | refine E_block_exit ?_ | refine E_block_exit_other rfl ?_)
  refine S_region ?_
  refine R_cons rfl (op_boxRow rfl rfl (Nat.le_refl _) (fun b2 => ?_))
  refine R_cons rfl (op_allocRow zero_both rfl (Nat.le_refl _) (fun b4 => ?_))
  refine R_nil ?_
  repeat (first | refine S_scope ?_ | refine S_label ?_ | refine E_noGoto_normal ?_ | refine E_noGoto_ret ?_ | refine E_noGoto_exit ?_ | refine S_yes rfl (by first | with_reducible rfl | decide) ?_ | refine S_no rfl (by first | with_reducible rfl | decide) ?_ | refine S_seq ?_ | refine E_seq ?_ | refine S_block ?_ | refine E_block_normal ?_ | refine S_skip ?_ | refine S_exit ?_ | refine S_ret ?_ | refine E_then_exit ?_ | refine E_then_ret ?_ | refine E_block_ret ?_ | refine E_block_exit ?_ | refine E_block_exit_other rfl ?_)
  refine S_region ?_
  refine R_cons rfl (op_pure (p_move rfl) rfl ?_)
  refine R_cons rfl (op_pure (p_len rfl slc_u8s) rfl ?_)
  refine R_cons rfl (op_pure (p_move rfl) rfl ?_)
  refine R_nil ?_
  repeat (first | refine S_scope ?_ | refine S_label ?_ | refine E_noGoto_normal ?_ | refine E_noGoto_ret ?_ | refine E_noGoto_exit ?_ | refine S_yes rfl (by first | with_reducible rfl | decide) ?_ | refine S_no rfl (by first | with_reducible rfl | decide) ?_ | refine S_seq ?_ | refine E_seq ?_ | refine S_block ?_ | refine E_block_normal ?_ | refine S_skip ?_ | refine S_exit ?_ | refine S_ret ?_ | refine E_then_exit ?_ | refine E_then_ret ?_ | refine E_block_ret ?_ | refine E_block_exit ?_ | refine E_block_exit_other rfl ?_)
  refine S_loop (fun k : Nat => [(9, .int .i64 (k : Int)), (8, .int .i64 (xs.length : Int)), (7, .slice A xs.length c), (4, .pointer (some ⟨b4, 0, none⟩)), (2, .pointer (some ⟨b2, 0, none⟩))])
    (fun k => [(b4, .cells [.int .u64 0, .int .u64 0].toArray 165 (0, 0)), (b2, .cells (bothV (exact x y (xs.take k)).1 (exact x y (xs.take k)).2).toArray 165 (0, 0))])
    (fun k => k ≤ xs.length) (fun k => xs.length - k) 0 (by omega) (by repeat (first | exact Sub.nil | refine Sub.cons rfl ?_)) (Fewer.refl _) ?_
  intro k hk
  have hle := exact_le (xs.take k) x y
  rw [List.length_take, Nat.min_eq_left hk] at hle
  have hm1 : k * (x + 255 * k) ≤ 1024 * (65520 + 255 * 1024) := Nat.mul_le_mul (by omega) (by omega)
  repeat (first | refine S_scope ?_ | refine S_label ?_ | refine E_noGoto_normal ?_ | refine E_noGoto_ret ?_ | refine E_noGoto_exit ?_ | refine S_yes rfl (by first | with_reducible rfl | decide) ?_ | refine S_no rfl (by first | with_reducible rfl | decide) ?_ | refine S_seq ?_ | refine E_seq ?_ | refine S_block ?_ | refine E_block_normal ?_ | refine S_skip ?_ | refine S_exit ?_ | refine S_ret ?_ | refine E_then_exit ?_ | refine E_then_ret ?_ | refine E_block_ret ?_ | refine E_block_exit ?_ | refine E_block_exit_other rfl ?_)
  refine S_region ?_
  refine R_cons rfl (op_pure (p_bin rfl rfl (b_lss (by first | assumption | exact decide_eq_true (by omega) | exact decide_eq_false (by omega) | rfl))) rfl ?_)
  refine R_nil ?_
  repeat (first | refine S_scope ?_ | refine S_label ?_ | refine E_noGoto_normal ?_ | refine E_noGoto_ret ?_ | refine E_noGoto_exit ?_ | refine S_yes rfl (by first | with_reducible rfl | decide) ?_ | refine S_no rfl (by first | with_reducible rfl | decide) ?_ | refine S_seq ?_ | refine E_seq ?_ | refine S_block ?_ | refine E_block_normal ?_ | refine S_skip ?_ | refine S_exit ?_ | refine S_ret ?_ | refine E_then_exit ?_ | refine E_then_ret ?_ | refine E_block_ret ?_ | refine E_block_exit ?_ | refine E_block_exit_other rfl ?_)
  refine S_cond rfl (fun hlt => ?_) (fun hge => ?_)
  · have hlt' : k < xs.length := by simpa using hlt
    obtain ⟨b, off, rfl, hb, hcell⟩ := hrd.2 (by omega)
    have hc := hcell k _ (bytesV_get hlt')
    have h8 := b_lt (xs.getD k 0)
    have hts := exact_snoc (xs.take k) (xs.getD k 0) x y
    rw [← take_snoc xs k hlt'] at hts
    generalize he : exact x y (xs.take k) = ex at *
    repeat (first | refine S_scope ?_ | refine S_label ?_ | refine E_noGoto_normal ?_ | refine E_noGoto_ret ?_ | refine E_noGoto_exit ?_ | refine S_yes rfl (by first | with_reducible rfl | decide) ?_ | refine S_no rfl (by first | with_reducible rfl | decide) ?_ | refine S_seq ?_ | refine E_seq ?_ | refine S_block ?_ | refine E_block_normal ?_ | refine S_skip ?_ | refine S_exit ?_ | refine S_ret ?_ | refine E_then_exit ?_ | refine E_then_ret ?_ | refine E_block_ret ?_ | refine E_block_exit ?_ | refine E_block_exit_other rfl ?_)
    refine S_region ?_
    refine R_cons rfl (op_pure (by exact p_indexSl rfl rfl (by repeat (first | assumption | exact lit0 | exact lit1 | apply IntWalk.up_add | apply IntWalk.up_div | apply IntWalk.up_mod | apply IntWalk.up_mul | rfl)) slc_u8s (by omega)) rfl ?_)
    refine R_cons rfl (op_pure (by first | exact p_load rfl sc_u8 (by repeat (first | exact List.Mem.head _ | apply List.Mem.tail)) (by first | assumption | exact bytesV_get (by omega) | exact wordsV_get (by omega) | rfl) | exact p_load_base rfl sc_u8 (by assumption) (by simp) (by assumption)) rfl ?_)
    refine R_cons rfl (op_pure (p_assign rfl) rfl ?_)
    refine R_nil ?_
    repeat (first | refine S_scope ?_ | refine S_label ?_ | refine E_noGoto_normal ?_ | refine E_noGoto_ret ?_ | refine E_noGoto_exit ?_ | refine S_yes rfl (by first | with_reducible rfl | decide) ?_ | refine S_no rfl (by first | with_reducible rfl | decide) ?_ | refine S_seq ?_ | refine E_seq ?_ | refine S_block ?_ | refine E_block_normal ?_ | refine S_skip ?_ | refine S_exit ?_ | refine S_ret ?_ | refine E_then_exit ?_ | refine E_then_ret ?_ | refine E_block_ret ?_ | refine E_block_exit ?_ | refine E_block_exit_other rfl ?_)
    refine S_region ?_
    refine R_cons rfl (op_pure (by first | exact p_indexArr0 (j := 0) rfl rfl rfl arr_both (by decide) | exact p_indexArr (j := 0) rfl rfl rfl arr_both (by decide)) rfl ?_)
    refine R_cons rfl (op_pure (by first | exact p_load rfl sc_u64 (by repeat (first | exact List.Mem.head _ | apply List.Mem.tail)) (by first | assumption | exact bytesV_get (by omega) | exact wordsV_get (by omega) | rfl) | exact p_load_base rfl sc_u64 (by assumption) (by simp) (by assumption)) rfl ?_)
    refine R_cons rfl (op_pure (p_move rfl) rfl ?_)
    refine R_cons rfl (op_pure (by exact p_convert rfl sc_u8 ik_u64 (by first | assumption | exact u8_nat _ | exact w8_i64 _ | exact w8_u64 _ | exact w8_u32n _ | exact w32_u64 _ | exact w32_i64 _ | exact w_in_i64 (by omega) | exact w_in_u64 (by omega) | exact w_in_u32 (by omega))) rfl ?_)
    refine R_cons rfl (op_pure (by first | exact p_bin rfl rfl (b_add (nat_add_u64 (by omega))) | exact p_bin rfl rfl (b_add (w_in_u64 (by omega)))) rfl ?_)
    refine R_cons rfl (op_pure (by first | exact p_indexArr0 (j := 0) rfl rfl rfl arr_both (by decide) | exact p_indexArr (j := 0) rfl rfl rfl arr_both (by decide)) rfl ?_)
    refine R_cons rfl (op_store rfl rfl rfl sc_u64 (by repeat (first | exact At.here | apply At.there)) (by first | exact Nat.le_of_ble_eq_true rfl | omega | (simp only [bytesV_length, wordsV_length]; omega) | (simp only [bytesV_length, wordsV_length, List.length_cons, List.length_nil, List.length_set, List.length_append]; omega) | decide) ?_)
    refine R_nil ?_
    repeat (first | refine S_scope ?_ | refine S_label ?_ | refine E_noGoto_normal ?_ | refine E_noGoto_ret ?_ | refine E_noGoto_exit ?_ | refine S_yes rfl (by first | with_reducible rfl | decide) ?_ | refine S_no rfl (by first | with_reducible rfl | decide) ?_ | refine S_seq ?_ | refine E_seq ?_ | refine S_block ?_ | refine E_block_normal ?_ | refine S_skip ?_ | refine S_exit ?_ | refine S_ret ?_ | refine E_then_exit ?_ | refine E_then_ret ?_ | refine E_block_ret ?_ | refine E_block_exit ?_ | refine E_block_exit_other rfl ?_)
    refine S_region ?_
    refine R_cons rfl (op_pure (by first | exact p_indexArr0 (j := 1) rfl rfl rfl arr_both (by decide) | exact p_indexArr (j := 1) rfl rfl rfl arr_both (by decide)) rfl ?_)
    refine R_cons rfl (op_pure (by first | exact p_load rfl sc_u64 (by repeat (first | exact List.Mem.head _ | apply List.Mem.tail)) (by first | assumption | exact bytesV_get (by omega) | exact wordsV_get (by omega) | rfl) | exact p_load_base rfl sc_u64 (by assumption) (by simp) (by assumption)) rfl ?_)
    refine R_cons rfl (op_pure (by first | exact p_indexArr0 (j := 0) rfl rfl rfl arr_both (by decide) | exact p_indexArr (j := 0) rfl rfl rfl arr_both (by decide)) rfl ?_)
    refine R_cons rfl (op_pure (by first | exact p_load rfl sc_u64 (by repeat (first | exact List.Mem.head _ | apply List.Mem.tail)) (by first | assumption | exact bytesV_get (by omega) | exact wordsV_get (by omega) | rfl) | exact p_load_base rfl sc_u64 (by assumption) (by simp) (by assumption)) rfl ?_)
    refine R_cons rfl (op_pure (by first | exact p_bin rfl rfl (b_add (nat_add_u64 (by omega))) | exact p_bin rfl rfl (b_add (w_in_u64 (by omega)))) rfl ?_)
    refine R_cons rfl (op_pure (by first | exact p_indexArr0 (j := 1) rfl rfl rfl arr_both (by decide) | exact p_indexArr (j := 1) rfl rfl rfl arr_both (by decide)) rfl ?_)
    refine R_cons rfl (op_store rfl rfl rfl sc_u64 (by repeat (first | exact At.here | apply At.there)) (by first | exact Nat.le_of_ble_eq_true rfl | omega | (simp only [bytesV_length, wordsV_length]; omega) | (simp only [bytesV_length, wordsV_length, List.length_cons, List.length_nil, List.length_set, List.length_append]; omega) | decide) ?_)
    refine R_nil ?_
    repeat (first | refine S_scope ?_ | refine S_label ?_ | refine E_noGoto_normal ?_ | refine E_noGoto_ret ?_ | refine E_noGoto_exit ?_ | refine S_yes rfl (by first | with_reducible rfl | decide) ?_ | refine S_no rfl (by first | with_reducible rfl | decide) ?_ | refine S_seq ?_ | refine E_seq ?_ | refine S_block ?_ | refine E_block_normal ?_ | refine S_skip ?_ | refine S_exit ?_ | refine S_ret ?_ | refine E_then_exit ?_ | refine E_then_ret ?_ | refine E_block_ret ?_ | refine E_block_exit ?_ | refine E_block_exit_other rfl ?_)
    refine S_region ?_
    refine R_cons rfl (op_pure (by exact p_bin rfl rfl (b_add (w_in_i64 (by omega)))) rfl ?_)
    refine R_cons rfl (op_pure (p_move rfl) rfl ?_)
    refine R_nil ?_
    repeat (first | refine S_scope ?_ | refine S_label ?_ | refine E_noGoto_normal ?_ | refine E_noGoto_ret ?_ | refine E_noGoto_exit ?_ | refine S_yes rfl (by first | with_reducible rfl | decide) ?_ | refine S_no rfl (by first | with_reducible rfl | decide) ?_ | refine S_seq ?_ | refine E_seq ?_ | refine S_block ?_ | refine E_block_normal ?_ | refine S_skip ?_ | refine S_exit ?_ | refine S_ret ?_ | refine E_then_exit ?_ | refine E_then_ret ?_ | refine E_block_ret ?_ | refine E_block_exit ?_ | refine E_block_exit_other rfl ?_)
    refine E_round (k + 1) (by omega) (by omega) (by repeat (first | exact Sub.nil | refine Sub.cons rfl ?_)) (.keep rfl (.keep (by rw [hts]; rfl) .nil))
  · have hge' : xs.length ≤ k := by simpa using hge
    rw [List.take_of_length_le hge']
    generalize exact x y xs = ex at *
    repeat (first | refine S_scope ?_ | refine S_label ?_ | refine E_noGoto_normal ?_ | refine E_noGoto_ret ?_ | refine E_noGoto_exit ?_ | refine S_yes rfl (by first | with_reducible rfl | decide) ?_ | refine S_no rfl (by first | with_reducible rfl | decide) ?_ | refine S_seq ?_ | refine E_seq ?_ | refine S_block ?_ | refine E_block_normal ?_ | refine S_skip ?_ | refine S_exit ?_ | refine S_ret ?_ | refine E_then_exit ?_ | refine E_then_ret ?_ | refine E_block_ret ?_ | refine E_block_exit ?_ | refine E_block_exit_other rfl ?_)
    refine S_region ?_
    refine R_cons rfl (op_pure (by first | exact p_loadRow rfl row_both (by repeat (first | exact List.Mem.head _ | apply List.Mem.tail)) (by first | assumption | rfl | (simp only [bytesV_length, wordsV_length]; omega)) | exact p_loadPart rfl row_both (by repeat (first | exact List.Mem.head _ | apply List.Mem.tail)) (by first | exact Nat.le_of_ble_eq_true rfl | omega | (simp only [bytesV_length, wordsV_length, List.length_cons, List.length_nil, List.length_replicate]; omega) | (simp only [bytesV_length, Sha.sha_length, List.length_replicate] <;> omega)) (by first | assumption | rfl)) rfl ?_)
    refine R_cons rfl (op_callV rfl rfl Try.func101 rfl (by kernel_rfl) rfl (Nat.le_refl _) (fun w' _ => left_any _ _ w') ?_)
    refine R_cons rfl (op_storeRow rfl rfl (by first | exact bytesV_one _ | exact wordsV_one _ | (repeat (first | exact ones_nil | refine ones_cons rfl ?_))) row_both (by first | assumption | rfl | (simp only [bytesV_length, wordsV_length]; omega) | (rw [bytesV_length]; exact Sha.sha_length _)) (by repeat (first | exact At.here | apply At.there)) (by first | exact Nat.le_of_ble_eq_true rfl | omega | (simp only [bytesV_length, wordsV_length, List.length_cons, List.length_nil, List.length_replicate]; omega) | (simp only [bytesV_length, Sha.sha_length, List.length_replicate] <;> omega)) ?_)
    refine R_nil ?_
    repeat (first | refine S_scope ?_ | refine S_label ?_ | refine E_noGoto_normal ?_ | refine E_noGoto_ret ?_ | refine E_noGoto_exit ?_ | refine S_yes rfl (by first | with_reducible rfl | decide) ?_ | refine S_no rfl (by first | with_reducible rfl | decide) ?_ | refine S_seq ?_ | refine E_seq ?_ | refine S_block ?_ | refine E_block_normal ?_ | refine S_skip ?_ | refine S_exit ?_ | refine S_ret ?_ | refine E_then_exit ?_ | refine E_then_ret ?_ | refine E_block_ret ?_ | refine E_block_exit ?_ | refine E_block_exit_other rfl ?_)
    exact E_retRow rfl rfl (by repeat (first | exact List.Mem.head _ | apply List.Mem.tail)) row_both rfl fun w' hm => ⟨rfl, hm.below⟩

theorem pieces_any (A : Option Addr) (n c : Nat) (w : World) : Calls Try.prog 102 [.slice A n c].toArray w fun e w' => ∃ bx, e = .returned (.func (.func 104) #[] [.pointer (some ⟨bx, 0, none⟩)].toArray) ∧ w.heap.size ≤ bx ∧ w'.heap[bx]? = some (.cells [.slice A n c].toArray 40 (0, 0)) ∧ Below w.heap.size w w' := by
  refine enter Try.func102 rfl Try.ntmps102 (by simp) ?_
  repeat (first | refine S_scope ?_ | refine S_label ?_ | refine E_noGoto_normal ?_ | refine E_noGoto_ret ?_ | refine E_noGoto_exit ?_ | refine S_yes rfl (by first | with_reducible rfl | decide) ?_ | refine S_no rfl (by first | with_reducible rfl | decide) ?_ | refine S_seq ?_ | refine E_seq ?_ | refine S_block ?_ | refine E_block_normal ?_ | refine S_skip ?_ | refine S_exit ?_ | refine S_ret ?_ | refine E_then_exit ?_ | refine E_then_ret ?_ | refine E_block_ret ?_ | refine E_block_exit ?_ | refine E_block_exit_other rfl ?_)
  refine S_region ?_
  refine R_cons rfl (op_box rfl rfl (Nat.le_refl _) (fun b1 => ?_))
  refine R_cons rfl (op_pure (p_assign rfl) rfl ?_)
  refine R_nil ?_
  repeat (first | refine S_scope ?_ | refine S_label ?_ | refine E_noGoto_normal ?_ | refine E_noGoto_ret ?_ | refine E_noGoto_exit ?_ | refine S_yes rfl (by first | with_reducible rfl | decide) ?_ | refine S_no rfl (by first | with_reducible rfl | decide) ?_ | refine S_seq ?_ | refine E_seq ?_ | refine S_block ?_ | refine E_block_normal ?_ | refine S_skip ?_ | refine S_exit ?_ | refine S_ret ?_ | refine E_then_exit ?_ | refine E_then_ret ?_ | refine E_block_ret ?_ | refine E_block_exit ?_ | refine E_block_exit_other rfl ?_)
  refine S_region ?_
  refine R_cons rfl (op_pure (p_makeFunc (xs := []) (ys := [.tmp 1]) rfl rfl) rfl ?_)
  refine R_cons rfl (op_pure (p_assign rfl) rfl ?_)
  refine R_nil ?_
  repeat (first | refine S_scope ?_ | refine S_label ?_ | refine E_noGoto_normal ?_ | refine E_noGoto_ret ?_ | refine E_noGoto_exit ?_ | refine S_yes rfl (by first | with_reducible rfl | decide) ?_ | refine S_no rfl (by first | with_reducible rfl | decide) ?_ | refine S_seq ?_ | refine E_seq ?_ | refine S_block ?_ | refine E_block_normal ?_ | refine S_skip ?_ | refine S_exit ?_ | refine S_ret ?_ | refine E_then_exit ?_ | refine E_then_ret ?_ | refine E_block_ret ?_ | refine E_block_exit ?_ | refine E_block_exit_other rfl ?_)
  refine E_ret1 rfl rfl fun w' hm => ⟨b1, rfl, ?_, (hm.own _ (by repeat (first | exact List.Mem.head _ | apply List.Mem.tail))).2, hm.below⟩
  rcases (hm.own _ (List.Mem.head _)).1 with h | h
  · exact h
  · cases h

/-- a piece of a slice of bytes -/
structure Piece where
  A : Option Addr
  n : Nat
  c : Nat
  xs : List UInt8
def Piece.val (p : Piece) : List Value := [.slice p.A p.n p.c]
def cuts : Nat → Option Addr → Nat → Nat → List UInt8 → List Piece
  | 0, _, _, _, _ => []
  | f + 1, A, n, c, xs => if n = 0 then [] else ⟨A, min 1024 n, c, xs.take (min 1024 n)⟩ :: cuts f (cutA A c (min 1024 n)) (n - min 1024 n) (c - min 1024 n) (xs.drop (min 1024 n))
theorem cuts_more (f : Nat) : ∀ (g : Nat) (A : Option Addr) (n c : Nat) (xs : List UInt8), n ≤ f → n ≤ g → cuts f A n c xs = cuts g A n c xs := by
  induction f with
  | zero =>
    intro g A n c xs hf _
    cases g with
    | zero => rfl
    | succ g => simp [cuts, show n = 0 by omega]
  | succ f ih =>
    intro g A n c xs hf hg
    cases g with
    | zero => simp [cuts, show n = 0 by omega]
    | succ g =>
      simp only [cuts]
      by_cases h : n = 0
      · rw [if_pos h, if_pos h]
      · rw [if_neg h, if_neg h, ih g _ _ _ _ (by omega) (by omega)]
theorem cuts_step {n c : Nat} {A : Option Addr} {xs : List UInt8} (hn : n ≠ 0) : cuts n A n c xs = ⟨A, min 1024 n, c, xs.take (min 1024 n)⟩ :: cuts (n - min 1024 n) (cutA A c (min 1024 n)) (n - min 1024 n) (c - min 1024 n) (xs.drop (min 1024 n)) := by
  obtain ⟨m, rfl⟩ : ∃ m, n = m + 1 := ⟨n - 1, by omega⟩
  rw [cuts, if_neg hn, cuts_more m (m + 1 - min 1024 (m + 1)) _ _ _ _ (by omega) (by omega)]
structure CutState where
  pre : List Piece
  A : Option Addr
  n : Nat
  c : Nat
  xs : List UInt8

theorem pieces_iter (A' : Option Addr) (n' c' : Nat) (xs' : List UInt8) (bx B : Nat) (w0 : Base) (hl : xs'.length = n') (hnc : n' ≤ c') (hcm : c' ≤ maxLen) :
    Iter Try.prog 104 [.pointer (some ⟨bx, 0, none⟩)] Piece.val B w0 [(bx, .cells [.slice A' n' c'].toArray 40 (0, 0))] (cuts n' A' n' c' xs') := by
  intro l J W hmem hst hyield hJ0
  refine enter_in Try.func104 rfl Try.ntmps104 (by simp) (fun a hf => ?_)
  refine wpIn_block ?_
  refine SI_loopW (N := 19) (D := []) (fun _ : CutState => [(1, .pointer (some ⟨bx, 0, none⟩)), (0, .func (.yield l) #[] #[])]) (fun s => [(bx, .cells [.slice s.A s.n s.c].toArray 40 (0, 0))]) [bx]
    (fun s W => J s.pre W ∧ Mem B w0 [(bx, .cells [.slice s.A s.n s.c].toArray 40 (0, 0))] W ∧ s.pre ++ cuts s.n s.A s.n s.c s.xs = cuts n' A' n' c' xs' ∧ s.xs.length = s.n ∧ s.n ≤ s.c ∧ s.c ≤ maxLen)
    (fun s => s.n) ⟨[], A', n', c', xs'⟩ (hf.sub (by repeat (first | exact Sub.nil | refine Sub.cons rfl ?_))) ⟨hJ0, hmem, rfl, hl, hnc, hcm⟩ (fun s W h => by have := h.2.1.here; simpa using this) ?_
  rintro ⟨pre, A, n, c, xs⟩ W ⟨hJ, hmW, htot, hl, hnc, hcm⟩
  dsimp only at hJ hmW htot hl hnc hcm ⊢
  have hcm' := hcm
  unfold maxLen at hcm'
  have hbx := (hmW.own _ (List.Mem.head _)).1
  repeat (first | refine SI_yes rfl (by first | with_reducible rfl | decide) ?_ | refine SI_no rfl (by first | with_reducible rfl | decide) ?_ | refine SI_seq ?_ | refine EI_seq ?_ | refine SI_block ?_ | refine E_block_normal ?_ | refine SI_skip ?_ | refine SI_exit ?_ | refine SI_ret ?_ | refine E_then_exit ?_ | refine E_then_ret ?_ | refine E_block_ret ?_ | refine E_block_exit ?_ | refine E_block_exit_other rfl ?_)
  refine SI_region ?_
  refine RI_cons rfl (by intro c h; cases h) (op_pure (p_load rfl sc_u8s (by repeat (first | exact List.Mem.head _ | apply List.Mem.tail)) (by rfl)) rfl ?_)
  refine RI_cons rfl (by intro c h; cases h) (op_pure (p_len rfl slc_u8s) rfl ?_)
  refine RI_cons rfl (by intro c h; cases h) (op_pure (p_bin rfl rfl (b_gtr (by first | assumption | exact decide_eq_true (by omega) | exact decide_eq_false (by omega) | rfl))) rfl ?_)
  refine RI_nil ?_
  repeat (first | refine SI_yes rfl (by first | with_reducible rfl | decide) ?_ | refine SI_no rfl (by first | with_reducible rfl | decide) ?_ | refine SI_seq ?_ | refine EI_seq ?_ | refine SI_block ?_ | refine E_block_normal ?_ | refine SI_skip ?_ | refine SI_exit ?_ | refine SI_ret ?_ | refine E_then_exit ?_ | refine E_then_ret ?_ | refine E_block_ret ?_ | refine E_block_exit ?_ | refine E_block_exit_other rfl ?_)
  refine SI_cond rfl (fun h => ?_) (fun h => ?_)
  · have hn0 : n ≠ 0 := by simp at h; omega
    rw [cuts_step hn0] at htot
    obtain ⟨m, hm⟩ : ∃ m, min 1024 n = m := ⟨_, rfl⟩
    rw [hm] at htot
    have hmn : m ≤ n := by omega
    have hm1 : m ≠ 0 := by omega
    have hmin : (if (n : Int) < 1024 then (n : Int) else 1024) = (m : Int) := by omega
    clear hm
    repeat (first | refine SI_yes rfl (by first | with_reducible rfl | decide) ?_ | refine SI_no rfl (by first | with_reducible rfl | decide) ?_ | refine SI_seq ?_ | refine EI_seq ?_ | refine SI_block ?_ | refine E_block_normal ?_ | refine SI_skip ?_ | refine SI_exit ?_ | refine SI_ret ?_ | refine E_then_exit ?_ | refine E_then_ret ?_ | refine E_block_ret ?_ | refine E_block_exit ?_ | refine E_block_exit_other rfl ?_)
    refine SI_region ?_
    refine RI_cons rfl (by intro c h; cases h) (op_pure (p_load rfl sc_u8s (by repeat (first | exact List.Mem.head _ | apply List.Mem.tail)) (by rfl)) rfl ?_)
    refine RI_cons rfl (by intro c h; cases h) (op_pure (p_len rfl slc_u8s) rfl ?_)
    refine RI_cons rfl (by intro c h; cases h) (op_pure (p_min2 rfl rfl hmin) rfl ?_)
    refine RI_cons rfl (by intro c h; cases h) (op_pure (p_assign rfl) rfl ?_)
    refine RI_nil ?_
    repeat (first | refine SI_yes rfl (by first | with_reducible rfl | decide) ?_ | refine SI_no rfl (by first | with_reducible rfl | decide) ?_ | refine SI_seq ?_ | refine EI_seq ?_ | refine SI_block ?_ | refine E_block_normal ?_ | refine SI_skip ?_ | refine SI_exit ?_ | refine SI_ret ?_ | refine E_then_exit ?_ | refine E_then_ret ?_ | refine E_block_ret ?_ | refine E_block_exit ?_ | refine E_block_exit_other rfl ?_)
    refine SI_region ?_
    refine RI_cons rfl (by intro c h; cases h) (op_pure (p_move rfl) rfl ?_)
    refine RI_cons rfl (by intro c h; cases h) (op_pure (p_load rfl sc_u8s (by repeat (first | exact List.Mem.head _ | apply List.Mem.tail)) (by rfl)) rfl ?_)
    refine RI_cons rfl (by intro c h; cases h) (op_pure (p_move rfl) rfl ?_)
    refine RI_cons rfl (by intro c h; cases h) (op_pure (p_sliceTo (h := m) rfl rfl rfl slc_u8s (by omega)) rfl ?_)
    refine RI_yield rfl rfl rfl (fun w hm => ?_)
    have hmB := hmW.back (by intro k hk; simp only [List.mem_singleton] at hk; subst hk; exact hbx) hm
    have hpre : pre ++ [(⟨A, m, c, xs.take m⟩ : Piece)] <+: cuts n' A' n' c' xs' := ⟨_, by rw [← htot, List.append_assoc]; rfl⟩
    refine yield_mono (hyield pre ⟨A, m, c, xs.take m⟩ w [(bx, .cells [.slice A n c].toArray 40 (0, 0))] hpre (hst pre W w hJ (Steps1.of hm)) rfl hmB) ?_
    rintro e w' ⟨rfl, hJ', hm'⟩
    refine ⟨.bool true, w'.heap.size, ⟨w', [bx]⟩, _, rfl, (by have := hm'.here; simpa using this), ?_⟩
    refine RI_cons rfl (by intro c h; cases h) (op_pure (p_not rfl) rfl ?_)
    refine RI_nil ?_
    repeat (first | refine SI_yes rfl (by first | with_reducible rfl | decide) ?_ | refine SI_no rfl (by first | with_reducible rfl | decide) ?_ | refine SI_seq ?_ | refine EI_seq ?_ | refine SI_block ?_ | refine E_block_normal ?_ | refine SI_skip ?_ | refine SI_exit ?_ | refine SI_ret ?_ | refine E_then_exit ?_ | refine E_then_ret ?_ | refine E_block_ret ?_ | refine E_block_exit ?_ | refine E_block_exit_other rfl ?_)
    refine SI_region ?_
    refine RI_cons rfl (by intro c h; cases h) (op_pure (p_load rfl sc_u8s (by repeat (first | exact List.Mem.head _ | apply List.Mem.tail)) (by rfl)) rfl ?_)
    refine RI_cons rfl (by intro c h; cases h) (op_pure (p_move rfl) rfl ?_)
    refine RI_cons rfl (by intro c h; cases h) (op_pure (p_sliceFrom (l := m) rfl rfl rfl slc_u8s (by omega)) rfl ?_)
    refine RI_cons rfl (by intro c h; cases h) (op_store rfl rfl rfl sc_u8s (by repeat (first | exact At.here | apply At.there)) (by first | exact Nat.le_of_ble_eq_true rfl | omega | (simp only [bytesV_length, wordsV_length]; omega) | (simp only [bytesV_length, wordsV_length, List.length_cons, List.length_nil, List.length_set, List.length_append]; omega) | decide) ?_)
    refine RI_nil ?_
    repeat (first | refine SI_yes rfl (by first | with_reducible rfl | decide) ?_ | refine SI_no rfl (by first | with_reducible rfl | decide) ?_ | refine SI_seq ?_ | refine EI_seq ?_ | refine SI_block ?_ | refine E_block_normal ?_ | refine SI_skip ?_ | refine SI_exit ?_ | refine SI_ret ?_ | refine E_then_exit ?_ | refine E_then_ret ?_ | refine E_block_ret ?_ | refine E_block_exit ?_ | refine E_block_exit_other rfl ?_)
    refine EI_end fun a w2 hf hm2 => ?_
    have hmB2 := hm'.back (by intro k hk; simp only [List.mem_singleton] at hk; subst hk; exact hbx) hm2
    exact ⟨⟨pre ++ [⟨A, m, c, xs.take m⟩], cutA A c m, n - m, c - m, xs.drop m⟩, by simp only; omega, hf.sub (by repeat (first | exact Sub.nil | refine Sub.cons rfl ?_)), hst _ w' w2 hJ' (Steps1.of hm2), hmB2, by simp only; rw [← htot, List.append_assoc]; rfl, by simp [hl], by simp only; omega, by simp only; unfold maxLen; omega⟩
  · have hn0 : n = 0 := by simp at h; omega
    subst hn0
    repeat (first | refine SI_yes rfl (by first | with_reducible rfl | decide) ?_ | refine SI_no rfl (by first | with_reducible rfl | decide) ?_ | refine SI_seq ?_ | refine EI_seq ?_ | refine SI_block ?_ | refine E_block_normal ?_ | refine SI_skip ?_ | refine SI_exit ?_ | refine SI_ret ?_ | refine E_then_exit ?_ | refine E_then_ret ?_ | refine E_block_ret ?_ | refine E_block_exit ?_ | refine E_block_exit_other rfl ?_)
    refine E_end0 rfl fun w hm => ⟨⟨_, rfl⟩, ?_⟩
    have : pre = cuts n' A' n' c' xs' := by rw [← htot]; simp [cuts]
    rw [← this]
    exact hst pre W w hJ (Steps1.of hm)

theorem exact_append (l m : List UInt8) : ∀ x y, exact x y (l ++ m) = exact (exact x y l).1 (exact x y l).2 m := by
  induction l with
  | nil => intro x y; rfl
  | cons c l ih => intro x y; simp only [List.cons_append, exact, ih]
/-- both numbers behind bytes, divided -/
def adl (x y : Nat) (l : List UInt8) : Nat × Nat := ((exact x y l).1 % 65521, (exact x y l).2 % 65521)
theorem exact_mod (l : List UInt8) : ∀ x y, adl (x % 65521) (y % 65521) l = adl x y l := by
  induction l with
  | nil => intro x y; simp [adl, exact]
  | cons c l ih =>
    intro x y
    have h1 := ih (x % 65521 + c.toNat) (y % 65521 + (x % 65521 + c.toNat))
    have h2 := ih (x + c.toNat) (y + (x + c.toNat))
    simp only [adl, exact] at h1 h2 ⊢
    rw [← h1, ← h2]
    rw [show (x % 65521 + c.toNat) % 65521 = (x + c.toNat) % 65521 by omega, show (y % 65521 + (x % 65521 + c.toNat)) % 65521 = (y + (x + c.toNat)) % 65521 by omega]
theorem adl_append (x y : Nat) (l m : List UInt8) : adl x y (l ++ m) = adl (adl x y l).1 (adl x y l).2 m := by
  rw [show adl (adl x y l).1 (adl x y l).2 m = adl (exact x y l).1 (exact x y l).2 m from exact_mod m _ _]
  simp only [adl, exact_append]
theorem adl_lt (x y : Nat) (l : List UInt8) : (adl x y l).1 < 65521 ∧ (adl x y l).2 < 65521 := ⟨Nat.mod_lt _ (by omega), Nat.mod_lt _ (by omega)⟩
def runP (s : Nat × Nat) (ps : List Piece) : Nat × Nat := ps.foldl (fun s p => adl s.1 s.2 p.xs) s
theorem runP_snoc (s : Nat × Nat) (ps : List Piece) (p : Piece) : runP s (ps ++ [p]) = adl (runP s ps).1 (runP s ps).2 p.xs := by simp [runP]
theorem runP_cuts (f : Nat) : ∀ (A : Option Addr) (n c : Nat) (xs : List UInt8) (x y : Nat), n ≤ f → xs.length = n → x < 65521 → y < 65521 → runP (x, y) (cuts f A n c xs) = adl x y xs := by
  induction f with
  | zero =>
    intro A n c xs x y hn hl hx hy
    obtain rfl : xs = [] := List.eq_nil_of_length_eq_zero (by omega)
    simp [cuts, runP, adl, exact, Nat.mod_eq_of_lt hx, Nat.mod_eq_of_lt hy]
  | succ f ih =>
    intro A n c xs x y hn hl hx hy
    simp only [cuts]
    by_cases h : n = 0
    · obtain rfl : xs = [] := List.eq_nil_of_length_eq_zero (by omega)
      rw [if_pos h]
      simp [runP, adl, exact, Nat.mod_eq_of_lt hx, Nat.mod_eq_of_lt hy]
    · rw [if_neg h]
      have h1 := adl_lt x y (xs.take (min 1024 n))
      have h2 := ih (cutA A c (min 1024 n)) (n - min 1024 n) (c - min 1024 n) (xs.drop (min 1024 n)) (adl x y (xs.take (min 1024 n))).1 (adl x y (xs.take (min 1024 n))).2 (by omega) (by simp; omega) h1.1 h1.2
      rw [← adl_append, List.take_append_drop] at h2
      rw [← h2]
      rfl
theorem cuts_reads {w : World} (f : Nat) : ∀ (A : Option Addr) (n c : Nat) (xs : List UInt8), Reads w A n (bytesV xs) → n ≤ c → ∀ p ∈ cuts f A n c xs, Reads w p.A p.n (bytesV p.xs) ∧ p.xs.length = p.n ∧ p.n ≤ 1024 := by
  induction f with
  | zero => intro A n c xs _ _ p hp; simp [cuts] at hp
  | succ f ih =>
    intro A n c xs hr hnc p hp
    simp only [cuts] at hp
    by_cases h : n = 0
    · rw [if_pos h] at hp; cases hp
    · rw [if_neg h] at hp
      have hl : xs.length = n := by have := hr.1; rwa [bytesV_length] at this
      rcases List.mem_cons.1 hp with rfl | hp
      · refine ⟨?_, by simp; omega, by simp only; omega⟩
        have := hr.head (k := min 1024 n) (by omega)
        simpa [bytesV, List.map_take] using this
      · refine ih _ _ _ _ ?_ (by omega) p hp
        have := hr.cut (k := min 1024 n) (by omega) hnc
        simpa [bytesV, List.map_drop] using this

/-- a sum, as it is kept: the low number and the high one -/
def onNat (s : Nat) (xs : List UInt8) : Nat := (adl (s % 65536 % 65521) (s / 65536 % 65521) xs).2 * 65536 + (adl (s % 65536 % 65521) (s / 65536 % 65521) xs).1

theorem on_any (s : Nat) (hs : s < 4294967296) (A : Option Addr) (n c : Nat) (xs : List UInt8) (w : World) (hl : xs.length = n) (hrd : Reads w A n (bytesV xs)) (hnc : n ≤ c) (hcm : c ≤ maxLen) :
    Calls Try.prog 97 [.int .u32 (s : Int), .slice A n c].toArray w fun e w' => e = .returned (.int .u32 (onNat s xs : Int)) ∧ Below w.heap.size w w' := by
  subst hl
  refine enterM Try.func97 rfl Try.ntmps97 (by simp) ?_
  repeat (first | refine S_scope ?_ | refine S_label ?_ | refine E_noGoto_normal ?_ | refine E_noGoto_ret ?_ | refine E_noGoto_exit ?_ | refine S_yes rfl (by first | with_reducible rfl | decide) ?_ | refine S_no rfl (by first | with_reducible rfl | decide) ?_ | refine S_seq ?_ | refine E_seq ?_ | refine S_block ?_ | refine E_block_normal ?_ | refine S_skip ?_ | refine S_exit ?_ | refine S_ret ?_ | refine E_then_exit ?_ | refine E_then_ret ?_ | refine E_block_ret ?_ | refine E_block_exit ?_ | refine E_block_exit_other rfl ?_)
  refine S_region ?_
  refine R_cons rfl (op_pure (p_assign rfl) rfl ?_)
  refine R_nil ?_
  repeat (first | refine S_scope ?_ | refine S_label ?_ | refine E_noGoto_normal ?_ | refine E_noGoto_ret ?_ | refine E_noGoto_exit ?_ | refine S_yes rfl (by first | with_reducible rfl | decide) ?_ | refine S_no rfl (by first | with_reducible rfl | decide) ?_ | refine S_seq ?_ | refine E_seq ?_ | refine S_block ?_ | refine E_block_normal ?_ | refine S_skip ?_ | refine S_exit ?_ | refine S_ret ?_ | refine E_then_exit ?_ | refine E_then_ret ?_ | refine E_block_ret ?_ | refine E_block_exit ?_ | refine E_block_exit_other rfl ?_)
  refine S_region ?_
  refine R_cons rfl (op_pure (p_move rfl) rfl ?_)
  refine R_cons rfl (op_pure (by exact p_bin rfl rfl (b_and (and16 _ (by omega)))) rfl ?_)
  refine R_cons rfl (op_pure (by exact p_convert rfl sc_u32 ik_u64 (by first | assumption | exact u8_nat _ | exact w8_i64 _ | exact w8_u64 _ | exact w8_u32n _ | exact w32_u64 _ | exact w32_i64 _ | exact w_in_i64 (by omega) | exact w_in_u64 (by omega) | exact w_in_u32 (by omega))) rfl ?_)
  refine R_cons rfl (op_pure (p_move rfl) rfl ?_)
  refine R_cons rfl (op_pure (by first | exact p_bin rfl rfl (b_shr (by decide) (by decide) (k32_shr _ 16 (by decide))) | exact p_bin rfl rfl (b_shr (by decide) (by decide) (shr_nat _ 16))) rfl ?_)
  refine R_cons rfl (op_pure (by exact p_convert rfl sc_u32 ik_u64 (by first | assumption | exact u8_nat _ | exact w8_i64 _ | exact w8_u64 _ | exact w8_u32n _ | exact w32_u64 _ | exact w32_i64 _ | exact w_in_i64 (by omega) | exact w_in_u64 (by omega) | exact w_in_u32 (by omega))) rfl ?_)
  refine R_cons rfl (op_pure (p_buildAll (ps := [(0, .tmp 9), (1, .tmp 12)]) rfl (by kernel_rfl)) rfl ?_)
  refine R_cons rfl (op_callV rfl rfl Try.func101 rfl (by kernel_rfl) rfl (Nat.le_refl _) (fun w' _ => left_any _ _ w') ?_)
  refine R_cons rfl (op_allocRow zero_both rfl (Nat.le_refl _) (fun b5 => ?_))
  refine R_cons rfl (op_storeRow rfl rfl (by first | exact bytesV_one _ | exact wordsV_one _ | (repeat (first | exact ones_nil | refine ones_cons rfl ?_))) row_both (by first | assumption | rfl | (simp only [bytesV_length, wordsV_length]; omega) | (rw [bytesV_length]; exact Sha.sha_length _)) (by repeat (first | exact At.here | apply At.there)) (by first | exact Nat.le_of_ble_eq_true rfl | omega | (simp only [bytesV_length, wordsV_length, List.length_cons, List.length_nil, List.length_replicate]; omega) | (simp only [bytesV_length, Sha.sha_length, List.length_replicate] <;> omega)) ?_)
  refine R_nil ?_
  repeat (first | refine S_scope ?_ | refine S_label ?_ | refine E_noGoto_normal ?_ | refine E_noGoto_ret ?_ | refine E_noGoto_exit ?_ | refine S_yes rfl (by first | with_reducible rfl | decide) ?_ | refine S_no rfl (by first | with_reducible rfl | decide) ?_ | refine S_seq ?_ | refine E_seq ?_ | refine S_block ?_ | refine E_block_normal ?_ | refine S_skip ?_ | refine S_exit ?_ | refine S_ret ?_ | refine E_then_exit ?_ | refine E_then_ret ?_ | refine E_block_ret ?_ | refine E_block_exit ?_ | refine E_block_exit_other rfl ?_)
  refine S_region ?_
  refine R_cons rfl (op_pure (p_move rfl) rfl ?_)
  refine R_cons rfl (op_call rfl rfl Try.func102 rfl (by kernel_rfl) rfl fun w1 hm => (pieces_any A xs.length c w1).mono ?_)
  rintro e w2 ⟨bx, rfl, hbx, hbo, hbel⟩
  refine ⟨_, _, rfl, hm.call1 (Nat.le_refl _) hbel hbx hbo, ?_⟩
  refine R_nil ?_
  repeat (first | refine S_scope ?_ | refine S_label ?_ | refine E_noGoto_normal ?_ | refine E_noGoto_ret ?_ | refine E_noGoto_exit ?_ | refine S_yes rfl (by first | with_reducible rfl | decide) ?_ | refine S_no rfl (by first | with_reducible rfl | decide) ?_ | refine S_seq ?_ | refine E_seq ?_ | refine S_block ?_ | refine E_block_normal ?_ | refine S_skip ?_ | refine S_exit ?_ | refine S_ret ?_ | refine E_then_exit ?_ | refine E_then_ret ?_ | refine E_block_ret ?_ | refine E_block_exit ?_ | refine E_block_exit_other rfl ?_)
  have hP : ∀ p ∈ cuts xs.length A xs.length c xs, Reads w p.A p.n (bytesV p.xs) ∧ p.xs.length = p.n ∧ p.n ≤ 1024 := cuts_reads _ _ _ _ _ hrd hnc
  have h0 : s % 65536 % 65521 < 65521 ∧ s / 65536 % 65521 < 65521 := ⟨Nat.mod_lt _ (by omega), Nat.mod_lt _ (by omega)⟩
  refine S_range (ps := [17]) (pieces_iter A xs.length c xs bx w.heap.size ⟨w, []⟩ rfl hnc hcm) (Nat.le_refl _) rfl Try.func104 rfl (by kernel_rfl) (fun _ => rfl) rfl
    (fun s : Nat × Nat => [(b5, .cells (bothV s.1 s.2).toArray 165 (0, 0))]) (fun pre t => t = runP (s % 65536 % 65521, s / 65536 % 65521) pre ∧ t.1 < 65521 ∧ t.2 < 65521) (s % 65536 % 65521, s / 65536 % 65521) ⟨rfl, h0.1, h0.2⟩ (Fewer.refl _)
    (fun p => [(6, .slice p.A p.n p.c), (5, .pointer (some ⟨b5, 0, none⟩))]) ?assign ?body ?done
  case assign =>
    intro l Hx p
    repeat (first | refine SI_yes rfl (by first | with_reducible rfl | decide) ?_ | refine SI_no rfl (by first | with_reducible rfl | decide) ?_ | refine SI_seq ?_ | refine EI_seq ?_ | refine SI_block ?_ | refine E_block_normal ?_ | refine SI_skip ?_ | refine SI_exit ?_ | refine SI_ret ?_ | refine E_then_exit ?_ | refine E_then_ret ?_ | refine E_block_ret ?_ | refine E_block_exit ?_ | refine E_block_exit_other rfl ?_)
    refine SI_region ?_
    refine RI_cons rfl (by intro c h; cases h) (op_pure (p_assign rfl) rfl ?_)
    refine RI_nil ?_
    repeat (first | refine SI_yes rfl (by first | with_reducible rfl | decide) ?_ | refine SI_no rfl (by first | with_reducible rfl | decide) ?_ | refine SI_seq ?_ | refine EI_seq ?_ | refine SI_block ?_ | refine E_block_normal ?_ | refine SI_skip ?_ | refine SI_exit ?_ | refine SI_ret ?_ | refine E_then_exit ?_ | refine E_then_ret ?_ | refine E_block_ret ?_ | refine E_block_exit ?_ | refine E_block_exit_other rfl ?_)
    exact EI_end fun a w hf hm => ⟨hf.sub (by repeat (first | exact Sub.nil | refine Sub.cons rfl ?_)), hm⟩
  case body =>
    rintro l Dk Lr Hj pre p t hpre ⟨ht, ht1, ht2⟩
    have hp := hP p (by obtain ⟨q, hq⟩ := hpre; rw [← hq]; simp)
    obtain ⟨hpr, hpl, hpn⟩ := hp
    have hb := adl_lt t.1 t.2 p.xs
    repeat (first | refine SI_yes rfl (by first | with_reducible rfl | decide) ?_ | refine SI_no rfl (by first | with_reducible rfl | decide) ?_ | refine SI_seq ?_ | refine EI_seq ?_ | refine SI_block ?_ | refine E_block_normal ?_ | refine SI_skip ?_ | refine SI_exit ?_ | refine SI_ret ?_ | refine E_then_exit ?_ | refine E_then_ret ?_ | refine E_block_ret ?_ | refine E_block_exit ?_ | refine E_block_exit_other rfl ?_)
    refine SI_region ?_
    refine RI_cons rfl (by intro c h; cases h) (op_pure (by first | exact p_loadRow rfl row_both (by repeat (first | exact List.Mem.head _ | apply List.Mem.tail)) (by first | assumption | rfl | (simp only [bytesV_length, wordsV_length]; omega)) | exact p_loadPart rfl row_both (by repeat (first | exact List.Mem.head _ | apply List.Mem.tail)) (by first | exact Nat.le_of_ble_eq_true rfl | omega | (simp only [bytesV_length, wordsV_length, List.length_cons, List.length_nil, List.length_replicate]; omega) | (simp only [bytesV_length, Sha.sha_length, List.length_replicate] <;> omega)) (by first | assumption | rfl)) rfl ?_)
    refine RI_cons rfl (by intro c h; cases h) (op_pure (p_move rfl) rfl ?_)
    refine RI_cons rfl (by intro c h; cases h) (op_callV (v := .agg (bothV (adl t.1 t.2 p.xs).1 (adl t.1 t.2 p.xs).2).toArray) rfl rfl Try.func103 rfl (by kernel_rfl) rfl (Nat.le_refl _) (fun w' hm => ?_) ?_)
    · have := takes_any t.1 t.2 p.A p.c p.xs w' (by rw [hpl]; exact hpr.base hm) (by omega) (by omega) (by omega)
      rw [hpl] at this
      exact this
    refine RI_cons rfl (by intro c h; cases h) (op_storeRow rfl rfl (by first | exact bytesV_one _ | exact wordsV_one _ | (repeat (first | exact ones_nil | refine ones_cons rfl ?_))) row_both (by first | assumption | rfl | (simp only [bytesV_length, wordsV_length]; omega) | (rw [bytesV_length]; exact Sha.sha_length _)) (by repeat (first | exact At.here | apply At.there)) (by first | exact Nat.le_of_ble_eq_true rfl | omega | (simp only [bytesV_length, wordsV_length, List.length_cons, List.length_nil, List.length_replicate]; omega) | (simp only [bytesV_length, Sha.sha_length, List.length_replicate] <;> omega)) ?_)
    refine RI_nil ?_
    repeat (first | refine SI_yes rfl (by first | with_reducible rfl | decide) ?_ | refine SI_no rfl (by first | with_reducible rfl | decide) ?_ | refine SI_seq ?_ | refine EI_seq ?_ | refine SI_block ?_ | refine E_block_normal ?_ | refine SI_skip ?_ | refine SI_exit ?_ | refine SI_ret ?_ | refine E_then_exit ?_ | refine E_then_ret ?_ | refine E_block_ret ?_ | refine E_block_exit ?_ | refine E_block_exit_other rfl ?_)
    exact E_roundEnd (adl t.1 t.2 p.xs) ⟨by rw [runP_snoc, ← ht], hb.1, hb.2⟩ (Fewer.refl _)
  case done =>
    rintro Dk t ⟨ht, ht1, ht2⟩
    rw [runP_cuts _ _ _ _ _ _ _ (Nat.le_refl _) rfl h0.1 h0.2] at ht
    repeat (first | refine S_scope ?_ | refine S_label ?_ | refine E_noGoto_normal ?_ | refine E_noGoto_ret ?_ | refine E_noGoto_exit ?_ | refine S_yes rfl (by first | with_reducible rfl | decide) ?_ | refine S_no rfl (by first | with_reducible rfl | decide) ?_ | refine S_seq ?_ | refine E_seq ?_ | refine S_block ?_ | refine E_block_normal ?_ | refine S_skip ?_ | refine S_exit ?_ | refine S_ret ?_ | refine E_then_exit ?_ | refine E_then_ret ?_ | refine E_block_ret ?_ | refine E_block_exit ?_ | refine E_block_exit_other rfl ?_)
    refine S_region ?_
    refine R_cons rfl (op_pure (by first | exact p_indexArr0 (j := 1) rfl rfl rfl arr_both (by decide) | exact p_indexArr (j := 1) rfl rfl rfl arr_both (by decide)) rfl ?_)
    refine R_cons rfl (op_pure (by first | exact p_load rfl sc_u64 (by repeat (first | exact List.Mem.head _ | apply List.Mem.tail)) (by first | assumption | exact bytesV_get (by omega) | exact wordsV_get (by omega) | rfl) | exact p_load_base rfl sc_u64 (by assumption) (by simp) (by assumption)) rfl ?_)
    refine R_cons rfl (op_pure (by exact p_bin rfl rfl (b_shl (by decide) (by decide) (shl_nat_u64 _ 16 (by omega)))) rfl ?_)
    refine R_cons rfl (op_pure (by first | exact p_indexArr0 (j := 0) rfl rfl rfl arr_both (by decide) | exact p_indexArr (j := 0) rfl rfl rfl arr_both (by decide)) rfl ?_)
    refine R_cons rfl (op_pure (by first | exact p_load rfl sc_u64 (by repeat (first | exact List.Mem.head _ | apply List.Mem.tail)) (by first | assumption | exact bytesV_get (by omega) | exact wordsV_get (by omega) | rfl) | exact p_load_base rfl sc_u64 (by assumption) (by simp) (by assumption)) rfl ?_)
    refine R_cons rfl (op_pure (by exact p_bin rfl rfl (b_or (or_disj _ _ (by omega) (by omega)))) rfl ?_)
    refine R_cons rfl (op_pure (by exact p_convert rfl sc_u64 ik_u32 (by first | assumption | exact u8_nat _ | exact w8_i64 _ | exact w8_u64 _ | exact w8_u32n _ | exact w32_u64 _ | exact w32_i64 _ | exact w_in_i64 (by omega) | exact w_in_u64 (by omega) | exact w_in_u32 (by omega))) rfl ?_)
    refine R_cons rfl (op_pure (p_assign rfl) rfl ?_)
    refine R_nil ?_
    repeat (first | refine S_scope ?_ | refine S_label ?_ | refine E_noGoto_normal ?_ | refine E_noGoto_ret ?_ | refine E_noGoto_exit ?_ | refine S_yes rfl (by first | with_reducible rfl | decide) ?_ | refine S_no rfl (by first | with_reducible rfl | decide) ?_ | refine S_seq ?_ | refine E_seq ?_ | refine S_block ?_ | refine E_block_normal ?_ | refine S_skip ?_ | refine S_exit ?_ | refine S_ret ?_ | refine E_then_exit ?_ | refine E_then_ret ?_ | refine E_block_ret ?_ | refine E_block_exit ?_ | refine E_block_exit_other rfl ?_)
    exact E_retM1 rfl rfl (by repeat (first | exact At.here | apply At.there)) fun w' hm => ⟨by rw [ht]; rfl, hm.below⟩

theorem of_any (A : Option Addr) (n c : Nat) (xs : List UInt8) (w : World) (hl : xs.length = n) (hrd : Reads w A n (bytesV xs)) (hnc : n ≤ c) (hcm : c ≤ maxLen) :
    Calls Try.prog 86 [.slice A n c].toArray w fun e w' => e = .returned (.int .u32 (onNat 1 xs : Int)) ∧ Below w.heap.size w w' := by
  refine enter Try.func86 rfl Try.ntmps86 (by simp) ?_
  repeat (first | refine S_scope ?_ | refine S_label ?_ | refine E_noGoto_normal ?_ | refine E_noGoto_ret ?_ | refine E_noGoto_exit ?_ | refine S_yes rfl (by first | with_reducible rfl | decide) ?_ | refine S_no rfl (by first | with_reducible rfl | decide) ?_ | refine S_seq ?_ | refine E_seq ?_ | refine S_block ?_ | refine E_block_normal ?_ | refine S_skip ?_ | refine S_exit ?_ | refine S_ret ?_ | refine E_then_exit ?_ | refine E_then_ret ?_ | refine E_block_ret ?_ | refine E_block_exit ?_ | refine E_block_exit_other rfl ?_)
  refine S_region ?_
  refine R_cons rfl (op_pure (p_assign rfl) rfl ?_)
  refine R_nil ?_
  repeat (first | refine S_scope ?_ | refine S_label ?_ | refine E_noGoto_normal ?_ | refine E_noGoto_ret ?_ | refine E_noGoto_exit ?_ | refine S_yes rfl (by first | with_reducible rfl | decide) ?_ | refine S_no rfl (by first | with_reducible rfl | decide) ?_ | refine S_seq ?_ | refine E_seq ?_ | refine S_block ?_ | refine E_block_normal ?_ | refine S_skip ?_ | refine S_exit ?_ | refine S_ret ?_ | refine E_then_exit ?_ | refine E_then_ret ?_ | refine E_block_ret ?_ | refine E_block_exit ?_ | refine E_block_exit_other rfl ?_)
  refine S_region ?_
  refine R_cons rfl (op_pure (p_move rfl) rfl ?_)
  refine R_cons rfl (op_callV rfl rfl Try.func97 rfl (by kernel_rfl) rfl (Nat.le_refl _) (fun w' hm => on_any 1 (by decide) A n c xs w' hl (hrd.base hm) hnc hcm) ?_)
  refine R_cons rfl (op_pure (p_assign rfl) rfl ?_)
  refine R_nil ?_
  repeat (first | refine S_scope ?_ | refine S_label ?_ | refine E_noGoto_normal ?_ | refine E_noGoto_ret ?_ | refine E_noGoto_exit ?_ | refine S_yes rfl (by first | with_reducible rfl | decide) ?_ | refine S_no rfl (by first | with_reducible rfl | decide) ?_ | refine S_seq ?_ | refine E_seq ?_ | refine S_block ?_ | refine E_block_normal ?_ | refine S_skip ?_ | refine S_exit ?_ | refine S_ret ?_ | refine E_then_exit ?_ | refine E_then_ret ?_ | refine E_block_ret ?_ | refine E_block_exit ?_ | refine E_block_exit_other rfl ?_)
  exact E_ret1 rfl rfl fun w' hm => ⟨rfl, hm.below⟩

theorem adl_snoc (x y : Nat) (l : List UInt8) (b : UInt8) : adl x y (l ++ [b]) = (((adl x y l).1 + b.toNat) % 65521, ((adl x y l).2 + ((adl x y l).1 + b.toNat) % 65521) % 65521) := by
  rw [adl_append]
  simp only [adl, exact, Prod.mk.injEq, true_and]
  omega
theorem refOn_any (s : Nat) (hs : s < 4294967296) (A : Option Addr) (n c : Nat) (xs : List UInt8) (w : World) (hl : xs.length = n) (hrd : Reads w A n (bytesV xs)) (hnc : n ≤ c) (hcm : c ≤ maxLen) :
    Calls Try.prog 98 [.int .u32 (s : Int), .slice A n c].toArray w fun e w' => e = .returned (.int .u32 (onNat s xs : Int)) ∧ Below w.heap.size w w' := by
  subst hl
  have hcm' := hcm
  unfold maxLen at hcm'
  refine enter Try.func98 rfl Try.ntmps98 (by simp) ?_
  repeat (first | refine S_scope ?_ | refine S_label ?_ | refine E_noGoto_normal ?_ | refine E_noGoto_ret ?_ | refine E_noGoto_exit ?_ | refine S_yes rfl (by first | with_reducible rfl | decide) ?_ | refine S_no rfl (by first | with_reducible rfl | decide) ?_ | refine S_seq ?_ | refine E_seq ?_ | refine S_block ?_ | refine E_block_normal ?_ | refine S_skip ?_ | refine S_exit ?_ | refine S_ret ?_ | refine E_then_exit ?_ | refine E_then_ret ?_ | refine E_block_ret ?_ | refine E_block_exit ?_ | refine E_block_exit_other rfl ?_)
  refine S_region ?_
  refine R_cons rfl (op_pure (p_assign rfl) rfl ?_)
  refine R_nil ?_
  repeat (first | refine S_scope ?_ | refine S_label ?_ | refine E_noGoto_normal ?_ | refine E_noGoto_ret ?_ | refine E_noGoto_exit ?_ | refine S_yes rfl (by first | with_reducible rfl | decide) ?_ | refine S_no rfl (by first | with_reducible rfl | decide) ?_ | refine S_seq ?_ | refine E_seq ?_ | refine S_block ?_ | refine E_block_normal ?_ | refine S_skip ?_ | refine S_exit ?_ | refine S_ret ?_ | refine E_then_exit ?_ | refine E_then_ret ?_ | refine E_block_ret ?_ | refine E_block_exit ?_ | refine E_block_exit_other rfl ?_)
  refine S_region ?_
  refine R_cons rfl (op_pure (p_move rfl) rfl ?_)
  refine R_cons rfl (op_pure (by first | exact p_bin rfl rfl (b_rem (by decide) (nat_rem _ 65536)) | exact p_bin rfl rfl (b_rem (by decide) (int_rem (by omega)))) rfl ?_)
  refine R_cons rfl (op_pure (by first | exact p_bin rfl rfl (b_rem (by decide) (nat_rem _ 65521)) | exact p_bin rfl rfl (b_rem (by decide) (int_rem (by omega)))) rfl ?_)
  refine R_cons rfl (op_pure (p_assign rfl) rfl ?_)
  refine R_nil ?_
  repeat (first | refine S_scope ?_ | refine S_label ?_ | refine E_noGoto_normal ?_ | refine E_noGoto_ret ?_ | refine E_noGoto_exit ?_ | refine S_yes rfl (by first | with_reducible rfl | decide) ?_ | refine S_no rfl (by first | with_reducible rfl | decide) ?_ | refine S_seq ?_ | refine E_seq ?_ | refine S_block ?_ | refine E_block_normal ?_ | refine S_skip ?_ | refine S_exit ?_ | refine S_ret ?_ | refine E_then_exit ?_ | refine E_then_ret ?_ | refine E_block_ret ?_ | refine E_block_exit ?_ | refine E_block_exit_other rfl ?_)
  refine S_region ?_
  refine R_cons rfl (op_pure (p_move rfl) rfl ?_)
  refine R_cons rfl (op_pure (by exact p_bin rfl rfl (b_quo (by decide) (nat_quo_u32 _ 65536 (by omega)))) rfl ?_)
  refine R_cons rfl (op_pure (by first | exact p_bin rfl rfl (b_rem (by decide) (nat_rem _ 65521)) | exact p_bin rfl rfl (b_rem (by decide) (int_rem (by omega)))) rfl ?_)
  refine R_cons rfl (op_pure (p_assign rfl) rfl ?_)
  refine R_nil ?_
  repeat (first | refine S_scope ?_ | refine S_label ?_ | refine E_noGoto_normal ?_ | refine E_noGoto_ret ?_ | refine E_noGoto_exit ?_ | refine S_yes rfl (by first | with_reducible rfl | decide) ?_ | refine S_no rfl (by first | with_reducible rfl | decide) ?_ | refine S_seq ?_ | refine E_seq ?_ | refine S_block ?_ | refine E_block_normal ?_ | refine S_skip ?_ | refine S_exit ?_ | refine S_ret ?_ | refine E_then_exit ?_ | refine E_then_ret ?_ | refine E_block_ret ?_ | refine E_block_exit ?_ | refine E_block_exit_other rfl ?_)
  refine S_region ?_
  refine R_cons rfl (op_pure (p_assign rfl) rfl ?_)
  refine R_nil ?_
  repeat (first | refine S_scope ?_ | refine S_label ?_ | refine E_noGoto_normal ?_ | refine E_noGoto_ret ?_ | refine E_noGoto_exit ?_ | refine S_yes rfl (by first | with_reducible rfl | decide) ?_ | refine S_no rfl (by first | with_reducible rfl | decide) ?_ | refine S_seq ?_ | refine E_seq ?_ | refine S_block ?_ | refine E_block_normal ?_ | refine S_skip ?_ | refine S_exit ?_ | refine S_ret ?_ | refine E_then_exit ?_ | refine E_then_ret ?_ | refine E_block_ret ?_ | refine E_block_exit ?_ | refine E_block_exit_other rfl ?_)
  obtain ⟨x, hx⟩ : ∃ x, s % 65536 % 65521 = x := ⟨_, rfl⟩
  obtain ⟨y, hy⟩ : ∃ y, s / 65536 % 65521 = y := ⟨_, rfl⟩
  refine S_loop (fun k : Nat => [(7, .int .i64 (k : Int)), (6, .int .u32 ((adl x y (xs.take k)).2 : Int)), (5, .int .u32 ((adl x y (xs.take k)).1 : Int)), (1, .slice A xs.length c)]) (fun _ => [])
    (fun k => k ≤ xs.length) (fun k => xs.length - k) 0 (by omega) ?_ (Fewer.refl _) ?_
  · have h1 : x % 65521 = x := by omega
    have h2 : y % 65521 = y := by omega
    refine Sub.cons rfl (Sub.cons ?_ (Sub.cons ?_ (Sub.cons rfl Sub.nil)))
    · show some _ = some _
      simp [adl, exact, h2, ← hy]
    · show some _ = some _
      simp [adl, exact, h1, ← hx]
  intro k hk
  have hb := adl_lt x y (xs.take k)
  repeat (first | refine S_scope ?_ | refine S_label ?_ | refine E_noGoto_normal ?_ | refine E_noGoto_ret ?_ | refine E_noGoto_exit ?_ | refine S_yes rfl (by first | with_reducible rfl | decide) ?_ | refine S_no rfl (by first | with_reducible rfl | decide) ?_ | refine S_seq ?_ | refine E_seq ?_ | refine S_block ?_ | refine E_block_normal ?_ | refine S_skip ?_ | refine S_exit ?_ | refine S_ret ?_ | refine E_then_exit ?_ | refine E_then_ret ?_ | refine E_block_ret ?_ | refine E_block_exit ?_ | refine E_block_exit_other rfl ?_)
  refine S_region ?_
  refine R_cons rfl (op_pure (p_move rfl) rfl ?_)
  refine R_cons rfl (op_pure (p_move rfl) rfl ?_)
  refine R_cons rfl (op_pure (p_len rfl slc_u8s) rfl ?_)
  refine R_cons rfl (op_pure (p_bin rfl rfl (b_lss (by first | assumption | exact decide_eq_true (by omega) | exact decide_eq_false (by omega) | rfl))) rfl ?_)
  refine R_nil ?_
  repeat (first | refine S_scope ?_ | refine S_label ?_ | refine E_noGoto_normal ?_ | refine E_noGoto_ret ?_ | refine E_noGoto_exit ?_ | refine S_yes rfl (by first | with_reducible rfl | decide) ?_ | refine S_no rfl (by first | with_reducible rfl | decide) ?_ | refine S_seq ?_ | refine E_seq ?_ | refine S_block ?_ | refine E_block_normal ?_ | refine S_skip ?_ | refine S_exit ?_ | refine S_ret ?_ | refine E_then_exit ?_ | refine E_then_ret ?_ | refine E_block_ret ?_ | refine E_block_exit ?_ | refine E_block_exit_other rfl ?_)
  refine S_cond rfl (fun hlt => ?_) (fun hge => ?_)
  · have hlt' : k < xs.length := by simpa using hlt
    obtain ⟨b, off, rfl, hb', hcell⟩ := hrd.2 (by omega)
    have hc := hcell k _ (bytesV_get hlt')
    have h8 := b_lt (xs.getD k 0)
    have hts := adl_snoc x y (xs.take k) (xs.getD k 0)
    rw [← take_snoc xs k hlt'] at hts
    generalize he : adl x y (xs.take k) = ex at *
    repeat (first | refine S_scope ?_ | refine S_label ?_ | refine E_noGoto_normal ?_ | refine E_noGoto_ret ?_ | refine E_noGoto_exit ?_ | refine S_yes rfl (by first | with_reducible rfl | decide) ?_ | refine S_no rfl (by first | with_reducible rfl | decide) ?_ | refine S_seq ?_ | refine E_seq ?_ | refine S_block ?_ | refine E_block_normal ?_ | refine S_skip ?_ | refine S_exit ?_ | refine S_ret ?_ | refine E_then_exit ?_ | refine E_then_ret ?_ | refine E_block_ret ?_ | refine E_block_exit ?_ | refine E_block_exit_other rfl ?_)
    refine S_region ?_
    refine R_cons rfl (op_pure (p_move rfl) rfl ?_)
    refine R_cons rfl (op_pure (p_move rfl) rfl ?_)
    refine R_cons rfl (op_pure (p_move rfl) rfl ?_)
    refine R_cons rfl (op_pure (by exact p_indexSl rfl rfl (by repeat (first | assumption | exact lit0 | exact lit1 | apply IntWalk.up_add | apply IntWalk.up_div | apply IntWalk.up_mod | apply IntWalk.up_mul | rfl)) slc_u8s (by omega)) rfl ?_)
    refine R_cons rfl (op_pure (by first | exact p_load rfl sc_u8 (by repeat (first | exact List.Mem.head _ | apply List.Mem.tail)) (by first | assumption | exact bytesV_get (by omega) | exact wordsV_get (by omega) | rfl) | exact p_load_base rfl sc_u8 (by assumption) (by simp) (by assumption)) rfl ?_)
    refine R_cons rfl (op_pure (by exact p_convert rfl sc_u8 ik_u32 (by first | assumption | exact u8_nat _ | exact w8_i64 _ | exact w8_u64 _ | exact w8_u32n _ | exact w32_u64 _ | exact w32_i64 _ | exact w_in_i64 (by omega) | exact w_in_u64 (by omega) | exact w_in_u32 (by omega))) rfl ?_)
    refine R_cons rfl (op_pure (by first | exact p_bin rfl rfl (b_add (k32_add _ _)) | exact p_bin rfl rfl (b_add (nat_add_u32 (by omega))) | exact p_bin rfl rfl (b_add (w_in_u32 (by omega)))) rfl ?_)
    refine R_cons rfl (op_pure (by first | exact p_bin rfl rfl (b_rem (by decide) (nat_rem _ 65521)) | exact p_bin rfl rfl (b_rem (by decide) (int_rem (by omega)))) rfl ?_)
    refine R_cons rfl (op_pure (p_assign rfl) rfl ?_)
    refine R_nil ?_
    repeat (first | refine S_scope ?_ | refine S_label ?_ | refine E_noGoto_normal ?_ | refine E_noGoto_ret ?_ | refine E_noGoto_exit ?_ | refine S_yes rfl (by first | with_reducible rfl | decide) ?_ | refine S_no rfl (by first | with_reducible rfl | decide) ?_ | refine S_seq ?_ | refine E_seq ?_ | refine S_block ?_ | refine E_block_normal ?_ | refine S_skip ?_ | refine S_exit ?_ | refine S_ret ?_ | refine E_then_exit ?_ | refine E_then_ret ?_ | refine E_block_ret ?_ | refine E_block_exit ?_ | refine E_block_exit_other rfl ?_)
    refine S_region ?_
    refine R_cons rfl (op_pure (p_move rfl) rfl ?_)
    refine R_cons rfl (op_pure (p_move rfl) rfl ?_)
    refine R_cons rfl (op_pure (by first | exact p_bin rfl rfl (b_add (k32_add _ _)) | exact p_bin rfl rfl (b_add (nat_add_u32 (by omega))) | exact p_bin rfl rfl (b_add (w_in_u32 (by omega)))) rfl ?_)
    refine R_cons rfl (op_pure (by first | exact p_bin rfl rfl (b_rem (by decide) (nat_rem _ 65521)) | exact p_bin rfl rfl (b_rem (by decide) (int_rem (by omega)))) rfl ?_)
    refine R_cons rfl (op_pure (p_assign rfl) rfl ?_)
    refine R_nil ?_
    repeat (first | refine S_scope ?_ | refine S_label ?_ | refine E_noGoto_normal ?_ | refine E_noGoto_ret ?_ | refine E_noGoto_exit ?_ | refine S_yes rfl (by first | with_reducible rfl | decide) ?_ | refine S_no rfl (by first | with_reducible rfl | decide) ?_ | refine S_seq ?_ | refine E_seq ?_ | refine S_block ?_ | refine E_block_normal ?_ | refine S_skip ?_ | refine S_exit ?_ | refine S_ret ?_ | refine E_then_exit ?_ | refine E_then_ret ?_ | refine E_block_ret ?_ | refine E_block_exit ?_ | refine E_block_exit_other rfl ?_)
    refine S_region ?_
    refine R_cons rfl (op_pure (p_move rfl) rfl ?_)
    refine R_cons rfl (op_pure (by exact p_bin rfl rfl (b_add (w_in_i64 (by omega)))) rfl ?_)
    refine R_cons rfl (op_pure (p_assign rfl) rfl ?_)
    refine R_nil ?_
    repeat (first | refine S_scope ?_ | refine S_label ?_ | refine E_noGoto_normal ?_ | refine E_noGoto_ret ?_ | refine E_noGoto_exit ?_ | refine S_yes rfl (by first | with_reducible rfl | decide) ?_ | refine S_no rfl (by first | with_reducible rfl | decide) ?_ | refine S_seq ?_ | refine E_seq ?_ | refine S_block ?_ | refine E_block_normal ?_ | refine S_skip ?_ | refine S_exit ?_ | refine S_ret ?_ | refine E_then_exit ?_ | refine E_then_ret ?_ | refine E_block_ret ?_ | refine E_block_exit ?_ | refine E_block_exit_other rfl ?_)
    exact E_round (k + 1) (by omega) (by omega) (Sub.cons rfl (Sub.cons (by rw [hts]; rfl) (Sub.cons (by rw [hts]; rfl) (Sub.cons rfl Sub.nil)))) (Fewer.refl _)
  · have hge' : xs.length ≤ k := by simpa using hge
    rw [List.take_of_length_le hge'] at *
    repeat (first | refine S_scope ?_ | refine S_label ?_ | refine E_noGoto_normal ?_ | refine E_noGoto_ret ?_ | refine E_noGoto_exit ?_ | refine S_yes rfl (by first | with_reducible rfl | decide) ?_ | refine S_no rfl (by first | with_reducible rfl | decide) ?_ | refine S_seq ?_ | refine E_seq ?_ | refine S_block ?_ | refine E_block_normal ?_ | refine S_skip ?_ | refine S_exit ?_ | refine S_ret ?_ | refine E_then_exit ?_ | refine E_then_ret ?_ | refine E_block_ret ?_ | refine E_block_exit ?_ | refine E_block_exit_other rfl ?_)
    refine S_region ?_
    refine R_cons rfl (op_pure (p_move rfl) rfl ?_)
    refine R_cons rfl (op_pure (by exact p_bin rfl rfl (b_mul (nat_mul_u32 _ 65536 (by omega)))) rfl ?_)
    refine R_cons rfl (op_pure (p_move rfl) rfl ?_)
    refine R_cons rfl (op_pure (by first | exact p_bin rfl rfl (b_add (k32_add _ _)) | exact p_bin rfl rfl (b_add (nat_add_u32 (by omega))) | exact p_bin rfl rfl (b_add (w_in_u32 (by omega)))) rfl ?_)
    refine R_cons rfl (op_pure (p_assign rfl) rfl ?_)
    refine R_nil ?_
    repeat (first | refine S_scope ?_ | refine S_label ?_ | refine E_noGoto_normal ?_ | refine E_noGoto_ret ?_ | refine E_noGoto_exit ?_ | refine S_yes rfl (by first | with_reducible rfl | decide) ?_ | refine S_no rfl (by first | with_reducible rfl | decide) ?_ | refine S_seq ?_ | refine E_seq ?_ | refine S_block ?_ | refine E_block_normal ?_ | refine S_skip ?_ | refine S_exit ?_ | refine S_ret ?_ | refine E_then_exit ?_ | refine E_then_ret ?_ | refine E_block_ret ?_ | refine E_block_exit ?_ | refine E_block_exit_other rfl ?_)
    exact E_ret1 rfl rfl fun w' hm => ⟨by unfold onNat; rw [hx, hy], hm.below⟩
end Go.Proofs.Ytfdlafjifjndeaa
