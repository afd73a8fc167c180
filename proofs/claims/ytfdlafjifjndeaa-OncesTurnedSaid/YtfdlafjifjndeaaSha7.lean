/-
  The layer shas: new runs, their ends, and the sum of bytes; each function by one walk.
-/
import Derived.Test.YtfdlafjifjndeaaSha6
namespace Go.Proofs.Ytfdlafjifjndeaa
open Go.Sha
open Go.RowKit Go.K
attribute [local irreducible] Exit.then Exit.inBlock Exit.noGoto bodyPost Code.wp QL Sx Rx Qx Ex Dx Op1 Pure1 Still1 K.Sub Calm Code.wpIn
attribute [local irreducible] took stOf rest runV sha pad be zeros outB Rep
set_option linter.unusedVariables false

/-- a call of puts on a run of the walk's own -/
theorem op_puts {B : Nat} {w0 : Base} {N : Nat} {D : List Deferred} {env : Env} {H : Hp} {T : Env → Hp → Prop} {ty : TypeId} {pos : String} {after : Array Edge} {gd : Option (Nat × Bool)} {d : Nat} {x y : Operand} {ts : Array TypeId} {b : Nat} {all xs : List UInt8} {cs : List Value}
    {A : Option Addr} {n c : Nat} (HF : Obj → Hp) (hrep : Rep all cs) (hat : ∀ o', At H b (.cells cs.toArray 149 (0, 0)) o' (HF o')) (hx : looks env [x, y] = some [.pointer (some ⟨b, 0, none⟩), .slice A n c])
    (hl : xs.length = n) (hsrc : ∀ w, Mem B w0 H w → Reads w A n (bytesV xs)) (hne : ∀ w, Mem B w0 H w → n ≠ 0 → ∀ a, A = some a → a.block ≠ b) (hnc : n ≤ c) (hcm : c ≤ maxLen) (hmany : all.length + n ≤ 1152921504606846976) (hd : Nat.blt d N = true)
    (h : ∀ cs', Rep (all ++ xs) cs' → T ((d, .tuple #[]) :: env) (HF (.cells cs'.toArray 149 (0, 0)))) :
    Op1 Try.prog B w0 N D ⟨some d, .call { callee := .value (.func 49), args := [x, y].toArray, argTypes := ts }, ty, pos, after, gd⟩ env H T :=
  op_call (first := []) (cap := []) rfl hx Try.func49 rfl (by kernel_rfl) hd fun w hm => by
    refine (puts_any b all cs hrep A n c xs w (hm.at_ (hat (.deferred none))) hl (hsrc w hm) (hne w hm) hnc hcm hmany).mono ?_
    rintro e w' ⟨he, cs', hr, hm'⟩
    exact ⟨_, _, he, hm.turned (hat _) hm', h cs' hr⟩

theorem new_any (w : World) : Calls Try.prog 48 #[] w fun e w' => ∃ g cs, e = .returned (.pointer (some ⟨g, 0, none⟩)) ∧ Rep [] cs ∧ w.heap.size ≤ g ∧ w'.heap[g]? = some (.cells cs.toArray 149 (0, 0)) ∧ Below w.heap.size w w' := by
  refine enter Try.func48 rfl Try.ntmps48 (by simp) ?_
  repeat (first | refine S_scope ?_ | refine S_label ?_ | refine E_noGoto_normal ?_ | refine E_noGoto_ret ?_ | refine E_noGoto_exit ?_ | refine S_yes rfl (by first | with_reducible rfl | decide) ?_ | refine S_no rfl (by first | with_reducible rfl | decide) ?_ | refine S_seq ?_ | refine E_seq ?_ | refine S_block ?_ | refine E_block_normal ?_ | refine S_skip ?_ | refine S_exit ?_ | refine S_ret ?_ | refine E_then_exit ?_ | refine E_then_ret ?_ | refine E_block_ret ?_ | refine E_block_exit ?_ | refine E_block_exit_other rfl ?_)
  refine S_region ?_
  refine R_cons rfl (op_pure (p_assign rfl) rfl ?_)
  refine R_nil ?_
  repeat (first | refine S_scope ?_ | refine S_label ?_ | refine E_noGoto_normal ?_ | refine E_noGoto_ret ?_ | refine E_noGoto_exit ?_ | refine S_yes rfl (by first | with_reducible rfl | decide) ?_ | refine S_no rfl (by first | with_reducible rfl | decide) ?_ | refine S_seq ?_ | refine E_seq ?_ | refine S_block ?_ | refine E_block_normal ?_ | refine S_skip ?_ | refine S_exit ?_ | refine S_ret ?_ | refine E_then_exit ?_ | refine E_then_ret ?_ | refine E_block_ret ?_ | refine E_block_exit ?_ | refine E_block_exit_other rfl ?_)
  refine S_region ?_
  refine R_cons rfl (op_callV rfl rfl Try.func83 rfl (by kernel_rfl) rfl (Nat.le_refl _) (fun w' _ => begin_any w') ?_)
  refine R_cons rfl (op_pure (p_build (ps := [(0, .const (.bool true)), (1, .tmp 1)]) (cs := runV begin8 (List.replicate 64 0) 0) rfl (by kernel_rfl)) rfl ?_)
  refine R_cons rfl (op_boxRow rfl rfl (Nat.le_refl _) (fun b3 => ?_))
  refine R_cons rfl (op_pure (p_assign rfl) rfl ?_)
  refine R_nil ?_
  repeat (first | refine S_scope ?_ | refine S_label ?_ | refine E_noGoto_normal ?_ | refine E_noGoto_ret ?_ | refine E_noGoto_exit ?_ | refine S_yes rfl (by first | with_reducible rfl | decide) ?_ | refine S_no rfl (by first | with_reducible rfl | decide) ?_ | refine S_seq ?_ | refine E_seq ?_ | refine S_block ?_ | refine E_block_normal ?_ | refine S_skip ?_ | refine S_exit ?_ | refine S_ret ?_ | refine E_then_exit ?_ | refine E_then_ret ?_ | refine E_block_ret ?_ | refine E_block_exit ?_ | refine E_block_exit_other rfl ?_)
  refine E_ret1 rfl rfl fun w' hm => ⟨b3, _, rfl, Rep.start, ?_, (hm.own _ (List.Mem.head _)).2, hm.below⟩
  rcases (hm.own _ (List.Mem.head _)).1 with h | h
  · exact h
  · cases h

set_option maxHeartbeats 1000000 in
theorem ended_any (all : List UInt8) (cs : List Value) (hrep : Rep all cs) (hn : all.length ≤ 1000000000000) (w : World) :
    Calls Try.prog 50 [.agg cs.toArray].toArray w fun e w' => e = .returned (.agg (bytesV (sha all)).toArray) ∧ Below w.heap.size w w' := by
  have hz := zeros_le all.length
  have hc73 := hrep.many
  refine enter Try.func50 rfl Try.ntmps50 (by simp) ?_
  repeat (first | refine S_scope ?_ | refine S_label ?_ | refine E_noGoto_normal ?_ | refine E_noGoto_ret ?_ | refine E_noGoto_exit ?_ | refine S_yes rfl (by first | with_reducible rfl | decide) ?_ | refine S_no rfl (by first | with_reducible rfl | decide) ?_ | refine S_seq ?_ | refine E_seq ?_ | refine S_block ?_ | refine E_block_normal ?_ | refine S_skip ?_ | refine S_exit ?_ | refine S_ret ?_ | refine E_then_exit ?_ | refine E_then_ret ?_ | refine E_block_ret ?_ | refine E_block_exit ?_ | refine E_block_exit_other rfl ?_)
  refine S_region ?_
  refine R_cons rfl (op_boxRow rfl rfl (Nat.le_refl _) (fun b1 => ?_))
  refine R_cons rfl (op_allocRow zero_Sum rfl (Nat.le_refl _) (fun b2 => ?_))
  refine R_nil ?_
  repeat (first | refine S_scope ?_ | refine S_label ?_ | refine E_noGoto_normal ?_ | refine E_noGoto_ret ?_ | refine E_noGoto_exit ?_ | refine S_yes rfl (by first | with_reducible rfl | decide) ?_ | refine S_no rfl (by first | with_reducible rfl | decide) ?_ | refine S_seq ?_ | refine E_seq ?_ | refine S_block ?_ | refine E_block_normal ?_ | refine S_skip ?_ | refine S_exit ?_ | refine S_ret ?_ | refine E_then_exit ?_ | refine E_then_ret ?_ | refine E_block_ret ?_ | refine E_block_exit ?_ | refine E_block_exit_other rfl ?_)
  refine S_region ?_
  refine R_cons rfl (op_pure (by first | exact p_fieldAddr0 rfl fd_Run_3 | exact p_fieldAddr rfl fd_Run_3) rfl ?_)
  refine R_cons rfl (op_pure (by first | exact p_load rfl sc_u64 (by repeat (first | exact List.Mem.head _ | apply List.Mem.tail)) (by first | assumption | exact bytesV_get (by omega) | exact wordsV_get (by omega) | rfl) | exact p_load_base rfl sc_u64 (by assumption) (by simp) (by assumption)) rfl ?_)
  refine R_cons rfl (op_pure (by exact p_bin rfl rfl (b_mul (w_in_u64 (by omega)))) rfl ?_)
  refine R_cons rfl (op_pure (p_assign rfl) rfl ?_)
  refine R_nil ?_
  repeat (first | refine S_scope ?_ | refine S_label ?_ | refine E_noGoto_normal ?_ | refine E_noGoto_ret ?_ | refine E_noGoto_exit ?_ | refine S_yes rfl (by first | with_reducible rfl | decide) ?_ | refine S_no rfl (by first | with_reducible rfl | decide) ?_ | refine S_seq ?_ | refine E_seq ?_ | refine S_block ?_ | refine E_block_normal ?_ | refine S_skip ?_ | refine S_exit ?_ | refine S_ret ?_ | refine E_then_exit ?_ | refine E_then_ret ?_ | refine E_block_ret ?_ | refine E_block_exit ?_ | refine E_block_exit_other rfl ?_)
  refine S_region ?_
  refine R_cons rfl (op_buildSliceAll (ps := [(0, .const (.int .u8 128))]) rfl slc_u8s.1 el_u8 (by decide) (by decide) (by first | kernel_rfl | rfl) rfl (Nat.le_refl _) (fun b10 => ?_))
  refine R_cons rfl (op_puts (xs := [128]) (fun o' => [(b10, _), (b2, _), (b1, o')]) hrep (fun o' => .there (.there .here)) rfl rfl (fun w hm => hm.readsAll (b := b10) (by repeat (first | exact List.Mem.head _ | apply List.Mem.tail)) rfl)
    (fun w hm _ a ha => by cases ha; exact (List.pairwise_cons.1 hm.apart).1 (b1, _) (by repeat (first | exact List.Mem.head _ | apply List.Mem.tail))) (Nat.le_refl _) (by unfold maxLen; omega) (by omega) rfl (fun cs1 hr1 => ?_))
  refine R_nil ?_
  repeat (first | refine S_scope ?_ | refine S_label ?_ | refine E_noGoto_normal ?_ | refine E_noGoto_ret ?_ | refine E_noGoto_exit ?_ | refine S_yes rfl (by first | with_reducible rfl | decide) ?_ | refine S_no rfl (by first | with_reducible rfl | decide) ?_ | refine S_seq ?_ | refine E_seq ?_ | refine S_block ?_ | refine E_block_normal ?_ | refine S_skip ?_ | refine S_exit ?_ | refine S_ret ?_ | refine E_then_exit ?_ | refine E_then_ret ?_ | refine E_block_ret ?_ | refine E_block_exit ?_ | refine E_block_exit_other rfl ?_)
  have hc73a := hr1.many
  rw [List.length_append] at hc73a
  have hzm : (120 - (((all.length + [(128 : UInt8)].length) % 64 : Nat) : Int)).tmod 64 = ((zeros all.length : Nat) : Int) := by
    have h1 : (120 : Int) - (((all.length + [(128 : UInt8)].length) % 64 : Nat) : Int) = ((120 - (all.length + 1) % 64 : Nat) : Int) := by simp only [List.length_cons, List.length_nil]; omega
    rw [h1]
    unfold zeros
    exact nat_rem _ 64
  repeat (first | refine S_scope ?_ | refine S_label ?_ | refine E_noGoto_normal ?_ | refine E_noGoto_ret ?_ | refine E_noGoto_exit ?_ | refine S_yes rfl (by first | with_reducible rfl | decide) ?_ | refine S_no rfl (by first | with_reducible rfl | decide) ?_ | refine S_seq ?_ | refine E_seq ?_ | refine S_block ?_ | refine E_block_normal ?_ | refine S_skip ?_ | refine S_exit ?_ | refine S_ret ?_ | refine E_then_exit ?_ | refine E_then_ret ?_ | refine E_block_ret ?_ | refine E_block_exit ?_ | refine E_block_exit_other rfl ?_)
  refine S_region ?_
  refine R_cons rfl (op_pure (by first | exact p_fieldAddr0 rfl fd_Run_3 | exact p_fieldAddr rfl fd_Run_3) rfl ?_)
  refine R_cons rfl (op_pure (by first | exact p_load rfl sc_u64 (by repeat (first | exact List.Mem.head _ | apply List.Mem.tail)) (by first | assumption | exact bytesV_get (by omega) | exact wordsV_get (by omega) | rfl) | exact p_load_base rfl sc_u64 (by assumption) (by simp) (by assumption)) rfl ?_)
  refine R_cons rfl (op_pure (by first | exact p_bin rfl rfl (b_rem (by decide) (by assumption)) | exact p_bin rfl rfl (b_rem (by decide) (nat_rem _ 64)) | exact p_bin rfl rfl (b_rem (by decide) (int_rem (by omega)))) rfl ?_)
  refine R_cons rfl (op_pure (p_assign rfl) rfl ?_)
  refine R_nil ?_
  repeat (first | refine S_scope ?_ | refine S_label ?_ | refine E_noGoto_normal ?_ | refine E_noGoto_ret ?_ | refine E_noGoto_exit ?_ | refine S_yes rfl (by first | with_reducible rfl | decide) ?_ | refine S_no rfl (by first | with_reducible rfl | decide) ?_ | refine S_seq ?_ | refine E_seq ?_ | refine S_block ?_ | refine E_block_normal ?_ | refine S_skip ?_ | refine S_exit ?_ | refine S_ret ?_ | refine E_then_exit ?_ | refine E_then_ret ?_ | refine E_block_ret ?_ | refine E_block_exit ?_ | refine E_block_exit_other rfl ?_)
  refine S_region ?_
  refine R_cons rfl (op_pure (p_move rfl) rfl ?_)
  refine R_cons rfl (op_pure (by exact p_bin rfl rfl (b_sub (w_in_u64 (by omega)))) rfl ?_)
  refine R_cons rfl (op_pure (by first | exact p_bin rfl rfl (b_rem (by decide) (by assumption)) | exact p_bin rfl rfl (b_rem (by decide) (nat_rem _ 64)) | exact p_bin rfl rfl (b_rem (by decide) (int_rem (by omega)))) rfl ?_)
  refine R_cons rfl (op_makeSlice rfl rfl (by repeat (first | assumption | exact lit0 | exact lit1 | apply IntWalk.up_add | apply IntWalk.up_div | apply IntWalk.up_mod | apply IntWalk.up_mul | rfl)) (by repeat (first | assumption | exact lit0 | exact lit1 | apply IntWalk.up_add | apply IntWalk.up_div | apply IntWalk.up_mod | apply IntWalk.up_mul | rfl)) slc_u8s.1 el_u8 (by omega) (by omega) (by omega) rfl (Nat.le_refl _) (fun b18 => ?_))
  refine R_cons rfl (op_puts (xs := List.replicate (zeros all.length) 0) (fun o' => [(b18, _), (b10, _), (b2, _), (b1, o')]) hr1 (fun o' => .there (.there (.there .here))) rfl (by simp) (fun w hm => by have := hm.readsAll (b := b18) (n := zeros all.length) (by repeat (first | exact List.Mem.head _ | apply List.Mem.tail)) (by simp); rw [bytesV_zeros]; exact this)
    (fun w hm _ a ha => by cases ha; exact (List.pairwise_cons.1 hm.apart).1 (b1, _) (by repeat (first | exact List.Mem.head _ | apply List.Mem.tail))) (Nat.le_refl _) (by unfold maxLen; omega) (by rw [List.length_append]; simp only [List.length_cons, List.length_nil]; omega) rfl (fun cs2 hr2 => ?_))
  refine R_nil ?_
  repeat (first | refine S_scope ?_ | refine S_label ?_ | refine E_noGoto_normal ?_ | refine E_noGoto_ret ?_ | refine E_noGoto_exit ?_ | refine S_yes rfl (by first | with_reducible rfl | decide) ?_ | refine S_no rfl (by first | with_reducible rfl | decide) ?_ | refine S_seq ?_ | refine E_seq ?_ | refine S_block ?_ | refine E_block_normal ?_ | refine S_skip ?_ | refine S_exit ?_ | refine S_ret ?_ | refine E_then_exit ?_ | refine E_then_ret ?_ | refine E_block_ret ?_ | refine E_block_exit ?_ | refine E_block_exit_other rfl ?_)
  refine S_region ?_
  refine R_cons rfl (op_pure (p_assign rfl) rfl ?_)
  refine R_nil ?_
  repeat (first | refine S_scope ?_ | refine S_label ?_ | refine E_noGoto_normal ?_ | refine E_noGoto_ret ?_ | refine E_noGoto_exit ?_ | refine S_yes rfl (by first | with_reducible rfl | decide) ?_ | refine S_no rfl (by first | with_reducible rfl | decide) ?_ | refine S_seq ?_ | refine E_seq ?_ | refine S_block ?_ | refine E_block_normal ?_ | refine S_skip ?_ | refine S_exit ?_ | refine S_ret ?_ | refine E_then_exit ?_ | refine E_then_ret ?_ | refine E_block_ret ?_ | refine E_block_exit ?_ | refine E_block_exit_other rfl ?_)
  have hbl := be_length 8 (8 * all.length)
  refine S_loop (σ := Nat × List Value) (fun s => [(5, .int .i64 (56 - 8 * (s.1 : Int))), (3, .int .u64 ((all.length : Int) * 8)), (2, .pointer (some ⟨b2, 0, none⟩)), (1, .pointer (some ⟨b1, 0, none⟩))]) (fun s => [(b2, .cells (bytesV (List.replicate 32 0)).toArray 23 (0, 0)), (b1, .cells s.2.toArray 149 (0, 0))])
    (fun s => s.1 ≤ 8 ∧ Rep (all ++ [128] ++ List.replicate (zeros all.length) 0 ++ (be 8 (8 * all.length)).take s.1) s.2) (fun s => 8 - s.1) (0, cs2) ⟨Nat.zero_le _, by show Rep (_ ++ List.take 0 _) cs2; rw [List.take_zero, List.append_nil]; exact hr2⟩ (by repeat (first | exact Sub.nil | refine Sub.cons rfl ?_)) (.drop (.drop (Fewer.refl _))) ?_
  rintro ⟨i, cs3⟩ ⟨hi, hr3⟩
  dsimp only at hi hr3 ⊢
  repeat (first | refine S_scope ?_ | refine S_label ?_ | refine E_noGoto_normal ?_ | refine E_noGoto_ret ?_ | refine E_noGoto_exit ?_ | refine S_yes rfl (by first | with_reducible rfl | decide) ?_ | refine S_no rfl (by first | with_reducible rfl | decide) ?_ | refine S_seq ?_ | refine E_seq ?_ | refine S_block ?_ | refine E_block_normal ?_ | refine S_skip ?_ | refine S_exit ?_ | refine S_ret ?_ | refine E_then_exit ?_ | refine E_then_ret ?_ | refine E_block_ret ?_ | refine E_block_exit ?_ | refine E_block_exit_other rfl ?_)
  refine S_region ?_
  refine R_cons rfl (op_pure (p_move rfl) rfl ?_)
  refine R_cons rfl (op_pure (p_bin rfl rfl (b_geq (by first | assumption | exact decide_eq_true (by omega) | exact decide_eq_false (by omega) | rfl))) rfl ?_)
  refine R_nil ?_
  repeat (first | refine S_scope ?_ | refine S_label ?_ | refine E_noGoto_normal ?_ | refine E_noGoto_ret ?_ | refine E_noGoto_exit ?_ | refine S_yes rfl (by first | with_reducible rfl | decide) ?_ | refine S_no rfl (by first | with_reducible rfl | decide) ?_ | refine S_seq ?_ | refine E_seq ?_ | refine S_block ?_ | refine E_block_normal ?_ | refine S_skip ?_ | refine S_exit ?_ | refine S_ret ?_ | refine E_then_exit ?_ | refine E_then_ret ?_ | refine E_block_ret ?_ | refine E_block_exit ?_ | refine E_block_exit_other rfl ?_)
  refine S_cond rfl (fun hlt => ?_) (fun hge => ?_)
  · have hlt' : i < 8 := by simp at hlt; omega
    have hsh : ((all.length : Int) * 8) / 2 ^ (56 - 8 * (i : Int)).toNat = ((8 * all.length / 2 ^ (8 * (7 - i)) : Nat) : Int) := by
      rw [show ((all.length : Int) * 8) = ((8 * all.length : Nat) : Int) by omega, show (56 - 8 * (i : Int)) = ((8 * (7 - i) : Nat) : Int) by omega]
      exact shr_nat _ _
    have hbt := be_take 8 (8 * all.length) i hlt'
    generalize hq : 8 * all.length / 2 ^ (8 * (7 - i)) = q at hsh
    rw [show 8 - 1 - i = 7 - i by omega, hq] at hbt
    repeat (first | refine S_scope ?_ | refine S_label ?_ | refine E_noGoto_normal ?_ | refine E_noGoto_ret ?_ | refine E_noGoto_exit ?_ | refine S_yes rfl (by first | with_reducible rfl | decide) ?_ | refine S_no rfl (by first | with_reducible rfl | decide) ?_ | refine S_seq ?_ | refine E_seq ?_ | refine S_block ?_ | refine E_block_normal ?_ | refine S_skip ?_ | refine S_exit ?_ | refine S_ret ?_ | refine E_then_exit ?_ | refine E_then_ret ?_ | refine E_block_ret ?_ | refine E_block_exit ?_ | refine E_block_exit_other rfl ?_)
    refine S_region ?_
    refine R_cons rfl (op_pure (p_move rfl) rfl ?_)
    refine R_cons rfl (op_pure (p_move rfl) rfl ?_)
    refine R_cons rfl (op_pure (by exact p_bin rfl rfl (b_shr (by omega) (by show _ ≤ (64 : Int); omega) (by assumption))) rfl ?_)
    refine R_cons rfl (op_pure (by exact p_convert rfl sc_u64 ik_u8 (by first | assumption | exact u8_nat _ | exact w8_i64 _ | exact w8_u64 _ | exact w8_u32n _ | exact w32_u64 _ | exact w32_i64 _ | exact w_in_i64 (by omega) | exact w_in_u64 (by omega) | exact w_in_u32 (by omega))) rfl ?_)
    refine R_cons rfl (op_buildSliceAll (ps := [(0, .tmp 27)]) rfl slc_u8s.1 el_u8 (by decide) (by decide) (by first | kernel_rfl | rfl) rfl (Nat.le_refl _) (fun b28 => ?_))
    refine R_cons rfl (op_puts (xs := [UInt8.ofNat q]) (fun o' => [(b28, _), (b2, _), (b1, o')]) hr3 (fun o' => .there (.there .here)) rfl rfl (fun w hm => hm.readsAll (b := b28) (by repeat (first | exact List.Mem.head _ | apply List.Mem.tail)) rfl)
      (fun w hm _ a ha => by cases ha; exact (List.pairwise_cons.1 hm.apart).1 (b1, _) (by repeat (first | exact List.Mem.head _ | apply List.Mem.tail))) (Nat.le_refl _) (by unfold maxLen; omega) (by simp [hbl]; omega) rfl (fun cs4 hr4 => ?_))
    refine R_nil ?_
    repeat (first | refine S_scope ?_ | refine S_label ?_ | refine E_noGoto_normal ?_ | refine E_noGoto_ret ?_ | refine E_noGoto_exit ?_ | refine S_yes rfl (by first | with_reducible rfl | decide) ?_ | refine S_no rfl (by first | with_reducible rfl | decide) ?_ | refine S_seq ?_ | refine E_seq ?_ | refine S_block ?_ | refine E_block_normal ?_ | refine S_skip ?_ | refine S_exit ?_ | refine S_ret ?_ | refine E_then_exit ?_ | refine E_then_ret ?_ | refine E_block_ret ?_ | refine E_block_exit ?_ | refine E_block_exit_other rfl ?_)
    refine S_region ?_
    refine R_cons rfl (op_pure (p_move rfl) rfl ?_)
    refine R_cons rfl (op_pure (by exact p_bin rfl rfl (b_sub (w_in_i64 (by omega)))) rfl ?_)
    refine R_cons rfl (op_pure (p_assign rfl) rfl ?_)
    refine R_nil ?_
    repeat (first | refine S_scope ?_ | refine S_label ?_ | refine E_noGoto_normal ?_ | refine E_noGoto_ret ?_ | refine E_noGoto_exit ?_ | refine S_yes rfl (by first | with_reducible rfl | decide) ?_ | refine S_no rfl (by first | with_reducible rfl | decide) ?_ | refine S_seq ?_ | refine E_seq ?_ | refine S_block ?_ | refine E_block_normal ?_ | refine S_skip ?_ | refine S_exit ?_ | refine S_ret ?_ | refine E_then_exit ?_ | refine E_then_ret ?_ | refine E_block_ret ?_ | refine E_block_exit ?_ | refine E_block_exit_other rfl ?_)
    rw [List.append_assoc, ← hbt] at hr4
    exact E_round (s := (i, cs3)) (i + 1, cs4) ⟨by show i + 1 ≤ 8; omega, hr4⟩ (by show 8 - (i + 1) < 8 - i; omega) (Sub.cons (by show some _ = some _; congr 2; omega) (Sub.cons rfl (Sub.cons rfl (Sub.cons rfl Sub.nil)))) (.drop (Fewer.refl _))
  have hge' : i = 8 := by simp at hge; omega
  subst hge'
  have htot : all ++ [128] ++ List.replicate (zeros all.length) 0 ++ (be 8 (8 * all.length)).take 8 = all ++ pad all.length := by
    rw [List.take_of_length_le (by omega), pad_eq]; simp
  rw [htot] at hr3
  have hsha : outB (stOf (all ++ pad all.length)) = sha all := by unfold sha; rfl
  have hwd := hr3.word
  have hlen := hr3.len
  generalize hS : stOf (all ++ pad all.length) = S at hsha hwd
  have hol := outB_length S
  repeat (first | refine S_scope ?_ | refine S_label ?_ | refine E_noGoto_normal ?_ | refine E_noGoto_ret ?_ | refine E_noGoto_exit ?_ | refine S_yes rfl (by first | with_reducible rfl | decide) ?_ | refine S_no rfl (by first | with_reducible rfl | decide) ?_ | refine S_seq ?_ | refine E_seq ?_ | refine S_block ?_ | refine E_block_normal ?_ | refine S_skip ?_ | refine S_exit ?_ | refine S_ret ?_ | refine E_then_exit ?_ | refine E_then_ret ?_ | refine E_block_ret ?_ | refine E_block_exit ?_ | refine E_block_exit_other rfl ?_)
  refine S_region ?_
  refine R_cons rfl (op_pure (p_move rfl) rfl ?_)
  refine R_nil ?_
  repeat (first | refine S_scope ?_ | refine S_label ?_ | refine E_noGoto_normal ?_ | refine E_noGoto_ret ?_ | refine E_noGoto_exit ?_ | refine S_yes rfl (by first | with_reducible rfl | decide) ?_ | refine S_no rfl (by first | with_reducible rfl | decide) ?_ | refine S_seq ?_ | refine E_seq ?_ | refine S_block ?_ | refine E_block_normal ?_ | refine S_skip ?_ | refine S_exit ?_ | refine S_ret ?_ | refine E_then_exit ?_ | refine E_then_ret ?_ | refine E_block_ret ?_ | refine E_block_exit ?_ | refine E_block_exit_other rfl ?_)
  refine S_loop (fun i : Nat => [(30, .int .i64 (i : Int)), (2, .pointer (some ⟨b2, 0, none⟩)), (1, .pointer (some ⟨b1, 0, none⟩))])
    (fun i => [(b2, .cells (bytesV ((outB S).take i ++ List.replicate ((outB S).length - i) 0)).toArray 23 (0, 0)), (b1, .cells cs3.toArray 149 (0, 0))])
    (fun i => i ≤ 32) (fun i => 32 - i) 0 (by omega) (by repeat (first | exact Sub.nil | refine Sub.cons rfl ?_)) (.keep (by rw [hol]; rfl) (Fewer.refl _)) ?_
  intro i hi
  repeat (first | refine S_scope ?_ | refine S_label ?_ | refine E_noGoto_normal ?_ | refine E_noGoto_ret ?_ | refine E_noGoto_exit ?_ | refine S_yes rfl (by first | with_reducible rfl | decide) ?_ | refine S_no rfl (by first | with_reducible rfl | decide) ?_ | refine S_seq ?_ | refine E_seq ?_ | refine S_block ?_ | refine E_block_normal ?_ | refine S_skip ?_ | refine S_exit ?_ | refine S_ret ?_ | refine E_then_exit ?_ | refine E_then_ret ?_ | refine E_block_ret ?_ | refine E_block_exit ?_ | refine E_block_exit_other rfl ?_)
  refine S_region ?_
  refine R_cons rfl (op_pure (p_bin rfl rfl (b_lss (by first | assumption | exact decide_eq_true (by omega) | exact decide_eq_false (by omega) | rfl))) rfl ?_)
  refine R_nil ?_
  repeat (first | refine S_scope ?_ | refine S_label ?_ | refine E_noGoto_normal ?_ | refine E_noGoto_ret ?_ | refine E_noGoto_exit ?_ | refine S_yes rfl (by first | with_reducible rfl | decide) ?_ | refine S_no rfl (by first | with_reducible rfl | decide) ?_ | refine S_seq ?_ | refine E_seq ?_ | refine S_block ?_ | refine E_block_normal ?_ | refine S_skip ?_ | refine S_exit ?_ | refine S_ret ?_ | refine E_then_exit ?_ | refine E_then_ret ?_ | refine E_block_ret ?_ | refine E_block_exit ?_ | refine E_block_exit_other rfl ?_)
  have hll : ((outB S).take i ++ List.replicate ((outB S).length - i) 0).length = 32 := by simp [hol]; omega
  refine S_cond rfl (fun hlt => ?_) (fun hge => ?_)
  · have hlt' : i < 32 := by simp at hlt; omega
    have cw := hwd (i / 4) (by omega)
    generalize hx : S.list.getD (i / 4) 0 = x at cw
    have hsh : (x.toNat : Int) / 2 ^ (8 * (3 - ((i % 4 : Nat) : Int))).toNat = ((x.toNat / 2 ^ (24 - 8 * (i % 4)) : Nat) : Int) := by
      rw [show (8 * (3 - ((i % 4 : Nat) : Int))) = ((24 - 8 * (i % 4) : Nat) : Int) by omega]
      exact shr_nat _ _
    have hg := outB_get S i hlt'
    rw [hx] at hg
    repeat (first | refine S_scope ?_ | refine S_label ?_ | refine E_noGoto_normal ?_ | refine E_noGoto_ret ?_ | refine E_noGoto_exit ?_ | refine S_yes rfl (by first | with_reducible rfl | decide) ?_ | refine S_no rfl (by first | with_reducible rfl | decide) ?_ | refine S_seq ?_ | refine E_seq ?_ | refine S_block ?_ | refine E_block_normal ?_ | refine S_skip ?_ | refine S_exit ?_ | refine S_ret ?_ | refine E_then_exit ?_ | refine E_then_ret ?_ | refine E_block_ret ?_ | refine E_block_exit ?_ | refine E_block_exit_other rfl ?_)
    refine S_region ?_
    refine R_cons rfl (op_pure (p_move rfl) rfl ?_)
    refine R_cons rfl (op_pure (p_assign rfl) rfl ?_)
    refine R_nil ?_
    repeat (first | refine S_scope ?_ | refine S_label ?_ | refine E_noGoto_normal ?_ | refine E_noGoto_ret ?_ | refine E_noGoto_exit ?_ | refine S_yes rfl (by first | with_reducible rfl | decide) ?_ | refine S_no rfl (by first | with_reducible rfl | decide) ?_ | refine S_seq ?_ | refine E_seq ?_ | refine S_block ?_ | refine E_block_normal ?_ | refine S_skip ?_ | refine S_exit ?_ | refine S_ret ?_ | refine E_then_exit ?_ | refine E_then_ret ?_ | refine E_block_ret ?_ | refine E_block_exit ?_ | refine E_block_exit_other rfl ?_)
    refine S_region ?_
    refine R_cons rfl (op_pure (p_move rfl) rfl ?_)
    refine R_cons rfl (op_pure (p_move rfl) rfl ?_)
    refine R_cons rfl (op_pure (by exact p_bin rfl rfl (b_quo (by decide) (nat_quo_i64 _ 4 (by omega)))) rfl ?_)
    refine R_cons rfl (op_pure (by first | exact p_fieldAddr0 rfl fd_Run_1 | exact p_fieldAddr rfl fd_Run_1) rfl ?_)
    refine R_cons rfl (op_pure (by first | exact p_indexArr0 rfl rfl (by repeat (first | assumption | exact lit0 | exact lit1 | apply IntWalk.up_add | apply IntWalk.up_div | apply IntWalk.up_mod | apply IntWalk.up_mul | rfl)) arr_eight (by omega) | exact p_indexArr rfl rfl (by repeat (first | assumption | exact lit0 | exact lit1 | apply IntWalk.up_add | apply IntWalk.up_div | apply IntWalk.up_mod | apply IntWalk.up_mul | rfl)) arr_eight (by omega)) rfl ?_)
    refine R_cons rfl (op_pure (by first | exact p_load rfl sc_u32 (by repeat (first | exact List.Mem.head _ | apply List.Mem.tail)) (by first | assumption | exact bytesV_get (by omega) | exact wordsV_get (by omega) | rfl) | exact p_load_base rfl sc_u32 (by assumption) (by simp) (by assumption)) rfl ?_)
    refine R_cons rfl (op_pure (p_move rfl) rfl ?_)
    refine R_cons rfl (op_pure (by first | exact p_bin rfl rfl (b_rem (by decide) (by assumption)) | exact p_bin rfl rfl (b_rem (by decide) (nat_rem _ 4))) rfl ?_)
    refine R_cons rfl (op_pure (by exact p_bin rfl rfl (b_sub (w_in_i64 (by omega)))) rfl ?_)
    refine R_cons rfl (op_pure (by exact p_bin rfl rfl (b_mul (w_in_i64 (by omega)))) rfl ?_)
    refine R_cons rfl (op_pure (by first | exact p_bin rfl rfl (b_shr (by omega) (by show _ ≤ (32 : Int); omega) (by assumption)) | exact p_bin rfl rfl (b_shr (by omega) (by show _ ≤ (32 : Int); omega) (k32_shr _ _ (by omega)))) rfl ?_)
    refine R_cons rfl (op_pure (by exact p_convert rfl sc_u32 ik_u8 (by first | assumption | exact u8_nat _ | exact w8_i64 _ | exact w8_u64 _ | exact w8_u32n _ | exact w32_u64 _ | exact w32_i64 _ | exact w_in_i64 (by omega) | exact w_in_u64 (by omega) | exact w_in_u32 (by omega))) rfl ?_)
    refine R_cons rfl (op_pure (by first | exact p_indexArr0 rfl rfl (by repeat (first | assumption | exact lit0 | exact lit1 | apply IntWalk.up_add | apply IntWalk.up_div | apply IntWalk.up_mod | apply IntWalk.up_mul | rfl)) arr_Sum (by omega) | exact p_indexArr rfl rfl (by repeat (first | assumption | exact lit0 | exact lit1 | apply IntWalk.up_add | apply IntWalk.up_div | apply IntWalk.up_mod | apply IntWalk.up_mul | rfl)) arr_Sum (by omega)) rfl ?_)
    refine R_cons rfl (op_store rfl rfl rfl sc_u8 (by repeat (first | exact At.here | apply At.there)) (by first | exact Nat.le_of_ble_eq_true rfl | omega | (simp only [bytesV_length, wordsV_length]; omega) | (simp only [bytesV_length, wordsV_length, List.length_cons, List.length_nil, List.length_set, List.length_append]; omega) | decide) ?_)
    refine R_nil ?_
    repeat (first | refine S_scope ?_ | refine S_label ?_ | refine E_noGoto_normal ?_ | refine E_noGoto_ret ?_ | refine E_noGoto_exit ?_ | refine S_yes rfl (by first | with_reducible rfl | decide) ?_ | refine S_no rfl (by first | with_reducible rfl | decide) ?_ | refine S_seq ?_ | refine E_seq ?_ | refine S_block ?_ | refine E_block_normal ?_ | refine S_skip ?_ | refine S_exit ?_ | refine S_ret ?_ | refine E_then_exit ?_ | refine E_then_ret ?_ | refine E_block_ret ?_ | refine E_block_exit ?_ | refine E_block_exit_other rfl ?_)
    refine S_region ?_
    refine R_cons rfl (op_pure (by exact p_bin rfl rfl (b_add (w_in_i64 (by omega)))) rfl ?_)
    refine R_cons rfl (op_pure (p_move rfl) rfl ?_)
    refine R_nil ?_
    repeat (first | refine S_scope ?_ | refine S_label ?_ | refine E_noGoto_normal ?_ | refine E_noGoto_ret ?_ | refine E_noGoto_exit ?_ | refine S_yes rfl (by first | with_reducible rfl | decide) ?_ | refine S_no rfl (by first | with_reducible rfl | decide) ?_ | refine S_seq ?_ | refine E_seq ?_ | refine S_block ?_ | refine E_block_normal ?_ | refine S_skip ?_ | refine S_exit ?_ | refine S_ret ?_ | refine E_then_exit ?_ | refine E_then_ret ?_ | refine E_block_ret ?_ | refine E_block_exit ?_ | refine E_block_exit_other rfl ?_)
    exact E_round (i + 1) (by omega) (by omega) (by repeat (first | exact Sub.nil | refine Sub.cons rfl ?_)) (.keep (by rw [bytesV_set, fill_step _ _ _ (by omega) _ hg]) (Fewer.refl _))
  · have hge' : i = 32 := by simp at hge; omega
    subst hge'
    rw [hol, Nat.sub_self, List.replicate_zero, List.append_nil, List.take_of_length_le (by omega)]
    repeat (first | refine S_scope ?_ | refine S_label ?_ | refine E_noGoto_normal ?_ | refine E_noGoto_ret ?_ | refine E_noGoto_exit ?_ | refine S_yes rfl (by first | with_reducible rfl | decide) ?_ | refine S_no rfl (by first | with_reducible rfl | decide) ?_ | refine S_seq ?_ | refine E_seq ?_ | refine S_block ?_ | refine E_block_normal ?_ | refine S_skip ?_ | refine S_exit ?_ | refine S_ret ?_ | refine E_then_exit ?_ | refine E_then_ret ?_ | refine E_block_ret ?_ | refine E_block_exit ?_ | refine E_block_exit_other rfl ?_)
    refine S_region ?_
    refine R_cons rfl (op_pure (by first | exact p_loadRow rfl row_Sum (by repeat (first | exact List.Mem.head _ | apply List.Mem.tail)) (by first | assumption | rfl | (simp only [bytesV_length, wordsV_length]; omega)) | exact p_loadPart rfl row_Sum (by repeat (first | exact List.Mem.head _ | apply List.Mem.tail)) (by first | exact Nat.le_of_ble_eq_true rfl | omega | (simp only [bytesV_length, wordsV_length, List.length_cons, List.length_nil, List.length_replicate]; omega) | (simp only [bytesV_length, Sha.sha_length, List.length_replicate] <;> omega)) (by first | assumption | rfl)) rfl ?_)
    refine R_cons rfl (op_storeRow rfl rfl (by first | exact bytesV_one _ | exact wordsV_one _ | (repeat (first | exact ones_nil | refine ones_cons rfl ?_))) row_Sum (by first | assumption | rfl | (simp only [bytesV_length, wordsV_length]; omega) | (rw [bytesV_length]; exact Sha.sha_length _)) (by repeat (first | exact At.here | apply At.there)) (by first | exact Nat.le_of_ble_eq_true rfl | omega | (simp only [bytesV_length, wordsV_length, List.length_cons, List.length_nil, List.length_replicate]; omega) | (simp only [bytesV_length, Sha.sha_length, List.length_replicate] <;> omega)) ?_)
    refine R_nil ?_
    repeat (first | refine S_scope ?_ | refine S_label ?_ | refine E_noGoto_normal ?_ | refine E_noGoto_ret ?_ | refine E_noGoto_exit ?_ | refine S_yes rfl (by first | with_reducible rfl | decide) ?_ | refine S_no rfl (by first | with_reducible rfl | decide) ?_ | refine S_seq ?_ | refine E_seq ?_ | refine S_block ?_ | refine E_block_normal ?_ | refine S_skip ?_ | refine S_exit ?_ | refine S_ret ?_ | refine E_then_exit ?_ | refine E_then_ret ?_ | refine E_block_ret ?_ | refine E_block_exit ?_ | refine E_block_exit_other rfl ?_)
    refine E_fewer (Sub.refl _) (H' := [(b2, .cells (bytesV (sha all)).toArray 23 (0, 0))]) ?_ (E_retRow rfl rfl (by repeat (first | exact List.Mem.head _ | apply List.Mem.tail)) row_Sum (by rw [bytesV_length, sha_length]) fun w' hm => ⟨rfl, hm.below⟩)
    exact .keep (by rw [lay_whole rfl, hsha]) .nil

set_option maxHeartbeats 1000000 in
theorem of_any (A : Option Addr) (n c : Nat) (xs : List UInt8) (w : World) (hl : xs.length = n) (hrd : Reads w A n (bytesV xs)) (hnc : n ≤ c) (hcm : c ≤ maxLen) (hn : n ≤ 1000000000000) :
    Calls Try.prog 18 [.slice A n c].toArray w fun e w' => e = .returned (.agg (bytesV (sha xs)).toArray) ∧ Below w.heap.size w w' := by
  subst hl
  have hsl := sha_length xs
  refine enter Try.func18 rfl Try.ntmps18 (by simp) ?_
  repeat (first | refine S_scope ?_ | refine S_label ?_ | refine E_noGoto_normal ?_ | refine E_noGoto_ret ?_ | refine E_noGoto_exit ?_ | refine S_yes rfl (by first | with_reducible rfl | decide) ?_ | refine S_no rfl (by first | with_reducible rfl | decide) ?_ | refine S_seq ?_ | refine E_seq ?_ | refine S_block ?_ | refine E_block_normal ?_ | refine S_skip ?_ | refine S_exit ?_ | refine S_ret ?_ | refine E_then_exit ?_ | refine E_then_ret ?_ | refine E_block_ret ?_ | refine E_block_exit ?_ | refine E_block_exit_other rfl ?_)
  refine S_region ?_
  refine R_cons rfl (op_allocRow zero_Sum rfl (Nat.le_refl _) (fun b2 => ?_))
  refine R_nil ?_
  repeat (first | refine S_scope ?_ | refine S_label ?_ | refine E_noGoto_normal ?_ | refine E_noGoto_ret ?_ | refine E_noGoto_exit ?_ | refine S_yes rfl (by first | with_reducible rfl | decide) ?_ | refine S_no rfl (by first | with_reducible rfl | decide) ?_ | refine S_seq ?_ | refine E_seq ?_ | refine S_block ?_ | refine E_block_normal ?_ | refine S_skip ?_ | refine S_exit ?_ | refine S_ret ?_ | refine E_then_exit ?_ | refine E_then_ret ?_ | refine E_block_ret ?_ | refine E_block_exit ?_ | refine E_block_exit_other rfl ?_)
  refine S_region ?_
  refine R_cons rfl (op_call (vs := []) (first := []) (cap := []) rfl rfl Try.func48 rfl (by kernel_rfl) rfl fun w1 hm => (new_any w1).mono ?_)
  rintro e w2 ⟨g, cs0, rfl, hr0, hg, hgo, hbel⟩
  refine ⟨_, _, rfl, hm.call1 (Nat.le_refl _) hbel hg hgo, ?_⟩
  refine R_cons rfl (op_pure (p_assign rfl) rfl ?_)
  refine R_nil ?_
  repeat (first | refine S_scope ?_ | refine S_label ?_ | refine E_noGoto_normal ?_ | refine E_noGoto_ret ?_ | refine E_noGoto_exit ?_ | refine S_yes rfl (by first | with_reducible rfl | decide) ?_ | refine S_no rfl (by first | with_reducible rfl | decide) ?_ | refine S_seq ?_ | refine E_seq ?_ | refine S_block ?_ | refine E_block_normal ?_ | refine S_skip ?_ | refine S_exit ?_ | refine S_ret ?_ | refine E_then_exit ?_ | refine E_then_ret ?_ | refine E_block_ret ?_ | refine E_block_exit ?_ | refine E_block_exit_other rfl ?_)
  refine S_region ?_
  refine R_cons rfl (op_pure (p_move rfl) rfl ?_)
  refine R_cons rfl (op_pure (p_move rfl) rfl ?_)
  refine R_cons rfl (op_puts (xs := xs) (fun o' => [(g, o'), (b2, _)]) hr0 (fun o' => .here) rfl rfl (fun w hm => hrd.base hm)
    (fun w' hm' h0 a ha => hm'.base_ne (p := (g, _)) (by repeat (first | exact List.Mem.head _ | apply List.Mem.tail)) (hrd.lt h0 a ha)) hnc hcm (by simp; omega) rfl (fun cs1 hr1 => ?_))
  have hlen := hr1.len
  rw [List.nil_append] at hr1
  refine R_nil ?_
  repeat (first | refine S_scope ?_ | refine S_label ?_ | refine E_noGoto_normal ?_ | refine E_noGoto_ret ?_ | refine E_noGoto_exit ?_ | refine S_yes rfl (by first | with_reducible rfl | decide) ?_ | refine S_no rfl (by first | with_reducible rfl | decide) ?_ | refine S_seq ?_ | refine E_seq ?_ | refine S_block ?_ | refine E_block_normal ?_ | refine S_skip ?_ | refine S_exit ?_ | refine S_ret ?_ | refine E_then_exit ?_ | refine E_then_ret ?_ | refine E_block_ret ?_ | refine E_block_exit ?_ | refine E_block_exit_other rfl ?_)
  refine S_region ?_
  refine R_cons rfl (op_pure (p_move rfl) rfl ?_)
  refine R_cons rfl (op_pure (p_nilCheck rfl) rfl ?_)
  refine R_cons rfl (op_pure (by first | exact p_loadRow rfl row_Run (by repeat (first | exact List.Mem.head _ | apply List.Mem.tail)) (by first | assumption | rfl | (simp only [bytesV_length, wordsV_length]; omega)) | exact p_loadPart rfl row_Run (by repeat (first | exact List.Mem.head _ | apply List.Mem.tail)) (by first | exact Nat.le_of_ble_eq_true rfl | omega | (simp only [bytesV_length, wordsV_length, List.length_cons, List.length_nil, List.length_replicate]; omega) | (simp only [bytesV_length, Sha.sha_length, List.length_replicate] <;> omega)) (by first | assumption | rfl)) rfl ?_)
  refine R_cons rfl (op_callV rfl rfl Try.func50 rfl (by kernel_rfl) rfl (Nat.le_refl _) (fun w' _ => ended_any _ cs1 hr1 hn w') ?_)
  refine R_cons rfl (op_storeRow rfl rfl (by first | exact bytesV_one _ | exact wordsV_one _ | (repeat (first | exact ones_nil | refine ones_cons rfl ?_))) row_Sum (by first | assumption | rfl | (simp only [bytesV_length, wordsV_length]; omega) | (rw [bytesV_length]; exact Sha.sha_length _)) (by repeat (first | exact At.here | apply At.there)) (by first | exact Nat.le_of_ble_eq_true rfl | omega | (simp only [bytesV_length, wordsV_length, List.length_cons, List.length_nil, List.length_replicate]; omega) | (simp only [bytesV_length, Sha.sha_length, List.length_replicate] <;> omega)) ?_)
  refine R_nil ?_
  repeat (first | refine S_scope ?_ | refine S_label ?_ | refine E_noGoto_normal ?_ | refine E_noGoto_ret ?_ | refine E_noGoto_exit ?_ | refine S_yes rfl (by first | with_reducible rfl | decide) ?_ | refine S_no rfl (by first | with_reducible rfl | decide) ?_ | refine S_seq ?_ | refine E_seq ?_ | refine S_block ?_ | refine E_block_normal ?_ | refine S_skip ?_ | refine S_exit ?_ | refine S_ret ?_ | refine E_then_exit ?_ | refine E_then_ret ?_ | refine E_block_ret ?_ | refine E_block_exit ?_ | refine E_block_exit_other rfl ?_)
  refine E_fewer (Sub.refl _) (H' := [(b2, .cells (bytesV (sha xs)).toArray 23 (0, 0))]) ?_ (E_retRow rfl rfl (by repeat (first | exact List.Mem.head _ | apply List.Mem.tail)) row_Sum (by rw [bytesV_length, sha_length]) fun w' hm => ⟨rfl, hm.below⟩)
  exact .drop (.keep (by rw [lay_whole (by rw [bytesV_length, bytesV_length, sha_length]; rfl)]) .nil)

theorem there_run (b : Nat) (cs : List Value) (w : World) (hb : w.heap[b]? = some (.cells cs.toArray 149 (0, 0))) (h0 : cs[0]? = some (.bool true)) : Calls Try.prog 90 [.pointer (some ⟨b, 0, none⟩)].toArray w fun e w' => e = .returned (.bool true) ∧ Below w.heap.size w w' := by
  have hbl : b < w.heap.size := (Array.getElem?_eq_some_iff.1 hb).1
  have hc : w.cell? ⟨b, 0, none⟩ = some (.bool true) := by rw [cell_of_row w b 0 _ _ _ hb]; simpa using h0
  refine enter Try.func90 rfl Try.ntmps90 (by simp) ?_
  repeat (first | refine S_scope ?_ | refine S_label ?_ | refine E_noGoto_normal ?_ | refine E_noGoto_ret ?_ | refine E_noGoto_exit ?_ | refine S_yes rfl (by first | with_reducible rfl | decide) ?_ | refine S_no rfl (by first | with_reducible rfl | decide) ?_ | refine S_seq ?_ | refine E_seq ?_ | refine S_block ?_ | refine E_block_normal ?_ | refine S_skip ?_ | refine S_exit ?_ | refine S_ret ?_ | refine E_then_exit ?_ | refine E_then_ret ?_ | refine E_block_ret ?_ | refine E_block_exit ?_ | refine E_block_exit_other rfl ?_)
  refine S_region ?_
  refine R_cons rfl (op_pure (p_assign rfl) rfl ?_)
  refine R_nil ?_
  repeat (first | refine S_scope ?_ | refine S_label ?_ | refine E_noGoto_normal ?_ | refine E_noGoto_ret ?_ | refine E_noGoto_exit ?_ | refine S_yes rfl (by first | with_reducible rfl | decide) ?_ | refine S_no rfl (by first | with_reducible rfl | decide) ?_ | refine S_seq ?_ | refine E_seq ?_ | refine S_block ?_ | refine E_block_normal ?_ | refine S_skip ?_ | refine S_exit ?_ | refine S_ret ?_ | refine E_then_exit ?_ | refine E_then_ret ?_ | refine E_block_ret ?_ | refine E_block_exit ?_ | refine E_block_exit_other rfl ?_)
  refine S_region ?_
  refine R_cons rfl (op_pure (p_move rfl) rfl ?_)
  refine R_cons rfl (op_pure (p_neq_nil rfl rfl ptr_pRun) rfl ?_)
  refine R_cons rfl (op_pure (p_move rfl) rfl ?_)
  first | refine R_pass rfl rfl rfl rfl ?_ | refine R_pass_undef rfl rfl rfl ?_ | refine R_guard rfl rfl rfl (op_pure (p_move rfl) rfl ?_)
  first | refine R_pass rfl rfl rfl rfl ?_ | refine R_pass_undef rfl rfl rfl ?_ | refine R_guard rfl rfl rfl (op_pure (p_nilCheck rfl) rfl ?_)
  first | refine R_pass rfl rfl rfl rfl ?_ | refine R_pass_undef rfl rfl rfl ?_ | refine R_guard rfl rfl rfl (op_pure (by first | exact p_fieldAddr0 rfl fd_Run_0 | exact p_fieldAddr rfl fd_Run_0) rfl ?_)
  first | refine R_pass rfl rfl rfl rfl ?_ | refine R_pass_undef rfl rfl rfl ?_ | refine R_guard rfl rfl rfl (op_pure (by first | exact p_load rfl sc_bool (by repeat (first | exact List.Mem.head _ | apply List.Mem.tail)) (by first | assumption | exact bytesV_get (by omega) | exact wordsV_get (by omega) | rfl) | exact p_load_base rfl sc_bool (by assumption) (by simp) (by assumption)) rfl ?_)
  refine R_cons rfl (op_pure (by first | exact p_pick_yes rfl rfl | exact p_pick_no rfl rfl | exact p_pick rfl rfl rfl) rfl ?_)
  refine R_cons rfl (op_pure (p_assign rfl) rfl ?_)
  refine R_nil ?_
  repeat (first | refine S_scope ?_ | refine S_label ?_ | refine E_noGoto_normal ?_ | refine E_noGoto_ret ?_ | refine E_noGoto_exit ?_ | refine S_yes rfl (by first | with_reducible rfl | decide) ?_ | refine S_no rfl (by first | with_reducible rfl | decide) ?_ | refine S_seq ?_ | refine E_seq ?_ | refine S_block ?_ | refine E_block_normal ?_ | refine S_skip ?_ | refine S_exit ?_ | refine S_ret ?_ | refine E_then_exit ?_ | refine E_then_ret ?_ | refine E_block_ret ?_ | refine E_block_exit ?_ | refine E_block_exit_other rfl ?_)
  exact E_ret1 rfl rfl fun w' hm => ⟨rfl, hm.below⟩

theorem write_any (b : Nat) (all : List UInt8) (cs : List Value) (hrep : Rep all cs) (A : Option Addr) (n c : Nat) (xs : List UInt8) (w : World) (hb : w.heap[b]? = some (.cells cs.toArray 149 (0, 0))) (hl : xs.length = n) (hrd : Reads w A n (bytesV xs))
    (hne : n ≠ 0 → ∀ a, A = some a → a.block ≠ b) (hnc : n ≤ c) (hcm : c ≤ maxLen) (hmany : all.length + n ≤ 1152921504606846976) :
    Calls Try.prog 73 [.pointer (some ⟨b, 0, none⟩), .slice A n c].toArray w fun e w' => e = .returned (.int .i64 0) ∧ ∃ cs', Rep (all ++ xs) cs' ∧ Mem w.heap.size ⟨w, [b]⟩ [(b, .cells cs'.toArray 149 (0, 0))] w' := by
  have hbl : b < w.heap.size := (Array.getElem?_eq_some_iff.1 hb).1
  refine enter_at Try.func73 rfl Try.ntmps73 (by simp) (Mem.one hb) ?_
  repeat (first | refine S_scope ?_ | refine S_label ?_ | refine E_noGoto_normal ?_ | refine E_noGoto_ret ?_ | refine E_noGoto_exit ?_ | refine S_yes rfl (by first | with_reducible rfl | decide) ?_ | refine S_no rfl (by first | with_reducible rfl | decide) ?_ | refine S_seq ?_ | refine E_seq ?_ | refine S_block ?_ | refine E_block_normal ?_ | refine S_skip ?_ | refine S_exit ?_ | refine S_ret ?_ | refine E_then_exit ?_ | refine E_then_ret ?_ | refine E_block_ret ?_ | refine E_block_exit ?_ | refine E_block_exit_other rfl ?_)
  refine S_region ?_
  refine R_cons rfl (op_pure (p_assign rfl) rfl ?_)
  refine R_nil ?_
  repeat (first | refine S_scope ?_ | refine S_label ?_ | refine E_noGoto_normal ?_ | refine E_noGoto_ret ?_ | refine E_noGoto_exit ?_ | refine S_yes rfl (by first | with_reducible rfl | decide) ?_ | refine S_no rfl (by first | with_reducible rfl | decide) ?_ | refine S_seq ?_ | refine E_seq ?_ | refine S_block ?_ | refine E_block_normal ?_ | refine S_skip ?_ | refine S_exit ?_ | refine S_ret ?_ | refine E_then_exit ?_ | refine E_then_ret ?_ | refine E_block_ret ?_ | refine E_block_exit ?_ | refine E_block_exit_other rfl ?_)
  refine S_region ?_
  refine R_cons rfl (op_pure (p_move rfl) rfl ?_)
  refine R_cons rfl (op_callV rfl rfl Try.func90 rfl (by kernel_rfl) rfl (Nat.le_refl _) (fun w' hm => there_run b cs w' (hm.own (b, _) (by repeat (first | exact List.Mem.head _ | apply List.Mem.tail))).2 hrep.head) ?_)
  refine R_cons rfl (op_pure (p_not rfl) rfl ?_)
  refine R_nil ?_
  repeat (first | refine S_scope ?_ | refine S_label ?_ | refine E_noGoto_normal ?_ | refine E_noGoto_ret ?_ | refine E_noGoto_exit ?_ | refine S_yes rfl (by first | with_reducible rfl | decide) ?_ | refine S_no rfl (by first | with_reducible rfl | decide) ?_ | refine S_seq ?_ | refine E_seq ?_ | refine S_block ?_ | refine E_block_normal ?_ | refine S_skip ?_ | refine S_exit ?_ | refine S_ret ?_ | refine E_then_exit ?_ | refine E_then_ret ?_ | refine E_block_ret ?_ | refine E_block_exit ?_ | refine E_block_exit_other rfl ?_)
  refine S_region ?_
  refine R_cons rfl (op_pure (p_move rfl) rfl ?_)
  refine R_cons rfl (op_pure (p_move rfl) rfl ?_)
  refine R_cons rfl (op_puts (xs := xs) (fun o' => [(b, o')]) hrep (fun o' => .here) rfl hl (fun w' hm => by
      by_cases h0 : n = 0
      · exact ⟨hrd.1, fun h => absurd h0 h⟩
      · exact hrd.off1 (hne h0) hm) (fun w' _ => hne) hnc hcm hmany rfl (fun cs1 hr1 => ?_))
  refine R_nil ?_
  repeat (first | refine S_scope ?_ | refine S_label ?_ | refine E_noGoto_normal ?_ | refine E_noGoto_ret ?_ | refine E_noGoto_exit ?_ | refine S_yes rfl (by first | with_reducible rfl | decide) ?_ | refine S_no rfl (by first | with_reducible rfl | decide) ?_ | refine S_seq ?_ | refine E_seq ?_ | refine S_block ?_ | refine E_block_normal ?_ | refine S_skip ?_ | refine S_exit ?_ | refine S_ret ?_ | refine E_then_exit ?_ | refine E_then_ret ?_ | refine E_block_ret ?_ | refine E_block_exit ?_ | refine E_block_exit_other rfl ?_)
  refine S_region ?_
  refine R_cons rfl (op_pure (p_assign rfl) rfl ?_)
  refine R_nil ?_
  repeat (first | refine S_scope ?_ | refine S_label ?_ | refine E_noGoto_normal ?_ | refine E_noGoto_ret ?_ | refine E_noGoto_exit ?_ | refine S_yes rfl (by first | with_reducible rfl | decide) ?_ | refine S_no rfl (by first | with_reducible rfl | decide) ?_ | refine S_seq ?_ | refine E_seq ?_ | refine S_block ?_ | refine E_block_normal ?_ | refine S_skip ?_ | refine S_exit ?_ | refine S_ret ?_ | refine E_then_exit ?_ | refine E_then_ret ?_ | refine E_block_ret ?_ | refine E_block_exit ?_ | refine E_block_exit_other rfl ?_)
  exact E_ret1 rfl rfl fun w' hm => ⟨rfl, cs1, hr1, hm⟩

theorem sum_any (b : Nat) (all : List UInt8) (cs : List Value) (hrep : Rep all cs) (hn : all.length ≤ 1000000000000) (w : World) (hb : w.heap[b]? = some (.cells cs.toArray 149 (0, 0))) :
    Calls Try.prog 74 [.pointer (some ⟨b, 0, none⟩)].toArray w fun e w' => e = .returned (.agg (bytesV (sha all)).toArray) ∧ Below w.heap.size w w' := by
  have hsl := sha_length all
  have hlen := hrep.len
  have hbl : b < w.heap.size := (Array.getElem?_eq_some_iff.1 hb).1
  refine (?_ : Calls Try.prog 74 _ w fun e w' => e = .returned (.agg (bytesV (sha all)).toArray) ∧ Mem w.heap.size ⟨w, [b]⟩ [(b, .cells cs.toArray 149 (0, 0))] w').mono fun e w' ⟨he, hm⟩ => ⟨he, ⟨hm.chg.os, hm.chg.tape, hm.chg.output, hm.chg.size, fun k hk => ?_⟩⟩
  · refine enter_at Try.func74 rfl Try.ntmps74 (by simp) (Mem.one hb) ?_
    repeat (first | refine S_scope ?_ | refine S_label ?_ | refine E_noGoto_normal ?_ | refine E_noGoto_ret ?_ | refine E_noGoto_exit ?_ | refine S_yes rfl (by first | with_reducible rfl | decide) ?_ | refine S_no rfl (by first | with_reducible rfl | decide) ?_ | refine S_seq ?_ | refine E_seq ?_ | refine S_block ?_ | refine E_block_normal ?_ | refine S_skip ?_ | refine S_exit ?_ | refine S_ret ?_ | refine E_then_exit ?_ | refine E_then_ret ?_ | refine E_block_ret ?_ | refine E_block_exit ?_ | refine E_block_exit_other rfl ?_)
    refine S_region ?_
    refine R_cons rfl (op_allocRow zero_Sum rfl (Nat.le_refl _) (fun b2 => ?_))
    refine R_nil ?_
    repeat (first | refine S_scope ?_ | refine S_label ?_ | refine E_noGoto_normal ?_ | refine E_noGoto_ret ?_ | refine E_noGoto_exit ?_ | refine S_yes rfl (by first | with_reducible rfl | decide) ?_ | refine S_no rfl (by first | with_reducible rfl | decide) ?_ | refine S_seq ?_ | refine E_seq ?_ | refine S_block ?_ | refine E_block_normal ?_ | refine S_skip ?_ | refine S_exit ?_ | refine S_ret ?_ | refine E_then_exit ?_ | refine E_then_ret ?_ | refine E_block_ret ?_ | refine E_block_exit ?_ | refine E_block_exit_other rfl ?_)
    refine S_region ?_
    refine R_cons rfl (op_pure (p_move rfl) rfl ?_)
    refine R_cons rfl (op_callV rfl rfl Try.func90 rfl (by kernel_rfl) rfl (Nat.le_refl _) (fun w' hm => there_run b cs w' (hm.own (b, _) (by repeat (first | exact List.Mem.head _ | apply List.Mem.tail))).2 hrep.head) ?_)
    refine R_cons rfl (op_pure (p_not rfl) rfl ?_)
    refine R_nil ?_
    repeat (first | refine S_scope ?_ | refine S_label ?_ | refine E_noGoto_normal ?_ | refine E_noGoto_ret ?_ | refine E_noGoto_exit ?_ | refine S_yes rfl (by first | with_reducible rfl | decide) ?_ | refine S_no rfl (by first | with_reducible rfl | decide) ?_ | refine S_seq ?_ | refine E_seq ?_ | refine S_block ?_ | refine E_block_normal ?_ | refine S_skip ?_ | refine S_exit ?_ | refine S_ret ?_ | refine E_then_exit ?_ | refine E_then_ret ?_ | refine E_block_ret ?_ | refine E_block_exit ?_ | refine E_block_exit_other rfl ?_)
    refine S_region ?_
    refine R_cons rfl (op_pure (p_move rfl) rfl ?_)
    refine R_cons rfl (op_pure (p_nilCheck rfl) rfl ?_)
    refine R_cons rfl (op_pure (by first | exact p_loadRow rfl row_Run (by repeat (first | exact List.Mem.head _ | apply List.Mem.tail)) (by first | assumption | rfl | (simp only [bytesV_length, wordsV_length]; omega)) | exact p_loadPart rfl row_Run (by repeat (first | exact List.Mem.head _ | apply List.Mem.tail)) (by first | exact Nat.le_of_ble_eq_true rfl | omega | (simp only [bytesV_length, wordsV_length, List.length_cons, List.length_nil, List.length_replicate]; omega) | (simp only [bytesV_length, Sha.sha_length, List.length_replicate] <;> omega)) (by first | assumption | rfl)) rfl ?_)
    refine R_cons rfl (op_callV rfl rfl Try.func50 rfl (by kernel_rfl) rfl (Nat.le_refl _) (fun w' _ => ended_any _ cs hrep hn w') ?_)
    refine R_cons rfl (op_storeRow rfl rfl (by first | exact bytesV_one _ | exact wordsV_one _ | (repeat (first | exact ones_nil | refine ones_cons rfl ?_))) row_Sum (by first | assumption | rfl | (simp only [bytesV_length, wordsV_length]; omega) | (rw [bytesV_length]; exact Sha.sha_length _)) (by repeat (first | exact At.here | apply At.there)) (by first | exact Nat.le_of_ble_eq_true rfl | omega | (simp only [bytesV_length, wordsV_length, List.length_cons, List.length_nil, List.length_replicate]; omega) | (simp only [bytesV_length, Sha.sha_length, List.length_replicate] <;> omega)) ?_)
    refine R_nil ?_
    repeat (first | refine S_scope ?_ | refine S_label ?_ | refine E_noGoto_normal ?_ | refine E_noGoto_ret ?_ | refine E_noGoto_exit ?_ | refine S_yes rfl (by first | with_reducible rfl | decide) ?_ | refine S_no rfl (by first | with_reducible rfl | decide) ?_ | refine S_seq ?_ | refine E_seq ?_ | refine S_block ?_ | refine E_block_normal ?_ | refine S_skip ?_ | refine S_exit ?_ | refine S_ret ?_ | refine E_then_exit ?_ | refine E_then_ret ?_ | refine E_block_ret ?_ | refine E_block_exit ?_ | refine E_block_exit_other rfl ?_)
    refine E_fewer (Sub.refl _) (H' := [(b2, .cells (bytesV (sha all)).toArray 23 (0, 0)), (b, .cells cs.toArray 149 (0, 0))]) ?_ (E_retRow rfl rfl (by repeat (first | exact List.Mem.head _ | apply List.Mem.tail)) row_Sum (by rw [bytesV_length, sha_length]) fun w' hm => ⟨rfl, hm.fewer (.drop (Fewer.refl _))⟩)
    exact .keep (by rw [lay_whole (by rw [bytesV_length, bytesV_length, sha_length]; rfl)]) (Fewer.refl _)
  · by_cases hkb : k = b
    · subst hkb; rw [hb]; exact (hm.own _ (List.Mem.head _)).2
    · exact hm.chg.block k hk (by simpa using hkb)

/-- a call of Write on a run of the walk's own -/
theorem op_write {B : Nat} {w0 : Base} {N : Nat} {D : List Deferred} {env : Env} {H : Hp} {T : Env → Hp → Prop} {ty : TypeId} {pos : String} {after : Array Edge} {gd : Option (Nat × Bool)} {d : Nat} {x y : Operand} {ts : Array TypeId} {b : Nat} {all xs : List UInt8} {cs : List Value}
    {A : Option Addr} {n c : Nat} (HF : Obj → Hp) (hrep : Rep all cs) (hat : ∀ o', At H b (.cells cs.toArray 149 (0, 0)) o' (HF o')) (hx : looks env [x, y] = some [.pointer (some ⟨b, 0, none⟩), .slice A n c])
    (hl : xs.length = n) (hsrc : ∀ w, Mem B w0 H w → Reads w A n (bytesV xs)) (hne : ∀ w, Mem B w0 H w → n ≠ 0 → ∀ a, A = some a → a.block ≠ b) (hnc : n ≤ c) (hcm : c ≤ maxLen) (hmany : all.length + n ≤ 1152921504606846976) (hd : Nat.blt d N = true)
    (h : ∀ cs', Rep (all ++ xs) cs' → T ((d, .int .i64 0) :: env) (HF (.cells cs'.toArray 149 (0, 0)))) :
    Op1 Try.prog B w0 N D ⟨some d, .call { callee := .value (.func 73), args := [x, y].toArray, argTypes := ts }, ty, pos, after, gd⟩ env H T :=
  op_call (first := []) (cap := []) rfl hx Try.func73 rfl (by kernel_rfl) hd fun w hm => by
    refine (write_any b all cs hrep A n c xs w (hm.at_ (hat (.deferred none))) hl (hsrc w hm) (hne w hm) hnc hcm hmany).mono ?_
    rintro e w' ⟨he, cs', hr, hm'⟩
    exact ⟨_, _, he, hm.turned (hat _) hm', h cs' hr⟩
end Go.Proofs.Ytfdlafjifjndeaa
