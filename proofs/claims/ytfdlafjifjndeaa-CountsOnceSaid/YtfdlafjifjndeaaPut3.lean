/-
  Numbers as bytes: the code's Put.
-/
import Derived.Test.YtfdlafjifjndeaaPut2
namespace Go.Proofs.Ytfdlafjifjndeaa
open Go.Sha
open Go.RowKit Go.K
attribute [local irreducible] Exit.then Exit.inBlock Exit.noGoto bodyPost Code.wp QL Sx Rx Qx Ex Dx Op1 Pure1 Still1 K.Sub Calm Code.wpIn
attribute [local irreducible] Buf.hp Buf.cap Buf.addr
set_option linter.unusedVariables false

theorem call2 {B : Nat} {w0 : Base} {H : Hp} {w w' : World} (m : Mem B w0 H w) (hB : B ≤ w0.w.heap.size) (hb : Below w.heap.size w w') {g k : Nat} {o p : Obj} (hg : w.heap.size ≤ g) (hk : w.heap.size ≤ k) (hne : g ≠ k) (ho : w'.heap[g]? = some o) (hp : w'.heap[k]? = some p) :
    Mem B w0 ((g, o) :: (k, p) :: H) w' := by
  have m' := m.call1 hB hb hk hp
  refine ⟨m'.room, m'.chg, fun q hq => ?_, List.pairwise_cons.2 ⟨fun q hq => ?_, m'.apart⟩⟩
  · rcases List.mem_cons.1 hq with rfl | hq
    · exact ⟨.inl (Nat.le_trans (Nat.le_trans hB m.chg.size) hg), ho⟩
    · exact m'.own q hq
  · rcases List.mem_cons.1 hq with rfl | hq
    · exact hne
    · have := m.lt hq; show g ≠ q.1; omega
theorem E_perm {B : Nat} {w0 : Base} {N : Nat} {D : List Deferred} {env : Env} {H H' : Hp} {Q : Act → World → Prop} (hp : H.Perm H') (h : Ex B w0 N D env H' Q) : Ex B w0 N D env H Q := by
  unfold Ex at h ⊢
  exact fun a w hf hm => h a w hf (hm.perm hp)
theorem zeroC_u8s : Zs Try.prog 40 (.slice none 0 0) := ⟨by kernel_rfl, rfl⟩

set_option maxHeartbeats 2000000 in
theorem put_any (A : Option Addr) (n c : Nat) (xs : List UInt8) (v : Nat) (z : Int) (w : World) (hl : xs.length = n) (hrd : Reads w A n (bytesV xs)) (hn : n ≤ 1000000000) (hv : v ≤ 18446744073709551615) :
    Calls Try.prog 47 [.slice A n c, .int .u64 (v : Int), .int .i64 z].toArray w (MadeB 5 (xs ++ digitsB v (clampB z)) w) := by
  subst hl
  have hcl := clamp_steps z
  have hcb : clampB z ≤ 8 := by unfold clampB; omega
  generalize clampB z = m at *
  have hadd : IntKind.i64.wrap ((xs.length : Int) + (m : Int)) = ((xs.length + m : Nat) : Int) := by rw [w_in_i64 (by omega)]; omega
  refine enterM Try.func47 rfl Try.ntmps47 (by simp) ?_
  repeat (first | refine S_scope ?_ | refine S_label ?_ | refine E_noGoto_normal ?_ | refine E_noGoto_ret ?_ | refine E_noGoto_exit ?_ | refine S_yes rfl (by first | with_reducible rfl | decide) ?_ | refine S_no rfl (by first | with_reducible rfl | decide) ?_ | refine S_seq ?_ | refine E_seq ?_ | refine S_block ?_ | refine E_block_normal ?_ | refine S_skip ?_ | refine S_exit ?_ | refine S_ret ?_ | refine E_then_exit ?_ | refine E_then_ret ?_ | refine E_block_ret ?_ | refine E_block_exit ?_ | refine E_block_exit_other rfl ?_)
  refine S_region ?_
  refine R_cons rfl (op_pure (p_assign rfl) rfl ?_)
  refine R_nil ?_
  repeat (first | refine S_scope ?_ | refine S_label ?_ | refine E_noGoto_normal ?_ | refine E_noGoto_ret ?_ | refine E_noGoto_exit ?_ | refine S_yes rfl (by first | with_reducible rfl | decide) ?_ | refine S_no rfl (by first | with_reducible rfl | decide) ?_ | refine S_seq ?_ | refine E_seq ?_ | refine S_block ?_ | refine E_block_normal ?_ | refine S_skip ?_ | refine S_exit ?_ | refine S_ret ?_ | refine E_then_exit ?_ | refine E_then_ret ?_ | refine E_block_ret ?_ | refine E_block_exit ?_ | refine E_block_exit_other rfl ?_)
  refine S_region ?_
  refine R_cons rfl (op_pure (p_move rfl) rfl ?_)
  refine R_cons rfl (op_pure (p_min2 rfl rfl rfl) rfl ?_)
  refine R_cons rfl (op_pure (p_max2 rfl rfl hcl) rfl ?_)
  refine R_cons rfl (op_pure (p_assign rfl) rfl ?_)
  refine R_nil ?_
  repeat (first | refine S_scope ?_ | refine S_label ?_ | refine E_noGoto_normal ?_ | refine E_noGoto_ret ?_ | refine E_noGoto_exit ?_ | refine S_yes rfl (by first | with_reducible rfl | decide) ?_ | refine S_no rfl (by first | with_reducible rfl | decide) ?_ | refine S_seq ?_ | refine E_seq ?_ | refine S_block ?_ | refine E_block_normal ?_ | refine S_skip ?_ | refine S_exit ?_ | refine S_ret ?_ | refine E_then_exit ?_ | refine E_then_ret ?_ | refine E_block_ret ?_ | refine E_block_exit ?_ | refine E_block_exit_other rfl ?_)
  refine S_region ?_
  refine R_cons rfl (op_pure (p_move rfl) rfl ?_)
  refine R_cons rfl (op_pure (p_len rfl slc_u8s) rfl ?_)
  refine R_cons rfl (op_pure (p_move rfl) rfl ?_)
  refine R_cons rfl (op_pure (p_bin rfl rfl (b_add hadd)) rfl ?_)
  refine R_cons rfl (op_makeSlice (l := 0) (c := xs.length + m) rfl rfl rfl rfl slc_u8s.1 el_u8 (Nat.zero_le _) (by omega) (by omega) rfl (Nat.le_refl _) (fun b16 => ?_))
  refine R_cons rfl (op_pure (p_move rfl) rfl ?_)
  refine R_cons rfl (op_appendBuf (u := some (b16, List.replicate (xs.length + m) (.int .u8 0))) (xs := []) (ys := xs) (by unfold Buf.val Buf.addr Buf.cap; simp [K.look, K.find]) rfl slc_u8s.1 el_u8 (.at_ rfl .here) (by show _ ≤ maxLen; simp; unfold maxLen; omega) (fun w hm => hrd.base hm) (by simp; omega) rfl (Nat.le_refl _) (fun u hok hne => ?_))
  refine R_cons rfl (op_alloc1 zeroC_u8s rfl (Nat.le_refl _) (fun b7 => ?_))
  refine R_cons rfl (op_store rfl rfl rfl sc_u8s (by repeat (first | exact At.here | apply At.there)) (by first | exact Nat.le_of_ble_eq_true rfl | omega | (simp only [bytesV_length, wordsV_length]; omega) | (simp only [bytesV_length, wordsV_length, List.length_cons, List.length_nil, List.length_set, List.length_append]; omega) | decide) ?_)
  refine R_nil ?_
  repeat (first | refine S_scope ?_ | refine S_label ?_ | refine E_noGoto_normal ?_ | refine E_noGoto_ret ?_ | refine E_noGoto_exit ?_ | refine S_yes rfl (by first | with_reducible rfl | decide) ?_ | refine S_no rfl (by first | with_reducible rfl | decide) ?_ | refine S_seq ?_ | refine E_seq ?_ | refine S_block ?_ | refine E_block_normal ?_ | refine S_skip ?_ | refine S_exit ?_ | refine S_ret ?_ | refine E_then_exit ?_ | refine E_then_ret ?_ | refine E_block_ret ?_ | refine E_block_exit ?_ | refine E_block_exit_other rfl ?_)
  refine S_region ?_
  refine R_cons rfl (op_pure (p_move rfl) rfl ?_)
  refine R_cons rfl (op_pure (p_move rfl) rfl ?_)
  refine R_cons rfl (op_call rfl rfl Try.func82 rfl (by kernel_rfl) rfl fun w1 hm => (digits_any v m w1).mono ?_)
  rintro e w2 ⟨bm, bn, rfl, hbm, hbn, hne2, hom, hon, hbel⟩
  refine ⟨_, _, rfl, call2 hm (Nat.le_refl _) hbel hbm hbn hne2 hom hon, ?_⟩
  refine R_nil ?_
  repeat (first | refine S_scope ?_ | refine S_label ?_ | refine E_noGoto_normal ?_ | refine E_noGoto_ret ?_ | refine E_noGoto_exit ?_ | refine S_yes rfl (by first | with_reducible rfl | decide) ?_ | refine S_no rfl (by first | with_reducible rfl | decide) ?_ | refine S_seq ?_ | refine E_seq ?_ | refine S_block ?_ | refine E_block_normal ?_ | refine S_skip ?_ | refine S_exit ?_ | refine S_ret ?_ | refine E_then_exit ?_ | refine E_then_ret ?_ | refine E_block_ret ?_ | refine E_block_exit ?_ | refine E_block_exit_other rfl ?_)
  refine S_range (ps := [22]) (digits_iter v m bm bn w.heap.size ⟨w, []⟩ hv hcb) (Nat.le_refl _) rfl Try.func93 rfl (by kernel_rfl) (fun _ => rfl) rfl
    (fun s : List UInt8 × Buf => (b7, .cells [s.2.val (xs ++ s.1)].toArray 40 (0, 0)) :: s.2.hp 5 (xs ++ s.1)) (fun pre s => s.1 = pre ∧ s.2.ok (xs ++ s.1)) ([], u) ⟨rfl, by simpa using hok⟩ (by simp only [List.append_nil]; exact Fewer.refl _)
    (fun b => [(8, .int .u8 (b.toNat : Int)), (7, .pointer (some ⟨b7, 0, none⟩))]) ?assign ?body ?done
  case assign =>
    intro l Hx p
    repeat (first | refine SI_yes rfl (by first | with_reducible rfl | decide) ?_ | refine SI_no rfl (by first | with_reducible rfl | decide) ?_ | refine SI_seq ?_ | refine EI_seq ?_ | refine SI_block ?_ | refine E_block_normal ?_ | refine SI_skip ?_ | refine SI_exit ?_ | refine SI_ret ?_ | refine E_then_exit ?_ | refine E_then_ret ?_ | refine E_block_ret ?_ | refine E_block_exit ?_ | refine E_block_exit_other rfl ?_)
    refine SI_region ?_
    refine RI_cons rfl (by intro c h; cases h) (op_pure (p_assign rfl) rfl ?_)
    refine RI_nil ?_
    repeat (first | refine SI_yes rfl (by first | with_reducible rfl | decide) ?_ | refine SI_no rfl (by first | with_reducible rfl | decide) ?_ | refine SI_seq ?_ | refine EI_seq ?_ | refine SI_block ?_ | refine E_block_normal ?_ | refine SI_skip ?_ | refine SI_exit ?_ | refine SI_ret ?_ | refine E_then_exit ?_ | refine E_then_ret ?_ | refine E_block_ret ?_ | refine E_block_exit ?_ | refine E_block_exit_other rfl ?_)
    exact EI_end fun a w hf hm => ⟨hf.sub (by repeat (first | exact Sub.nil | refine Sub.cons rfl ?_)), hm⟩
  case body =>
    rintro l Dk Lr Hj pre b ⟨done, u1⟩ hpre ⟨rfl, hok1⟩
    dsimp only at hok1 ⊢
    have hlen : (digitsB v m).length = m := digitsB_length v m
    have hdl : done.length ≤ 8 := by
      have := hpre.length_le
      simp only [List.length_append, List.length_cons, List.length_nil] at this; omega
    generalize Hj ++ [(l, Lr), (Dk, .deferred (some []))] = K at *
    repeat (first | refine SI_yes rfl (by first | with_reducible rfl | decide) ?_ | refine SI_no rfl (by first | with_reducible rfl | decide) ?_ | refine SI_seq ?_ | refine EI_seq ?_ | refine SI_block ?_ | refine E_block_normal ?_ | refine SI_skip ?_ | refine SI_exit ?_ | refine SI_ret ?_ | refine E_then_exit ?_ | refine E_then_ret ?_ | refine E_block_ret ?_ | refine E_block_exit ?_ | refine E_block_exit_other rfl ?_)
    refine SI_region ?_
    refine RI_cons rfl (by intro c h; cases h) (op_pure (by first | exact p_load rfl sc_u8s (by repeat (first | exact List.Mem.head _ | apply List.Mem.tail)) (by first | assumption | exact bytesV_get (by omega) | exact wordsV_get (by omega) | rfl) | exact p_load_base rfl sc_u8s (by assumption) (by simp) (by assumption)) rfl ?_)
    refine RI_cons rfl (by intro c h; cases h) (op_pure (p_move rfl) rfl ?_)
    refine RI_cons rfl (by intro c h; cases h) (op_buildSliceAll (ps := [(0, .tmp 24)]) rfl slc_u8s.1 el_u8 (by decide) (by decide) (by first | kernel_rfl | rfl) rfl (Nat.le_refl _) (fun b25 => ?_))
    refine RI_cons rfl (by intro c h; cases h) (op_appendBuf (u := u1) (xs := xs ++ done) (ys := [b]) rfl rfl slc_u8s.1 el_u8 (by exact .there (.left (.there .tail))) hok1 (fun w hm => hm.readsAll (b := b25) (by repeat (first | exact List.Mem.head _ | apply List.Mem.tail)) rfl) (by simp; omega) rfl (Nat.le_refl _) (fun u2 hok2 hne4 => ?_))
    refine RI_cons rfl (by intro c h; cases h) (op_store rfl rfl rfl sc_u8s (by repeat (first | exact At.here | apply At.there)) (by first | exact Nat.le_of_ble_eq_true rfl | omega | (simp only [bytesV_length, wordsV_length]; omega) | (simp only [bytesV_length, wordsV_length, List.length_cons, List.length_nil, List.length_set, List.length_append]; omega) | decide) ?_)
    refine RI_nil ?_
    repeat (first | refine SI_yes rfl (by first | with_reducible rfl | decide) ?_ | refine SI_no rfl (by first | with_reducible rfl | decide) ?_ | refine SI_seq ?_ | refine EI_seq ?_ | refine SI_block ?_ | refine E_block_normal ?_ | refine SI_skip ?_ | refine SI_exit ?_ | refine SI_ret ?_ | refine E_then_exit ?_ | refine E_then_ret ?_ | refine E_block_ret ?_ | refine E_block_exit ?_ | refine E_block_exit_other rfl ?_)
    rw [List.append_assoc] at hok2 ⊢
    refine E_perm (H' := (b25, .cells (bytesV [b]).toArray 5 (0, 0)) :: (b7, .cells [u2.val (xs ++ (done ++ [b]))].toArray 40 (0, 0)) :: (u2.hp 5 (xs ++ (done ++ [b])) ++ K)) ?_ (E_roundEnd (done ++ [b], u2) ⟨rfl, hok2⟩ (.drop (Fewer.refl _)))
    exact List.Perm.cons _ (List.Perm.cons _ (List.perm_append_comm (l₁ := K)))
  case done =>
    rintro Dk ⟨done, u1⟩ ⟨rfl, hok1⟩
    dsimp only at hok1 ⊢
    repeat (first | refine S_scope ?_ | refine S_label ?_ | refine E_noGoto_normal ?_ | refine E_noGoto_ret ?_ | refine E_noGoto_exit ?_ | refine S_yes rfl (by first | with_reducible rfl | decide) ?_ | refine S_no rfl (by first | with_reducible rfl | decide) ?_ | refine S_seq ?_ | refine E_seq ?_ | refine S_block ?_ | refine E_block_normal ?_ | refine S_skip ?_ | refine S_exit ?_ | refine S_ret ?_ | refine E_then_exit ?_ | refine E_then_ret ?_ | refine E_block_ret ?_ | refine E_block_exit ?_ | refine E_block_exit_other rfl ?_)
    refine S_region ?_
    refine R_cons rfl (op_pure (by first | exact p_load rfl sc_u8s (by repeat (first | exact List.Mem.head _ | apply List.Mem.tail)) (by first | assumption | exact bytesV_get (by omega) | exact wordsV_get (by omega) | rfl) | exact p_load_base rfl sc_u8s (by assumption) (by simp) (by assumption)) rfl ?_)
    refine R_cons rfl (op_pure (p_assign rfl) rfl ?_)
    refine R_nil ?_
    repeat (first | refine S_scope ?_ | refine S_label ?_ | refine E_noGoto_normal ?_ | refine E_noGoto_ret ?_ | refine E_noGoto_exit ?_ | refine S_yes rfl (by first | with_reducible rfl | decide) ?_ | refine S_no rfl (by first | with_reducible rfl | decide) ?_ | refine S_seq ?_ | refine E_seq ?_ | refine S_block ?_ | refine E_block_normal ?_ | refine S_skip ?_ | refine S_exit ?_ | refine S_ret ?_ | refine E_then_exit ?_ | refine E_then_ret ?_ | refine E_block_ret ?_ | refine E_block_exit ?_ | refine E_block_exit_other rfl ?_)
    refine E_retM1 rfl rfl (by repeat (first | exact At.here | apply At.there)) fun w' hm => ⟨u1, rfl, hok1, fun p hp => ?_, hm.below⟩
    have h1 := hm.own p (by simp [hp])
    refine ⟨?_, h1.2⟩
    rcases h1.1 with h | h
    · exact h
    · cases h
end Go.Proofs.Ytfdlafjifjndeaa
