/-
  Two helpers of the statements: a twin of a list of lists of bytes, with a watchman behind it; whether it is left as it was.
-/
import Derived.Test.YtcjjhiafcefocaaTwin
import Derived.Test.YtcjjhiafcefocaaK11
namespace Go.Proofs.Ytcjjhiafcefocaa
open Go.RowKit Go.K
attribute [local irreducible] Exit.then Exit.inBlock bodyPost Code.wp QL Sx Rx Qx Ex Dx Op1 Pure1 Still1 K.Sub Calm Code.wpIn
set_option linter.unusedVariables false

/-- each list of the twin has its watchman behind it -/
def Twins (w : World) (ls ts : List Sl) : Prop := ts.length = ls.length ∧ ∀ (i : Nat) s t, ls[i]? = some s → ts[i]? = some t → t.xs = s.xs ∧ Reads w t.A (t.xs.length + 1) (bytesV (t.xs ++ [77])) ∧ t.xs.length + 1 ≤ t.c ∧ t.c ≤ maxLen
def TwinsK (K : Hp) (ls ts : List Sl) : Prop := ∀ (i : Nat) s t, ls[i]? = some s → ts[i]? = some t → t.xs = s.xs ∧ ∃ b sp, t.A = some ⟨b, 0, none⟩ ∧ (b, Obj.cells (bytesV (t.xs ++ [77]) ++ sp).toArray 5 (0, 0)) ∈ K ∧ (bytesV (t.xs ++ [77]) ++ sp).length = t.c ∧ t.c ≤ maxLen
theorem twins_of {K : Hp} {ls ts : List Sl} {B : Nat} {w0 : Base} {w : World} {H : Hp} (h : TwinsK K ls ts) (hl : ts.length = ls.length) (hm : Mem B w0 H w) (hK : ∀ p ∈ K, p ∈ H) : Twins w ls ts := by
  refine ⟨hl, fun i s t hs ht => ?_⟩
  obtain ⟨hx, b, sp, hA, hin, hc, hcm⟩ := h i s t hs ht
  have hxl := bytesV_length (t.xs ++ [77])
  simp only [List.length_append, List.length_cons, List.length_nil] at hxl hc
  refine ⟨hx, ?_, by omega, hcm⟩
  rw [hA]
  exact hm.reads (hK _ hin) (by rw [List.drop_zero, show t.xs.length + 1 = (bytesV (t.xs ++ [77])).length by rw [hxl], List.take_left]) (by simp only [List.length_append]; omega)

structure TwAt where
  i : Nat
  g : Nat
  cap : Nat
  sp : List Value
  ts : List Sl
  K : Hp

set_option maxHeartbeats 2000000 in
theorem twinL_any (A : Option Addr) (c : Nat) (ls : List Sl) (w : World) (hrd : Reads w A ls.length (ls.map Sl.val)) (hok : ∀ s ∈ ls, s.ok w) (hsz : ∀ s ∈ ls, s.xs.length ≤ 1048576) (hll : ls.length ≤ 1000) :
    Calls Try.prog 23 [.slice A ls.length c].toArray w fun e w' => ∃ g cap ts b, e = .returned (.slice (some ⟨g, 0, none⟩) ls.length cap) ∧ Reads w' (some ⟨g, 0, none⟩) (ls.length + 1) (ts.map Sl.val ++ [.slice (some ⟨b, 0, none⟩) 1 1]) ∧ b < w'.heap.size ∧ w'.cell? ⟨b, 0, none⟩ = some (.int .u8 77) ∧
      ls.length + 1 ≤ cap ∧ cap ≤ maxLen ∧ Twins w' ls ts ∧ Below w.heap.size w w' := by
  refine enter Try.func23 rfl Try.ntmps23 (by simp) ?_
  repeat (first | refine S_yes rfl rfl ?_ | refine S_no rfl rfl ?_ | refine S_seq ?_ | refine E_seq ?_ | refine S_block ?_ | refine E_block_normal ?_ | refine S_skip ?_ | refine S_exit ?_ | refine S_ret ?_ | refine E_then_exit ?_ | refine E_then_ret ?_ | refine E_block_ret ?_ | refine E_block_exit ?_ | refine E_block_exit_other rfl ?_)
  refine S_region ?_
  refine R_cons rfl (op_pure (p_assign rfl) rfl ?_)
  refine R_nil ?_
  repeat (first | refine S_yes rfl rfl ?_ | refine S_no rfl rfl ?_ | refine S_seq ?_ | refine E_seq ?_ | refine S_block ?_ | refine E_block_normal ?_ | refine S_skip ?_ | refine S_exit ?_ | refine S_ret ?_ | refine E_then_exit ?_ | refine E_then_ret ?_ | refine E_block_ret ?_ | refine E_block_exit ?_ | refine E_block_exit_other rfl ?_)
  refine S_region ?_
  refine R_cons rfl (op_pure (p_move rfl) rfl ?_)
  refine R_cons rfl (op_pure (p_len rfl slc_u8ss) rfl ?_)
  refine R_cons rfl (op_pure (by exact p_bin rfl rfl (b_add (w_in_i64 (by omega)))) rfl ?_)
  refine R_cons rfl (op_makeSlice rfl rfl (by repeat (first | assumption | exact lit0 | exact lit1 | apply IntWalk.up_add | apply IntWalk.up_div | apply IntWalk.up_mod | apply IntWalk.up_mul | rfl)) (by repeat (first | assumption | exact lit0 | exact lit1 | apply IntWalk.up_add | apply IntWalk.up_div | apply IntWalk.up_mod | apply IntWalk.up_mul | rfl)) slc_u8ss.1 el_u8s (by omega) (by omega) (by omega) rfl (Nat.le_refl _) (fun b8 => ?_))
  refine R_cons rfl (op_pure (p_assign rfl) rfl ?_)
  refine R_nil ?_
  repeat (first | refine S_yes rfl rfl ?_ | refine S_no rfl rfl ?_ | refine S_seq ?_ | refine E_seq ?_ | refine S_block ?_ | refine E_block_normal ?_ | refine S_skip ?_ | refine S_exit ?_ | refine S_ret ?_ | refine E_then_exit ?_ | refine E_then_ret ?_ | refine E_block_ret ?_ | refine E_block_exit ?_ | refine E_block_exit_other rfl ?_)
  refine S_region ?_
  refine R_cons rfl (op_pure (p_assign rfl) rfl ?_)
  refine R_nil ?_
  repeat (first | refine S_yes rfl rfl ?_ | refine S_no rfl rfl ?_ | refine S_seq ?_ | refine E_seq ?_ | refine S_block ?_ | refine E_block_normal ?_ | refine S_skip ?_ | refine S_exit ?_ | refine S_ret ?_ | refine E_then_exit ?_ | refine E_then_ret ?_ | refine E_block_ret ?_ | refine E_block_exit ?_ | refine E_block_exit_other rfl ?_)
  refine S_loop (σ := TwAt) (fun s => [(4, .int .i64 (s.i : Int)), (3, .slice (some ⟨s.g, 0, none⟩) s.i s.cap), (0, .slice A ls.length c)])
    (fun s => (s.g, .cells (s.ts.map Sl.val ++ s.sp).toArray 22 (0, 0)) :: s.K) (fun s => s.i ≤ ls.length ∧ s.ts.length = s.i ∧ (s.ts.map Sl.val ++ s.sp).length = s.cap ∧ s.cap ≤ maxLen ∧ TwinsK s.K ls s.ts) (fun s => ls.length - s.i)
    ⟨0, b8, ls.length + 1, List.replicate (ls.length + 1) (.slice none 0 0), [], []⟩ ⟨Nat.zero_le _, rfl, by simp, by show ls.length + 1 ≤ maxLen; unfold maxLen; omega, fun i s t _ ht => by simp at ht⟩ (by repeat (first | exact Sub.nil | refine Sub.cons rfl ?_)) (by exact Fewer.refl _) ?_
  rintro ⟨i, g, cap, sp, ts, K⟩ ⟨hi, htl, hlen, hcm, hK⟩
  dsimp only at hi htl hlen hcm hK ⊢
  have htm : (ts.map Sl.val).length = i := by simp [htl]
  repeat (first | refine S_yes rfl rfl ?_ | refine S_no rfl rfl ?_ | refine S_seq ?_ | refine E_seq ?_ | refine S_block ?_ | refine E_block_normal ?_ | refine S_skip ?_ | refine S_exit ?_ | refine S_ret ?_ | refine E_then_exit ?_ | refine E_then_ret ?_ | refine E_block_ret ?_ | refine E_block_exit ?_ | refine E_block_exit_other rfl ?_)
  refine S_region ?_
  refine R_cons rfl (op_pure (p_move rfl) rfl ?_)
  refine R_cons rfl (op_pure (p_move rfl) rfl ?_)
  refine R_cons rfl (op_pure (p_len rfl slc_u8ss) rfl ?_)
  refine R_cons rfl (op_pure (p_bin rfl rfl (b_lss (by first | assumption | exact decide_eq_true (by omega) | exact decide_eq_false (by omega) | rfl))) rfl ?_)
  refine R_nil ?_
  repeat (first | refine S_yes rfl rfl ?_ | refine S_no rfl rfl ?_ | refine S_seq ?_ | refine E_seq ?_ | refine S_block ?_ | refine E_block_normal ?_ | refine S_skip ?_ | refine S_exit ?_ | refine S_ret ?_ | refine E_then_exit ?_ | refine E_then_ret ?_ | refine E_block_ret ?_ | refine E_block_exit ?_ | refine E_block_exit_other rfl ?_)
  refine S_cond rfl (fun hlt => ?_) (fun hge => ?_)
  · have hin : i < ls.length := by have := of_decide_eq_true hlt; omega
    obtain ⟨b, off, rfl, hbl, hcell⟩ := hrd.2 (by omega)
    have hc : w.cell? ⟨b, off + i, none⟩ = some (.slice ls[i].A ls[i].xs.length ls[i].c) := hcell i _ (Sl.get hin)
    have hsok := hok _ (List.getElem_mem hin)
    have hss := hsz _ (List.getElem_mem hin)
    have hget : ls[i]? = some ls[i] := List.getElem?_eq_getElem hin
    generalize ls[i] = s at hc hsok hss hget
    repeat (first | refine S_yes rfl rfl ?_ | refine S_no rfl rfl ?_ | refine S_seq ?_ | refine E_seq ?_ | refine S_block ?_ | refine E_block_normal ?_ | refine S_skip ?_ | refine S_exit ?_ | refine S_ret ?_ | refine E_then_exit ?_ | refine E_then_ret ?_ | refine E_block_ret ?_ | refine E_block_exit ?_ | refine E_block_exit_other rfl ?_)
    refine S_region ?_
    refine R_cons rfl (op_pure (p_move rfl) rfl ?_)
    refine R_cons rfl (op_pure (p_move rfl) rfl ?_)
    refine R_cons rfl (op_pure (p_move rfl) rfl ?_)
    refine R_cons rfl (op_pure (by exact p_indexSl rfl rfl (by repeat (first | assumption | exact lit0 | exact lit1 | apply IntWalk.up_add | apply IntWalk.up_div | apply IntWalk.up_mod | apply IntWalk.up_mul | rfl)) slc_u8ss (by omega)) rfl ?_)
    refine R_cons rfl (op_pure (by first | exact p_load rfl sc_u8s (by repeat (first | exact List.Mem.head _ | apply List.Mem.tail)) (by first | assumption | exact bytesV_get (by omega) | exact wordsV_get (by omega) | rfl) | exact p_load_base rfl sc_u8s (by assumption) (by simp) (by assumption)) rfl ?_)
    refine R_cons rfl (op_call rfl rfl Try.func11 rfl (by kernel_rfl) rfl fun w1 hm => (twin_any s.A s.xs.length s.c s.xs w1 rfl (hsok.1.base hm) hss).mono ?_)
    rintro e w3 ⟨g2, cap2, sp2, rfl, hg2, hgo2, hlen2, hcapm2, hbel2⟩
    refine ⟨_, _, rfl, hm.call1 (Nat.le_refl _) hbel2 hg2 hgo2, ?_⟩
    refine R_cons rfl (op_buildSliceAll (ps := [(0, .tmp 20)]) rfl slc_u8ss.1 el_u8s (by decide) (by decide) (by first | kernel_rfl | rfl) rfl (Nat.le_refl _) (fun b21 => ?_))
    refine R_cons rfl (op_append (news := [.slice (some ⟨g2, 0, none⟩) s.xs.length cap2]) rfl rfl slc_u8ss.1 el_u8s (.there (.there .here)) htm hlen hcm (fun w hm => hm.readsAll (b := b21) (by repeat (first | exact List.Mem.head _ | apply List.Mem.tail)) rfl) (by first | exact bytesV_one _ | exact wordsV_one _ | (repeat (first | exact ones_nil | refine ones_cons rfl ?_))) (by unfold maxLen; omega) (by omega) rfl (Nat.le_refl _) (fun g' cap' sp' hlen' hcm' => ?_))
    refine R_cons rfl (op_pure (p_assign rfl) rfl ?_)
    refine R_nil ?_
    repeat (first | refine S_yes rfl rfl ?_ | refine S_no rfl rfl ?_ | refine S_seq ?_ | refine E_seq ?_ | refine S_block ?_ | refine E_block_normal ?_ | refine S_skip ?_ | refine S_exit ?_ | refine S_ret ?_ | refine E_then_exit ?_ | refine E_then_ret ?_ | refine E_block_ret ?_ | refine E_block_exit ?_ | refine E_block_exit_other rfl ?_)
    refine S_region ?_
    refine R_cons rfl (op_pure (p_move rfl) rfl ?_)
    refine R_cons rfl (op_pure (by exact p_bin rfl rfl (b_add (w_in_i64 (by omega)))) rfl ?_)
    refine R_cons rfl (op_pure (p_assign rfl) rfl ?_)
    refine R_nil ?_
    repeat (first | refine S_yes rfl rfl ?_ | refine S_no rfl rfl ?_ | refine S_seq ?_ | refine E_seq ?_ | refine S_block ?_ | refine E_block_normal ?_ | refine S_skip ?_ | refine S_exit ?_ | refine S_ret ?_ | refine E_then_exit ?_ | refine E_then_ret ?_ | refine E_block_ret ?_ | refine E_block_exit ?_ | refine E_block_exit_other rfl ?_)
    refine E_round (σ := TwAt) (s := ⟨i, g, cap, sp, ts, K⟩) ⟨i + 1, g', cap', sp', ts ++ [⟨some ⟨g2, 0, none⟩, cap2, s.xs⟩], (g2, .cells (bytesV (s.xs ++ [77]) ++ sp2).toArray 5 (0, 0)) :: K⟩ ⟨?_, ?_, ?_, hcm', ?_⟩ ?_ (by repeat (first | exact Sub.nil | refine Sub.cons rfl ?_)) ?_
    · show i + 1 ≤ _; omega
    · show (ts ++ [_]).length = i + 1; simp [htl]
    · show ((ts ++ [_]).map Sl.val ++ sp').length = cap'
      rw [List.map_append]; exact hlen'
    · intro j s' t' hs' ht'
      have ht' : (ts ++ [(⟨some ⟨g2, 0, none⟩, cap2, s.xs⟩ : Sl)])[j]? = some t' := ht'
      rcases Nat.lt_or_ge j ts.length with hj | hj
      · rw [List.getElem?_append_left hj] at ht'
        obtain ⟨hx, b', sp', hA, hin', h1, h2⟩ := hK j s' t' hs' ht'
        exact ⟨hx, b', sp', hA, .tail _ hin', h1, h2⟩
      · have hj2 : j = i := by
          rcases Nat.lt_or_ge (j - ts.length) 1 with h | h
          · omega
          · rw [List.getElem?_append_right hj, List.getElem?_eq_none (by simp; omega)] at ht'; cases ht'
        subst hj2
        rw [List.getElem?_append_right hj, htl, Nat.sub_self] at ht'
        cases ht'
        rw [hget] at hs'
        cases hs'
        exact ⟨rfl, g2, sp2, rfl, .head _, hlen2, hcapm2⟩
    · show ls.length - (i + 1) < ls.length - i; omega
    · exact .keep (by rw [List.map_append]; rfl) (.drop (Fewer.refl _))
  have hge' : i = ls.length := by have := of_decide_eq_false hge; omega
  subst hge'
  repeat (first | refine S_yes rfl rfl ?_ | refine S_no rfl rfl ?_ | refine S_seq ?_ | refine E_seq ?_ | refine S_block ?_ | refine E_block_normal ?_ | refine S_skip ?_ | refine S_exit ?_ | refine S_ret ?_ | refine E_then_exit ?_ | refine E_then_ret ?_ | refine E_block_ret ?_ | refine E_block_exit ?_ | refine E_block_exit_other rfl ?_)
  refine S_region ?_
  refine R_cons rfl (op_pure (p_move rfl) rfl ?_)
  refine R_cons rfl (op_buildSliceAll (ps := [(0, .const (.int .u8 77))]) rfl slc_u8s.1 el_u8 (by decide) (by decide) (by first | kernel_rfl | rfl) rfl (Nat.le_refl _) (fun b24 => ?_))
  refine R_cons rfl (op_buildSliceAll (ps := [(0, .tmp 24)]) rfl slc_u8ss.1 el_u8s (by decide) (by decide) (by first | kernel_rfl | rfl) rfl (Nat.le_refl _) (fun b25 => ?_))
  refine R_cons rfl (op_append (news := [.slice (some ⟨b24, 0, none⟩) 1 1]) rfl rfl slc_u8ss.1 el_u8s (.there (.there .here)) htm hlen hcm (fun w hm => hm.readsAll (b := b25) (by repeat (first | exact List.Mem.head _ | apply List.Mem.tail)) rfl) (by first | exact bytesV_one _ | exact wordsV_one _ | (repeat (first | exact ones_nil | refine ones_cons rfl ?_))) (by unfold maxLen; omega) (by omega) rfl (Nat.le_refl _) (fun g' cap' sp' hlen' hcm' => ?_))
  have hcl : ls.length + 1 ≤ cap' := by simp only [List.length_append, htm, List.length_cons, List.length_nil] at hlen'; omega
  refine R_cons rfl (op_pure (p_move rfl) rfl ?_)
  refine R_cons rfl (op_pure (p_len rfl slc_u8ss) rfl ?_)
  refine R_cons rfl (op_pure (p_sliceTo rfl rfl (by repeat (first | assumption | exact lit0 | exact lit1 | apply IntWalk.up_add | apply IntWalk.up_div | apply IntWalk.up_mod | apply IntWalk.up_mul | rfl)) slc_u8ss (by omega)) rfl ?_)
  refine R_cons rfl (op_pure (p_assign rfl) rfl ?_)
  refine R_nil ?_
  repeat (first | refine S_yes rfl rfl ?_ | refine S_no rfl rfl ?_ | refine S_seq ?_ | refine E_seq ?_ | refine S_block ?_ | refine E_block_normal ?_ | refine S_skip ?_ | refine S_exit ?_ | refine S_ret ?_ | refine E_then_exit ?_ | refine E_then_ret ?_ | refine E_block_ret ?_ | refine E_block_exit ?_ | refine E_block_exit_other rfl ?_)
  refine E_ret1 rfl rfl fun w' hm => ⟨g', cap', ts, b24, rfl, ?_, hm.lt (p := (b24, _)) (by repeat (first | exact List.Mem.head _ | apply List.Mem.tail)), (hm.cell (b := b24) (by repeat (first | exact List.Mem.head _ | apply List.Mem.tail)) 0).trans rfl, hcl, hcm', twins_of hK htl hm (fun p hp => .tail _ (.tail _ (.tail _ hp))), hm.below⟩
  exact hm.reads (b := g') (by repeat (first | exact List.Mem.head _ | apply List.Mem.tail)) (by rw [List.drop_zero, show ls.length + 1 = (ts.map Sl.val ++ [Value.slice (some ⟨b24, 0, none⟩) 1 1]).length by simp [htl], List.take_left]) (by simp [htl])

set_option maxHeartbeats 1000000 in
theorem leftL_any (g cap c : Nat) (A : Option Addr) (ls ts : List Sl) (b : Nat) (w : World) (hrt : Reads w (some ⟨g, 0, none⟩) (ls.length + 1) (ts.map Sl.val ++ [.slice (some ⟨b, 0, none⟩) 1 1])) (hb : b < w.heap.size) (hc77 : w.cell? ⟨b, 0, none⟩ = some (.int .u8 77)) (hcl : ls.length + 1 ≤ cap) (hcm : cap ≤ maxLen)
    (htw : Twins w ls ts) (hrd : Reads w A ls.length (ls.map Sl.val)) (hok : ∀ s ∈ ls, s.ok w) :
    Calls Try.prog 26 [.slice (some ⟨g, 0, none⟩) ls.length cap, .slice A ls.length c].toArray w fun e w' => e = .returned (.bool true) ∧ Below w.heap.size w w' := by
  have hcm' := hcm
  unfold maxLen at hcm'
  obtain ⟨htl, htw⟩ := htw
  obtain ⟨g0, o0, e0, hgl, hgc⟩ := hrt.2 (by omega)
  simp only [Option.some.injEq, Addr.mk.injEq] at e0
  obtain ⟨rfl, rfl, _⟩ := e0
  refine enter Try.func26 rfl Try.ntmps26 (by simp) ?_
  repeat (first | refine S_yes rfl rfl ?_ | refine S_no rfl rfl ?_ | refine S_seq ?_ | refine E_seq ?_ | refine S_block ?_ | refine E_block_normal ?_ | refine S_skip ?_ | refine S_exit ?_ | refine S_ret ?_ | refine E_then_exit ?_ | refine E_then_ret ?_ | refine E_block_ret ?_ | refine E_block_exit ?_ | refine E_block_exit_other rfl ?_)
  refine S_region ?_
  refine R_cons rfl (op_pure (p_assign rfl) rfl ?_)
  refine R_nil ?_
  repeat (first | refine S_yes rfl rfl ?_ | refine S_no rfl rfl ?_ | refine S_seq ?_ | refine E_seq ?_ | refine S_block ?_ | refine E_block_normal ?_ | refine S_skip ?_ | refine S_exit ?_ | refine S_ret ?_ | refine E_then_exit ?_ | refine E_then_ret ?_ | refine E_block_ret ?_ | refine E_block_exit ?_ | refine E_block_exit_other rfl ?_)
  refine S_region ?_
  refine R_cons rfl (op_pure (p_move rfl) rfl ?_)
  refine R_cons rfl (op_pure (p_len rfl slc_u8ss) rfl ?_)
  refine R_cons rfl (op_pure (p_move rfl) rfl ?_)
  refine R_cons rfl (op_pure (p_len rfl slc_u8ss) rfl ?_)
  refine R_cons rfl (op_pure (p_bin rfl rfl (b_neq (by first | assumption | exact bne_iff_ne.2 (by omega) | exact bne_eq_false_iff_eq.2 (by omega) | rfl))) rfl ?_)
  refine R_cons rfl (op_pure (p_move rfl) rfl ?_)
  first | refine R_pass rfl rfl rfl rfl ?_ | refine R_pass_undef rfl rfl rfl ?_ | refine R_guard rfl rfl rfl (op_pure (p_move rfl) rfl ?_)
  first | refine R_pass rfl rfl rfl rfl ?_ | refine R_pass_undef rfl rfl rfl ?_ | refine R_guard rfl rfl rfl (op_pure (p_cap rfl slc_u8ss.1) rfl ?_)
  first | refine R_pass rfl rfl rfl rfl ?_ | refine R_pass_undef rfl rfl rfl ?_ | refine R_guard rfl rfl rfl (op_pure (p_move rfl) rfl ?_)
  first | refine R_pass rfl rfl rfl rfl ?_ | refine R_pass_undef rfl rfl rfl ?_ | refine R_guard rfl rfl rfl (op_pure (p_len rfl slc_u8ss) rfl ?_)
  first | refine R_pass rfl rfl rfl rfl ?_ | refine R_pass_undef rfl rfl rfl ?_ | refine R_guard rfl rfl rfl (op_pure (p_bin rfl rfl (b_leq (by first | assumption | exact decide_eq_true (by omega) | exact decide_eq_false (by omega) | rfl))) rfl ?_)
  refine R_cons rfl (op_pure (by first | exact p_pick_yes rfl rfl | exact p_pick_no rfl rfl | exact p_pick rfl rfl rfl) rfl ?_)
  refine R_nil ?_
  repeat (first | refine S_yes rfl rfl ?_ | refine S_no rfl rfl ?_ | refine S_seq ?_ | refine E_seq ?_ | refine S_block ?_ | refine E_block_normal ?_ | refine S_skip ?_ | refine S_exit ?_ | refine S_ret ?_ | refine E_then_exit ?_ | refine E_then_ret ?_ | refine E_block_ret ?_ | refine E_block_exit ?_ | refine E_block_exit_other rfl ?_)
  refine S_region ?_
  refine R_cons rfl (op_pure (p_assign rfl) rfl ?_)
  refine R_nil ?_
  repeat (first | refine S_yes rfl rfl ?_ | refine S_no rfl rfl ?_ | refine S_seq ?_ | refine E_seq ?_ | refine S_block ?_ | refine E_block_normal ?_ | refine S_skip ?_ | refine S_exit ?_ | refine S_ret ?_ | refine E_then_exit ?_ | refine E_then_ret ?_ | refine E_block_ret ?_ | refine E_block_exit ?_ | refine E_block_exit_other rfl ?_)
  refine S_loop (fun i : Nat => [(5, .int .i64 (i : Int)), (1, .slice A ls.length c), (0, .slice (some ⟨g, 0, none⟩) ls.length cap)]) (fun _ => []) (fun i => i ≤ ls.length) (fun i => ls.length - i) 0 (by omega) (by repeat (first | exact Sub.nil | refine Sub.cons rfl ?_)) (Fewer.refl _) ?_
  intro i hi
  repeat (first | refine S_yes rfl rfl ?_ | refine S_no rfl rfl ?_ | refine S_seq ?_ | refine E_seq ?_ | refine S_block ?_ | refine E_block_normal ?_ | refine S_skip ?_ | refine S_exit ?_ | refine S_ret ?_ | refine E_then_exit ?_ | refine E_then_ret ?_ | refine E_block_ret ?_ | refine E_block_exit ?_ | refine E_block_exit_other rfl ?_)
  refine S_region ?_
  refine R_cons rfl (op_pure (p_move rfl) rfl ?_)
  refine R_cons rfl (op_pure (p_move rfl) rfl ?_)
  refine R_cons rfl (op_pure (p_len rfl slc_u8ss) rfl ?_)
  refine R_cons rfl (op_pure (p_bin rfl rfl (b_lss (by first | assumption | exact decide_eq_true (by omega) | exact decide_eq_false (by omega) | rfl))) rfl ?_)
  refine R_nil ?_
  repeat (first | refine S_yes rfl rfl ?_ | refine S_no rfl rfl ?_ | refine S_seq ?_ | refine E_seq ?_ | refine S_block ?_ | refine E_block_normal ?_ | refine S_skip ?_ | refine S_exit ?_ | refine S_ret ?_ | refine E_then_exit ?_ | refine E_then_ret ?_ | refine E_block_ret ?_ | refine E_block_exit ?_ | refine E_block_exit_other rfl ?_)
  refine S_cond rfl (fun hlt => ?_) (fun hge => ?_)
  · have hin : i < ls.length := by have := of_decide_eq_true hlt; omega
    obtain ⟨b2, off, rfl, hbl, hcell⟩ := hrd.2 (by omega)
    have hc : w.cell? ⟨b2, off + i, none⟩ = some (.slice ls[i].A ls[i].xs.length ls[i].c) := hcell i _ (Sl.get hin)
    have hit : i < ts.length := by omega
    have hc2 : w.cell? ⟨g, 0 + i, none⟩ = some (.slice ts[i].A ts[i].xs.length ts[i].c) := hgc i _ (by rw [List.getElem?_append_left (by simp; omega)]; exact Sl.get hit)
    have hsok := hok _ (List.getElem_mem hin)
    have htt := htw i ls[i] ts[i] (List.getElem?_eq_getElem hin) (List.getElem?_eq_getElem hit)
    generalize ls[i] = s at hc hsok htt
    generalize ts[i] = t at hc2 htt
    obtain ⟨tA, tc, txs⟩ := t
    obtain ⟨hx, hr1, hr2, hr3⟩ := htt
    have hx : txs = s.xs := hx
    subst hx
    repeat (first | refine S_yes rfl rfl ?_ | refine S_no rfl rfl ?_ | refine S_seq ?_ | refine E_seq ?_ | refine S_block ?_ | refine E_block_normal ?_ | refine S_skip ?_ | refine S_exit ?_ | refine S_ret ?_ | refine E_then_exit ?_ | refine E_then_ret ?_ | refine E_block_ret ?_ | refine E_block_exit ?_ | refine E_block_exit_other rfl ?_)
    refine S_quiet (by kernel_rfl) (by kernel_rfl) ?_
    refine Q_cons (Still1.of_pure (p_move rfl)) rfl ?_
    refine Q_cons (Still1.of_pure (p_move rfl)) rfl ?_
    refine Q_cons (Still1.of_pure (by exact p_indexSl rfl rfl (by repeat (first | assumption | exact lit0 | exact lit1 | apply IntWalk.up_add | apply IntWalk.up_div | apply IntWalk.up_mod | apply IntWalk.up_mul | rfl)) slc_u8ss (by omega))) rfl ?_
    refine Q_cons (Still1.of_pure (by first | exact p_load rfl sc_u8s (by repeat (first | exact List.Mem.head _ | apply List.Mem.tail)) (by first | assumption | exact bytesV_get (by omega) | exact wordsV_get (by omega) | rfl) | exact p_load_base rfl sc_u8s (by assumption) (by simp) (by assumption))) rfl ?_
    refine Q_cons (Still1.of_pure (p_move rfl)) rfl ?_
    refine Q_cons (Still1.of_pure (p_move rfl)) rfl ?_
    refine Q_cons (Still1.of_pure (by exact p_indexSl rfl rfl (by repeat (first | assumption | exact lit0 | exact lit1 | apply IntWalk.up_add | apply IntWalk.up_div | apply IntWalk.up_mod | apply IntWalk.up_mul | rfl)) slc_u8ss (by omega))) rfl ?_
    refine Q_cons (Still1.of_pure (by first | exact p_load rfl sc_u8s (by repeat (first | exact List.Mem.head _ | apply List.Mem.tail)) (by first | assumption | exact bytesV_get (by omega) | exact wordsV_get (by omega) | rfl) | exact p_load_base rfl sc_u8s (by assumption) (by simp) (by assumption))) rfl ?_
    refine Q_cons (still_call rfl rfl Try.func14 rfl (by kernel_rfl) (Nat.le_refl _) (fun w' hm => left_bytes tA s.A s.xs.length tc s.c s.xs w' rfl (hr1.base hm) hr2 hr3 (hsok.1.base hm))) rfl ?_
    refine Q_cons (Still1.of_pure (p_not rfl)) rfl ?_
    refine Q_nil ?_
    repeat (first | refine S_yes rfl rfl ?_ | refine S_no rfl rfl ?_ | refine S_seq ?_ | refine E_seq ?_ | refine S_block ?_ | refine E_block_normal ?_ | refine S_skip ?_ | refine S_exit ?_ | refine S_ret ?_ | refine E_then_exit ?_ | refine E_then_ret ?_ | refine E_block_ret ?_ | refine E_block_exit ?_ | refine E_block_exit_other rfl ?_)
    refine S_region ?_
    refine R_cons rfl (op_pure (p_move rfl) rfl ?_)
    refine R_cons rfl (op_pure (by exact p_bin rfl rfl (b_add (w_in_i64 (by omega)))) rfl ?_)
    refine R_cons rfl (op_pure (p_assign rfl) rfl ?_)
    refine R_nil ?_
    repeat (first | refine S_yes rfl rfl ?_ | refine S_no rfl rfl ?_ | refine S_seq ?_ | refine E_seq ?_ | refine S_block ?_ | refine E_block_normal ?_ | refine S_skip ?_ | refine S_exit ?_ | refine S_ret ?_ | refine E_then_exit ?_ | refine E_then_ret ?_ | refine E_block_ret ?_ | refine E_block_exit ?_ | refine E_block_exit_other rfl ?_)
    exact E_round (i + 1) (by omega) (by omega) (by repeat (first | exact Sub.nil | refine Sub.cons rfl ?_)) (Fewer.refl _)
  have hge' : i = ls.length := by have := of_decide_eq_false hge; omega
  subst hge'
  have hcl2 : w.cell? ⟨g, 0 + ls.length, none⟩ = some (.slice (some ⟨b, 0, none⟩) 1 1) := hgc ls.length _ (by rw [List.getElem?_append_right (by simp; omega)]; simp [htl])
  have hc77' : w.cell? ⟨b, 0 + 0, none⟩ = some (.int .u8 77) := hc77
  repeat (first | refine S_yes rfl rfl ?_ | refine S_no rfl rfl ?_ | refine S_seq ?_ | refine E_seq ?_ | refine S_block ?_ | refine E_block_normal ?_ | refine S_skip ?_ | refine S_exit ?_ | refine S_ret ?_ | refine E_then_exit ?_ | refine E_then_ret ?_ | refine E_block_ret ?_ | refine E_block_exit ?_ | refine E_block_exit_other rfl ?_)
  refine S_region ?_
  refine R_cons rfl (op_pure (p_move rfl) rfl ?_)
  refine R_cons rfl (op_pure (p_move rfl) rfl ?_)
  refine R_cons rfl (op_pure (p_len rfl slc_u8ss) rfl ?_)
  refine R_cons rfl (op_pure (by exact p_bin rfl rfl (b_add (w_in_i64 (by omega)))) rfl ?_)
  refine R_cons rfl (op_pure (p_sliceTo rfl rfl (by repeat (first | assumption | exact lit0 | exact lit1 | apply IntWalk.up_add | apply IntWalk.up_div | apply IntWalk.up_mod | apply IntWalk.up_mul | rfl)) slc_u8ss (by omega)) rfl ?_)
  refine R_cons rfl (op_pure (p_move rfl) rfl ?_)
  refine R_cons rfl (op_pure (p_len rfl slc_u8ss) rfl ?_)
  refine R_cons rfl (op_pure (by exact p_indexSl rfl rfl (by repeat (first | assumption | exact lit0 | exact lit1 | apply IntWalk.up_add | apply IntWalk.up_div | apply IntWalk.up_mod | apply IntWalk.up_mul | rfl)) slc_u8ss (by omega)) rfl ?_)
  refine R_cons rfl (op_pure (by first | exact p_load rfl sc_u8s (by repeat (first | exact List.Mem.head _ | apply List.Mem.tail)) (by first | assumption | exact bytesV_get (by omega) | exact wordsV_get (by omega) | rfl) | exact p_load_base rfl sc_u8s (by assumption) (by simp) (by assumption)) rfl ?_)
  refine R_cons rfl (op_pure (p_assign rfl) rfl ?_)
  refine R_nil ?_
  repeat (first | refine S_yes rfl rfl ?_ | refine S_no rfl rfl ?_ | refine S_seq ?_ | refine E_seq ?_ | refine S_block ?_ | refine E_block_normal ?_ | refine S_skip ?_ | refine S_exit ?_ | refine S_ret ?_ | refine E_then_exit ?_ | refine E_then_ret ?_ | refine E_block_ret ?_ | refine E_block_exit ?_ | refine E_block_exit_other rfl ?_)
  refine S_region ?_
  refine R_cons rfl (op_pure (p_move rfl) rfl ?_)
  refine R_cons rfl (op_pure (p_len rfl slc_u8s) rfl ?_)
  refine R_cons rfl (op_pure (p_bin rfl rfl (b_eql (by first | assumption | exact beq_iff_eq.2 (by omega) | exact beq_eq_false_iff_ne.2 (by omega) | rfl))) rfl ?_)
  refine R_cons rfl (op_pure (p_move rfl) rfl ?_)
  first | refine R_pass rfl rfl rfl rfl ?_ | refine R_pass_undef rfl rfl rfl ?_ | refine R_guard rfl rfl rfl (op_pure (p_move rfl) rfl ?_)
  first | refine R_pass rfl rfl rfl rfl ?_ | refine R_pass_undef rfl rfl rfl ?_ | refine R_guard rfl rfl rfl (op_pure (by exact p_indexSl rfl rfl (by repeat (first | assumption | exact lit0 | exact lit1 | apply IntWalk.up_add | apply IntWalk.up_div | apply IntWalk.up_mod | apply IntWalk.up_mul | rfl)) slc_u8s (by omega)) rfl ?_)
  first | refine R_pass rfl rfl rfl rfl ?_ | refine R_pass_undef rfl rfl rfl ?_ | refine R_guard rfl rfl rfl (op_pure (by first | exact p_load rfl sc_u8 (by repeat (first | exact List.Mem.head _ | apply List.Mem.tail)) (by first | assumption | exact bytesV_get (by omega) | exact wordsV_get (by omega) | rfl) | exact p_load_base rfl sc_u8 (by assumption) (by simp) (by assumption)) rfl ?_)
  first | refine R_pass rfl rfl rfl rfl ?_ | refine R_pass_undef rfl rfl rfl ?_ | refine R_guard rfl rfl rfl (op_pure (p_bin rfl rfl (b_eql (by first | assumption | exact beq_iff_eq.2 (by omega) | exact beq_eq_false_iff_ne.2 (by omega) | rfl))) rfl ?_)
  refine R_cons rfl (op_pure (by first | exact p_pick_yes rfl rfl | exact p_pick_no rfl rfl | exact p_pick rfl rfl rfl) rfl ?_)
  refine R_cons rfl (op_pure (p_assign rfl) rfl ?_)
  refine R_nil ?_
  repeat (first | refine S_yes rfl rfl ?_ | refine S_no rfl rfl ?_ | refine S_seq ?_ | refine E_seq ?_ | refine S_block ?_ | refine E_block_normal ?_ | refine S_skip ?_ | refine S_exit ?_ | refine S_ret ?_ | refine E_then_exit ?_ | refine E_then_ret ?_ | refine E_block_ret ?_ | refine E_block_exit ?_ | refine E_block_exit_other rfl ?_)
  exact E_ret1 rfl rfl fun w' hm => ⟨rfl, hm.below⟩
end Go.Proofs.Ytcjjhiafcefocaa
