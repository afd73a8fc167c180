/-
  Proved: of sums of which each two neighbours are put together there is the same root. No condition.
-/
import Derived.Test.YthkogneaimjhjaaRows
import Derived.Test.YthkogneaimjhjaaLv5
import Derived.Test.YthkogneaimjhjaaK18
namespace Go.Proofs.Ythkogneaimjhjaa.leavesPairs
open Go.ChangeShapes Go.WideShapes Go.ChangeAt Go.Sha
open Go.RowKit Go.K
attribute [local irreducible] Exit.then Exit.inBlock Exit.noGoto bodyPost Code.wp QL Sx Rx Qx Ex Dx Op1 Pure1 Still1 K.Sub Calm Code.wpIn
set_option linter.unusedVariables false

/-- each two neighbours put together -/
def up : List (List UInt8) → List (List UInt8)
  | [] => []
  | [x] => [x]
  | x :: y :: r => nodeS x y :: up r
theorem up_length : ∀ l, (up l).length = (l.length + 1) / 2
  | [] => by simp [up]
  | [x] => by simp [up]
  | x :: y :: r => by rw [up, List.length_cons, up_length r, List.length_cons, List.length_cons]; omega
theorem up_append : ∀ (a b : List (List UInt8)), a.length % 2 = 0 → up (a ++ b) = up a ++ up b
  | [], b, _ => rfl
  | [x], b, h => by simp at h
  | x :: y :: r, b, h => by
    have h2 : r.length % 2 = 0 := by simp only [List.length_cons] at h; omega
    rw [List.cons_append, List.cons_append, up, up, up_append r b h2, List.cons_append]
theorem up_sums : ∀ (l : List (List UInt8)), Sums l → Sums (up l)
  | [], _ => Sums.nil
  | [x], h => h
  | x :: y :: r, h => by
    rw [up]
    exact Sums.cons (nodeS_length _ _) (up_sums r fun z hz => h z (by simp [hz]))
theorem root_up : ∀ (m : Nat) (l : List (List UInt8)), l.length ≤ m → l ≠ [] → rootS (up l) = rootS l
  | 0, l, h, h0 => absurd (List.eq_nil_of_length_eq_zero (by omega)) h0
  | m + 1, l, h, h0 => by
    have hp : 0 < l.length := List.length_pos_iff.2 h0
    by_cases h1 : l.length = 1
    · obtain ⟨x, rfl⟩ := List.length_eq_one_iff.1 h1; rfl
    by_cases h2 : l.length = 2
    · obtain ⟨x, y, rfl⟩ : ∃ x y, l = [x, y] := by
        match l, h2 with
        | [x, y], _ => exact ⟨x, y, rfl⟩
      rw [show up [x, y] = [nodeS x y] from rfl, rootS_one, rootS_two]
    have hlt := cutN_lt (n := l.length) (by omega)
    have hge := cutN_ge (n := l.length) (by omega)
    obtain ⟨i, hi⟩ : ∃ i, cutN l.length = 2 ^ (i + 1) := by
      refine ⟨Nat.log2 (l.length - 1) - 1, ?_⟩
      have : Nat.log2 (l.length - 1) ≠ 0 := by
        intro e
        have := Nat.lt_log2_self (n := l.length - 1)
        rw [e] at this
        omega
      unfold cutN
      congr 1
      omega
    have hpw : 2 ^ (i + 1) = 2 * 2 ^ i := by rw [Nat.pow_succ]; omega
    have hpi : 0 < 2 ^ i := Nat.pow_pos (by omega)
    have htl : (l.take (cutN l.length)).length = cutN l.length := by rw [List.length_take]; omega
    have hdl : (l.drop (cutN l.length)).length = l.length - cutN l.length := List.length_drop ..
    have hup : up l = up (l.take (cutN l.length)) ++ up (l.drop (cutN l.length)) := by
      conv => lhs; rw [← List.take_append_drop (cutN l.length) l]
      exact up_append _ _ (by rw [htl, hi]; omega)
    have hul := up_length l
    have hutl := up_length (l.take (cutN l.length))
    rw [htl] at hutl
    have hcu : cutN (up l).length = 2 ^ i := by rw [hul]; exact cutN_eq (by omega) (by omega)
    have ht : (up (l.take (cutN l.length))).length = 2 ^ i := by rw [hutl, hi]; omega
    rw [rootS_more (up l) (by rw [hul]; omega), rootS_more l (by omega), hcu]
    have e1 : (up l).take (2 ^ i) = up (l.take (cutN l.length)) := by rw [hup, ← ht, List.take_left]
    have e2 : (up l).drop (2 ^ i) = up (l.drop (cutN l.length)) := by rw [hup, ← ht, List.drop_left]
    rw [e1, e2, root_up m _ (by omega) (by intro e; rw [e] at htl; simp at htl; omega), root_up m _ (by omega) (by intro e; rw [e] at hdl; simp at hdl; omega)]
theorem up_pair (L : List (List UInt8)) (i : Nat) (he : i % 2 = 0) (h : i + 1 < L.length) : up (L.take (i + 2)) = up (L.take i) ++ [nodeS (L.getD i []) (L.getD (i + 1) [])] := by
  have h1 : L.take (i + 2) = L.take i ++ [L.getD i [], L.getD (i + 1) []] := by
    rw [List.take_succ_eq_append_getElem (by omega), List.take_succ_eq_append_getElem (by omega), List.append_assoc]
    simp [List.getD_eq_getElem?_getD, List.getElem?_eq_getElem h, List.getElem?_eq_getElem (show i < L.length by omega)]
  rw [h1, up_append _ _ (by rw [List.length_take]; omega)]
  rfl
theorem up_last (L : List (List UInt8)) (i : Nat) (he : i % 2 = 0) (h : i + 1 = L.length) : up (L.take (i + 2)) = up (L.take i) ++ [L.getD i []] := by
  have h1 : L.take (i + 2) = L.take i ++ [L.getD i []] := by
    rw [List.take_of_length_le (by omega)]
    conv => lhs; rw [← List.take_length (l := L), ← h, List.take_succ_eq_append_getElem (by omega)]
    simp [List.getD_eq_getElem?_getD, List.getElem?_eq_getElem (show i < L.length by omega)]
  rw [h1, up_append _ _ (by rw [List.length_take]; omega)]
  rfl
theorem sums_getD {L : List (List UInt8)} (h : Sums L) {i : Nat} (hi : i < L.length) : (L.getD i []).length = 32 := h _ (by rw [List.getD_eq_getElem?_getD, List.getElem?_eq_getElem hi]; exact List.getElem_mem hi)

/-- a slice of sums of the call's own that may be nil yet -/
abbrev SB := Option (Nat × Nat × List Value)
def SB.val (u : SB) (xs : List (List UInt8)) : Value := match u with
  | none => .slice none 0 0
  | some p => .slice (some ⟨p.1, 0, none⟩) xs.length p.2.1
def SB.hp (u : SB) (xs : List (List UInt8)) : Hp := match u with
  | none => []
  | some p => [(p.1, .cells (sumsV xs ++ p.2.2).toArray 23 (0, 0))]
def SB.ok (u : SB) (xs : List (List UInt8)) : Prop := match u with
  | none => xs = []
  | some p => (sumsV xs ++ p.2.2).length = p.2.1 * 32 ∧ xs.length ≤ p.2.1 ∧ p.2.1 ≤ maxLen
attribute [local irreducible] sha total Buf.hp Buf.cap Buf.addr leafS nodeS cutN sumsV

set_option maxHeartbeats 4000000 in
theorem walk (w : World) (A : Option Addr) (c : Nat) (l : List (List UInt8)) (hrd : ReadsS w A l) (hnc : l.length ≤ c) (hcm : c ≤ maxLen) :
    Calls Try.prog 12 [.slice A l.length c].toArray w fun e w' => e = .returned (.bool true) ∧ Below w.heap.size w w' := by
  refine enter Try.func12 rfl Try.ntmps12 (by simp) ?_
  by_cases h0 : l.length = 0
  · have g1 : (((l.length : Nat) : Int) == 0) = true := beq_iff_eq.2 (by omega)
    repeat (first | refine S_scope ?_ | refine S_label ?_ | refine E_noGoto_normal ?_ | refine E_noGoto_ret ?_ | refine E_noGoto_exit ?_ | refine S_yes rfl (by first | with_reducible rfl | decide) ?_ | refine S_no rfl (by first | with_reducible rfl | decide) ?_ | refine S_seq ?_ | refine E_seq ?_ | refine S_block ?_ | refine E_block_normal ?_ | refine S_skip ?_ | refine S_exit ?_ | refine S_ret ?_ | refine E_then_exit ?_ | refine E_then_ret ?_ | refine E_block_ret ?_ | refine E_block_exit ?_ | refine E_block_exit_other rfl ?_)
    refine S_region ?_
    refine R_cons rfl (op_pure (p_assign rfl) rfl ?_)
    refine R_nil ?_
    repeat (first | refine S_scope ?_ | refine S_label ?_ | refine E_noGoto_normal ?_ | refine E_noGoto_ret ?_ | refine E_noGoto_exit ?_ | refine S_yes rfl (by first | with_reducible rfl | decide) ?_ | refine S_no rfl (by first | with_reducible rfl | decide) ?_ | refine S_seq ?_ | refine E_seq ?_ | refine S_block ?_ | refine E_block_normal ?_ | refine S_skip ?_ | refine S_exit ?_ | refine S_ret ?_ | refine E_then_exit ?_ | refine E_then_ret ?_ | refine E_block_ret ?_ | refine E_block_exit ?_ | refine E_block_exit_other rfl ?_)
    refine S_region ?_
    refine R_cons rfl (op_pure (p_move rfl) rfl ?_)
    refine R_cons rfl (op_pure (p_lenR rfl slr_api_Sum) rfl ?_)
    refine R_cons rfl (op_pure (p_bin rfl rfl (b_eql g1)) rfl ?_)
    refine R_cons rfl (op_pure (p_move rfl) rfl ?_)
    first | refine R_pass rfl rfl rfl rfl ?_ | refine R_pass_undef rfl rfl rfl ?_ | refine R_guard rfl rfl rfl (op_pure (p_move rfl) rfl ?_)
    first | refine R_pass rfl rfl rfl rfl ?_ | refine R_pass_undef rfl rfl rfl ?_ | refine R_guard rfl rfl rfl (op_pure (p_lenR rfl slr_api_Sum) rfl ?_)
    first | refine R_pass rfl rfl rfl rfl ?_ | refine R_pass_undef rfl rfl rfl ?_ | refine R_guard rfl rfl rfl (op_pure (p_bin rfl rfl (b_gtr (by first | assumption | exact decide_eq_true (by omega) | exact decide_eq_false (by omega) | rfl))) rfl ?_)
    refine R_cons rfl (op_pure (by first | exact p_pick_yes rfl rfl | exact p_pick_no rfl rfl | exact p_pick rfl rfl rfl) rfl ?_)
    refine R_nil ?_
    repeat (first | refine S_scope ?_ | refine S_label ?_ | refine E_noGoto_normal ?_ | refine E_noGoto_ret ?_ | refine E_noGoto_exit ?_ | refine S_yes rfl (by first | with_reducible rfl | decide) ?_ | refine S_no rfl (by first | with_reducible rfl | decide) ?_ | refine S_seq ?_ | refine E_seq ?_ | refine S_block ?_ | refine E_block_normal ?_ | refine S_skip ?_ | refine S_exit ?_ | refine S_ret ?_ | refine E_then_exit ?_ | refine E_then_ret ?_ | refine E_block_ret ?_ | refine E_block_exit ?_ | refine E_block_exit_other rfl ?_)
    refine S_region ?_
    refine R_cons rfl (op_callV rfl rfl Try.func42 rfl (by kernel_rfl) rfl (Nat.le_refl _) (fun w' _ => alive08 w') ?_)
    refine R_cons rfl (op_pure (p_assign rfl) rfl ?_)
    refine R_nil ?_
    repeat (first | refine S_scope ?_ | refine S_label ?_ | refine E_noGoto_normal ?_ | refine E_noGoto_ret ?_ | refine E_noGoto_exit ?_ | refine S_yes rfl (by first | with_reducible rfl | decide) ?_ | refine S_no rfl (by first | with_reducible rfl | decide) ?_ | refine S_seq ?_ | refine E_seq ?_ | refine S_block ?_ | refine E_block_normal ?_ | refine S_skip ?_ | refine S_exit ?_ | refine S_ret ?_ | refine E_then_exit ?_ | refine E_then_ret ?_ | refine E_block_ret ?_ | refine E_block_exit ?_ | refine E_block_exit_other rfl ?_)
    exact E_ret1 rfl rfl fun w' hm => ⟨rfl, hm.below⟩
  have g1 : (((l.length : Nat) : Int) == 0) = false := beq_eq_false_iff_ne.2 (by omega)
  by_cases h200 : 200 < l.length
  · have g2 : decide ((200 : Int) < (l.length : Int)) = true := decide_eq_true (by omega)
    clear h200
    repeat (first | refine S_scope ?_ | refine S_label ?_ | refine E_noGoto_normal ?_ | refine E_noGoto_ret ?_ | refine E_noGoto_exit ?_ | refine S_yes rfl (by first | with_reducible rfl | decide) ?_ | refine S_no rfl (by first | with_reducible rfl | decide) ?_ | refine S_seq ?_ | refine E_seq ?_ | refine S_block ?_ | refine E_block_normal ?_ | refine S_skip ?_ | refine S_exit ?_ | refine S_ret ?_ | refine E_then_exit ?_ | refine E_then_ret ?_ | refine E_block_ret ?_ | refine E_block_exit ?_ | refine E_block_exit_other rfl ?_)
    refine S_region ?_
    refine R_cons rfl (op_pure (p_assign rfl) rfl ?_)
    refine R_nil ?_
    repeat (first | refine S_scope ?_ | refine S_label ?_ | refine E_noGoto_normal ?_ | refine E_noGoto_ret ?_ | refine E_noGoto_exit ?_ | refine S_yes rfl (by first | with_reducible rfl | decide) ?_ | refine S_no rfl (by first | with_reducible rfl | decide) ?_ | refine S_seq ?_ | refine E_seq ?_ | refine S_block ?_ | refine E_block_normal ?_ | refine S_skip ?_ | refine S_exit ?_ | refine S_ret ?_ | refine E_then_exit ?_ | refine E_then_ret ?_ | refine E_block_ret ?_ | refine E_block_exit ?_ | refine E_block_exit_other rfl ?_)
    refine S_region ?_
    refine R_cons rfl (op_pure (p_move rfl) rfl ?_)
    refine R_cons rfl (op_pure (p_lenR rfl slr_api_Sum) rfl ?_)
    refine R_cons rfl (op_pure (p_bin rfl rfl (b_eql g1)) rfl ?_)
    refine R_cons rfl (op_pure (p_move rfl) rfl ?_)
    first | refine R_pass rfl rfl rfl rfl ?_ | refine R_pass_undef rfl rfl rfl ?_ | refine R_guard rfl rfl rfl (op_pure (p_move rfl) rfl ?_)
    first | refine R_pass rfl rfl rfl rfl ?_ | refine R_pass_undef rfl rfl rfl ?_ | refine R_guard rfl rfl rfl (op_pure (p_lenR rfl slr_api_Sum) rfl ?_)
    first | refine R_pass rfl rfl rfl rfl ?_ | refine R_pass_undef rfl rfl rfl ?_ | refine R_guard rfl rfl rfl (op_pure (p_bin rfl rfl (b_gtr g2)) rfl ?_)
    refine R_cons rfl (op_pure (by first | exact p_pick_yes rfl rfl | exact p_pick_no rfl rfl | exact p_pick rfl rfl rfl) rfl ?_)
    refine R_nil ?_
    repeat (first | refine S_scope ?_ | refine S_label ?_ | refine E_noGoto_normal ?_ | refine E_noGoto_ret ?_ | refine E_noGoto_exit ?_ | refine S_yes rfl (by first | with_reducible rfl | decide) ?_ | refine S_no rfl (by first | with_reducible rfl | decide) ?_ | refine S_seq ?_ | refine E_seq ?_ | refine S_block ?_ | refine E_block_normal ?_ | refine S_skip ?_ | refine S_exit ?_ | refine S_ret ?_ | refine E_then_exit ?_ | refine E_then_ret ?_ | refine E_block_ret ?_ | refine E_block_exit ?_ | refine E_block_exit_other rfl ?_)
    refine S_region ?_
    refine R_cons rfl (op_callV rfl rfl Try.func42 rfl (by kernel_rfl) rfl (Nat.le_refl _) (fun w' _ => alive08 w') ?_)
    refine R_cons rfl (op_pure (p_assign rfl) rfl ?_)
    refine R_nil ?_
    repeat (first | refine S_scope ?_ | refine S_label ?_ | refine E_noGoto_normal ?_ | refine E_noGoto_ret ?_ | refine E_noGoto_exit ?_ | refine S_yes rfl (by first | with_reducible rfl | decide) ?_ | refine S_no rfl (by first | with_reducible rfl | decide) ?_ | refine S_seq ?_ | refine E_seq ?_ | refine S_block ?_ | refine E_block_normal ?_ | refine S_skip ?_ | refine S_exit ?_ | refine S_ret ?_ | refine E_then_exit ?_ | refine E_then_ret ?_ | refine E_block_ret ?_ | refine E_block_exit ?_ | refine E_block_exit_other rfl ?_)
    exact E_ret1 rfl rfl fun w' hm => ⟨rfl, hm.below⟩
  have g2 : decide ((200 : Int) < (l.length : Int)) = false := decide_eq_false (by omega)
  have hn : 0 < l.length ∧ l.length ≤ 200 := by omega
  have hroot := rootS_length l hrd.1
  clear h200 h0
  repeat (first | refine S_scope ?_ | refine S_label ?_ | refine E_noGoto_normal ?_ | refine E_noGoto_ret ?_ | refine E_noGoto_exit ?_ | refine S_yes rfl (by first | with_reducible rfl | decide) ?_ | refine S_no rfl (by first | with_reducible rfl | decide) ?_ | refine S_seq ?_ | refine E_seq ?_ | refine S_block ?_ | refine E_block_normal ?_ | refine S_skip ?_ | refine S_exit ?_ | refine S_ret ?_ | refine E_then_exit ?_ | refine E_then_ret ?_ | refine E_block_ret ?_ | refine E_block_exit ?_ | refine E_block_exit_other rfl ?_)
  refine S_region ?_
  refine R_cons rfl (op_pure (p_assign rfl) rfl ?_)
  refine R_nil ?_
  repeat (first | refine S_scope ?_ | refine S_label ?_ | refine E_noGoto_normal ?_ | refine E_noGoto_ret ?_ | refine E_noGoto_exit ?_ | refine S_yes rfl (by first | with_reducible rfl | decide) ?_ | refine S_no rfl (by first | with_reducible rfl | decide) ?_ | refine S_seq ?_ | refine E_seq ?_ | refine S_block ?_ | refine E_block_normal ?_ | refine S_skip ?_ | refine S_exit ?_ | refine S_ret ?_ | refine E_then_exit ?_ | refine E_then_ret ?_ | refine E_block_ret ?_ | refine E_block_exit ?_ | refine E_block_exit_other rfl ?_)
  refine S_region ?_
  refine R_cons rfl (op_pure (p_move rfl) rfl ?_)
  refine R_cons rfl (op_pure (p_lenR rfl slr_api_Sum) rfl ?_)
  refine R_cons rfl (op_pure (p_bin rfl rfl (b_eql g1)) rfl ?_)
  refine R_cons rfl (op_pure (p_move rfl) rfl ?_)
  first | refine R_pass rfl rfl rfl rfl ?_ | refine R_pass_undef rfl rfl rfl ?_ | refine R_guard rfl rfl rfl (op_pure (p_move rfl) rfl ?_)
  first | refine R_pass rfl rfl rfl rfl ?_ | refine R_pass_undef rfl rfl rfl ?_ | refine R_guard rfl rfl rfl (op_pure (p_lenR rfl slr_api_Sum) rfl ?_)
  first | refine R_pass rfl rfl rfl rfl ?_ | refine R_pass_undef rfl rfl rfl ?_ | refine R_guard rfl rfl rfl (op_pure (p_bin rfl rfl (b_gtr g2)) rfl ?_)
  refine R_cons rfl (op_pure (by first | exact p_pick_yes rfl rfl | exact p_pick_no rfl rfl | exact p_pick rfl rfl rfl) rfl ?_)
  refine R_nil ?_
  repeat (first | refine S_scope ?_ | refine S_label ?_ | refine E_noGoto_normal ?_ | refine E_noGoto_ret ?_ | refine E_noGoto_exit ?_ | refine S_yes rfl (by first | with_reducible rfl | decide) ?_ | refine S_no rfl (by first | with_reducible rfl | decide) ?_ | refine S_seq ?_ | refine E_seq ?_ | refine S_block ?_ | refine E_block_normal ?_ | refine S_skip ?_ | refine S_exit ?_ | refine S_ret ?_ | refine E_then_exit ?_ | refine E_then_ret ?_ | refine E_block_ret ?_ | refine E_block_exit ?_ | refine E_block_exit_other rfl ?_)
  refine S_region ?_
  refine R_cons rfl (op_pure (p_move rfl) rfl ?_)
  refine R_cons rfl (op_appendNilS (ys := l) rfl rfl slr_api_Sum.1 elr_Sum (fun w' hm => hrd.base hm) rfl hn.1 (by omega) rfl (Nat.le_refl _) (fun b16 c16 s16 h16 i16 j16 => ?_))
  refine R_cons rfl (op_pure (p_assign rfl) rfl ?_)
  refine R_nil ?_
  repeat (first | refine S_scope ?_ | refine S_label ?_ | refine E_noGoto_normal ?_ | refine E_noGoto_ret ?_ | refine E_noGoto_exit ?_ | refine S_yes rfl (by first | with_reducible rfl | decide) ?_ | refine S_no rfl (by first | with_reducible rfl | decide) ?_ | refine S_seq ?_ | refine E_seq ?_ | refine S_block ?_ | refine E_block_normal ?_ | refine S_skip ?_ | refine S_exit ?_ | refine S_ret ?_ | refine E_then_exit ?_ | refine E_then_ret ?_ | refine E_block_ret ?_ | refine E_block_exit ?_ | refine E_block_exit_other rfl ?_)
  refine S_loop (σ := List (List UInt8) × Nat × Nat × List Value) (fun s => [(3, .slice (some ⟨s.2.1, 0, none⟩) s.1.length s.2.2.1), (2, .bool false), (0, .slice A l.length c)]) (fun s => [(s.2.1, .cells (sumsV s.1 ++ s.2.2.2).toArray 23 (0, 0))])
    (fun s => Sums s.1 ∧ 0 < s.1.length ∧ s.1.length ≤ 200 ∧ rootS s.1 = rootS l ∧ (sumsV s.1 ++ s.2.2.2).length = s.2.2.1 * 32 ∧ s.1.length ≤ s.2.2.1 ∧ s.2.2.1 ≤ maxLen) (fun s => s.1.length) (l, b16, c16, s16) ⟨hrd.1, hn.1, hn.2, rfl, h16, i16, j16⟩ (by repeat (first | exact Sub.nil | refine Sub.cons rfl ?_)) (Fewer.refl _) ?_
  rintro ⟨L, b, cap, sp⟩ ⟨hL, hl0, hl2, hrt, hcap, hlc, hcmx⟩
  dsimp only at hL hl0 hl2 hrt hcap hlc hcmx ⊢
  by_cases hone : L.length = 1
  · have g3 : decide ((1 : Int) < (L.length : Int)) = false := decide_eq_false (by omega)
    obtain ⟨x, rfl⟩ := List.length_eq_one_iff.1 hone
    have hxl : x.length = 32 := hL x (by simp)
    have heq : (rootS l == x) = true := by rw [← hrt, rootS_one]; exact beq_self_eq_true _
    repeat (first | refine S_scope ?_ | refine S_label ?_ | refine E_noGoto_normal ?_ | refine E_noGoto_ret ?_ | refine E_noGoto_exit ?_ | refine S_yes rfl (by first | with_reducible rfl | decide) ?_ | refine S_no rfl (by first | with_reducible rfl | decide) ?_ | refine S_seq ?_ | refine E_seq ?_ | refine S_block ?_ | refine E_block_normal ?_ | refine S_skip ?_ | refine S_exit ?_ | refine S_ret ?_ | refine E_then_exit ?_ | refine E_then_ret ?_ | refine E_block_ret ?_ | refine E_block_exit ?_ | refine E_block_exit_other rfl ?_)
    refine S_region ?_
    refine R_cons rfl (op_pure (p_move rfl) rfl ?_)
    refine R_cons rfl (op_pure (p_lenR rfl slr_api_Sum) rfl ?_)
    refine R_cons rfl (op_pure (p_bin rfl rfl (b_gtr g3)) rfl ?_)
    refine R_nil ?_
    repeat (first | refine S_scope ?_ | refine S_label ?_ | refine E_noGoto_normal ?_ | refine E_noGoto_ret ?_ | refine E_noGoto_exit ?_ | refine S_yes rfl (by first | with_reducible rfl | decide) ?_ | refine S_no rfl (by first | with_reducible rfl | decide) ?_ | refine S_seq ?_ | refine E_seq ?_ | refine S_block ?_ | refine E_block_normal ?_ | refine S_skip ?_ | refine S_exit ?_ | refine S_ret ?_ | refine E_then_exit ?_ | refine E_then_ret ?_ | refine E_block_ret ?_ | refine E_block_exit ?_ | refine E_block_exit_other rfl ?_)
    refine S_cut [(2, .bool true)] [] ?_ ?_
    · refine S_drawn (by kernel_rfl) (Fewer.refl _) ?_
      refine D_only 0 rfl (by kernel_rfl) rfl (op_callV rfl rfl Try.func42 rfl (by kernel_rfl) rfl (Nat.le_refl _) (fun w' _ => alive08 w') ?_)
      refine ⟨(by repeat (first | exact Fewer.nil | refine Fewer.keep rfl ?_ | refine Fewer.drop ?_)), ?_⟩
      refine D_take 1 rfl (by kernel_rfl) (by kernel_rfl) (by kernel_rfl) (by repeat (first | exact calm_body | exact calm_mid | apply calm_noGoto | exact calm_midE | apply calm_then | apply calm_block)) (p_move rfl) rfl ?_
      first | refine D_pass 2 rfl (by kernel_rfl) (by kernel_rfl) (by kernel_rfl) (by repeat (first | exact calm_body | exact calm_mid | apply calm_noGoto | exact calm_midE | apply calm_then | apply calm_block)) rfl rfl rfl rfl ?_ | refine D_pass_undef 2 rfl (by kernel_rfl) (by kernel_rfl) (by kernel_rfl) (by repeat (first | exact calm_body | exact calm_mid | apply calm_noGoto | exact calm_midE | apply calm_then | apply calm_block)) rfl rfl rfl ?_ | refine D_take_guard 2 rfl (by kernel_rfl) (by kernel_rfl) (by kernel_rfl) (by repeat (first | exact calm_body | exact calm_mid | apply calm_noGoto | exact calm_midE | apply calm_then | apply calm_block)) rfl rfl (p_move rfl) rfl ?_
      first | refine D_pass 4 rfl (by kernel_rfl) (by kernel_rfl) (by kernel_rfl) (by repeat (first | exact calm_body | exact calm_mid | apply calm_noGoto | exact calm_midE | apply calm_then | apply calm_block)) rfl rfl rfl rfl ?_ | refine D_pass_undef 4 rfl (by kernel_rfl) (by kernel_rfl) (by kernel_rfl) (by repeat (first | exact calm_body | exact calm_mid | apply calm_noGoto | exact calm_midE | apply calm_then | apply calm_block)) rfl rfl rfl ?_ | refine D_take_guard 4 rfl (by kernel_rfl) (by kernel_rfl) (by kernel_rfl) (by repeat (first | exact calm_body | exact calm_mid | apply calm_noGoto | exact calm_midE | apply calm_then | apply calm_block)) rfl rfl (p_move rfl) rfl ?_
      first | refine D_pass 5 rfl (by kernel_rfl) (by kernel_rfl) (by kernel_rfl) (by repeat (first | exact calm_body | exact calm_mid | apply calm_noGoto | exact calm_midE | apply calm_then | apply calm_block)) rfl rfl rfl rfl ?_ | refine D_pass_undef 5 rfl (by kernel_rfl) (by kernel_rfl) (by kernel_rfl) (by repeat (first | exact calm_body | exact calm_mid | apply calm_noGoto | exact calm_midE | apply calm_then | apply calm_block)) rfl rfl rfl ?_ | refine D_take_guard 5 rfl (by kernel_rfl) (by kernel_rfl) (by kernel_rfl) (by repeat (first | exact calm_body | exact calm_mid | apply calm_noGoto | exact calm_midE | apply calm_then | apply calm_block)) rfl rfl (p_indexR (j := 0) rfl rfl rfl slr_api_Sum (by simp)) rfl ?_
      first | refine D_pass 6 rfl (by kernel_rfl) (by kernel_rfl) (by kernel_rfl) (by repeat (first | exact calm_body | exact calm_mid | apply calm_noGoto | exact calm_midE | apply calm_then | apply calm_block)) rfl rfl rfl rfl ?_ | refine D_pass_undef 6 rfl (by kernel_rfl) (by kernel_rfl) (by kernel_rfl) (by repeat (first | exact calm_body | exact calm_mid | apply calm_noGoto | exact calm_midE | apply calm_then | apply calm_block)) rfl rfl rfl ?_ | refine D_take_guard 6 rfl (by kernel_rfl) (by kernel_rfl) (by kernel_rfl) (by repeat (first | exact calm_body | exact calm_mid | apply calm_noGoto | exact calm_midE | apply calm_then | apply calm_block)) rfl rfl (p_loadR rfl row_Sum (cs := bytesV x) (fun w' hm => (hm.readsSp (b := b) (sp := sp) hL (by repeat (first | exact List.Mem.head _ | apply List.Mem.tail))).at_ (j := 0) (by simp))) rfl ?_
      first | refine D_pass 3 rfl (by kernel_rfl) (by kernel_rfl) (by kernel_rfl) (by repeat (first | exact calm_body | exact calm_mid | apply calm_noGoto | exact calm_midE | apply calm_then | apply calm_block)) rfl rfl rfl rfl ?_ | refine D_pass_undef 3 rfl (by kernel_rfl) (by kernel_rfl) (by kernel_rfl) (by repeat (first | exact calm_body | exact calm_mid | apply calm_noGoto | exact calm_midE | apply calm_then | apply calm_block)) rfl rfl rfl ?_ | (refine D_only_guard 3 rfl (by kernel_rfl) rfl rfl rfl (op_callV rfl rfl Try.func39 rfl (by kernel_rfl) rfl (Nat.le_refl _) (fun w' hm => root_any A _ c l w' rfl (by omega) hnc hcm (hrd.base hm)) ?_); refine ⟨(by repeat (first | exact Fewer.nil | refine Fewer.keep rfl ?_ | refine Fewer.drop ?_)), ?_⟩)
      first | refine D_pass 7 rfl (by kernel_rfl) (by kernel_rfl) (by kernel_rfl) (by repeat (first | exact calm_body | exact calm_mid | apply calm_noGoto | exact calm_midE | apply calm_then | apply calm_block)) rfl rfl rfl rfl ?_ | refine D_pass_undef 7 rfl (by kernel_rfl) (by kernel_rfl) (by kernel_rfl) (by repeat (first | exact calm_body | exact calm_mid | apply calm_noGoto | exact calm_midE | apply calm_then | apply calm_block)) rfl rfl rfl ?_ | refine D_take_guard 7 rfl (by kernel_rfl) (by kernel_rfl) (by kernel_rfl) (by repeat (first | exact calm_body | exact calm_mid | apply calm_noGoto | exact calm_midE | apply calm_then | apply calm_block)) rfl rfl (p_eql_bytesR rfl rfl arr_Sum.1 Try.underlying5 (by kernel_rfl) (by kernel_rfl) hroot hxl heq) rfl ?_
      refine D_take 8 rfl (by kernel_rfl) (by kernel_rfl) (by kernel_rfl) (by repeat (first | exact calm_body | exact calm_mid | apply calm_noGoto | exact calm_midE | apply calm_then | apply calm_block)) (by first | exact p_pick_yes rfl rfl | exact p_pick_no rfl rfl | exact p_pick rfl rfl rfl) rfl ?_
      refine D_take 9 rfl (by kernel_rfl) (by kernel_rfl) (by kernel_rfl) (by repeat (first | exact calm_body | exact calm_mid | apply calm_noGoto | exact calm_midE | apply calm_then | apply calm_block)) (p_assign rfl) rfl ?_
      refine D_done (by kernel_rfl) ?_
      exact E_mid (by repeat (first | exact Sub.nil | refine Sub.cons rfl ?_)) .nil
    · repeat (first | refine S_scope ?_ | refine S_label ?_ | refine E_noGoto_normal ?_ | refine E_noGoto_ret ?_ | refine E_noGoto_exit ?_ | refine S_yes rfl (by first | with_reducible rfl | decide) ?_ | refine S_no rfl (by first | with_reducible rfl | decide) ?_ | refine S_seq ?_ | refine E_seq ?_ | refine S_block ?_ | refine E_block_normal ?_ | refine S_skip ?_ | refine S_exit ?_ | refine S_ret ?_ | refine E_then_exit ?_ | refine E_then_ret ?_ | refine E_block_ret ?_ | refine E_block_exit ?_ | refine E_block_exit_other rfl ?_)
      exact E_ret1 rfl rfl fun w' hm => ⟨rfl, hm.below⟩
  have g3 : decide ((1 : Int) < (L.length : Int)) = true := decide_eq_true (by omega)
  repeat (first | refine S_scope ?_ | refine S_label ?_ | refine E_noGoto_normal ?_ | refine E_noGoto_ret ?_ | refine E_noGoto_exit ?_ | refine S_yes rfl (by first | with_reducible rfl | decide) ?_ | refine S_no rfl (by first | with_reducible rfl | decide) ?_ | refine S_seq ?_ | refine E_seq ?_ | refine S_block ?_ | refine E_block_normal ?_ | refine S_skip ?_ | refine S_exit ?_ | refine S_ret ?_ | refine E_then_exit ?_ | refine E_then_ret ?_ | refine E_block_ret ?_ | refine E_block_exit ?_ | refine E_block_exit_other rfl ?_)
  refine S_region ?_
  refine R_cons rfl (op_pure (p_move rfl) rfl ?_)
  refine R_cons rfl (op_pure (p_lenR rfl slr_api_Sum) rfl ?_)
  refine R_cons rfl (op_pure (p_bin rfl rfl (b_gtr g3)) rfl ?_)
  refine R_nil ?_
  repeat (first | refine S_scope ?_ | refine S_label ?_ | refine E_noGoto_normal ?_ | refine E_noGoto_ret ?_ | refine E_noGoto_exit ?_ | refine S_yes rfl (by first | with_reducible rfl | decide) ?_ | refine S_no rfl (by first | with_reducible rfl | decide) ?_ | refine S_seq ?_ | refine E_seq ?_ | refine S_block ?_ | refine E_block_normal ?_ | refine S_skip ?_ | refine S_exit ?_ | refine S_ret ?_ | refine E_then_exit ?_ | refine E_then_ret ?_ | refine E_block_ret ?_ | refine E_block_exit ?_ | refine E_block_exit_other rfl ?_)
  refine S_region ?_
  refine R_cons rfl (op_pure (p_assign rfl) rfl ?_)
  refine R_nil ?_
  repeat (first | refine S_scope ?_ | refine S_label ?_ | refine E_noGoto_normal ?_ | refine E_noGoto_ret ?_ | refine E_noGoto_exit ?_ | refine S_yes rfl (by first | with_reducible rfl | decide) ?_ | refine S_no rfl (by first | with_reducible rfl | decide) ?_ | refine S_seq ?_ | refine E_seq ?_ | refine S_block ?_ | refine E_block_normal ?_ | refine S_skip ?_ | refine S_exit ?_ | refine S_ret ?_ | refine E_then_exit ?_ | refine E_then_ret ?_ | refine E_block_ret ?_ | refine E_block_exit ?_ | refine E_block_exit_other rfl ?_)
  refine S_region ?_
  refine R_cons rfl (op_pure (p_assign rfl) rfl ?_)
  refine R_nil ?_
  repeat (first | refine S_scope ?_ | refine S_label ?_ | refine E_noGoto_normal ?_ | refine E_noGoto_ret ?_ | refine E_noGoto_exit ?_ | refine S_yes rfl (by first | with_reducible rfl | decide) ?_ | refine S_no rfl (by first | with_reducible rfl | decide) ?_ | refine S_seq ?_ | refine E_seq ?_ | refine S_block ?_ | refine E_block_normal ?_ | refine S_skip ?_ | refine S_exit ?_ | refine S_ret ?_ | refine E_then_exit ?_ | refine E_then_ret ?_ | refine E_block_ret ?_ | refine E_block_exit ?_ | refine E_block_exit_other rfl ?_)
  refine S_loop (σ := Nat × SB) (fun s => [(5, .int .i64 (s.1 : Int)), (4, SB.val s.2 (up (L.take s.1))), (3, .slice (some ⟨b, 0, none⟩) L.length cap), (2, .bool false), (0, .slice A l.length c)]) (fun s => SB.hp s.2 (up (L.take s.1)) ++ [(b, .cells (sumsV L ++ sp).toArray 23 (0, 0))])
    (fun s => s.1 % 2 = 0 ∧ s.1 ≤ L.length + 1 ∧ SB.ok s.2 (up (L.take s.1)) ∧ (s.2 = none → s.1 = 0)) (fun s => L.length + 2 - s.1) (0, none) ⟨rfl, by omega, by simp [SB.ok, up], fun _ => rfl⟩ (by unfold SB.val; repeat (first | exact Sub.nil | refine Sub.cons rfl ?_)) (by unfold SB.hp; exact Fewer.refl _) ?_
  rintro ⟨i, u⟩ ⟨he, hi1, hok, hu0⟩
  dsimp only at he hi1 hok hu0 ⊢
  by_cases hin : i < L.length
  · have g4 : decide ((i : Int) < (L.length : Int)) = true := decide_eq_true (by omega)
    have hadd1 : IntKind.i64.wrap ((i : Int) + 1) = ((i + 1 : Nat) : Int) := by rw [w_in_i64 (by omega)]; omega
    have hadd2 : IntKind.i64.wrap ((i : Int) + 2) = ((i + 2 : Nat) : Int) := by rw [w_in_i64 (by omega)]; omega
    have hus := up_sums _ (hL.take i)
    have hul : (up (L.take i)).length ≤ 200 := by rw [up_length, List.length_take]; omega
    have hx1 := sums_getD hL hin
    repeat (first | refine S_scope ?_ | refine S_label ?_ | refine E_noGoto_normal ?_ | refine E_noGoto_ret ?_ | refine E_noGoto_exit ?_ | refine S_yes rfl (by first | with_reducible rfl | decide) ?_ | refine S_no rfl (by first | with_reducible rfl | decide) ?_ | refine S_seq ?_ | refine E_seq ?_ | refine S_block ?_ | refine E_block_normal ?_ | refine S_skip ?_ | refine S_exit ?_ | refine S_ret ?_ | refine E_then_exit ?_ | refine E_then_ret ?_ | refine E_block_ret ?_ | refine E_block_exit ?_ | refine E_block_exit_other rfl ?_)
    refine S_region ?_
    refine R_cons rfl (op_pure (p_move rfl) rfl ?_)
    refine R_cons rfl (op_pure (p_move rfl) rfl ?_)
    refine R_cons rfl (op_pure (p_lenR rfl slr_api_Sum) rfl ?_)
    refine R_cons rfl (op_pure (p_bin rfl rfl (b_lss g4)) rfl ?_)
    refine R_nil ?_
    repeat (first | refine S_scope ?_ | refine S_label ?_ | refine E_noGoto_normal ?_ | refine E_noGoto_ret ?_ | refine E_noGoto_exit ?_ | refine S_yes rfl (by first | with_reducible rfl | decide) ?_ | refine S_no rfl (by first | with_reducible rfl | decide) ?_ | refine S_seq ?_ | refine E_seq ?_ | refine S_block ?_ | refine E_block_normal ?_ | refine S_skip ?_ | refine S_exit ?_ | refine S_ret ?_ | refine E_then_exit ?_ | refine E_then_ret ?_ | refine E_block_ret ?_ | refine E_block_exit ?_ | refine E_block_exit_other rfl ?_)
    by_cases hpair : i + 1 < L.length
    · have g5 : decide (((i + 1 : Nat) : Int) < (L.length : Int)) = true := decide_eq_true (by omega)
      have hx2 := sums_getD hL hpair
      have hup := up_pair L i he hpair
      have hnl := nodeS_length (L.getD i []) (L.getD (i + 1) [])
      have hss : Sums [nodeS (L.getD i []) (L.getD (i + 1) [])] := Sums.cons hnl Sums.nil
      refine S_region ?_
      refine R_cons rfl (op_pure (p_move rfl) rfl ?_)
      refine R_cons rfl (op_pure (p_bin rfl rfl (b_add hadd1)) rfl ?_)
      refine R_cons rfl (op_pure (p_move rfl) rfl ?_)
      refine R_cons rfl (op_pure (p_lenR rfl slr_api_Sum) rfl ?_)
      refine R_cons rfl (op_pure (p_bin rfl rfl (b_lss g5)) rfl ?_)
      refine R_nil ?_
      repeat (first | refine S_scope ?_ | refine S_label ?_ | refine E_noGoto_normal ?_ | refine E_noGoto_ret ?_ | refine E_noGoto_exit ?_ | refine S_yes rfl (by first | with_reducible rfl | decide) ?_ | refine S_no rfl (by first | with_reducible rfl | decide) ?_ | refine S_seq ?_ | refine E_seq ?_ | refine S_block ?_ | refine E_block_normal ?_ | refine S_skip ?_ | refine S_exit ?_ | refine S_ret ?_ | refine E_then_exit ?_ | refine E_then_ret ?_ | refine E_block_ret ?_ | refine E_block_exit ?_ | refine E_block_exit_other rfl ?_)
      refine S_cutE (σ := Nat × Nat × List Value) (fun q => [(5, .int .i64 (i : Int)), (4, .slice (some ⟨q.1, 0, none⟩) (up (L.take (i + 2))).length q.2.1), (3, .slice (some ⟨b, 0, none⟩) L.length cap), (2, .bool false), (0, .slice A l.length c)])
        (fun q => [(q.1, .cells (sumsV (up (L.take (i + 2))) ++ q.2.2).toArray 23 (0, 0)), (b, .cells (sumsV L ++ sp).toArray 23 (0, 0))]) (fun q => (sumsV (up (L.take (i + 2))) ++ q.2.2).length = q.2.1 * 32 ∧ (up (L.take (i + 2))).length ≤ q.2.1 ∧ q.2.1 ≤ maxLen) ?_ ?_
      · rcases u with _ | ⟨b4, c4, s4⟩
        · have h00 : i = 0 := hu0 rfl
          have hz : up (L.take i) = [] := by rw [h00]; rfl
          have hup2 : up (L.take (i + 2)) = [nodeS (L.getD i []) (L.getD (i + 1) [])] := by rw [hup, hz]; rfl
          have hln : (up (L.take (i + 2))).length = 1 := by rw [hup2]; rfl
          simp only [SB.val, SB.hp, List.nil_append]
          refine S_drawn (by kernel_rfl) (Fewer.refl _) ?_
          refine D_take 0 rfl (by kernel_rfl) (by kernel_rfl) (by kernel_rfl) (by repeat (first | exact calm_body | exact calm_mid | apply calm_noGoto | exact calm_midE | apply calm_then | apply calm_block)) (p_move rfl) rfl ?_
          refine D_take 1 rfl (by kernel_rfl) (by kernel_rfl) (by kernel_rfl) (by repeat (first | exact calm_body | exact calm_mid | apply calm_noGoto | exact calm_midE | apply calm_then | apply calm_block)) (p_move rfl) rfl ?_
          refine D_take 2 rfl (by kernel_rfl) (by kernel_rfl) (by kernel_rfl) (by repeat (first | exact calm_body | exact calm_mid | apply calm_noGoto | exact calm_midE | apply calm_then | apply calm_block)) (p_move rfl) rfl ?_
          refine D_take 3 rfl (by kernel_rfl) (by kernel_rfl) (by kernel_rfl) (by repeat (first | exact calm_body | exact calm_mid | apply calm_noGoto | exact calm_midE | apply calm_then | apply calm_block)) (p_indexR (j := i) rfl rfl rfl slr_api_Sum hin) rfl ?_
          refine D_take 4 rfl (by kernel_rfl) (by kernel_rfl) (by kernel_rfl) (by repeat (first | exact calm_body | exact calm_mid | apply calm_noGoto | exact calm_midE | apply calm_then | apply calm_block)) (p_loadR rfl row_Sum (fun w' hm => (hm.readsSp (b := b) (sp := sp) hL (by repeat (first | exact List.Mem.head _ | apply List.Mem.tail))).at_ (j := i) hin)) rfl ?_
          refine D_take 5 rfl (by kernel_rfl) (by kernel_rfl) (by kernel_rfl) (by repeat (first | exact calm_body | exact calm_mid | apply calm_noGoto | exact calm_midE | apply calm_then | apply calm_block)) (p_move rfl) rfl ?_
          refine D_take 6 rfl (by kernel_rfl) (by kernel_rfl) (by kernel_rfl) (by repeat (first | exact calm_body | exact calm_mid | apply calm_noGoto | exact calm_midE | apply calm_then | apply calm_block)) (p_move rfl) rfl ?_
          refine D_take 7 rfl (by kernel_rfl) (by kernel_rfl) (by kernel_rfl) (by repeat (first | exact calm_body | exact calm_mid | apply calm_noGoto | exact calm_midE | apply calm_then | apply calm_block)) (p_bin rfl rfl (b_add hadd1)) rfl ?_
          refine D_take 8 rfl (by kernel_rfl) (by kernel_rfl) (by kernel_rfl) (by repeat (first | exact calm_body | exact calm_mid | apply calm_noGoto | exact calm_midE | apply calm_then | apply calm_block)) (p_indexR (j := i + 1) rfl rfl rfl slr_api_Sum hpair) rfl ?_
          refine D_take 9 rfl (by kernel_rfl) (by kernel_rfl) (by kernel_rfl) (by repeat (first | exact calm_body | exact calm_mid | apply calm_noGoto | exact calm_midE | apply calm_then | apply calm_block)) (p_loadR rfl row_Sum (fun w' hm => (hm.readsSp (b := b) (sp := sp) hL (by repeat (first | exact List.Mem.head _ | apply List.Mem.tail))).at_ (j := i + 1) hpair)) rfl ?_
          refine D_only 10 rfl (by kernel_rfl) rfl (op_callV rfl rfl Try.func37 rfl (by kernel_rfl) rfl (Nat.le_refl _) (fun w' _ => node_any _ _ hx1 hx2 w') ?_)
          refine ⟨(by repeat (first | exact Fewer.nil | refine Fewer.keep rfl ?_ | refine Fewer.drop ?_)), ?_⟩
          refine D_only 11 rfl (by kernel_rfl) rfl (op_buildSliceS (ps := [(0, .tmp 41)]) (l := [nodeS (L.getD i []) (L.getD (i + 1) [])]) rfl rfl slr_api_Sum.1 elr_Sum hss rfl (by decide) (by decide) rfl (Nat.le_refl _) (fun b42 => ?_))
          refine ⟨(by repeat (first | exact Fewer.nil | refine Fewer.keep rfl ?_ | refine Fewer.drop ?_)), ?_⟩
          refine D_only 12 rfl (by kernel_rfl) rfl (op_appendNilS (ys := [nodeS (L.getD i []) (L.getD (i + 1) [])]) rfl rfl slr_api_Sum.1 elr_Sum (fun w' hm => hm.readsS (b := b42) hss (by repeat (first | exact List.Mem.head _ | apply List.Mem.tail))) rfl (by omega) (by omega) rfl (Nat.le_refl _) (fun b43 c43 s43 h43 i43 j43 => ?_))
          refine ⟨(by repeat (first | exact Fewer.nil | refine Fewer.keep rfl ?_ | refine Fewer.drop ?_)), ?_⟩
          refine D_take 13 rfl (by kernel_rfl) (by kernel_rfl) (by kernel_rfl) (by repeat (first | exact calm_body | exact calm_mid | apply calm_noGoto | exact calm_midE | apply calm_then | apply calm_block)) (p_assign rfl) rfl ?_
          refine D_done (by kernel_rfl) ?_
          exact E_midE (b43, c43, s43) ⟨by rw [hup2]; exact h43, by rw [hln]; exact i43, j43⟩ (Sub.cons rfl (Sub.cons (by rw [hln]; rfl) (by repeat (first | exact Sub.nil | refine Sub.cons rfl ?_)))) (by rw [hup2]; exact Fewer.keep rfl (Fewer.drop (Fewer.refl _)))
        · have hln : (up (L.take (i + 2))).length = (up (L.take i)).length + 1 := by rw [hup]; simp
          simp only [SB.val, SB.hp, SB.ok, List.cons_append, List.nil_append] at hok ⊢
          refine S_drawn (by kernel_rfl) (Fewer.drop (Fewer.refl _)) ?_
          refine D_take 0 rfl (by kernel_rfl) (by kernel_rfl) (by kernel_rfl) (by repeat (first | exact calm_body | exact calm_mid | apply calm_noGoto | exact calm_midE | apply calm_then | apply calm_block)) (p_move rfl) rfl ?_
          refine D_take 1 rfl (by kernel_rfl) (by kernel_rfl) (by kernel_rfl) (by repeat (first | exact calm_body | exact calm_mid | apply calm_noGoto | exact calm_midE | apply calm_then | apply calm_block)) (p_move rfl) rfl ?_
          refine D_take 2 rfl (by kernel_rfl) (by kernel_rfl) (by kernel_rfl) (by repeat (first | exact calm_body | exact calm_mid | apply calm_noGoto | exact calm_midE | apply calm_then | apply calm_block)) (p_move rfl) rfl ?_
          refine D_take 3 rfl (by kernel_rfl) (by kernel_rfl) (by kernel_rfl) (by repeat (first | exact calm_body | exact calm_mid | apply calm_noGoto | exact calm_midE | apply calm_then | apply calm_block)) (p_indexR (j := i) rfl rfl rfl slr_api_Sum hin) rfl ?_
          refine D_take 4 rfl (by kernel_rfl) (by kernel_rfl) (by kernel_rfl) (by repeat (first | exact calm_body | exact calm_mid | apply calm_noGoto | exact calm_midE | apply calm_then | apply calm_block)) (p_loadR rfl row_Sum (fun w' hm => (hm.readsSp (b := b) (sp := sp) hL (by repeat (first | exact List.Mem.head _ | apply List.Mem.tail))).at_ (j := i) hin)) rfl ?_
          refine D_take 5 rfl (by kernel_rfl) (by kernel_rfl) (by kernel_rfl) (by repeat (first | exact calm_body | exact calm_mid | apply calm_noGoto | exact calm_midE | apply calm_then | apply calm_block)) (p_move rfl) rfl ?_
          refine D_take 6 rfl (by kernel_rfl) (by kernel_rfl) (by kernel_rfl) (by repeat (first | exact calm_body | exact calm_mid | apply calm_noGoto | exact calm_midE | apply calm_then | apply calm_block)) (p_move rfl) rfl ?_
          refine D_take 7 rfl (by kernel_rfl) (by kernel_rfl) (by kernel_rfl) (by repeat (first | exact calm_body | exact calm_mid | apply calm_noGoto | exact calm_midE | apply calm_then | apply calm_block)) (p_bin rfl rfl (b_add hadd1)) rfl ?_
          refine D_take 8 rfl (by kernel_rfl) (by kernel_rfl) (by kernel_rfl) (by repeat (first | exact calm_body | exact calm_mid | apply calm_noGoto | exact calm_midE | apply calm_then | apply calm_block)) (p_indexR (j := i + 1) rfl rfl rfl slr_api_Sum hpair) rfl ?_
          refine D_take 9 rfl (by kernel_rfl) (by kernel_rfl) (by kernel_rfl) (by repeat (first | exact calm_body | exact calm_mid | apply calm_noGoto | exact calm_midE | apply calm_then | apply calm_block)) (p_loadR rfl row_Sum (fun w' hm => (hm.readsSp (b := b) (sp := sp) hL (by repeat (first | exact List.Mem.head _ | apply List.Mem.tail))).at_ (j := i + 1) hpair)) rfl ?_
          refine D_only 10 rfl (by kernel_rfl) rfl (op_callV rfl rfl Try.func37 rfl (by kernel_rfl) rfl (Nat.le_refl _) (fun w' _ => node_any _ _ hx1 hx2 w') ?_)
          refine ⟨(by repeat (first | exact Fewer.nil | refine Fewer.keep rfl ?_ | refine Fewer.drop ?_)), ?_⟩
          refine D_only 11 rfl (by kernel_rfl) rfl (op_buildSliceS (ps := [(0, .tmp 41)]) (l := [nodeS (L.getD i []) (L.getD (i + 1) [])]) rfl rfl slr_api_Sum.1 elr_Sum hss rfl (by decide) (by decide) rfl (Nat.le_refl _) (fun b42 => ?_))
          refine ⟨(by repeat (first | exact Fewer.nil | refine Fewer.keep rfl ?_ | refine Fewer.drop ?_)), ?_⟩
          refine D_only 12 rfl (by kernel_rfl) rfl (op_appendS (b := b4) (xs := up (L.take i)) (sp := s4) (ys := [nodeS (L.getD i []) (L.getD (i + 1) [])]) rfl rfl slr_api_Sum.1 elr_Sum (by repeat (first | exact Del.here | apply Del.there)) hus rfl hok.1 hok.2.2 (fun w' hm => hm.readsS (b := b42) hss (by repeat (first | exact List.Mem.head _ | apply List.Mem.tail))) rfl (by omega) (by omega) rfl (Nat.le_refl _) (fun b43 c43 s43 h43 i43 j43 => ?_))
          refine ⟨(by repeat (first | exact Fewer.nil | refine Fewer.keep rfl ?_ | refine Fewer.drop ?_)), ?_⟩
          refine D_take 13 rfl (by kernel_rfl) (by kernel_rfl) (by kernel_rfl) (by repeat (first | exact calm_body | exact calm_mid | apply calm_noGoto | exact calm_midE | apply calm_then | apply calm_block)) (p_assign rfl) rfl ?_
          refine D_done (by kernel_rfl) ?_
          exact E_midE (b43, c43, s43) ⟨by rw [hup]; exact h43, by rw [hln]; exact i43, j43⟩ (Sub.cons rfl (Sub.cons (by rw [hln]; rfl) (by repeat (first | exact Sub.nil | refine Sub.cons rfl ?_)))) (by rw [hup]; exact Fewer.keep rfl (Fewer.drop (Fewer.refl _)))
      · rintro ⟨b43, c43, s43⟩ ⟨h43, i43, j43⟩
        dsimp only at h43 i43 j43 ⊢
        repeat (first | refine S_scope ?_ | refine S_label ?_ | refine E_noGoto_normal ?_ | refine E_noGoto_ret ?_ | refine E_noGoto_exit ?_ | refine S_yes rfl (by first | with_reducible rfl | decide) ?_ | refine S_no rfl (by first | with_reducible rfl | decide) ?_ | refine S_seq ?_ | refine E_seq ?_ | refine S_block ?_ | refine E_block_normal ?_ | refine S_skip ?_ | refine S_exit ?_ | refine S_ret ?_ | refine E_then_exit ?_ | refine E_then_ret ?_ | refine E_block_ret ?_ | refine E_block_exit ?_ | refine E_block_exit_other rfl ?_)
        refine S_region ?_
        refine R_cons rfl (op_pure (p_move rfl) rfl ?_)
        refine R_cons rfl (op_pure (p_bin rfl rfl (b_add hadd2)) rfl ?_)
        refine R_cons rfl (op_pure (p_assign rfl) rfl ?_)
        refine R_nil ?_
        repeat (first | refine S_scope ?_ | refine S_label ?_ | refine E_noGoto_normal ?_ | refine E_noGoto_ret ?_ | refine E_noGoto_exit ?_ | refine S_yes rfl (by first | with_reducible rfl | decide) ?_ | refine S_no rfl (by first | with_reducible rfl | decide) ?_ | refine S_seq ?_ | refine E_seq ?_ | refine S_block ?_ | refine E_block_normal ?_ | refine S_skip ?_ | refine S_exit ?_ | refine S_ret ?_ | refine E_then_exit ?_ | refine E_then_ret ?_ | refine E_block_ret ?_ | refine E_block_exit ?_ | refine E_block_exit_other rfl ?_)
        exact E_round (s := (i, u)) (i + 2, some (b43, c43, s43)) ⟨by show (i + 2) % 2 = 0; omega, by show i + 2 ≤ _; omega, ⟨h43, i43, j43⟩, fun h => by cases h⟩ (by show L.length + 2 - (i + 2) < L.length + 2 - i; omega) (by repeat (first | exact Sub.nil | refine Sub.cons rfl ?_)) (Fewer.refl _)
    · have g5 : decide (((i + 1 : Nat) : Int) < (L.length : Int)) = false := decide_eq_false (by omega)
      have hup := up_last L i he (by omega)
      have hss : Sums [L.getD i []] := Sums.cons hx1 Sums.nil
      refine S_region ?_
      refine R_cons rfl (op_pure (p_move rfl) rfl ?_)
      refine R_cons rfl (op_pure (p_bin rfl rfl (b_add hadd1)) rfl ?_)
      refine R_cons rfl (op_pure (p_move rfl) rfl ?_)
      refine R_cons rfl (op_pure (p_lenR rfl slr_api_Sum) rfl ?_)
      refine R_cons rfl (op_pure (p_bin rfl rfl (b_lss g5)) rfl ?_)
      refine R_nil ?_
      repeat (first | refine S_scope ?_ | refine S_label ?_ | refine E_noGoto_normal ?_ | refine E_noGoto_ret ?_ | refine E_noGoto_exit ?_ | refine S_yes rfl (by first | with_reducible rfl | decide) ?_ | refine S_no rfl (by first | with_reducible rfl | decide) ?_ | refine S_seq ?_ | refine E_seq ?_ | refine S_block ?_ | refine E_block_normal ?_ | refine S_skip ?_ | refine S_exit ?_ | refine S_ret ?_ | refine E_then_exit ?_ | refine E_then_ret ?_ | refine E_block_ret ?_ | refine E_block_exit ?_ | refine E_block_exit_other rfl ?_)
      rcases u with _ | ⟨b4, c4, s4⟩
      · have := hu0 rfl
        omega
      · simp only [SB.val, SB.hp, SB.ok, List.cons_append, List.nil_append] at hok ⊢
        refine S_region ?_
        refine R_cons rfl (op_pure (p_move rfl) rfl ?_)
        refine R_cons rfl (op_pure (p_move rfl) rfl ?_)
        refine R_cons rfl (op_pure (p_move rfl) rfl ?_)
        refine R_cons rfl (op_pure (p_indexR (j := i) rfl rfl rfl slr_api_Sum hin) rfl ?_)
        refine R_cons rfl (op_pure (p_loadR rfl row_Sum (fun w' hm => (hm.readsSp (b := b) (sp := sp) hL (by repeat (first | exact List.Mem.head _ | apply List.Mem.tail))).at_ (j := i) hin)) rfl ?_)
        refine R_cons rfl (op_buildSliceS (ps := [(0, .tmp 48)]) (l := [L.getD i []]) rfl rfl slr_api_Sum.1 elr_Sum hss rfl (by decide) (by decide) rfl (Nat.le_refl _) (fun b49 => ?_))
        refine R_cons rfl (op_appendS (b := b4) (xs := up (L.take i)) (sp := s4) (ys := [L.getD i []]) rfl rfl slr_api_Sum.1 elr_Sum (by repeat (first | exact Del.here | apply Del.there)) hus rfl hok.1 hok.2.2 (fun w' hm => hm.readsS (b := b49) hss (by repeat (first | exact List.Mem.head _ | apply List.Mem.tail))) rfl (by omega) (by omega) rfl (Nat.le_refl _) (fun b43 c43 s43 h43 i43 j43 => ?_))
        refine R_cons rfl (op_pure (p_assign rfl) rfl ?_)
        refine R_nil ?_
        repeat (first | refine S_scope ?_ | refine S_label ?_ | refine E_noGoto_normal ?_ | refine E_noGoto_ret ?_ | refine E_noGoto_exit ?_ | refine S_yes rfl (by first | with_reducible rfl | decide) ?_ | refine S_no rfl (by first | with_reducible rfl | decide) ?_ | refine S_seq ?_ | refine E_seq ?_ | refine S_block ?_ | refine E_block_normal ?_ | refine S_skip ?_ | refine S_exit ?_ | refine S_ret ?_ | refine E_then_exit ?_ | refine E_then_ret ?_ | refine E_block_ret ?_ | refine E_block_exit ?_ | refine E_block_exit_other rfl ?_)
        refine S_region ?_
        refine R_cons rfl (op_pure (p_move rfl) rfl ?_)
        refine R_cons rfl (op_pure (p_bin rfl rfl (b_add hadd2)) rfl ?_)
        refine R_cons rfl (op_pure (p_assign rfl) rfl ?_)
        refine R_nil ?_
        repeat (first | refine S_scope ?_ | refine S_label ?_ | refine E_noGoto_normal ?_ | refine E_noGoto_ret ?_ | refine E_noGoto_exit ?_ | refine S_yes rfl (by first | with_reducible rfl | decide) ?_ | refine S_no rfl (by first | with_reducible rfl | decide) ?_ | refine S_seq ?_ | refine E_seq ?_ | refine S_block ?_ | refine E_block_normal ?_ | refine S_skip ?_ | refine S_exit ?_ | refine S_ret ?_ | refine E_then_exit ?_ | refine E_then_ret ?_ | refine E_block_ret ?_ | refine E_block_exit ?_ | refine E_block_exit_other rfl ?_)
        have hln : (up (L.take (i + 2))).length = (up (L.take i)).length + 1 := by rw [hup]; simp
        exact E_round (s := (i, some (b4, c4, s4))) (i + 2, some (b43, c43, s43)) ⟨by show (i + 2) % 2 = 0; omega, by show i + 2 ≤ _; omega, ⟨by show (sumsV (up (L.take (i + 2))) ++ s43).length = _; rw [hup]; exact h43, by show (up (L.take (i + 2))).length ≤ c43; rw [hln]; exact i43, j43⟩, fun h => by cases h⟩ (by show L.length + 2 - (i + 2) < L.length + 2 - i; omega)
          (Sub.cons rfl (Sub.cons (by show some _ = some (Value.slice _ (up (L.take (i + 2))).length _); rw [hln]) (by repeat (first | exact Sub.nil | refine Sub.cons rfl ?_)))) (by show Fewer ((_, Obj.cells (sumsV (up (L.take (i + 2))) ++ _).toArray _ _) :: _) _; rw [hup]; exact Fewer.keep rfl (Fewer.drop (Fewer.refl _)))
  · have g4 : decide ((i : Int) < (L.length : Int)) = false := decide_eq_false (by omega)
    rcases u with _ | ⟨b4, c4, s4⟩
    · have := hu0 rfl
      omega
    have hall : L.take i = L := List.take_of_length_le (by omega)
    have hus := up_sums L hL
    have hul := up_length L
    have hru := root_up L.length L (Nat.le_refl _) (by intro e; rw [e] at hl0; simp at hl0)
    have hr1 := rootS_length _ hus
    have hr2 := rootS_length _ hL
    have hne : (!(rootS (up L) == rootS L)) = false := by rw [hru]; simp
    simp only [SB.val, SB.hp, SB.ok, List.cons_append, List.nil_append] at hok ⊢
    rw [hall] at hok
    simp only [hall]
    have hok2 := hok.2
    repeat (first | refine S_scope ?_ | refine S_label ?_ | refine E_noGoto_normal ?_ | refine E_noGoto_ret ?_ | refine E_noGoto_exit ?_ | refine S_yes rfl (by first | with_reducible rfl | decide) ?_ | refine S_no rfl (by first | with_reducible rfl | decide) ?_ | refine S_seq ?_ | refine E_seq ?_ | refine S_block ?_ | refine E_block_normal ?_ | refine S_skip ?_ | refine S_exit ?_ | refine S_ret ?_ | refine E_then_exit ?_ | refine E_then_ret ?_ | refine E_block_ret ?_ | refine E_block_exit ?_ | refine E_block_exit_other rfl ?_)
    refine S_region ?_
    refine R_cons rfl (op_pure (p_move rfl) rfl ?_)
    refine R_cons rfl (op_pure (p_move rfl) rfl ?_)
    refine R_cons rfl (op_pure (p_lenR rfl slr_api_Sum) rfl ?_)
    refine R_cons rfl (op_pure (p_bin rfl rfl (b_lss g4)) rfl ?_)
    refine R_nil ?_
    repeat (first | refine S_scope ?_ | refine S_label ?_ | refine E_noGoto_normal ?_ | refine E_noGoto_ret ?_ | refine E_noGoto_exit ?_ | refine S_yes rfl (by first | with_reducible rfl | decide) ?_ | refine S_no rfl (by first | with_reducible rfl | decide) ?_ | refine S_seq ?_ | refine E_seq ?_ | refine S_block ?_ | refine E_block_normal ?_ | refine S_skip ?_ | refine S_exit ?_ | refine S_ret ?_ | refine E_then_exit ?_ | refine E_then_ret ?_ | refine E_block_ret ?_ | refine E_block_exit ?_ | refine E_block_exit_other rfl ?_)
    refine S_region ?_
    refine R_cons rfl (op_pure (p_move rfl) rfl ?_)
    refine R_cons rfl (op_callV rfl rfl Try.func39 rfl (by kernel_rfl) rfl (Nat.le_refl _) (fun w' hm => root_any _ _ c4 (up L) w' rfl (by omega) hok2.1 hok2.2 (hm.readsSp (b := b4) (sp := s4) hus (by repeat (first | exact List.Mem.head _ | apply List.Mem.tail)))) ?_)
    refine R_cons rfl (op_pure (p_move rfl) rfl ?_)
    refine R_cons rfl (op_callV rfl rfl Try.func39 rfl (by kernel_rfl) rfl (Nat.le_refl _) (fun w' hm => root_any _ _ cap L w' rfl (by omega) hlc hcmx (hm.readsSp (b := b) (sp := sp) hL (by repeat (first | exact List.Mem.head _ | apply List.Mem.tail)))) ?_)
    refine R_cons rfl (op_pure (p_neq_bytesR rfl rfl arr_Sum.1 Try.underlying5 (by kernel_rfl) (by kernel_rfl) hr1 hr2 hne) rfl ?_)
    refine R_nil ?_
    repeat (first | refine S_scope ?_ | refine S_label ?_ | refine E_noGoto_normal ?_ | refine E_noGoto_ret ?_ | refine E_noGoto_exit ?_ | refine S_yes rfl (by first | with_reducible rfl | decide) ?_ | refine S_no rfl (by first | with_reducible rfl | decide) ?_ | refine S_seq ?_ | refine E_seq ?_ | refine S_block ?_ | refine E_block_normal ?_ | refine S_skip ?_ | refine S_exit ?_ | refine S_ret ?_ | refine E_then_exit ?_ | refine E_then_ret ?_ | refine E_block_ret ?_ | refine E_block_exit ?_ | refine E_block_exit_other rfl ?_)
    refine S_region ?_
    refine R_cons rfl (op_pure (p_move rfl) rfl ?_)
    refine R_cons rfl (op_pure (p_assign rfl) rfl ?_)
    refine R_nil ?_
    repeat (first | refine S_scope ?_ | refine S_label ?_ | refine E_noGoto_normal ?_ | refine E_noGoto_ret ?_ | refine E_noGoto_exit ?_ | refine S_yes rfl (by first | with_reducible rfl | decide) ?_ | refine S_no rfl (by first | with_reducible rfl | decide) ?_ | refine S_seq ?_ | refine E_seq ?_ | refine S_block ?_ | refine E_block_normal ?_ | refine S_skip ?_ | refine S_exit ?_ | refine S_ret ?_ | refine E_then_exit ?_ | refine E_then_ret ?_ | refine E_block_ret ?_ | refine E_block_exit ?_ | refine E_block_exit_other rfl ?_)
    exact E_round (s := (L, b, cap, sp)) (up L, b4, c4, s4) ⟨hus, by show 0 < (up L).length; omega, by show (up L).length ≤ 200; omega, by show rootS (up L) = rootS l; rw [hru, hrt], hok.1, hok.2.1, hok.2.2⟩ (by show (up L).length < L.length; omega) (by repeat (first | exact Sub.nil | refine Sub.cons rfl ?_)) (.keep rfl .nil)

theorem own : ownKnob Try.prog.godebug = none := by kernel_rfl
theorem laidOut : laidOutB Try.prog = true := by kernel_rfl
set_option maxRecDepth 100000 in
theorem lifted (os : Os) (started : os.Started) (H : Type) (enc : TypeId × Value → H) :
    ReturnsInHanded {} Try.checked os 12 .any (Rows.leavesPairsSpec.pre6 enc Try.prog Try.f12 Rows.leavesPairsRow.domain false) (Rows.leavesPairsSpec.post enc Try.prog Try.f12 false true false false) := by
  refine returnsInHanded_of_change (C := Try.checked) own started (by kernel_rfl) Try.func12
    (ChangeSpec.witness6 (enc := enc) (C := Try.checked) false ⟨#[], #[.slice none 0 0], []⟩ 8 (by kernel_rfl) (by kernel_rfl) (by kernel_rfl) (by kernel_rfl)) ?_
  intro W base args ds gs before hval0 hW hcnd _
  have hval : ∀ (j : Nat) t v, Try.f12.params[j]? = some t → args[j]? = some v → Value.okWide Try.prog W .any base t v := hval0
  have hW' := hW
  obtain ⟨p, q, hA0, hV, rfl, hfz, hnd⟩ := hW
  have hA : DataW.TrodAll enc Try.prog W 0 (fun _ => true) true Try.f12.params.toList args.toList ds p := hA0
  rw [Try.params12] at hA hval
  obtain ⟨v0, vs0, d0, ds0, p0, q0, hargs, rfl, rfl, h0, r0⟩ := trodAll_cons hA
  obtain ⟨rfl, rfl, rfl⟩ := trodAll_nil r0
  obtain rfl : args = #[v0] := by cases args; simp_all
  obtain ⟨rfl, rfl⟩ := trodVars_none hV
  have k0 := h0
  have lt0 : ∀ x ∈ p0, x.block < W.heap.size := by obtain ⟨m, hm⟩ := k0; exact DataW.trod_lt m _ _ _ hm
  obtain ⟨A0, c0, a0, rfl, rd0, lc0, cm0⟩ := arg_sums Try.underlying51 Try.underlying23 Try.underlying5 (by kernel_rfl) (by kernel_rfl) (hval 0 51 v0 rfl rfl) k0
  clear hA0 hval0
  refine (walk W A0 c0 a0 rd0 lc0 cm0).mono fun e W' ⟨he, bel⟩ => ?_
  subst he
  exact ⟨_, rfl, _, _, _, [], _, [], hW', trodAll_mk1 (shut_bool Try.underlying4 _), (trodAll_cons_mk (Below.trod laidOut (by kernel_rfl) (of_decide_eq_true (by kernel_rfl)) k0 bel lt0) trodAll_mk0), rfl, bel.frame _, fun h => by cases h⟩
/-- The statement. -/
theorem proved : Rows.LeavesPairsSaid :=
  OpenClaim.holds_of_wide 12 Try.f12 rfl rfl rfl rfl rfl rfl rfl ⟨rfl, rfl, rfl, rfl, rfl⟩ rfl rfl rfl rfl rfl (by kernel_rfl) Try.func12 (by kernel_rfl)
    (of_decide_eq_true (by kernel_rfl)) (by unfold Func.isWrapper; first | (rw [if_pos (by decide +kernel)]; kernel_rfl) | (rw [if_neg (by decide +kernel)]; exact ⟨rfl, rfl⟩))
    (fun os started H enc _ => lifted os started H enc)
#print axioms proved
end Go.Proofs.Ythkogneaimjhjaa.leavesPairs
