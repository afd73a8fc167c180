/-
  Proved: behind each part that is written a run has the sum of all so far, whatever becomes of the memory that parts were handed in by; asked for twice it is the same. No condition.
-/
import Derived.Test.YtcjjhiafcefocaaRows
import Derived.Test.YtcjjhiafcefocaaSha5
import Derived.Test.YtcjjhiafcefocaaSha7
import Derived.Test.YtcjjhiafcefocaaTwin
import Derived.Test.YtcjjhiafcefocaaLists1
namespace Go.Proofs.Ytcjjhiafcefocaa.shasRun
open Go.ChangeShapes Go.WideShapes Go.ChangeAt Go.Sha
open Go.RowKit Go.K
attribute [local irreducible] Exit.then Exit.inBlock bodyPost Code.wp QL Sx Rx Qx Ex Dx Op1 Pure1 Still1 K.Sub Calm Code.wpIn
attribute [local irreducible] sha Rep Buf.hp Buf.cap Buf.addr bls
set_option linter.unusedVariables false

def upTo (ls : List Sl) (i : Nat) : List UInt8 := (ls.take i).flatMap Sl.xs
theorem upTo_succ (ls : List Sl) (i : Nat) (h : i < ls.length) : upTo ls (i + 1) = upTo ls i ++ ls[i].xs := by
  unfold upTo
  rw [List.take_succ_eq_append_getElem h, List.flatMap_append]
  simp
theorem upTo_le (ls : List Sl) (i : Nat) : (upTo ls i).length ≤ total ls := by
  unfold upTo total
  induction ls generalizing i with
  | nil => simp
  | cons s r ih =>
    cases i with
    | zero => simp
    | succ i => have := ih i; simp at this ⊢; omega
theorem each_le (ls : List Sl) (s : Sl) (h : s ∈ ls) : s.xs.length ≤ total ls := by
  unfold total
  induction ls with
  | nil => cases h
  | cons t r ih =>
    rcases List.mem_cons.1 h with rfl | h
    · simp
    · have := ih h; simp; omega
theorem row_set (l : List UInt8) (sp : List Value) (k : Nat) (x : UInt8) (h : k < l.length) : (bytesV l ++ sp).set k (.int .u8 (x.toNat : Int)) = bytesV (l.set k x) ++ sp := by
  rw [List.set_append_left _ _ (by rw [bytesV_length]; exact h), bytesV_set]

set_option maxHeartbeats 4000000 in
theorem walk (w : World) (A : Option Addr) (c : Nat) (ls : List Sl) (hrd : Reads w A ls.length (ls.map Sl.val)) (hnc : ls.length ≤ c) (hcm : c ≤ maxLen) (hok : ∀ s ∈ ls, s.ok w) :
    Calls Try.prog 6 [.slice A ls.length c].toArray w fun e w' => e = .returned (.bool true) ∧ Below w.heap.size w w' := by
  refine enter Try.func6 rfl Try.ntmps6 (by simp) ?_
  by_cases h50 : 50 < ls.length
  · have h1 : decide ((50 : Int) < (ls.length : Int)) = true := decide_eq_true (by omega)
    repeat (first | refine S_yes rfl rfl ?_ | refine S_no rfl rfl ?_ | refine S_seq ?_ | refine E_seq ?_ | refine S_block ?_ | refine E_block_normal ?_ | refine S_skip ?_ | refine S_exit ?_ | refine S_ret ?_ | refine E_then_exit ?_ | refine E_then_ret ?_ | refine E_block_ret ?_ | refine E_block_exit ?_ | refine E_block_exit_other rfl ?_)
    refine S_region ?_
    refine R_cons rfl (op_pure (p_assign rfl) rfl ?_)
    refine R_nil ?_
    repeat (first | refine S_yes rfl rfl ?_ | refine S_no rfl rfl ?_ | refine S_seq ?_ | refine E_seq ?_ | refine S_block ?_ | refine E_block_normal ?_ | refine S_skip ?_ | refine S_exit ?_ | refine S_ret ?_ | refine E_then_exit ?_ | refine E_then_ret ?_ | refine E_block_ret ?_ | refine E_block_exit ?_ | refine E_block_exit_other rfl ?_)
    refine S_region ?_
    refine R_cons rfl (op_pure (p_move rfl) rfl ?_)
    refine R_cons rfl (op_pure (p_len rfl slc_u8ss) rfl ?_)
    refine R_cons rfl (op_pure (p_bin rfl rfl (b_gtr (by first | assumption | exact decide_eq_true (by omega) | exact decide_eq_false (by omega) | rfl))) rfl ?_)
    refine R_cons rfl (op_pure (p_move rfl) rfl ?_)
    first | refine R_pass rfl rfl rfl rfl ?_ | refine R_pass_undef rfl rfl rfl ?_ | refine R_guard rfl rfl rfl (op_pure (p_move rfl) rfl ?_)
    first | refine R_pass rfl rfl rfl rfl ?_ | refine R_pass_undef rfl rfl rfl ?_ | refine R_guard rfl rfl rfl (op_callV rfl rfl Try.func21 rfl (by kernel_rfl) rfl (Nat.le_refl _) (fun w' hm => bls_any A c ls w' (hrd.base hm) (fun s hs => Sl.ok_base (hok s hs) hm) (by omega)) ?_)
    first | refine R_pass rfl rfl rfl rfl ?_ | refine R_pass_undef rfl rfl rfl ?_ | refine R_guard rfl rfl rfl (op_pure (p_bin rfl rfl (b_gtr (by first | assumption | exact decide_eq_true (by omega) | exact decide_eq_false (by omega) | rfl))) rfl ?_)
    refine R_cons rfl (op_pure (by first | exact p_pick_yes rfl rfl | exact p_pick_no rfl rfl | exact p_pick rfl rfl rfl) rfl ?_)
    refine R_nil ?_
    repeat (first | refine S_yes rfl rfl ?_ | refine S_no rfl rfl ?_ | refine S_seq ?_ | refine E_seq ?_ | refine S_block ?_ | refine E_block_normal ?_ | refine S_skip ?_ | refine S_exit ?_ | refine S_ret ?_ | refine E_then_exit ?_ | refine E_then_ret ?_ | refine E_block_ret ?_ | refine E_block_exit ?_ | refine E_block_exit_other rfl ?_)
    refine S_region ?_
    refine R_cons rfl (op_pure (p_assign rfl) rfl ?_)
    refine R_nil ?_
    repeat (first | refine S_yes rfl rfl ?_ | refine S_no rfl rfl ?_ | refine S_seq ?_ | refine E_seq ?_ | refine S_block ?_ | refine E_block_normal ?_ | refine S_skip ?_ | refine S_exit ?_ | refine S_ret ?_ | refine E_then_exit ?_ | refine E_then_ret ?_ | refine E_block_ret ?_ | refine E_block_exit ?_ | refine E_block_exit_other rfl ?_)
    exact E_ret1 rfl rfl fun w' hm => ⟨rfl, hm.below⟩
  have h1 : decide ((50 : Int) < (ls.length : Int)) = false := decide_eq_false (by omega)
  by_cases h15 : 15000 < bls ls.length ls
  · have h2 : decide ((15000 : Int) < (bls ls.length ls : Int)) = true := decide_eq_true (by omega)
    repeat (first | refine S_yes rfl rfl ?_ | refine S_no rfl rfl ?_ | refine S_seq ?_ | refine E_seq ?_ | refine S_block ?_ | refine E_block_normal ?_ | refine S_skip ?_ | refine S_exit ?_ | refine S_ret ?_ | refine E_then_exit ?_ | refine E_then_ret ?_ | refine E_block_ret ?_ | refine E_block_exit ?_ | refine E_block_exit_other rfl ?_)
    refine S_region ?_
    refine R_cons rfl (op_pure (p_assign rfl) rfl ?_)
    refine R_nil ?_
    repeat (first | refine S_yes rfl rfl ?_ | refine S_no rfl rfl ?_ | refine S_seq ?_ | refine E_seq ?_ | refine S_block ?_ | refine E_block_normal ?_ | refine S_skip ?_ | refine S_exit ?_ | refine S_ret ?_ | refine E_then_exit ?_ | refine E_then_ret ?_ | refine E_block_ret ?_ | refine E_block_exit ?_ | refine E_block_exit_other rfl ?_)
    refine S_region ?_
    refine R_cons rfl (op_pure (p_move rfl) rfl ?_)
    refine R_cons rfl (op_pure (p_len rfl slc_u8ss) rfl ?_)
    refine R_cons rfl (op_pure (p_bin rfl rfl (b_gtr (by first | assumption | exact decide_eq_true (by omega) | exact decide_eq_false (by omega) | rfl))) rfl ?_)
    refine R_cons rfl (op_pure (p_move rfl) rfl ?_)
    first | refine R_pass rfl rfl rfl rfl ?_ | refine R_pass_undef rfl rfl rfl ?_ | refine R_guard rfl rfl rfl (op_pure (p_move rfl) rfl ?_)
    first | refine R_pass rfl rfl rfl rfl ?_ | refine R_pass_undef rfl rfl rfl ?_ | refine R_guard rfl rfl rfl (op_callV rfl rfl Try.func21 rfl (by kernel_rfl) rfl (Nat.le_refl _) (fun w' hm => bls_any A c ls w' (hrd.base hm) (fun s hs => Sl.ok_base (hok s hs) hm) (by omega)) ?_)
    first | refine R_pass rfl rfl rfl rfl ?_ | refine R_pass_undef rfl rfl rfl ?_ | refine R_guard rfl rfl rfl (op_pure (p_bin rfl rfl (b_gtr (by first | assumption | exact decide_eq_true (by omega) | exact decide_eq_false (by omega) | rfl))) rfl ?_)
    refine R_cons rfl (op_pure (by first | exact p_pick_yes rfl rfl | exact p_pick_no rfl rfl | exact p_pick rfl rfl rfl) rfl ?_)
    refine R_nil ?_
    repeat (first | refine S_yes rfl rfl ?_ | refine S_no rfl rfl ?_ | refine S_seq ?_ | refine E_seq ?_ | refine S_block ?_ | refine E_block_normal ?_ | refine S_skip ?_ | refine S_exit ?_ | refine S_ret ?_ | refine E_then_exit ?_ | refine E_then_ret ?_ | refine E_block_ret ?_ | refine E_block_exit ?_ | refine E_block_exit_other rfl ?_)
    refine S_region ?_
    refine R_cons rfl (op_pure (p_assign rfl) rfl ?_)
    refine R_nil ?_
    repeat (first | refine S_yes rfl rfl ?_ | refine S_no rfl rfl ?_ | refine S_seq ?_ | refine E_seq ?_ | refine S_block ?_ | refine E_block_normal ?_ | refine S_skip ?_ | refine S_exit ?_ | refine S_ret ?_ | refine E_then_exit ?_ | refine E_then_ret ?_ | refine E_block_ret ?_ | refine E_block_exit ?_ | refine E_block_exit_other rfl ?_)
    exact E_ret1 rfl rfl fun w' hm => ⟨rfl, hm.below⟩
  have h2 : decide ((15000 : Int) < (bls ls.length ls : Int)) = false := decide_eq_false (by omega)
  have htot : total ls ≤ 15000 := by have := bls_small ls ls.length (by omega); omega
  repeat (first | refine S_yes rfl rfl ?_ | refine S_no rfl rfl ?_ | refine S_seq ?_ | refine E_seq ?_ | refine S_block ?_ | refine E_block_normal ?_ | refine S_skip ?_ | refine S_exit ?_ | refine S_ret ?_ | refine E_then_exit ?_ | refine E_then_ret ?_ | refine E_block_ret ?_ | refine E_block_exit ?_ | refine E_block_exit_other rfl ?_)
  refine S_region ?_
  refine R_cons rfl (op_pure (p_assign rfl) rfl ?_)
  refine R_nil ?_
  repeat (first | refine S_yes rfl rfl ?_ | refine S_no rfl rfl ?_ | refine S_seq ?_ | refine E_seq ?_ | refine S_block ?_ | refine E_block_normal ?_ | refine S_skip ?_ | refine S_exit ?_ | refine S_ret ?_ | refine E_then_exit ?_ | refine E_then_ret ?_ | refine E_block_ret ?_ | refine E_block_exit ?_ | refine E_block_exit_other rfl ?_)
  refine S_region ?_
  refine R_cons rfl (op_pure (p_move rfl) rfl ?_)
  refine R_cons rfl (op_pure (p_len rfl slc_u8ss) rfl ?_)
  refine R_cons rfl (op_pure (p_bin rfl rfl (b_gtr (by first | assumption | exact decide_eq_true (by omega) | exact decide_eq_false (by omega) | rfl))) rfl ?_)
  refine R_cons rfl (op_pure (p_move rfl) rfl ?_)
  first | refine R_pass rfl rfl rfl rfl ?_ | refine R_pass_undef rfl rfl rfl ?_ | refine R_guard rfl rfl rfl (op_pure (p_move rfl) rfl ?_)
  first | refine R_pass rfl rfl rfl rfl ?_ | refine R_pass_undef rfl rfl rfl ?_ | refine R_guard rfl rfl rfl (op_callV rfl rfl Try.func21 rfl (by kernel_rfl) rfl (Nat.le_refl _) (fun w' hm => bls_any A c ls w' (hrd.base hm) (fun s hs => Sl.ok_base (hok s hs) hm) (by omega)) ?_)
  first | refine R_pass rfl rfl rfl rfl ?_ | refine R_pass_undef rfl rfl rfl ?_ | refine R_guard rfl rfl rfl (op_pure (p_bin rfl rfl (b_gtr (by first | assumption | exact decide_eq_true (by omega) | exact decide_eq_false (by omega) | rfl))) rfl ?_)
  refine R_cons rfl (op_pure (by first | exact p_pick_yes rfl rfl | exact p_pick_no rfl rfl | exact p_pick rfl rfl rfl) rfl ?_)
  refine R_nil ?_
  repeat (first | refine S_yes rfl rfl ?_ | refine S_no rfl rfl ?_ | refine S_seq ?_ | refine E_seq ?_ | refine S_block ?_ | refine E_block_normal ?_ | refine S_skip ?_ | refine S_exit ?_ | refine S_ret ?_ | refine E_then_exit ?_ | refine E_then_ret ?_ | refine E_block_ret ?_ | refine E_block_exit ?_ | refine E_block_exit_other rfl ?_)
  refine S_region ?_
  refine R_cons rfl (op_call (vs := []) (first := []) (cap := []) rfl rfl Try.func22 rfl (by kernel_rfl) rfl fun w1 hm => (new_any w1).mono ?_)
  rintro e w2 ⟨g, cs0, rfl, hr0, hg, hgo, hbel⟩
  refine ⟨_, _, rfl, hm.call1 (Nat.le_refl _) hbel hg hgo, ?_⟩
  refine R_cons rfl (op_pure (p_assign rfl) rfl ?_)
  refine R_nil ?_
  repeat (first | refine S_yes rfl rfl ?_ | refine S_no rfl rfl ?_ | refine S_seq ?_ | refine E_seq ?_ | refine S_block ?_ | refine E_block_normal ?_ | refine S_skip ?_ | refine S_exit ?_ | refine S_ret ?_ | refine E_then_exit ?_ | refine E_then_ret ?_ | refine E_block_ret ?_ | refine E_block_exit ?_ | refine E_block_exit_other rfl ?_)
  refine S_region ?_
  refine R_cons rfl (op_pure (p_move rfl) rfl ?_)
  refine R_cons rfl (op_callV rfl rfl Try.func20 rfl (by kernel_rfl) rfl (Nat.le_refl _) (fun w' hm => sum_any g [] cs0 hr0 (by simp) w' (hm.own (g, _) (by repeat (first | exact List.Mem.head _ | apply List.Mem.tail))).2) ?_)
  refine R_cons rfl (op_callV rfl rfl Try.func13 rfl (by kernel_rfl) rfl (Nat.le_refl _) (fun w' hm => refOf_any none 0 0 [] w' rfl (Reads.nil _) (by omega)) ?_)
  refine R_cons rfl (op_pure (by exact p_neq_bytesR rfl rfl arr_Sum.1 Try.underlying5 (by kernel_rfl) (by kernel_rfl) (by first | assumption | exact Sha.sha_length _ | rfl) (by first | assumption | exact Sha.sha_length _ | rfl) (by first | assumption | exact not_self | rfl)) rfl ?_)
  refine R_nil ?_
  repeat (first | refine S_yes rfl rfl ?_ | refine S_no rfl rfl ?_ | refine S_seq ?_ | refine E_seq ?_ | refine S_block ?_ | refine E_block_normal ?_ | refine S_skip ?_ | refine S_exit ?_ | refine S_ret ?_ | refine E_then_exit ?_ | refine E_then_ret ?_ | refine E_block_ret ?_ | refine E_block_exit ?_ | refine E_block_exit_other rfl ?_)
  refine S_region ?_
  refine R_cons rfl (op_pure (p_assign rfl) rfl ?_)
  refine R_nil ?_
  repeat (first | refine S_yes rfl rfl ?_ | refine S_no rfl rfl ?_ | refine S_seq ?_ | refine E_seq ?_ | refine S_block ?_ | refine E_block_normal ?_ | refine S_skip ?_ | refine S_exit ?_ | refine S_ret ?_ | refine E_then_exit ?_ | refine E_then_ret ?_ | refine E_block_ret ?_ | refine E_block_exit ?_ | refine E_block_exit_other rfl ?_)
  refine S_region ?_
  refine R_cons rfl (op_pure (p_assign rfl) rfl ?_)
  refine R_nil ?_
  repeat (first | refine S_yes rfl rfl ?_ | refine S_no rfl rfl ?_ | refine S_seq ?_ | refine E_seq ?_ | refine S_block ?_ | refine E_block_normal ?_ | refine S_skip ?_ | refine S_exit ?_ | refine S_ret ?_ | refine E_then_exit ?_ | refine E_then_ret ?_ | refine E_block_ret ?_ | refine E_block_exit ?_ | refine E_block_exit_other rfl ?_)
  refine S_loop (σ := Nat × List Value × Buf) (fun s => [(5, .int .i64 (s.1 : Int)), (4, s.2.2.val (upTo ls s.1)), (3, .pointer (some ⟨g, 0, none⟩)), (0, .slice A ls.length c)])
    (fun s => (g, .cells s.2.1.toArray 42 (0, 0)) :: s.2.2.hp 5 (upTo ls s.1)) (fun s => s.1 ≤ ls.length ∧ Rep (upTo ls s.1) s.2.1 ∧ s.2.2.ok (upTo ls s.1)) (fun s => ls.length - s.1) (0, cs0, none) ⟨Nat.zero_le _, hr0, rfl⟩
    (by unfold Buf.val Buf.addr Buf.cap; repeat (first | exact Sub.nil | refine Sub.cons rfl ?_)) (by unfold Buf.hp; exact Fewer.refl _) ?_
  rintro ⟨i, cs, u⟩ ⟨hi, hrep, hoku⟩
  dsimp only at hi hrep hoku ⊢
  have hul := upTo_le ls i
  repeat (first | refine S_yes rfl rfl ?_ | refine S_no rfl rfl ?_ | refine S_seq ?_ | refine E_seq ?_ | refine S_block ?_ | refine E_block_normal ?_ | refine S_skip ?_ | refine S_exit ?_ | refine S_ret ?_ | refine E_then_exit ?_ | refine E_then_ret ?_ | refine E_block_ret ?_ | refine E_block_exit ?_ | refine E_block_exit_other rfl ?_)
  refine S_region ?_
  refine R_cons rfl (op_pure (p_move rfl) rfl ?_)
  refine R_cons rfl (op_pure (p_move rfl) rfl ?_)
  refine R_cons rfl (op_pure (p_len rfl slc_u8ss) rfl ?_)
  refine R_cons rfl (op_pure (p_bin rfl rfl (b_lss (by first | assumption | exact decide_eq_true (by omega) | exact decide_eq_false (by omega) | rfl))) rfl ?_)
  refine R_nil ?_
  repeat (first | refine S_yes rfl rfl ?_ | refine S_no rfl rfl ?_ | refine S_seq ?_ | refine E_seq ?_ | refine S_block ?_ | refine E_block_normal ?_ | refine S_skip ?_ | refine S_exit ?_ | refine S_ret ?_ | refine E_then_exit ?_ | refine E_then_ret ?_ | refine E_block_ret ?_ | refine E_block_exit ?_ | refine E_block_exit_other rfl ?_)
  refine S_cond rfl (fun hlt => ?_) (fun hge => ?_)
  · have hin : i < ls.length := by have := of_decide_eq_true hlt; omega
    obtain ⟨b, off, rfl, hbl, hcell⟩ := hrd.2 (by omega)
    have hc : w.cell? ⟨b, off + i, none⟩ = some (.slice ls[i].A ls[i].xs.length ls[i].c) := hcell i _ (Sl.get hin)
    have hsok := hok _ (List.getElem_mem hin)
    have hsl := each_le ls _ (List.getElem_mem hin)
    have hus := upTo_succ ls i hin
    have hul2 := upTo_le ls (i + 1)
    rw [hus, List.length_append] at hul2
    generalize ls[i] = s at hc hsok hsl hus hul2
    obtain ⟨hsr, hsc, hsm, _⟩ := hsok
    repeat (first | refine S_yes rfl rfl ?_ | refine S_no rfl rfl ?_ | refine S_seq ?_ | refine E_seq ?_ | refine S_block ?_ | refine E_block_normal ?_ | refine S_skip ?_ | refine S_exit ?_ | refine S_ret ?_ | refine E_then_exit ?_ | refine E_then_ret ?_ | refine E_block_ret ?_ | refine E_block_exit ?_ | refine E_block_exit_other rfl ?_)
    refine S_region ?_
    refine R_cons rfl (op_pure (p_move rfl) rfl ?_)
    refine R_cons rfl (op_pure (p_move rfl) rfl ?_)
    refine R_cons rfl (op_pure (by exact p_indexSl rfl rfl (by repeat (first | assumption | exact lit0 | exact lit1 | apply IntWalk.up_add | apply IntWalk.up_div | apply IntWalk.up_mod | apply IntWalk.up_mul | rfl)) slc_u8ss (by omega)) rfl ?_)
    refine R_cons rfl (op_pure (by first | exact p_load rfl sc_u8s (by repeat (first | exact List.Mem.head _ | apply List.Mem.tail)) (by first | assumption | exact bytesV_get (by omega) | exact wordsV_get (by omega) | rfl) | exact p_load_base rfl sc_u8s (by assumption) (by simp) (by assumption)) rfl ?_)
    refine R_cons rfl (op_call rfl rfl Try.func11 rfl (by kernel_rfl) rfl fun w1 hm => (twin_any s.A s.xs.length s.c s.xs w1 rfl (hsr.base hm) (by omega)).mono ?_)
    rintro e w3 ⟨g2, cap, sp, rfl, hg2, hgo2, hlen2, hcapm2, hbel2⟩
    refine ⟨_, _, rfl, hm.call1 (Nat.le_refl _) hbel2 hg2 hgo2, ?_⟩
    have hxl := bytesV_length s.xs
    have hxl2 := bytesV_length (s.xs ++ [77])
    simp only [List.length_append, List.length_cons, List.length_nil] at hxl2 hlen2
    have hpre : ((bytesV (s.xs ++ [77]) ++ sp).drop 0).take s.xs.length = bytesV s.xs := by rw [List.drop_zero, bytesV_append, List.append_assoc, ← hxl, List.take_left]
    have hpre2 : ((bytesV (s.xs ++ [77]) ++ sp).drop 0).take (s.xs.length + 1) = bytesV (s.xs ++ [77]) := by rw [List.drop_zero, show s.xs.length + 1 = (bytesV (s.xs ++ [77])).length by omega, List.take_left]
    refine R_cons rfl (op_pure (p_assign rfl) rfl ?_)
    refine R_nil ?_
    repeat (first | refine S_yes rfl rfl ?_ | refine S_no rfl rfl ?_ | refine S_seq ?_ | refine E_seq ?_ | refine S_block ?_ | refine E_block_normal ?_ | refine S_skip ?_ | refine S_exit ?_ | refine S_ret ?_ | refine E_then_exit ?_ | refine E_then_ret ?_ | refine E_block_ret ?_ | refine E_block_exit ?_ | refine E_block_exit_other rfl ?_)
    refine S_region ?_
    refine R_cons rfl (op_pure (p_move rfl) rfl ?_)
    refine R_cons rfl (op_pure (p_move rfl) rfl ?_)
    refine R_cons rfl (op_write (xs := s.xs) (fun o' => (g2, _) :: (g, o') :: u.hp 5 (upTo ls i)) hrep (fun o' => .there .here) rfl rfl (fun w hm => hm.reads (b := g2) (by repeat (first | exact List.Mem.head _ | apply List.Mem.tail)) hpre (by simp only [List.length_append]; omega))
      (fun w hm _ a ha => by cases ha; exact (List.pairwise_cons.1 hm.apart).1 (g, _) (by repeat (first | exact List.Mem.head _ | apply List.Mem.tail))) (by omega) hcapm2 (by omega) rfl (fun cs1 hr1 => ?_))
    refine R_cons rfl (op_pure (p_assign rfl) rfl ?_)
    refine R_nil ?_
    repeat (first | refine S_yes rfl rfl ?_ | refine S_no rfl rfl ?_ | refine S_seq ?_ | refine E_seq ?_ | refine S_block ?_ | refine E_block_normal ?_ | refine S_skip ?_ | refine S_exit ?_ | refine S_ret ?_ | refine E_then_exit ?_ | refine E_then_ret ?_ | refine E_block_ret ?_ | refine E_block_exit ?_ | refine E_block_exit_other rfl ?_)
    refine S_region ?_
    refine R_cons rfl (op_pure (p_move rfl) rfl ?_)
    refine R_cons rfl (op_pure (p_bin rfl rfl (b_neq (by first | assumption | exact bne_iff_ne.2 (by omega) | exact bne_eq_false_iff_eq.2 (by omega) | rfl))) rfl ?_)
    refine R_cons rfl (op_pure (p_move rfl) rfl ?_)
    first | refine R_pass rfl rfl rfl rfl ?_ | refine R_pass_undef rfl rfl rfl ?_ | refine R_guard rfl rfl rfl (op_pure (p_move rfl) rfl ?_)
    first | refine R_pass rfl rfl rfl rfl ?_ | refine R_pass_undef rfl rfl rfl ?_ | refine R_guard rfl rfl rfl (op_pure (p_move rfl) rfl ?_)
    first | refine R_pass rfl rfl rfl rfl ?_ | refine R_pass_undef rfl rfl rfl ?_ | refine R_guard rfl rfl rfl (op_pure (p_move rfl) rfl ?_)
    first | refine R_pass rfl rfl rfl rfl ?_ | refine R_pass_undef rfl rfl rfl ?_ | refine R_guard rfl rfl rfl (op_pure (by exact p_indexSl rfl rfl (by repeat (first | assumption | exact lit0 | exact lit1 | apply IntWalk.up_add | apply IntWalk.up_div | apply IntWalk.up_mod | apply IntWalk.up_mul | rfl)) slc_u8ss (by omega)) rfl ?_)
    first | refine R_pass rfl rfl rfl rfl ?_ | refine R_pass_undef rfl rfl rfl ?_ | refine R_guard rfl rfl rfl (op_pure (by first | exact p_load rfl sc_u8s (by repeat (first | exact List.Mem.head _ | apply List.Mem.tail)) (by first | assumption | exact bytesV_get (by omega) | exact wordsV_get (by omega) | rfl) | exact p_load_base rfl sc_u8s (by assumption) (by simp) (by assumption)) rfl ?_)
    first | refine R_pass rfl rfl rfl rfl ?_ | refine R_pass_undef rfl rfl rfl ?_ | refine R_guard rfl rfl rfl (op_callV rfl rfl Try.func14 rfl (by kernel_rfl) rfl (Nat.le_refl _) (fun w' hm => left_bytes _ s.A s.xs.length cap s.c s.xs w' rfl (hm.reads (b := g2) (by repeat (first | exact List.Mem.head _ | apply List.Mem.tail)) hpre2 (by simp only [List.length_append]; omega)) (by omega) hcapm2 (hsr.base hm)) ?_)
    first | refine R_pass rfl rfl rfl rfl ?_ | refine R_pass_undef rfl rfl rfl ?_ | refine R_guard rfl rfl rfl (op_pure (p_not rfl) rfl ?_)
    refine R_cons rfl (op_pure (by first | exact p_pick_yes rfl rfl | exact p_pick_no rfl rfl | exact p_pick rfl rfl rfl) rfl ?_)
    refine R_nil ?_
    repeat (first | refine S_yes rfl rfl ?_ | refine S_no rfl rfl ?_ | refine S_seq ?_ | refine E_seq ?_ | refine S_block ?_ | refine E_block_normal ?_ | refine S_skip ?_ | refine S_exit ?_ | refine S_ret ?_ | refine E_then_exit ?_ | refine E_then_ret ?_ | refine E_block_ret ?_ | refine E_block_exit ?_ | refine E_block_exit_other rfl ?_)
    refine S_region ?_
    refine R_cons rfl (op_pure (p_assign rfl) rfl ?_)
    refine R_nil ?_
    repeat (first | refine S_yes rfl rfl ?_ | refine S_no rfl rfl ?_ | refine S_seq ?_ | refine E_seq ?_ | refine S_block ?_ | refine E_block_normal ?_ | refine S_skip ?_ | refine S_exit ?_ | refine S_ret ?_ | refine E_then_exit ?_ | refine E_then_ret ?_ | refine E_block_ret ?_ | refine E_block_exit ?_ | refine E_block_exit_other rfl ?_)
    refine S_loop (σ := Nat × List UInt8) (fun t => [(8, .int .i64 (t.1 : Int)), (6, .slice (some ⟨g2, 0, none⟩) s.xs.length cap), (5, .int .i64 (i : Int)), (4, u.val (upTo ls i)), (3, .pointer (some ⟨g, 0, none⟩)), (0, .slice (some ⟨b, off, none⟩) ls.length c)])
      (fun t => (g2, .cells (bytesV t.2 ++ sp).toArray 5 (0, 0)) :: (g, .cells cs1.toArray 42 (0, 0)) :: u.hp 5 (upTo ls i)) (fun t => t.1 ≤ s.xs.length ∧ t.2.length = s.xs.length + 1) (fun t => s.xs.length - t.1) (0, s.xs ++ [77]) ⟨Nat.zero_le _, by simp⟩ (by repeat (first | exact Sub.nil | refine Sub.cons rfl ?_)) (Fewer.refl _) ?_
    rintro ⟨k, l⟩ ⟨hk, hll⟩
    dsimp only at hk hll ⊢
    repeat (first | refine S_yes rfl rfl ?_ | refine S_no rfl rfl ?_ | refine S_seq ?_ | refine E_seq ?_ | refine S_block ?_ | refine E_block_normal ?_ | refine S_skip ?_ | refine S_exit ?_ | refine S_ret ?_ | refine E_then_exit ?_ | refine E_then_ret ?_ | refine E_block_ret ?_ | refine E_block_exit ?_ | refine E_block_exit_other rfl ?_)
    refine S_region ?_
    refine R_cons rfl (op_pure (p_move rfl) rfl ?_)
    refine R_cons rfl (op_pure (p_move rfl) rfl ?_)
    refine R_cons rfl (op_pure (p_len rfl slc_u8s) rfl ?_)
    refine R_cons rfl (op_pure (p_bin rfl rfl (b_lss (by first | assumption | exact decide_eq_true (by omega) | exact decide_eq_false (by omega) | rfl))) rfl ?_)
    refine R_nil ?_
    repeat (first | refine S_yes rfl rfl ?_ | refine S_no rfl rfl ?_ | refine S_seq ?_ | refine E_seq ?_ | refine S_block ?_ | refine E_block_normal ?_ | refine S_skip ?_ | refine S_exit ?_ | refine S_ret ?_ | refine E_then_exit ?_ | refine E_then_ret ?_ | refine E_block_ret ?_ | refine E_block_exit ?_ | refine E_block_exit_other rfl ?_)
    refine S_cond rfl (fun hlt2 => ?_) (fun hge2 => ?_)
    · have hk' : k < s.xs.length := by have := of_decide_eq_true hlt2; omega
      have hcl : (bytesV l ++ sp)[0 + k]? = some (.int .u8 ((l.getD k 0).toNat : Int)) := by rw [Nat.zero_add, List.getElem?_append_left (by rw [bytesV_length]; omega)]; exact bytesV_get (by omega)
      have hfl : 0 + k < (bytesV l ++ sp).length := by rw [List.length_append, bytesV_length]; omega
      repeat (first | refine S_yes rfl rfl ?_ | refine S_no rfl rfl ?_ | refine S_seq ?_ | refine E_seq ?_ | refine S_block ?_ | refine E_block_normal ?_ | refine S_skip ?_ | refine S_exit ?_ | refine S_ret ?_ | refine E_then_exit ?_ | refine E_then_ret ?_ | refine E_block_ret ?_ | refine E_block_exit ?_ | refine E_block_exit_other rfl ?_)
      refine S_region ?_
      refine R_cons rfl (op_pure (p_move rfl) rfl ?_)
      refine R_cons rfl (op_pure (p_move rfl) rfl ?_)
      refine R_cons rfl (op_pure (p_move rfl) rfl ?_)
      refine R_cons rfl (op_pure (p_move rfl) rfl ?_)
      refine R_cons rfl (op_pure (by exact p_indexSl rfl rfl (by repeat (first | assumption | exact lit0 | exact lit1 | apply IntWalk.up_add | apply IntWalk.up_div | apply IntWalk.up_mod | apply IntWalk.up_mul | rfl)) slc_u8s (by omega)) rfl ?_)
      refine R_cons rfl (op_pure (by first | exact p_load rfl sc_u8 (by repeat (first | exact List.Mem.head _ | apply List.Mem.tail)) (by first | assumption | exact bytesV_get (by omega) | exact wordsV_get (by omega) | rfl) | exact p_load_base rfl sc_u8 (by assumption) (by simp) (by assumption)) rfl ?_)
      refine R_cons rfl (op_pure (by exact p_compl rfl (k8_not _)) rfl ?_)
      refine R_cons rfl (op_pure (by exact p_indexSl rfl rfl (by repeat (first | assumption | exact lit0 | exact lit1 | apply IntWalk.up_add | apply IntWalk.up_div | apply IntWalk.up_mod | apply IntWalk.up_mul | rfl)) slc_u8s (by omega)) rfl ?_)
      refine R_cons rfl (op_store rfl rfl rfl sc_u8 (by repeat (first | exact At.here | apply At.there)) (by first | exact Nat.le_of_ble_eq_true rfl | omega | (simp only [bytesV_length, wordsV_length]; omega) | (simp only [bytesV_length, wordsV_length, List.length_cons, List.length_nil, List.length_set, List.length_append]; omega) | decide) ?_)
      refine R_nil ?_
      repeat (first | refine S_yes rfl rfl ?_ | refine S_no rfl rfl ?_ | refine S_seq ?_ | refine E_seq ?_ | refine S_block ?_ | refine E_block_normal ?_ | refine S_skip ?_ | refine S_exit ?_ | refine S_ret ?_ | refine E_then_exit ?_ | refine E_then_ret ?_ | refine E_block_ret ?_ | refine E_block_exit ?_ | refine E_block_exit_other rfl ?_)
      refine S_region ?_
      refine R_cons rfl (op_pure (p_move rfl) rfl ?_)
      refine R_cons rfl (op_pure (by exact p_bin rfl rfl (b_add (w_in_i64 (by omega)))) rfl ?_)
      refine R_cons rfl (op_pure (p_assign rfl) rfl ?_)
      refine R_nil ?_
      repeat (first | refine S_yes rfl rfl ?_ | refine S_no rfl rfl ?_ | refine S_seq ?_ | refine E_seq ?_ | refine S_block ?_ | refine E_block_normal ?_ | refine S_skip ?_ | refine S_exit ?_ | refine S_ret ?_ | refine E_then_exit ?_ | refine E_then_ret ?_ | refine E_block_ret ?_ | refine E_block_exit ?_ | refine E_block_exit_other rfl ?_)
      exact E_round (s := (k, l)) (k + 1, l.set k (~~~(l.getD k 0))) ⟨by show k + 1 ≤ _; omega, by show (l.set k _).length = _; rw [List.length_set]; exact hll⟩ (by show _ - (k + 1) < _ - k; omega) (by repeat (first | exact Sub.nil | refine Sub.cons rfl ?_)) (.keep (by rw [Nat.zero_add, row_set l sp k _ (by omega)]) (Fewer.refl _))
    refine S_fewer (env' := [(5, .int .i64 (i : Int)), (4, u.val (upTo ls i)), (3, .pointer (some ⟨g, 0, none⟩)), (0, .slice (some ⟨b, off, none⟩) ls.length c)]) (H' := (g, .cells cs1.toArray 42 (0, 0)) :: u.hp 5 (upTo ls i)) (by repeat (first | exact Sub.nil | refine Sub.cons rfl ?_)) (.drop (Fewer.refl _)) ?_
    have hrd3 := hrd
    repeat (first | refine S_yes rfl rfl ?_ | refine S_no rfl rfl ?_ | refine S_seq ?_ | refine E_seq ?_ | refine S_block ?_ | refine E_block_normal ?_ | refine S_skip ?_ | refine S_exit ?_ | refine S_ret ?_ | refine E_then_exit ?_ | refine E_then_ret ?_ | refine E_block_ret ?_ | refine E_block_exit ?_ | refine E_block_exit_other rfl ?_)
    refine S_region ?_
    refine R_cons rfl (op_pure (p_move rfl) rfl ?_)
    refine R_cons rfl (op_pure (p_move rfl) rfl ?_)
    refine R_cons rfl (op_pure (p_move rfl) rfl ?_)
    refine R_cons rfl (op_pure (by exact p_indexSl rfl rfl (by repeat (first | assumption | exact lit0 | exact lit1 | apply IntWalk.up_add | apply IntWalk.up_div | apply IntWalk.up_mod | apply IntWalk.up_mul | rfl)) slc_u8ss (by omega)) rfl ?_)
    refine R_cons rfl (op_pure (by first | exact p_load rfl sc_u8s (by repeat (first | exact List.Mem.head _ | apply List.Mem.tail)) (by first | assumption | exact bytesV_get (by omega) | exact wordsV_get (by omega) | rfl) | exact p_load_base rfl sc_u8s (by assumption) (by simp) (by assumption)) rfl ?_)
    refine R_cons rfl (op_appendBuf (u := u) (xs := upTo ls i) (ys := s.xs) rfl rfl slc_u8s.1 el_u8 (by exact .there .tail) hoku (fun w hm => hsr.base hm) (by omega) rfl (Nat.le_refl _) (fun v hokv hnev => ?_))
    rw [← hus] at hr1 hokv ⊢
    refine R_cons rfl (op_pure (p_assign rfl) rfl ?_)
    refine R_nil ?_
    repeat (first | refine S_yes rfl rfl ?_ | refine S_no rfl rfl ?_ | refine S_seq ?_ | refine E_seq ?_ | refine S_block ?_ | refine E_block_normal ?_ | refine S_skip ?_ | refine S_exit ?_ | refine S_ret ?_ | refine E_then_exit ?_ | refine E_then_ret ?_ | refine E_block_ret ?_ | refine E_block_exit ?_ | refine E_block_exit_other rfl ?_)
    have hlu : (upTo ls (i + 1)).length ≤ 15000 := by rw [hus, List.length_append]; omega
    have hsl9 := sha_length (upTo ls (i + 1))
    refine S_region ?_
    refine R_cons rfl (op_pure (p_move rfl) rfl ?_)
    refine R_cons rfl (op_callV rfl rfl Try.func13 rfl (by kernel_rfl) rfl (Nat.le_refl _) (fun w' hm => refOf_any v.addr _ (v.cap _) (upTo ls (i + 1)) w' rfl (hm.readsBuf (e := 5) (.there .tail) hokv) (by omega)) ?_)
    refine R_cons rfl (op_allocRow zero_Sum rfl (Nat.le_refl _) (fun b9 => ?_))
    refine R_cons rfl (op_storeRow rfl rfl (by first | exact bytesV_one _ | exact wordsV_one _ | (repeat (first | exact ones_nil | refine ones_cons rfl ?_))) row_Sum (by first | rfl | (simp only [bytesV_length, wordsV_length]; omega)) (by repeat (first | exact At.here | apply At.there)) (by first | exact Nat.le_of_ble_eq_true rfl | omega | (simp only [bytesV_length, wordsV_length, List.length_cons, List.length_nil, List.length_replicate]; omega)) ?_)
    refine R_nil ?_
    repeat (first | refine S_yes rfl rfl ?_ | refine S_no rfl rfl ?_ | refine S_seq ?_ | refine E_seq ?_ | refine S_block ?_ | refine E_block_normal ?_ | refine S_skip ?_ | refine S_exit ?_ | refine S_ret ?_ | refine E_then_exit ?_ | refine E_then_ret ?_ | refine E_block_ret ?_ | refine E_block_exit ?_ | refine E_block_exit_other rfl ?_)
    rw [lay_whole (by rw [bytesV_length, bytesV_length, hsl9]; rfl)]
    refine S_quiet (by kernel_rfl) (by kernel_rfl) ?_
    refine Q_cons (Still1.of_pure (p_move rfl)) rfl ?_
    refine Q_cons (still_call rfl rfl Try.func20 rfl (by kernel_rfl) (Nat.le_refl _) (fun w' hm => sum_any g _ cs1 hr1 (by omega) w' (hm.own (g, _) (by repeat (first | exact List.Mem.head _ | apply List.Mem.tail))).2)) rfl ?_
    refine Q_cons (Still1.of_pure (by first | exact p_loadRow rfl row_Sum (by repeat (first | exact List.Mem.head _ | apply List.Mem.tail)) (by first | assumption | rfl | (simp only [bytesV_length, wordsV_length]; omega)) | exact p_loadPart rfl row_Sum (by repeat (first | exact List.Mem.head _ | apply List.Mem.tail)) (by first | exact Nat.le_of_ble_eq_true rfl | omega | (simp only [bytesV_length, wordsV_length, List.length_cons, List.length_nil, List.length_replicate]; omega)) (by first | assumption | rfl))) rfl ?_
    refine Q_cons (Still1.of_pure (by exact p_neq_bytesR rfl rfl arr_Sum.1 Try.underlying5 (by kernel_rfl) (by kernel_rfl) (by first | assumption | exact Sha.sha_length _ | rfl) (by first | assumption | exact Sha.sha_length _ | rfl) (by first | assumption | exact not_self | rfl))) rfl ?_
    refine Q_cons (Still1.of_pure (p_move rfl)) rfl ?_
    first | refine Q_pass rfl rfl rfl rfl ?_ | refine Q_pass_undef rfl rfl rfl ?_ | refine Q_guard rfl rfl (Still1.of_pure (p_move rfl)) rfl ?_
    first | refine Q_pass rfl rfl rfl rfl ?_ | refine Q_pass_undef rfl rfl rfl ?_ | refine Q_guard rfl rfl (still_call rfl rfl Try.func20 rfl (by kernel_rfl) (Nat.le_refl _) (fun w' hm => sum_any g _ cs1 hr1 (by omega) w' (hm.own (g, _) (by repeat (first | exact List.Mem.head _ | apply List.Mem.tail))).2)) rfl ?_
    first | refine Q_pass rfl rfl rfl rfl ?_ | refine Q_pass_undef rfl rfl rfl ?_ | refine Q_guard rfl rfl (Still1.of_pure (by first | exact p_loadRow rfl row_Sum (by repeat (first | exact List.Mem.head _ | apply List.Mem.tail)) (by first | assumption | rfl | (simp only [bytesV_length, wordsV_length]; omega)) | exact p_loadPart rfl row_Sum (by repeat (first | exact List.Mem.head _ | apply List.Mem.tail)) (by first | exact Nat.le_of_ble_eq_true rfl | omega | (simp only [bytesV_length, wordsV_length, List.length_cons, List.length_nil, List.length_replicate]; omega)) (by first | assumption | rfl))) rfl ?_
    first | refine Q_pass rfl rfl rfl rfl ?_ | refine Q_pass_undef rfl rfl rfl ?_ | refine Q_guard rfl rfl (Still1.of_pure (by exact p_neq_bytesR rfl rfl arr_Sum.1 Try.underlying5 (by kernel_rfl) (by kernel_rfl) (by first | assumption | exact Sha.sha_length _ | rfl) (by first | assumption | exact Sha.sha_length _ | rfl) (by first | assumption | exact not_self | rfl))) rfl ?_
    refine Q_cons (Still1.of_pure (by first | exact p_pick_yes rfl rfl | exact p_pick_no rfl rfl | exact p_pick rfl rfl rfl)) rfl ?_
    refine Q_nil ?_
    repeat (first | refine S_yes rfl rfl ?_ | refine S_no rfl rfl ?_ | refine S_seq ?_ | refine E_seq ?_ | refine S_block ?_ | refine E_block_normal ?_ | refine S_skip ?_ | refine S_exit ?_ | refine S_ret ?_ | refine E_then_exit ?_ | refine E_then_ret ?_ | refine E_block_ret ?_ | refine E_block_exit ?_ | refine E_block_exit_other rfl ?_)
    refine S_region ?_
    refine R_cons rfl (op_pure (p_move rfl) rfl ?_)
    refine R_cons rfl (op_pure (by exact p_bin rfl rfl (b_add (w_in_i64 (by omega)))) rfl ?_)
    refine R_cons rfl (op_pure (p_assign rfl) rfl ?_)
    refine R_nil ?_
    repeat (first | refine S_yes rfl rfl ?_ | refine S_no rfl rfl ?_ | refine S_seq ?_ | refine E_seq ?_ | refine S_block ?_ | refine E_block_normal ?_ | refine S_skip ?_ | refine S_exit ?_ | refine S_ret ?_ | refine E_then_exit ?_ | refine E_then_ret ?_ | refine E_block_ret ?_ | refine E_block_exit ?_ | refine E_block_exit_other rfl ?_)
    exact E_round (s := (i, cs, u)) (i + 1, cs1, v) ⟨by show i + 1 ≤ _; omega, hr1, hokv⟩ (by show _ - (i + 1) < _ - i; omega) (by repeat (first | exact Sub.nil | refine Sub.cons rfl ?_)) (.drop (Fewer.refl _))
  · repeat (first | refine S_yes rfl rfl ?_ | refine S_no rfl rfl ?_ | refine S_seq ?_ | refine E_seq ?_ | refine S_block ?_ | refine E_block_normal ?_ | refine S_skip ?_ | refine S_exit ?_ | refine S_ret ?_ | refine E_then_exit ?_ | refine E_then_ret ?_ | refine E_block_ret ?_ | refine E_block_exit ?_ | refine E_block_exit_other rfl ?_)
    refine S_region ?_
    refine R_cons rfl (op_pure (p_assign rfl) rfl ?_)
    refine R_nil ?_
    repeat (first | refine S_yes rfl rfl ?_ | refine S_no rfl rfl ?_ | refine S_seq ?_ | refine E_seq ?_ | refine S_block ?_ | refine E_block_normal ?_ | refine S_skip ?_ | refine S_exit ?_ | refine S_ret ?_ | refine E_then_exit ?_ | refine E_then_ret ?_ | refine E_block_ret ?_ | refine E_block_exit ?_ | refine E_block_exit_other rfl ?_)
    exact E_ret1 rfl rfl fun w' hm => ⟨rfl, hm.below⟩

theorem own : ownKnob Try.prog.godebug = none := by kernel_rfl
theorem laidOut : laidOutB Try.prog = true := by kernel_rfl
set_option maxRecDepth 100000 in
theorem lifted (os : Os) (started : os.Started) (H : Type) (enc : TypeId × Value → H) :
    ReturnsInHanded {} Try.checked os 6 .any (Rows.shasRunSpec.pre6 enc Try.prog Try.f6 Rows.shasRunRow.domain false) (Rows.shasRunSpec.post enc Try.prog Try.f6 false true false false) := by
  refine returnsInHanded_of_change_sized (C := Try.checked) own started (by kernel_rfl) Try.func6
    (ChangeSpec.witness6 (enc := enc) (C := Try.checked) false ⟨#[], #[.slice none 0 0], []⟩ 8 (by kernel_rfl) (by kernel_rfl) (by kernel_rfl) (by kernel_rfl)) ?_
  intro W base args ds gs before hval0 hW hcnd hsz _
  have hval : ∀ (j : Nat) t v, Try.f6.params[j]? = some t → args[j]? = some v → Value.okWide Try.prog W .any base t v := hval0
  have hW' := hW
  obtain ⟨p, q, hA0, hV, rfl, hfz, hnd⟩ := hW
  have hA : DataW.TrodAll enc Try.prog W 0 (fun _ => true) true Try.f6.params.toList args.toList ds p := hA0
  rw [Try.params6] at hA hval hsz
  obtain ⟨v0, vs0, d0, ds0, p0, q0, hargs, rfl, rfl, h0, r0⟩ := trodAll_cons hA
  obtain ⟨rfl, rfl, rfl⟩ := trodAll_nil r0
  obtain rfl : args = #[v0] := by cases args; simp_all
  obtain ⟨rfl, rfl⟩ := trodVars_none hV
  have k0 := h0
  have lt0 : ∀ x ∈ p0, x.block < W.heap.size := by obtain ⟨m, hm⟩ := k0; exact DataW.trod_lt m _ _ _ hm
  have wt0 : ∀ n ∈ d0.weights Try.prog 46, n ≤ reachBytes := fun n hn => by have := List.all_eq_true.1 hsz n (DataW.weights_mem_each (j := 0) (t := 46) (d := d0) rfl rfl n hn); simpa using this
  obtain ⟨A0, c0, a0, rfl, rd0, lc0, cm0, ok0⟩ := arg_slices Try.underlying46 Try.underlying22 Try.underlying5 (by kernel_rfl) (by kernel_rfl) (by kernel_rfl) wt0 (hval 0 46 v0 rfl rfl) k0
  clear hA0 hval0
  refine (walk W A0 c0 a0 rd0 lc0 cm0 ok0).mono fun e W' ⟨he, bel⟩ => ?_
  subst he
  exact ⟨_, rfl, _, _, _, [], _, [], hW', trodAll_mk1 (shut_bool Try.underlying4 _), (trodAll_cons_mk (Below.trod laidOut (by kernel_rfl) (of_decide_eq_true (by kernel_rfl)) k0 bel lt0) trodAll_mk0), rfl, bel.frame _, fun h => by cases h⟩
/-- The statement. -/
theorem proved : Rows.ShasRunSaid :=
  OpenClaim.holds_of_wide 6 Try.f6 rfl rfl rfl rfl rfl rfl rfl ⟨rfl, rfl, rfl, rfl, rfl⟩ rfl rfl rfl rfl rfl (by kernel_rfl) Try.func6 (by kernel_rfl)
    (of_decide_eq_true (by kernel_rfl)) (by unfold Func.isWrapper; first | (rw [if_pos (by decide +kernel)]; kernel_rfl) | (rw [if_neg (by decide +kernel)]; exact ⟨rfl, rfl⟩))
    (fun os started H enc _ => lifted os started H enc)
#print axioms proved
end Go.Proofs.Ytcjjhiafcefocaa.shasRun
