/-
  Proved: the sum of any parts by any key is that of its blocks and the parts, however these are cut; they stay as they were. No condition.
-/
import Derived.Test.YtcjjhiafcefocaaRows
import Derived.Test.YtcjjhiafcefocaaMacs2
import Derived.Test.YtcjjhiafcefocaaMacs3
import Derived.Test.YtcjjhiafcefocaaTwinL
namespace Go.Proofs.Ytcjjhiafcefocaa.macsBlocks
open Go.ChangeShapes Go.WideShapes Go.ChangeAt Go.Sha
open Go.RowKit Go.K
attribute [local irreducible] Exit.then Exit.inBlock bodyPost Code.wp QL Sx Rx Qx Ex Dx Op1 Pure1 Still1 K.Sub Calm Code.wpIn
attribute [local irreducible] sha hmac byK Buf.hp Buf.cap Buf.addr upTo bls
set_option linter.unusedVariables false

theorem twin_same (ls : List Sl) : ∀ ts : List Sl, ts.length = ls.length → (∀ (i : Nat) s t, ls[i]? = some s → ts[i]? = some t → t.xs = s.xs) → total ts = total ls ∧ upTo ts ts.length = upTo ls ls.length := by
  have key : ∀ ls ts : List Sl, ts.length = ls.length → (∀ (i : Nat) s t, ls[i]? = some s → ts[i]? = some t → t.xs = s.xs) → ts.map Sl.xs = ls.map Sl.xs := by
    intro ls ts hl h
    refine List.ext_getElem (by simp [hl]) fun i h1 h2 => ?_
    simp only [List.length_map] at h1 h2
    simp only [List.getElem_map]
    exact h i _ _ (List.getElem?_eq_getElem h2) (List.getElem?_eq_getElem h1)
  intro ts hl h
  have k := key ls ts hl h
  have e1 : ∀ l : List Sl, total l = ((l.map Sl.xs).map List.length).sum := fun l => by unfold total; rw [List.map_map]; rfl
  have e2 : ∀ l : List Sl, upTo l l.length = (l.map Sl.xs).flatten := fun l => by unfold upTo; rw [List.take_length]; rfl
  exact ⟨by rw [e1, e1, k], by rw [e2, e2, k]⟩

set_option maxHeartbeats 4000000 in
theorem walk (w : World) (A : Option Addr) (c : Nat) (key : List UInt8) (hrd : Reads w A key.length (bytesV key)) (hnc : key.length ≤ c) (hcm : c ≤ maxLen) (A2 : Option Addr) (c2 : Nat) (ls : List Sl) (hrd2 : Reads w A2 ls.length (ls.map Sl.val)) (hnc2 : ls.length ≤ c2) (hcm2 : c2 ≤ maxLen) (hok : ∀ s ∈ ls, s.ok w) :
    Calls Try.prog 8 [.slice A key.length c, .slice A2 ls.length c2].toArray w fun e w' => e = .returned (.bool true) ∧ Below w.heap.size w w' := by
  refine enter Try.func8 rfl Try.ntmps8 (by simp) ?_
  by_cases hk5 : 5000 < key.length
  · have h1 : decide ((5000 : Int) < (key.length : Int)) = true := decide_eq_true (by omega)
    repeat (first | refine S_yes rfl rfl ?_ | refine S_no rfl rfl ?_ | refine S_seq ?_ | refine E_seq ?_ | refine S_block ?_ | refine E_block_normal ?_ | refine S_skip ?_ | refine S_exit ?_ | refine S_ret ?_ | refine E_then_exit ?_ | refine E_then_ret ?_ | refine E_block_ret ?_ | refine E_block_exit ?_ | refine E_block_exit_other rfl ?_)
    refine S_region ?_
    refine R_cons rfl (op_pure (p_assign rfl) rfl ?_)
    refine R_nil ?_
    repeat (first | refine S_yes rfl rfl ?_ | refine S_no rfl rfl ?_ | refine S_seq ?_ | refine E_seq ?_ | refine S_block ?_ | refine E_block_normal ?_ | refine S_skip ?_ | refine S_exit ?_ | refine S_ret ?_ | refine E_then_exit ?_ | refine E_then_ret ?_ | refine E_block_ret ?_ | refine E_block_exit ?_ | refine E_block_exit_other rfl ?_)
    refine S_region ?_
    refine R_cons rfl (op_pure (p_move rfl) rfl ?_)
    refine R_cons rfl (op_pure (p_len rfl slc_u8s) rfl ?_)
    refine R_cons rfl (op_pure (p_bin rfl rfl (b_gtr (by first | assumption | exact decide_eq_true (by omega) | exact decide_eq_false (by omega) | rfl))) rfl ?_)
    refine R_cons rfl (op_pure (p_move rfl) rfl ?_)
    first | refine R_pass rfl rfl rfl rfl ?_ | refine R_pass_undef rfl rfl rfl ?_ | refine R_guard rfl rfl rfl (op_pure (p_move rfl) rfl ?_)
    first | refine R_pass rfl rfl rfl rfl ?_ | refine R_pass_undef rfl rfl rfl ?_ | refine R_guard rfl rfl rfl (op_pure (p_len rfl slc_u8ss) rfl ?_)
    first | refine R_pass rfl rfl rfl rfl ?_ | refine R_pass_undef rfl rfl rfl ?_ | refine R_guard rfl rfl rfl (op_pure (p_bin rfl rfl (b_gtr (by first | assumption | exact decide_eq_true (by omega) | exact decide_eq_false (by omega) | rfl))) rfl ?_)
    refine R_cons rfl (op_pure (by first | exact p_pick_yes rfl rfl | exact p_pick_no rfl rfl | exact p_pick rfl rfl rfl) rfl ?_)
    refine R_cons rfl (op_pure (p_move rfl) rfl ?_)
    first | refine R_pass rfl rfl rfl rfl ?_ | refine R_pass_undef rfl rfl rfl ?_ | refine R_guard rfl rfl rfl (op_pure (p_move rfl) rfl ?_)
    first | refine R_pass rfl rfl rfl rfl ?_ | refine R_pass_undef rfl rfl rfl ?_ | refine R_guard rfl rfl rfl (op_callV rfl rfl Try.func21 rfl (by kernel_rfl) rfl (Nat.le_refl _) (fun w' hm => bls_any A2 c2 ls w' (hrd2.base hm) (fun s hs => Sl.ok_base (hok s hs) hm) (by omega)) ?_)
    first | refine R_pass rfl rfl rfl rfl ?_ | refine R_pass_undef rfl rfl rfl ?_ | refine R_guard rfl rfl rfl (op_pure (p_bin rfl rfl (b_gtr (by first | assumption | exact decide_eq_true (by omega) | exact decide_eq_false (by omega) | rfl))) rfl ?_)
    refine R_cons rfl (op_pure (by first | exact p_pick_yes rfl rfl | exact p_pick_no rfl rfl | exact p_pick rfl rfl rfl) rfl ?_)
    refine R_nil ?_
    repeat (first | refine S_yes rfl rfl ?_ | refine S_no rfl rfl ?_ | refine S_seq ?_ | refine E_seq ?_ | refine S_block ?_ | refine E_block_normal ?_ | refine S_skip ?_ | refine S_exit ?_ | refine S_ret ?_ | refine E_then_exit ?_ | refine E_then_ret ?_ | refine E_block_ret ?_ | refine E_block_exit ?_ | refine E_block_exit_other rfl ?_)
    refine S_region ?_
    refine R_cons rfl (op_pure (p_assign rfl) rfl ?_)
    refine R_nil ?_
    repeat (first | refine S_yes rfl rfl ?_ | refine S_no rfl rfl ?_ | refine S_seq ?_ | refine E_seq ?_ | refine S_block ?_ | refine E_block_normal ?_ | refine S_skip ?_ | refine S_exit ?_ | refine S_ret ?_ | refine E_then_exit ?_ | refine E_then_ret ?_ | refine E_block_ret ?_ | refine E_block_exit ?_ | refine E_block_exit_other rfl ?_)
    exact E_ret1 rfl rfl fun w' hm => ⟨rfl, hm.below⟩
  have h1 : decide ((5000 : Int) < (key.length : Int)) = false := decide_eq_false (by omega)
  by_cases h40 : 40 < ls.length
  · have h2 : decide ((40 : Int) < (ls.length : Int)) = true := decide_eq_true (by omega)
    repeat (first | refine S_yes rfl rfl ?_ | refine S_no rfl rfl ?_ | refine S_seq ?_ | refine E_seq ?_ | refine S_block ?_ | refine E_block_normal ?_ | refine S_skip ?_ | refine S_exit ?_ | refine S_ret ?_ | refine E_then_exit ?_ | refine E_then_ret ?_ | refine E_block_ret ?_ | refine E_block_exit ?_ | refine E_block_exit_other rfl ?_)
    refine S_region ?_
    refine R_cons rfl (op_pure (p_assign rfl) rfl ?_)
    refine R_nil ?_
    repeat (first | refine S_yes rfl rfl ?_ | refine S_no rfl rfl ?_ | refine S_seq ?_ | refine E_seq ?_ | refine S_block ?_ | refine E_block_normal ?_ | refine S_skip ?_ | refine S_exit ?_ | refine S_ret ?_ | refine E_then_exit ?_ | refine E_then_ret ?_ | refine E_block_ret ?_ | refine E_block_exit ?_ | refine E_block_exit_other rfl ?_)
    refine S_region ?_
    refine R_cons rfl (op_pure (p_move rfl) rfl ?_)
    refine R_cons rfl (op_pure (p_len rfl slc_u8s) rfl ?_)
    refine R_cons rfl (op_pure (p_bin rfl rfl (b_gtr (by first | assumption | exact decide_eq_true (by omega) | exact decide_eq_false (by omega) | rfl))) rfl ?_)
    refine R_cons rfl (op_pure (p_move rfl) rfl ?_)
    first | refine R_pass rfl rfl rfl rfl ?_ | refine R_pass_undef rfl rfl rfl ?_ | refine R_guard rfl rfl rfl (op_pure (p_move rfl) rfl ?_)
    first | refine R_pass rfl rfl rfl rfl ?_ | refine R_pass_undef rfl rfl rfl ?_ | refine R_guard rfl rfl rfl (op_pure (p_len rfl slc_u8ss) rfl ?_)
    first | refine R_pass rfl rfl rfl rfl ?_ | refine R_pass_undef rfl rfl rfl ?_ | refine R_guard rfl rfl rfl (op_pure (p_bin rfl rfl (b_gtr (by first | assumption | exact decide_eq_true (by omega) | exact decide_eq_false (by omega) | rfl))) rfl ?_)
    refine R_cons rfl (op_pure (by first | exact p_pick_yes rfl rfl | exact p_pick_no rfl rfl | exact p_pick rfl rfl rfl) rfl ?_)
    refine R_cons rfl (op_pure (p_move rfl) rfl ?_)
    first | refine R_pass rfl rfl rfl rfl ?_ | refine R_pass_undef rfl rfl rfl ?_ | refine R_guard rfl rfl rfl (op_pure (p_move rfl) rfl ?_)
    first | refine R_pass rfl rfl rfl rfl ?_ | refine R_pass_undef rfl rfl rfl ?_ | refine R_guard rfl rfl rfl (op_callV rfl rfl Try.func21 rfl (by kernel_rfl) rfl (Nat.le_refl _) (fun w' hm => bls_any A2 c2 ls w' (hrd2.base hm) (fun s hs => Sl.ok_base (hok s hs) hm) (by omega)) ?_)
    first | refine R_pass rfl rfl rfl rfl ?_ | refine R_pass_undef rfl rfl rfl ?_ | refine R_guard rfl rfl rfl (op_pure (p_bin rfl rfl (b_gtr (by first | assumption | exact decide_eq_true (by omega) | exact decide_eq_false (by omega) | rfl))) rfl ?_)
    refine R_cons rfl (op_pure (by first | exact p_pick_yes rfl rfl | exact p_pick_no rfl rfl | exact p_pick rfl rfl rfl) rfl ?_)
    refine R_nil ?_
    repeat (first | refine S_yes rfl rfl ?_ | refine S_no rfl rfl ?_ | refine S_seq ?_ | refine E_seq ?_ | refine S_block ?_ | refine E_block_normal ?_ | refine S_skip ?_ | refine S_exit ?_ | refine S_ret ?_ | refine E_then_exit ?_ | refine E_then_ret ?_ | refine E_block_ret ?_ | refine E_block_exit ?_ | refine E_block_exit_other rfl ?_)
    refine S_region ?_
    refine R_cons rfl (op_pure (p_assign rfl) rfl ?_)
    refine R_nil ?_
    repeat (first | refine S_yes rfl rfl ?_ | refine S_no rfl rfl ?_ | refine S_seq ?_ | refine E_seq ?_ | refine S_block ?_ | refine E_block_normal ?_ | refine S_skip ?_ | refine S_exit ?_ | refine S_ret ?_ | refine E_then_exit ?_ | refine E_then_ret ?_ | refine E_block_ret ?_ | refine E_block_exit ?_ | refine E_block_exit_other rfl ?_)
    exact E_ret1 rfl rfl fun w' hm => ⟨rfl, hm.below⟩
  have h2 : decide ((40 : Int) < (ls.length : Int)) = false := decide_eq_false (by omega)
  by_cases h15 : 15000 < bls ls.length ls
  · have h3 : decide ((15000 : Int) < (bls ls.length ls : Int)) = true := decide_eq_true (by omega)
    repeat (first | refine S_yes rfl rfl ?_ | refine S_no rfl rfl ?_ | refine S_seq ?_ | refine E_seq ?_ | refine S_block ?_ | refine E_block_normal ?_ | refine S_skip ?_ | refine S_exit ?_ | refine S_ret ?_ | refine E_then_exit ?_ | refine E_then_ret ?_ | refine E_block_ret ?_ | refine E_block_exit ?_ | refine E_block_exit_other rfl ?_)
    refine S_region ?_
    refine R_cons rfl (op_pure (p_assign rfl) rfl ?_)
    refine R_nil ?_
    repeat (first | refine S_yes rfl rfl ?_ | refine S_no rfl rfl ?_ | refine S_seq ?_ | refine E_seq ?_ | refine S_block ?_ | refine E_block_normal ?_ | refine S_skip ?_ | refine S_exit ?_ | refine S_ret ?_ | refine E_then_exit ?_ | refine E_then_ret ?_ | refine E_block_ret ?_ | refine E_block_exit ?_ | refine E_block_exit_other rfl ?_)
    refine S_region ?_
    refine R_cons rfl (op_pure (p_move rfl) rfl ?_)
    refine R_cons rfl (op_pure (p_len rfl slc_u8s) rfl ?_)
    refine R_cons rfl (op_pure (p_bin rfl rfl (b_gtr (by first | assumption | exact decide_eq_true (by omega) | exact decide_eq_false (by omega) | rfl))) rfl ?_)
    refine R_cons rfl (op_pure (p_move rfl) rfl ?_)
    first | refine R_pass rfl rfl rfl rfl ?_ | refine R_pass_undef rfl rfl rfl ?_ | refine R_guard rfl rfl rfl (op_pure (p_move rfl) rfl ?_)
    first | refine R_pass rfl rfl rfl rfl ?_ | refine R_pass_undef rfl rfl rfl ?_ | refine R_guard rfl rfl rfl (op_pure (p_len rfl slc_u8ss) rfl ?_)
    first | refine R_pass rfl rfl rfl rfl ?_ | refine R_pass_undef rfl rfl rfl ?_ | refine R_guard rfl rfl rfl (op_pure (p_bin rfl rfl (b_gtr (by first | assumption | exact decide_eq_true (by omega) | exact decide_eq_false (by omega) | rfl))) rfl ?_)
    refine R_cons rfl (op_pure (by first | exact p_pick_yes rfl rfl | exact p_pick_no rfl rfl | exact p_pick rfl rfl rfl) rfl ?_)
    refine R_cons rfl (op_pure (p_move rfl) rfl ?_)
    first | refine R_pass rfl rfl rfl rfl ?_ | refine R_pass_undef rfl rfl rfl ?_ | refine R_guard rfl rfl rfl (op_pure (p_move rfl) rfl ?_)
    first | refine R_pass rfl rfl rfl rfl ?_ | refine R_pass_undef rfl rfl rfl ?_ | refine R_guard rfl rfl rfl (op_callV rfl rfl Try.func21 rfl (by kernel_rfl) rfl (Nat.le_refl _) (fun w' hm => bls_any A2 c2 ls w' (hrd2.base hm) (fun s hs => Sl.ok_base (hok s hs) hm) (by omega)) ?_)
    first | refine R_pass rfl rfl rfl rfl ?_ | refine R_pass_undef rfl rfl rfl ?_ | refine R_guard rfl rfl rfl (op_pure (p_bin rfl rfl (b_gtr (by first | assumption | exact decide_eq_true (by omega) | exact decide_eq_false (by omega) | rfl))) rfl ?_)
    refine R_cons rfl (op_pure (by first | exact p_pick_yes rfl rfl | exact p_pick_no rfl rfl | exact p_pick rfl rfl rfl) rfl ?_)
    refine R_nil ?_
    repeat (first | refine S_yes rfl rfl ?_ | refine S_no rfl rfl ?_ | refine S_seq ?_ | refine E_seq ?_ | refine S_block ?_ | refine E_block_normal ?_ | refine S_skip ?_ | refine S_exit ?_ | refine S_ret ?_ | refine E_then_exit ?_ | refine E_then_ret ?_ | refine E_block_ret ?_ | refine E_block_exit ?_ | refine E_block_exit_other rfl ?_)
    refine S_region ?_
    refine R_cons rfl (op_pure (p_assign rfl) rfl ?_)
    refine R_nil ?_
    repeat (first | refine S_yes rfl rfl ?_ | refine S_no rfl rfl ?_ | refine S_seq ?_ | refine E_seq ?_ | refine S_block ?_ | refine E_block_normal ?_ | refine S_skip ?_ | refine S_exit ?_ | refine S_ret ?_ | refine E_then_exit ?_ | refine E_then_ret ?_ | refine E_block_ret ?_ | refine E_block_exit ?_ | refine E_block_exit_other rfl ?_)
    exact E_ret1 rfl rfl fun w' hm => ⟨rfl, hm.below⟩
  have h3 : decide ((15000 : Int) < (bls ls.length ls : Int)) = false := decide_eq_false (by omega)
  have htot : total ls ≤ 15000 := by have := bls_small ls ls.length (by omega); omega
  repeat (first | refine S_yes rfl rfl ?_ | refine S_no rfl rfl ?_ | refine S_seq ?_ | refine E_seq ?_ | refine S_block ?_ | refine E_block_normal ?_ | refine S_skip ?_ | refine S_exit ?_ | refine S_ret ?_ | refine E_then_exit ?_ | refine E_then_ret ?_ | refine E_block_ret ?_ | refine E_block_exit ?_ | refine E_block_exit_other rfl ?_)
  refine S_region ?_
  refine R_cons rfl (op_pure (p_assign rfl) rfl ?_)
  refine R_nil ?_
  repeat (first | refine S_yes rfl rfl ?_ | refine S_no rfl rfl ?_ | refine S_seq ?_ | refine E_seq ?_ | refine S_block ?_ | refine E_block_normal ?_ | refine S_skip ?_ | refine S_exit ?_ | refine S_ret ?_ | refine E_then_exit ?_ | refine E_then_ret ?_ | refine E_block_ret ?_ | refine E_block_exit ?_ | refine E_block_exit_other rfl ?_)
  refine S_region ?_
  refine R_cons rfl (op_pure (p_move rfl) rfl ?_)
  refine R_cons rfl (op_pure (p_len rfl slc_u8s) rfl ?_)
  refine R_cons rfl (op_pure (p_bin rfl rfl (b_gtr (by first | assumption | exact decide_eq_true (by omega) | exact decide_eq_false (by omega) | rfl))) rfl ?_)
  refine R_cons rfl (op_pure (p_move rfl) rfl ?_)
  first | refine R_pass rfl rfl rfl rfl ?_ | refine R_pass_undef rfl rfl rfl ?_ | refine R_guard rfl rfl rfl (op_pure (p_move rfl) rfl ?_)
  first | refine R_pass rfl rfl rfl rfl ?_ | refine R_pass_undef rfl rfl rfl ?_ | refine R_guard rfl rfl rfl (op_pure (p_len rfl slc_u8ss) rfl ?_)
  first | refine R_pass rfl rfl rfl rfl ?_ | refine R_pass_undef rfl rfl rfl ?_ | refine R_guard rfl rfl rfl (op_pure (p_bin rfl rfl (b_gtr (by first | assumption | exact decide_eq_true (by omega) | exact decide_eq_false (by omega) | rfl))) rfl ?_)
  refine R_cons rfl (op_pure (by first | exact p_pick_yes rfl rfl | exact p_pick_no rfl rfl | exact p_pick rfl rfl rfl) rfl ?_)
  refine R_cons rfl (op_pure (p_move rfl) rfl ?_)
  first | refine R_pass rfl rfl rfl rfl ?_ | refine R_pass_undef rfl rfl rfl ?_ | refine R_guard rfl rfl rfl (op_pure (p_move rfl) rfl ?_)
  first | refine R_pass rfl rfl rfl rfl ?_ | refine R_pass_undef rfl rfl rfl ?_ | refine R_guard rfl rfl rfl (op_callV rfl rfl Try.func21 rfl (by kernel_rfl) rfl (Nat.le_refl _) (fun w' hm => bls_any A2 c2 ls w' (hrd2.base hm) (fun s hs => Sl.ok_base (hok s hs) hm) (by omega)) ?_)
  first | refine R_pass rfl rfl rfl rfl ?_ | refine R_pass_undef rfl rfl rfl ?_ | refine R_guard rfl rfl rfl (op_pure (p_bin rfl rfl (b_gtr (by first | assumption | exact decide_eq_true (by omega) | exact decide_eq_false (by omega) | rfl))) rfl ?_)
  refine R_cons rfl (op_pure (by first | exact p_pick_yes rfl rfl | exact p_pick_no rfl rfl | exact p_pick rfl rfl rfl) rfl ?_)
  refine R_nil ?_
  repeat (first | refine S_yes rfl rfl ?_ | refine S_no rfl rfl ?_ | refine S_seq ?_ | refine E_seq ?_ | refine S_block ?_ | refine E_block_normal ?_ | refine S_skip ?_ | refine S_exit ?_ | refine S_ret ?_ | refine E_then_exit ?_ | refine E_then_ret ?_ | refine E_block_ret ?_ | refine E_block_exit ?_ | refine E_block_exit_other rfl ?_)
  refine S_region ?_
  refine R_cons rfl (op_pure (p_move rfl) rfl ?_)
  refine R_cons rfl (op_call rfl rfl Try.func11 rfl (by kernel_rfl) rfl fun w1 hm => (twin_any A key.length c key w1 rfl (hrd.base hm) (by omega)).mono ?_)
  rintro e w2 ⟨g, cap, sp, rfl, hg, hgo, hlen, hcapm, hbel⟩
  refine ⟨_, _, rfl, hm.call1 (Nat.le_refl _) hbel hg hgo, ?_⟩
  have hxl := bytesV_length key
  have hxl2 := bytesV_length (key ++ [77])
  simp only [List.length_append, List.length_cons, List.length_nil] at hxl2 hlen
  have hpre : ((bytesV (key ++ [77]) ++ sp).drop 0).take key.length = bytesV key := by rw [List.drop_zero, bytesV_append, List.append_assoc, ← hxl, List.take_left]
  have hpre2 : ((bytesV (key ++ [77]) ++ sp).drop 0).take (key.length + 1) = bytesV (key ++ [77]) := by rw [List.drop_zero, show key.length + 1 = (bytesV (key ++ [77])).length by omega, List.take_left]
  refine R_cons rfl (op_pure (p_assign rfl) rfl ?_)
  refine R_nil ?_
  repeat (first | refine S_yes rfl rfl ?_ | refine S_no rfl rfl ?_ | refine S_seq ?_ | refine E_seq ?_ | refine S_block ?_ | refine E_block_normal ?_ | refine S_skip ?_ | refine S_exit ?_ | refine S_ret ?_ | refine E_then_exit ?_ | refine E_then_ret ?_ | refine E_block_ret ?_ | refine E_block_exit ?_ | refine E_block_exit_other rfl ?_)
  refine S_region ?_
  refine R_cons rfl (op_pure (p_move rfl) rfl ?_)
  refine R_callRe rfl rfl Try.func23 rfl (by kernel_rfl) rfl fun w3 hm3 => (twinL_any A2 c2 ls w3 (hrd2.base hm3) (fun s hs => Sl.ok_base (hok s hs) hm3) (fun s hs => by have := each_le ls s hs; omega) (by omega)).mono ?_
  rintro e w4 ⟨g2, cap2, ts, b77, rfl, hrt, hb77, hc77, hcl2, hcm4, htw, hbel4⟩
  have hm4 := hm3.call (Nat.le_refl _) hbel4
  refine ⟨_, rfl, ?_⟩
  have hkey1 := hm4.reads (b := g) (by repeat (first | exact List.Mem.head _ | apply List.Mem.tail)) hpre (by simp only [List.length_append]; omega)
  have hkey2 := hm4.reads (b := g) (by repeat (first | exact List.Mem.head _ | apply List.Mem.tail)) hpre2 (by simp only [List.length_append]; omega)
  have hrd4 := hrd.base hm4
  have hrd24 := hrd2.base hm4
  have hok4 : ∀ s ∈ ls, s.ok w4 := fun s hs => Sl.ok_base (hok s hs) hm4
  obtain ⟨hst, hsu⟩ := twin_same ls ts htw.1 (fun i s t hs ht => (htw.2 i s t hs ht).1)
  have hrts : Reads w4 (some ⟨g2, 0, none⟩) ts.length (ts.map Sl.val) := by
    have h := hrt.head (k := ts.length) (by have := htw.1; omega)
    rwa [List.take_append_of_le_length (by simp), List.take_of_length_le (by simp)] at h
  have hokt : ∀ t ∈ ts, t.ok w4 := fun t ht => by
    obtain ⟨i, hi⟩ := List.getElem?_of_mem ht
    have hil : i < ts.length := (List.getElem?_eq_some_iff.1 hi).1
    have hil2 : i < ls.length := by have := htw.1; omega
    obtain ⟨hx, hr, hc1, hc2⟩ := htw.2 i _ t (List.getElem?_eq_getElem hil2) hi
    have hle := each_le ls _ (List.getElem_mem hil2)
    rw [← hx] at hle
    have hr' := hr.head (k := t.xs.length) (by omega)
    rw [bytesV_append, List.take_append_of_le_length (by rw [bytesV_length]; exact Nat.le_refl _), List.take_of_length_le (by rw [bytesV_length]; exact Nat.le_refl _)] at hr'
    exact ⟨hr', by omega, hc2, by omega⟩
  refine R_cons rfl (op_pure (p_assign rfl) rfl ?_)
  refine R_nil ?_
  repeat (first | refine S_yes rfl rfl ?_ | refine S_no rfl rfl ?_ | refine S_seq ?_ | refine E_seq ?_ | refine S_block ?_ | refine E_block_normal ?_ | refine S_skip ?_ | refine S_exit ?_ | refine S_ret ?_ | refine E_then_exit ?_ | refine E_then_ret ?_ | refine E_block_ret ?_ | refine E_block_exit ?_ | refine E_block_exit_other rfl ?_)
  have hhl := hmac_length key (upTo ls ls.length)
  refine S_region ?_
  refine R_cons rfl (op_pure (p_move rfl) rfl ?_)
  refine R_cons rfl (op_pure (p_move rfl) rfl ?_)
  refine R_cons rfl (op_callV rfl rfl Try.func24 rfl (by kernel_rfl) rfl (Nat.le_refl _) (fun w' hm => by have h := macOf_any _ key.length cap key w' rfl (hkey1.base hm) (by omega) hcapm (by omega) (some ⟨g2, 0, none⟩) cap2 ts (hrts.base hm) (fun s hs => Sl.ok_base (hokt s hs) hm) (by have := htw.1; omega) (by omega); rw [hsu, htw.1] at h; exact h) ?_)
  refine R_cons rfl (op_allocRow zero_Sum rfl (Nat.le_refl _) (fun b7 => ?_))
  refine R_cons rfl (op_storeRow rfl rfl (by first | exact bytesV_one _ | exact wordsV_one _ | (repeat (first | exact ones_nil | refine ones_cons rfl ?_))) row_Sum (by first | assumption | rfl | (simp only [bytesV_length, wordsV_length]; omega) | (rw [bytesV_length]; exact Sha.sha_length _)) (by repeat (first | exact At.here | apply At.there)) (by first | exact Nat.le_of_ble_eq_true rfl | omega | (simp only [bytesV_length, wordsV_length, List.length_cons, List.length_nil, List.length_replicate]; omega) | (simp only [bytesV_length, Sha.sha_length, List.length_replicate] <;> omega)) ?_)
  refine R_nil ?_
  repeat (first | refine S_yes rfl rfl ?_ | refine S_no rfl rfl ?_ | refine S_seq ?_ | refine E_seq ?_ | refine S_block ?_ | refine E_block_normal ?_ | refine S_skip ?_ | refine S_exit ?_ | refine S_ret ?_ | refine E_then_exit ?_ | refine E_then_ret ?_ | refine E_block_ret ?_ | refine E_block_exit ?_ | refine E_block_exit_other rfl ?_)
  rw [lay_whole (by rw [bytesV_length, bytesV_length, hhl]; rfl)]
  refine S_quiet (by kernel_rfl) (by kernel_rfl) ?_
  refine Q_cons (Still1.of_pure (by first | exact p_loadRow rfl row_Sum (by repeat (first | exact List.Mem.head _ | apply List.Mem.tail)) (by first | assumption | rfl | (simp only [bytesV_length, wordsV_length]; omega)) | exact p_loadPart rfl row_Sum (by repeat (first | exact List.Mem.head _ | apply List.Mem.tail)) (by first | exact Nat.le_of_ble_eq_true rfl | omega | (simp only [bytesV_length, wordsV_length, List.length_cons, List.length_nil, List.length_replicate]; omega) | (simp only [bytesV_length, Sha.sha_length, List.length_replicate] <;> omega)) (by first | assumption | rfl))) rfl ?_
  refine Q_cons (Still1.of_pure (p_move rfl)) rfl ?_
  refine Q_cons (Still1.of_pure (p_move rfl)) rfl ?_
  refine Q_cons (still_call rfl rfl Try.func25 rfl (by kernel_rfl) (Nat.le_refl _) (fun w' hm => refMac_any A key.length c key w' rfl (hrd4.base hm) (by omega) A2 c2 ls (hrd24.base hm) (fun s hs => Sl.ok_base (hok4 s hs) hm) (by omega) (by omega))) rfl ?_
  refine Q_cons (Still1.of_pure (by exact p_eql_bytesR rfl rfl arr_Sum.1 Try.underlying5 (by kernel_rfl) (by kernel_rfl) (by first | assumption | exact Sha.sha_length _ | exact Sha.hmac_length _ _ | rfl) (by first | assumption | exact Sha.sha_length _ | exact Sha.hmac_length _ _ | rfl) (by first | assumption | exact beq_self_eq_true _ | rfl))) rfl ?_
  refine Q_cons (Still1.of_pure (p_move rfl)) rfl ?_
  first | refine Q_pass rfl rfl rfl rfl ?_ | refine Q_pass_undef rfl rfl rfl ?_ | refine Q_guard rfl rfl (Still1.of_pure (p_move rfl)) rfl ?_
  first | refine Q_pass rfl rfl rfl rfl ?_ | refine Q_pass_undef rfl rfl rfl ?_ | refine Q_guard rfl rfl (Still1.of_pure (p_move rfl)) rfl ?_
  first | refine Q_pass rfl rfl rfl rfl ?_ | refine Q_pass_undef rfl rfl rfl ?_ | refine Q_guard rfl rfl (still_call rfl rfl Try.func14 rfl (by kernel_rfl) (Nat.le_refl _) (fun w' hm => left_bytes _ A key.length cap c key w' rfl (hkey2.base hm) (by omega) hcapm (hrd4.base hm))) rfl ?_
  refine Q_cons (Still1.of_pure (by first | exact p_pick_yes rfl rfl | exact p_pick_no rfl rfl | exact p_pick rfl rfl rfl)) rfl ?_
  refine Q_cons (Still1.of_pure (p_move rfl)) rfl ?_
  first | refine Q_pass rfl rfl rfl rfl ?_ | refine Q_pass_undef rfl rfl rfl ?_ | refine Q_guard rfl rfl (Still1.of_pure (p_move rfl)) rfl ?_
  first | refine Q_pass rfl rfl rfl rfl ?_ | refine Q_pass_undef rfl rfl rfl ?_ | refine Q_guard rfl rfl (Still1.of_pure (p_move rfl)) rfl ?_
  first | refine Q_pass rfl rfl rfl rfl ?_ | refine Q_pass_undef rfl rfl rfl ?_ | refine Q_guard rfl rfl (still_call rfl rfl Try.func26 rfl (by kernel_rfl) (Nat.le_refl _) (fun w' hm => leftL_any g2 cap2 c2 A2 ls ts b77 w' (hrt.base hm) (Nat.lt_of_lt_of_le hb77 hm.chg.size) ((hm.base (p := ⟨b77, 0, none⟩) hb77 (by simp)).trans hc77) hcl2 hcm4 ⟨htw.1, fun i s t hs ht => by obtain ⟨h1, h2, h3⟩ := htw.2 i s t hs ht; exact ⟨h1, h2.base hm, h3⟩⟩ (hrd24.base hm) (fun s hs => Sl.ok_base (hok4 s hs) hm))) rfl ?_
  refine Q_cons (Still1.of_pure (by first | exact p_pick_yes rfl rfl | exact p_pick_no rfl rfl | exact p_pick rfl rfl rfl)) rfl ?_
  refine Q_cons (Still1.of_pure (p_assign rfl)) rfl ?_
  refine Q_nil ?_
  repeat (first | refine S_yes rfl rfl ?_ | refine S_no rfl rfl ?_ | refine S_seq ?_ | refine E_seq ?_ | refine S_block ?_ | refine E_block_normal ?_ | refine S_skip ?_ | refine S_exit ?_ | refine S_ret ?_ | refine E_then_exit ?_ | refine E_then_ret ?_ | refine E_block_ret ?_ | refine E_block_exit ?_ | refine E_block_exit_other rfl ?_)
  exact E_ret1 rfl rfl fun w' hm => ⟨rfl, (hm4.call (Nat.le_refl _) hm.below).below⟩

theorem own : ownKnob Try.prog.godebug = none := by kernel_rfl
theorem laidOut : laidOutB Try.prog = true := by kernel_rfl
set_option maxRecDepth 100000 in
theorem lifted (os : Os) (started : os.Started) (H : Type) (enc : TypeId × Value → H) :
    ReturnsInHanded {} Try.checked os 8 .any (Rows.macsBlocksSpec.pre6 enc Try.prog Try.f8 Rows.macsBlocksRow.domain false) (Rows.macsBlocksSpec.post enc Try.prog Try.f8 false true false false) := by
  refine returnsInHanded_of_change_sized (C := Try.checked) own started (by kernel_rfl) Try.func8
    (ChangeSpec.witness6 (enc := enc) (C := Try.checked) false ⟨#[], #[.slice none 0 0, .slice none 0 0], []⟩ 8 (by kernel_rfl) (by kernel_rfl) (by kernel_rfl) (by kernel_rfl)) ?_
  intro W base args ds gs before hval0 hW hcnd hsz _
  have hval : ∀ (j : Nat) t v, Try.f8.params[j]? = some t → args[j]? = some v → Value.okWide Try.prog W .any base t v := hval0
  have hW' := hW
  obtain ⟨p, q, hA0, hV, rfl, hfz, hnd⟩ := hW
  have hA : DataW.TrodAll enc Try.prog W 0 (fun _ => true) true Try.f8.params.toList args.toList ds p := hA0
  rw [Try.params8] at hA hval hsz
  obtain ⟨v0, vs0, d0, ds0, p0, q0, hargs, rfl, rfl, h0, r0⟩ := trodAll_cons hA
  obtain ⟨v1, vs1, d1, ds1, p1, q1, rfl, rfl, rfl, h1, r1⟩ := trodAll_cons r0
  obtain ⟨rfl, rfl, rfl⟩ := trodAll_nil r1
  obtain rfl : args = #[v0, v1] := by cases args; simp_all
  obtain ⟨rfl, rfl⟩ := trodVars_none hV
  have k0 := h0
  have lt0 : ∀ x ∈ p0, x.block < W.heap.size := by obtain ⟨m, hm⟩ := k0; exact DataW.trod_lt m _ _ _ hm
  have k1 := h1
  have lt1 : ∀ x ∈ p1, x.block < W.heap.size := by obtain ⟨m, hm⟩ := k1; exact DataW.trod_lt m _ _ _ hm
  have wt1 : ∀ n ∈ d1.weights Try.prog 46, n ≤ reachBytes := fun n hn => by have := List.all_eq_true.1 hsz n (DataW.weights_mem_each (j := 1) (t := 46) (d := d1) rfl rfl n hn); simpa using this
  obtain ⟨A0, c0, a0, rfl, rd0, lc0, cm0⟩ := arg_slice Try.underlying22 Try.underlying5 (by kernel_rfl) (hval 0 22 v0 rfl rfl) k0 lt0
  obtain ⟨A1, c1, a1, rfl, rd1, lc1, cm1, ok1⟩ := arg_slices Try.underlying46 Try.underlying22 Try.underlying5 (by kernel_rfl) (by kernel_rfl) (by kernel_rfl) wt1 (hval 1 46 v1 rfl rfl) k1
  clear hA0 hval0
  refine (walk W A0 c0 a0 rd0 lc0 cm0 A1 c1 a1 rd1 lc1 cm1 ok1).mono fun e W' ⟨he, bel⟩ => ?_
  subst he
  exact ⟨_, rfl, _, _, _, [], _, [], hW', trodAll_mk1 (shut_bool Try.underlying4 _), (trodAll_cons_mk (Below.trod laidOut (by kernel_rfl) (of_decide_eq_true (by kernel_rfl)) k0 bel lt0) (trodAll_cons_mk (Below.trod laidOut (by kernel_rfl) (of_decide_eq_true (by kernel_rfl)) k1 bel lt1) trodAll_mk0)), rfl, bel.frame _, fun h => by cases h⟩
/-- The statement. -/
theorem proved : Rows.MacsBlocksSaid :=
  OpenClaim.holds_of_wide 8 Try.f8 rfl rfl rfl rfl rfl rfl rfl ⟨rfl, rfl, rfl, rfl, rfl⟩ rfl rfl rfl rfl rfl (by kernel_rfl) Try.func8 (by kernel_rfl)
    (of_decide_eq_true (by kernel_rfl)) (by unfold Func.isWrapper; first | (rw [if_pos (by decide +kernel)]; kernel_rfl) | (rw [if_neg (by decide +kernel)]; exact ⟨rfl, rfl⟩))
    (fun os started H enc _ => lifted os started H enc)
#print axioms proved
end Go.Proofs.Ytcjjhiafcefocaa.macsBlocks
