/-
  Proved: what is summed up begins by its kind: nothing by 2, what stands at a key by 3, two sides by 4; a key by its text. No condition.
-/
import Derived.Test.YthkogneaimjhjaaRows
import Derived.Test.YthkogneaimjhjaaKeys5
namespace Go.Proofs.Ythkogneaimjhjaa.keysSums
open Go.ChangeShapes Go.WideShapes Go.ChangeAt Go.Sha
open Go.RowKit Go.K
attribute [local irreducible] Exit.then Exit.inBlock Exit.noGoto bodyPost Code.wp QL Sx Rx Qx Ex Dx Op1 Pure1 Still1 K.Sub Calm Code.wpIn
attribute [local irreducible] sha total Buf.hp Buf.cap Buf.addr keyS empS sideS valueS bitZ levels digitsB
set_option linter.unusedVariables false

theorem side_eq (l r : List UInt8) : (sideS l r == sha ([4] ++ l ++ r)) = true := by unfold sideS; exact beq_self_eq_true _
theorem value_eq (l v : List UInt8) (h : v ≠ []) : (valueS l v == sha ([3] ++ l ++ v)) = true := by unfold valueS; rw [if_neg h]; exact beq_self_eq_true _
theorem key_eq (t : Nat) (z : Int) : (keyS t z == sha ([107, 101, 121] ++ digitsB t 4 ++ [byteZ z])) = true := by unfold keyS; exact beq_self_eq_true _
theorem wrap_byteZ (z : Int) : IntKind.u8.wrap z = ((byteZ z).toNat : Int) := by
  rw [IntKind.wrap_u8]; unfold byteZ; rw [UInt8.toNat_ofNat']; omega

section
attribute [local irreducible] askedV
set_option maxHeartbeats 4000000 in
theorem walk (w : World) (t : UInt32) (z : Int) (zlo : -9223372036854775808 ≤ z) (zhi : z ≤ 9223372036854775807) (d : Int) (dlo : -9223372036854775808 ≤ d) (dhi : d ≤ 9223372036854775807)
    (l : List UInt8) (hl : l.length = 32) (r : List UInt8) (hr : r.length = 32) (A : Option Addr) (c : Nat) (v : List UInt8) (hrd : Reads w A v.length (bytesV v)) (hnc : v.length ≤ c) (hcm : c ≤ maxLen) :
    Calls Try.prog 6 [.agg (askedV t z d l r (.slice A v.length c)).toArray].toArray w fun e w' => e = .returned (.bool true) ∧ Below w.heap.size w w' := by
  have f0 := asked_0 t z d l r (.slice A v.length c)
  have f1 := asked_1 t z d l r (.slice A v.length c)
  have f3 := asked_3 t z d l r (.slice A v.length c) hl
  have f4 := asked_4 t z d l r (.slice A v.length c) hl hr
  have f5 := asked_5 t z d l r (.slice A v.length c) hl hr
  have fl := asked_len t z d l r (.slice A v.length c) hl hr
  generalize askedV t z d l r (.slice A v.length c) = cs at *
  have hrow : ∀ o, o ≤ 36 → o + 32 ≤ cs.length := fun o ho => by omega
  have ht : t.toNat ≤ 18446744073709551615 := by have := t.toNat_lt; omega
  have e1 := keyS_length t.toNat z
  have e3 := valueS_length l v
  have e4 := sideS_length l r
  have s1 := sha_length ([4] ++ l ++ r)
  have s2 := sha_length ([3] ++ l ++ v)
  have s3 := sha_length ([107, 101, 121] ++ digitsB t.toNat 4 ++ [byteZ z])
  have l4 : ([4] ++ l).length = 33 := by simp [hl]
  have l4' : ([4] ++ l ++ r).length = 65 := by simp [hl, hr]
  have l3 : ([3] ++ l).length = 33 := by simp [hl]
  have l3' : ([3] ++ l ++ v).length = 33 + v.length := by simp [hl]; omega
  have l5 := k1l t.toNat
  have l6 := k2l t.toNat z
  have hwz := wrap_byteZ z
  clear fl zlo zhi dlo dhi
  refine enter Try.func6 rfl Try.ntmps6 (by simp) ?_
  by_cases hbig : 20000 < v.length
  · have g1 : decide ((20000 : Int) < (v.length : Int)) = true := decide_eq_true (by omega)
    clear hbig ht
    repeat (first | refine S_scope ?_ | refine S_label ?_ | refine E_noGoto_normal ?_ | refine E_noGoto_ret ?_ | refine E_noGoto_exit ?_ | refine S_yes rfl (by first | with_reducible rfl | decide) ?_ | refine S_no rfl (by first | with_reducible rfl | decide) ?_ | refine S_seq ?_ | refine E_seq ?_ | refine S_block ?_ | refine E_block_normal ?_ | refine S_skip ?_ | refine S_exit ?_ | refine S_ret ?_ | refine E_then_exit ?_ | refine E_then_ret ?_ | refine E_block_ret ?_ | refine E_block_exit ?_ | refine E_block_exit_other rfl ?_)
    refine S_region ?_
    refine R_cons rfl (op_boxRow rfl rfl (Nat.le_refl _) (fun b1 => ?_))
    refine R_cons rfl (op_pure (p_assign rfl) rfl ?_)
    refine R_nil ?_
    repeat (first | refine S_scope ?_ | refine S_label ?_ | refine E_noGoto_normal ?_ | refine E_noGoto_ret ?_ | refine E_noGoto_exit ?_ | refine S_yes rfl (by first | with_reducible rfl | decide) ?_ | refine S_no rfl (by first | with_reducible rfl | decide) ?_ | refine S_seq ?_ | refine E_seq ?_ | refine S_block ?_ | refine E_block_normal ?_ | refine S_skip ?_ | refine S_exit ?_ | refine S_ret ?_ | refine E_then_exit ?_ | refine E_then_ret ?_ | refine E_block_ret ?_ | refine E_block_exit ?_ | refine E_block_exit_other rfl ?_)
    refine S_region ?_
    refine R_cons rfl (op_pure (by first | exact p_fieldAddr0 rfl fd_Asked_5 | exact p_fieldAddr rfl fd_Asked_5) rfl ?_)
    refine R_cons rfl (op_pure (by first | exact p_load rfl sc_u8s (by repeat (first | exact List.Mem.head _ | apply List.Mem.tail)) (by first | assumption | exact bytesV_get (by omega) | exact wordsV_get (by omega) | rfl) | exact p_load_base rfl sc_u8s (by assumption) (by simp) (by assumption)) rfl ?_)
    refine R_cons rfl (op_pure (p_len rfl slc_u8s) rfl ?_)
    refine R_cons rfl (op_pure (p_bin rfl rfl (b_gtr g1)) rfl ?_)
    refine R_nil ?_
    repeat (first | refine S_scope ?_ | refine S_label ?_ | refine E_noGoto_normal ?_ | refine E_noGoto_ret ?_ | refine E_noGoto_exit ?_ | refine S_yes rfl (by first | with_reducible rfl | decide) ?_ | refine S_no rfl (by first | with_reducible rfl | decide) ?_ | refine S_seq ?_ | refine E_seq ?_ | refine S_block ?_ | refine E_block_normal ?_ | refine S_skip ?_ | refine S_exit ?_ | refine S_ret ?_ | refine E_then_exit ?_ | refine E_then_ret ?_ | refine E_block_ret ?_ | refine E_block_exit ?_ | refine E_block_exit_other rfl ?_)
    refine S_region ?_
    refine R_cons rfl (op_callV rfl rfl Try.func16 rfl (by kernel_rfl) rfl (Nat.le_refl _) (fun w' _ => alive14 w') ?_)
    refine R_cons rfl (op_pure (p_assign rfl) rfl ?_)
    refine R_nil ?_
    repeat (first | refine S_scope ?_ | refine S_label ?_ | refine E_noGoto_normal ?_ | refine E_noGoto_ret ?_ | refine E_noGoto_exit ?_ | refine S_yes rfl (by first | with_reducible rfl | decide) ?_ | refine S_no rfl (by first | with_reducible rfl | decide) ?_ | refine S_seq ?_ | refine E_seq ?_ | refine S_block ?_ | refine E_block_normal ?_ | refine S_skip ?_ | refine S_exit ?_ | refine S_ret ?_ | refine E_then_exit ?_ | refine E_then_ret ?_ | refine E_block_ret ?_ | refine E_block_exit ?_ | refine E_block_exit_other rfl ?_)
    exact E_ret1 rfl rfl fun w' hm => ⟨rfl, hm.below⟩
  have g1 : decide ((20000 : Int) < (v.length : Int)) = false := decide_eq_false (by omega)
  have hn1 : v.length ≤ 1000000 ∧ v.length ≤ 1000000000 ∧ ([3] ++ l).length + v.length ≤ 140737488355328 ∧ ([3] ++ l ++ v).length ≤ 1000000000000 := by omega
  clear hbig
  have hh := And.intro ht hn1
  clear ht hn1
  repeat (first | refine S_scope ?_ | refine S_label ?_ | refine E_noGoto_normal ?_ | refine E_noGoto_ret ?_ | refine E_noGoto_exit ?_ | refine S_yes rfl (by first | with_reducible rfl | decide) ?_ | refine S_no rfl (by first | with_reducible rfl | decide) ?_ | refine S_seq ?_ | refine E_seq ?_ | refine S_block ?_ | refine E_block_normal ?_ | refine S_skip ?_ | refine S_exit ?_ | refine S_ret ?_ | refine E_then_exit ?_ | refine E_then_ret ?_ | refine E_block_ret ?_ | refine E_block_exit ?_ | refine E_block_exit_other rfl ?_)
  refine S_region ?_
  refine R_cons rfl (op_boxRow rfl rfl (Nat.le_refl _) (fun b1 => ?_))
  refine R_cons rfl (op_pure (p_assign rfl) rfl ?_)
  refine R_nil ?_
  repeat (first | refine S_scope ?_ | refine S_label ?_ | refine E_noGoto_normal ?_ | refine E_noGoto_ret ?_ | refine E_noGoto_exit ?_ | refine S_yes rfl (by first | with_reducible rfl | decide) ?_ | refine S_no rfl (by first | with_reducible rfl | decide) ?_ | refine S_seq ?_ | refine E_seq ?_ | refine S_block ?_ | refine E_block_normal ?_ | refine S_skip ?_ | refine S_exit ?_ | refine S_ret ?_ | refine E_then_exit ?_ | refine E_then_ret ?_ | refine E_block_ret ?_ | refine E_block_exit ?_ | refine E_block_exit_other rfl ?_)
  refine S_region ?_
  refine R_cons rfl (op_pure (by first | exact p_fieldAddr0 rfl fd_Asked_5 | exact p_fieldAddr rfl fd_Asked_5) rfl ?_)
  refine R_cons rfl (op_pure (by first | exact p_load rfl sc_u8s (by repeat (first | exact List.Mem.head _ | apply List.Mem.tail)) (by first | assumption | exact bytesV_get (by omega) | exact wordsV_get (by omega) | rfl) | exact p_load_base rfl sc_u8s (by assumption) (by simp) (by assumption)) rfl ?_)
  refine R_cons rfl (op_pure (p_len rfl slc_u8s) rfl ?_)
  refine R_cons rfl (op_pure (p_bin rfl rfl (b_gtr g1)) rfl ?_)
  refine R_nil ?_
  repeat (first | refine S_scope ?_ | refine S_label ?_ | refine E_noGoto_normal ?_ | refine E_noGoto_ret ?_ | refine E_noGoto_exit ?_ | refine S_yes rfl (by first | with_reducible rfl | decide) ?_ | refine S_no rfl (by first | with_reducible rfl | decide) ?_ | refine S_seq ?_ | refine E_seq ?_ | refine S_block ?_ | refine E_block_normal ?_ | refine S_skip ?_ | refine S_exit ?_ | refine S_ret ?_ | refine E_then_exit ?_ | refine E_then_ret ?_ | refine E_block_ret ?_ | refine E_block_exit ?_ | refine E_block_exit_other rfl ?_)
  refine S_cutE (σ := Buf) (fun u => [(3, u.val ([4] ++ l ++ r)), (2, .bool false), (1, .pointer (some ⟨b1, 0, none⟩))]) (fun u => (b1, .cells cs.toArray 34 (0, 0)) :: u.hp 5 ([4] ++ l ++ r)) (fun u => u.ok ([4] ++ l ++ r)) ?_ ?_
  · refine S_drawn (by kernel_rfl) (Fewer.refl _) ?_
    refine D_take 1 rfl (by kernel_rfl) (by kernel_rfl) (by kernel_rfl) (by repeat (first | exact calm_body | exact calm_mid | apply calm_noGoto | exact calm_midE | apply calm_then | apply calm_block)) (by first | exact p_fieldAddr0 rfl fd_Asked_3 | exact p_fieldAddr rfl fd_Asked_3) rfl ?_
    refine D_take 2 rfl (by kernel_rfl) (by kernel_rfl) (by kernel_rfl) (by repeat (first | exact calm_body | exact calm_mid | apply calm_noGoto | exact calm_midE | apply calm_then | apply calm_block)) (p_sliceArr rfl arr_Sum) rfl ?_
    refine D_take 4 rfl (by kernel_rfl) (by kernel_rfl) (by kernel_rfl) (by repeat (first | exact calm_body | exact calm_mid | apply calm_noGoto | exact calm_midE | apply calm_then | apply calm_block)) (by first | exact p_fieldAddr0 rfl fd_Asked_4 | exact p_fieldAddr rfl fd_Asked_4) rfl ?_
    refine D_take 5 rfl (by kernel_rfl) (by kernel_rfl) (by kernel_rfl) (by repeat (first | exact calm_body | exact calm_mid | apply calm_noGoto | exact calm_midE | apply calm_then | apply calm_block)) (p_sliceArr rfl arr_Sum) rfl ?_
    refine D_only 0 rfl (by kernel_rfl) rfl (op_buildSliceAll (ps := [(0, .const (.int .u8 4))]) rfl slc_u8s.1 el_u8 (by decide) (by decide) (by first | kernel_rfl | rfl) rfl (Nat.le_refl _) (fun b11 => ?_))
    refine ⟨(by repeat (first | exact Fewer.nil | refine Fewer.keep rfl ?_ | refine Fewer.drop ?_ | exact Fewer.refl _ | exact Fewer.inl _ _ | (simp only [List.append_nil]; first | exact Fewer.inl _ _ | exact Fewer.refl _))), ?_⟩
    refine D_only 3 rfl (by kernel_rfl) rfl (op_appendBuf (u := some (b11, [])) (xs := [4]) (ys := l) (by unfold Buf.val Buf.addr Buf.cap; rfl) rfl slc_u8s.1 el_u8 (by repeat (first | exact DelB.tail | exact DelB.no rfl | exact DelB.at_ rfl (by repeat (first | exact Del.here | apply Del.there)) | apply DelB.there)) (by show _ ≤ maxLen; exact Nat.le_of_ble_eq_true rfl) (fun w hm => hm.reads (b := b1) (by repeat (first | exact List.Mem.head _ | apply List.Mem.tail)) f3 (hrow 3 (by decide))) (by rw [hl]; simp) rfl (Nat.le_refl _) (fun u hok hne => ?_))
    refine ⟨(by repeat (first | exact Fewer.nil | refine Fewer.keep rfl ?_ | refine Fewer.drop ?_ | exact Fewer.refl _ | exact Fewer.inl _ _ | (simp only [List.append_nil]; first | exact Fewer.inl _ _ | exact Fewer.refl _))), ?_⟩
    refine D_only 6 rfl (by kernel_rfl) rfl (op_appendBuf (u := u) (xs := [4] ++ l) (ys := r) rfl rfl slc_u8s.1 el_u8 (by repeat (first | exact DelB.tail | exact DelB.no rfl | exact DelB.at_ rfl (by repeat (first | exact Del.here | apply Del.there)) | apply DelB.there)) hok (fun w hm => hm.reads (b := b1) (by repeat (first | exact List.Mem.head _ | apply List.Mem.tail)) f4 (hrow 35 (by decide))) (by rw [l4, hr]; simp) rfl (Nat.le_refl _) (fun u2 hok2 hne2 => ?_))
    refine ⟨(by repeat (first | exact Fewer.nil | refine Fewer.keep rfl ?_ | refine Fewer.drop ?_ | exact Fewer.refl _ | exact Fewer.inl _ _ | (simp only [List.append_nil]; first | exact Fewer.inl _ _ | exact Fewer.refl _))), ?_⟩
    refine D_take 7 rfl (by kernel_rfl) (by kernel_rfl) (by kernel_rfl) (by repeat (first | exact calm_body | exact calm_mid | apply calm_noGoto | exact calm_midE | apply calm_then | apply calm_block)) (p_assign rfl) rfl ?_
    refine D_done (by kernel_rfl) ?_
    exact E_midE u2 hok2 (by repeat (first | exact Sub.nil | refine Sub.cons rfl ?_)) (by exact Fewer.refl _)
  intro u hok
  repeat (first | refine S_scope ?_ | refine S_label ?_ | refine E_noGoto_normal ?_ | refine E_noGoto_ret ?_ | refine E_noGoto_exit ?_ | refine S_yes rfl (by first | with_reducible rfl | decide) ?_ | refine S_no rfl (by first | with_reducible rfl | decide) ?_ | refine S_seq ?_ | refine E_seq ?_ | refine S_block ?_ | refine E_block_normal ?_ | refine S_skip ?_ | refine S_exit ?_ | refine S_ret ?_ | refine E_then_exit ?_ | refine E_then_ret ?_ | refine E_block_ret ?_ | refine E_block_exit ?_ | refine E_block_exit_other rfl ?_)
  refine S_cutE (σ := Buf) (fun x => [(4, x.val ([3] ++ l ++ v)), (3, u.val ([4] ++ l ++ r)), (2, .bool false), (1, .pointer (some ⟨b1, 0, none⟩))]) (fun x => (b1, .cells cs.toArray 34 (0, 0)) :: (u.hp 5 ([4] ++ l ++ r) ++ x.hp 5 ([3] ++ l ++ v))) (fun x => x.ok ([3] ++ l ++ v)) ?_ ?_
  · refine S_drawn (by kernel_rfl) (Fewer.refl _) ?_
    refine D_take 1 rfl (by kernel_rfl) (by kernel_rfl) (by kernel_rfl) (by repeat (first | exact calm_body | exact calm_mid | apply calm_noGoto | exact calm_midE | apply calm_then | apply calm_block)) (by first | exact p_fieldAddr0 rfl fd_Asked_3 | exact p_fieldAddr rfl fd_Asked_3) rfl ?_
    refine D_take 2 rfl (by kernel_rfl) (by kernel_rfl) (by kernel_rfl) (by repeat (first | exact calm_body | exact calm_mid | apply calm_noGoto | exact calm_midE | apply calm_then | apply calm_block)) (p_sliceArr rfl arr_Sum) rfl ?_
    refine D_take 4 rfl (by kernel_rfl) (by kernel_rfl) (by kernel_rfl) (by repeat (first | exact calm_body | exact calm_mid | apply calm_noGoto | exact calm_midE | apply calm_then | apply calm_block)) (by first | exact p_fieldAddr0 rfl fd_Asked_5 | exact p_fieldAddr rfl fd_Asked_5) rfl ?_
    refine D_take 5 rfl (by kernel_rfl) (by kernel_rfl) (by kernel_rfl) (by repeat (first | exact calm_body | exact calm_mid | apply calm_noGoto | exact calm_midE | apply calm_then | apply calm_block)) (by first | exact p_load rfl sc_u8s (by repeat (first | exact List.Mem.head _ | apply List.Mem.tail)) (by first | assumption | exact bytesV_get (by omega) | exact wordsV_get (by omega) | rfl) | exact p_load_base rfl sc_u8s (by assumption) (by simp) (by assumption)) rfl ?_
    refine D_only 0 rfl (by kernel_rfl) rfl (op_buildSliceAll (ps := [(0, .const (.int .u8 3))]) rfl slc_u8s.1 el_u8 (by decide) (by decide) (by first | kernel_rfl | rfl) rfl (Nat.le_refl _) (fun b18 => ?_))
    refine ⟨(by repeat (first | exact Fewer.nil | refine Fewer.keep rfl ?_ | refine Fewer.drop ?_ | exact Fewer.refl _ | exact Fewer.inl _ _ | (simp only [List.append_nil]; first | exact Fewer.inl _ _ | exact Fewer.refl _))), ?_⟩
    refine D_only 3 rfl (by kernel_rfl) rfl (op_appendBuf (u := some (b18, [])) (xs := [3]) (ys := l) (by unfold Buf.val Buf.addr Buf.cap; rfl) rfl slc_u8s.1 el_u8 (by repeat (first | exact DelB.tail | exact DelB.no rfl | exact DelB.at_ rfl (by repeat (first | exact Del.here | apply Del.there)) | apply DelB.there)) (by show _ ≤ maxLen; exact Nat.le_of_ble_eq_true rfl) (fun w hm => hm.reads (b := b1) (by repeat (first | exact List.Mem.head _ | apply List.Mem.tail)) f3 (hrow 3 (by decide))) (by rw [hl]; simp) rfl (Nat.le_refl _) (fun x hokx hnex => ?_))
    refine ⟨(by repeat (first | exact Fewer.nil | refine Fewer.keep rfl ?_ | refine Fewer.drop ?_ | exact Fewer.refl _ | exact Fewer.inl _ _ | (simp only [List.append_nil]; first | exact Fewer.inl _ _ | exact Fewer.refl _))), ?_⟩
    refine D_only 6 rfl (by kernel_rfl) rfl (op_appendBuf (u := x) (xs := [3] ++ l) (ys := v) rfl rfl slc_u8s.1 el_u8 (by exact .there (.right .tail)) hokx (fun w hm => hrd.base hm) hh.2.2.2.1 rfl (Nat.le_refl _) (fun x2 hokx2 hnex2 => ?_))
    refine ⟨(by repeat (first | exact Fewer.nil | refine Fewer.keep rfl ?_ | refine Fewer.drop ?_ | exact Fewer.refl _ | exact Fewer.inl _ _ | (simp only [List.append_nil]; first | exact Fewer.inl _ _ | exact Fewer.refl _))), ?_⟩
    refine D_take 7 rfl (by kernel_rfl) (by kernel_rfl) (by kernel_rfl) (by repeat (first | exact calm_body | exact calm_mid | apply calm_noGoto | exact calm_midE | apply calm_then | apply calm_block)) (p_assign rfl) rfl ?_
    refine D_done (by kernel_rfl) ?_
    exact E_midE x2 hokx2 (by repeat (first | exact Sub.nil | refine Sub.cons rfl ?_)) (by simp only [List.append_nil]; exact Fewer.refl _)
  intro x hokx
  repeat (first | refine S_scope ?_ | refine S_label ?_ | refine E_noGoto_normal ?_ | refine E_noGoto_ret ?_ | refine E_noGoto_exit ?_ | refine S_yes rfl (by first | with_reducible rfl | decide) ?_ | refine S_no rfl (by first | with_reducible rfl | decide) ?_ | refine S_seq ?_ | refine E_seq ?_ | refine S_block ?_ | refine E_block_normal ?_ | refine S_skip ?_ | refine S_exit ?_ | refine S_ret ?_ | refine E_then_exit ?_ | refine E_then_ret ?_ | refine E_block_ret ?_ | refine E_block_exit ?_ | refine E_block_exit_other rfl ?_)
  refine S_cutE (σ := Buf) (fun y => [(5, y.val ([107, 101, 121] ++ digitsB t.toNat 4 ++ [byteZ z])), (4, x.val ([3] ++ l ++ v)), (3, u.val ([4] ++ l ++ r)), (2, .bool false), (1, .pointer (some ⟨b1, 0, none⟩))]) (fun y => (b1, .cells cs.toArray 34 (0, 0)) :: (u.hp 5 ([4] ++ l ++ r) ++ (x.hp 5 ([3] ++ l ++ v) ++ y.hp 5 ([107, 101, 121] ++ digitsB t.toNat 4 ++ [byteZ z])))) (fun y => y.ok ([107, 101, 121] ++ digitsB t.toNat 4 ++ [byteZ z])) ?_ ?_
  · refine S_drawn (by kernel_rfl) (Fewer.refl _) ?_
    refine D_take 2 rfl (by kernel_rfl) (by kernel_rfl) (by kernel_rfl) (by repeat (first | exact calm_body | exact calm_mid | apply calm_noGoto | exact calm_midE | apply calm_then | apply calm_block)) (by first | exact p_fieldAddr0 rfl fd_Asked_0 | exact p_fieldAddr rfl fd_Asked_0) rfl ?_
    refine D_take 3 rfl (by kernel_rfl) (by kernel_rfl) (by kernel_rfl) (by repeat (first | exact calm_body | exact calm_mid | apply calm_noGoto | exact calm_midE | apply calm_then | apply calm_block)) (by first | exact p_load rfl sc_u32 (by repeat (first | exact List.Mem.head _ | apply List.Mem.tail)) (by first | assumption | exact bytesV_get (by omega) | exact wordsV_get (by omega) | rfl) | exact p_load_base rfl sc_u32 (by assumption) (by simp) (by assumption)) rfl ?_
    refine D_take 4 rfl (by kernel_rfl) (by kernel_rfl) (by kernel_rfl) (by repeat (first | exact calm_body | exact calm_mid | apply calm_noGoto | exact calm_midE | apply calm_then | apply calm_block)) (by exact p_convert rfl sc_u32 ik_u64 (by first | assumption | exact u8_nat _ | exact w8_i64 _ | exact w8_u64 _ | exact w8_u32n _ | exact w32_u64 _ | exact w32_i64 _ | exact w_in_i64 (by omega) | exact w_in_u64 (by omega) | exact w_in_u32 (by omega))) rfl ?_
    refine D_take 6 rfl (by kernel_rfl) (by kernel_rfl) (by kernel_rfl) (by repeat (first | exact calm_body | exact calm_mid | apply calm_noGoto | exact calm_midE | apply calm_then | apply calm_block)) (by first | exact p_fieldAddr0 rfl fd_Asked_1 | exact p_fieldAddr rfl fd_Asked_1) rfl ?_
    refine D_take 7 rfl (by kernel_rfl) (by kernel_rfl) (by kernel_rfl) (by repeat (first | exact calm_body | exact calm_mid | apply calm_noGoto | exact calm_midE | apply calm_then | apply calm_block)) (by first | exact p_load rfl sc_int (by repeat (first | exact List.Mem.head _ | apply List.Mem.tail)) (by first | assumption | exact bytesV_get (by omega) | exact wordsV_get (by omega) | rfl) | exact p_load_base rfl sc_int (by assumption) (by simp) (by assumption)) rfl ?_
    refine D_take 8 rfl (by kernel_rfl) (by kernel_rfl) (by kernel_rfl) (by repeat (first | exact calm_body | exact calm_mid | apply calm_noGoto | exact calm_midE | apply calm_then | apply calm_block)) (p_convert rfl sc_int ik_u8 hwz) rfl ?_
    refine D_two 0 9 (by kernel_rfl) ?_ ?_
    · refine step_plain 0 rfl rfl (op_buildSliceAll (ps := [(0, .const (.int .u8 107)), (1, .const (.int .u8 101)), (2, .const (.int .u8 121))]) rfl slc_u8s.1 el_u8 (by decide) (by decide) (by first | kernel_rfl | rfl) rfl (Nat.le_refl _) (fun b25 => ?_))
      refine ⟨(by repeat (first | exact Fewer.nil | refine Fewer.keep rfl ?_ | refine Fewer.drop ?_ | exact Fewer.refl _ | exact Fewer.inl _ _ | (simp only [List.append_nil]; first | exact Fewer.inl _ _ | exact Fewer.refl _))), ?_⟩
      refine D_two 1 9 (by kernel_rfl) ?_ ?_
      · refine step_plain 1 rfl rfl (op_convBytes rfl slc_u8s.1 Try.underlying5 (by repeat (first | exact At.here | apply At.there)) rfl ?_)
        refine ⟨(by repeat (first | exact Fewer.nil | refine Fewer.keep rfl ?_ | refine Fewer.drop ?_ | exact Fewer.refl _ | exact Fewer.inl _ _ | (simp only [List.append_nil]; first | exact Fewer.inl _ _ | exact Fewer.refl _))), ?_⟩
        refine D_two 5 9 (by kernel_rfl) ?_ ?_
        · refine step_plain 5 rfl rfl (op_callBuf (xs := [107, 101, 121] ++ digitsB t.toNat 4) rfl rfl Try.func28 rfl (by kernel_rfl) rfl (Nat.le_refl _) (fun w' hm => putBuf (some ⟨b25, 0, none⟩) 3 3 [107, 101, 121] t.toNat 4 w' rfl (hm.readsAll (b := b25) (by repeat (first | exact List.Mem.head _ | apply List.Mem.tail)) rfl) (by omega) hh.1 (by omega) (by omega)) (fun g sp hok5 => ?_))
          refine ⟨(by repeat (first | exact Fewer.nil | refine Fewer.keep rfl ?_ | refine Fewer.drop ?_ | exact Fewer.refl _ | exact Fewer.inl _ _ | (simp only [List.append_nil]; first | exact Fewer.inl _ _ | exact Fewer.refl _))), ?_⟩
          refine D_only 9 rfl (by kernel_rfl) rfl (op_buildSliceAll (ps := [(0, .tmp 33)]) rfl slc_u8s.1 el_u8 (by decide) (by decide) (by first | kernel_rfl | rfl) rfl (Nat.le_refl _) (fun b34 => ?_))
          refine ⟨(by repeat (first | exact Fewer.nil | refine Fewer.keep rfl ?_ | refine Fewer.drop ?_ | exact Fewer.refl _ | exact Fewer.inl _ _ | (simp only [List.append_nil]; first | exact Fewer.inl _ _ | exact Fewer.refl _))), ?_⟩
          refine D_only 10 rfl (by kernel_rfl) rfl (op_appendBuf (u := some (g, sp)) (xs := [107, 101, 121] ++ digitsB t.toNat 4) (ys := [byteZ z]) rfl rfl slc_u8s.1 el_u8 (by repeat (first | exact DelB.tail | exact DelB.no rfl | exact DelB.at_ rfl (by repeat (first | exact Del.here | apply Del.there)) | apply DelB.there)) hok5 (fun w hm => hm.readsAll (b := b34) (by repeat (first | exact List.Mem.head _ | apply List.Mem.tail)) rfl) (by rw [l5]; simp) rfl (Nat.le_refl _) (fun y hoky hney => ?_))
          refine ⟨(by repeat (first | exact Fewer.nil | refine Fewer.keep rfl ?_ | refine Fewer.drop ?_ | exact Fewer.refl _ | exact Fewer.inl _ _ | (simp only [List.append_nil]; first | exact Fewer.inl _ _ | exact Fewer.refl _))), ?_⟩
          refine D_take 11 rfl (by kernel_rfl) (by kernel_rfl) (by kernel_rfl) (by repeat (first | exact calm_body | exact calm_mid | apply calm_noGoto | exact calm_midE | apply calm_then | apply calm_block)) (p_assign rfl) rfl ?_
          refine D_done (by kernel_rfl) ?_
          exact E_midE y hoky (by repeat (first | exact Sub.nil | refine Sub.cons rfl ?_)) (by first | exact .drop (.keep rfl (Fewer.assoc _ _ _)) | exact .drop (.drop (.keep rfl (Fewer.assoc _ _ _))))
        · refine step_plain 9 rfl rfl (op_buildSliceAll (ps := [(0, .tmp 33)]) rfl slc_u8s.1 el_u8 (by decide) (by decide) (by first | kernel_rfl | rfl) rfl (Nat.le_refl _) (fun b34 => ?_))
          refine ⟨(by repeat (first | exact Fewer.nil | refine Fewer.keep rfl ?_ | refine Fewer.drop ?_ | exact Fewer.refl _ | exact Fewer.inl _ _ | (simp only [List.append_nil]; first | exact Fewer.inl _ _ | exact Fewer.refl _))), ?_⟩
          refine D_only 5 rfl (by kernel_rfl) rfl (op_callBuf (xs := [107, 101, 121] ++ digitsB t.toNat 4) rfl rfl Try.func28 rfl (by kernel_rfl) rfl (Nat.le_refl _) (fun w' hm => putBuf (some ⟨b25, 0, none⟩) 3 3 [107, 101, 121] t.toNat 4 w' rfl (hm.readsAll (b := b25) (by repeat (first | exact List.Mem.head _ | apply List.Mem.tail)) rfl) (by omega) hh.1 (by omega) (by omega)) (fun g sp hok5 => ?_))
          refine ⟨(by repeat (first | exact Fewer.nil | refine Fewer.keep rfl ?_ | refine Fewer.drop ?_ | exact Fewer.refl _ | exact Fewer.inl _ _ | (simp only [List.append_nil]; first | exact Fewer.inl _ _ | exact Fewer.refl _))), ?_⟩
          refine D_only 10 rfl (by kernel_rfl) rfl (op_appendBuf (u := some (g, sp)) (xs := [107, 101, 121] ++ digitsB t.toNat 4) (ys := [byteZ z]) rfl rfl slc_u8s.1 el_u8 (by repeat (first | exact DelB.tail | exact DelB.no rfl | exact DelB.at_ rfl (by repeat (first | exact Del.here | apply Del.there)) | apply DelB.there)) hok5 (fun w hm => hm.readsAll (b := b34) (by repeat (first | exact List.Mem.head _ | apply List.Mem.tail)) rfl) (by rw [l5]; simp) rfl (Nat.le_refl _) (fun y hoky hney => ?_))
          refine ⟨(by repeat (first | exact Fewer.nil | refine Fewer.keep rfl ?_ | refine Fewer.drop ?_ | exact Fewer.refl _ | exact Fewer.inl _ _ | (simp only [List.append_nil]; first | exact Fewer.inl _ _ | exact Fewer.refl _))), ?_⟩
          refine D_take 11 rfl (by kernel_rfl) (by kernel_rfl) (by kernel_rfl) (by repeat (first | exact calm_body | exact calm_mid | apply calm_noGoto | exact calm_midE | apply calm_then | apply calm_block)) (p_assign rfl) rfl ?_
          refine D_done (by kernel_rfl) ?_
          exact E_midE y hoky (by repeat (first | exact Sub.nil | refine Sub.cons rfl ?_)) (by first | exact .drop (.keep rfl (Fewer.assoc _ _ _)) | exact .drop (.drop (.keep rfl (Fewer.assoc _ _ _))))
      · refine step_plain 9 rfl rfl (op_buildSliceAll (ps := [(0, .tmp 33)]) rfl slc_u8s.1 el_u8 (by decide) (by decide) (by first | kernel_rfl | rfl) rfl (Nat.le_refl _) (fun b34 => ?_))
        refine ⟨(by repeat (first | exact Fewer.nil | refine Fewer.keep rfl ?_ | refine Fewer.drop ?_ | exact Fewer.refl _ | exact Fewer.inl _ _ | (simp only [List.append_nil]; first | exact Fewer.inl _ _ | exact Fewer.refl _))), ?_⟩
        refine D_only 1 rfl (by kernel_rfl) rfl (op_convBytes rfl slc_u8s.1 Try.underlying5 (by repeat (first | exact At.here | apply At.there)) rfl ?_)
        refine ⟨(by repeat (first | exact Fewer.nil | refine Fewer.keep rfl ?_ | refine Fewer.drop ?_ | exact Fewer.refl _ | exact Fewer.inl _ _ | (simp only [List.append_nil]; first | exact Fewer.inl _ _ | exact Fewer.refl _))), ?_⟩
        refine D_only 5 rfl (by kernel_rfl) rfl (op_callBuf (xs := [107, 101, 121] ++ digitsB t.toNat 4) rfl rfl Try.func28 rfl (by kernel_rfl) rfl (Nat.le_refl _) (fun w' hm => putBuf (some ⟨b25, 0, none⟩) 3 3 [107, 101, 121] t.toNat 4 w' rfl (hm.readsAll (b := b25) (by repeat (first | exact List.Mem.head _ | apply List.Mem.tail)) rfl) (by omega) hh.1 (by omega) (by omega)) (fun g sp hok5 => ?_))
        refine ⟨(by repeat (first | exact Fewer.nil | refine Fewer.keep rfl ?_ | refine Fewer.drop ?_ | exact Fewer.refl _ | exact Fewer.inl _ _ | (simp only [List.append_nil]; first | exact Fewer.inl _ _ | exact Fewer.refl _))), ?_⟩
        refine D_only 10 rfl (by kernel_rfl) rfl (op_appendBuf (u := some (g, sp)) (xs := [107, 101, 121] ++ digitsB t.toNat 4) (ys := [byteZ z]) rfl rfl slc_u8s.1 el_u8 (by repeat (first | exact DelB.tail | exact DelB.no rfl | exact DelB.at_ rfl (by repeat (first | exact Del.here | apply Del.there)) | apply DelB.there)) hok5 (fun w hm => hm.readsAll (b := b34) (by repeat (first | exact List.Mem.head _ | apply List.Mem.tail)) rfl) (by rw [l5]; simp) rfl (Nat.le_refl _) (fun y hoky hney => ?_))
        refine ⟨(by repeat (first | exact Fewer.nil | refine Fewer.keep rfl ?_ | refine Fewer.drop ?_ | exact Fewer.refl _ | exact Fewer.inl _ _ | (simp only [List.append_nil]; first | exact Fewer.inl _ _ | exact Fewer.refl _))), ?_⟩
        refine D_take 11 rfl (by kernel_rfl) (by kernel_rfl) (by kernel_rfl) (by repeat (first | exact calm_body | exact calm_mid | apply calm_noGoto | exact calm_midE | apply calm_then | apply calm_block)) (p_assign rfl) rfl ?_
        refine D_done (by kernel_rfl) ?_
        exact E_midE y hoky (by repeat (first | exact Sub.nil | refine Sub.cons rfl ?_)) (by first | exact .drop (.keep rfl (Fewer.assoc _ _ _)) | exact .drop (.drop (.keep rfl (Fewer.assoc _ _ _))))
    · refine step_plain 9 rfl rfl (op_buildSliceAll (ps := [(0, .tmp 33)]) rfl slc_u8s.1 el_u8 (by decide) (by decide) (by first | kernel_rfl | rfl) rfl (Nat.le_refl _) (fun b34 => ?_))
      refine ⟨(by repeat (first | exact Fewer.nil | refine Fewer.keep rfl ?_ | refine Fewer.drop ?_ | exact Fewer.refl _ | exact Fewer.inl _ _ | (simp only [List.append_nil]; first | exact Fewer.inl _ _ | exact Fewer.refl _))), ?_⟩
      refine D_only 0 rfl (by kernel_rfl) rfl (op_buildSliceAll (ps := [(0, .const (.int .u8 107)), (1, .const (.int .u8 101)), (2, .const (.int .u8 121))]) rfl slc_u8s.1 el_u8 (by decide) (by decide) (by first | kernel_rfl | rfl) rfl (Nat.le_refl _) (fun b25 => ?_))
      refine ⟨(by repeat (first | exact Fewer.nil | refine Fewer.keep rfl ?_ | refine Fewer.drop ?_ | exact Fewer.refl _ | exact Fewer.inl _ _ | (simp only [List.append_nil]; first | exact Fewer.inl _ _ | exact Fewer.refl _))), ?_⟩
      refine D_only 1 rfl (by kernel_rfl) rfl (op_convBytes rfl slc_u8s.1 Try.underlying5 (by repeat (first | exact At.here | apply At.there)) rfl ?_)
      refine ⟨(by repeat (first | exact Fewer.nil | refine Fewer.keep rfl ?_ | refine Fewer.drop ?_ | exact Fewer.refl _ | exact Fewer.inl _ _ | (simp only [List.append_nil]; first | exact Fewer.inl _ _ | exact Fewer.refl _))), ?_⟩
      refine D_only 5 rfl (by kernel_rfl) rfl (op_callBuf (xs := [107, 101, 121] ++ digitsB t.toNat 4) rfl rfl Try.func28 rfl (by kernel_rfl) rfl (Nat.le_refl _) (fun w' hm => putBuf (some ⟨b25, 0, none⟩) 3 3 [107, 101, 121] t.toNat 4 w' rfl (hm.readsAll (b := b25) (by repeat (first | exact List.Mem.head _ | apply List.Mem.tail)) rfl) (by omega) hh.1 (by omega) (by omega)) (fun g sp hok5 => ?_))
      refine ⟨(by repeat (first | exact Fewer.nil | refine Fewer.keep rfl ?_ | refine Fewer.drop ?_ | exact Fewer.refl _ | exact Fewer.inl _ _ | (simp only [List.append_nil]; first | exact Fewer.inl _ _ | exact Fewer.refl _))), ?_⟩
      refine D_only 10 rfl (by kernel_rfl) rfl (op_appendBuf (u := some (g, sp)) (xs := [107, 101, 121] ++ digitsB t.toNat 4) (ys := [byteZ z]) rfl rfl slc_u8s.1 el_u8 (by repeat (first | exact DelB.tail | exact DelB.no rfl | exact DelB.at_ rfl (by repeat (first | exact Del.here | apply Del.there)) | apply DelB.there)) hok5 (fun w hm => hm.readsAll (b := b34) (by repeat (first | exact List.Mem.head _ | apply List.Mem.tail)) rfl) (by rw [l5]; simp) rfl (Nat.le_refl _) (fun y hoky hney => ?_))
      refine ⟨(by repeat (first | exact Fewer.nil | refine Fewer.keep rfl ?_ | refine Fewer.drop ?_ | exact Fewer.refl _ | exact Fewer.inl _ _ | (simp only [List.append_nil]; first | exact Fewer.inl _ _ | exact Fewer.refl _))), ?_⟩
      refine D_take 11 rfl (by kernel_rfl) (by kernel_rfl) (by kernel_rfl) (by repeat (first | exact calm_body | exact calm_mid | apply calm_noGoto | exact calm_midE | apply calm_then | apply calm_block)) (p_assign rfl) rfl ?_
      refine D_done (by kernel_rfl) ?_
      exact E_midE y hoky (by repeat (first | exact Sub.nil | refine Sub.cons rfl ?_)) (by first | exact .drop (.keep rfl (Fewer.assoc _ _ _)) | exact .drop (.drop (.keep rfl (Fewer.assoc _ _ _))))
  intro y hoky
  repeat (first | refine S_scope ?_ | refine S_label ?_ | refine E_noGoto_normal ?_ | refine E_noGoto_ret ?_ | refine E_noGoto_exit ?_ | refine S_yes rfl (by first | with_reducible rfl | decide) ?_ | refine S_no rfl (by first | with_reducible rfl | decide) ?_ | refine S_seq ?_ | refine E_seq ?_ | refine S_block ?_ | refine E_block_normal ?_ | refine S_skip ?_ | refine S_exit ?_ | refine S_ret ?_ | refine E_then_exit ?_ | refine E_then_ret ?_ | refine E_block_ret ?_ | refine E_block_exit ?_ | refine E_block_exit_other rfl ?_)
  by_cases hv : v = []
  · have hv0 : (((v.length : Nat) : Int) == 0) = true := by rw [hv]; rfl
    refine S_region ?_
    refine R_cons rfl (op_callV rfl rfl Try.func16 rfl (by kernel_rfl) rfl (Nat.le_refl _) (fun w' _ => alive14 w') ?_)
    refine R_cons rfl (op_pure (p_move rfl) rfl ?_)
    first | refine R_pass rfl rfl rfl rfl ?_ | refine R_pass_undef rfl rfl rfl ?_ | refine R_guard rfl rfl rfl (op_pure (by first | exact p_fieldAddr0 rfl fd_Asked_3 | exact p_fieldAddr rfl fd_Asked_3) rfl ?_)
    first | refine R_pass rfl rfl rfl rfl ?_ | refine R_pass_undef rfl rfl rfl ?_ | refine R_guard rfl rfl rfl (op_pure (p_loadPart rfl row_Sum (by repeat (first | exact List.Mem.head _ | apply List.Mem.tail)) (hrow 3 (by decide)) f3) rfl ?_)
    first | refine R_pass rfl rfl rfl rfl ?_ | refine R_pass_undef rfl rfl rfl ?_ | refine R_guard rfl rfl rfl (op_pure (by first | exact p_fieldAddr0 rfl fd_Asked_4 | exact p_fieldAddr rfl fd_Asked_4) rfl ?_)
    first | refine R_pass rfl rfl rfl rfl ?_ | refine R_pass_undef rfl rfl rfl ?_ | refine R_guard rfl rfl rfl (op_pure (p_loadPart rfl row_Sum (by repeat (first | exact List.Mem.head _ | apply List.Mem.tail)) (hrow 35 (by decide)) f4) rfl ?_)
    first | refine R_pass rfl rfl rfl rfl ?_ | refine R_pass_undef rfl rfl rfl ?_ | refine R_guard rfl rfl rfl (op_callV rfl rfl Try.func18 rfl (by kernel_rfl) rfl (Nat.le_refl _) (fun w' _ => side_any l r hl hr w') ?_)
    first | refine R_pass rfl rfl rfl rfl ?_ | refine R_pass_undef rfl rfl rfl ?_ | refine R_guard rfl rfl rfl (op_pure (p_move rfl) rfl ?_)
    first | refine R_pass rfl rfl rfl rfl ?_ | refine R_pass_undef rfl rfl rfl ?_ | refine R_guard rfl rfl rfl (op_callV rfl rfl Try.func29 rfl (by kernel_rfl) rfl (Nat.le_refl _) (fun w' hm => of_any _ _ _ ([4] ++ l ++ r) w' rfl (hm.readsBuf (u := u) (e := 5) (by exact .there .mid) hok) (Buf.len_cap hok) (Buf.cap_max hok) (by rw [l4']; omega)) ?_)
    first | refine R_pass rfl rfl rfl rfl ?_ | refine R_pass_undef rfl rfl rfl ?_ | refine R_guard rfl rfl rfl (op_pure (p_eql_bytesR rfl rfl arr_Sum.1 Try.underlying5 (by kernel_rfl) (by kernel_rfl) e4 s1 (side_eq l r)) rfl ?_)
    refine R_cons rfl (op_pure (by first | exact p_pick_yes rfl rfl | exact p_pick_no rfl rfl | exact p_pick rfl rfl rfl) rfl ?_)
    refine R_cons rfl (op_pure (p_move rfl) rfl ?_)
    first | refine R_pass rfl rfl rfl rfl ?_ | refine R_pass_undef rfl rfl rfl ?_ | refine R_guard rfl rfl rfl (op_pure (by first | exact p_fieldAddr0 rfl fd_Asked_5 | exact p_fieldAddr rfl fd_Asked_5) rfl ?_)
    first | refine R_pass rfl rfl rfl rfl ?_ | refine R_pass_undef rfl rfl rfl ?_ | refine R_guard rfl rfl rfl (op_pure (by first | exact p_load rfl sc_u8s (by repeat (first | exact List.Mem.head _ | apply List.Mem.tail)) (by first | assumption | exact bytesV_get (by omega) | exact wordsV_get (by omega) | rfl) | exact p_load_base rfl sc_u8s (by assumption) (by simp) (by assumption)) rfl ?_)
    first | refine R_pass rfl rfl rfl rfl ?_ | refine R_pass_undef rfl rfl rfl ?_ | refine R_guard rfl rfl rfl (op_pure (p_len rfl slc_u8s) rfl ?_)
    first | refine R_pass rfl rfl rfl rfl ?_ | refine R_pass_undef rfl rfl rfl ?_ | refine R_guard rfl rfl rfl (op_pure (p_bin rfl rfl (b_eql hv0)) rfl ?_)
    first | refine R_pass rfl rfl rfl rfl ?_ | refine R_pass_undef rfl rfl rfl ?_ | refine R_guard rfl rfl rfl (op_pure (p_move rfl) rfl ?_)
    first | refine R_pass rfl rfl rfl rfl ?_ | refine R_pass_undef rfl rfl rfl ?_ | refine R_guard rfl rfl rfl (op_pure (by first | exact p_fieldAddr0 rfl fd_Asked_3 | exact p_fieldAddr rfl fd_Asked_3) rfl ?_)
    first | refine R_pass rfl rfl rfl rfl ?_ | refine R_pass_undef rfl rfl rfl ?_ | refine R_guard rfl rfl rfl (op_pure (p_loadPart rfl row_Sum (by repeat (first | exact List.Mem.head _ | apply List.Mem.tail)) (hrow 3 (by decide)) f3) rfl ?_)
    first | refine R_pass rfl rfl rfl rfl ?_ | refine R_pass_undef rfl rfl rfl ?_ | refine R_guard rfl rfl rfl (op_pure (by first | exact p_fieldAddr0 rfl fd_Asked_5 | exact p_fieldAddr rfl fd_Asked_5) rfl ?_)
    first | refine R_pass rfl rfl rfl rfl ?_ | refine R_pass_undef rfl rfl rfl ?_ | refine R_guard rfl rfl rfl (op_pure (by first | exact p_load rfl sc_u8s (by repeat (first | exact List.Mem.head _ | apply List.Mem.tail)) (by first | assumption | exact bytesV_get (by omega) | exact wordsV_get (by omega) | rfl) | exact p_load_base rfl sc_u8s (by assumption) (by simp) (by assumption)) rfl ?_)
    first | refine R_pass rfl rfl rfl rfl ?_ | refine R_pass_undef rfl rfl rfl ?_ | refine R_guard rfl rfl rfl (op_callV rfl rfl Try.func24 rfl (by kernel_rfl) rfl (Nat.le_refl _) (fun w' hm => value_any l hl A _ c v w' rfl (hrd.base hm) hnc hcm hh.2.2.1) ?_)
    first | refine R_pass rfl rfl rfl rfl ?_ | refine R_pass_undef rfl rfl rfl ?_ | refine R_guard rfl rfl rfl (op_pure (p_move rfl) rfl ?_)
    first | refine R_pass rfl rfl rfl rfl ?_ | refine R_pass_undef rfl rfl rfl ?_ | refine R_guard rfl rfl rfl (op_callV rfl rfl Try.func29 rfl (by kernel_rfl) rfl (Nat.le_refl _) (fun w' hm => of_any _ _ _ ([3] ++ l ++ v) w' rfl (hm.readsBuf (u := x) (e := 5) (by exact .there (.right .mid)) hokx) (Buf.len_cap hokx) (Buf.cap_max hokx) hh.2.2.2.2) ?_)
    first | refine R_pass rfl rfl rfl rfl ?_ | refine R_pass_undef rfl rfl rfl ?_ | refine R_guard rfl rfl rfl (op_pure (by exact p_eql_bytesR rfl rfl arr_Sum.1 Try.underlying5 (by kernel_rfl) (by kernel_rfl) (by first | assumption | exact Sha.sha_length _ | exact Sha.hmac_length _ _ | rfl) (by first | assumption | exact Sha.sha_length _ | exact Sha.hmac_length _ _ | rfl) (by first | assumption | exact beq_self_eq_true _ | rfl)) rfl ?_)
    first | refine R_pass rfl rfl rfl rfl ?_ | refine R_pass_undef rfl rfl rfl ?_ | refine R_guard rfl rfl rfl (op_pure (by first | exact p_pick_yes rfl rfl | exact p_pick_no rfl rfl | exact p_pick rfl rfl rfl) rfl ?_)
    refine R_cons rfl (op_pure (by first | exact p_pick_yes rfl rfl | exact p_pick_no rfl rfl | exact p_pick rfl rfl rfl) rfl ?_)
    refine R_cons rfl (op_pure (p_move rfl) rfl ?_)
    first | refine R_pass rfl rfl rfl rfl ?_ | refine R_pass_undef rfl rfl rfl ?_ | refine R_guard rfl rfl rfl (op_pure (by first | exact p_fieldAddr0 rfl fd_Asked_0 | exact p_fieldAddr rfl fd_Asked_0) rfl ?_)
    first | refine R_pass rfl rfl rfl rfl ?_ | refine R_pass_undef rfl rfl rfl ?_ | refine R_guard rfl rfl rfl (op_pure (by first | exact p_load rfl sc_u32 (by repeat (first | exact List.Mem.head _ | apply List.Mem.tail)) (by first | assumption | exact bytesV_get (by omega) | exact wordsV_get (by omega) | rfl) | exact p_load_base rfl sc_u32 (by assumption) (by simp) (by assumption)) rfl ?_)
    first | refine R_pass rfl rfl rfl rfl ?_ | refine R_pass_undef rfl rfl rfl ?_ | refine R_guard rfl rfl rfl (op_pure (by first | exact p_fieldAddr0 rfl fd_Asked_1 | exact p_fieldAddr rfl fd_Asked_1) rfl ?_)
    first | refine R_pass rfl rfl rfl rfl ?_ | refine R_pass_undef rfl rfl rfl ?_ | refine R_guard rfl rfl rfl (op_pure (by first | exact p_load rfl sc_int (by repeat (first | exact List.Mem.head _ | apply List.Mem.tail)) (by first | assumption | exact bytesV_get (by omega) | exact wordsV_get (by omega) | rfl) | exact p_load_base rfl sc_int (by assumption) (by simp) (by assumption)) rfl ?_)
    first | refine R_pass rfl rfl rfl rfl ?_ | refine R_pass_undef rfl rfl rfl ?_ | refine R_guard rfl rfl rfl (op_callV rfl rfl Try.func20 rfl (by kernel_rfl) rfl (Nat.le_refl _) (fun w' _ => keyOf_any t z w') ?_)
    first | refine R_pass rfl rfl rfl rfl ?_ | refine R_pass_undef rfl rfl rfl ?_ | refine R_guard rfl rfl rfl (op_pure (p_move rfl) rfl ?_)
    first | refine R_pass rfl rfl rfl rfl ?_ | refine R_pass_undef rfl rfl rfl ?_ | refine R_guard rfl rfl rfl (op_callV rfl rfl Try.func29 rfl (by kernel_rfl) rfl (Nat.le_refl _) (fun w' hm => of_any _ _ _ ([107, 101, 121] ++ digitsB t.toNat 4 ++ [byteZ z]) w' rfl (hm.readsBuf (u := y) (e := 5) (by exact .there (.right (.right .tail))) hoky) (Buf.len_cap hoky) (Buf.cap_max hoky) (by rw [l6]; omega)) ?_)
    first | refine R_pass rfl rfl rfl rfl ?_ | refine R_pass_undef rfl rfl rfl ?_ | refine R_guard rfl rfl rfl (op_pure (p_eql_bytesR rfl rfl arr_Sum.1 Try.underlying5 (by kernel_rfl) (by kernel_rfl) e1 s3 (key_eq t.toNat z)) rfl ?_)
    refine R_cons rfl (op_pure (by first | exact p_pick_yes rfl rfl | exact p_pick_no rfl rfl | exact p_pick rfl rfl rfl) rfl ?_)
    refine R_cons rfl (op_pure (p_assign rfl) rfl ?_)
    refine R_nil ?_
    repeat (first | refine S_scope ?_ | refine S_label ?_ | refine E_noGoto_normal ?_ | refine E_noGoto_ret ?_ | refine E_noGoto_exit ?_ | refine S_yes rfl (by first | with_reducible rfl | decide) ?_ | refine S_no rfl (by first | with_reducible rfl | decide) ?_ | refine S_seq ?_ | refine E_seq ?_ | refine S_block ?_ | refine E_block_normal ?_ | refine S_skip ?_ | refine S_exit ?_ | refine S_ret ?_ | refine E_then_exit ?_ | refine E_then_ret ?_ | refine E_block_ret ?_ | refine E_block_exit ?_ | refine E_block_exit_other rfl ?_)
    exact E_ret1 rfl rfl fun w' hm => ⟨rfl, hm.below⟩
  · have hv1 : 0 < v.length := List.length_pos_iff.2 hv
    have hv0 : (((v.length : Nat) : Int) == 0) = false := beq_eq_false_iff_ne.2 (by omega)
    refine S_region ?_
    refine R_cons rfl (op_callV rfl rfl Try.func16 rfl (by kernel_rfl) rfl (Nat.le_refl _) (fun w' _ => alive14 w') ?_)
    refine R_cons rfl (op_pure (p_move rfl) rfl ?_)
    first | refine R_pass rfl rfl rfl rfl ?_ | refine R_pass_undef rfl rfl rfl ?_ | refine R_guard rfl rfl rfl (op_pure (by first | exact p_fieldAddr0 rfl fd_Asked_3 | exact p_fieldAddr rfl fd_Asked_3) rfl ?_)
    first | refine R_pass rfl rfl rfl rfl ?_ | refine R_pass_undef rfl rfl rfl ?_ | refine R_guard rfl rfl rfl (op_pure (p_loadPart rfl row_Sum (by repeat (first | exact List.Mem.head _ | apply List.Mem.tail)) (hrow 3 (by decide)) f3) rfl ?_)
    first | refine R_pass rfl rfl rfl rfl ?_ | refine R_pass_undef rfl rfl rfl ?_ | refine R_guard rfl rfl rfl (op_pure (by first | exact p_fieldAddr0 rfl fd_Asked_4 | exact p_fieldAddr rfl fd_Asked_4) rfl ?_)
    first | refine R_pass rfl rfl rfl rfl ?_ | refine R_pass_undef rfl rfl rfl ?_ | refine R_guard rfl rfl rfl (op_pure (p_loadPart rfl row_Sum (by repeat (first | exact List.Mem.head _ | apply List.Mem.tail)) (hrow 35 (by decide)) f4) rfl ?_)
    first | refine R_pass rfl rfl rfl rfl ?_ | refine R_pass_undef rfl rfl rfl ?_ | refine R_guard rfl rfl rfl (op_callV rfl rfl Try.func18 rfl (by kernel_rfl) rfl (Nat.le_refl _) (fun w' _ => side_any l r hl hr w') ?_)
    first | refine R_pass rfl rfl rfl rfl ?_ | refine R_pass_undef rfl rfl rfl ?_ | refine R_guard rfl rfl rfl (op_pure (p_move rfl) rfl ?_)
    first | refine R_pass rfl rfl rfl rfl ?_ | refine R_pass_undef rfl rfl rfl ?_ | refine R_guard rfl rfl rfl (op_callV rfl rfl Try.func29 rfl (by kernel_rfl) rfl (Nat.le_refl _) (fun w' hm => of_any _ _ _ ([4] ++ l ++ r) w' rfl (hm.readsBuf (u := u) (e := 5) (by exact .there .mid) hok) (Buf.len_cap hok) (Buf.cap_max hok) (by rw [l4']; omega)) ?_)
    first | refine R_pass rfl rfl rfl rfl ?_ | refine R_pass_undef rfl rfl rfl ?_ | refine R_guard rfl rfl rfl (op_pure (p_eql_bytesR rfl rfl arr_Sum.1 Try.underlying5 (by kernel_rfl) (by kernel_rfl) e4 s1 (side_eq l r)) rfl ?_)
    refine R_cons rfl (op_pure (by first | exact p_pick_yes rfl rfl | exact p_pick_no rfl rfl | exact p_pick rfl rfl rfl) rfl ?_)
    refine R_cons rfl (op_pure (p_move rfl) rfl ?_)
    first | refine R_pass rfl rfl rfl rfl ?_ | refine R_pass_undef rfl rfl rfl ?_ | refine R_guard rfl rfl rfl (op_pure (by first | exact p_fieldAddr0 rfl fd_Asked_5 | exact p_fieldAddr rfl fd_Asked_5) rfl ?_)
    first | refine R_pass rfl rfl rfl rfl ?_ | refine R_pass_undef rfl rfl rfl ?_ | refine R_guard rfl rfl rfl (op_pure (by first | exact p_load rfl sc_u8s (by repeat (first | exact List.Mem.head _ | apply List.Mem.tail)) (by first | assumption | exact bytesV_get (by omega) | exact wordsV_get (by omega) | rfl) | exact p_load_base rfl sc_u8s (by assumption) (by simp) (by assumption)) rfl ?_)
    first | refine R_pass rfl rfl rfl rfl ?_ | refine R_pass_undef rfl rfl rfl ?_ | refine R_guard rfl rfl rfl (op_pure (p_len rfl slc_u8s) rfl ?_)
    first | refine R_pass rfl rfl rfl rfl ?_ | refine R_pass_undef rfl rfl rfl ?_ | refine R_guard rfl rfl rfl (op_pure (p_bin rfl rfl (b_eql hv0)) rfl ?_)
    first | refine R_pass rfl rfl rfl rfl ?_ | refine R_pass_undef rfl rfl rfl ?_ | refine R_guard rfl rfl rfl (op_pure (p_move rfl) rfl ?_)
    first | refine R_pass rfl rfl rfl rfl ?_ | refine R_pass_undef rfl rfl rfl ?_ | refine R_guard rfl rfl rfl (op_pure (by first | exact p_fieldAddr0 rfl fd_Asked_3 | exact p_fieldAddr rfl fd_Asked_3) rfl ?_)
    first | refine R_pass rfl rfl rfl rfl ?_ | refine R_pass_undef rfl rfl rfl ?_ | refine R_guard rfl rfl rfl (op_pure (p_loadPart rfl row_Sum (by repeat (first | exact List.Mem.head _ | apply List.Mem.tail)) (hrow 3 (by decide)) f3) rfl ?_)
    first | refine R_pass rfl rfl rfl rfl ?_ | refine R_pass_undef rfl rfl rfl ?_ | refine R_guard rfl rfl rfl (op_pure (by first | exact p_fieldAddr0 rfl fd_Asked_5 | exact p_fieldAddr rfl fd_Asked_5) rfl ?_)
    first | refine R_pass rfl rfl rfl rfl ?_ | refine R_pass_undef rfl rfl rfl ?_ | refine R_guard rfl rfl rfl (op_pure (by first | exact p_load rfl sc_u8s (by repeat (first | exact List.Mem.head _ | apply List.Mem.tail)) (by first | assumption | exact bytesV_get (by omega) | exact wordsV_get (by omega) | rfl) | exact p_load_base rfl sc_u8s (by assumption) (by simp) (by assumption)) rfl ?_)
    first | refine R_pass rfl rfl rfl rfl ?_ | refine R_pass_undef rfl rfl rfl ?_ | refine R_guard rfl rfl rfl (op_callV rfl rfl Try.func24 rfl (by kernel_rfl) rfl (Nat.le_refl _) (fun w' hm => value_any l hl A _ c v w' rfl (hrd.base hm) hnc hcm hh.2.2.1) ?_)
    first | refine R_pass rfl rfl rfl rfl ?_ | refine R_pass_undef rfl rfl rfl ?_ | refine R_guard rfl rfl rfl (op_pure (p_move rfl) rfl ?_)
    first | refine R_pass rfl rfl rfl rfl ?_ | refine R_pass_undef rfl rfl rfl ?_ | refine R_guard rfl rfl rfl (op_callV rfl rfl Try.func29 rfl (by kernel_rfl) rfl (Nat.le_refl _) (fun w' hm => of_any _ _ _ ([3] ++ l ++ v) w' rfl (hm.readsBuf (u := x) (e := 5) (by exact .there (.right .mid)) hokx) (Buf.len_cap hokx) (Buf.cap_max hokx) hh.2.2.2.2) ?_)
    first | refine R_pass rfl rfl rfl rfl ?_ | refine R_pass_undef rfl rfl rfl ?_ | refine R_guard rfl rfl rfl (op_pure (p_eql_bytesR rfl rfl arr_Sum.1 Try.underlying5 (by kernel_rfl) (by kernel_rfl) e3 s2 (value_eq l v hv)) rfl ?_)
    first | refine R_pass rfl rfl rfl rfl ?_ | refine R_pass_undef rfl rfl rfl ?_ | refine R_guard rfl rfl rfl (op_pure (by first | exact p_pick_yes rfl rfl | exact p_pick_no rfl rfl | exact p_pick rfl rfl rfl) rfl ?_)
    refine R_cons rfl (op_pure (by first | exact p_pick_yes rfl rfl | exact p_pick_no rfl rfl | exact p_pick rfl rfl rfl) rfl ?_)
    refine R_cons rfl (op_pure (p_move rfl) rfl ?_)
    first | refine R_pass rfl rfl rfl rfl ?_ | refine R_pass_undef rfl rfl rfl ?_ | refine R_guard rfl rfl rfl (op_pure (by first | exact p_fieldAddr0 rfl fd_Asked_0 | exact p_fieldAddr rfl fd_Asked_0) rfl ?_)
    first | refine R_pass rfl rfl rfl rfl ?_ | refine R_pass_undef rfl rfl rfl ?_ | refine R_guard rfl rfl rfl (op_pure (by first | exact p_load rfl sc_u32 (by repeat (first | exact List.Mem.head _ | apply List.Mem.tail)) (by first | assumption | exact bytesV_get (by omega) | exact wordsV_get (by omega) | rfl) | exact p_load_base rfl sc_u32 (by assumption) (by simp) (by assumption)) rfl ?_)
    first | refine R_pass rfl rfl rfl rfl ?_ | refine R_pass_undef rfl rfl rfl ?_ | refine R_guard rfl rfl rfl (op_pure (by first | exact p_fieldAddr0 rfl fd_Asked_1 | exact p_fieldAddr rfl fd_Asked_1) rfl ?_)
    first | refine R_pass rfl rfl rfl rfl ?_ | refine R_pass_undef rfl rfl rfl ?_ | refine R_guard rfl rfl rfl (op_pure (by first | exact p_load rfl sc_int (by repeat (first | exact List.Mem.head _ | apply List.Mem.tail)) (by first | assumption | exact bytesV_get (by omega) | exact wordsV_get (by omega) | rfl) | exact p_load_base rfl sc_int (by assumption) (by simp) (by assumption)) rfl ?_)
    first | refine R_pass rfl rfl rfl rfl ?_ | refine R_pass_undef rfl rfl rfl ?_ | refine R_guard rfl rfl rfl (op_callV rfl rfl Try.func20 rfl (by kernel_rfl) rfl (Nat.le_refl _) (fun w' _ => keyOf_any t z w') ?_)
    first | refine R_pass rfl rfl rfl rfl ?_ | refine R_pass_undef rfl rfl rfl ?_ | refine R_guard rfl rfl rfl (op_pure (p_move rfl) rfl ?_)
    first | refine R_pass rfl rfl rfl rfl ?_ | refine R_pass_undef rfl rfl rfl ?_ | refine R_guard rfl rfl rfl (op_callV rfl rfl Try.func29 rfl (by kernel_rfl) rfl (Nat.le_refl _) (fun w' hm => of_any _ _ _ ([107, 101, 121] ++ digitsB t.toNat 4 ++ [byteZ z]) w' rfl (hm.readsBuf (u := y) (e := 5) (by exact .there (.right (.right .tail))) hoky) (Buf.len_cap hoky) (Buf.cap_max hoky) (by rw [l6]; omega)) ?_)
    first | refine R_pass rfl rfl rfl rfl ?_ | refine R_pass_undef rfl rfl rfl ?_ | refine R_guard rfl rfl rfl (op_pure (p_eql_bytesR rfl rfl arr_Sum.1 Try.underlying5 (by kernel_rfl) (by kernel_rfl) e1 s3 (key_eq t.toNat z)) rfl ?_)
    refine R_cons rfl (op_pure (by first | exact p_pick_yes rfl rfl | exact p_pick_no rfl rfl | exact p_pick rfl rfl rfl) rfl ?_)
    refine R_cons rfl (op_pure (p_assign rfl) rfl ?_)
    refine R_nil ?_
    repeat (first | refine S_scope ?_ | refine S_label ?_ | refine E_noGoto_normal ?_ | refine E_noGoto_ret ?_ | refine E_noGoto_exit ?_ | refine S_yes rfl (by first | with_reducible rfl | decide) ?_ | refine S_no rfl (by first | with_reducible rfl | decide) ?_ | refine S_seq ?_ | refine E_seq ?_ | refine S_block ?_ | refine E_block_normal ?_ | refine S_skip ?_ | refine S_exit ?_ | refine S_ret ?_ | refine E_then_exit ?_ | refine E_then_ret ?_ | refine E_block_ret ?_ | refine E_block_exit ?_ | refine E_block_exit_other rfl ?_)
    exact E_ret1 rfl rfl fun w' hm => ⟨rfl, hm.below⟩

end
theorem own : ownKnob Try.prog.godebug = none := by kernel_rfl
theorem laidOut : laidOutB Try.prog = true := by kernel_rfl
set_option maxRecDepth 100000 in
theorem lifted (os : Os) (started : os.Started) (H : Type) (enc : TypeId × Value → H) :
    ReturnsInHanded {} Try.checked os 6 .any (Rows.keysSumsSpec.pre6 enc Try.prog Try.f6 Rows.keysSumsRow.domain false) (Rows.keysSumsSpec.post enc Try.prog Try.f6 false true false false) := by
  refine returnsInHanded_of_change (C := Try.checked) own started (by kernel_rfl) Try.func6
    (ChangeSpec.witness6 (enc := enc) (C := Try.checked) false ⟨#[], #[.agg (([Value.int .u32 0] ++ ([Value.int .i64 0] ++ ([Value.int .i64 0] ++ (bytesV (List.replicate 32 0) ++ (bytesV (List.replicate 32 0) ++ ([Value.slice none 0 0]))))))).toArray], []⟩ 8 (by kernel_rfl) (by kernel_rfl) (by kernel_rfl) (by kernel_rfl)) ?_
  intro W base args ds gs before hval0 hW hcnd _
  have hval : ∀ (j : Nat) t v, Try.f6.params[j]? = some t → args[j]? = some v → Value.okWide Try.prog W .any base t v := hval0
  have hW' := hW
  obtain ⟨p, q, hA0, hV, rfl, hfz, hnd⟩ := hW
  have hA : DataW.TrodAll enc Try.prog W 0 (fun _ => true) true Try.f6.params.toList args.toList ds p := hA0
  rw [Try.params6] at hA hval
  obtain ⟨v0, vs0, d0, ds0, p0, q0, hargs, rfl, rfl, h0, r0⟩ := trodAll_cons hA
  obtain ⟨rfl, rfl, rfl⟩ := trodAll_nil r0
  obtain rfl : args = #[v0] := by cases args; simp_all
  obtain ⟨rfl, rfl⟩ := trodVars_none hV
  have k0 := h0
  have lt0 : ∀ x ∈ p0, x.block < W.heap.size := by obtain ⟨m, hm⟩ := k0; exact DataW.trod_lt m _ _ _ hm
  obtain ⟨⟨cs0⟩, rfl, _⟩ := okWide_struct Try.underlying34 (hval 0 34 v0 rfl rfl)
  have q0 := k0
  obtain ⟨fu0, g0⟩ := q0
  obtain ⟨ys0, m0, _, _, hl0, hy0, hg0⟩ := DataW.trod_struct Try.underlying34 g0
  obtain ⟨x0_0, r0_0⟩ := fld (i := 0) (o := 0) (s := 1) (ty := 31) hg0 hy0 rfl rfl rfl (by kernel_rfl)
  obtain ⟨a0_0, e0_0⟩ := open_u32 Try.underlying31 r0_0
  obtain ⟨x0_1, r0_1⟩ := fld (i := 1) (o := 1) (s := 1) (ty := 3) hg0 hy0 rfl rfl rfl (by kernel_rfl)
  obtain ⟨a0_1, e0_1, lo0_1, hi0_1⟩ := open_i64 Try.underlying3 r0_1
  obtain ⟨x0_2, r0_2⟩ := fld (i := 2) (o := 2) (s := 1) (ty := 3) hg0 hy0 rfl rfl rfl (by kernel_rfl)
  obtain ⟨a0_2, e0_2, lo0_2, hi0_2⟩ := open_i64 Try.underlying3 r0_2
  obtain ⟨x0_3, r0_3⟩ := fld (i := 3) (o := 3) (s := 32) (ty := 23) hg0 hy0 rfl rfl rfl (by kernel_rfl)
  obtain ⟨a0_3, e0_3, l0_3⟩ := open_sum Try.underlying23 Try.underlying5 (by kernel_rfl) (by kernel_rfl) r0_3
  obtain ⟨x0_4, r0_4⟩ := fld (i := 4) (o := 35) (s := 32) (ty := 23) hg0 hy0 rfl rfl rfl (by kernel_rfl)
  obtain ⟨a0_4, e0_4, l0_4⟩ := open_sum Try.underlying23 Try.underlying5 (by kernel_rfl) (by kernel_rfl) r0_4
  obtain ⟨x0_5, r0_5⟩ := fld (i := 5) (o := 67) (s := 1) (ty := 32) hg0 hy0 rfl rfl rfl (by kernel_rfl)
  obtain ⟨A0_5, c0_5, a0_5, e0_5, rd0_5, lc0_5, cm0_5⟩ := open_bytes Try.underlying32 Try.underlying5 (by kernel_rfl) r0_5
  have e0 := part_all (part_cons e0_0 (part_cons e0_1 (part_cons e0_2 (part_cons e0_3 (part_cons e0_4 (part_last e0_5 (by rw [hl0]; kernel_rfl)))))))
  simp only [Value.cells] at e0
  subst e0
  clear hA0 hval0
  refine (walk W a0_0 a0_1 lo0_1 hi0_1 a0_2 lo0_2 hi0_2 a0_3 l0_3 a0_4 l0_4 A0_5 c0_5 a0_5 rd0_5 lc0_5 cm0_5).mono fun e W' ⟨he, bel⟩ => ?_
  subst he
  exact ⟨_, rfl, _, _, _, [], _, [], hW', trodAll_mk1 (shut_bool Try.underlying4 _), (trodAll_cons_mk (Below.trod laidOut (by kernel_rfl) (of_decide_eq_true (by kernel_rfl)) k0 bel lt0) trodAll_mk0), rfl, bel.frame _, fun h => by cases h⟩
/-- The statement. -/
theorem proved : Rows.KeysSumsSaid :=
  OpenClaim.holds_of_wide 6 Try.f6 rfl rfl rfl rfl rfl rfl rfl ⟨rfl, rfl, rfl, rfl, rfl⟩ rfl rfl rfl rfl rfl (by kernel_rfl) Try.func6 (by kernel_rfl)
    (of_decide_eq_true (by kernel_rfl)) (by unfold Func.isWrapper; first | (rw [if_pos (by decide +kernel)]; kernel_rfl) | (rw [if_neg (by decide +kernel)]; exact ⟨rfl, rfl⟩))
    (fun os started H enc _ => lifted os started H enc)
#print axioms proved
end Go.Proofs.Ythkogneaimjhjaa.keysSums
