/-
  The layer macs: the sum of parts by a key is HMAC; what the statements' own example asks.
-/
import Derived.Test.YtcjjhiafcefocaaMacs1
import Derived.Test.YtcjjhiafcefocaaSame
namespace Go.Proofs.Ytcjjhiafcefocaa
open Go.Sha
theorem known_bytes : (hmac [74, 101, 102, 101] [119, 104, 97, 116, 32, 100, 111, 32, 121, 97, 32, 119, 97, 110, 116, 32, 102, 111, 114, 32, 110, 111, 116, 104, 105, 110, 103, 63] == [91, 220, 193, 70, 191, 96, 117, 78, 106, 4, 36, 38, 8, 149, 117, 199, 90, 0, 63, 8, 157, 39, 57, 131, 157, 236, 88, 185, 100, 236, 56, 67]) = true := by decide +kernel
open Go.RowKit Go.K
attribute [local irreducible] Exit.then Exit.inBlock bodyPost Code.wp QL Sx Rx Qx Ex Dx Op1 Pure1 Still1 K.Sub Calm Code.wpIn
attribute [local irreducible] sha madeK byK hmac upTo
set_option linter.unusedVariables false

set_option maxHeartbeats 1000000 in
theorem macOf_any (A : Option Addr) (n c : Nat) (xs : List UInt8) (w : World) (hl : xs.length = n) (hrd : Reads w A n (bytesV xs)) (hnc : n ≤ c) (hcm : c ≤ maxLen) (hn : n ≤ 1000000000000)
    (A2 : Option Addr) (c2 : Nat) (ls : List Sl) (hrd2 : Reads w A2 ls.length (ls.map Sl.val)) (hok : ∀ s ∈ ls, s.ok w) (hll : ls.length ≤ 1000) (htot : total ls ≤ 100000000000) :
    Calls Try.prog 24 [.slice A n c, .slice A2 ls.length c2].toArray w fun e w' => e = .returned (.agg (bytesV (hmac xs (upTo ls ls.length))).toArray) ∧ Below w.heap.size w w' := by
  subst hl
  have hml := madeK_length xs
  have hb1 := byK_length 54 (madeK xs)
  have hb2 := byK_length 92 (madeK xs)
  refine enter Try.func24 rfl Try.ntmps24 (by simp) ?_
  repeat (first | refine S_yes rfl rfl ?_ | refine S_no rfl rfl ?_ | refine S_seq ?_ | refine E_seq ?_ | refine S_block ?_ | refine E_block_normal ?_ | refine S_skip ?_ | refine S_exit ?_ | refine S_ret ?_ | refine E_then_exit ?_ | refine E_then_ret ?_ | refine E_block_ret ?_ | refine E_block_exit ?_ | refine E_block_exit_other rfl ?_)
  refine S_region ?_
  refine R_cons rfl (op_allocRow zero_Sum rfl (Nat.le_refl _) (fun b4 => ?_))
  refine R_nil ?_
  repeat (first | refine S_yes rfl rfl ?_ | refine S_no rfl rfl ?_ | refine S_seq ?_ | refine E_seq ?_ | refine S_block ?_ | refine E_block_normal ?_ | refine S_skip ?_ | refine S_exit ?_ | refine S_ret ?_ | refine E_then_exit ?_ | refine E_then_ret ?_ | refine E_block_ret ?_ | refine E_block_exit ?_ | refine E_block_exit_other rfl ?_)
  refine S_region ?_
  refine R_cons rfl (op_pure (p_move rfl) rfl ?_)
  refine R_cons rfl (op_callV rfl rfl Try.func37 rfl (by kernel_rfl) rfl (Nat.le_refl _) (fun w' hm => made_any A xs.length c xs w' rfl (hrd.base hm) hnc hcm hn) ?_)
  refine R_cons rfl (op_allocRow zero_block rfl (Nat.le_refl _) (fun b5 => ?_))
  refine R_cons rfl (op_storeRow rfl rfl (by first | exact bytesV_one _ | exact wordsV_one _ | (repeat (first | exact ones_nil | refine ones_cons rfl ?_))) row_block (by first | assumption | rfl | (simp only [bytesV_length, wordsV_length]; omega) | (rw [bytesV_length]; exact Sha.sha_length _)) (by repeat (first | exact At.here | apply At.there)) (by first | exact Nat.le_of_ble_eq_true rfl | omega | (simp only [bytesV_length, wordsV_length, List.length_cons, List.length_nil, List.length_replicate]; omega) | (simp only [bytesV_length, Sha.sha_length, List.length_replicate] <;> omega)) ?_)
  refine R_nil ?_
  repeat (first | refine S_yes rfl rfl ?_ | refine S_no rfl rfl ?_ | refine S_seq ?_ | refine E_seq ?_ | refine S_block ?_ | refine E_block_normal ?_ | refine S_skip ?_ | refine S_exit ?_ | refine S_ret ?_ | refine E_then_exit ?_ | refine E_then_ret ?_ | refine E_block_ret ?_ | refine E_block_exit ?_ | refine E_block_exit_other rfl ?_)
  rw [lay_whole (by rw [bytesV_length, bytesV_length, hml]; rfl)]
  have hin := sha_length (byK 54 (madeK xs) ++ upTo ls ls.length)
  refine S_region ?_
  refine R_cons rfl (op_pure (by first | exact p_loadRow rfl row_block (by repeat (first | exact List.Mem.head _ | apply List.Mem.tail)) (by first | assumption | rfl | (simp only [bytesV_length, wordsV_length]; omega)) | exact p_loadPart rfl row_block (by repeat (first | exact List.Mem.head _ | apply List.Mem.tail)) (by first | exact Nat.le_of_ble_eq_true rfl | omega | (simp only [bytesV_length, wordsV_length, List.length_cons, List.length_nil, List.length_replicate]; omega) | (simp only [bytesV_length, Sha.sha_length, List.length_replicate] <;> omega)) (by first | assumption | rfl)) rfl ?_)
  refine R_cons rfl (op_callV rfl rfl Try.func39 rfl (by kernel_rfl) rfl (Nat.le_refl _) (fun w' _ => by_any (madeK xs) 54 hml w') ?_)
  refine R_cons rfl (op_pure (p_move rfl) rfl ?_)
  refine R_cons rfl (op_callV rfl rfl Try.func38 rfl (by kernel_rfl) rfl (Nat.le_refl _) (fun w' hm => macSum_any (byK 54 (madeK xs)) (by rw [hb1, hml]) A2 c2 ls w' (hrd2.base hm) (fun s hs => Sl.ok_base (hok s hs) hm) hll htot) ?_)
  refine R_cons rfl (op_allocRow zero_Sum rfl (Nat.le_refl _) (fun b6 => ?_))
  refine R_cons rfl (op_storeRow rfl rfl (by first | exact bytesV_one _ | exact wordsV_one _ | (repeat (first | exact ones_nil | refine ones_cons rfl ?_))) row_Sum (by first | assumption | rfl | (simp only [bytesV_length, wordsV_length]; omega) | (rw [bytesV_length]; exact Sha.sha_length _)) (by repeat (first | exact At.here | apply At.there)) (by first | exact Nat.le_of_ble_eq_true rfl | omega | (simp only [bytesV_length, wordsV_length, List.length_cons, List.length_nil, List.length_replicate]; omega) | (simp only [bytesV_length, Sha.sha_length, List.length_replicate] <;> omega)) ?_)
  refine R_nil ?_
  repeat (first | refine S_yes rfl rfl ?_ | refine S_no rfl rfl ?_ | refine S_seq ?_ | refine E_seq ?_ | refine S_block ?_ | refine E_block_normal ?_ | refine S_skip ?_ | refine S_exit ?_ | refine S_ret ?_ | refine E_then_exit ?_ | refine E_then_ret ?_ | refine E_block_ret ?_ | refine E_block_exit ?_ | refine E_block_exit_other rfl ?_)
  have hlast := sha_length (byK 92 (madeK xs) ++ sha (byK 54 (madeK xs) ++ upTo ls ls.length))
  rw [lay_whole (by rw [bytesV_length, bytesV_length, hin]; rfl)]
  generalize hinn : sha (byK 54 (madeK xs) ++ upTo ls ls.length) = inn at hin hlast
  refine S_cut [(4, .pointer (some ⟨b4, 0, none⟩))] [(b4, .cells (bytesV (hmac xs (upTo ls ls.length))).toArray 25 (0, 0))] ?_ ?_
  · have hup : upTo [(⟨some ⟨b6, 0, none⟩, 32, inn⟩ : Sl)] [(⟨some ⟨b6, 0, none⟩, 32, inn⟩ : Sl)].length = inn := upTo_one _
    refine S_drawn (by kernel_rfl) (.keep rfl (.keep rfl .nil)) ?_
    refine D_take 0 rfl (by kernel_rfl) (by kernel_rfl) (by kernel_rfl) (by repeat (first | exact calm_body | exact calm_mid | exact calm_midE | apply calm_then | apply calm_block)) (by first | exact p_loadRow rfl row_block (by repeat (first | exact List.Mem.head _ | apply List.Mem.tail)) (by first | assumption | rfl | (simp only [bytesV_length, wordsV_length]; omega)) | exact p_loadPart rfl row_block (by repeat (first | exact List.Mem.head _ | apply List.Mem.tail)) (by first | exact Nat.le_of_ble_eq_true rfl | omega | (simp only [bytesV_length, wordsV_length, List.length_cons, List.length_nil, List.length_replicate]; omega) | (simp only [bytesV_length, Sha.sha_length, List.length_replicate] <;> omega)) (by first | assumption | rfl)) rfl ?_
    refine D_take 2 rfl (by kernel_rfl) (by kernel_rfl) (by kernel_rfl) (by repeat (first | exact calm_body | exact calm_mid | exact calm_midE | apply calm_then | apply calm_block)) (p_sliceArr rfl arr_Sum) rfl ?_
    refine D_two 1 3 (by kernel_rfl) ?_ ?_
    · refine step_plain 1 rfl rfl (op_callV rfl rfl Try.func39 rfl (by kernel_rfl) rfl (Nat.le_refl _) (fun w' _ => by_any (madeK xs) 92 hml w') ?_)
      refine ⟨(by repeat (first | exact Fewer.nil | refine Fewer.keep rfl ?_ | refine Fewer.drop ?_)), ?_⟩
      refine D_only 3 rfl (by kernel_rfl) rfl (op_buildSliceAll (ps := [(0, .tmp 15)]) rfl slc_u8ss.1 el_u8s (by decide) (by decide) (by first | kernel_rfl | rfl) rfl (Nat.le_refl _) (fun b16 => ?_))
      refine ⟨(by repeat (first | exact Fewer.nil | refine Fewer.keep rfl ?_ | refine Fewer.drop ?_)), ?_⟩
      refine D_only 4 rfl (by kernel_rfl) rfl (op_callV rfl rfl Try.func38 rfl (by kernel_rfl) rfl (Nat.le_refl _) (fun w' hm => macSum_any (byK 92 (madeK xs)) (by rw [hb2, hml]) (some ⟨b16, 0, none⟩) 1 [⟨some ⟨b6, 0, none⟩, 32, inn⟩] w' (by have h1 := hm.readsAll (b := b16) (n := 1) (cs := [.slice (some ⟨b6, 0, none⟩) 32 32]) (by repeat (first | exact List.Mem.head _ | apply List.Mem.tail)) rfl; have e : List.map Sl.val [(⟨some ⟨b6, 0, none⟩, 32, inn⟩ : Sl)] = [.slice (some ⟨b6, 0, none⟩) 32 32] := (by show [Value.slice _ inn.length 32] = _; rw [hin]); rw [e]; exact h1) (fun s hs => by rw [List.mem_singleton] at hs; subst hs; refine ⟨?_, by show inn.length ≤ 32; omega, by show 32 ≤ maxLen; unfold maxLen; omega, by show inn.length ≤ _; omega⟩; have h1 := hm.readsAll (b := b6) (n := 32) (by repeat (first | exact List.Mem.head _ | apply List.Mem.tail)) (by rw [bytesV_length, hin]); show Reads w' _ inn.length _; rw [hin]; exact h1) (by simp) (by rw [total_one]; show inn.length ≤ _; omega)) ?_)
      refine ⟨(by repeat (first | exact Fewer.nil | refine Fewer.keep rfl ?_ | refine Fewer.drop ?_)), ?_⟩
      refine D_only 5 rfl (by kernel_rfl) rfl (op_storeRow rfl rfl (by first | exact bytesV_one _ | exact wordsV_one _ | (repeat (first | exact ones_nil | refine ones_cons rfl ?_))) row_Sum (by first | assumption | rfl | (simp only [bytesV_length, wordsV_length]; omega) | (rw [bytesV_length]; exact Sha.sha_length _)) (by repeat (first | exact At.here | apply At.there)) (by first | exact Nat.le_of_ble_eq_true rfl | omega | (simp only [bytesV_length, wordsV_length, List.length_cons, List.length_nil, List.length_replicate]; omega) | (simp only [bytesV_length, Sha.sha_length, List.length_replicate] <;> omega)) ?_)
      refine ⟨(by repeat (first | exact Fewer.nil | refine Fewer.keep rfl ?_ | refine Fewer.drop ?_)), ?_⟩
      refine D_done (by kernel_rfl) ?_
      refine E_mid (by repeat (first | exact Sub.nil | refine Sub.cons rfl ?_)) (.drop (.drop (.drop (.keep ?_ .nil))))
      rw [hup, lay_whole (by rw [bytesV_length, bytesV_length, sha_length]; rfl)]
      unfold hmac
      rw [hinn]
    · refine step_plain 3 rfl rfl (op_buildSliceAll (ps := [(0, .tmp 15)]) rfl slc_u8ss.1 el_u8s (by decide) (by decide) (by first | kernel_rfl | rfl) rfl (Nat.le_refl _) (fun b16 => ?_))
      refine ⟨(by repeat (first | exact Fewer.nil | refine Fewer.keep rfl ?_ | refine Fewer.drop ?_)), ?_⟩
      refine D_only 1 rfl (by kernel_rfl) rfl (op_callV rfl rfl Try.func39 rfl (by kernel_rfl) rfl (Nat.le_refl _) (fun w' _ => by_any (madeK xs) 92 hml w') ?_)
      refine ⟨(by repeat (first | exact Fewer.nil | refine Fewer.keep rfl ?_ | refine Fewer.drop ?_)), ?_⟩
      refine D_only 4 rfl (by kernel_rfl) rfl (op_callV rfl rfl Try.func38 rfl (by kernel_rfl) rfl (Nat.le_refl _) (fun w' hm => macSum_any (byK 92 (madeK xs)) (by rw [hb2, hml]) (some ⟨b16, 0, none⟩) 1 [⟨some ⟨b6, 0, none⟩, 32, inn⟩] w' (by have h1 := hm.readsAll (b := b16) (n := 1) (cs := [.slice (some ⟨b6, 0, none⟩) 32 32]) (by repeat (first | exact List.Mem.head _ | apply List.Mem.tail)) rfl; have e : List.map Sl.val [(⟨some ⟨b6, 0, none⟩, 32, inn⟩ : Sl)] = [.slice (some ⟨b6, 0, none⟩) 32 32] := (by show [Value.slice _ inn.length 32] = _; rw [hin]); rw [e]; exact h1) (fun s hs => by rw [List.mem_singleton] at hs; subst hs; refine ⟨?_, by show inn.length ≤ 32; omega, by show 32 ≤ maxLen; unfold maxLen; omega, by show inn.length ≤ _; omega⟩; have h1 := hm.readsAll (b := b6) (n := 32) (by repeat (first | exact List.Mem.head _ | apply List.Mem.tail)) (by rw [bytesV_length, hin]); show Reads w' _ inn.length _; rw [hin]; exact h1) (by simp) (by rw [total_one]; show inn.length ≤ _; omega)) ?_)
      refine ⟨(by repeat (first | exact Fewer.nil | refine Fewer.keep rfl ?_ | refine Fewer.drop ?_)), ?_⟩
      refine D_only 5 rfl (by kernel_rfl) rfl (op_storeRow rfl rfl (by first | exact bytesV_one _ | exact wordsV_one _ | (repeat (first | exact ones_nil | refine ones_cons rfl ?_))) row_Sum (by first | assumption | rfl | (simp only [bytesV_length, wordsV_length]; omega) | (rw [bytesV_length]; exact Sha.sha_length _)) (by repeat (first | exact At.here | apply At.there)) (by first | exact Nat.le_of_ble_eq_true rfl | omega | (simp only [bytesV_length, wordsV_length, List.length_cons, List.length_nil, List.length_replicate]; omega) | (simp only [bytesV_length, Sha.sha_length, List.length_replicate] <;> omega)) ?_)
      refine ⟨(by repeat (first | exact Fewer.nil | refine Fewer.keep rfl ?_ | refine Fewer.drop ?_)), ?_⟩
      refine D_done (by kernel_rfl) ?_
      refine E_mid (by repeat (first | exact Sub.nil | refine Sub.cons rfl ?_)) (.drop (.drop (.drop (.keep ?_ .nil))))
      rw [hup, lay_whole (by rw [bytesV_length, bytesV_length, sha_length]; rfl)]
      unfold hmac
      rw [hinn]
  · repeat (first | refine S_yes rfl rfl ?_ | refine S_no rfl rfl ?_ | refine S_seq ?_ | refine E_seq ?_ | refine S_block ?_ | refine E_block_normal ?_ | refine S_skip ?_ | refine S_exit ?_ | refine S_ret ?_ | refine E_then_exit ?_ | refine E_then_ret ?_ | refine E_block_ret ?_ | refine E_block_exit ?_ | refine E_block_exit_other rfl ?_)
    exact E_retRow rfl rfl (by repeat (first | exact List.Mem.head _ | apply List.Mem.tail)) row_Sum (by rw [bytesV_length, hmac_length]) fun w' hm => ⟨rfl, hm.below⟩

def jefe : List UInt8 := [74, 101, 102, 101]
def text1 : List UInt8 := [119, 104, 97, 116, 32, 100, 111, 32, 121, 97, 32, 119, 97, 110, 116]
def text2 : List UInt8 := [32]
def text3 : List UInt8 := [102, 111, 114, 32, 110, 111, 116, 104, 105, 110, 103, 63]
def knownB : List UInt8 := [91, 220, 193, 70, 191, 96, 117, 78, 106, 4, 36, 38, 8, 149, 117, 199, 90, 0, 63, 8, 157, 39, 57, 131, 157, 236, 88, 185, 100, 236, 56, 67]
theorem known_eq (A1 A2 A3 : Option Addr) : hmac jefe (upTo [(⟨A1, 15, text1⟩ : Sl), ⟨A2, 1, text2⟩, ⟨A3, 12, text3⟩] 3) = knownB := by
  have h : upTo [(⟨A1, 15, text1⟩ : Sl), ⟨A2, 1, text2⟩, ⟨A3, 12, text3⟩] 3 = text1 ++ (text2 ++ text3) := by unfold upTo; simp
  rw [h]
  exact eq_of_beq known_bytes

set_option maxHeartbeats 1000000 in
theorem known_any (w : World) : Calls Try.prog 27 #[] w fun e w' => e = .returned (.bool true) ∧ Below w.heap.size w w' := by
  have hkz : (knownB == List.replicate 32 0) = false := by decide +kernel
  have c0 : (bytesV knownB)[0]? = some (.int .u8 91) := rfl
  have c1 : (bytesV knownB)[1]? = some (.int .u8 220) := rfl
  have c2 : (bytesV knownB)[2]? = some (.int .u8 193) := rfl
  have c3 : (bytesV knownB)[3]? = some (.int .u8 70) := rfl
  have c28 : (bytesV knownB)[28]? = some (.int .u8 100) := rfl
  have c29 : (bytesV knownB)[29]? = some (.int .u8 236) := rfl
  have c30 : (bytesV knownB)[30]? = some (.int .u8 56) := rfl
  have c31 : (bytesV knownB)[31]? = some (.int .u8 67) := rfl
  have hlen : (bytesV knownB).length = 32 := rfl
  refine enter Try.func27 rfl Try.ntmps27 (by simp) ?_
  repeat (first | refine S_yes rfl rfl ?_ | refine S_no rfl rfl ?_ | refine S_seq ?_ | refine E_seq ?_ | refine S_block ?_ | refine E_block_normal ?_ | refine S_skip ?_ | refine S_exit ?_ | refine S_ret ?_ | refine E_then_exit ?_ | refine E_then_ret ?_ | refine E_block_ret ?_ | refine E_block_exit ?_ | refine E_block_exit_other rfl ?_)
  refine S_region ?_
  refine R_cons rfl (op_pure (p_assign rfl) rfl ?_)
  refine R_nil ?_
  repeat (first | refine S_yes rfl rfl ?_ | refine S_no rfl rfl ?_ | refine S_seq ?_ | refine E_seq ?_ | refine S_block ?_ | refine E_block_normal ?_ | refine S_skip ?_ | refine S_exit ?_ | refine S_ret ?_ | refine E_then_exit ?_ | refine E_then_ret ?_ | refine E_block_ret ?_ | refine E_block_exit ?_ | refine E_block_exit_other rfl ?_)
  refine S_region ?_
  refine R_cons rfl (op_buildSliceAll (ps := [(0, .const (.int .u8 74)), (1, .const (.int .u8 101)), (2, .const (.int .u8 102)), (3, .const (.int .u8 101))]) rfl slc_u8s.1 el_u8 (by decide) (by decide) (by first | kernel_rfl | rfl) rfl (Nat.le_refl _) (fun b2 => ?_))
  refine R_cons rfl (op_convBytes rfl slc_u8s.1 Try.underlying5 (by repeat (first | exact At.here | apply At.there)) rfl ?_)
  refine R_cons rfl (op_buildSliceAll (ps := [(0, .const (.int .u8 119)), (1, .const (.int .u8 104)), (2, .const (.int .u8 97)), (3, .const (.int .u8 116)), (4, .const (.int .u8 32)), (5, .const (.int .u8 100)), (6, .const (.int .u8 111)), (7, .const (.int .u8 32)), (8, .const (.int .u8 121)), (9, .const (.int .u8 97)), (10, .const (.int .u8 32)), (11, .const (.int .u8 119)), (12, .const (.int .u8 97)), (13, .const (.int .u8 110)), (14, .const (.int .u8 116))]) rfl slc_u8s.1 el_u8 (by decide) (by decide) (by first | kernel_rfl | rfl) rfl (Nat.le_refl _) (fun b4 => ?_))
  refine R_cons rfl (op_convBytes rfl slc_u8s.1 Try.underlying5 (by repeat (first | exact At.here | apply At.there)) rfl ?_)
  refine R_cons rfl (op_buildSliceAll (ps := [(0, .const (.int .u8 32))]) rfl slc_u8s.1 el_u8 (by decide) (by decide) (by first | kernel_rfl | rfl) rfl (Nat.le_refl _) (fun b6 => ?_))
  refine R_cons rfl (op_convBytes rfl slc_u8s.1 Try.underlying5 (by repeat (first | exact At.here | apply At.there)) rfl ?_)
  refine R_cons rfl (op_buildSliceAll (ps := [(0, .const (.int .u8 102)), (1, .const (.int .u8 111)), (2, .const (.int .u8 114)), (3, .const (.int .u8 32)), (4, .const (.int .u8 110)), (5, .const (.int .u8 111)), (6, .const (.int .u8 116)), (7, .const (.int .u8 104)), (8, .const (.int .u8 105)), (9, .const (.int .u8 110)), (10, .const (.int .u8 103)), (11, .const (.int .u8 63))]) rfl slc_u8s.1 el_u8 (by decide) (by decide) (by first | kernel_rfl | rfl) rfl (Nat.le_refl _) (fun b8 => ?_))
  refine R_cons rfl (op_convBytes rfl slc_u8s.1 Try.underlying5 (by repeat (first | exact At.here | apply At.there)) rfl ?_)
  refine R_cons rfl (op_buildSliceAll (ps := [(0, .tmp 5), (1, .tmp 7), (2, .tmp 9)]) rfl slc_u8ss.1 el_u8s (by decide) (by decide) (by first | kernel_rfl | rfl) rfl (Nat.le_refl _) (fun b10 => ?_))
  refine R_cons rfl (op_callV rfl rfl Try.func24 rfl (by kernel_rfl) rfl (Nat.le_refl _) (fun w' hm => by have h := macOf_any (some ⟨b2, 0, none⟩) 4 4 jefe w' rfl (hm.readsAll (b := b2) (by repeat (first | exact List.Mem.head _ | apply List.Mem.tail)) rfl) (Nat.le_refl _) (by unfold maxLen; omega) (by omega) (some ⟨b10, 0, none⟩) 3 [⟨some ⟨b4, 0, none⟩, 15, text1⟩, ⟨some ⟨b6, 0, none⟩, 1, text2⟩, ⟨some ⟨b8, 0, none⟩, 12, text3⟩] (hm.readsAll (b := b10) (by repeat (first | exact List.Mem.head _ | apply List.Mem.tail)) rfl) (fun s hs => by simp only [List.mem_cons, List.not_mem_nil, or_false] at hs; rcases hs with rfl | rfl | rfl; exact ⟨hm.readsAll (b := b4) (by repeat (first | exact List.Mem.head _ | apply List.Mem.tail)) rfl, Nat.le_refl _, (by show 15 ≤ maxLen; unfold maxLen; omega), Nat.le_of_ble_eq_true rfl⟩; exact ⟨hm.readsAll (b := b6) (by repeat (first | exact List.Mem.head _ | apply List.Mem.tail)) rfl, Nat.le_refl _, (by show 1 ≤ maxLen; unfold maxLen; omega), Nat.le_of_ble_eq_true rfl⟩; exact ⟨hm.readsAll (b := b8) (by repeat (first | exact List.Mem.head _ | apply List.Mem.tail)) rfl, Nat.le_refl _, (by show 12 ≤ maxLen; unfold maxLen; omega), Nat.le_of_ble_eq_true rfl⟩) (Nat.le_of_ble_eq_true rfl) (Nat.le_of_ble_eq_true rfl); rw [show List.length _ = 3 from rfl, known_eq] at h; exact h) ?_)
  refine R_cons rfl (op_allocRow zero_Sum rfl (Nat.le_refl _) (fun b1 => ?_))
  refine R_cons rfl (op_storeRow rfl rfl (by first | exact bytesV_one _ | exact wordsV_one _ | (repeat (first | exact ones_nil | refine ones_cons rfl ?_))) row_Sum (by first | assumption | rfl | (simp only [bytesV_length, wordsV_length]; omega) | (rw [bytesV_length]; exact Sha.sha_length _)) (by repeat (first | exact At.here | apply At.there)) (by first | exact Nat.le_of_ble_eq_true rfl | omega | (simp only [bytesV_length, wordsV_length, List.length_cons, List.length_nil, List.length_replicate]; omega) | (simp only [bytesV_length, Sha.sha_length, List.length_replicate] <;> omega)) ?_)
  refine R_nil ?_
  repeat (first | refine S_yes rfl rfl ?_ | refine S_no rfl rfl ?_ | refine S_seq ?_ | refine E_seq ?_ | refine S_block ?_ | refine E_block_normal ?_ | refine S_skip ?_ | refine S_exit ?_ | refine S_ret ?_ | refine E_then_exit ?_ | refine E_then_ret ?_ | refine E_block_ret ?_ | refine E_block_exit ?_ | refine E_block_exit_other rfl ?_)
  rw [lay_whole (by rfl)]
  refine S_region ?_
  refine R_cons rfl (op_pure (by first | exact p_indexArr0 (j := 0) rfl rfl rfl arr_Sum (by decide) | exact p_indexArr (j := 0) rfl rfl rfl arr_Sum (by decide)) rfl ?_)
  refine R_cons rfl (op_pure (by first | exact p_load rfl sc_u8 (by repeat (first | exact List.Mem.head _ | apply List.Mem.tail)) (by first | assumption | exact bytesV_get (by omega) | exact wordsV_get (by omega) | rfl) | exact p_load_base rfl sc_u8 (by assumption) (by simp) (by assumption)) rfl ?_)
  refine R_cons rfl (op_pure (p_bin rfl rfl (b_eql (by first | assumption | exact beq_iff_eq.2 (by omega) | exact beq_eq_false_iff_ne.2 (by omega) | rfl))) rfl ?_)
  refine R_cons rfl (op_pure (p_move rfl) rfl ?_)
  first | refine R_pass rfl rfl rfl rfl ?_ | refine R_pass_undef rfl rfl rfl ?_ | refine R_guard rfl rfl rfl (op_pure (by first | exact p_indexArr0 (j := 1) rfl rfl rfl arr_Sum (by decide) | exact p_indexArr (j := 1) rfl rfl rfl arr_Sum (by decide)) rfl ?_)
  first | refine R_pass rfl rfl rfl rfl ?_ | refine R_pass_undef rfl rfl rfl ?_ | refine R_guard rfl rfl rfl (op_pure (by first | exact p_load rfl sc_u8 (by repeat (first | exact List.Mem.head _ | apply List.Mem.tail)) (by first | assumption | exact bytesV_get (by omega) | exact wordsV_get (by omega) | rfl) | exact p_load_base rfl sc_u8 (by assumption) (by simp) (by assumption)) rfl ?_)
  first | refine R_pass rfl rfl rfl rfl ?_ | refine R_pass_undef rfl rfl rfl ?_ | refine R_guard rfl rfl rfl (op_pure (p_bin rfl rfl (b_eql (by first | assumption | exact beq_iff_eq.2 (by omega) | exact beq_eq_false_iff_ne.2 (by omega) | rfl))) rfl ?_)
  refine R_cons rfl (op_pure (by first | exact p_pick_yes rfl rfl | exact p_pick_no rfl rfl | exact p_pick rfl rfl rfl) rfl ?_)
  refine R_cons rfl (op_pure (p_move rfl) rfl ?_)
  first | refine R_pass rfl rfl rfl rfl ?_ | refine R_pass_undef rfl rfl rfl ?_ | refine R_guard rfl rfl rfl (op_pure (by first | exact p_indexArr0 (j := 2) rfl rfl rfl arr_Sum (by decide) | exact p_indexArr (j := 2) rfl rfl rfl arr_Sum (by decide)) rfl ?_)
  first | refine R_pass rfl rfl rfl rfl ?_ | refine R_pass_undef rfl rfl rfl ?_ | refine R_guard rfl rfl rfl (op_pure (by first | exact p_load rfl sc_u8 (by repeat (first | exact List.Mem.head _ | apply List.Mem.tail)) (by first | assumption | exact bytesV_get (by omega) | exact wordsV_get (by omega) | rfl) | exact p_load_base rfl sc_u8 (by assumption) (by simp) (by assumption)) rfl ?_)
  first | refine R_pass rfl rfl rfl rfl ?_ | refine R_pass_undef rfl rfl rfl ?_ | refine R_guard rfl rfl rfl (op_pure (p_bin rfl rfl (b_eql (by first | assumption | exact beq_iff_eq.2 (by omega) | exact beq_eq_false_iff_ne.2 (by omega) | rfl))) rfl ?_)
  refine R_cons rfl (op_pure (by first | exact p_pick_yes rfl rfl | exact p_pick_no rfl rfl | exact p_pick rfl rfl rfl) rfl ?_)
  refine R_cons rfl (op_pure (p_move rfl) rfl ?_)
  first | refine R_pass rfl rfl rfl rfl ?_ | refine R_pass_undef rfl rfl rfl ?_ | refine R_guard rfl rfl rfl (op_pure (by first | exact p_indexArr0 (j := 3) rfl rfl rfl arr_Sum (by decide) | exact p_indexArr (j := 3) rfl rfl rfl arr_Sum (by decide)) rfl ?_)
  first | refine R_pass rfl rfl rfl rfl ?_ | refine R_pass_undef rfl rfl rfl ?_ | refine R_guard rfl rfl rfl (op_pure (by first | exact p_load rfl sc_u8 (by repeat (first | exact List.Mem.head _ | apply List.Mem.tail)) (by first | assumption | exact bytesV_get (by omega) | exact wordsV_get (by omega) | rfl) | exact p_load_base rfl sc_u8 (by assumption) (by simp) (by assumption)) rfl ?_)
  first | refine R_pass rfl rfl rfl rfl ?_ | refine R_pass_undef rfl rfl rfl ?_ | refine R_guard rfl rfl rfl (op_pure (p_bin rfl rfl (b_eql (by first | assumption | exact beq_iff_eq.2 (by omega) | exact beq_eq_false_iff_ne.2 (by omega) | rfl))) rfl ?_)
  refine R_cons rfl (op_pure (by first | exact p_pick_yes rfl rfl | exact p_pick_no rfl rfl | exact p_pick rfl rfl rfl) rfl ?_)
  refine R_cons rfl (op_pure (p_move rfl) rfl ?_)
  first | refine R_pass rfl rfl rfl rfl ?_ | refine R_pass_undef rfl rfl rfl ?_ | refine R_guard rfl rfl rfl (op_pure (by first | exact p_indexArr0 (j := 28) rfl rfl rfl arr_Sum (by decide) | exact p_indexArr (j := 28) rfl rfl rfl arr_Sum (by decide)) rfl ?_)
  first | refine R_pass rfl rfl rfl rfl ?_ | refine R_pass_undef rfl rfl rfl ?_ | refine R_guard rfl rfl rfl (op_pure (by first | exact p_load rfl sc_u8 (by repeat (first | exact List.Mem.head _ | apply List.Mem.tail)) (by first | assumption | exact bytesV_get (by omega) | exact wordsV_get (by omega) | rfl) | exact p_load_base rfl sc_u8 (by assumption) (by simp) (by assumption)) rfl ?_)
  first | refine R_pass rfl rfl rfl rfl ?_ | refine R_pass_undef rfl rfl rfl ?_ | refine R_guard rfl rfl rfl (op_pure (p_bin rfl rfl (b_eql (by first | assumption | exact beq_iff_eq.2 (by omega) | exact beq_eq_false_iff_ne.2 (by omega) | rfl))) rfl ?_)
  refine R_cons rfl (op_pure (by first | exact p_pick_yes rfl rfl | exact p_pick_no rfl rfl | exact p_pick rfl rfl rfl) rfl ?_)
  refine R_cons rfl (op_pure (p_move rfl) rfl ?_)
  first | refine R_pass rfl rfl rfl rfl ?_ | refine R_pass_undef rfl rfl rfl ?_ | refine R_guard rfl rfl rfl (op_pure (by first | exact p_indexArr0 (j := 29) rfl rfl rfl arr_Sum (by decide) | exact p_indexArr (j := 29) rfl rfl rfl arr_Sum (by decide)) rfl ?_)
  first | refine R_pass rfl rfl rfl rfl ?_ | refine R_pass_undef rfl rfl rfl ?_ | refine R_guard rfl rfl rfl (op_pure (by first | exact p_load rfl sc_u8 (by repeat (first | exact List.Mem.head _ | apply List.Mem.tail)) (by first | assumption | exact bytesV_get (by omega) | exact wordsV_get (by omega) | rfl) | exact p_load_base rfl sc_u8 (by assumption) (by simp) (by assumption)) rfl ?_)
  first | refine R_pass rfl rfl rfl rfl ?_ | refine R_pass_undef rfl rfl rfl ?_ | refine R_guard rfl rfl rfl (op_pure (p_bin rfl rfl (b_eql (by first | assumption | exact beq_iff_eq.2 (by omega) | exact beq_eq_false_iff_ne.2 (by omega) | rfl))) rfl ?_)
  refine R_cons rfl (op_pure (by first | exact p_pick_yes rfl rfl | exact p_pick_no rfl rfl | exact p_pick rfl rfl rfl) rfl ?_)
  refine R_cons rfl (op_pure (p_move rfl) rfl ?_)
  first | refine R_pass rfl rfl rfl rfl ?_ | refine R_pass_undef rfl rfl rfl ?_ | refine R_guard rfl rfl rfl (op_pure (by first | exact p_indexArr0 (j := 30) rfl rfl rfl arr_Sum (by decide) | exact p_indexArr (j := 30) rfl rfl rfl arr_Sum (by decide)) rfl ?_)
  first | refine R_pass rfl rfl rfl rfl ?_ | refine R_pass_undef rfl rfl rfl ?_ | refine R_guard rfl rfl rfl (op_pure (by first | exact p_load rfl sc_u8 (by repeat (first | exact List.Mem.head _ | apply List.Mem.tail)) (by first | assumption | exact bytesV_get (by omega) | exact wordsV_get (by omega) | rfl) | exact p_load_base rfl sc_u8 (by assumption) (by simp) (by assumption)) rfl ?_)
  first | refine R_pass rfl rfl rfl rfl ?_ | refine R_pass_undef rfl rfl rfl ?_ | refine R_guard rfl rfl rfl (op_pure (p_bin rfl rfl (b_eql (by first | assumption | exact beq_iff_eq.2 (by omega) | exact beq_eq_false_iff_ne.2 (by omega) | rfl))) rfl ?_)
  refine R_cons rfl (op_pure (by first | exact p_pick_yes rfl rfl | exact p_pick_no rfl rfl | exact p_pick rfl rfl rfl) rfl ?_)
  refine R_cons rfl (op_pure (p_move rfl) rfl ?_)
  first | refine R_pass rfl rfl rfl rfl ?_ | refine R_pass_undef rfl rfl rfl ?_ | refine R_guard rfl rfl rfl (op_pure (by first | exact p_indexArr0 (j := 31) rfl rfl rfl arr_Sum (by decide) | exact p_indexArr (j := 31) rfl rfl rfl arr_Sum (by decide)) rfl ?_)
  first | refine R_pass rfl rfl rfl rfl ?_ | refine R_pass_undef rfl rfl rfl ?_ | refine R_guard rfl rfl rfl (op_pure (by first | exact p_load rfl sc_u8 (by repeat (first | exact List.Mem.head _ | apply List.Mem.tail)) (by first | assumption | exact bytesV_get (by omega) | exact wordsV_get (by omega) | rfl) | exact p_load_base rfl sc_u8 (by assumption) (by simp) (by assumption)) rfl ?_)
  first | refine R_pass rfl rfl rfl rfl ?_ | refine R_pass_undef rfl rfl rfl ?_ | refine R_guard rfl rfl rfl (op_pure (p_bin rfl rfl (b_eql (by first | assumption | exact beq_iff_eq.2 (by omega) | exact beq_eq_false_iff_ne.2 (by omega) | rfl))) rfl ?_)
  refine R_cons rfl (op_pure (by first | exact p_pick_yes rfl rfl | exact p_pick_no rfl rfl | exact p_pick rfl rfl rfl) rfl ?_)
  refine R_cons rfl (op_pure (p_move rfl) rfl ?_)
  first | refine R_pass rfl rfl rfl rfl ?_ | refine R_pass_undef rfl rfl rfl ?_ | refine R_guard rfl rfl rfl (op_pure (by first | exact p_loadRow rfl row_Sum (by repeat (first | exact List.Mem.head _ | apply List.Mem.tail)) (by first | assumption | rfl | (simp only [bytesV_length, wordsV_length]; omega)) | exact p_loadPart rfl row_Sum (by repeat (first | exact List.Mem.head _ | apply List.Mem.tail)) (by first | exact Nat.le_of_ble_eq_true rfl | omega | (simp only [bytesV_length, wordsV_length, List.length_cons, List.length_nil, List.length_replicate]; omega) | (simp only [bytesV_length, Sha.sha_length, List.length_replicate] <;> omega)) (by first | assumption | rfl)) rfl ?_)
  first | refine R_pass rfl rfl rfl rfl ?_ | refine R_pass_undef rfl rfl rfl ?_ | refine R_guard rfl rfl rfl (op_pure (p_build (ps := []) (cs := bytesV (List.replicate 32 0)) rfl (by kernel_rfl)) rfl ?_)
  first | refine R_pass rfl rfl rfl rfl ?_ | refine R_pass_undef rfl rfl rfl ?_ | refine R_guard rfl rfl rfl (op_callV rfl rfl Try.func28 rfl (by kernel_rfl) rfl (Nat.le_refl _) (fun w' _ => by have h := same_macs knownB (List.replicate 32 0) rfl rfl w'; rw [hkz] at h; exact h) ?_)
  first | refine R_pass rfl rfl rfl rfl ?_ | refine R_pass_undef rfl rfl rfl ?_ | refine R_guard rfl rfl rfl (op_pure (p_not rfl) rfl ?_)
  refine R_cons rfl (op_pure (by first | exact p_pick_yes rfl rfl | exact p_pick_no rfl rfl | exact p_pick rfl rfl rfl) rfl ?_)
  refine R_cons rfl (op_pure (p_assign rfl) rfl ?_)
  refine R_nil ?_
  repeat (first | refine S_yes rfl rfl ?_ | refine S_no rfl rfl ?_ | refine S_seq ?_ | refine E_seq ?_ | refine S_block ?_ | refine E_block_normal ?_ | refine S_skip ?_ | refine S_exit ?_ | refine S_ret ?_ | refine E_then_exit ?_ | refine E_then_ret ?_ | refine E_block_ret ?_ | refine E_block_exit ?_ | refine E_block_exit_other rfl ?_)
  exact E_ret1 rfl rfl fun w' hm => ⟨rfl, hm.below⟩
end Go.Proofs.Ytcjjhiafcefocaa
