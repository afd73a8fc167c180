/-
  Proved: whatever message a key signs, it comes to what the key does; what stands behind its first eight bytes makes no difference. No condition.
-/
import Derived.Test.YtfdlafjifjndeaaRows
import Derived.Test.YtfdlafjifjndeaaOnce3
namespace Go.Proofs.Ytfdlafjifjndeaa.oncesBack
open Go.ChangeShapes Go.WideShapes Go.ChangeAt Go.Sha
open Go.RowKit Go.K
attribute [local irreducible] Exit.then Exit.inBlock Exit.noGoto bodyPost Code.wp QL Sx Rx Qx Ex Dx Op1 Pure1 Still1 K.Sub Calm Code.wpIn
set_option linter.unusedVariables false
theorem row_almonerlaw19_Back : Row Try.prog 32 97 := ⟨_, Try.underlying32, rfl, by kernel_rfl⟩
theorem zero_almonerlaw19_Back : Zr Try.prog 32 ((bytesV (List.replicate 32 0) ++ ([Value.int .u32 0] ++ (bytesV (List.replicate 32 0) ++ (bytesV (List.replicate 32 0)))))) := by unfold Zr; kernel_rfl
theorem elr_almonerlaw19_Back : ElR Try.prog 32 (.agg ((bytesV (List.replicate 32 0) ++ ([Value.int .u32 0] ++ (bytesV (List.replicate 32 0) ++ (bytesV (List.replicate 32 0)))))).toArray) 97 100 := by
  obtain ⟨i, h1, h2, h3, h4⟩ := info_parts (show (Try.prog.info? 32).map (fun i => (i.zero, i.size, i.bytes)) = some (some (.agg ((bytesV (List.replicate 32 0) ++ ([Value.int .u32 0] ++ (bytesV (List.replicate 32 0) ++ (bytesV (List.replicate 32 0)))))).toArray), 97, 100) from by kernel_rfl)
  exact ⟨i, h1, h2, h3, h4, rfl⟩
theorem fd_almonerlaw19_Back_0 : FldAt Try.prog 32 0 0 := ⟨_, _, 31, Try.underlying32, rfl, rfl, by kernel_rfl⟩
theorem fd_almonerlaw19_Back_1 : FldAt Try.prog 32 1 32 := ⟨_, _, 0, Try.underlying32, rfl, rfl, by kernel_rfl⟩
theorem fd_almonerlaw19_Back_2 : FldAt Try.prog 32 2 33 := ⟨_, _, 31, Try.underlying32, rfl, rfl, by kernel_rfl⟩
theorem fd_almonerlaw19_Back_3 : FldAt Try.prog 32 3 65 := ⟨_, _, 31, Try.underlying32, rfl, rfl, by kernel_rfl⟩
theorem blt_almonerlaw19_Back : ∀ parts, Try.prog.built 32 parts = Instr.fill (fun i => [(0, 32), (32, 1), (33, 32), (65, 32)].toArray[i]?) ((bytesV (List.replicate 32 0) ++ ([Value.int .u32 0] ++ (bytesV (List.replicate 32 0) ++ (bytesV (List.replicate 32 0)))))).toArray parts := fun parts => by kernel_rfl

def backV (seed : List UInt8) (idx : UInt32) (m o : List UInt8) : List Value := bytesV seed ++ ([.int .u32 (idx.toNat : Int)] ++ (bytesV m ++ bytesV o))
theorem back_len (seed : List UInt8) (idx : UInt32) (m o : List UInt8) (hs : seed.length = 32) (hm : m.length = 32) (ho : o.length = 32) : (backV seed idx m o).length = 97 := by
  unfold backV; simp [bytesV_length, hs, hm, ho]
theorem back_0 (seed : List UInt8) (idx : UInt32) (m o : List UInt8) (hs : seed.length = 32) : ((backV seed idx m o).drop 0).take 32 = bytesV seed := by
  unfold backV
  rw [List.drop_zero, List.take_append_of_le_length (by rw [bytesV_length]; omega), List.take_of_length_le (by rw [bytesV_length]; omega)]
theorem back_1 (seed : List UInt8) (idx : UInt32) (m o : List UInt8) (hs : seed.length = 32) : (backV seed idx m o)[32]? = some (.int .u32 (idx.toNat : Int)) := by
  unfold backV
  rw [List.getElem?_append_right (by rw [bytesV_length]; omega), bytesV_length, hs]
  rfl
theorem back_2 (seed : List UInt8) (idx : UInt32) (m o : List UInt8) (hs : seed.length = 32) (hm : m.length = 32) : ((backV seed idx m o).drop 33).take 32 = bytesV m := by
  unfold backV
  rw [List.drop_append, List.drop_eq_nil_of_le (by rw [bytesV_length]; omega), bytesV_length, hs, List.nil_append]
  show (List.drop 0 (bytesV m ++ bytesV o)).take 32 = _
  rw [List.drop_zero, List.take_append_of_le_length (by rw [bytesV_length]; omega), List.take_of_length_le (by rw [bytesV_length]; omega)]
theorem back_3 (seed : List UInt8) (idx : UInt32) (m o : List UInt8) (hs : seed.length = 32) (hm : m.length = 32) (ho : o.length = 32) : ((backV seed idx m o).drop 65).take 32 = bytesV o := by
  unfold backV
  rw [List.drop_append, List.drop_eq_nil_of_le (by rw [bytesV_length]; omega), bytesV_length, hs, List.nil_append]
  show (List.drop 32 (bytesV m ++ bytesV o)).take 32 = _
  rw [List.drop_append, List.drop_eq_nil_of_le (by rw [bytesV_length]; omega), bytesV_length, hm, List.nil_append, Nat.sub_self, List.drop_zero, List.take_of_length_le (by rw [bytesV_length]; omega)]
/-- the first bytes of a message, and others behind them -/
def mixB (m o : List UInt8) (i : Nat) : List UInt8 := m.take i ++ o.drop i
theorem mixB_length (m o : List UInt8) (i : Nat) (hm : m.length = 32) (ho : o.length = 32) (hi : i ≤ 8) : (mixB m o i).length = 32 := by unfold mixB; simp [hm, ho]; omega
theorem mixB_step (m o : List UInt8) (i : Nat) (hm : m.length = 32) (ho : o.length = 32) (hi : i < 8) : (mixB m o i).set i (m.getD i 0) = mixB m o (i + 1) := by
  unfold mixB
  rw [List.set_append_right _ _ (by rw [List.length_take]; omega), List.length_take, Nat.min_eq_left (by omega), Nat.sub_self, List.drop_eq_getElem_cons (by omega : i < o.length), List.set_cons_zero]
  rw [List.take_succ_eq_append_getElem (by omega : i < m.length), List.append_assoc, List.getD_eq_getElem?_getD, List.getElem?_eq_getElem (by omega : i < m.length)]
  rfl
theorem mixB_bit (m o : List UInt8) (n : Nat) (hm : m.length = 32) (hn : n < 64) : bitN (mixB m o 8) n = bitN m n := by
  unfold bitN mixB
  rw [List.getD_eq_getElem?_getD, List.getElem?_append_left (by rw [List.length_take]; omega), List.getElem?_take_of_lt (by omega), ← List.getD_eq_getElem?_getD]

section
attribute [local irreducible] sha total Buf.hp Buf.cap Buf.addr ofS pubS signL backV mixB sumsV
set_option maxHeartbeats 4000000 in
theorem walk (w : World) (seed : List UInt8) (hs : seed.length = 32) (idx : UInt32) (m : List UInt8) (hm32 : m.length = 32) (o : List UInt8) (ho : o.length = 32) :
    Calls Try.prog 4 [.agg (backV seed idx m o).toArray].toArray w fun e w' => e = .returned (.bool true) ∧ Below w.heap.size w w' := by
  have f0 := back_0 seed idx m o hs
  have f1 := back_1 seed idx m o hs
  have f2 := back_2 seed idx m o hs hm32
  have f3 := back_3 seed idx m o hs hm32 ho
  have fl := back_len seed idx m o hs hm32 ho
  generalize backV seed idx m o = cs at *
  have hrow : ∀ q, q ≤ 65 → q + 32 ≤ cs.length := fun q hq => by omega
  have hx32 := mixB_length m o 8 hm32 ho (Nat.le_refl _)
  have hbits : ∀ n, n < 64 → bitN (mixB m o 8) n = bitN m n := fun n hn => mixB_bit m o n hm32 hn
  have hsx : signL seed idx.toNat (mixB m o 8) = signL seed idx.toNat m := signL_same _ _ _ _ hbits
  have hox : ofS (mixB m o 8) (signL seed idx.toNat m) = ofS m (signL seed idx.toNat m) := of_same _ _ _ hbits
  have hss : Sums (signL seed idx.toNat m) := signL_sums seed idx.toNat m
  have hsn : (signL seed idx.toNat m).length = 128 := signL_length seed idx.toNat m
  have hsv : (sumsV (signL seed idx.toNat m)).length = 4096 := by rw [sumsV_length hss, hsn]
  have hfin : (ofS m (signL seed idx.toNat m) == pubS seed idx.toNat) = true := by rw [of_sign]; exact beq_self_eq_true _
  have l1 := ofS_length m (signL seed idx.toNat m)
  have l2 := pubS_length seed idx.toNat
  have hbs : (bytesV seed).length = 32 := by rw [bytesV_length, hs]
  have hbm : (bytesV m).length = 32 := by rw [bytesV_length, hm32]
  have hbo : (bytesV o).length = 32 := by rw [bytesV_length, ho]
  have hstep : ∀ i, i < 8 → (bytesV (mixB m o i)).set (0 + i) (.int .u8 ((m.getD i 0).toNat : Int)) = bytesV (mixB m o (i + 1)) := fun i hi => by rw [Nat.zero_add, bytesV_set, mixB_step m o i hm32 ho hi]
  have hml : ∀ i, i ≤ 8 → (bytesV (mixB m o i)).length = 32 := fun i hi => by rw [bytesV_length, mixB_length m o i hm32 ho hi]
  have hm0 : bytesV o = bytesV (mixB m o 0) := by unfold mixB; rfl
  clear fl
  refine enter Try.func4 rfl Try.ntmps4 (by simp) ?_
  repeat (first | refine S_scope ?_ | refine S_label ?_ | refine E_noGoto_normal ?_ | refine E_noGoto_ret ?_ | refine E_noGoto_exit ?_ | refine S_yes rfl (by first | with_reducible rfl | decide) ?_ | refine S_no rfl (by first | with_reducible rfl | decide) ?_ | refine S_seq ?_ | refine E_seq ?_ | refine S_block ?_ | refine E_block_normal ?_ | refine S_skip ?_ | refine S_exit ?_ | refine S_ret ?_ | refine E_then_exit ?_ | refine E_then_ret ?_ | refine E_block_ret ?_ | refine E_block_exit ?_ | refine E_block_exit_other rfl ?_)
  refine S_region ?_
  refine R_cons rfl (op_boxRow rfl rfl (Nat.le_refl _) (fun b1 => ?_))
  refine R_cons rfl (op_pure (p_assign rfl) rfl ?_)
  refine R_nil ?_
  repeat (first | refine S_scope ?_ | refine S_label ?_ | refine E_noGoto_normal ?_ | refine E_noGoto_ret ?_ | refine E_noGoto_exit ?_ | refine S_yes rfl (by first | with_reducible rfl | decide) ?_ | refine S_no rfl (by first | with_reducible rfl | decide) ?_ | refine S_seq ?_ | refine E_seq ?_ | refine S_block ?_ | refine E_block_normal ?_ | refine S_skip ?_ | refine S_exit ?_ | refine S_ret ?_ | refine E_then_exit ?_ | refine E_then_ret ?_ | refine E_block_ret ?_ | refine E_block_exit ?_ | refine E_block_exit_other rfl ?_)
  refine S_region ?_
  refine R_cons rfl (op_pure (by first | exact p_fieldAddr0 rfl fd_almonerlaw19_Back_0 | exact p_fieldAddr rfl fd_almonerlaw19_Back_0) rfl ?_)
  refine R_cons rfl (op_pure (p_loadPart rfl row_Sum (by repeat (first | exact List.Mem.head _ | apply List.Mem.tail)) (hrow 0 (by decide)) f0) rfl ?_)
  refine R_cons rfl (op_allocRow zero_Sum rfl (Nat.le_refl _) (fun b3 => ?_))
  refine R_cons rfl (op_storeRow rfl rfl (bytesV_one _) row_Sum hbs (by repeat (first | exact At.here | apply At.there)) (by rw [hbs]; exact Nat.le_refl 32) ?_)
  refine R_nil ?_
  repeat (first | refine S_scope ?_ | refine S_label ?_ | refine E_noGoto_normal ?_ | refine E_noGoto_ret ?_ | refine E_noGoto_exit ?_ | refine S_yes rfl (by first | with_reducible rfl | decide) ?_ | refine S_no rfl (by first | with_reducible rfl | decide) ?_ | refine S_seq ?_ | refine E_seq ?_ | refine S_block ?_ | refine E_block_normal ?_ | refine S_skip ?_ | refine S_exit ?_ | refine S_ret ?_ | refine E_then_exit ?_ | refine E_then_ret ?_ | refine E_block_ret ?_ | refine E_block_exit ?_ | refine E_block_exit_other rfl ?_)
  rw [lay_whole (by rw [hbs]; rfl)]
  refine S_region ?_
  refine R_cons rfl (op_pure (by first | exact p_fieldAddr0 rfl fd_almonerlaw19_Back_1 | exact p_fieldAddr rfl fd_almonerlaw19_Back_1) rfl ?_)
  refine R_cons rfl (op_pure (p_load rfl sc_u32 (by repeat (first | exact List.Mem.head _ | apply List.Mem.tail)) f1) rfl ?_)
  refine R_cons rfl (op_pure (p_assign rfl) rfl ?_)
  refine R_nil ?_
  repeat (first | refine S_scope ?_ | refine S_label ?_ | refine E_noGoto_normal ?_ | refine E_noGoto_ret ?_ | refine E_noGoto_exit ?_ | refine S_yes rfl (by first | with_reducible rfl | decide) ?_ | refine S_no rfl (by first | with_reducible rfl | decide) ?_ | refine S_seq ?_ | refine E_seq ?_ | refine S_block ?_ | refine E_block_normal ?_ | refine S_skip ?_ | refine S_exit ?_ | refine S_ret ?_ | refine E_then_exit ?_ | refine E_then_ret ?_ | refine E_block_ret ?_ | refine E_block_exit ?_ | refine E_block_exit_other rfl ?_)
  refine S_region ?_
  refine R_cons rfl (op_pure (by first | exact p_fieldAddr0 rfl fd_almonerlaw19_Back_2 | exact p_fieldAddr rfl fd_almonerlaw19_Back_2) rfl ?_)
  refine R_cons rfl (op_pure (p_loadPart rfl row_Sum (by repeat (first | exact List.Mem.head _ | apply List.Mem.tail)) (hrow 33 (by decide)) f2) rfl ?_)
  refine R_cons rfl (op_allocRow zero_Sum rfl (Nat.le_refl _) (fun b5 => ?_))
  refine R_cons rfl (op_storeRow rfl rfl (bytesV_one _) row_Sum hbm (by repeat (first | exact At.here | apply At.there)) (by rw [hbm]; exact Nat.le_refl 32) ?_)
  refine R_nil ?_
  repeat (first | refine S_scope ?_ | refine S_label ?_ | refine E_noGoto_normal ?_ | refine E_noGoto_ret ?_ | refine E_noGoto_exit ?_ | refine S_yes rfl (by first | with_reducible rfl | decide) ?_ | refine S_no rfl (by first | with_reducible rfl | decide) ?_ | refine S_seq ?_ | refine E_seq ?_ | refine S_block ?_ | refine E_block_normal ?_ | refine S_skip ?_ | refine S_exit ?_ | refine S_ret ?_ | refine E_then_exit ?_ | refine E_then_ret ?_ | refine E_block_ret ?_ | refine E_block_exit ?_ | refine E_block_exit_other rfl ?_)
  rw [lay_whole (by rw [hbm]; rfl)]
  refine S_region ?_
  refine R_cons rfl (op_pure (by first | exact p_fieldAddr0 rfl fd_almonerlaw19_Back_3 | exact p_fieldAddr rfl fd_almonerlaw19_Back_3) rfl ?_)
  refine R_cons rfl (op_pure (p_loadPart rfl row_Sum (by repeat (first | exact List.Mem.head _ | apply List.Mem.tail)) (hrow 65 (by decide)) f3) rfl ?_)
  refine R_cons rfl (op_allocRow zero_Sum rfl (Nat.le_refl _) (fun b6 => ?_))
  refine R_cons rfl (op_storeRow rfl rfl (bytesV_one _) row_Sum hbo (by repeat (first | exact At.here | apply At.there)) (by rw [hbo]; exact Nat.le_refl 32) ?_)
  refine R_nil ?_
  repeat (first | refine S_scope ?_ | refine S_label ?_ | refine E_noGoto_normal ?_ | refine E_noGoto_ret ?_ | refine E_noGoto_exit ?_ | refine S_yes rfl (by first | with_reducible rfl | decide) ?_ | refine S_no rfl (by first | with_reducible rfl | decide) ?_ | refine S_seq ?_ | refine E_seq ?_ | refine S_block ?_ | refine E_block_normal ?_ | refine S_skip ?_ | refine S_exit ?_ | refine S_ret ?_ | refine E_then_exit ?_ | refine E_then_ret ?_ | refine E_block_ret ?_ | refine E_block_exit ?_ | refine E_block_exit_other rfl ?_)
  rw [lay_whole (by rw [hbo]; rfl)]
  have hz4096 : 4096 ≤ (bytesV (List.replicate 2048 0) ++ (bytesV (List.replicate 2048 0))).length := by rw [List.length_append, bytesV_length, List.length_replicate]; omega
  refine S_region ?_
  refine R_cons rfl (op_pure (p_loadRow rfl row_Sum (by repeat (first | exact List.Mem.head _ | apply List.Mem.tail)) hbs) rfl ?_)
  refine R_cons rfl (op_pure (p_move rfl) rfl ?_)
  refine R_cons rfl (op_pure (p_loadRow rfl row_Sum (by repeat (first | exact List.Mem.head _ | apply List.Mem.tail)) hbm) rfl ?_)
  refine R_cons rfl (op_callV rfl rfl Try.func15 rfl (by kernel_rfl) rfl (Nat.le_refl _) (fun w' _ => sign_any seed hs idx m hm32 w') ?_)
  refine R_cons rfl (op_allocRow zero_api_Once rfl (Nat.le_refl _) (fun b7 => ?_))
  refine R_cons rfl (op_storeRow rfl rfl (sumsV_one _) row_api_Once hsv (by repeat (first | exact At.here | apply At.there)) (by rw [Nat.zero_add, hsv]; exact hz4096) ?_)
  refine R_nil ?_
  repeat (first | refine S_scope ?_ | refine S_label ?_ | refine E_noGoto_normal ?_ | refine E_noGoto_ret ?_ | refine E_noGoto_exit ?_ | refine S_yes rfl (by first | with_reducible rfl | decide) ?_ | refine S_no rfl (by first | with_reducible rfl | decide) ?_ | refine S_seq ?_ | refine E_seq ?_ | refine S_block ?_ | refine E_block_normal ?_ | refine S_skip ?_ | refine S_exit ?_ | refine S_ret ?_ | refine E_then_exit ?_ | refine E_then_ret ?_ | refine E_block_ret ?_ | refine E_block_exit ?_ | refine E_block_exit_other rfl ?_)
  rw [lay_whole (by rw [List.length_append, bytesV_length, List.length_replicate, hsv])]
  refine S_region ?_
  refine R_cons rfl (op_pure (p_loadRow rfl row_Sum (by repeat (first | exact List.Mem.head _ | apply List.Mem.tail)) hbo) rfl ?_)
  refine R_cons rfl (op_allocRow zero_Sum rfl (Nat.le_refl _) (fun b8 => ?_))
  refine R_cons rfl (op_storeRow rfl rfl (bytesV_one _) row_Sum hbo (by repeat (first | exact At.here | apply At.there)) (by rw [hbo]; exact Nat.le_refl 32) ?_)
  refine R_nil ?_
  repeat (first | refine S_scope ?_ | refine S_label ?_ | refine E_noGoto_normal ?_ | refine E_noGoto_ret ?_ | refine E_noGoto_exit ?_ | refine S_yes rfl (by first | with_reducible rfl | decide) ?_ | refine S_no rfl (by first | with_reducible rfl | decide) ?_ | refine S_seq ?_ | refine E_seq ?_ | refine S_block ?_ | refine E_block_normal ?_ | refine S_skip ?_ | refine S_exit ?_ | refine S_ret ?_ | refine E_then_exit ?_ | refine E_then_ret ?_ | refine E_block_ret ?_ | refine E_block_exit ?_ | refine E_block_exit_other rfl ?_)
  rw [lay_whole (by rw [hbo]; rfl)]
  refine S_region ?_
  refine R_cons rfl (op_pure (p_assign rfl) rfl ?_)
  refine R_nil ?_
  repeat (first | refine S_scope ?_ | refine S_label ?_ | refine E_noGoto_normal ?_ | refine E_noGoto_ret ?_ | refine E_noGoto_exit ?_ | refine S_yes rfl (by first | with_reducible rfl | decide) ?_ | refine S_no rfl (by first | with_reducible rfl | decide) ?_ | refine S_seq ?_ | refine E_seq ?_ | refine S_block ?_ | refine E_block_normal ?_ | refine S_skip ?_ | refine S_exit ?_ | refine S_ret ?_ | refine E_then_exit ?_ | refine E_then_ret ?_ | refine E_block_ret ?_ | refine E_block_exit ?_ | refine E_block_exit_other rfl ?_)
  refine S_loop (fun i : Nat => [(9, .int .i64 (i : Int)), (8, .pointer (some ⟨b8, 0, none⟩)), (7, .pointer (some ⟨b7, 0, none⟩)), (5, .pointer (some ⟨b5, 0, none⟩)), (4, .int .u32 (idx.toNat : Int)), (3, .pointer (some ⟨b3, 0, none⟩)), (2, .bool false)])
    (fun i => [(b8, .cells (bytesV (mixB m o i)).toArray 23 (0, 0)), (b7, .cells (sumsV (signL seed idx.toNat m)).toArray 26 (0, 0)), (b5, .cells (bytesV m).toArray 23 (0, 0)), (b3, .cells (bytesV seed).toArray 23 (0, 0))]) (fun i => i ≤ 8) (fun i => 8 - i) 0 (Nat.zero_le _) (by repeat (first | exact Sub.nil | refine Sub.cons rfl ?_)) (.keep (by rw [hm0]) (by repeat (first | exact Fewer.nil | refine Fewer.keep rfl ?_ | refine Fewer.drop ?_))) ?_
  intro i hi
  by_cases hlt : i < 8
  · have g1 : decide ((i : Int) < 8) = true := decide_eq_true (by omega)
    have hadd : IntKind.i64.wrap ((i : Int) + 1) = ((i + 1 : Nat) : Int) := by rw [w_in_i64 (by omega)]; omega
    have hst := hstep i hlt
    have hl8 := hml i hi
    have hi32 : i < 32 := by omega
    have hcell : (bytesV m)[0 + i]? = some (.int .u8 ((m.getD i 0).toNat : Int)) := by rw [Nat.zero_add]; exact bytesV_get (by omega)
    repeat (first | refine S_scope ?_ | refine S_label ?_ | refine E_noGoto_normal ?_ | refine E_noGoto_ret ?_ | refine E_noGoto_exit ?_ | refine S_yes rfl (by first | with_reducible rfl | decide) ?_ | refine S_no rfl (by first | with_reducible rfl | decide) ?_ | refine S_seq ?_ | refine E_seq ?_ | refine S_block ?_ | refine E_block_normal ?_ | refine S_skip ?_ | refine S_exit ?_ | refine S_ret ?_ | refine E_then_exit ?_ | refine E_then_ret ?_ | refine E_block_ret ?_ | refine E_block_exit ?_ | refine E_block_exit_other rfl ?_)
    refine S_region ?_
    refine R_cons rfl (op_pure (p_move rfl) rfl ?_)
    refine R_cons rfl (op_pure (p_bin rfl rfl (b_lss g1)) rfl ?_)
    refine R_nil ?_
    repeat (first | refine S_scope ?_ | refine S_label ?_ | refine E_noGoto_normal ?_ | refine E_noGoto_ret ?_ | refine E_noGoto_exit ?_ | refine S_yes rfl (by first | with_reducible rfl | decide) ?_ | refine S_no rfl (by first | with_reducible rfl | decide) ?_ | refine S_seq ?_ | refine E_seq ?_ | refine S_block ?_ | refine E_block_normal ?_ | refine S_skip ?_ | refine S_exit ?_ | refine S_ret ?_ | refine E_then_exit ?_ | refine E_then_ret ?_ | refine E_block_ret ?_ | refine E_block_exit ?_ | refine E_block_exit_other rfl ?_)
    refine S_region ?_
    refine R_cons rfl (op_pure (p_move rfl) rfl ?_)
    refine R_cons rfl (op_pure (p_move rfl) rfl ?_)
    refine R_cons rfl (op_pure (p_indexArr (j := i) rfl rfl rfl arr_Sum hi32) rfl ?_)
    refine R_cons rfl (op_pure (p_load rfl sc_u8 (by repeat (first | exact List.Mem.head _ | apply List.Mem.tail)) hcell) rfl ?_)
    refine R_cons rfl (op_pure (p_indexArr (j := i) rfl rfl rfl arr_Sum hi32) rfl ?_)
    refine R_cons rfl (op_store rfl rfl rfl sc_u8 (by repeat (first | exact At.here | apply At.there)) (by rw [hl8]; omega) ?_)
    refine R_nil ?_
    repeat (first | refine S_scope ?_ | refine S_label ?_ | refine E_noGoto_normal ?_ | refine E_noGoto_ret ?_ | refine E_noGoto_exit ?_ | refine S_yes rfl (by first | with_reducible rfl | decide) ?_ | refine S_no rfl (by first | with_reducible rfl | decide) ?_ | refine S_seq ?_ | refine E_seq ?_ | refine S_block ?_ | refine E_block_normal ?_ | refine S_skip ?_ | refine S_exit ?_ | refine S_ret ?_ | refine E_then_exit ?_ | refine E_then_ret ?_ | refine E_block_ret ?_ | refine E_block_exit ?_ | refine E_block_exit_other rfl ?_)
    rw [hst]
    refine S_region ?_
    refine R_cons rfl (op_pure (p_move rfl) rfl ?_)
    refine R_cons rfl (op_pure (p_bin rfl rfl (b_add hadd)) rfl ?_)
    refine R_cons rfl (op_pure (p_assign rfl) rfl ?_)
    refine R_nil ?_
    repeat (first | refine S_scope ?_ | refine S_label ?_ | refine E_noGoto_normal ?_ | refine E_noGoto_ret ?_ | refine E_noGoto_exit ?_ | refine S_yes rfl (by first | with_reducible rfl | decide) ?_ | refine S_no rfl (by first | with_reducible rfl | decide) ?_ | refine S_seq ?_ | refine E_seq ?_ | refine S_block ?_ | refine E_block_normal ?_ | refine S_skip ?_ | refine S_exit ?_ | refine S_ret ?_ | refine E_then_exit ?_ | refine E_then_ret ?_ | refine E_block_ret ?_ | refine E_block_exit ?_ | refine E_block_exit_other rfl ?_)
    exact E_round (i + 1) (by omega) (by omega) (by repeat (first | exact Sub.nil | refine Sub.cons rfl ?_)) (Fewer.refl _)
  · have g1 : decide ((i : Int) < 8) = false := decide_eq_false (by omega)
    obtain rfl : i = 8 := by omega
    have hbx : (bytesV (mixB m o 8)).length = 32 := hml 8 (Nat.le_refl _)
    clear hi hlt hml hstep hbits
    repeat (first | refine S_scope ?_ | refine S_label ?_ | refine E_noGoto_normal ?_ | refine E_noGoto_ret ?_ | refine E_noGoto_exit ?_ | refine S_yes rfl (by first | with_reducible rfl | decide) ?_ | refine S_no rfl (by first | with_reducible rfl | decide) ?_ | refine S_seq ?_ | refine E_seq ?_ | refine S_block ?_ | refine E_block_normal ?_ | refine S_skip ?_ | refine S_exit ?_ | refine S_ret ?_ | refine E_then_exit ?_ | refine E_then_ret ?_ | refine E_block_ret ?_ | refine E_block_exit ?_ | refine E_block_exit_other rfl ?_)
    refine S_region ?_
    refine R_cons rfl (op_pure (p_move rfl) rfl ?_)
    refine R_cons rfl (op_pure (p_bin rfl rfl (b_lss g1)) rfl ?_)
    refine R_nil ?_
    repeat (first | refine S_scope ?_ | refine S_label ?_ | refine E_noGoto_normal ?_ | refine E_noGoto_ret ?_ | refine E_noGoto_exit ?_ | refine S_yes rfl (by first | with_reducible rfl | decide) ?_ | refine S_no rfl (by first | with_reducible rfl | decide) ?_ | refine S_seq ?_ | refine E_seq ?_ | refine S_block ?_ | refine E_block_normal ?_ | refine S_skip ?_ | refine S_exit ?_ | refine S_ret ?_ | refine E_then_exit ?_ | refine E_then_ret ?_ | refine E_block_ret ?_ | refine E_block_exit ?_ | refine E_block_exit_other rfl ?_)
    refine S_quiet (by kernel_rfl) (by kernel_rfl) ?_
    refine Q_cons (Still1.of_pure (p_loadRow rfl row_Sum (by repeat (first | exact List.Mem.head _ | apply List.Mem.tail)) hbm)) rfl ?_
    refine Q_cons (Still1.of_pure (p_loadRow rfl row_api_Once (by repeat (first | exact List.Mem.head _ | apply List.Mem.tail)) hsv)) rfl ?_
    refine Q_cons (still_call rfl rfl Try.func12 rfl (by kernel_rfl) (Nat.le_refl _) (fun w' _ => once_of_any m hm32 _ hss hsn w')) rfl ?_
    refine Q_cons (Still1.of_pure (p_loadRow rfl row_Sum (by repeat (first | exact List.Mem.head _ | apply List.Mem.tail)) hbs)) rfl ?_
    refine Q_cons (Still1.of_pure (p_move rfl)) rfl ?_
    refine Q_cons (still_call rfl rfl Try.func16 rfl (by kernel_rfl) (Nat.le_refl _) (fun w' _ => public_any seed hs idx w')) rfl ?_
    refine Q_cons (Still1.of_pure (p_eql_bytesR rfl rfl arr_Sum.1 Try.underlying5 (by kernel_rfl) (by kernel_rfl) l1 l2 hfin)) rfl ?_
    refine Q_cons (Still1.of_pure (p_move rfl)) rfl ?_
    first | refine Q_pass rfl rfl rfl rfl ?_ | refine Q_pass_undef rfl rfl rfl ?_ | refine Q_guard rfl rfl (Still1.of_pure (p_loadRow rfl row_Sum (by repeat (first | exact List.Mem.head _ | apply List.Mem.tail)) hbs)) rfl ?_
    first | refine Q_pass rfl rfl rfl rfl ?_ | refine Q_pass_undef rfl rfl rfl ?_ | refine Q_guard rfl rfl (Still1.of_pure (p_move rfl)) rfl ?_
    first | refine Q_pass rfl rfl rfl rfl ?_ | refine Q_pass_undef rfl rfl rfl ?_ | refine Q_guard rfl rfl (Still1.of_pure (p_loadRow rfl row_Sum (by repeat (first | exact List.Mem.head _ | apply List.Mem.tail)) hbx)) rfl ?_
    first | refine Q_pass rfl rfl rfl rfl ?_ | refine Q_pass_undef rfl rfl rfl ?_ | refine Q_guard rfl rfl (still_call rfl rfl Try.func15 rfl (by kernel_rfl) (Nat.le_refl _) (fun w' _ => by have h := sign_any seed hs idx (mixB m o 8) hx32 w'; rw [hsx] at h; exact h)) rfl ?_
    first | refine Q_pass rfl rfl rfl rfl ?_ | refine Q_pass_undef rfl rfl rfl ?_ | refine Q_guard rfl rfl (Still1.of_pure (p_loadRow rfl row_api_Once (by repeat (first | exact List.Mem.head _ | apply List.Mem.tail)) hsv)) rfl ?_
    first | refine Q_pass rfl rfl rfl rfl ?_ | refine Q_pass_undef rfl rfl rfl ?_ | refine Q_guard rfl rfl (Still1.of_pure (p_eqlSelf rfl rfl (by kernel_rfl) (eqOnce _ hss hsn))) rfl ?_
    refine Q_cons (Still1.of_pure (by first | exact p_pick_yes rfl rfl | exact p_pick_no rfl rfl | exact p_pick rfl rfl rfl)) rfl ?_
    refine Q_cons (Still1.of_pure (p_move rfl)) rfl ?_
    first | refine Q_pass rfl rfl rfl rfl ?_ | refine Q_pass_undef rfl rfl rfl ?_ | refine Q_guard rfl rfl (Still1.of_pure (p_loadRow rfl row_Sum (by repeat (first | exact List.Mem.head _ | apply List.Mem.tail)) hbx)) rfl ?_
    first | refine Q_pass rfl rfl rfl rfl ?_ | refine Q_pass_undef rfl rfl rfl ?_ | refine Q_guard rfl rfl (Still1.of_pure (p_loadRow rfl row_api_Once (by repeat (first | exact List.Mem.head _ | apply List.Mem.tail)) hsv)) rfl ?_
    first | refine Q_pass rfl rfl rfl rfl ?_ | refine Q_pass_undef rfl rfl rfl ?_ | refine Q_guard rfl rfl (still_call rfl rfl Try.func12 rfl (by kernel_rfl) (Nat.le_refl _) (fun w' _ => by have h := once_of_any (mixB m o 8) hx32 _ hss hsn w'; rw [hox] at h; exact h)) rfl ?_
    first | refine Q_pass rfl rfl rfl rfl ?_ | refine Q_pass_undef rfl rfl rfl ?_ | refine Q_guard rfl rfl (Still1.of_pure (p_loadRow rfl row_Sum (by repeat (first | exact List.Mem.head _ | apply List.Mem.tail)) hbm)) rfl ?_
    first | refine Q_pass rfl rfl rfl rfl ?_ | refine Q_pass_undef rfl rfl rfl ?_ | refine Q_guard rfl rfl (Still1.of_pure (p_loadRow rfl row_api_Once (by repeat (first | exact List.Mem.head _ | apply List.Mem.tail)) hsv)) rfl ?_
    first | refine Q_pass rfl rfl rfl rfl ?_ | refine Q_pass_undef rfl rfl rfl ?_ | refine Q_guard rfl rfl (still_call rfl rfl Try.func12 rfl (by kernel_rfl) (Nat.le_refl _) (fun w' _ => once_of_any m hm32 _ hss hsn w')) rfl ?_
    first | refine Q_pass rfl rfl rfl rfl ?_ | refine Q_pass_undef rfl rfl rfl ?_ | refine Q_guard rfl rfl (Still1.of_pure (p_eql_bytesR rfl rfl arr_Sum.1 Try.underlying5 (by kernel_rfl) (by kernel_rfl) l1 l1 (r := true) (beq_self_eq_true _))) rfl ?_
    refine Q_cons (Still1.of_pure (by first | exact p_pick_yes rfl rfl | exact p_pick_no rfl rfl | exact p_pick rfl rfl rfl)) rfl ?_
    refine Q_cons (Still1.of_pure (p_move rfl)) rfl ?_
    first | refine Q_pass rfl rfl rfl rfl ?_ | refine Q_pass_undef rfl rfl rfl ?_ | refine Q_guard rfl rfl (still_call rfl rfl Try.func14 rfl (by kernel_rfl) (Nat.le_refl _) (fun w' _ => lives19 w')) rfl ?_
    refine Q_cons (Still1.of_pure (by first | exact p_pick_yes rfl rfl | exact p_pick_no rfl rfl | exact p_pick rfl rfl rfl)) rfl ?_
    refine Q_cons (Still1.of_pure (p_assign rfl)) rfl ?_
    refine Q_nil ?_
    repeat (first | refine S_scope ?_ | refine S_label ?_ | refine E_noGoto_normal ?_ | refine E_noGoto_ret ?_ | refine E_noGoto_exit ?_ | refine S_yes rfl (by first | with_reducible rfl | decide) ?_ | refine S_no rfl (by first | with_reducible rfl | decide) ?_ | refine S_seq ?_ | refine E_seq ?_ | refine S_block ?_ | refine E_block_normal ?_ | refine S_skip ?_ | refine S_exit ?_ | refine S_ret ?_ | refine E_then_exit ?_ | refine E_then_ret ?_ | refine E_block_ret ?_ | refine E_block_exit ?_ | refine E_block_exit_other rfl ?_)
    exact E_ret1 rfl rfl fun w' hm => ⟨rfl, hm.below⟩
end

theorem own : ownKnob Try.prog.godebug = none := by kernel_rfl
theorem laidOut : laidOutB Try.prog = true := by kernel_rfl
set_option maxRecDepth 100000 in
theorem lifted (os : Os) (started : os.Started) (H : Type) (enc : TypeId × Value → H) :
    ReturnsInHanded {} Try.checked os 4 .any (Rows.oncesBackSpec.pre6 enc Try.prog Try.f4 Rows.oncesBackRow.domain false) (Rows.oncesBackSpec.post enc Try.prog Try.f4 false true false false) := by
  refine returnsInHanded_of_change (C := Try.checked) own started (by kernel_rfl) Try.func4
    (ChangeSpec.witness6 (enc := enc) (C := Try.checked) false ⟨#[], #[.agg ((bytesV (List.replicate 32 0) ++ ([Value.int .u32 0] ++ (bytesV (List.replicate 32 0) ++ (bytesV (List.replicate 32 0)))))).toArray], []⟩ 8 (by kernel_rfl) (by kernel_rfl) (by kernel_rfl) (by kernel_rfl)) ?_
  intro W base args ds gs before hval0 hW hcnd _
  have hval : ∀ (j : Nat) t v, Try.f4.params[j]? = some t → args[j]? = some v → Value.okWide Try.prog W .any base t v := hval0
  have hW' := hW
  obtain ⟨p, q, hA0, hV, rfl, hfz, hnd⟩ := hW
  have hA : DataW.TrodAll enc Try.prog W 0 (fun _ => true) true Try.f4.params.toList args.toList ds p := hA0
  rw [Try.params4] at hA hval
  obtain ⟨v0, vs0, d0, ds0, p0, q0, hargs, rfl, rfl, h0, r0⟩ := trodAll_cons hA
  obtain ⟨rfl, rfl, rfl⟩ := trodAll_nil r0
  obtain rfl : args = #[v0] := by cases args; simp_all
  obtain ⟨rfl, rfl⟩ := trodVars_none hV
  have k0 := h0
  have lt0 : ∀ x ∈ p0, x.block < W.heap.size := by obtain ⟨m, hm⟩ := k0; exact DataW.trod_lt m _ _ _ hm
  obtain ⟨⟨cs0⟩, rfl, _⟩ := okWide_struct Try.underlying32 (hval 0 32 v0 rfl rfl)
  have q0 := k0
  obtain ⟨fu0, g0⟩ := q0
  obtain ⟨ys0, m0, _, _, hl0, hy0, hg0⟩ := DataW.trod_struct Try.underlying32 g0
  obtain ⟨x0_0, r0_0⟩ := fld (i := 0) (o := 0) (s := 32) (ty := 23) hg0 hy0 rfl rfl rfl (by kernel_rfl)
  obtain ⟨a0_0, e0_0, l0_0⟩ := open_sum Try.underlying23 Try.underlying5 (by kernel_rfl) (by kernel_rfl) r0_0
  obtain ⟨x0_1, r0_1⟩ := fld (i := 1) (o := 32) (s := 1) (ty := 30) hg0 hy0 rfl rfl rfl (by kernel_rfl)
  obtain ⟨a0_1, e0_1⟩ := open_u32 Try.underlying30 r0_1
  obtain ⟨x0_2, r0_2⟩ := fld (i := 2) (o := 33) (s := 32) (ty := 23) hg0 hy0 rfl rfl rfl (by kernel_rfl)
  obtain ⟨a0_2, e0_2, l0_2⟩ := open_sum Try.underlying23 Try.underlying5 (by kernel_rfl) (by kernel_rfl) r0_2
  obtain ⟨x0_3, r0_3⟩ := fld (i := 3) (o := 65) (s := 32) (ty := 23) hg0 hy0 rfl rfl rfl (by kernel_rfl)
  obtain ⟨a0_3, e0_3, l0_3⟩ := open_sum Try.underlying23 Try.underlying5 (by kernel_rfl) (by kernel_rfl) r0_3
  have e0 := part_all (part_cons e0_0 (part_cons e0_1 (part_cons e0_2 (part_last e0_3 (by rw [hl0]; kernel_rfl)))))
  simp only [Value.cells] at e0
  subst e0
  clear hA0 hval0
  refine (walk W a0_0 l0_0 a0_1 a0_2 l0_2 a0_3 l0_3).mono fun e W' ⟨he, bel⟩ => ?_
  subst he
  exact ⟨_, rfl, _, _, _, [], _, [], hW', trodAll_mk1 (shut_bool Try.underlying4 _), (trodAll_cons_mk (Below.trod laidOut (by kernel_rfl) (of_decide_eq_true (by kernel_rfl)) k0 bel lt0) trodAll_mk0), rfl, bel.frame _, fun h => by cases h⟩
/-- The statement. -/
theorem proved : Rows.OncesBackSaid :=
  OpenClaim.holds_of_wide 4 Try.f4 rfl rfl rfl rfl rfl rfl rfl ⟨rfl, rfl, rfl, rfl, rfl⟩ rfl rfl rfl rfl rfl (by kernel_rfl) Try.func4 (by kernel_rfl)
    (of_decide_eq_true (by kernel_rfl)) (by unfold Func.isWrapper; first | (rw [if_pos (by decide +kernel)]; kernel_rfl) | (rw [if_neg (by decide +kernel)]; exact ⟨rfl, rfl⟩))
    (fun os started H enc _ => lifted os started H enc)
#print axioms proved
end Go.Proofs.Ytfdlafjifjndeaa.oncesBack
