/-
  Proved: two messages that part in bits are signed alike in all others. No condition.
-/
import Derived.Test.YtfdlafjifjndeaaRows
import Derived.Test.YtfdlafjifjndeaaOnce3
namespace Go.Proofs.Ytfdlafjifjndeaa.oncesTurned
open Go.ChangeShapes Go.WideShapes Go.ChangeAt Go.Sha
open Go.RowKit Go.K
attribute [local irreducible] Exit.then Exit.inBlock Exit.noGoto bodyPost Code.wp QL Sx Rx Qx Ex Dx Op1 Pure1 Still1 K.Sub Calm Code.wpIn
set_option linter.unusedVariables false
theorem row_almonerlaw19_Turned : Row Try.prog 43 97 := ⟨_, Try.underlying43, rfl, by kernel_rfl⟩
theorem zero_almonerlaw19_Turned : Zr Try.prog 43 ((bytesV (List.replicate 32 0) ++ ([Value.int .u32 0] ++ (bytesV (List.replicate 32 0) ++ (bytesV (List.replicate 32 0)))))) := by unfold Zr; kernel_rfl
theorem elr_almonerlaw19_Turned : ElR Try.prog 43 (.agg ((bytesV (List.replicate 32 0) ++ ([Value.int .u32 0] ++ (bytesV (List.replicate 32 0) ++ (bytesV (List.replicate 32 0)))))).toArray) 97 100 := by
  obtain ⟨i, h1, h2, h3, h4⟩ := info_parts (show (Try.prog.info? 43).map (fun i => (i.zero, i.size, i.bytes)) = some (some (.agg ((bytesV (List.replicate 32 0) ++ ([Value.int .u32 0] ++ (bytesV (List.replicate 32 0) ++ (bytesV (List.replicate 32 0)))))).toArray), 97, 100) from by kernel_rfl)
  exact ⟨i, h1, h2, h3, h4, rfl⟩
theorem fd_almonerlaw19_Turned_0 : FldAt Try.prog 43 0 0 := ⟨_, _, 31, Try.underlying43, rfl, rfl, by kernel_rfl⟩
theorem fd_almonerlaw19_Turned_1 : FldAt Try.prog 43 1 32 := ⟨_, _, 0, Try.underlying43, rfl, rfl, by kernel_rfl⟩
theorem fd_almonerlaw19_Turned_2 : FldAt Try.prog 43 2 33 := ⟨_, _, 31, Try.underlying43, rfl, rfl, by kernel_rfl⟩
theorem fd_almonerlaw19_Turned_3 : FldAt Try.prog 43 3 65 := ⟨_, _, 31, Try.underlying43, rfl, rfl, by kernel_rfl⟩
theorem blt_almonerlaw19_Turned : ∀ parts, Try.prog.built 43 parts = Instr.fill (fun i => [(0, 32), (32, 1), (33, 32), (65, 32)].toArray[i]?) ((bytesV (List.replicate 32 0) ++ ([Value.int .u32 0] ++ (bytesV (List.replicate 32 0) ++ (bytesV (List.replicate 32 0)))))).toArray parts := fun parts => by kernel_rfl

def turnedV (seed : List UInt8) (idx : UInt32) (m o : List UInt8) : List Value := bytesV seed ++ ([.int .u32 (idx.toNat : Int)] ++ (bytesV m ++ bytesV o))
theorem turned_len (seed : List UInt8) (idx : UInt32) (m o : List UInt8) (hs : seed.length = 32) (hm : m.length = 32) (ho : o.length = 32) : (turnedV seed idx m o).length = 97 := by
  unfold turnedV; simp [bytesV_length, hs, hm, ho]
theorem turned_0 (seed : List UInt8) (idx : UInt32) (m o : List UInt8) (hs : seed.length = 32) : ((turnedV seed idx m o).drop 0).take 32 = bytesV seed := by
  unfold turnedV
  rw [List.drop_zero, List.take_append_of_le_length (by rw [bytesV_length]; omega), List.take_of_length_le (by rw [bytesV_length]; omega)]
theorem turned_1 (seed : List UInt8) (idx : UInt32) (m o : List UInt8) (hs : seed.length = 32) : (turnedV seed idx m o)[32]? = some (.int .u32 (idx.toNat : Int)) := by
  unfold turnedV
  rw [List.getElem?_append_right (by rw [bytesV_length]; omega), bytesV_length, hs]
  rfl
theorem turned_2 (seed : List UInt8) (idx : UInt32) (m o : List UInt8) (hs : seed.length = 32) (hm : m.length = 32) : ((turnedV seed idx m o).drop 33).take 32 = bytesV m := by
  unfold turnedV
  rw [List.drop_append, List.drop_eq_nil_of_le (by rw [bytesV_length]; omega), bytesV_length, hs, List.nil_append]
  show (List.drop 0 (bytesV m ++ bytesV o)).take 32 = _
  rw [List.drop_zero, List.take_append_of_le_length (by rw [bytesV_length]; omega), List.take_of_length_le (by rw [bytesV_length]; omega)]
theorem turned_3 (seed : List UInt8) (idx : UInt32) (m o : List UInt8) (hs : seed.length = 32) (hm : m.length = 32) (ho : o.length = 32) : ((turnedV seed idx m o).drop 65).take 32 = bytesV o := by
  unfold turnedV
  rw [List.drop_append, List.drop_eq_nil_of_le (by rw [bytesV_length]; omega), bytesV_length, hs, List.nil_append]
  show (List.drop 32 (bytesV m ++ bytesV o)).take 32 = _
  rw [List.drop_append, List.drop_eq_nil_of_le (by rw [bytesV_length]; omega), bytesV_length, hm, List.nil_append, Nat.sub_self, List.drop_zero, List.take_of_length_le (by rw [bytesV_length]; omega)]
theorem and1u : ∀ q, q < 256 → bits .and .u8 ((q : Nat) : Int) 1 = ((q % 2 : Nat) : Int) := by decide +kernel
theorem parts_iff (a b : UInt8) (s : Nat) : (a ^^^ b).toNat / 2 ^ s % 2 = 0 ↔ a.toNat / 2 ^ s % 2 = b.toNat / 2 ^ s % 2 := by
  have h := Nat.testBit_xor a.toNat b.toNat s
  rw [← UInt8.toNat_xor, Nat.testBit_eq_decide_div_mod_eq, Nat.testBit_eq_decide_div_mod_eq, Nat.testBit_eq_decide_div_mod_eq] at h
  generalize (a ^^^ b).toNat / 2 ^ s = x at *
  generalize a.toNat / 2 ^ s = y at *
  generalize b.toNat / 2 ^ s = z at *
  have hx : x % 2 = 0 ∨ x % 2 = 1 := by omega
  have hy : y % 2 = 0 ∨ y % 2 = 1 := by omega
  have hz : z % 2 = 0 ∨ z % 2 = 1 := by omega
  rcases hx with hx | hx <;> rcases hy with hy | hy <;> rcases hz with hz | hz <;> simp [hx, hy, hz] at h ⊢

section
attribute [local irreducible] sha total Buf.hp Buf.cap Buf.addr ofS pubS signL turnedV sumsV secN bitN
set_option maxHeartbeats 4000000 in
theorem walk (w : World) (seed : List UInt8) (hs : seed.length = 32) (idx : UInt32) (m : List UInt8) (hm32 : m.length = 32) (o : List UInt8) (ho : o.length = 32) :
    Calls Try.prog 6 [.agg (turnedV seed idx m o).toArray].toArray w fun e w' => e = .returned (.bool true) ∧ Below w.heap.size w w' := by
  have f0 := turned_0 seed idx m o hs
  have f1 := turned_1 seed idx m o hs
  have f2 := turned_2 seed idx m o hs hm32
  have f3 := turned_3 seed idx m o hs hm32 ho
  have fl := turned_len seed idx m o hs hm32 ho
  generalize turnedV seed idx m o = cs at *
  have hrow : ∀ q, q ≤ 65 → q + 32 ≤ cs.length := fun q hq => by omega
  have hss : Sums (signL seed idx.toNat m) := signL_sums seed idx.toNat m
  have hsn : (signL seed idx.toNat m).length = 128 := signL_length seed idx.toNat m
  have hsv : (sumsV (signL seed idx.toNat m)).length = 4096 := by rw [sumsV_length hss, hsn]
  have oss : Sums (signL seed idx.toNat o) := signL_sums seed idx.toNat o
  have osn : (signL seed idx.toNat o).length = 128 := signL_length seed idx.toNat o
  have osv : (sumsV (signL seed idx.toNat o)).length = 4096 := by rw [sumsV_length oss, osn]
  have hbs : (bytesV seed).length = 32 := by rw [bytesV_length, hs]
  have hbm : (bytesV m).length = 32 := by rw [bytesV_length, hm32]
  have hbo : (bytesV o).length = 32 := by rw [bytesV_length, ho]
  have hz4096 : 4096 ≤ (bytesV (List.replicate 2048 0) ++ (bytesV (List.replicate 2048 0))).length := by rw [List.length_append, bytesV_length, List.length_replicate]; omega
  clear fl
  refine enter Try.func6 rfl Try.ntmps6 (by simp) ?_
  repeat (first | refine S_scope ?_ | refine S_label ?_ | refine E_noGoto_normal ?_ | refine E_noGoto_ret ?_ | refine E_noGoto_exit ?_ | refine S_yes rfl (by first | with_reducible rfl | decide) ?_ | refine S_no rfl (by first | with_reducible rfl | decide) ?_ | refine S_seq ?_ | refine E_seq ?_ | refine S_block ?_ | refine E_block_normal ?_ | refine S_skip ?_ | refine S_exit ?_ | refine S_ret ?_ | refine E_then_exit ?_ | refine E_then_ret ?_ | refine E_block_ret ?_ | refine E_block_exit ?_ | refine E_block_exit_other rfl ?_)
  refine S_region ?_
  refine R_cons rfl (op_boxRow rfl rfl (Nat.le_refl _) (fun b1 => ?_))
  refine R_cons rfl (op_pure (p_assign rfl) rfl ?_)
  refine R_nil ?_
  repeat (first | refine S_scope ?_ | refine S_label ?_ | refine E_noGoto_normal ?_ | refine E_noGoto_ret ?_ | refine E_noGoto_exit ?_ | refine S_yes rfl (by first | with_reducible rfl | decide) ?_ | refine S_no rfl (by first | with_reducible rfl | decide) ?_ | refine S_seq ?_ | refine E_seq ?_ | refine S_block ?_ | refine E_block_normal ?_ | refine S_skip ?_ | refine S_exit ?_ | refine S_ret ?_ | refine E_then_exit ?_ | refine E_then_ret ?_ | refine E_block_ret ?_ | refine E_block_exit ?_ | refine E_block_exit_other rfl ?_)
  refine S_region ?_
  refine R_cons rfl (op_pure (by first | exact p_fieldAddr0 rfl fd_almonerlaw19_Turned_0 | exact p_fieldAddr rfl fd_almonerlaw19_Turned_0) rfl ?_)
  refine R_cons rfl (op_pure (p_loadPart rfl row_Sum (by repeat (first | exact List.Mem.head _ | apply List.Mem.tail)) (hrow 0 (by decide)) f0) rfl ?_)
  refine R_cons rfl (op_allocRow zero_Sum rfl (Nat.le_refl _) (fun b3 => ?_))
  refine R_cons rfl (op_storeRow rfl rfl (bytesV_one _) row_Sum hbs (by repeat (first | exact At.here | apply At.there)) (by rw [hbs]; exact Nat.le_refl 32) ?_)
  refine R_nil ?_
  repeat (first | refine S_scope ?_ | refine S_label ?_ | refine E_noGoto_normal ?_ | refine E_noGoto_ret ?_ | refine E_noGoto_exit ?_ | refine S_yes rfl (by first | with_reducible rfl | decide) ?_ | refine S_no rfl (by first | with_reducible rfl | decide) ?_ | refine S_seq ?_ | refine E_seq ?_ | refine S_block ?_ | refine E_block_normal ?_ | refine S_skip ?_ | refine S_exit ?_ | refine S_ret ?_ | refine E_then_exit ?_ | refine E_then_ret ?_ | refine E_block_ret ?_ | refine E_block_exit ?_ | refine E_block_exit_other rfl ?_)
  rw [lay_whole (by rw [hbs]; rfl)]
  refine S_region ?_
  refine R_cons rfl (op_pure (by first | exact p_fieldAddr0 rfl fd_almonerlaw19_Turned_1 | exact p_fieldAddr rfl fd_almonerlaw19_Turned_1) rfl ?_)
  refine R_cons rfl (op_pure (p_load rfl sc_u32 (by repeat (first | exact List.Mem.head _ | apply List.Mem.tail)) f1) rfl ?_)
  refine R_cons rfl (op_pure (p_assign rfl) rfl ?_)
  refine R_nil ?_
  repeat (first | refine S_scope ?_ | refine S_label ?_ | refine E_noGoto_normal ?_ | refine E_noGoto_ret ?_ | refine E_noGoto_exit ?_ | refine S_yes rfl (by first | with_reducible rfl | decide) ?_ | refine S_no rfl (by first | with_reducible rfl | decide) ?_ | refine S_seq ?_ | refine E_seq ?_ | refine S_block ?_ | refine E_block_normal ?_ | refine S_skip ?_ | refine S_exit ?_ | refine S_ret ?_ | refine E_then_exit ?_ | refine E_then_ret ?_ | refine E_block_ret ?_ | refine E_block_exit ?_ | refine E_block_exit_other rfl ?_)
  refine S_region ?_
  refine R_cons rfl (op_pure (by first | exact p_fieldAddr0 rfl fd_almonerlaw19_Turned_2 | exact p_fieldAddr rfl fd_almonerlaw19_Turned_2) rfl ?_)
  refine R_cons rfl (op_pure (p_loadPart rfl row_Sum (by repeat (first | exact List.Mem.head _ | apply List.Mem.tail)) (hrow 33 (by decide)) f2) rfl ?_)
  refine R_cons rfl (op_allocRow zero_Sum rfl (Nat.le_refl _) (fun b5 => ?_))
  refine R_cons rfl (op_storeRow rfl rfl (bytesV_one _) row_Sum hbm (by repeat (first | exact At.here | apply At.there)) (by rw [hbm]; exact Nat.le_refl 32) ?_)
  refine R_nil ?_
  repeat (first | refine S_scope ?_ | refine S_label ?_ | refine E_noGoto_normal ?_ | refine E_noGoto_ret ?_ | refine E_noGoto_exit ?_ | refine S_yes rfl (by first | with_reducible rfl | decide) ?_ | refine S_no rfl (by first | with_reducible rfl | decide) ?_ | refine S_seq ?_ | refine E_seq ?_ | refine S_block ?_ | refine E_block_normal ?_ | refine S_skip ?_ | refine S_exit ?_ | refine S_ret ?_ | refine E_then_exit ?_ | refine E_then_ret ?_ | refine E_block_ret ?_ | refine E_block_exit ?_ | refine E_block_exit_other rfl ?_)
  rw [lay_whole (by rw [hbm]; rfl)]
  refine S_region ?_
  refine R_cons rfl (op_pure (by first | exact p_fieldAddr0 rfl fd_almonerlaw19_Turned_3 | exact p_fieldAddr rfl fd_almonerlaw19_Turned_3) rfl ?_)
  refine R_cons rfl (op_pure (p_loadPart rfl row_Sum (by repeat (first | exact List.Mem.head _ | apply List.Mem.tail)) (hrow 65 (by decide)) f3) rfl ?_)
  refine R_cons rfl (op_allocRow zero_Sum rfl (Nat.le_refl _) (fun b6 => ?_))
  refine R_cons rfl (op_storeRow rfl rfl (bytesV_one _) row_Sum hbo (by repeat (first | exact At.here | apply At.there)) (by rw [hbo]; exact Nat.le_refl 32) ?_)
  refine R_nil ?_
  repeat (first | refine S_scope ?_ | refine S_label ?_ | refine E_noGoto_normal ?_ | refine E_noGoto_ret ?_ | refine E_noGoto_exit ?_ | refine S_yes rfl (by first | with_reducible rfl | decide) ?_ | refine S_no rfl (by first | with_reducible rfl | decide) ?_ | refine S_seq ?_ | refine E_seq ?_ | refine S_block ?_ | refine E_block_normal ?_ | refine S_skip ?_ | refine S_exit ?_ | refine S_ret ?_ | refine E_then_exit ?_ | refine E_then_ret ?_ | refine E_block_ret ?_ | refine E_block_exit ?_ | refine E_block_exit_other rfl ?_)
  rw [lay_whole (by rw [hbo]; rfl)]
  refine S_region ?_
  refine R_cons rfl (op_pure (p_loadRow rfl row_Sum (by repeat (first | exact List.Mem.head _ | apply List.Mem.tail)) hbs) rfl ?_)
  refine R_cons rfl (op_pure (p_move rfl) rfl ?_)
  refine R_cons rfl (op_pure (p_loadRow rfl row_Sum (by repeat (first | exact List.Mem.head _ | apply List.Mem.tail)) hbm) rfl ?_)
  refine R_cons rfl (op_callV rfl rfl Try.func15 rfl (by kernel_rfl) rfl (Nat.le_refl _) (fun w' _ => sign_any seed hs idx m hm32 w') ?_)
  refine R_cons rfl (op_allocRow zero_api_Once rfl (Nat.le_refl _) (fun b7 => ?_))
  refine R_cons rfl (op_storeRow rfl rfl (sumsV_one _) row_api_Once hsv (by repeat (first | exact At.here | apply At.there)) (by rw [Nat.zero_add, hsv]; exact hz4096) ?_)
  refine R_nil ?_
  repeat (first | refine S_scope ?_ | refine S_label ?_ | refine E_noGoto_normal ?_ | refine E_noGoto_ret ?_ | refine E_noGoto_exit ?_ | refine S_yes rfl (by first | with_reducible rfl | decide) ?_ | refine S_no rfl (by first | with_reducible rfl | decide) ?_ | refine S_seq ?_ | refine E_seq ?_ | refine S_block ?_ | refine E_block_normal ?_ | refine S_skip ?_ | refine S_exit ?_ | refine S_ret ?_ | refine E_then_exit ?_ | refine E_then_ret ?_ | refine E_block_ret ?_ | refine E_block_exit ?_ | refine E_block_exit_other rfl ?_)
  rw [lay_whole (by rw [List.length_append, bytesV_length, List.length_replicate, hsv])]
  refine S_region ?_
  refine R_cons rfl (op_pure (p_loadRow rfl row_Sum (by repeat (first | exact List.Mem.head _ | apply List.Mem.tail)) hbs) rfl ?_)
  refine R_cons rfl (op_pure (p_move rfl) rfl ?_)
  refine R_cons rfl (op_pure (p_loadRow rfl row_Sum (by repeat (first | exact List.Mem.head _ | apply List.Mem.tail)) hbo) rfl ?_)
  refine R_cons rfl (op_callV rfl rfl Try.func15 rfl (by kernel_rfl) rfl (Nat.le_refl _) (fun w' _ => sign_any seed hs idx o ho w') ?_)
  refine R_cons rfl (op_allocRow zero_api_Once rfl (Nat.le_refl _) (fun b8 => ?_))
  refine R_cons rfl (op_storeRow rfl rfl (sumsV_one _) row_api_Once osv (by repeat (first | exact At.here | apply At.there)) (by rw [Nat.zero_add, osv]; exact hz4096) ?_)
  refine R_nil ?_
  repeat (first | refine S_scope ?_ | refine S_label ?_ | refine E_noGoto_normal ?_ | refine E_noGoto_ret ?_ | refine E_noGoto_exit ?_ | refine S_yes rfl (by first | with_reducible rfl | decide) ?_ | refine S_no rfl (by first | with_reducible rfl | decide) ?_ | refine S_seq ?_ | refine E_seq ?_ | refine S_block ?_ | refine E_block_normal ?_ | refine S_skip ?_ | refine S_exit ?_ | refine S_ret ?_ | refine E_then_exit ?_ | refine E_then_ret ?_ | refine E_block_ret ?_ | refine E_block_exit ?_ | refine E_block_exit_other rfl ?_)
  rw [lay_whole (by rw [List.length_append, bytesV_length, List.length_replicate, osv])]
  refine S_region ?_
  refine R_cons rfl (op_pure (p_assign rfl) rfl ?_)
  refine R_nil ?_
  repeat (first | refine S_scope ?_ | refine S_label ?_ | refine E_noGoto_normal ?_ | refine E_noGoto_ret ?_ | refine E_noGoto_exit ?_ | refine S_yes rfl (by first | with_reducible rfl | decide) ?_ | refine S_no rfl (by first | with_reducible rfl | decide) ?_ | refine S_seq ?_ | refine E_seq ?_ | refine S_block ?_ | refine E_block_normal ?_ | refine S_skip ?_ | refine S_exit ?_ | refine S_ret ?_ | refine E_then_exit ?_ | refine E_then_ret ?_ | refine E_block_ret ?_ | refine E_block_exit ?_ | refine E_block_exit_other rfl ?_)
  refine S_loop (fun i : Nat => [(9, .int .i64 (i : Int)), (8, .pointer (some ⟨b8, 0, none⟩)), (7, .pointer (some ⟨b7, 0, none⟩)), (6, .pointer (some ⟨b6, 0, none⟩)), (5, .pointer (some ⟨b5, 0, none⟩)), (2, .bool false)])
    (fun i => [(b8, .cells (sumsV (signL seed idx.toNat o)).toArray 26 (0, 0)), (b7, .cells (sumsV (signL seed idx.toNat m)).toArray 26 (0, 0)), (b6, .cells (bytesV o).toArray 23 (0, 0)), (b5, .cells (bytesV m).toArray 23 (0, 0))]) (fun i => i ≤ 64) (fun i => 64 - i) 0 (Nat.zero_le _) (by repeat (first | exact Sub.nil | refine Sub.cons rfl ?_)) (by repeat (first | exact Fewer.nil | refine Fewer.keep rfl ?_ | refine Fewer.drop ?_)) ?_
  intro n hn
  by_cases hlt : n < 64
  · have g1 : decide ((n : Int) < 64) = true := decide_eq_true (by omega)
    have hadd : IntKind.i64.wrap ((n : Int) + 1) = ((n + 1 : Nat) : Int) := by rw [w_in_i64 (by omega)]; omega
    have hx := b_lt (m.getD (n / 8) 0 ^^^ o.getD (n / 8) 0)
    have hsh : ((m.getD (n / 8) 0 ^^^ o.getD (n / 8) 0).toNat : Int) / 2 ^ (7 - ((n % 8 : Nat) : Int)).toNat = (((m.getD (n / 8) 0 ^^^ o.getD (n / 8) 0).toNat / 2 ^ (7 - n % 8) : Nat) : Int) := by
      rw [show (7 - ((n % 8 : Nat) : Int)) = ((7 - n % 8 : Nat) : Int) by omega]
      exact shr_nat _ _
    have hiff : (m.getD (n / 8) 0 ^^^ o.getD (n / 8) 0).toNat / 2 ^ (7 - n % 8) % 2 = 0 ↔ bitN m n = bitN o n := by unfold bitN; exact parts_iff _ _ _
    have hlq : (m.getD (n / 8) 0 ^^^ o.getD (n / 8) 0).toNat / 2 ^ (7 - n % 8) < 256 := Nat.lt_of_le_of_lt (Nat.div_le_self _ _) hx
    have hcell : (bytesV m)[n / 8]? = some (.int .u8 ((m.getD (n / 8) 0).toNat : Int)) := bytesV_get (by omega)
    have ocell : (bytesV o)[n / 8]? = some (.int .u8 ((o.getD (n / 8) 0).toNat : Int)) := bytesV_get (by omega)
    generalize (m.getD (n / 8) 0 ^^^ o.getD (n / 8) 0).toNat / 2 ^ (7 - n % 8) = q at hsh hiff hlq
    have hqu : IntKind.i64.wrap ((n : Int).tdiv 8) = ((n / 8 : Nat) : Int) := nat_quo_i64 n 8 (by omega)
    have hsb : IntKind.i64.wrap (7 - ((n % 8 : Nat) : Int)) = 7 - ((n % 8 : Nat) : Int) := w_in_i64 (by omega)
    have ha1 := and1u q hlq
    have hb := bitN_lt m n
    have hob := bitN_lt o n
    have ht := signL_told seed idx.toNat m n hlt
    have hot := signL_others seed idx.toNat m n hlt
    have ot := signL_told seed idx.toNat o n hlt
    have oot := signL_others seed idx.toNat o n hlt
    have hadr : 0 + (64 + n) * 32 = 2048 + n * 32 := by omega
    have h78 : (0 : Int) ≤ 7 - ((n % 8 : Nat) : Int) ∧ 7 - ((n % 8 : Nat) : Int) ≤ 8 := by omega
    have hin : n < (signL seed idx.toNat m).length ∧ 64 + n < (signL seed idx.toNat m).length := by rw [hsn]; omega
    have oin : n < (signL seed idx.toNat o).length ∧ 64 + n < (signL seed idx.toNat o).length := by rw [osn]; omega
    have hh := And.intro hlt (And.intro (show n / 8 < 32 by omega) (show 64 - (n + 1) < 64 - n by omega))
    clear hlt hn hx hlq
    repeat (first | refine S_scope ?_ | refine S_label ?_ | refine E_noGoto_normal ?_ | refine E_noGoto_ret ?_ | refine E_noGoto_exit ?_ | refine S_yes rfl (by first | with_reducible rfl | decide) ?_ | refine S_no rfl (by first | with_reducible rfl | decide) ?_ | refine S_seq ?_ | refine E_seq ?_ | refine S_block ?_ | refine E_block_normal ?_ | refine S_skip ?_ | refine S_exit ?_ | refine S_ret ?_ | refine E_then_exit ?_ | refine E_then_ret ?_ | refine E_block_ret ?_ | refine E_block_exit ?_ | refine E_block_exit_other rfl ?_)
    refine S_region ?_
    refine R_cons rfl (op_pure (p_move rfl) rfl ?_)
    refine R_cons rfl (op_pure (p_bin rfl rfl (b_lss g1)) rfl ?_)
    refine R_nil ?_
    repeat (first | refine S_scope ?_ | refine S_label ?_ | refine E_noGoto_normal ?_ | refine E_noGoto_ret ?_ | refine E_noGoto_exit ?_ | refine S_yes rfl (by first | with_reducible rfl | decide) ?_ | refine S_no rfl (by first | with_reducible rfl | decide) ?_ | refine S_seq ?_ | refine E_seq ?_ | refine S_block ?_ | refine E_block_normal ?_ | refine S_skip ?_ | refine S_exit ?_ | refine S_ret ?_ | refine E_then_exit ?_ | refine E_then_ret ?_ | refine E_block_ret ?_ | refine E_block_exit ?_ | refine E_block_exit_other rfl ?_)
    by_cases hsame : bitN m n = bitN o n
    · have hq0 : (((q % 2 : Nat) : Int) == 0) = true := beq_iff_eq.2 (by have := hiff.2 hsame; omega)
      rw [← hsame] at ot oot
      have s0 := secN_length seed idx.toNat n (bitN m n)
      have e1 := sha_length (secN seed idx.toNat n (1 - bitN m n))
      refine S_quiet (by kernel_rfl) (by kernel_rfl) ?_
      refine Q_cons (Still1.of_pure (p_move rfl)) rfl ?_
      refine Q_cons (Still1.of_pure (p_bin rfl rfl (b_quo (by decide) hqu))) rfl ?_
      refine Q_cons (Still1.of_pure (p_indexArr0 (j := n / 8) rfl rfl rfl arr_Sum hh.2.1)) rfl ?_
      refine Q_cons (Still1.of_pure (p_load rfl sc_u8 (by repeat (first | exact List.Mem.head _ | apply List.Mem.tail)) hcell)) rfl ?_
      refine Q_cons (Still1.of_pure (p_move rfl)) rfl ?_
      refine Q_cons (Still1.of_pure (p_bin rfl rfl (b_quo (by decide) hqu))) rfl ?_
      refine Q_cons (Still1.of_pure (p_indexArr0 (j := n / 8) rfl rfl rfl arr_Sum hh.2.1)) rfl ?_
      refine Q_cons (Still1.of_pure (p_load rfl sc_u8 (by repeat (first | exact List.Mem.head _ | apply List.Mem.tail)) ocell)) rfl ?_
      refine Q_cons (Still1.of_pure (p_bin rfl rfl (b_xor (k8_xor _ _)))) rfl ?_
      refine Q_cons (Still1.of_pure (p_move rfl)) rfl ?_
      refine Q_cons (Still1.of_pure (p_bin rfl rfl (b_rem (by decide) (nat_rem _ 8)))) rfl ?_
      refine Q_cons (Still1.of_pure (p_bin rfl rfl (b_sub hsb))) rfl ?_
      refine Q_cons (Still1.of_pure (p_bin rfl rfl (b_shr h78.1 h78.2 hsh))) rfl ?_
      refine Q_cons (Still1.of_pure (p_bin rfl rfl (b_and ha1))) rfl ?_
      refine Q_cons (Still1.of_pure (p_bin rfl rfl (b_eql hq0))) rfl ?_
      refine Q_nil ?_
      repeat (first | refine S_scope ?_ | refine S_label ?_ | refine E_noGoto_normal ?_ | refine E_noGoto_ret ?_ | refine E_noGoto_exit ?_ | refine S_yes rfl (by first | with_reducible rfl | decide) ?_ | refine S_no rfl (by first | with_reducible rfl | decide) ?_ | refine S_seq ?_ | refine E_seq ?_ | refine S_block ?_ | refine E_block_normal ?_ | refine S_skip ?_ | refine S_exit ?_ | refine S_ret ?_ | refine E_then_exit ?_ | refine E_then_ret ?_ | refine E_block_ret ?_ | refine E_block_exit ?_ | refine E_block_exit_other rfl ?_)
      refine S_quiet (by kernel_rfl) (by kernel_rfl) ?_
      refine Q_cons (Still1.of_pure (p_move rfl)) rfl ?_
      refine Q_cons (Still1.of_pure (by first | exact p_fieldAddr0 rfl fd_api_Once_0 | exact p_fieldAddr rfl fd_api_Once_0)) rfl ?_
      refine Q_cons (Still1.of_pure (p_indexArrR (j := n) rfl rfl rfl ut_64_api_Sum row_Sum hh.1)) rfl ?_
      refine Q_cons (Still1.of_pure (p_loadR rfl row_Sum (n := 32) (cs := bytesV (secN seed idx.toNat n (bitN m n))) (fun w' hm => by have h := (hm.readsS (b := b7) hss (by repeat (first | exact List.Mem.head _ | apply List.Mem.tail))).at_ (j := n) hin.1; rw [ht] at h; exact h))) rfl ?_
      refine Q_cons (Still1.of_pure (p_move rfl)) rfl ?_
      refine Q_cons (Still1.of_pure (by first | exact p_fieldAddr0 rfl fd_api_Once_0 | exact p_fieldAddr rfl fd_api_Once_0)) rfl ?_
      refine Q_cons (Still1.of_pure (p_indexArrR (j := n) rfl rfl rfl ut_64_api_Sum row_Sum hh.1)) rfl ?_
      refine Q_cons (Still1.of_pure (p_loadR rfl row_Sum (n := 32) (cs := bytesV (secN seed idx.toNat n (bitN m n))) (fun w' hm => by have h := (hm.readsS (b := b8) oss (by repeat (first | exact List.Mem.head _ | apply List.Mem.tail))).at_ (j := n) oin.1; rw [ot] at h; exact h))) rfl ?_
      refine Q_cons (Still1.of_pure (p_neq_bytesR rfl rfl arr_Sum.1 Try.underlying5 (by kernel_rfl) (by kernel_rfl) s0 s0 not_self)) rfl ?_
      refine Q_cons (Still1.of_pure (p_move rfl)) rfl ?_
      first | refine Q_pass rfl rfl rfl rfl ?_ | refine Q_pass_undef rfl rfl rfl ?_ | refine Q_guard rfl rfl (Still1.of_pure (p_move rfl)) rfl ?_
      first | refine Q_pass rfl rfl rfl rfl ?_ | refine Q_pass_undef rfl rfl rfl ?_ | refine Q_guard rfl rfl (Still1.of_pure (by first | exact p_fieldAddr0 rfl fd_api_Once_1 | exact p_fieldAddr rfl fd_api_Once_1)) rfl ?_
      first | refine Q_pass rfl rfl rfl rfl ?_ | refine Q_pass_undef rfl rfl rfl ?_ | refine Q_guard rfl rfl (Still1.of_pure (p_indexArrR (j := n) rfl rfl rfl ut_64_api_Sum row_Sum hh.1)) rfl ?_
      first | refine Q_pass rfl rfl rfl rfl ?_ | refine Q_pass_undef rfl rfl rfl ?_ | refine Q_guard rfl rfl (Still1.of_pure (p_loadR rfl row_Sum (n := 32) (cs := bytesV (sha (secN seed idx.toNat n (1 - bitN m n)))) (fun w' hm => by have h := (hm.readsS (b := b7) hss (by repeat (first | exact List.Mem.head _ | apply List.Mem.tail))).at_ (j := 64 + n) hin.2; rw [hot, hadr] at h; exact h))) rfl ?_
      first | refine Q_pass rfl rfl rfl rfl ?_ | refine Q_pass_undef rfl rfl rfl ?_ | refine Q_guard rfl rfl (Still1.of_pure (p_move rfl)) rfl ?_
      first | refine Q_pass rfl rfl rfl rfl ?_ | refine Q_pass_undef rfl rfl rfl ?_ | refine Q_guard rfl rfl (Still1.of_pure (by first | exact p_fieldAddr0 rfl fd_api_Once_1 | exact p_fieldAddr rfl fd_api_Once_1)) rfl ?_
      first | refine Q_pass rfl rfl rfl rfl ?_ | refine Q_pass_undef rfl rfl rfl ?_ | refine Q_guard rfl rfl (Still1.of_pure (p_indexArrR (j := n) rfl rfl rfl ut_64_api_Sum row_Sum hh.1)) rfl ?_
      first | refine Q_pass rfl rfl rfl rfl ?_ | refine Q_pass_undef rfl rfl rfl ?_ | refine Q_guard rfl rfl (Still1.of_pure (p_loadR rfl row_Sum (n := 32) (cs := bytesV (sha (secN seed idx.toNat n (1 - bitN m n)))) (fun w' hm => by have h := (hm.readsS (b := b8) oss (by repeat (first | exact List.Mem.head _ | apply List.Mem.tail))).at_ (j := 64 + n) oin.2; rw [oot, hadr] at h; exact h))) rfl ?_
      first | refine Q_pass rfl rfl rfl rfl ?_ | refine Q_pass_undef rfl rfl rfl ?_ | refine Q_guard rfl rfl (Still1.of_pure (p_neq_bytesR rfl rfl arr_Sum.1 Try.underlying5 (by kernel_rfl) (by kernel_rfl) e1 e1 not_self)) rfl ?_
      refine Q_cons (Still1.of_pure (by first | exact p_pick_yes rfl rfl | exact p_pick_no rfl rfl | exact p_pick rfl rfl rfl)) rfl ?_
      refine Q_nil ?_
      repeat (first | refine S_scope ?_ | refine S_label ?_ | refine E_noGoto_normal ?_ | refine E_noGoto_ret ?_ | refine E_noGoto_exit ?_ | refine S_yes rfl (by first | with_reducible rfl | decide) ?_ | refine S_no rfl (by first | with_reducible rfl | decide) ?_ | refine S_seq ?_ | refine E_seq ?_ | refine S_block ?_ | refine E_block_normal ?_ | refine S_skip ?_ | refine S_exit ?_ | refine S_ret ?_ | refine E_then_exit ?_ | refine E_then_ret ?_ | refine E_block_ret ?_ | refine E_block_exit ?_ | refine E_block_exit_other rfl ?_)
      refine S_region ?_
      refine R_cons rfl (op_pure (p_move rfl) rfl ?_)
      refine R_cons rfl (op_pure (p_bin rfl rfl (b_add hadd)) rfl ?_)
      refine R_cons rfl (op_pure (p_assign rfl) rfl ?_)
      refine R_nil ?_
      repeat (first | refine S_scope ?_ | refine S_label ?_ | refine E_noGoto_normal ?_ | refine E_noGoto_ret ?_ | refine E_noGoto_exit ?_ | refine S_yes rfl (by first | with_reducible rfl | decide) ?_ | refine S_no rfl (by first | with_reducible rfl | decide) ?_ | refine S_seq ?_ | refine E_seq ?_ | refine S_block ?_ | refine E_block_normal ?_ | refine S_skip ?_ | refine S_exit ?_ | refine S_ret ?_ | refine E_then_exit ?_ | refine E_then_ret ?_ | refine E_block_ret ?_ | refine E_block_exit ?_ | refine E_block_exit_other rfl ?_)
      exact E_round (n + 1) hh.1 hh.2.2 (by repeat (first | exact Sub.nil | refine Sub.cons rfl ?_)) (Fewer.refl _)
    · have hq0 : (((q % 2 : Nat) : Int) == 0) = false := beq_eq_false_iff_ne.2 (fun h => hsame (hiff.1 (by omega)))
      have ho1 : bitN o n = 1 - bitN m n := by omega
      have hm1 : 1 - bitN o n = bitN m n := by omega
      rw [hm1] at oot
      rw [ho1] at ot
      have s0 := secN_length seed idx.toNat n (bitN m n)
      have s1 := secN_length seed idx.toNat n (1 - bitN m n)
      have e0 := sha_length (secN seed idx.toNat n (bitN m n))
      have e1 := sha_length (secN seed idx.toNat n (1 - bitN m n))
      clear ho1 hm1 hsame hiff
      generalize bitN m n = b at *
      refine S_quiet (by kernel_rfl) (by kernel_rfl) ?_
      refine Q_cons (Still1.of_pure (p_move rfl)) rfl ?_
      refine Q_cons (Still1.of_pure (p_bin rfl rfl (b_quo (by decide) hqu))) rfl ?_
      refine Q_cons (Still1.of_pure (p_indexArr0 (j := n / 8) rfl rfl rfl arr_Sum hh.2.1)) rfl ?_
      refine Q_cons (Still1.of_pure (p_load rfl sc_u8 (by repeat (first | exact List.Mem.head _ | apply List.Mem.tail)) hcell)) rfl ?_
      refine Q_cons (Still1.of_pure (p_move rfl)) rfl ?_
      refine Q_cons (Still1.of_pure (p_bin rfl rfl (b_quo (by decide) hqu))) rfl ?_
      refine Q_cons (Still1.of_pure (p_indexArr0 (j := n / 8) rfl rfl rfl arr_Sum hh.2.1)) rfl ?_
      refine Q_cons (Still1.of_pure (p_load rfl sc_u8 (by repeat (first | exact List.Mem.head _ | apply List.Mem.tail)) ocell)) rfl ?_
      refine Q_cons (Still1.of_pure (p_bin rfl rfl (b_xor (k8_xor _ _)))) rfl ?_
      refine Q_cons (Still1.of_pure (p_move rfl)) rfl ?_
      refine Q_cons (Still1.of_pure (p_bin rfl rfl (b_rem (by decide) (nat_rem _ 8)))) rfl ?_
      refine Q_cons (Still1.of_pure (p_bin rfl rfl (b_sub hsb))) rfl ?_
      refine Q_cons (Still1.of_pure (p_bin rfl rfl (b_shr h78.1 h78.2 hsh))) rfl ?_
      refine Q_cons (Still1.of_pure (p_bin rfl rfl (b_and ha1))) rfl ?_
      refine Q_cons (Still1.of_pure (p_bin rfl rfl (b_eql hq0))) rfl ?_
      refine Q_nil ?_
      repeat (first | refine S_scope ?_ | refine S_label ?_ | refine E_noGoto_normal ?_ | refine E_noGoto_ret ?_ | refine E_noGoto_exit ?_ | refine S_yes rfl (by first | with_reducible rfl | decide) ?_ | refine S_no rfl (by first | with_reducible rfl | decide) ?_ | refine S_seq ?_ | refine E_seq ?_ | refine S_block ?_ | refine E_block_normal ?_ | refine S_skip ?_ | refine S_exit ?_ | refine S_ret ?_ | refine E_then_exit ?_ | refine E_then_ret ?_ | refine E_block_ret ?_ | refine E_block_exit ?_ | refine E_block_exit_other rfl ?_)
      refine S_region ?_
      refine R_cons rfl (op_pure (p_move rfl) rfl ?_)
      refine R_cons rfl (op_pure (by first | exact p_fieldAddr0 rfl fd_api_Once_0 | exact p_fieldAddr rfl fd_api_Once_0) rfl ?_)
      refine R_cons rfl (op_pure (p_indexArrR (j := n) rfl rfl rfl ut_64_api_Sum row_Sum hh.1) rfl ?_)
      refine R_cons rfl (op_pure (p_loadR rfl row_Sum (n := 32) (cs := bytesV (secN seed idx.toNat n b)) (fun w' hm => by have h := (hm.readsS (b := b7) hss (by repeat (first | exact List.Mem.head _ | apply List.Mem.tail))).at_ (j := n) hin.1; rw [ht] at h; exact h)) rfl ?_)
      refine R_cons rfl (op_allocRow zero_Sum rfl (Nat.le_refl _) (fun b10 => ?_))
      refine R_cons rfl (op_storeRow rfl rfl (bytesV_one _) row_Sum (by rw [bytesV_length, s0]) (by repeat (first | exact At.here | apply At.there)) (by rw [bytesV_length, bytesV_length, s0]; exact Nat.le_refl 32) ?_)
      refine R_nil ?_
      repeat (first | refine S_scope ?_ | refine S_label ?_ | refine E_noGoto_normal ?_ | refine E_noGoto_ret ?_ | refine E_noGoto_exit ?_ | refine S_yes rfl (by first | with_reducible rfl | decide) ?_ | refine S_no rfl (by first | with_reducible rfl | decide) ?_ | refine S_seq ?_ | refine E_seq ?_ | refine S_block ?_ | refine E_block_normal ?_ | refine S_skip ?_ | refine S_exit ?_ | refine S_ret ?_ | refine E_then_exit ?_ | refine E_then_ret ?_ | refine E_block_ret ?_ | refine E_block_exit ?_ | refine E_block_exit_other rfl ?_)
      rw [lay_whole (by rw [bytesV_length, bytesV_length, s0]; rfl)]
      refine S_region ?_
      refine R_cons rfl (op_pure (p_move rfl) rfl ?_)
      refine R_cons rfl (op_pure (by first | exact p_fieldAddr0 rfl fd_api_Once_0 | exact p_fieldAddr rfl fd_api_Once_0) rfl ?_)
      refine R_cons rfl (op_pure (p_indexArrR (j := n) rfl rfl rfl ut_64_api_Sum row_Sum hh.1) rfl ?_)
      refine R_cons rfl (op_pure (p_loadR rfl row_Sum (n := 32) (cs := bytesV (secN seed idx.toNat n (1 - b))) (fun w' hm => by have h := (hm.readsS (b := b8) oss (by repeat (first | exact List.Mem.head _ | apply List.Mem.tail))).at_ (j := n) oin.1; rw [ot] at h; exact h)) rfl ?_)
      refine R_cons rfl (op_allocRow zero_Sum rfl (Nat.le_refl _) (fun b11 => ?_))
      refine R_cons rfl (op_storeRow rfl rfl (bytesV_one _) row_Sum (by rw [bytesV_length, s1]) (by repeat (first | exact At.here | apply At.there)) (by rw [bytesV_length, bytesV_length, s1]; exact Nat.le_refl 32) ?_)
      refine R_nil ?_
      repeat (first | refine S_scope ?_ | refine S_label ?_ | refine E_noGoto_normal ?_ | refine E_noGoto_ret ?_ | refine E_noGoto_exit ?_ | refine S_yes rfl (by first | with_reducible rfl | decide) ?_ | refine S_no rfl (by first | with_reducible rfl | decide) ?_ | refine S_seq ?_ | refine E_seq ?_ | refine S_block ?_ | refine E_block_normal ?_ | refine S_skip ?_ | refine S_exit ?_ | refine S_ret ?_ | refine E_then_exit ?_ | refine E_then_ret ?_ | refine E_block_ret ?_ | refine E_block_exit ?_ | refine E_block_exit_other rfl ?_)
      rw [lay_whole (by rw [bytesV_length, bytesV_length, s1]; rfl)]
      refine S_quiet (by kernel_rfl) (by kernel_rfl) ?_
      refine Q_cons (Still1.of_pure (p_move rfl)) rfl ?_
      refine Q_cons (Still1.of_pure (by first | exact p_fieldAddr0 rfl fd_api_Once_1 | exact p_fieldAddr rfl fd_api_Once_1)) rfl ?_
      refine Q_cons (Still1.of_pure (p_indexArrR (j := n) rfl rfl rfl ut_64_api_Sum row_Sum hh.1)) rfl ?_
      refine Q_cons (Still1.of_pure (p_loadR rfl row_Sum (n := 32) (cs := bytesV (sha (secN seed idx.toNat n (1 - b)))) (fun w' hm => by have h := (hm.readsS (b := b7) hss (by repeat (first | exact List.Mem.head _ | apply List.Mem.tail))).at_ (j := 64 + n) hin.2; rw [hot, hadr] at h; exact h))) rfl ?_
      refine Q_cons (Still1.of_pure (p_sliceArr rfl arr_Sum)) rfl ?_
      refine Q_cons (still_call rfl rfl Try.func18 rfl (by kernel_rfl) (Nat.le_refl _) (fun w' hm => of_any _ 32 32 (secN seed idx.toNat n (1 - b)) w' s1 (hm.readsAll (b := b11) (by repeat (first | exact List.Mem.head _ | apply List.Mem.tail)) (by rw [bytesV_length, s1])) (Nat.le_refl _) (by unfold maxLen; omega) (by omega))) rfl ?_
      refine Q_cons (Still1.of_pure (p_neq_bytesR rfl rfl arr_Sum.1 Try.underlying5 (by kernel_rfl) (by kernel_rfl) e1 e1 not_self)) rfl ?_
      refine Q_cons (Still1.of_pure (p_move rfl)) rfl ?_
      first | refine Q_pass rfl rfl rfl rfl ?_ | refine Q_pass_undef rfl rfl rfl ?_ | refine Q_guard rfl rfl (Still1.of_pure (p_move rfl)) rfl ?_
      first | refine Q_pass rfl rfl rfl rfl ?_ | refine Q_pass_undef rfl rfl rfl ?_ | refine Q_guard rfl rfl (Still1.of_pure (by first | exact p_fieldAddr0 rfl fd_api_Once_1 | exact p_fieldAddr rfl fd_api_Once_1)) rfl ?_
      first | refine Q_pass rfl rfl rfl rfl ?_ | refine Q_pass_undef rfl rfl rfl ?_ | refine Q_guard rfl rfl (Still1.of_pure (p_indexArrR (j := n) rfl rfl rfl ut_64_api_Sum row_Sum hh.1)) rfl ?_
      first | refine Q_pass rfl rfl rfl rfl ?_ | refine Q_pass_undef rfl rfl rfl ?_ | refine Q_guard rfl rfl (Still1.of_pure (p_loadR rfl row_Sum (n := 32) (cs := bytesV (sha (secN seed idx.toNat n b))) (fun w' hm => by have h := (hm.readsS (b := b8) oss (by repeat (first | exact List.Mem.head _ | apply List.Mem.tail))).at_ (j := 64 + n) oin.2; rw [oot, hadr] at h; exact h))) rfl ?_
      first | refine Q_pass rfl rfl rfl rfl ?_ | refine Q_pass_undef rfl rfl rfl ?_ | refine Q_guard rfl rfl (Still1.of_pure (p_sliceArr rfl arr_Sum)) rfl ?_
      first | refine Q_pass rfl rfl rfl rfl ?_ | refine Q_pass_undef rfl rfl rfl ?_ | refine Q_guard rfl rfl (still_call rfl rfl Try.func18 rfl (by kernel_rfl) (Nat.le_refl _) (fun w' hm => of_any _ 32 32 (secN seed idx.toNat n b) w' s0 (hm.readsAll (b := b10) (by repeat (first | exact List.Mem.head _ | apply List.Mem.tail)) (by rw [bytesV_length, s0])) (Nat.le_refl _) (by unfold maxLen; omega) (by omega))) rfl ?_
      first | refine Q_pass rfl rfl rfl rfl ?_ | refine Q_pass_undef rfl rfl rfl ?_ | refine Q_guard rfl rfl (Still1.of_pure (p_neq_bytesR rfl rfl arr_Sum.1 Try.underlying5 (by kernel_rfl) (by kernel_rfl) e0 e0 not_self)) rfl ?_
      refine Q_cons (Still1.of_pure (by first | exact p_pick_yes rfl rfl | exact p_pick_no rfl rfl | exact p_pick rfl rfl rfl)) rfl ?_
      refine Q_nil ?_
      repeat (first | refine S_scope ?_ | refine S_label ?_ | refine E_noGoto_normal ?_ | refine E_noGoto_ret ?_ | refine E_noGoto_exit ?_ | refine S_yes rfl (by first | with_reducible rfl | decide) ?_ | refine S_no rfl (by first | with_reducible rfl | decide) ?_ | refine S_seq ?_ | refine E_seq ?_ | refine S_block ?_ | refine E_block_normal ?_ | refine S_skip ?_ | refine S_exit ?_ | refine S_ret ?_ | refine E_then_exit ?_ | refine E_then_ret ?_ | refine E_block_ret ?_ | refine E_block_exit ?_ | refine E_block_exit_other rfl ?_)
      refine S_region ?_
      refine R_cons rfl (op_pure (p_move rfl) rfl ?_)
      refine R_cons rfl (op_pure (p_bin rfl rfl (b_add hadd)) rfl ?_)
      refine R_cons rfl (op_pure (p_assign rfl) rfl ?_)
      refine R_nil ?_
      repeat (first | refine S_scope ?_ | refine S_label ?_ | refine E_noGoto_normal ?_ | refine E_noGoto_ret ?_ | refine E_noGoto_exit ?_ | refine S_yes rfl (by first | with_reducible rfl | decide) ?_ | refine S_no rfl (by first | with_reducible rfl | decide) ?_ | refine S_seq ?_ | refine E_seq ?_ | refine S_block ?_ | refine E_block_normal ?_ | refine S_skip ?_ | refine S_exit ?_ | refine S_ret ?_ | refine E_then_exit ?_ | refine E_then_ret ?_ | refine E_block_ret ?_ | refine E_block_exit ?_ | refine E_block_exit_other rfl ?_)
      exact E_round (n + 1) hh.1 hh.2.2 (by repeat (first | exact Sub.nil | refine Sub.cons rfl ?_)) (.drop (.drop (Fewer.refl _)))
  · have g1 : decide ((n : Int) < 64) = false := decide_eq_false (by omega)
    clear hn hlt
    repeat (first | refine S_scope ?_ | refine S_label ?_ | refine E_noGoto_normal ?_ | refine E_noGoto_ret ?_ | refine E_noGoto_exit ?_ | refine S_yes rfl (by first | with_reducible rfl | decide) ?_ | refine S_no rfl (by first | with_reducible rfl | decide) ?_ | refine S_seq ?_ | refine E_seq ?_ | refine S_block ?_ | refine E_block_normal ?_ | refine S_skip ?_ | refine S_exit ?_ | refine S_ret ?_ | refine E_then_exit ?_ | refine E_then_ret ?_ | refine E_block_ret ?_ | refine E_block_exit ?_ | refine E_block_exit_other rfl ?_)
    refine S_region ?_
    refine R_cons rfl (op_pure (p_move rfl) rfl ?_)
    refine R_cons rfl (op_pure (p_bin rfl rfl (b_lss g1)) rfl ?_)
    refine R_nil ?_
    repeat (first | refine S_scope ?_ | refine S_label ?_ | refine E_noGoto_normal ?_ | refine E_noGoto_ret ?_ | refine E_noGoto_exit ?_ | refine S_yes rfl (by first | with_reducible rfl | decide) ?_ | refine S_no rfl (by first | with_reducible rfl | decide) ?_ | refine S_seq ?_ | refine E_seq ?_ | refine S_block ?_ | refine E_block_normal ?_ | refine S_skip ?_ | refine S_exit ?_ | refine S_ret ?_ | refine E_then_exit ?_ | refine E_then_ret ?_ | refine E_block_ret ?_ | refine E_block_exit ?_ | refine E_block_exit_other rfl ?_)
    refine S_region ?_
    refine R_cons rfl (op_callV rfl rfl Try.func14 rfl (by kernel_rfl) rfl (Nat.le_refl _) (fun w' _ => lives19 w') ?_)
    refine R_cons rfl (op_pure (p_assign rfl) rfl ?_)
    refine R_nil ?_
    repeat (first | refine S_scope ?_ | refine S_label ?_ | refine E_noGoto_normal ?_ | refine E_noGoto_ret ?_ | refine E_noGoto_exit ?_ | refine S_yes rfl (by first | with_reducible rfl | decide) ?_ | refine S_no rfl (by first | with_reducible rfl | decide) ?_ | refine S_seq ?_ | refine E_seq ?_ | refine S_block ?_ | refine E_block_normal ?_ | refine S_skip ?_ | refine S_exit ?_ | refine S_ret ?_ | refine E_then_exit ?_ | refine E_then_ret ?_ | refine E_block_ret ?_ | refine E_block_exit ?_ | refine E_block_exit_other rfl ?_)
    exact E_ret1 rfl rfl fun w' hm => ⟨rfl, hm.below⟩
end

theorem own : ownKnob Try.prog.godebug = none := by kernel_rfl
theorem laidOut : laidOutB Try.prog = true := by kernel_rfl
set_option maxRecDepth 100000 in
theorem lifted (os : Os) (started : os.Started) (H : Type) (enc : TypeId × Value → H) :
    ReturnsInHanded {} Try.checked os 6 .any (Rows.oncesTurnedSpec.pre6 enc Try.prog Try.f6 Rows.oncesTurnedRow.domain false) (Rows.oncesTurnedSpec.post enc Try.prog Try.f6 false true false false) := by
  refine returnsInHanded_of_change (C := Try.checked) own started (by kernel_rfl) Try.func6
    (ChangeSpec.witness6 (enc := enc) (C := Try.checked) false ⟨#[], #[.agg ((bytesV (List.replicate 32 0) ++ ([Value.int .u32 0] ++ (bytesV (List.replicate 32 0) ++ (bytesV (List.replicate 32 0)))))).toArray], []⟩ 8 (by kernel_rfl) (by kernel_rfl) (by kernel_rfl) (by kernel_rfl)) ?_
  intro W base args ds gs before hval0 hW hcnd _
  have hval : ∀ (j : Nat) t v, Try.f6.params[j]? = some t → args[j]? = some v → Value.okWide Try.prog W .any base t v := hval0
  have hW' := hW
  obtain ⟨p, q, hA0, hV, rfl, hfz, hnd⟩ := hW
  have hA : DataW.TrodAll enc Try.prog W 0 (fun _ => true) true Try.f6.params.toList args.toList ds p := hA0
  rw [Try.params6] at hA hval
  obtain ⟨v0, vs0, d0, ds0, p0, q0, hargs, rfl, rfl, h0, r0⟩ := trodAll_cons hA
  obtain ⟨rfl, rfl, rfl⟩ := trodAll_nil r0
  obtain rfl : args = #[v0] := by cases args; simp_all
  obtain ⟨rfl, rfl⟩ := trodVars_none hV
  have k0 := h0
  have lt0 : ∀ x ∈ p0, x.block < W.heap.size := by obtain ⟨m, hm⟩ := k0; exact DataW.trod_lt m _ _ _ hm
  obtain ⟨⟨cs0⟩, rfl, _⟩ := okWide_struct Try.underlying43 (hval 0 43 v0 rfl rfl)
  have q0 := k0
  obtain ⟨fu0, g0⟩ := q0
  obtain ⟨ys0, m0, _, _, hl0, hy0, hg0⟩ := DataW.trod_struct Try.underlying43 g0
  obtain ⟨x0_0, r0_0⟩ := fld (i := 0) (o := 0) (s := 32) (ty := 23) hg0 hy0 rfl rfl rfl (by kernel_rfl)
  obtain ⟨a0_0, e0_0, l0_0⟩ := open_sum Try.underlying23 Try.underlying5 (by kernel_rfl) (by kernel_rfl) r0_0
  obtain ⟨x0_1, r0_1⟩ := fld (i := 1) (o := 32) (s := 1) (ty := 30) hg0 hy0 rfl rfl rfl (by kernel_rfl)
  obtain ⟨a0_1, e0_1⟩ := open_u32 Try.underlying30 r0_1
  obtain ⟨x0_2, r0_2⟩ := fld (i := 2) (o := 33) (s := 32) (ty := 23) hg0 hy0 rfl rfl rfl (by kernel_rfl)
  obtain ⟨a0_2, e0_2, l0_2⟩ := open_sum Try.underlying23 Try.underlying5 (by kernel_rfl) (by kernel_rfl) r0_2
  obtain ⟨x0_3, r0_3⟩ := fld (i := 3) (o := 65) (s := 32) (ty := 23) hg0 hy0 rfl rfl rfl (by kernel_rfl)
  obtain ⟨a0_3, e0_3, l0_3⟩ := open_sum Try.underlying23 Try.underlying5 (by kernel_rfl) (by kernel_rfl) r0_3
  have e0 := part_all (part_cons e0_0 (part_cons e0_1 (part_cons e0_2 (part_last e0_3 (by rw [hl0]; kernel_rfl)))))
  simp only [Value.cells] at e0
  subst e0
  clear hA0 hval0
  refine (walk W a0_0 l0_0 a0_1 a0_2 l0_2 a0_3 l0_3).mono fun e W' ⟨he, bel⟩ => ?_
  subst he
  exact ⟨_, rfl, _, _, _, [], _, [], hW', trodAll_mk1 (shut_bool Try.underlying4 _), (trodAll_cons_mk (Below.trod laidOut (by kernel_rfl) (of_decide_eq_true (by kernel_rfl)) k0 bel lt0) trodAll_mk0), rfl, bel.frame _, fun h => by cases h⟩
/-- The statement. -/
theorem proved : Rows.OncesTurnedSaid :=
  OpenClaim.holds_of_wide 6 Try.f6 rfl rfl rfl rfl rfl rfl rfl ⟨rfl, rfl, rfl, rfl, rfl⟩ rfl rfl rfl rfl rfl (by kernel_rfl) Try.func6 (by kernel_rfl)
    (of_decide_eq_true (by kernel_rfl)) (by unfold Func.isWrapper; first | (rw [if_pos (by decide +kernel)]; kernel_rfl) | (rw [if_neg (by decide +kernel)]; exact ⟨rfl, rfl⟩))
    (fun os started H enc _ => lifted os started H enc)
#print axioms proved
end Go.Proofs.Ytfdlafjifjndeaa.oncesTurned
