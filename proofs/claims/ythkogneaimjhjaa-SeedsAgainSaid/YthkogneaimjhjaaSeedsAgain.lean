/-
  Proved: asked again a secret is the same, whatever was asked in between. No condition.
-/
import Derived.Test.YthkogneaimjhjaaRows
import Derived.Test.YthkogneaimjhjaaSeeds2
namespace Go.Proofs.Ythkogneaimjhjaa.seedsAgain
open Go.ChangeShapes Go.WideShapes Go.ChangeAt Go.Sha
open Go.RowKit Go.K
attribute [local irreducible] Exit.then Exit.inBlock Exit.noGoto bodyPost Code.wp QL Sx Rx Qx Ex Dx Op1 Pure1 Still1 K.Sub Calm Code.wpIn
set_option linter.unusedVariables false
theorem row_Place : Row Try.prog 44 2 := ⟨_, Try.underlying44, rfl, by kernel_rfl⟩
theorem zero_Place : Zr Try.prog 44 (([Value.int .i64 0] ++ ([Value.int .i64 0]))) := by unfold Zr; kernel_rfl
theorem elr_Place : ElR Try.prog 44 (.agg (([Value.int .i64 0] ++ ([Value.int .i64 0]))).toArray) 2 16 := by
  obtain ⟨i, h1, h2, h3, h4⟩ := info_parts (show (Try.prog.info? 44).map (fun i => (i.zero, i.size, i.bytes)) = some (some (.agg (([Value.int .i64 0] ++ ([Value.int .i64 0]))).toArray), 2, 16) from by kernel_rfl)
  exact ⟨i, h1, h2, h3, h4, rfl⟩
theorem fd_Place_0 : FldAt Try.prog 44 0 0 := ⟨_, _, 0, Try.underlying44, rfl, rfl, by kernel_rfl⟩
theorem fd_Place_1 : FldAt Try.prog 44 1 1 := ⟨_, _, 0, Try.underlying44, rfl, rfl, by kernel_rfl⟩
theorem blt_Place : ∀ parts, Try.prog.built 44 parts = Instr.fill (fun i => [(0, 1), (1, 1)].toArray[i]?) (([Value.int .i64 0] ++ ([Value.int .i64 0]))).toArray parts := fun parts => by kernel_rfl
theorem slr_Places : SlR Try.prog 50 44 2 := ⟨Try.underlying50, row_Place⟩
theorem sc_Places : Sc Try.prog 50 := ⟨_, Try.underlying50, rfl, by kernel_rfl⟩
theorem zs_Places : Zs Try.prog 50 (Value.slice none 0 0) := ⟨by kernel_rfl, rfl⟩
theorem row_Sum : Row Try.prog 23 32 := ⟨_, Try.underlying23, rfl, by kernel_rfl⟩
theorem zero_Sum : Zr Try.prog 23 (bytesV (List.replicate 32 0)) := by unfold Zr; kernel_rfl
theorem elr_Sum : ElR Try.prog 23 (.agg (bytesV (List.replicate 32 0)).toArray) 32 32 := by
  obtain ⟨i, h1, h2, h3, h4⟩ := info_parts (show (Try.prog.info? 23).map (fun i => (i.zero, i.size, i.bytes)) = some (some (.agg (bytesV (List.replicate 32 0)).toArray), 32, 32) from by kernel_rfl)
  exact ⟨i, h1, h2, h3, h4, rfl⟩
theorem blt_Sum : ∀ parts, Try.prog.built 23 parts = Instr.fill (fun i => some (i * 1, 1)) (bytesV (List.replicate 32 0)).toArray parts := fun parts => by kernel_rfl
theorem ut_Sum : Try.prog.underlying 23 = some (.array 32 5) := Try.underlying23
theorem arr_Sum : Arr Try.prog 23 32 5 := ⟨Try.underlying23, sc_u8⟩
theorem slr_api_Sum : SlR Try.prog 51 23 32 := ⟨Try.underlying51, row_Sum⟩
theorem sc_api_Sum : Sc Try.prog 51 := ⟨_, Try.underlying51, rfl, by kernel_rfl⟩
theorem zs_api_Sum : Zs Try.prog 51 (Value.slice none 0 0) := ⟨by kernel_rfl, rfl⟩

/-- the first secrets that were told -/
def wasL (seed : List UInt8) (l : List (Int × Int)) (i : Nat) : List (List UInt8) := (List.range i).map fun j => secretS seed j (l.getD j (0, 0)).1 (l.getD j (0, 0)).2
theorem wasL_length (seed : List UInt8) (l : List (Int × Int)) (i : Nat) : (wasL seed l i).length = i := by unfold wasL; rw [List.length_map, List.length_range]
theorem wasL_succ (seed : List UInt8) (l : List (Int × Int)) (i : Nat) (a : Int × Int) (h : l[i]? = some a) : wasL seed l i ++ [secretS seed i a.1 a.2] = wasL seed l (i + 1) := by
  unfold wasL
  rw [List.range_succ, List.map_append, List.map_singleton, List.getD_eq_getElem?_getD, h]
  rfl
theorem wasL_sums (seed : List UInt8) (l : List (Int × Int)) (i : Nat) : Sums (wasL seed l i) := fun x hx => by
  unfold wasL at hx
  obtain ⟨j, _, rfl⟩ := List.mem_map.1 hx
  exact secretS_length _ _ _ _
theorem wasL_get (seed : List UInt8) (l : List (Int × Int)) (n i : Nat) (hi : i < n) (a : Int × Int) (h : l[i]? = some a) : (wasL seed l n).getD i [] = secretS seed i a.1 a.2 := by
  unfold wasL
  rw [List.getD_eq_getElem?_getD, List.getElem?_map, List.getElem?_range hi, Option.map_some, Option.getD_some, List.getD_eq_getElem?_getD, h]
  rfl
/-- a list of sums that grows -/
abbrev Gr := Option (Nat × Nat × List Value)
def Gr.val (u : Gr) (n : Nat) : Value := match u with
  | none => .slice none 0 0
  | some p => .slice (some ⟨p.1, 0, none⟩) n p.2.1
def Gr.hp (u : Gr) (e : TypeId) (xs : List (List UInt8)) : Hp := match u with
  | none => []
  | some p => [(p.1, .cells (sumsV xs ++ p.2.2).toArray e (0, 0))]
def Gr.ok (u : Gr) (xs : List (List UInt8)) : Prop := match u with
  | none => xs = []
  | some p => (sumsV xs ++ p.2.2).length = p.2.1 * 32 ∧ p.2.1 ≤ maxLen
theorem seedOf_nat (seed : List UInt8) (hs : seed.length = 32) (i : Nat) (hi : i < 4294967296) (bit side : Int) (w : World) :
    Calls Try.prog 30 [.agg (bytesV seed).toArray, .int .u32 (i : Int), .int .i64 bit, .int .i64 side].toArray w fun e w' => e = .returned (.tuple [.agg (bytesV (secretS seed i bit side)).toArray, .int .i64 (secretE bit side)].toArray) ∧ Below w.heap.size w w' := by
  have h := seedOf_any seed hs (UInt32.ofNat i) bit side w
  rw [show (UInt32.ofNat i).toNat = i by rw [UInt32.toNat_ofNat']; omega] at h
  exact h

section
attribute [local irreducible] sha total Buf.hp Buf.cap Buf.addr secretS secretE sumsV wasL
set_option maxHeartbeats 4000000 in
theorem walk (w : World) (seed : List UInt8) (hs : seed.length = 32) (other : List UInt8) (ho : other.length = 32) (A : Option Addr) (c : Nat) (l : List (Int × Int)) (hrd : Reads w A (l.length * 2) (l.flatMap pairV)) (hlk : ∀ a ∈ l, pairOk a) (hnc : l.length ≤ c) (hcm : c ≤ maxLen) :
    Calls Try.prog 9 [.agg (bytesV seed).toArray, .agg (bytesV other).toArray, .slice A l.length c].toArray w fun e w' => e = .returned (.bool true) ∧ Below w.heap.size w w' := by
  have hbs : (bytesV seed).length = 32 := by rw [bytesV_length, hs]
  have hbo : (bytesV other).length = 32 := by rw [bytesV_length, ho]
  refine enter Try.func9 rfl Try.ntmps9 (by simp) ?_
  by_cases hbig : 200 < l.length
  · have g1 : decide ((200 : Int) < (l.length : Int)) = true := decide_eq_true (by omega)
    clear hbig
    repeat (first | refine S_scope ?_ | refine S_label ?_ | refine E_noGoto_normal ?_ | refine E_noGoto_ret ?_ | refine E_noGoto_exit ?_ | refine S_yes rfl (by first | with_reducible rfl | decide) ?_ | refine S_no rfl (by first | with_reducible rfl | decide) ?_ | refine S_seq ?_ | refine E_seq ?_ | refine S_block ?_ | refine E_block_normal ?_ | refine S_skip ?_ | refine S_exit ?_ | refine S_ret ?_ | refine E_then_exit ?_ | refine E_then_ret ?_ | refine E_block_ret ?_ | refine E_block_exit ?_ | refine E_block_exit_other rfl ?_)
    refine S_region ?_
    refine R_cons rfl (op_boxRow rfl rfl (Nat.le_refl _) (fun b3 => ?_))
    refine R_cons rfl (op_boxRow rfl rfl (Nat.le_refl _) (fun b4 => ?_))
    refine R_cons rfl (op_pure (p_assign rfl) rfl ?_)
    refine R_nil ?_
    repeat (first | refine S_scope ?_ | refine S_label ?_ | refine E_noGoto_normal ?_ | refine E_noGoto_ret ?_ | refine E_noGoto_exit ?_ | refine S_yes rfl (by first | with_reducible rfl | decide) ?_ | refine S_no rfl (by first | with_reducible rfl | decide) ?_ | refine S_seq ?_ | refine E_seq ?_ | refine S_block ?_ | refine E_block_normal ?_ | refine S_skip ?_ | refine S_exit ?_ | refine S_ret ?_ | refine E_then_exit ?_ | refine E_then_ret ?_ | refine E_block_ret ?_ | refine E_block_exit ?_ | refine E_block_exit_other rfl ?_)
    refine S_region ?_
    refine R_cons rfl (op_pure (p_move rfl) rfl ?_)
    refine R_cons rfl (op_pure (p_lenR rfl slr_Places) rfl ?_)
    refine R_cons rfl (op_pure (p_bin rfl rfl (b_gtr g1)) rfl ?_)
    refine R_nil ?_
    repeat (first | refine S_scope ?_ | refine S_label ?_ | refine E_noGoto_normal ?_ | refine E_noGoto_ret ?_ | refine E_noGoto_exit ?_ | refine S_yes rfl (by first | with_reducible rfl | decide) ?_ | refine S_no rfl (by first | with_reducible rfl | decide) ?_ | refine S_seq ?_ | refine E_seq ?_ | refine S_block ?_ | refine E_block_normal ?_ | refine S_skip ?_ | refine S_exit ?_ | refine S_ret ?_ | refine E_then_exit ?_ | refine E_then_ret ?_ | refine E_block_ret ?_ | refine E_block_exit ?_ | refine E_block_exit_other rfl ?_)
    refine S_region ?_
    refine R_cons rfl (op_callV rfl rfl Try.func32 rfl (by kernel_rfl) rfl (Nat.le_refl _) (fun w' _ => lives18 w') ?_)
    refine R_cons rfl (op_pure (p_assign rfl) rfl ?_)
    refine R_nil ?_
    repeat (first | refine S_scope ?_ | refine S_label ?_ | refine E_noGoto_normal ?_ | refine E_noGoto_ret ?_ | refine E_noGoto_exit ?_ | refine S_yes rfl (by first | with_reducible rfl | decide) ?_ | refine S_no rfl (by first | with_reducible rfl | decide) ?_ | refine S_seq ?_ | refine E_seq ?_ | refine S_block ?_ | refine E_block_normal ?_ | refine S_skip ?_ | refine S_exit ?_ | refine S_ret ?_ | refine E_then_exit ?_ | refine E_then_ret ?_ | refine E_block_ret ?_ | refine E_block_exit ?_ | refine E_block_exit_other rfl ?_)
    exact E_ret1 rfl rfl fun w' hm => ⟨rfl, hm.below⟩
  have g1 : decide ((200 : Int) < (l.length : Int)) = false := decide_eq_false (by omega)
  have hn : l.length ≤ 200 := by omega
  clear hbig
  have hcells : ∀ b off, A = some ⟨b, off, none⟩ → ∀ i a, l[i]? = some a → w.cell? ⟨b, off + i * 2 + 0, none⟩ = some (.int .i64 a.1) ∧ w.cell? ⟨b, off + i * 2 + 1, none⟩ = some (.int .i64 a.2) := by
    rintro b off rfl i a hi
    have h := Reads.row hrd (fun _ _ => rfl) hi
    exact ⟨h.cell (j := 0) (by omega) rfl, h.cell (j := 1) (by omega) rfl⟩
  repeat (first | refine S_scope ?_ | refine S_label ?_ | refine E_noGoto_normal ?_ | refine E_noGoto_ret ?_ | refine E_noGoto_exit ?_ | refine S_yes rfl (by first | with_reducible rfl | decide) ?_ | refine S_no rfl (by first | with_reducible rfl | decide) ?_ | refine S_seq ?_ | refine E_seq ?_ | refine S_block ?_ | refine E_block_normal ?_ | refine S_skip ?_ | refine S_exit ?_ | refine S_ret ?_ | refine E_then_exit ?_ | refine E_then_ret ?_ | refine E_block_ret ?_ | refine E_block_exit ?_ | refine E_block_exit_other rfl ?_)
  refine S_region ?_
  refine R_cons rfl (op_boxRow rfl rfl (Nat.le_refl _) (fun b3 => ?_))
  refine R_cons rfl (op_boxRow rfl rfl (Nat.le_refl _) (fun b4 => ?_))
  refine R_cons rfl (op_pure (p_assign rfl) rfl ?_)
  refine R_nil ?_
  repeat (first | refine S_scope ?_ | refine S_label ?_ | refine E_noGoto_normal ?_ | refine E_noGoto_ret ?_ | refine E_noGoto_exit ?_ | refine S_yes rfl (by first | with_reducible rfl | decide) ?_ | refine S_no rfl (by first | with_reducible rfl | decide) ?_ | refine S_seq ?_ | refine E_seq ?_ | refine S_block ?_ | refine E_block_normal ?_ | refine S_skip ?_ | refine S_exit ?_ | refine S_ret ?_ | refine E_then_exit ?_ | refine E_then_ret ?_ | refine E_block_ret ?_ | refine E_block_exit ?_ | refine E_block_exit_other rfl ?_)
  refine S_region ?_
  refine R_cons rfl (op_pure (p_move rfl) rfl ?_)
  refine R_cons rfl (op_pure (p_lenR rfl slr_Places) rfl ?_)
  refine R_cons rfl (op_pure (p_bin rfl rfl (b_gtr g1)) rfl ?_)
  refine R_nil ?_
  repeat (first | refine S_scope ?_ | refine S_label ?_ | refine E_noGoto_normal ?_ | refine E_noGoto_ret ?_ | refine E_noGoto_exit ?_ | refine S_yes rfl (by first | with_reducible rfl | decide) ?_ | refine S_no rfl (by first | with_reducible rfl | decide) ?_ | refine S_seq ?_ | refine E_seq ?_ | refine S_block ?_ | refine E_block_normal ?_ | refine S_skip ?_ | refine S_exit ?_ | refine S_ret ?_ | refine E_then_exit ?_ | refine E_then_ret ?_ | refine E_block_ret ?_ | refine E_block_exit ?_ | refine E_block_exit_other rfl ?_)
  refine S_region ?_
  refine R_cons rfl (op_pure (p_assign rfl) rfl ?_)
  refine R_nil ?_
  repeat (first | refine S_scope ?_ | refine S_label ?_ | refine E_noGoto_normal ?_ | refine E_noGoto_ret ?_ | refine E_noGoto_exit ?_ | refine S_yes rfl (by first | with_reducible rfl | decide) ?_ | refine S_no rfl (by first | with_reducible rfl | decide) ?_ | refine S_seq ?_ | refine E_seq ?_ | refine S_block ?_ | refine E_block_normal ?_ | refine S_skip ?_ | refine S_exit ?_ | refine S_ret ?_ | refine E_then_exit ?_ | refine E_then_ret ?_ | refine E_block_ret ?_ | refine E_block_exit ?_ | refine E_block_exit_other rfl ?_)
  refine S_region ?_
  refine R_cons rfl (op_pure (p_assign rfl) rfl ?_)
  refine R_nil ?_
  repeat (first | refine S_scope ?_ | refine S_label ?_ | refine E_noGoto_normal ?_ | refine E_noGoto_ret ?_ | refine E_noGoto_exit ?_ | refine S_yes rfl (by first | with_reducible rfl | decide) ?_ | refine S_no rfl (by first | with_reducible rfl | decide) ?_ | refine S_seq ?_ | refine E_seq ?_ | refine S_block ?_ | refine E_block_normal ?_ | refine S_skip ?_ | refine S_exit ?_ | refine S_ret ?_ | refine E_then_exit ?_ | refine E_then_ret ?_ | refine E_block_ret ?_ | refine E_block_exit ?_ | refine E_block_exit_other rfl ?_)
  refine S_loop (σ := Nat × Gr) (fun s => [(8, .int .i64 (s.1 : Int)), (7, s.2.val s.1), (6, .bool false), (4, .pointer (some ⟨b4, 0, none⟩)), (3, .pointer (some ⟨b3, 0, none⟩)), (2, .slice A l.length c)])
    (fun s => (b4, .cells (bytesV other).toArray 23 (0, 0)) :: (b3, .cells (bytesV seed).toArray 23 (0, 0)) :: s.2.hp 23 (wasL seed l s.1)) (fun s => s.1 ≤ l.length ∧ s.2.ok (wasL seed l s.1)) (fun s => l.length - s.1) (0, none) ⟨Nat.zero_le _, by show wasL seed l 0 = []; unfold wasL; rfl⟩ (by repeat (first | exact Sub.nil | refine Sub.cons rfl ?_)) (Fewer.refl _) ?_
  rintro ⟨i, u⟩ ⟨hi, hok⟩
  dsimp only at hi hok ⊢
  by_cases hlt : i < l.length
  · have g2 : decide ((i : Int) < (l.length : Int)) = true := decide_eq_true (by omega)
    obtain ⟨b, off, rfl, hbl, _⟩ := hrd.2 (by omega)
    obtain ⟨a, ha⟩ : ∃ a, l[i]? = some a := ⟨_, List.getElem?_eq_getElem hlt⟩
    obtain ⟨hc0, hc1⟩ := hcells b off rfl i a ha
    have hsec := secretS_length seed i a.1 a.2
    have hwl := wasL_length seed l i
    have hws := wasL_sums seed l i
    have hsucc := wasL_succ seed l i a ha
    have hw32 : IntKind.u32.wrap (i : Int) = (i : Int) := w_in_u32 (by omega)
    have hadd : IntKind.i64.wrap ((i : Int) + 1) = ((i + 1 : Nat) : Int) := by rw [w_in_i64 (by omega)]; omega
    have hh := And.intro hlt (And.intro (show i < 4294967296 by omega) (show i + 1 ≤ 1000000 ∧ 1 ≤ 1000000 by omega))
    clear hi hn hlt
    repeat (first | refine S_scope ?_ | refine S_label ?_ | refine E_noGoto_normal ?_ | refine E_noGoto_ret ?_ | refine E_noGoto_exit ?_ | refine S_yes rfl (by first | with_reducible rfl | decide) ?_ | refine S_no rfl (by first | with_reducible rfl | decide) ?_ | refine S_seq ?_ | refine E_seq ?_ | refine S_block ?_ | refine E_block_normal ?_ | refine S_skip ?_ | refine S_exit ?_ | refine S_ret ?_ | refine E_then_exit ?_ | refine E_then_ret ?_ | refine E_block_ret ?_ | refine E_block_exit ?_ | refine E_block_exit_other rfl ?_)
    refine S_region ?_
    refine R_cons rfl (op_pure (p_move rfl) rfl ?_)
    refine R_cons rfl (op_pure (p_move rfl) rfl ?_)
    refine R_cons rfl (op_pure (p_lenR rfl slr_Places) rfl ?_)
    refine R_cons rfl (op_pure (p_bin rfl rfl (b_lss g2)) rfl ?_)
    refine R_nil ?_
    repeat (first | refine S_scope ?_ | refine S_label ?_ | refine E_noGoto_normal ?_ | refine E_noGoto_ret ?_ | refine E_noGoto_exit ?_ | refine S_yes rfl (by first | with_reducible rfl | decide) ?_ | refine S_no rfl (by first | with_reducible rfl | decide) ?_ | refine S_seq ?_ | refine E_seq ?_ | refine S_block ?_ | refine E_block_normal ?_ | refine S_skip ?_ | refine S_exit ?_ | refine S_ret ?_ | refine E_then_exit ?_ | refine E_then_ret ?_ | refine E_block_ret ?_ | refine E_block_exit ?_ | refine E_block_exit_other rfl ?_)
    refine S_cutE (σ := Nat) (fun q => [(9, .pointer (some ⟨q, 0, none⟩)), (8, .int .i64 (i : Int)), (7, u.val i), (6, .bool false), (4, .pointer (some ⟨b4, 0, none⟩)), (3, .pointer (some ⟨b3, 0, none⟩)), (2, .slice (some ⟨b, off, none⟩) l.length c)])
      (fun q => (q, .cells (bytesV (secretS seed i a.1 a.2)).toArray 23 (0, 0)) :: (b4, .cells (bytesV other).toArray 23 (0, 0)) :: (b3, .cells (bytesV seed).toArray 23 (0, 0)) :: u.hp 23 (wasL seed l i)) (fun _ => True) ?_ ?_
    · refine S_drawn (by kernel_rfl) (Fewer.refl _) ?_
      refine D_take 0 rfl (by kernel_rfl) (by kernel_rfl) (by kernel_rfl) (by repeat (first | exact calm_body | exact calm_mid | apply calm_noGoto | exact calm_midE | apply calm_then | apply calm_block)) (by first | exact p_loadRow rfl row_Sum (by repeat (first | exact List.Mem.head _ | apply List.Mem.tail)) (by first | assumption | rfl | (simp only [bytesV_length, wordsV_length]; omega)) | exact p_loadPart rfl row_Sum (by repeat (first | exact List.Mem.head _ | apply List.Mem.tail)) (by first | exact Nat.le_of_ble_eq_true rfl | omega | (simp only [bytesV_length, wordsV_length, List.length_cons, List.length_nil, List.length_replicate]; omega) | (simp only [bytesV_length, Sha.sha_length, List.length_replicate] <;> omega)) (by first | assumption | rfl)) rfl ?_
      refine D_take 1 rfl (by kernel_rfl) (by kernel_rfl) (by kernel_rfl) (by repeat (first | exact calm_body | exact calm_mid | apply calm_noGoto | exact calm_midE | apply calm_then | apply calm_block)) (p_move rfl) rfl ?_
      refine D_take 2 rfl (by kernel_rfl) (by kernel_rfl) (by kernel_rfl) (by repeat (first | exact calm_body | exact calm_mid | apply calm_noGoto | exact calm_midE | apply calm_then | apply calm_block)) (p_convert rfl sc_int ik_u32 hw32) rfl ?_
      refine D_take 3 rfl (by kernel_rfl) (by kernel_rfl) (by kernel_rfl) (by repeat (first | exact calm_body | exact calm_mid | apply calm_noGoto | exact calm_midE | apply calm_then | apply calm_block)) (p_move rfl) rfl ?_
      refine D_take 4 rfl (by kernel_rfl) (by kernel_rfl) (by kernel_rfl) (by repeat (first | exact calm_body | exact calm_mid | apply calm_noGoto | exact calm_midE | apply calm_then | apply calm_block)) (p_move rfl) rfl ?_
      refine D_take 5 rfl (by kernel_rfl) (by kernel_rfl) (by kernel_rfl) (by repeat (first | exact calm_body | exact calm_mid | apply calm_noGoto | exact calm_midE | apply calm_then | apply calm_block)) (p_indexR (j := i) rfl rfl rfl slr_Places hh.1) rfl ?_
      refine D_take 6 rfl (by kernel_rfl) (by kernel_rfl) (by kernel_rfl) (by repeat (first | exact calm_body | exact calm_mid | apply calm_noGoto | exact calm_midE | apply calm_then | apply calm_block)) (p_fieldAddr rfl fd_Place_0) rfl ?_
      refine D_take 7 rfl (by kernel_rfl) (by kernel_rfl) (by kernel_rfl) (by repeat (first | exact calm_body | exact calm_mid | apply calm_noGoto | exact calm_midE | apply calm_then | apply calm_block)) (p_load_base rfl sc_int hbl (by simp) hc0) rfl ?_
      refine D_take 8 rfl (by kernel_rfl) (by kernel_rfl) (by kernel_rfl) (by repeat (first | exact calm_body | exact calm_mid | apply calm_noGoto | exact calm_midE | apply calm_then | apply calm_block)) (p_move rfl) rfl ?_
      refine D_take 9 rfl (by kernel_rfl) (by kernel_rfl) (by kernel_rfl) (by repeat (first | exact calm_body | exact calm_mid | apply calm_noGoto | exact calm_midE | apply calm_then | apply calm_block)) (p_move rfl) rfl ?_
      refine D_take 10 rfl (by kernel_rfl) (by kernel_rfl) (by kernel_rfl) (by repeat (first | exact calm_body | exact calm_mid | apply calm_noGoto | exact calm_midE | apply calm_then | apply calm_block)) (p_indexR (j := i) rfl rfl rfl slr_Places hh.1) rfl ?_
      refine D_take 11 rfl (by kernel_rfl) (by kernel_rfl) (by kernel_rfl) (by repeat (first | exact calm_body | exact calm_mid | apply calm_noGoto | exact calm_midE | apply calm_then | apply calm_block)) (p_fieldAddr rfl fd_Place_1) rfl ?_
      refine D_take 12 rfl (by kernel_rfl) (by kernel_rfl) (by kernel_rfl) (by repeat (first | exact calm_body | exact calm_mid | apply calm_noGoto | exact calm_midE | apply calm_then | apply calm_block)) (p_load_base rfl sc_int hbl (by simp) hc1) rfl ?_
      refine D_two 13 17 (by kernel_rfl) ?_ ?_
      · refine step_plain 13 rfl rfl (op_callV rfl rfl Try.func30 rfl (by kernel_rfl) rfl (Nat.le_refl _) (fun w' _ => seedOf_nat seed hs i hh.2.1 a.1 a.2 w') ?_)
        refine ⟨(by repeat (first | exact Fewer.nil | refine Fewer.keep rfl ?_ | refine Fewer.drop ?_ | exact Fewer.refl _ | exact Fewer.inl _ _ | (simp only [List.append_nil]; first | exact Fewer.inl _ _ | exact Fewer.refl _))), ?_⟩
        refine D_take 14 rfl (by kernel_rfl) (by kernel_rfl) (by kernel_rfl) (by repeat (first | exact calm_body | exact calm_mid | apply calm_noGoto | exact calm_midE | apply calm_then | apply calm_block)) (p_move rfl) rfl ?_
        refine D_take 15 rfl (by kernel_rfl) (by kernel_rfl) (by kernel_rfl) (by repeat (first | exact calm_body | exact calm_mid | apply calm_noGoto | exact calm_midE | apply calm_then | apply calm_block)) (p_extract (i := 0) rfl rfl) rfl ?_
        refine D_take 16 rfl (by kernel_rfl) (by kernel_rfl) (by kernel_rfl) (by repeat (first | exact calm_body | exact calm_mid | apply calm_noGoto | exact calm_midE | apply calm_then | apply calm_block)) (p_extract (i := 1) rfl rfl) rfl ?_
        refine D_only 17 rfl (by kernel_rfl) rfl (op_allocRow zero_Sum rfl (Nat.le_refl _) (fun b9 => ?_))
        refine ⟨(by repeat (first | exact Fewer.nil | refine Fewer.keep rfl ?_ | refine Fewer.drop ?_ | exact Fewer.refl _ | exact Fewer.inl _ _ | (simp only [List.append_nil]; first | exact Fewer.inl _ _ | exact Fewer.refl _))), ?_⟩
        refine D_only 18 rfl (by kernel_rfl) rfl (op_storeRow rfl rfl (by first | exact bytesV_one _ | exact wordsV_one _ | (repeat (first | exact ones_nil | refine ones_cons rfl ?_))) row_Sum (by first | assumption | rfl | (simp only [bytesV_length, wordsV_length]; omega) | (rw [bytesV_length]; exact Sha.sha_length _)) (by repeat (first | exact At.here | apply At.there)) (by first | exact Nat.le_of_ble_eq_true rfl | omega | (simp only [bytesV_length, wordsV_length, List.length_cons, List.length_nil, List.length_replicate]; omega) | (simp only [bytesV_length, Sha.sha_length, List.length_replicate] <;> omega)) ?_)
        refine ⟨(by repeat (first | exact Fewer.nil | refine Fewer.keep rfl ?_ | refine Fewer.drop ?_ | exact Fewer.refl _ | exact Fewer.inl _ _ | (simp only [List.append_nil]; first | exact Fewer.inl _ _ | exact Fewer.refl _))), ?_⟩
        refine D_take 19 rfl (by kernel_rfl) (by kernel_rfl) (by kernel_rfl) (by repeat (first | exact calm_body | exact calm_mid | apply calm_noGoto | exact calm_midE | apply calm_then | apply calm_block)) (p_assign rfl) rfl ?_
        refine D_done (by kernel_rfl) ?_
        rw [lay_whole (by rw [bytesV_length, bytesV_length, hsec]; rfl)]
        exact E_midE b9 trivial (by repeat (first | exact Sub.nil | refine Sub.cons rfl ?_)) (Fewer.refl _)
      · refine step_plain 17 rfl rfl (op_allocRow zero_Sum rfl (Nat.le_refl _) (fun b9 => ?_))
        refine ⟨(by repeat (first | exact Fewer.nil | refine Fewer.keep rfl ?_ | refine Fewer.drop ?_ | exact Fewer.refl _ | exact Fewer.inl _ _ | (simp only [List.append_nil]; first | exact Fewer.inl _ _ | exact Fewer.refl _))), ?_⟩
        refine D_only 13 rfl (by kernel_rfl) rfl (op_callV rfl rfl Try.func30 rfl (by kernel_rfl) rfl (Nat.le_refl _) (fun w' _ => seedOf_nat seed hs i hh.2.1 a.1 a.2 w') ?_)
        refine ⟨(by repeat (first | exact Fewer.nil | refine Fewer.keep rfl ?_ | refine Fewer.drop ?_ | exact Fewer.refl _ | exact Fewer.inl _ _ | (simp only [List.append_nil]; first | exact Fewer.inl _ _ | exact Fewer.refl _))), ?_⟩
        refine D_take 14 rfl (by kernel_rfl) (by kernel_rfl) (by kernel_rfl) (by repeat (first | exact calm_body | exact calm_mid | apply calm_noGoto | exact calm_midE | apply calm_then | apply calm_block)) (p_move rfl) rfl ?_
        refine D_take 15 rfl (by kernel_rfl) (by kernel_rfl) (by kernel_rfl) (by repeat (first | exact calm_body | exact calm_mid | apply calm_noGoto | exact calm_midE | apply calm_then | apply calm_block)) (p_extract (i := 0) rfl rfl) rfl ?_
        refine D_take 16 rfl (by kernel_rfl) (by kernel_rfl) (by kernel_rfl) (by repeat (first | exact calm_body | exact calm_mid | apply calm_noGoto | exact calm_midE | apply calm_then | apply calm_block)) (p_extract (i := 1) rfl rfl) rfl ?_
        refine D_only 18 rfl (by kernel_rfl) rfl (op_storeRow rfl rfl (by first | exact bytesV_one _ | exact wordsV_one _ | (repeat (first | exact ones_nil | refine ones_cons rfl ?_))) row_Sum (by first | assumption | rfl | (simp only [bytesV_length, wordsV_length]; omega) | (rw [bytesV_length]; exact Sha.sha_length _)) (by repeat (first | exact At.here | apply At.there)) (by first | exact Nat.le_of_ble_eq_true rfl | omega | (simp only [bytesV_length, wordsV_length, List.length_cons, List.length_nil, List.length_replicate]; omega) | (simp only [bytesV_length, Sha.sha_length, List.length_replicate] <;> omega)) ?_)
        refine ⟨(by repeat (first | exact Fewer.nil | refine Fewer.keep rfl ?_ | refine Fewer.drop ?_ | exact Fewer.refl _ | exact Fewer.inl _ _ | (simp only [List.append_nil]; first | exact Fewer.inl _ _ | exact Fewer.refl _))), ?_⟩
        refine D_take 19 rfl (by kernel_rfl) (by kernel_rfl) (by kernel_rfl) (by repeat (first | exact calm_body | exact calm_mid | apply calm_noGoto | exact calm_midE | apply calm_then | apply calm_block)) (p_assign rfl) rfl ?_
        refine D_done (by kernel_rfl) ?_
        rw [lay_whole (by rw [bytesV_length, bytesV_length, hsec]; rfl)]
        exact E_midE b9 trivial (by repeat (first | exact Sub.nil | refine Sub.cons rfl ?_)) (Fewer.refl _)
    intro q _
    repeat (first | refine S_scope ?_ | refine S_label ?_ | refine E_noGoto_normal ?_ | refine E_noGoto_ret ?_ | refine E_noGoto_exit ?_ | refine S_yes rfl (by first | with_reducible rfl | decide) ?_ | refine S_no rfl (by first | with_reducible rfl | decide) ?_ | refine S_seq ?_ | refine E_seq ?_ | refine S_block ?_ | refine E_block_normal ?_ | refine S_skip ?_ | refine S_exit ?_ | refine S_ret ?_ | refine E_then_exit ?_ | refine E_then_ret ?_ | refine E_block_ret ?_ | refine E_block_exit ?_ | refine E_block_exit_other rfl ?_)
    have hone : Sums [secretS seed i a.1 a.2] := Sums.cons hsec Sums.nil
    refine S_cutE (σ := Nat × Nat × List Value) (fun p => [(8, .int .i64 (i : Int)), (7, Gr.val (some p) (i + 1)), (6, .bool false), (4, .pointer (some ⟨b4, 0, none⟩)), (3, .pointer (some ⟨b3, 0, none⟩)), (2, .slice (some ⟨b, off, none⟩) l.length c)])
      (fun p => (b4, .cells (bytesV other).toArray 23 (0, 0)) :: (b3, .cells (bytesV seed).toArray 23 (0, 0)) :: Gr.hp (some p) 23 (wasL seed l (i + 1))) (fun p => Gr.ok (some p) (wasL seed l (i + 1))) ?_ ?_
    · cases u with
      | none =>
        have hnil : wasL seed l i = [] := hok
        obtain rfl : i = 0 := by rw [hnil] at hwl; exact hwl.symm
        rw [hnil, List.nil_append] at hsucc
        refine S_region ?_
        refine R_cons rfl (op_pure (p_move rfl) rfl ?_)
        refine R_cons rfl (op_pure (p_loadRow rfl row_Sum (by repeat (first | exact List.Mem.head _ | apply List.Mem.tail)) (by rw [bytesV_length, hsec])) rfl ?_)
        refine R_cons rfl (op_buildSliceS (ps := [(0, .tmp 42)]) (l := [secretS seed 0 a.1 a.2]) rfl rfl slr_api_Sum.1 elr_Sum hone rfl (by decide) (by decide) rfl (Nat.le_refl _) (fun b43 => ?_))
        refine R_cons rfl (op_appendNilS (ys := [secretS seed 0 a.1 a.2]) rfl rfl slr_api_Sum.1 elr_Sum (fun w' hm => hm.readsS (b := b43) hone (by repeat (first | exact List.Mem.head _ | apply List.Mem.tail))) rfl (by decide) hh.2.2.2 rfl (Nat.le_refl _) (fun b' c' s' h' i' j' => ?_))
        refine R_cons rfl (op_pure (p_assign rfl) rfl ?_)
        refine R_nil ?_
        rw [hsucc] at h' ⊢
        exact E_midE (b', c', s') ⟨h', j'⟩ (by repeat (first | exact Sub.nil | refine Sub.cons rfl ?_)) (by unfold Gr.hp; repeat (first | exact Fewer.nil | exact Fewer.refl _ | refine Fewer.pick rfl (by repeat (first | exact Del.here | apply Del.there)) ?_))
      | some p =>
        obtain ⟨h1, h2⟩ := hok
        refine S_region ?_
        refine R_cons rfl (op_pure (p_move rfl) rfl ?_)
        refine R_cons rfl (op_pure (p_loadRow rfl row_Sum (by repeat (first | exact List.Mem.head _ | apply List.Mem.tail)) (by rw [bytesV_length, hsec])) rfl ?_)
        refine R_cons rfl (op_buildSliceS (ps := [(0, .tmp 42)]) (l := [secretS seed i a.1 a.2]) rfl rfl slr_api_Sum.1 elr_Sum hone rfl (by decide) (by decide) rfl (Nat.le_refl _) (fun b43 => ?_))
        refine R_cons rfl (op_appendS (xs := wasL seed l i) (ys := [secretS seed i a.1 a.2]) rfl rfl slr_api_Sum.1 elr_Sum (by unfold Gr.hp; repeat (first | exact Del.here | apply Del.there)) hws hwl h1 h2 (fun w' hm => hm.readsS (b := b43) hone (by repeat (first | exact List.Mem.head _ | apply List.Mem.tail))) rfl (by decide) hh.2.2.1 rfl (Nat.le_refl _) (fun b' c' s' h' i' j' => ?_))
        refine R_cons rfl (op_pure (p_assign rfl) rfl ?_)
        refine R_nil ?_
        rw [hsucc] at h' ⊢
        exact E_midE (b', c', s') ⟨h', j'⟩ (by repeat (first | exact Sub.nil | refine Sub.cons rfl ?_)) (by unfold Gr.hp; repeat (first | exact Fewer.nil | exact Fewer.refl _ | refine Fewer.pick rfl (by repeat (first | exact Del.here | apply Del.there)) ?_))
    intro p hokp
    repeat (first | refine S_scope ?_ | refine S_label ?_ | refine E_noGoto_normal ?_ | refine E_noGoto_ret ?_ | refine E_noGoto_exit ?_ | refine S_yes rfl (by first | with_reducible rfl | decide) ?_ | refine S_no rfl (by first | with_reducible rfl | decide) ?_ | refine S_seq ?_ | refine E_seq ?_ | refine S_block ?_ | refine E_block_normal ?_ | refine S_skip ?_ | refine S_exit ?_ | refine S_ret ?_ | refine E_then_exit ?_ | refine E_then_ret ?_ | refine E_block_ret ?_ | refine E_block_exit ?_ | refine E_block_exit_other rfl ?_)
    refine S_quiet (by kernel_rfl) (by kernel_rfl) ?_
    refine Q_cons (Still1.of_pure (by first | exact p_loadRow rfl row_Sum (by repeat (first | exact List.Mem.head _ | apply List.Mem.tail)) (by first | assumption | rfl | (simp only [bytesV_length, wordsV_length]; omega)) | exact p_loadPart rfl row_Sum (by repeat (first | exact List.Mem.head _ | apply List.Mem.tail)) (by first | exact Nat.le_of_ble_eq_true rfl | omega | (simp only [bytesV_length, wordsV_length, List.length_cons, List.length_nil, List.length_replicate]; omega) | (simp only [bytesV_length, Sha.sha_length, List.length_replicate] <;> omega)) (by first | assumption | rfl))) rfl ?_
    refine Q_cons (Still1.of_pure (p_move rfl)) rfl ?_
    refine Q_cons (Still1.of_pure (p_convert rfl sc_int ik_u32 hw32)) rfl ?_
    refine Q_cons (Still1.of_pure (p_move rfl)) rfl ?_
    refine Q_cons (Still1.of_pure (p_move rfl)) rfl ?_
    refine Q_cons (Still1.of_pure (p_indexR (j := i) rfl rfl rfl slr_Places hh.1)) rfl ?_
    refine Q_cons (Still1.of_pure (p_fieldAddr rfl fd_Place_1)) rfl ?_
    refine Q_cons (Still1.of_pure (p_load_base rfl sc_int hbl (by simp) hc1)) rfl ?_
    refine Q_cons (Still1.of_pure (p_move rfl)) rfl ?_
    refine Q_cons (Still1.of_pure (p_move rfl)) rfl ?_
    refine Q_cons (Still1.of_pure (p_indexR (j := i) rfl rfl rfl slr_Places hh.1)) rfl ?_
    refine Q_cons (Still1.of_pure (p_fieldAddr rfl fd_Place_0)) rfl ?_
    refine Q_cons (Still1.of_pure (p_load_base rfl sc_int hbl (by simp) hc0)) rfl ?_
    refine Q_cons (still_call rfl rfl Try.func30 rfl (by kernel_rfl) (Nat.le_refl _) (fun w' _ => seedOf_nat other ho i hh.2.1 a.2 a.1 w')) rfl ?_
    refine Q_nil ?_
    repeat (first | refine S_scope ?_ | refine S_label ?_ | refine E_noGoto_normal ?_ | refine E_noGoto_ret ?_ | refine E_noGoto_exit ?_ | refine S_yes rfl (by first | with_reducible rfl | decide) ?_ | refine S_no rfl (by first | with_reducible rfl | decide) ?_ | refine S_seq ?_ | refine E_seq ?_ | refine S_block ?_ | refine E_block_normal ?_ | refine S_skip ?_ | refine S_exit ?_ | refine S_ret ?_ | refine E_then_exit ?_ | refine E_then_ret ?_ | refine E_block_ret ?_ | refine E_block_exit ?_ | refine E_block_exit_other rfl ?_)
    refine S_region ?_
    refine R_cons rfl (op_pure (p_move rfl) rfl ?_)
    refine R_cons rfl (op_pure (p_bin rfl rfl (b_add hadd)) rfl ?_)
    refine R_cons rfl (op_pure (p_assign rfl) rfl ?_)
    refine R_nil ?_
    repeat (first | refine S_scope ?_ | refine S_label ?_ | refine E_noGoto_normal ?_ | refine E_noGoto_ret ?_ | refine E_noGoto_exit ?_ | refine S_yes rfl (by first | with_reducible rfl | decide) ?_ | refine S_no rfl (by first | with_reducible rfl | decide) ?_ | refine S_seq ?_ | refine E_seq ?_ | refine S_block ?_ | refine E_block_normal ?_ | refine S_skip ?_ | refine S_exit ?_ | refine S_ret ?_ | refine E_then_exit ?_ | refine E_then_ret ?_ | refine E_block_ret ?_ | refine E_block_exit ?_ | refine E_block_exit_other rfl ?_)
    exact E_round (s := (i, u)) (i + 1, some p) ⟨hh.1, hokp⟩ (by have := hh.1; show l.length - (i + 1) < l.length - i; omega) (by repeat (first | exact Sub.nil | refine Sub.cons rfl ?_)) (Fewer.refl _)
  · have g2 : decide ((i : Int) < (l.length : Int)) = false := decide_eq_false (by omega)
    have hil : i = l.length := by omega
    clear hi hlt
    subst hil
    have hsub : IntKind.i64.wrap ((l.length : Int) - 1) = (l.length : Int) - 1 := w_in_i64 (by omega)
    repeat (first | refine S_scope ?_ | refine S_label ?_ | refine E_noGoto_normal ?_ | refine E_noGoto_ret ?_ | refine E_noGoto_exit ?_ | refine S_yes rfl (by first | with_reducible rfl | decide) ?_ | refine S_no rfl (by first | with_reducible rfl | decide) ?_ | refine S_seq ?_ | refine E_seq ?_ | refine S_block ?_ | refine E_block_normal ?_ | refine S_skip ?_ | refine S_exit ?_ | refine S_ret ?_ | refine E_then_exit ?_ | refine E_then_ret ?_ | refine E_block_ret ?_ | refine E_block_exit ?_ | refine E_block_exit_other rfl ?_)
    refine S_region ?_
    refine R_cons rfl (op_pure (p_move rfl) rfl ?_)
    refine R_cons rfl (op_pure (p_move rfl) rfl ?_)
    refine R_cons rfl (op_pure (p_lenR rfl slr_Places) rfl ?_)
    refine R_cons rfl (op_pure (p_bin rfl rfl (b_lss g2)) rfl ?_)
    refine R_nil ?_
    repeat (first | refine S_scope ?_ | refine S_label ?_ | refine E_noGoto_normal ?_ | refine E_noGoto_ret ?_ | refine E_noGoto_exit ?_ | refine S_yes rfl (by first | with_reducible rfl | decide) ?_ | refine S_no rfl (by first | with_reducible rfl | decide) ?_ | refine S_seq ?_ | refine E_seq ?_ | refine S_block ?_ | refine E_block_normal ?_ | refine S_skip ?_ | refine S_exit ?_ | refine S_ret ?_ | refine E_then_exit ?_ | refine E_then_ret ?_ | refine E_block_ret ?_ | refine E_block_exit ?_ | refine E_block_exit_other rfl ?_)
    refine S_region ?_
    refine R_cons rfl (op_pure (p_move rfl) rfl ?_)
    refine R_cons rfl (op_pure (p_lenR rfl slr_Places) rfl ?_)
    refine R_cons rfl (op_pure (p_bin rfl rfl (b_sub hsub)) rfl ?_)
    refine R_cons rfl (op_pure (p_assign rfl) rfl ?_)
    refine R_nil ?_
    repeat (first | refine S_scope ?_ | refine S_label ?_ | refine E_noGoto_normal ?_ | refine E_noGoto_ret ?_ | refine E_noGoto_exit ?_ | refine S_yes rfl (by first | with_reducible rfl | decide) ?_ | refine S_no rfl (by first | with_reducible rfl | decide) ?_ | refine S_seq ?_ | refine E_seq ?_ | refine S_block ?_ | refine E_block_normal ?_ | refine S_skip ?_ | refine S_exit ?_ | refine S_ret ?_ | refine E_then_exit ?_ | refine E_then_ret ?_ | refine E_block_ret ?_ | refine E_block_exit ?_ | refine E_block_exit_other rfl ?_)
    refine S_loop (fun k : Nat => [(11, .int .i64 ((k : Int) - 1)), (7, u.val l.length), (6, .bool false), (4, .pointer (some ⟨b4, 0, none⟩)), (3, .pointer (some ⟨b3, 0, none⟩)), (2, .slice A l.length c)])
      (fun k => (b3, .cells (bytesV seed).toArray 23 (0, 0)) :: u.hp 23 (wasL seed l l.length)) (fun k => k ≤ l.length) (fun k => k) l.length (Nat.le_refl _) (by repeat (first | exact Sub.nil | refine Sub.cons rfl ?_)) (.drop (Fewer.refl _)) ?_
    intro k hk
    cases k with
    | zero =>
      have g3 : decide ((0 : Int) ≤ (((0 : Nat) : Int) - 1)) = false := by decide
      repeat (first | refine S_scope ?_ | refine S_label ?_ | refine E_noGoto_normal ?_ | refine E_noGoto_ret ?_ | refine E_noGoto_exit ?_ | refine S_yes rfl (by first | with_reducible rfl | decide) ?_ | refine S_no rfl (by first | with_reducible rfl | decide) ?_ | refine S_seq ?_ | refine E_seq ?_ | refine S_block ?_ | refine E_block_normal ?_ | refine S_skip ?_ | refine S_exit ?_ | refine S_ret ?_ | refine E_then_exit ?_ | refine E_then_ret ?_ | refine E_block_ret ?_ | refine E_block_exit ?_ | refine E_block_exit_other rfl ?_)
      refine S_region ?_
      refine R_cons rfl (op_pure (p_move rfl) rfl ?_)
      refine R_cons rfl (op_pure (p_bin rfl rfl (b_geq g3)) rfl ?_)
      refine R_nil ?_
      repeat (first | refine S_scope ?_ | refine S_label ?_ | refine E_noGoto_normal ?_ | refine E_noGoto_ret ?_ | refine E_noGoto_exit ?_ | refine S_yes rfl (by first | with_reducible rfl | decide) ?_ | refine S_no rfl (by first | with_reducible rfl | decide) ?_ | refine S_seq ?_ | refine E_seq ?_ | refine S_block ?_ | refine E_block_normal ?_ | refine S_skip ?_ | refine S_exit ?_ | refine S_ret ?_ | refine E_then_exit ?_ | refine E_then_ret ?_ | refine E_block_ret ?_ | refine E_block_exit ?_ | refine E_block_exit_other rfl ?_)
      refine S_region ?_
      refine R_cons rfl (op_callV rfl rfl Try.func32 rfl (by kernel_rfl) rfl (Nat.le_refl _) (fun w' _ => lives18 w') ?_)
      refine R_cons rfl (op_pure (p_assign rfl) rfl ?_)
      refine R_nil ?_
      repeat (first | refine S_scope ?_ | refine S_label ?_ | refine E_noGoto_normal ?_ | refine E_noGoto_ret ?_ | refine E_noGoto_exit ?_ | refine S_yes rfl (by first | with_reducible rfl | decide) ?_ | refine S_no rfl (by first | with_reducible rfl | decide) ?_ | refine S_seq ?_ | refine E_seq ?_ | refine S_block ?_ | refine E_block_normal ?_ | refine S_skip ?_ | refine S_exit ?_ | refine S_ret ?_ | refine E_then_exit ?_ | refine E_then_ret ?_ | refine E_block_ret ?_ | refine E_block_exit ?_ | refine E_block_exit_other rfl ?_)
      exact E_ret1 rfl rfl fun w' hm => ⟨rfl, hm.below⟩
    | succ j =>
      rw [show (((j + 1 : Nat) : Int) - 1) = (j : Int) by omega]
      have g3 : decide ((0 : Int) ≤ (j : Int)) = true := decide_eq_true (by omega)
      obtain ⟨b, off, rfl, hbl, _⟩ := hrd.2 (by omega)
      obtain ⟨a, ha⟩ : ∃ a, l[j]? = some a := ⟨_, List.getElem?_eq_getElem (by omega)⟩
      obtain ⟨hc0, hc1⟩ := hcells b off rfl j a ha
      have hsec := secretS_length seed j a.1 a.2
      have hwl := wasL_length seed l l.length
      have hws := wasL_sums seed l l.length
      have hget := wasL_get seed l l.length j (by omega) a ha
      have hw32 : IntKind.u32.wrap (j : Int) = (j : Int) := w_in_u32 (by omega)
      have hsub : IntKind.i64.wrap ((j : Int) - 1) = (j : Int) - 1 := w_in_i64 (by omega)
      have hh := And.intro (show j < l.length by omega) (And.intro (show j < 4294967296 by omega) (show j ≤ l.length by omega))
      obtain ⟨p, rfl⟩ : ∃ p, u = some p := by
        cases u with
        | some p => exact ⟨p, rfl⟩
        | none => rw [show wasL seed l l.length = [] from hok] at hwl; simp at hwl; omega
      clear hn hk
      repeat (first | refine S_scope ?_ | refine S_label ?_ | refine E_noGoto_normal ?_ | refine E_noGoto_ret ?_ | refine E_noGoto_exit ?_ | refine S_yes rfl (by first | with_reducible rfl | decide) ?_ | refine S_no rfl (by first | with_reducible rfl | decide) ?_ | refine S_seq ?_ | refine E_seq ?_ | refine S_block ?_ | refine E_block_normal ?_ | refine S_skip ?_ | refine S_exit ?_ | refine S_ret ?_ | refine E_then_exit ?_ | refine E_then_ret ?_ | refine E_block_ret ?_ | refine E_block_exit ?_ | refine E_block_exit_other rfl ?_)
      refine S_region ?_
      refine R_cons rfl (op_pure (p_move rfl) rfl ?_)
      refine R_cons rfl (op_pure (p_bin rfl rfl (b_geq g3)) rfl ?_)
      refine R_nil ?_
      repeat (first | refine S_scope ?_ | refine S_label ?_ | refine E_noGoto_normal ?_ | refine E_noGoto_ret ?_ | refine E_noGoto_exit ?_ | refine S_yes rfl (by first | with_reducible rfl | decide) ?_ | refine S_no rfl (by first | with_reducible rfl | decide) ?_ | refine S_seq ?_ | refine E_seq ?_ | refine S_block ?_ | refine E_block_normal ?_ | refine S_skip ?_ | refine S_exit ?_ | refine S_ret ?_ | refine E_then_exit ?_ | refine E_then_ret ?_ | refine E_block_ret ?_ | refine E_block_exit ?_ | refine E_block_exit_other rfl ?_)
      refine S_cutE (σ := Nat) (fun q => [(12, .pointer (some ⟨q, 0, none⟩)), (11, .int .i64 (j : Int)), (7, Gr.val (some p) l.length), (6, .bool false), (4, .pointer (some ⟨b4, 0, none⟩)), (3, .pointer (some ⟨b3, 0, none⟩)), (2, .slice (some ⟨b, off, none⟩) l.length c)])
        (fun q => (q, .cells (bytesV (secretS seed j a.1 a.2)).toArray 23 (0, 0)) :: (b3, .cells (bytesV seed).toArray 23 (0, 0)) :: Gr.hp (some p) 23 (wasL seed l l.length)) (fun _ => True) ?_ ?_
      · refine S_drawn (by kernel_rfl) (Fewer.refl _) ?_
        refine D_take 0 rfl (by kernel_rfl) (by kernel_rfl) (by kernel_rfl) (by repeat (first | exact calm_body | exact calm_mid | apply calm_noGoto | exact calm_midE | apply calm_then | apply calm_block)) (by first | exact p_loadRow rfl row_Sum (by repeat (first | exact List.Mem.head _ | apply List.Mem.tail)) (by first | assumption | rfl | (simp only [bytesV_length, wordsV_length]; omega)) | exact p_loadPart rfl row_Sum (by repeat (first | exact List.Mem.head _ | apply List.Mem.tail)) (by first | exact Nat.le_of_ble_eq_true rfl | omega | (simp only [bytesV_length, wordsV_length, List.length_cons, List.length_nil, List.length_replicate]; omega) | (simp only [bytesV_length, Sha.sha_length, List.length_replicate] <;> omega)) (by first | assumption | rfl)) rfl ?_
        refine D_take 1 rfl (by kernel_rfl) (by kernel_rfl) (by kernel_rfl) (by repeat (first | exact calm_body | exact calm_mid | apply calm_noGoto | exact calm_midE | apply calm_then | apply calm_block)) (p_move rfl) rfl ?_
        refine D_take 2 rfl (by kernel_rfl) (by kernel_rfl) (by kernel_rfl) (by repeat (first | exact calm_body | exact calm_mid | apply calm_noGoto | exact calm_midE | apply calm_then | apply calm_block)) (p_convert rfl sc_int ik_u32 hw32) rfl ?_
        refine D_take 3 rfl (by kernel_rfl) (by kernel_rfl) (by kernel_rfl) (by repeat (first | exact calm_body | exact calm_mid | apply calm_noGoto | exact calm_midE | apply calm_then | apply calm_block)) (p_move rfl) rfl ?_
        refine D_take 4 rfl (by kernel_rfl) (by kernel_rfl) (by kernel_rfl) (by repeat (first | exact calm_body | exact calm_mid | apply calm_noGoto | exact calm_midE | apply calm_then | apply calm_block)) (p_move rfl) rfl ?_
        refine D_take 5 rfl (by kernel_rfl) (by kernel_rfl) (by kernel_rfl) (by repeat (first | exact calm_body | exact calm_mid | apply calm_noGoto | exact calm_midE | apply calm_then | apply calm_block)) (p_indexR (j := j) rfl rfl rfl slr_Places hh.1) rfl ?_
        refine D_take 6 rfl (by kernel_rfl) (by kernel_rfl) (by kernel_rfl) (by repeat (first | exact calm_body | exact calm_mid | apply calm_noGoto | exact calm_midE | apply calm_then | apply calm_block)) (p_fieldAddr rfl fd_Place_0) rfl ?_
        refine D_take 7 rfl (by kernel_rfl) (by kernel_rfl) (by kernel_rfl) (by repeat (first | exact calm_body | exact calm_mid | apply calm_noGoto | exact calm_midE | apply calm_then | apply calm_block)) (p_load_base rfl sc_int hbl (by simp) hc0) rfl ?_
        refine D_take 8 rfl (by kernel_rfl) (by kernel_rfl) (by kernel_rfl) (by repeat (first | exact calm_body | exact calm_mid | apply calm_noGoto | exact calm_midE | apply calm_then | apply calm_block)) (p_move rfl) rfl ?_
        refine D_take 9 rfl (by kernel_rfl) (by kernel_rfl) (by kernel_rfl) (by repeat (first | exact calm_body | exact calm_mid | apply calm_noGoto | exact calm_midE | apply calm_then | apply calm_block)) (p_move rfl) rfl ?_
        refine D_take 10 rfl (by kernel_rfl) (by kernel_rfl) (by kernel_rfl) (by repeat (first | exact calm_body | exact calm_mid | apply calm_noGoto | exact calm_midE | apply calm_then | apply calm_block)) (p_indexR (j := j) rfl rfl rfl slr_Places hh.1) rfl ?_
        refine D_take 11 rfl (by kernel_rfl) (by kernel_rfl) (by kernel_rfl) (by repeat (first | exact calm_body | exact calm_mid | apply calm_noGoto | exact calm_midE | apply calm_then | apply calm_block)) (p_fieldAddr rfl fd_Place_1) rfl ?_
        refine D_take 12 rfl (by kernel_rfl) (by kernel_rfl) (by kernel_rfl) (by repeat (first | exact calm_body | exact calm_mid | apply calm_noGoto | exact calm_midE | apply calm_then | apply calm_block)) (p_load_base rfl sc_int hbl (by simp) hc1) rfl ?_
        refine D_two 13 17 (by kernel_rfl) ?_ ?_
        · refine step_plain 13 rfl rfl (op_callV rfl rfl Try.func30 rfl (by kernel_rfl) rfl (Nat.le_refl _) (fun w' _ => seedOf_nat seed hs j hh.2.1 a.1 a.2 w') ?_)
          refine ⟨(by repeat (first | exact Fewer.nil | refine Fewer.keep rfl ?_ | refine Fewer.drop ?_ | exact Fewer.refl _ | exact Fewer.inl _ _ | (simp only [List.append_nil]; first | exact Fewer.inl _ _ | exact Fewer.refl _))), ?_⟩
          refine D_take 14 rfl (by kernel_rfl) (by kernel_rfl) (by kernel_rfl) (by repeat (first | exact calm_body | exact calm_mid | apply calm_noGoto | exact calm_midE | apply calm_then | apply calm_block)) (p_move rfl) rfl ?_
          refine D_take 15 rfl (by kernel_rfl) (by kernel_rfl) (by kernel_rfl) (by repeat (first | exact calm_body | exact calm_mid | apply calm_noGoto | exact calm_midE | apply calm_then | apply calm_block)) (p_extract (i := 0) rfl rfl) rfl ?_
          refine D_take 16 rfl (by kernel_rfl) (by kernel_rfl) (by kernel_rfl) (by repeat (first | exact calm_body | exact calm_mid | apply calm_noGoto | exact calm_midE | apply calm_then | apply calm_block)) (p_extract (i := 1) rfl rfl) rfl ?_
          refine D_only 17 rfl (by kernel_rfl) rfl (op_allocRow zero_Sum rfl (Nat.le_refl _) (fun b12 => ?_))
          refine ⟨(by repeat (first | exact Fewer.nil | refine Fewer.keep rfl ?_ | refine Fewer.drop ?_ | exact Fewer.refl _ | exact Fewer.inl _ _ | (simp only [List.append_nil]; first | exact Fewer.inl _ _ | exact Fewer.refl _))), ?_⟩
          refine D_only 18 rfl (by kernel_rfl) rfl (op_storeRow rfl rfl (by first | exact bytesV_one _ | exact wordsV_one _ | (repeat (first | exact ones_nil | refine ones_cons rfl ?_))) row_Sum (by first | assumption | rfl | (simp only [bytesV_length, wordsV_length]; omega) | (rw [bytesV_length]; exact Sha.sha_length _)) (by repeat (first | exact At.here | apply At.there)) (by first | exact Nat.le_of_ble_eq_true rfl | omega | (simp only [bytesV_length, wordsV_length, List.length_cons, List.length_nil, List.length_replicate]; omega) | (simp only [bytesV_length, Sha.sha_length, List.length_replicate] <;> omega)) ?_)
          refine ⟨(by repeat (first | exact Fewer.nil | refine Fewer.keep rfl ?_ | refine Fewer.drop ?_ | exact Fewer.refl _ | exact Fewer.inl _ _ | (simp only [List.append_nil]; first | exact Fewer.inl _ _ | exact Fewer.refl _))), ?_⟩
          refine D_take 19 rfl (by kernel_rfl) (by kernel_rfl) (by kernel_rfl) (by repeat (first | exact calm_body | exact calm_mid | apply calm_noGoto | exact calm_midE | apply calm_then | apply calm_block)) (p_assign rfl) rfl ?_
          refine D_done (by kernel_rfl) ?_
          rw [lay_whole (by rw [bytesV_length, bytesV_length, hsec]; rfl)]
          exact E_midE b12 trivial (by repeat (first | exact Sub.nil | refine Sub.cons rfl ?_)) (Fewer.refl _)
        · refine step_plain 17 rfl rfl (op_allocRow zero_Sum rfl (Nat.le_refl _) (fun b12 => ?_))
          refine ⟨(by repeat (first | exact Fewer.nil | refine Fewer.keep rfl ?_ | refine Fewer.drop ?_ | exact Fewer.refl _ | exact Fewer.inl _ _ | (simp only [List.append_nil]; first | exact Fewer.inl _ _ | exact Fewer.refl _))), ?_⟩
          refine D_only 13 rfl (by kernel_rfl) rfl (op_callV rfl rfl Try.func30 rfl (by kernel_rfl) rfl (Nat.le_refl _) (fun w' _ => seedOf_nat seed hs j hh.2.1 a.1 a.2 w') ?_)
          refine ⟨(by repeat (first | exact Fewer.nil | refine Fewer.keep rfl ?_ | refine Fewer.drop ?_ | exact Fewer.refl _ | exact Fewer.inl _ _ | (simp only [List.append_nil]; first | exact Fewer.inl _ _ | exact Fewer.refl _))), ?_⟩
          refine D_take 14 rfl (by kernel_rfl) (by kernel_rfl) (by kernel_rfl) (by repeat (first | exact calm_body | exact calm_mid | apply calm_noGoto | exact calm_midE | apply calm_then | apply calm_block)) (p_move rfl) rfl ?_
          refine D_take 15 rfl (by kernel_rfl) (by kernel_rfl) (by kernel_rfl) (by repeat (first | exact calm_body | exact calm_mid | apply calm_noGoto | exact calm_midE | apply calm_then | apply calm_block)) (p_extract (i := 0) rfl rfl) rfl ?_
          refine D_take 16 rfl (by kernel_rfl) (by kernel_rfl) (by kernel_rfl) (by repeat (first | exact calm_body | exact calm_mid | apply calm_noGoto | exact calm_midE | apply calm_then | apply calm_block)) (p_extract (i := 1) rfl rfl) rfl ?_
          refine D_only 18 rfl (by kernel_rfl) rfl (op_storeRow rfl rfl (by first | exact bytesV_one _ | exact wordsV_one _ | (repeat (first | exact ones_nil | refine ones_cons rfl ?_))) row_Sum (by first | assumption | rfl | (simp only [bytesV_length, wordsV_length]; omega) | (rw [bytesV_length]; exact Sha.sha_length _)) (by repeat (first | exact At.here | apply At.there)) (by first | exact Nat.le_of_ble_eq_true rfl | omega | (simp only [bytesV_length, wordsV_length, List.length_cons, List.length_nil, List.length_replicate]; omega) | (simp only [bytesV_length, Sha.sha_length, List.length_replicate] <;> omega)) ?_)
          refine ⟨(by repeat (first | exact Fewer.nil | refine Fewer.keep rfl ?_ | refine Fewer.drop ?_ | exact Fewer.refl _ | exact Fewer.inl _ _ | (simp only [List.append_nil]; first | exact Fewer.inl _ _ | exact Fewer.refl _))), ?_⟩
          refine D_take 19 rfl (by kernel_rfl) (by kernel_rfl) (by kernel_rfl) (by repeat (first | exact calm_body | exact calm_mid | apply calm_noGoto | exact calm_midE | apply calm_then | apply calm_block)) (p_assign rfl) rfl ?_
          refine D_done (by kernel_rfl) ?_
          rw [lay_whole (by rw [bytesV_length, bytesV_length, hsec]; rfl)]
          exact E_midE b12 trivial (by repeat (first | exact Sub.nil | refine Sub.cons rfl ?_)) (Fewer.refl _)
      intro q _
      repeat (first | refine S_scope ?_ | refine S_label ?_ | refine E_noGoto_normal ?_ | refine E_noGoto_ret ?_ | refine E_noGoto_exit ?_ | refine S_yes rfl (by first | with_reducible rfl | decide) ?_ | refine S_no rfl (by first | with_reducible rfl | decide) ?_ | refine S_seq ?_ | refine E_seq ?_ | refine S_block ?_ | refine E_block_normal ?_ | refine S_skip ?_ | refine S_exit ?_ | refine S_ret ?_ | refine E_then_exit ?_ | refine E_then_ret ?_ | refine E_block_ret ?_ | refine E_block_exit ?_ | refine E_block_exit_other rfl ?_)
      refine S_quiet (by kernel_rfl) (by kernel_rfl) ?_
      refine Q_cons (Still1.of_pure (p_loadRow rfl row_Sum (by repeat (first | exact List.Mem.head _ | apply List.Mem.tail)) (by rw [bytesV_length, hsec]))) rfl ?_
      refine Q_cons (Still1.of_pure (p_move rfl)) rfl ?_
      refine Q_cons (Still1.of_pure (p_move rfl)) rfl ?_
      refine Q_cons (Still1.of_pure (p_indexR (j := j) rfl rfl rfl slr_api_Sum hh.1)) rfl ?_
      refine Q_cons (Still1.of_pure (p_loadR rfl row_Sum (n := 32) (cs := bytesV (secretS seed j a.1 a.2)) (fun w' hm => by have h := (hm.readsSp (b := p.1) (sp := p.2.2) hws (by unfold Gr.hp; repeat (first | exact List.Mem.head _ | apply List.Mem.tail))).at_ (j := j) (by rw [hwl]; exact hh.1); rw [hget] at h; exact h))) rfl ?_
      refine Q_cons (Still1.of_pure (p_neq_bytesR rfl rfl arr_Sum.1 Try.underlying5 (by kernel_rfl) (by kernel_rfl) hsec hsec not_self)) rfl ?_
      refine Q_nil ?_
      repeat (first | refine S_scope ?_ | refine S_label ?_ | refine E_noGoto_normal ?_ | refine E_noGoto_ret ?_ | refine E_noGoto_exit ?_ | refine S_yes rfl (by first | with_reducible rfl | decide) ?_ | refine S_no rfl (by first | with_reducible rfl | decide) ?_ | refine S_seq ?_ | refine E_seq ?_ | refine S_block ?_ | refine E_block_normal ?_ | refine S_skip ?_ | refine S_exit ?_ | refine S_ret ?_ | refine E_then_exit ?_ | refine E_then_ret ?_ | refine E_block_ret ?_ | refine E_block_exit ?_ | refine E_block_exit_other rfl ?_)
      refine S_region ?_
      refine R_cons rfl (op_pure (p_move rfl) rfl ?_)
      refine R_cons rfl (op_pure (p_bin rfl rfl (b_sub hsub)) rfl ?_)
      refine R_cons rfl (op_pure (p_assign rfl) rfl ?_)
      refine R_nil ?_
      repeat (first | refine S_scope ?_ | refine S_label ?_ | refine E_noGoto_normal ?_ | refine E_noGoto_ret ?_ | refine E_noGoto_exit ?_ | refine S_yes rfl (by first | with_reducible rfl | decide) ?_ | refine S_no rfl (by first | with_reducible rfl | decide) ?_ | refine S_seq ?_ | refine E_seq ?_ | refine S_block ?_ | refine E_block_normal ?_ | refine S_skip ?_ | refine S_exit ?_ | refine S_ret ?_ | refine E_then_exit ?_ | refine E_then_ret ?_ | refine E_block_ret ?_ | refine E_block_exit ?_ | refine E_block_exit_other rfl ?_)
      exact E_round j hh.2.2 (Nat.lt_succ_self j) (by repeat (first | exact Sub.nil | refine Sub.cons rfl ?_)) (.drop (Fewer.refl _))
end

theorem own : ownKnob Try.prog.godebug = none := by kernel_rfl
theorem laidOut : laidOutB Try.prog = true := by kernel_rfl
set_option maxRecDepth 100000 in
theorem lifted (os : Os) (started : os.Started) (H : Type) (enc : TypeId × Value → H) :
    ReturnsInHanded {} Try.checked os 9 .any (Rows.seedsAgainSpec.pre6 enc Try.prog Try.f9 Rows.seedsAgainRow.domain false) (Rows.seedsAgainSpec.post enc Try.prog Try.f9 false true false false) := by
  refine returnsInHanded_of_change (C := Try.checked) own started (by kernel_rfl) Try.func9
    (ChangeSpec.witness6 (enc := enc) (C := Try.checked) false ⟨#[], #[.agg #[.int .u8 0, .int .u8 0, .int .u8 0, .int .u8 0, .int .u8 0, .int .u8 0, .int .u8 0, .int .u8 0, .int .u8 0, .int .u8 0, .int .u8 0, .int .u8 0, .int .u8 0, .int .u8 0, .int .u8 0, .int .u8 0, .int .u8 0, .int .u8 0, .int .u8 0, .int .u8 0, .int .u8 0, .int .u8 0, .int .u8 0, .int .u8 0, .int .u8 0, .int .u8 0, .int .u8 0, .int .u8 0, .int .u8 0, .int .u8 0, .int .u8 0, .int .u8 0], .agg #[.int .u8 0, .int .u8 0, .int .u8 0, .int .u8 0, .int .u8 0, .int .u8 0, .int .u8 0, .int .u8 0, .int .u8 0, .int .u8 0, .int .u8 0, .int .u8 0, .int .u8 0, .int .u8 0, .int .u8 0, .int .u8 0, .int .u8 0, .int .u8 0, .int .u8 0, .int .u8 0, .int .u8 0, .int .u8 0, .int .u8 0, .int .u8 0, .int .u8 0, .int .u8 0, .int .u8 0, .int .u8 0, .int .u8 0, .int .u8 0, .int .u8 0, .int .u8 0], .slice none 0 0], []⟩ 8 (by kernel_rfl) (by kernel_rfl) (by kernel_rfl) (by kernel_rfl)) ?_
  intro W base args ds gs before hval0 hW hcnd _
  have hval : ∀ (j : Nat) t v, Try.f9.params[j]? = some t → args[j]? = some v → Value.okWide Try.prog W .any base t v := hval0
  have hW' := hW
  obtain ⟨p, q, hA0, hV, rfl, hfz, hnd⟩ := hW
  have hA : DataW.TrodAll enc Try.prog W 0 (fun _ => true) true Try.f9.params.toList args.toList ds p := hA0
  rw [Try.params9] at hA hval
  obtain ⟨v0, vs0, d0, ds0, p0, q0, hargs, rfl, rfl, h0, r0⟩ := trodAll_cons hA
  obtain ⟨v1, vs1, d1, ds1, p1, q1, rfl, rfl, rfl, h1, r1⟩ := trodAll_cons r0
  obtain ⟨v2, vs2, d2, ds2, p2, q2, rfl, rfl, rfl, h2, r2⟩ := trodAll_cons r1
  obtain ⟨rfl, rfl, rfl⟩ := trodAll_nil r2
  obtain rfl : args = #[v0, v1, v2] := by cases args; simp_all
  obtain ⟨rfl, rfl⟩ := trodVars_none hV
  have k0 := h0
  have lt0 : ∀ x ∈ p0, x.block < W.heap.size := by obtain ⟨m, hm⟩ := k0; exact DataW.trod_lt m _ _ _ hm
  have k1 := h1
  have lt1 : ∀ x ∈ p1, x.block < W.heap.size := by obtain ⟨m, hm⟩ := k1; exact DataW.trod_lt m _ _ _ hm
  have k2 := h2
  have lt2 : ∀ x ∈ p2, x.block < W.heap.size := by obtain ⟨m, hm⟩ := k2; exact DataW.trod_lt m _ _ _ hm
  obtain ⟨a0, rfl, l0⟩ := arg_bytes Try.underlying23 Try.underlying5 (by kernel_rfl) (by kernel_rfl) (hval 0 23 v0 rfl rfl) k0
  obtain ⟨a1, rfl, l1⟩ := arg_bytes Try.underlying23 Try.underlying5 (by kernel_rfl) (by kernel_rfl) (hval 1 23 v1 rfl rfl) k1
  obtain ⟨A2, c2, a2, rfl, rd2, ok2, lc2, cm2⟩ := arg_rows pairV pairOk (by decide) (fun _ _ => rfl) Try.underlying50 (by kernel_rfl) (fun n cs x hx => open_pair Try.underlying44 Try.underlying3 (by kernel_rfl) (by kernel_rfl) rfl rfl hx) pair_cell (hval 2 50 v2 rfl rfl) k2
  clear hA0 hval0
  refine (walk W a0 l0 a1 l1 A2 c2 a2 rd2 ok2 lc2 cm2).mono fun e W' ⟨he, bel⟩ => ?_
  subst he
  exact ⟨_, rfl, _, _, _, [], _, [], hW', trodAll_mk1 (shut_bool Try.underlying4 _), (trodAll_cons_mk (Below.trod laidOut (by kernel_rfl) (of_decide_eq_true (by kernel_rfl)) k0 bel lt0) (trodAll_cons_mk (Below.trod laidOut (by kernel_rfl) (of_decide_eq_true (by kernel_rfl)) k1 bel lt1) (trodAll_cons_mk (Below.trod laidOut (by kernel_rfl) (of_decide_eq_true (by kernel_rfl)) k2 bel lt2) trodAll_mk0))), rfl, bel.frame _, fun h => by cases h⟩
/-- The statement. -/
theorem proved : Rows.SeedsAgainSaid :=
  OpenClaim.holds_of_wide 9 Try.f9 rfl rfl rfl rfl rfl rfl rfl ⟨rfl, rfl, rfl, rfl, rfl⟩ rfl rfl rfl rfl rfl (by kernel_rfl) Try.func9 (by kernel_rfl)
    (of_decide_eq_true (by kernel_rfl)) (by unfold Func.isWrapper; first | (rw [if_pos (by decide +kernel)]; kernel_rfl) | (rw [if_neg (by decide +kernel)]; exact ⟨rfl, rfl⟩))
    (fun os started H enc _ => lifted os started H enc)
#print axioms proved
end Go.Proofs.Ythkogneaimjhjaa.seedsAgain
