
/-
  Proved: however often a disk fails, and wherever, no number is told twice. No condition.
-/
import Derived.Test.YtfdlafjifjndeaaRows
import Derived.Test.YtfdlafjifjndeaaCnt7
namespace Go.Proofs.Ytfdlafjifjndeaa.countsOnce
open Go.ChangeShapes Go.WideShapes Go.ChangeAt
open Go.RowKit Go.K
attribute [local irreducible] Exit.then Exit.inBlock Exit.noGoto bodyPost Code.wp QL Sx Rx Qx Ex Dx Op1 Pure1 Still1 K.Sub Calm Code.wpIn
set_option linter.unusedVariables false
theorem row_16_int : Row Try.prog 58 16 := ⟨_, Try.underlying58, rfl, by kernel_rfl⟩
theorem zero_16_int : Zr Try.prog 58 ((List.replicate 16 ([Value.int .i64 0])).flatten) := by unfold Zr; kernel_rfl
theorem elr_16_int : ElR Try.prog 58 (.agg ((List.replicate 16 ([Value.int .i64 0])).flatten).toArray) 16 128 := by
  obtain ⟨i, h1, h2, h3, h4⟩ := info_parts (show (Try.prog.info? 58).map (fun i => (i.zero, i.size, i.bytes)) = some (some (.agg ((List.replicate 16 ([Value.int .i64 0])).flatten).toArray), 16, 128) from by kernel_rfl)
  exact ⟨i, h1, h2, h3, h4, rfl⟩
theorem blt_16_int : ∀ parts, Try.prog.built 58 parts = Instr.fill (fun i => some (i * 1, 1)) ((List.replicate 16 ([Value.int .i64 0])).flatten).toArray parts := fun parts => by kernel_rfl
theorem ut_16_int : Try.prog.underlying 58 = some (.array 16 3) := Try.underlying58
theorem arr_16_int : Arr Try.prog 58 16 3 := ⟨Try.underlying58, sc_int⟩
theorem row_almonerlaw22_Try : Row Try.prog 62 2 := ⟨_, Try.underlying62, rfl, by kernel_rfl⟩
theorem zero_almonerlaw22_Try : Zr Try.prog 62 (([Value.int .u8 0] ++ ([Value.slice none 0 0]))) := by unfold Zr; kernel_rfl
theorem elr_almonerlaw22_Try : ElR Try.prog 62 (.agg (([Value.int .u8 0] ++ ([Value.slice none 0 0]))).toArray) 2 32 := by
  obtain ⟨i, h1, h2, h3, h4⟩ := info_parts (show (Try.prog.info? 62).map (fun i => (i.zero, i.size, i.bytes)) = some (some (.agg (([Value.int .u8 0] ++ ([Value.slice none 0 0]))).toArray), 2, 32) from by kernel_rfl)
  exact ⟨i, h1, h2, h3, h4, rfl⟩
theorem fd_almonerlaw22_Try_0 : FldAt Try.prog 62 0 0 := ⟨_, _, 0, Try.underlying62, rfl, rfl, by kernel_rfl⟩
theorem fd_almonerlaw22_Try_1 : FldAt Try.prog 62 1 1 := ⟨_, _, 0, Try.underlying62, rfl, rfl, by kernel_rfl⟩
theorem blt_almonerlaw22_Try : ∀ parts, Try.prog.built 62 parts = Instr.fill (fun i => [(0, 1), (1, 1)].toArray[i]?) (([Value.int .u8 0] ++ ([Value.slice none 0 0]))).toArray parts := fun parts => by kernel_rfl
theorem slr_almonerlaw22_Try : SlR Try.prog 57 62 2 := ⟨Try.underlying57, row_almonerlaw22_Try⟩
theorem sc_almonerlaw22_Try : Sc Try.prog 57 := ⟨_, Try.underlying57, rfl, by kernel_rfl⟩
theorem zs_almonerlaw22_Try : Zs Try.prog 57 (Value.slice none 0 0) := ⟨by kernel_rfl, rfl⟩
theorem sc_bools : Sc Try.prog 60 := ⟨_, Try.underlying60, rfl, by kernel_rfl⟩
def intsV (c : List Nat) : List Value := c.map fun n : Nat => Value.int .i64 (n : Int)
theorem intsV_length (c : List Nat) : (intsV c).length = c.length := List.length_map ..
theorem intsV_get (c : List Nat) (j : Nat) (h : j < c.length) : (intsV c)[j]? = some (.int .i64 ((c.getD j 0 : Nat) : Int)) := by
  unfold intsV
  rw [List.getElem?_map, List.getD_eq_getElem?_getD, List.getElem?_eq_getElem h]
  rfl
theorem intsV_set (c : List Nat) (j n : Nat) : (intsV c).set j (.int .i64 (n : Int)) = intsV (c.set j n) := by
  unfold intsV
  rw [List.map_set]
/-- how it stands with the disk: it may be written to so often; a write failed; making sure failed, and the write waits -/
inductive Ph where
  | up (L : Nat)
  | dn
  | wt (bw cw : Nat) (spw : List Value)
def Ph.down : Ph → Bool
  | .up _ => false
  | _ => true
def Ph.ok (k : Nat) : Ph → Prop
  | .up L => L < 1000
  | .dn => k < 16
  | .wt _ cw _ => k < 16 ∧ 1 ≤ cw
def phRest (bd bs bn cs cn : Nat) (sps spn : List Value) (k : Nat) : Ph → Hp
  | .up L => [(bd, .cells (diskC (.slice (some ⟨bs, 0, none⟩) 1 cs) (.slice (some ⟨bn, 0, none⟩) 1 cn) (.slice none 0 0) ((L : Nat) : Int) false).toArray 113 (0, 0)), (bs, .cells (secV (dks [k]) ++ sps).toArray 115 (0, 0)), (bn, .cells (secV (dks [k]) ++ spn).toArray 115 (0, 0))]
  | .dn => [(bd, .cells (diskC (.slice (some ⟨bs, 0, none⟩) 1 cs) (.slice (some ⟨bn, 0, none⟩) 1 cn) (.slice none 0 0) 0 true).toArray 113 (0, 0)), (bs, .cells (secV (dks [k]) ++ sps).toArray 115 (0, 0))]
  | .wt bw cw spw => [(bd, .cells (diskC (.slice (some ⟨bs, 0, none⟩) 1 cs) (.slice (some ⟨bn, 0, none⟩) 1 cn) (.slice (some ⟨bw, 0, none⟩) 1 cw) 0 true).toArray 113 (0, 0)), (bs, .cells (secV (dks [k]) ++ sps).toArray 115 (0, 0)), (bw, .cells ((Value.int .i64 ((0 : Nat) : Int) :: bytesV (toldS (k + 1))) ++ spw).toArray 120 (0, 0))]
structure Outer where
  i : Nat
  k : Nat
  bd : Nat
  bs : Nat
  cs : Nat
  bn : Nat
  cn : Nat
  bc : Nat
  sps : List Value
  spn : List Value
  c : List Nat
structure Inner where
  j : Nat
  k : Nat
  c : List Nat
  ph : Ph
def free (k : Nat) (c : List Nat) : Prop := c.length = 16 ∧ ∀ j, k ≤ j → c.getD j 0 = 0
theorem free_set {k : Nat} {c : List Nat} (h : free k c) : free (k + 1) (c.set k 1) := by
  refine ⟨by rw [List.length_set]; exact h.1, fun j hj => ?_⟩
  rw [List.getD_eq_getElem?_getD, List.getElem?_set_ne (by omega), ← List.getD_eq_getElem?_getD]
  exact h.2 j (by omega)
theorem free_up {k k' : Nat} {c : List Nat} (h : free k c) (hk : k ≤ k') : free k' c := ⟨h.1, fun j hj => h.2 j (by omega)⟩
theorem free_0 : free 0 (List.replicate 16 0) := ⟨List.length_replicate, fun j _ => by
  rw [List.getD_eq_getElem?_getD, List.getElem?_replicate]
  split <;> rfl⟩
/-- a Next that is not had any more -/
theorem cnext_12 (bc bd at_ : Nat) (down : Bool) (w : World) (hb : w.heap[bc]? = some (.cells (cntC 16 bd at_ down).toArray 103 (0, 0))) :
    Calls Try.prog 21 [.pointer (some ⟨bc, 0, none⟩)].toArray w fun e w' => e = .returned (.tuple [.int .u32 0, .int .i64 12].toArray) ∧ Below w.heap.size w w' := by
  have h := cnext_no bc 16 bd at_ down (by omega) (.inl (by omega)) w hb
  rw [if_pos (by omega)] at h
  exact h
theorem cnext_9 (bc k bd at_ : Nat) (hk : k < 16) (w : World) (hb : w.heap[bc]? = some (.cells (cntC k bd at_ true).toArray 103 (0, 0))) :
    Calls Try.prog 21 [.pointer (some ⟨bc, 0, none⟩)].toArray w fun e w' => e = .returned (.tuple [.int .u32 0, .int .i64 9].toArray) ∧ Below w.heap.size w w' := by
  have h := cnext_no bc k bd at_ true (by omega) (.inr rfl) w hb
  rw [if_neg (by omega)] at h
  exact h
attribute [local irreducible] digitsB onNat sumU Buf.hp Buf.cap Buf.addr secV toldS getP leftS blownS openedS diskN secT dks intsV

set_option maxHeartbeats 8000000 in
theorem walk (w : World) (A : Option Addr) (c : Nat) (l : List ByteBools) (hrd : Reads w A (l.length * 2) (l.flatMap ByteBools.val)) (hok : ∀ s ∈ l, s.ok w) (hnc : l.length ≤ c) (hcm : c ≤ maxLen) :
    Calls Try.prog 9 [.slice A l.length c].toArray w fun e w' => e = .returned (.bool true) ∧ Below w.heap.size w w' := by
  have hS00 := dks_secs [0]
  have hl00 : (dks [0]).length = 1 := dks_length [0]
  have hx00 : (dks [0])[0]? = some (secT 0) := dks_at [0] 0 0 rfl
  refine enter Try.func9 rfl Try.ntmps9 (by simp) ?_
  by_cases hlong : 100 < l.length
  · have g1 : decide ((100 : Int) < (l.length : Int)) = true := decide_eq_true (by omega)
    repeat (first | refine S_scope ?_ | refine S_label ?_ | refine E_noGoto_normal ?_ | refine E_noGoto_ret ?_ | refine E_noGoto_exit ?_ | refine S_yes rfl (by first | with_reducible rfl | decide) ?_ | refine S_no rfl (by first | with_reducible rfl | decide) ?_ | refine S_seq ?_ | refine E_seq ?_ | refine S_block ?_ | refine E_block_normal ?_ | refine S_skip ?_ | refine S_exit ?_ | refine S_ret ?_ | refine E_then_exit ?_ | refine E_then_ret ?_ | refine E_block_ret ?_ | refine E_block_exit ?_ | refine E_block_exit_other rfl ?_)
    refine S_region ?_
    refine R_cons rfl (op_pure (p_assign rfl) rfl ?_)
    refine R_nil ?_
    repeat (first | refine S_scope ?_ | refine S_label ?_ | refine E_noGoto_normal ?_ | refine E_noGoto_ret ?_ | refine E_noGoto_exit ?_ | refine S_yes rfl (by first | with_reducible rfl | decide) ?_ | refine S_no rfl (by first | with_reducible rfl | decide) ?_ | refine S_seq ?_ | refine E_seq ?_ | refine S_block ?_ | refine E_block_normal ?_ | refine S_skip ?_ | refine S_exit ?_ | refine S_ret ?_ | refine E_then_exit ?_ | refine E_then_ret ?_ | refine E_block_ret ?_ | refine E_block_exit ?_ | refine E_block_exit_other rfl ?_)
    refine S_region ?_
    refine R_cons rfl (op_pure (p_move rfl) rfl ?_)
    refine R_cons rfl (op_pure (p_lenR rfl slr_almonerlaw22_Try) rfl ?_)
    refine R_cons rfl (op_pure (p_bin rfl rfl (b_gtr g1)) rfl ?_)
    refine R_nil ?_
    repeat (first | refine S_scope ?_ | refine S_label ?_ | refine E_noGoto_normal ?_ | refine E_noGoto_ret ?_ | refine E_noGoto_exit ?_ | refine S_yes rfl (by first | with_reducible rfl | decide) ?_ | refine S_no rfl (by first | with_reducible rfl | decide) ?_ | refine S_seq ?_ | refine E_seq ?_ | refine S_block ?_ | refine E_block_normal ?_ | refine S_skip ?_ | refine S_exit ?_ | refine S_ret ?_ | refine E_then_exit ?_ | refine E_then_ret ?_ | refine E_block_ret ?_ | refine E_block_exit ?_ | refine E_block_exit_other rfl ?_)
    refine S_region ?_
    refine R_cons rfl (op_callV rfl rfl Try.func23 rfl (by kernel_rfl) rfl (Nat.le_refl _) (fun w' _ => lives22 w') ?_)
    refine R_cons rfl (op_pure (p_assign rfl) rfl ?_)
    refine R_nil ?_
    repeat (first | refine S_scope ?_ | refine S_label ?_ | refine E_noGoto_normal ?_ | refine E_noGoto_ret ?_ | refine E_noGoto_exit ?_ | refine S_yes rfl (by first | with_reducible rfl | decide) ?_ | refine S_no rfl (by first | with_reducible rfl | decide) ?_ | refine S_seq ?_ | refine E_seq ?_ | refine S_block ?_ | refine E_block_normal ?_ | refine S_skip ?_ | refine S_exit ?_ | refine S_ret ?_ | refine E_then_exit ?_ | refine E_then_ret ?_ | refine E_block_ret ?_ | refine E_block_exit ?_ | refine E_block_exit_other rfl ?_)
    exact E_ret1 rfl rfl fun w' hm => ⟨rfl, hm.below⟩
  have g1 : decide ((100 : Int) < (l.length : Int)) = false := decide_eq_false (by omega)
  repeat (first | refine S_scope ?_ | refine S_label ?_ | refine E_noGoto_normal ?_ | refine E_noGoto_ret ?_ | refine E_noGoto_exit ?_ | refine S_yes rfl (by first | with_reducible rfl | decide) ?_ | refine S_no rfl (by first | with_reducible rfl | decide) ?_ | refine S_seq ?_ | refine E_seq ?_ | refine S_block ?_ | refine E_block_normal ?_ | refine S_skip ?_ | refine S_exit ?_ | refine S_ret ?_ | refine E_then_exit ?_ | refine E_then_ret ?_ | refine E_block_ret ?_ | refine E_block_exit ?_ | refine E_block_exit_other rfl ?_)
  refine S_region ?_
  refine R_cons rfl (op_pure (p_assign rfl) rfl ?_)
  refine R_nil ?_
  repeat (first | refine S_scope ?_ | refine S_label ?_ | refine E_noGoto_normal ?_ | refine E_noGoto_ret ?_ | refine E_noGoto_exit ?_ | refine S_yes rfl (by first | with_reducible rfl | decide) ?_ | refine S_no rfl (by first | with_reducible rfl | decide) ?_ | refine S_seq ?_ | refine E_seq ?_ | refine S_block ?_ | refine E_block_normal ?_ | refine S_skip ?_ | refine S_exit ?_ | refine S_ret ?_ | refine E_then_exit ?_ | refine E_then_ret ?_ | refine E_block_ret ?_ | refine E_block_exit ?_ | refine E_block_exit_other rfl ?_)
  refine S_region ?_
  refine R_cons rfl (op_pure (p_move rfl) rfl ?_)
  refine R_cons rfl (op_pure (p_lenR rfl slr_almonerlaw22_Try) rfl ?_)
  refine R_cons rfl (op_pure (p_bin rfl rfl (b_gtr g1)) rfl ?_)
  refine R_nil ?_
  repeat (first | refine S_scope ?_ | refine S_label ?_ | refine E_noGoto_normal ?_ | refine E_noGoto_ret ?_ | refine E_noGoto_exit ?_ | refine S_yes rfl (by first | with_reducible rfl | decide) ?_ | refine S_no rfl (by first | with_reducible rfl | decide) ?_ | refine S_seq ?_ | refine E_seq ?_ | refine S_block ?_ | refine E_block_normal ?_ | refine S_skip ?_ | refine S_exit ?_ | refine S_ret ?_ | refine E_then_exit ?_ | refine E_then_ret ?_ | refine E_block_ret ?_ | refine E_block_exit ?_ | refine E_block_exit_other rfl ?_)
  refine S_region ?_
  refine R_cons rfl (op_callNX (fun s : Nat × Nat × Nat × Nat × List Value => Value.tuple ([Value.pointer (some ⟨s.1, 0, none⟩), Value.int .i64 0] : List Value).toArray) (fun s => [(s.1, .cells (diskC (.slice (some ⟨s.2.1, 0, none⟩) 1 1) (.slice (some ⟨s.2.2.1, 0, none⟩) 1 s.2.2.2.1) (.slice none 0 0) (-1) false).toArray 113 (0, 0)), (s.2.1, .cells (secV (List.replicate 1 (List.replicate 64 0)) ++ ([] : List Value)).toArray 115 (0, 0)), (s.2.2.1, .cells (secV (List.replicate 1 (List.replicate 64 0)) ++ s.2.2.2.2).toArray 115 (0, 0))]) (fun _ => True) rfl rfl Try.func19 rfl (by kernel_rfl) rfl (fun w' _ => dnewX 1 (by omega) (by omega) w') (fun s _ => ?_))
  refine R_cons rfl (op_pure (p_move rfl) rfl ?_)
  refine R_cons rfl (op_pure (p_extract (i := 0) rfl rfl) rfl ?_)
  refine R_cons rfl (op_pure (p_extract (i := 1) rfl rfl) rfl ?_)
  refine R_cons rfl (op_pure (p_assign rfl) rfl ?_)
  refine R_cons rfl (op_pure (p_assign rfl) rfl ?_)
  refine R_nil ?_
  repeat (first | refine S_scope ?_ | refine S_label ?_ | refine E_noGoto_normal ?_ | refine E_noGoto_ret ?_ | refine E_noGoto_exit ?_ | refine S_yes rfl (by first | with_reducible rfl | decide) ?_ | refine S_no rfl (by first | with_reducible rfl | decide) ?_ | refine S_seq ?_ | refine E_seq ?_ | refine S_block ?_ | refine E_block_normal ?_ | refine S_skip ?_ | refine S_exit ?_ | refine S_ret ?_ | refine E_then_exit ?_ | refine E_then_ret ?_ | refine E_block_ret ?_ | refine E_block_exit ?_ | refine E_block_exit_other rfl ?_)
  obtain ⟨bd, bs, bn, cn, spn⟩ := s
  dsimp only
  rw [show List.replicate 1 (List.replicate 64 (0 : UInt8)) = dks [0] by unfold dks secT; rfl]
  refine S_region ?_
  refine R_cons rfl (op_pure (p_move rfl) rfl ?_)
  refine R_cons rfl (op_callNX (fun q : Nat => Value.tuple ([Value.pointer (some ⟨q, 0, none⟩), Value.int .i64 0] : List Value).toArray) (fun q => [(q, .cells (cntC 0 bd 0 false).toArray 103 (0, 0))]) (fun _ => True) rfl rfl Try.func20 rfl (by kernel_rfl) rfl (fun w' hm => copenX 0 bd bn 1 _ _ _ _ _ _ _ _ hS00 hl00 0 (by omega) _ hx00 (secT_opened 0 (by omega)) w' (hm.own (bd, _) (by (try simp only [List.cons_append, List.nil_append]); repeat (first | exact List.Mem.head _ | apply List.Mem.tail))).2 (hm.own (bn, _) (by (try simp only [List.cons_append, List.nil_append]); repeat (first | exact List.Mem.head _ | apply List.Mem.tail))).2) (fun bc _ => ?_))
  refine R_cons rfl (op_pure (p_move rfl) rfl ?_)
  refine R_cons rfl (op_pure (p_extract (i := 0) rfl rfl) rfl ?_)
  refine R_cons rfl (op_pure (p_extract (i := 1) rfl rfl) rfl ?_)
  refine R_cons rfl (op_pure (p_assign rfl) rfl ?_)
  refine R_cons rfl (op_pure (p_assign rfl) rfl ?_)
  refine R_nil ?_
  repeat (first | refine S_scope ?_ | refine S_label ?_ | refine E_noGoto_normal ?_ | refine E_noGoto_ret ?_ | refine E_noGoto_exit ?_ | refine S_yes rfl (by first | with_reducible rfl | decide) ?_ | refine S_no rfl (by first | with_reducible rfl | decide) ?_ | refine S_seq ?_ | refine E_seq ?_ | refine S_block ?_ | refine E_block_normal ?_ | refine S_skip ?_ | refine S_exit ?_ | refine S_ret ?_ | refine E_then_exit ?_ | refine E_then_ret ?_ | refine E_block_ret ?_ | refine E_block_exit ?_ | refine E_block_exit_other rfl ?_)
  refine S_region ?_
  refine R_cons rfl (op_pure (p_move rfl) rfl ?_)
  refine R_cons rfl (op_pure (p_bin rfl rfl (b_neq (by first | assumption | exact bne_iff_ne.2 (by omega) | exact bne_eq_false_iff_eq.2 (by omega) | rfl))) rfl ?_)
  refine R_cons rfl (op_pure (p_move rfl) rfl ?_)
  first | refine R_pass rfl rfl rfl rfl ?_ | refine R_pass_undef rfl rfl rfl ?_ | refine R_guard rfl rfl rfl (op_pure (p_move rfl) rfl ?_)
  first | refine R_pass rfl rfl rfl rfl ?_ | refine R_pass_undef rfl rfl rfl ?_ | refine R_guard rfl rfl rfl (op_pure (p_bin rfl rfl (b_neq (by first | assumption | exact bne_iff_ne.2 (by omega) | exact bne_eq_false_iff_eq.2 (by omega) | rfl))) rfl ?_)
  refine R_cons rfl (op_pure (by first | exact p_pick_yes rfl rfl | exact p_pick_no rfl rfl | exact p_pick rfl rfl rfl) rfl ?_)
  refine R_nil ?_
  repeat (first | refine S_scope ?_ | refine S_label ?_ | refine E_noGoto_normal ?_ | refine E_noGoto_ret ?_ | refine E_noGoto_exit ?_ | refine S_yes rfl (by first | with_reducible rfl | decide) ?_ | refine S_no rfl (by first | with_reducible rfl | decide) ?_ | refine S_seq ?_ | refine E_seq ?_ | refine S_block ?_ | refine E_block_normal ?_ | refine S_skip ?_ | refine S_exit ?_ | refine S_ret ?_ | refine E_then_exit ?_ | refine E_then_ret ?_ | refine E_block_ret ?_ | refine E_block_exit ?_ | refine E_block_exit_other rfl ?_)
  refine S_region ?_
  refine R_cons rfl (op_allocRow zero_16_int rfl (Nat.le_refl _) (fun b7 => ?_))
  refine R_nil ?_
  repeat (first | refine S_scope ?_ | refine S_label ?_ | refine E_noGoto_normal ?_ | refine E_noGoto_ret ?_ | refine E_noGoto_exit ?_ | refine S_yes rfl (by first | with_reducible rfl | decide) ?_ | refine S_no rfl (by first | with_reducible rfl | decide) ?_ | refine S_seq ?_ | refine E_seq ?_ | refine S_block ?_ | refine E_block_normal ?_ | refine S_skip ?_ | refine S_exit ?_ | refine S_ret ?_ | refine E_then_exit ?_ | refine E_then_ret ?_ | refine E_block_ret ?_ | refine E_block_exit ?_ | refine E_block_exit_other rfl ?_)
  refine S_region ?_
  refine R_cons rfl (op_pure (p_assign rfl) rfl ?_)
  refine R_nil ?_
  repeat (first | refine S_scope ?_ | refine S_label ?_ | refine E_noGoto_normal ?_ | refine E_noGoto_ret ?_ | refine E_noGoto_exit ?_ | refine S_yes rfl (by first | with_reducible rfl | decide) ?_ | refine S_no rfl (by first | with_reducible rfl | decide) ?_ | refine S_seq ?_ | refine E_seq ?_ | refine S_block ?_ | refine E_block_normal ?_ | refine S_skip ?_ | refine S_exit ?_ | refine S_ret ?_ | refine E_then_exit ?_ | refine E_then_ret ?_ | refine E_block_ret ?_ | refine E_block_exit ?_ | refine E_block_exit_other rfl ?_)
  rw [show (List.replicate 16 ([Value.int .i64 0])).flatten = intsV (List.replicate 16 0) by unfold intsV; rfl]
  refine S_loop (σ := Outer) (fun s => [(8, .int .i64 (s.i : Int)), (7, .pointer (some ⟨b7, 0, none⟩)), (5, .pointer (some ⟨s.bc, 0, none⟩)), (3, .pointer (some ⟨s.bd, 0, none⟩)), (0, .slice A l.length c)])
    (fun s => [(s.bc, .cells (cntC s.k s.bd 0 false).toArray 103 (0, 0)), (b7, .cells (intsV s.c).toArray 58 (0, 0)), (s.bd, .cells (diskC (.slice (some ⟨s.bs, 0, none⟩) 1 s.cs) (.slice (some ⟨s.bn, 0, none⟩) 1 s.cn) (.slice none 0 0) (-1) false).toArray 113 (0, 0)), (s.bs, .cells (secV (dks [s.k]) ++ s.sps).toArray 115 (0, 0)), (s.bn, .cells (secV (dks [s.k]) ++ s.spn).toArray 115 (0, 0))]) (fun s => s.i ≤ l.length ∧ s.k ≤ 16 ∧ free s.k s.c) (fun s => l.length - s.i) ⟨0, 0, bd, bs, 1, bn, cn, bc, [], spn, List.replicate 16 0⟩ ⟨Nat.zero_le _, Nat.zero_le _, free_0⟩ (by repeat (first | exact Sub.nil | refine Sub.cons rfl ?_)) (by repeat (first | exact Fewer.nil | exact Fewer.refl _ | refine Fewer.pick rfl (by repeat (first | exact Del.here | apply Del.there)) ?_)) ?_
  clear hS00 hl00 hx00
  clear bd bs bn cn spn bc
  rintro ⟨i, k, bd, bs, cs, bn, cn, bc, sps, spn, cc⟩ ⟨hi, hk, hf⟩
  dsimp only at hi hk hf ⊢
  by_cases hlt : i < l.length
  · have g3 : decide ((i : Int) < (l.length : Int)) = true := decide_eq_true (by omega)
    have hinc : IntKind.i64.wrap ((i : Int) + 1) = ((i + 1 : Nat) : Int) := by rw [w_in_i64 (by omega)]; omega
    obtain ⟨ba, offa, rfl, hbal, hca⟩ := hrd.2 (by omega)
    obtain ⟨t, ht⟩ : ∃ t, l[i]? = some t := ⟨_, List.getElem?_eq_getElem hlt⟩
    have hc0 : w.cell? ⟨ba, offa + i * 2 + 0, none⟩ = some (.int .u8 (t.at_.toNat : Int)) := by
      have h := hca (i * 2 + 0) _ ((flat_cell ByteBools.val 2 l (fun _ _ => rfl) i 0 t ht (by omega)).trans rfl)
      rwa [← Nat.add_assoc] at h
    have hc1 : w.cell? ⟨ba, offa + i * 2 + 1, none⟩ = some (.slice t.A t.l.length t.c) := by
      have h := hca (i * 2 + 1) _ ((flat_cell ByteBools.val 2 l (fun _ _ => rfl) i 1 t ht (by omega)).trans rfl)
      rwa [← Nat.add_assoc] at h
    have htok := hok t (List.mem_of_getElem? ht)
    obtain ⟨tat, tA, tc, tl⟩ := t
    have htl := htok.1
    dsimp only at hc0 hc1 htl
    have hatl := b_lt tat
    have hcv : IntKind.i64.wrap (tat.toNat : Int) = (tat.toNat : Int) := w_in_i64 (by omega)
    have hr4 : (tat.toNat : Int).tmod 4 = ((tat.toNat % 4 : Nat) : Int) := nat_rem _ 4
    have hL4 : tat.toNat % 4 < 4 := by omega
    generalize tat.toNat % 4 = L at hr4 hL4
    repeat (first | refine S_scope ?_ | refine S_label ?_ | refine E_noGoto_normal ?_ | refine E_noGoto_ret ?_ | refine E_noGoto_exit ?_ | refine S_yes rfl (by first | with_reducible rfl | decide) ?_ | refine S_no rfl (by first | with_reducible rfl | decide) ?_ | refine S_seq ?_ | refine E_seq ?_ | refine S_block ?_ | refine E_block_normal ?_ | refine S_skip ?_ | refine S_exit ?_ | refine S_ret ?_ | refine E_then_exit ?_ | refine E_then_ret ?_ | refine E_block_ret ?_ | refine E_block_exit ?_ | refine E_block_exit_other rfl ?_)
    refine S_region ?_
    refine R_cons rfl (op_pure (p_move rfl) rfl ?_)
    refine R_cons rfl (op_pure (p_move rfl) rfl ?_)
    refine R_cons rfl (op_pure (p_lenR rfl slr_almonerlaw22_Try) rfl ?_)
    refine R_cons rfl (op_pure (p_bin rfl rfl (b_lss g3)) rfl ?_)
    refine R_nil ?_
    repeat (first | refine S_scope ?_ | refine S_label ?_ | refine E_noGoto_normal ?_ | refine E_noGoto_ret ?_ | refine E_noGoto_exit ?_ | refine S_yes rfl (by first | with_reducible rfl | decide) ?_ | refine S_no rfl (by first | with_reducible rfl | decide) ?_ | refine S_seq ?_ | refine E_seq ?_ | refine S_block ?_ | refine E_block_normal ?_ | refine S_skip ?_ | refine S_exit ?_ | refine S_ret ?_ | refine E_then_exit ?_ | refine E_then_ret ?_ | refine E_block_ret ?_ | refine E_block_exit ?_ | refine E_block_exit_other rfl ?_)
    refine S_region ?_
    refine R_cons rfl (op_pure (p_move rfl) rfl ?_)
    refine R_cons rfl (op_callV rfl rfl Try.func22 rfl (by kernel_rfl) rfl (Nat.le_refl _) (fun w' hm => cused_any bc k bd 0 false w' (hm.own (bc, _) (by (try simp only [List.cons_append, List.nil_append]); repeat (first | exact List.Mem.head _ | apply List.Mem.tail))).2) ?_)
    refine R_cons rfl (op_pure (p_assign rfl) rfl ?_)
    refine R_nil ?_
    repeat (first | refine S_scope ?_ | refine S_label ?_ | refine E_noGoto_normal ?_ | refine E_noGoto_ret ?_ | refine E_noGoto_exit ?_ | refine S_yes rfl (by first | with_reducible rfl | decide) ?_ | refine S_no rfl (by first | with_reducible rfl | decide) ?_ | refine S_seq ?_ | refine E_seq ?_ | refine S_block ?_ | refine E_block_normal ?_ | refine S_skip ?_ | refine S_exit ?_ | refine S_ret ?_ | refine E_then_exit ?_ | refine E_then_ret ?_ | refine E_block_ret ?_ | refine E_block_exit ?_ | refine E_block_exit_other rfl ?_)
    refine S_region ?_
    refine R_cons rfl (op_pure (p_move rfl) rfl ?_)
    refine R_cons rfl (op_pure (p_move rfl) rfl ?_)
    refine R_cons rfl (op_pure (p_move rfl) rfl ?_)
    refine R_cons rfl (op_pure (p_indexR (j := i) rfl rfl rfl slr_almonerlaw22_Try hlt) rfl ?_)
    refine R_cons rfl (op_pure (by first | exact p_fieldAddr0 rfl fd_almonerlaw22_Try_0 | exact p_fieldAddr rfl fd_almonerlaw22_Try_0) rfl ?_)
    refine R_cons rfl (op_pure (p_load_base rfl sc_u8 hbal (by simp) hc0) rfl ?_)
    refine R_cons rfl (op_pure (p_convert rfl sc_u8 ik_int hcv) rfl ?_)
    refine R_cons rfl (op_pure (p_bin rfl rfl (b_rem (by decide) hr4)) rfl ?_)
    refine R_cons rfl (op_callX (fun _ : Unit => Value.int .i64 0) (fun _ => [(bd, .cells (diskC (.slice (some ⟨bs, 0, none⟩) 1 cs) (.slice (some ⟨bn, 0, none⟩) 1 cn) (.slice none 0 0) ((L : Nat) : Int) false).toArray 113 (0, 0))]) (fun _ => True) (Hc := [(bd, .cells (diskC (.slice (some ⟨bs, 0, none⟩) 1 cs) (.slice (some ⟨bn, 0, none⟩) 1 cn) (.slice none 0 0) (-1) false).toArray 113 (0, 0))]) (K := [(bc, .cells (cntC k bd 0 false).toArray 103 (0, 0)), (b7, .cells (intsV cc).toArray 58 (0, 0)), (bs, .cells (secV (dks [k]) ++ sps).toArray 115 (0, 0)), (bn, .cells (secV (dks [k]) ++ spn).toArray 115 (0, 0))]) rfl rfl Try.func25 rfl (by kernel_rfl) rfl (by simp only [List.cons_append, List.nil_append, List.append_nil]; (repeat (first | exact List.Perm.refl _ | refine List.Perm.cons _ ?_ | refine (perm_pick (by repeat (first | exact Del.here | apply Del.there))).trans (List.Perm.cons _ ?_)))) (fun w' hm => dfuse_any bd 1 cs _ _ _ (-1) false (by omega) ((L : Nat) : Int) w' hm) (fun _ _ => ?_))
    refine R_nil ?_
    repeat (first | refine S_scope ?_ | refine S_label ?_ | refine E_noGoto_normal ?_ | refine E_noGoto_ret ?_ | refine E_noGoto_exit ?_ | refine S_yes rfl (by first | with_reducible rfl | decide) ?_ | refine S_no rfl (by first | with_reducible rfl | decide) ?_ | refine S_seq ?_ | refine E_seq ?_ | refine S_block ?_ | refine E_block_normal ?_ | refine S_skip ?_ | refine S_exit ?_ | refine S_ret ?_ | refine E_then_exit ?_ | refine E_then_ret ?_ | refine E_block_ret ?_ | refine E_block_exit ?_ | refine E_block_exit_other rfl ?_)
    refine S_region ?_
    refine R_cons rfl (op_pure (p_assign rfl) rfl ?_)
    refine R_nil ?_
    repeat (first | refine S_scope ?_ | refine S_label ?_ | refine E_noGoto_normal ?_ | refine E_noGoto_ret ?_ | refine E_noGoto_exit ?_ | refine S_yes rfl (by first | with_reducible rfl | decide) ?_ | refine S_no rfl (by first | with_reducible rfl | decide) ?_ | refine S_seq ?_ | refine E_seq ?_ | refine S_block ?_ | refine E_block_normal ?_ | refine S_skip ?_ | refine S_exit ?_ | refine S_ret ?_ | refine E_then_exit ?_ | refine E_then_ret ?_ | refine E_block_ret ?_ | refine E_block_exit ?_ | refine E_block_exit_other rfl ?_)
    simp only [List.cons_append, List.nil_append]
    refine S_loop (σ := Inner) (fun q => [(10, .int .i64 (q.j : Int)), (9, .int .u32 (k : Int)), (8, .int .i64 (i : Int)), (7, .pointer (some ⟨b7, 0, none⟩)), (5, .pointer (some ⟨bc, 0, none⟩)), (3, .pointer (some ⟨bd, 0, none⟩)), (0, .slice (some ⟨ba, offa, none⟩) l.length c)])
      (fun q => (bc, .cells (cntC q.k bd 0 q.ph.down).toArray 103 (0, 0)) :: (b7, .cells (intsV q.c).toArray 58 (0, 0)) :: phRest bd bs bn cs cn sps spn q.k q.ph) (fun q => q.j ≤ 3 ∧ k ≤ q.k ∧ q.k ≤ 16 ∧ free q.k q.c ∧ q.ph.ok q.k) (fun q => 3 - q.j) ⟨0, k, cc, .up L⟩ ⟨Nat.zero_le _, Nat.le_refl _, hk, hf, (by show L < 1000; omega)⟩ (by repeat (first | exact Sub.nil | refine Sub.cons rfl ?_)) (by dsimp only [phRest, Ph.down, List.cons_append, List.nil_append]; exact (by repeat (first | exact Fewer.nil | exact Fewer.refl _ | refine Fewer.pick rfl (by repeat (first | exact Del.here | apply Del.there)) ?_))) ?_
    clear hf hk
    rintro ⟨j, k', c', ph⟩ ⟨hj, hkk, hk', hf', hph⟩
    dsimp only at hj hkk hk' hf' hph ⊢
    by_cases hlt2 : j < 3
    · have g4 : decide ((j : Int) < 3) = true := decide_eq_true (by omega)
      have hinc2 : IntKind.i64.wrap ((j : Int) + 1) = ((j + 1 : Nat) : Int) := by rw [w_in_i64 (by omega)]; omega
      have hS := dks_secs [k']
      have hl : (dks [k']).length = 1 := dks_length [k']
      repeat (first | refine S_scope ?_ | refine S_label ?_ | refine E_noGoto_normal ?_ | refine E_noGoto_ret ?_ | refine E_noGoto_exit ?_ | refine S_yes rfl (by first | with_reducible rfl | decide) ?_ | refine S_no rfl (by first | with_reducible rfl | decide) ?_ | refine S_seq ?_ | refine E_seq ?_ | refine S_block ?_ | refine E_block_normal ?_ | refine S_skip ?_ | refine S_exit ?_ | refine S_ret ?_ | refine E_then_exit ?_ | refine E_then_ret ?_ | refine E_block_ret ?_ | refine E_block_exit ?_ | refine E_block_exit_other rfl ?_)
      refine S_region ?_
      refine R_cons rfl (op_pure (p_move rfl) rfl ?_)
      refine R_cons rfl (op_pure (p_bin rfl rfl (b_lss g4)) rfl ?_)
      refine R_nil ?_
      repeat (first | refine S_scope ?_ | refine S_label ?_ | refine E_noGoto_normal ?_ | refine E_noGoto_ret ?_ | refine E_noGoto_exit ?_ | refine S_yes rfl (by first | with_reducible rfl | decide) ?_ | refine S_no rfl (by first | with_reducible rfl | decide) ?_ | refine S_seq ?_ | refine E_seq ?_ | refine S_block ?_ | refine E_block_normal ?_ | refine S_skip ?_ | refine S_exit ?_ | refine S_ret ?_ | refine E_then_exit ?_ | refine E_then_ret ?_ | refine E_block_ret ?_ | refine E_block_exit ?_ | refine E_block_exit_other rfl ?_)
      refine S_cutE (σ := Nat × Int × Nat × Ph) (fun q => [(12, .int .i64 q.2.1), (11, .int .u32 (q.1 : Int)), (10, .int .i64 (j : Int)), (9, .int .u32 (k : Int)), (8, .int .i64 (i : Int)), (7, .pointer (some ⟨b7, 0, none⟩)), (5, .pointer (some ⟨bc, 0, none⟩)), (3, .pointer (some ⟨bd, 0, none⟩)), (0, .slice (some ⟨ba, offa, none⟩) l.length c)])
        (fun q => (bc, .cells (cntC q.2.2.1 bd 0 q.2.2.2.down).toArray 103 (0, 0)) :: (b7, .cells (intsV c').toArray 58 (0, 0)) :: phRest bd bs bn cs cn sps spn q.2.2.1 q.2.2.2) (fun q => (q.2.1 = 0 ∧ q.1 = k' ∧ q.2.2.1 = k' + 1 ∧ k' < 16 ∧ q.2.2.2.ok (k' + 1)) ∨ (q.1 = 0 ∧ q.2.2.1 = k' ∧ (q.2.1 = 12 ∧ k' = 16 ∨ q.2.1 = 9) ∧ q.2.2.2.ok k')) ?_ ?_
      · cases ph with
        | up L =>
          dsimp only [phRest, Ph.down]
          have hL : L < 1000 := hph
          by_cases hfull : k' = 16
          · subst hfull
            refine S_region ?_
            refine R_cons rfl (op_pure (p_move rfl) rfl ?_)
            refine R_cons rfl (op_callV rfl rfl Try.func21 rfl (by kernel_rfl) rfl (Nat.le_refl _) (fun w' hm => cnext_12 bc bd 0 false w' (hm.own (bc, _) (by (try simp only [List.cons_append, List.nil_append]); repeat (first | exact List.Mem.head _ | apply List.Mem.tail))).2) ?_)
            refine R_cons rfl (op_pure (p_move rfl) rfl ?_)
            refine R_cons rfl (op_pure (p_extract (i := 0) rfl rfl) rfl ?_)
            refine R_cons rfl (op_pure (p_extract (i := 1) rfl rfl) rfl ?_)
            refine R_cons rfl (op_pure (p_assign rfl) rfl ?_)
            refine R_cons rfl (op_pure (p_assign rfl) rfl ?_)
            refine R_nil ?_
            exact E_midE (0, 12, 16, .up L) (.inr ⟨rfl, rfl, .inl ⟨rfl, rfl⟩, hph⟩) (by repeat (first | exact Sub.nil | refine Sub.cons rfl ?_)) (by dsimp only [phRest, Ph.down, List.cons_append, List.nil_append]; exact (by repeat (first | exact Fewer.nil | exact Fewer.refl _ | refine Fewer.pick rfl (by repeat (first | exact Del.here | apply Del.there)) ?_)))
          have hu : k' < 16 := by omega
          have hdk : (dks [k']).set 0 (toldS (k' + 1)) = dks [k' + 1] := dks_set [k'] 0 k'
          by_cases hL0 : L = 0
          · subst hL0
            refine S_region ?_
            refine R_cons rfl (op_pure (p_move rfl) rfl ?_)
            refine R_cons rfl (op_callX (fun _ : Unit => (Value.tuple ([Value.int .u32 0, Value.int .i64 9] : List Value).toArray)) (fun _ => [(bc, .cells (cntC k' bd 0 true).toArray 103 (0, 0)), (bd, .cells (diskC (.slice (some ⟨bs, 0, none⟩) 1 cs) (.slice (some ⟨bn, 0, none⟩) 1 cn) (.slice none 0 0) 0 true).toArray 113 (0, 0)), (bs, .cells (secV (dks [k']) ++ sps).toArray 115 (0, 0)), (bn, .cells (secV (dks [k']) ++ spn).toArray 115 (0, 0))]) (fun _ => True) (Hc := [(bc, .cells (cntC k' bd 0 false).toArray 103 (0, 0)), (bd, .cells (diskC (.slice (some ⟨bs, 0, none⟩) 1 cs) (.slice (some ⟨bn, 0, none⟩) 1 cn) (.slice none 0 0) ((0 : Nat) : Int) false).toArray 113 (0, 0)), (bs, .cells (secV (dks [k']) ++ sps).toArray 115 (0, 0)), (bn, .cells (secV (dks [k']) ++ spn).toArray 115 (0, 0))]) (K := [(b7, .cells (intsV c').toArray 58 (0, 0))]) rfl rfl Try.func21 rfl (by kernel_rfl) rfl (by simp only [List.cons_append, List.nil_append, List.append_nil]; (repeat (first | exact List.Perm.refl _ | refine List.Perm.cons _ ?_ | refine (perm_pick (by repeat (first | exact Del.here | apply Del.there))).trans (List.Perm.cons _ ?_)))) (fun w' hm => cnextWX bc k' bd bs bn 0 1 cs cn ((0 : Nat) : Int) (dks [k']) (dks [k']) sps spn rfl hS hS hl hl (by omega) (by omega) hu w' hm) (fun _ _ => ?_))
            refine R_cons rfl (op_pure (p_move rfl) rfl ?_)
            refine R_cons rfl (op_pure (p_extract (i := 0) rfl rfl) rfl ?_)
            refine R_cons rfl (op_pure (p_extract (i := 1) rfl rfl) rfl ?_)
            refine R_cons rfl (op_pure (p_assign rfl) rfl ?_)
            refine R_cons rfl (op_pure (p_assign rfl) rfl ?_)
            refine R_nil ?_
            exact E_midE (0, 9, k', .dn) (.inr ⟨rfl, rfl, .inr rfl, hu⟩) (by repeat (first | exact Sub.nil | refine Sub.cons rfl ?_)) (by dsimp only [phRest, Ph.down, List.cons_append, List.nil_append]; exact (by repeat (first | exact Fewer.nil | exact Fewer.refl _ | refine Fewer.pick rfl (by repeat (first | exact Del.here | apply Del.there)) ?_)))
          by_cases hL1 : L = 1
          · subst hL1
            refine S_region ?_
            refine R_cons rfl (op_pure (p_move rfl) rfl ?_)
            refine R_cons rfl (op_callX (fun _ : Nat × Nat × List Value => (Value.tuple ([Value.int .u32 0, Value.int .i64 9] : List Value).toArray)) (fun q => [(bc, .cells (cntC k' bd 0 true).toArray 103 (0, 0)), (bd, .cells (diskC (.slice (some ⟨bs, 0, none⟩) 1 cs) (.slice (some ⟨bn, 0, none⟩) 1 cn) (.slice (some ⟨q.1, 0, none⟩) 1 q.2.1) 0 true).toArray 113 (0, 0)), (bs, .cells (secV (dks [k']) ++ sps).toArray 115 (0, 0)), (bn, .cells (secV ((dks [k']).set 0 (toldS (k' + 1))) ++ spn).toArray 115 (0, 0)), (q.1, .cells ((Value.int .i64 ((0 : Nat) : Int) :: bytesV (toldS (k' + 1))) ++ q.2.2).toArray 120 (0, 0))]) (fun q => 1 ≤ q.2.1) (Hc := [(bc, .cells (cntC k' bd 0 false).toArray 103 (0, 0)), (bd, .cells (diskC (.slice (some ⟨bs, 0, none⟩) 1 cs) (.slice (some ⟨bn, 0, none⟩) 1 cn) (.slice none 0 0) ((1 : Nat) : Int) false).toArray 113 (0, 0)), (bs, .cells (secV (dks [k']) ++ sps).toArray 115 (0, 0)), (bn, .cells (secV (dks [k']) ++ spn).toArray 115 (0, 0))]) (K := [(b7, .cells (intsV c').toArray 58 (0, 0))]) rfl rfl Try.func21 rfl (by kernel_rfl) rfl (by simp only [List.cons_append, List.nil_append, List.append_nil]; (repeat (first | exact List.Perm.refl _ | refine List.Perm.cons _ ?_ | refine (perm_pick (by repeat (first | exact Del.here | apply Del.there))).trans (List.Perm.cons _ ?_)))) (fun w' hm => cnextSX bc k' bd bs bn 0 1 cs cn ((1 : Nat) : Int) (dks [k']) (dks [k']) sps spn rfl hS hS hl hl (by omega) (by omega) hu w' hm) (fun q hq => ?_))
            refine R_cons rfl (op_pure (p_move rfl) rfl ?_)
            refine R_cons rfl (op_pure (p_extract (i := 0) rfl rfl) rfl ?_)
            refine R_cons rfl (op_pure (p_extract (i := 1) rfl rfl) rfl ?_)
            refine R_cons rfl (op_pure (p_assign rfl) rfl ?_)
            refine R_cons rfl (op_pure (p_assign rfl) rfl ?_)
            refine R_nil ?_
            exact E_midE (0, 9, k', .wt q.1 q.2.1 q.2.2) (.inr ⟨rfl, rfl, .inr rfl, hu, hq⟩) (by repeat (first | exact Sub.nil | refine Sub.cons rfl ?_)) (by dsimp only [phRest, Ph.down, List.cons_append, List.nil_append]; exact (by repeat (first | exact Fewer.nil | exact Fewer.refl _ | refine Fewer.pick rfl (by repeat (first | exact Del.here | apply Del.there)) ?_)))
          obtain ⟨L2, rfl⟩ : ∃ L2, L = L2 + 2 := ⟨L - 2, by omega⟩
          refine S_region ?_
          refine R_cons rfl (op_pure (p_move rfl) rfl ?_)
          refine R_cons rfl (op_callX (fun _ : Unit => (Value.tuple ([Value.int .u32 ((k' : Nat) : Int), Value.int .i64 0] : List Value).toArray)) (fun _ => [(bc, .cells (cntC (k' + 1) bd 0 false).toArray 103 (0, 0)), (bd, .cells (diskC (.slice (some ⟨bs, 0, none⟩) 1 cs) (.slice (some ⟨bn, 0, none⟩) 1 cn) (.slice none 0 0) ((L2 : Nat) : Int) false).toArray 113 (0, 0)), (bs, .cells (secV ((dks [k']).set 0 (toldS (k' + 1))) ++ sps).toArray 115 (0, 0)), (bn, .cells (secV ((dks [k']).set 0 (toldS (k' + 1))) ++ spn).toArray 115 (0, 0))]) (fun _ => True) (Hc := [(bc, .cells (cntC k' bd 0 false).toArray 103 (0, 0)), (bd, .cells (diskC (.slice (some ⟨bs, 0, none⟩) 1 cs) (.slice (some ⟨bn, 0, none⟩) 1 cn) (.slice none 0 0) ((L2 + 2 : Nat) : Int) false).toArray 113 (0, 0)), (bs, .cells (secV (dks [k']) ++ sps).toArray 115 (0, 0)), (bn, .cells (secV (dks [k']) ++ spn).toArray 115 (0, 0))]) (K := [(b7, .cells (intsV c').toArray 58 (0, 0))]) rfl rfl Try.func21 rfl (by kernel_rfl) rfl (by simp only [List.cons_append, List.nil_append, List.append_nil]; (repeat (first | exact List.Perm.refl _ | refine List.Perm.cons _ ?_ | refine (perm_pick (by repeat (first | exact Del.here | apply Del.there))).trans (List.Perm.cons _ ?_)))) (fun w' hm => cnextOX bc k' bd bs bn 0 1 cs cn ((L2 + 2 : Nat) : Int) (dks [k']) (dks [k']) sps spn L2 rfl (by omega) hS hS hl hl (by omega) (by omega) hu w' hm) (fun _ _ => ?_))
          refine R_cons rfl (op_pure (p_move rfl) rfl ?_)
          refine R_cons rfl (op_pure (p_extract (i := 0) rfl rfl) rfl ?_)
          refine R_cons rfl (op_pure (p_extract (i := 1) rfl rfl) rfl ?_)
          refine R_cons rfl (op_pure (p_assign rfl) rfl ?_)
          refine R_cons rfl (op_pure (p_assign rfl) rfl ?_)
          refine R_nil ?_
          rw [hdk]
          exact E_midE (k', 0, k' + 1, .up L2) (.inl ⟨rfl, rfl, rfl, hu, (by show L2 < 1000; omega)⟩) (by repeat (first | exact Sub.nil | refine Sub.cons rfl ?_)) (by dsimp only [phRest, Ph.down, List.cons_append, List.nil_append]; exact (by repeat (first | exact Fewer.nil | exact Fewer.refl _ | refine Fewer.pick rfl (by repeat (first | exact Del.here | apply Del.there)) ?_)))
        | dn =>
          dsimp only [phRest, Ph.down]
          refine S_region ?_
          refine R_cons rfl (op_pure (p_move rfl) rfl ?_)
          refine R_cons rfl (op_callV rfl rfl Try.func21 rfl (by kernel_rfl) rfl (Nat.le_refl _) (fun w' hm => cnext_9 bc k' bd 0 hph w' (hm.own (bc, _) (by (try simp only [List.cons_append, List.nil_append]); repeat (first | exact List.Mem.head _ | apply List.Mem.tail))).2) ?_)
          refine R_cons rfl (op_pure (p_move rfl) rfl ?_)
          refine R_cons rfl (op_pure (p_extract (i := 0) rfl rfl) rfl ?_)
          refine R_cons rfl (op_pure (p_extract (i := 1) rfl rfl) rfl ?_)
          refine R_cons rfl (op_pure (p_assign rfl) rfl ?_)
          refine R_cons rfl (op_pure (p_assign rfl) rfl ?_)
          refine R_nil ?_
          exact E_midE (0, 9, k', .dn) (.inr ⟨rfl, rfl, .inr rfl, hph⟩) (by repeat (first | exact Sub.nil | refine Sub.cons rfl ?_)) (by dsimp only [phRest, Ph.down, List.cons_append, List.nil_append]; exact (by repeat (first | exact Fewer.nil | exact Fewer.refl _ | refine Fewer.pick rfl (by repeat (first | exact Del.here | apply Del.there)) ?_)))
        | wt bw cw spw =>
          dsimp only [phRest, Ph.down]
          refine S_region ?_
          refine R_cons rfl (op_pure (p_move rfl) rfl ?_)
          refine R_cons rfl (op_callV rfl rfl Try.func21 rfl (by kernel_rfl) rfl (Nat.le_refl _) (fun w' hm => cnext_9 bc k' bd 0 hph.1 w' (hm.own (bc, _) (by (try simp only [List.cons_append, List.nil_append]); repeat (first | exact List.Mem.head _ | apply List.Mem.tail))).2) ?_)
          refine R_cons rfl (op_pure (p_move rfl) rfl ?_)
          refine R_cons rfl (op_pure (p_extract (i := 0) rfl rfl) rfl ?_)
          refine R_cons rfl (op_pure (p_extract (i := 1) rfl rfl) rfl ?_)
          refine R_cons rfl (op_pure (p_assign rfl) rfl ?_)
          refine R_cons rfl (op_pure (p_assign rfl) rfl ?_)
          refine R_nil ?_
          exact E_midE (0, 9, k', .wt bw cw spw) (.inr ⟨rfl, rfl, .inr rfl, hph⟩) (by repeat (first | exact Sub.nil | refine Sub.cons rfl ?_)) (by dsimp only [phRest, Ph.down, List.cons_append, List.nil_append]; exact (by repeat (first | exact Fewer.nil | exact Fewer.refl _ | refine Fewer.pick rfl (by repeat (first | exact Del.here | apply Del.there)) ?_)))
      clear hph ph
      rintro ⟨n, e, k2, ph⟩ hcase
      dsimp only at hcase ⊢
      rcases hcase with ⟨rfl, rfl, rfl, hu, hph⟩ | ⟨rfl, rfl, he, hph⟩
      · have h16 : decide ((16 : Int) ≤ (n : Int)) = false := decide_eq_false (by omega)
        have hcl := hf'.1
        have hcell : (intsV c')[n]? = some (.int .i64 ((0 : Nat) : Int)) := by rw [intsV_get c' n (by omega), hf'.2 n (Nat.le_refl _)]
        have hadd : IntKind.u32.wrap ((n : Int) + 1) = ((n + 1 : Nat) : Int) := by rw [w_in_u32 (by omega)]; omega
        have hne : (((n + 1 : Nat) : Int) != ((n + 1 : Nat) : Int)) = false := by simp
        have hset := intsV_set c' n 1
        have hin : n < (intsV c').length := by rw [intsV_length]; omega
        repeat (first | refine S_scope ?_ | refine S_label ?_ | refine E_noGoto_normal ?_ | refine E_noGoto_ret ?_ | refine E_noGoto_exit ?_ | refine S_yes rfl (by first | with_reducible rfl | decide) ?_ | refine S_no rfl (by first | with_reducible rfl | decide) ?_ | refine S_seq ?_ | refine E_seq ?_ | refine S_block ?_ | refine E_block_normal ?_ | refine S_skip ?_ | refine S_exit ?_ | refine S_ret ?_ | refine E_then_exit ?_ | refine E_then_ret ?_ | refine E_block_ret ?_ | refine E_block_exit ?_ | refine E_block_exit_other rfl ?_)
        refine S_region ?_
        refine R_cons rfl (op_pure (p_move rfl) rfl ?_)
        refine R_cons rfl (op_pure (p_bin rfl rfl (b_eql (by first | assumption | exact beq_iff_eq.2 (by omega) | exact beq_eq_false_iff_ne.2 (by omega) | rfl))) rfl ?_)
        refine R_nil ?_
        repeat (first | refine S_scope ?_ | refine S_label ?_ | refine E_noGoto_normal ?_ | refine E_noGoto_ret ?_ | refine E_noGoto_exit ?_ | refine S_yes rfl (by first | with_reducible rfl | decide) ?_ | refine S_no rfl (by first | with_reducible rfl | decide) ?_ | refine S_seq ?_ | refine E_seq ?_ | refine S_block ?_ | refine E_block_normal ?_ | refine S_skip ?_ | refine S_exit ?_ | refine S_ret ?_ | refine E_then_exit ?_ | refine E_then_ret ?_ | refine E_block_ret ?_ | refine E_block_exit ?_ | refine E_block_exit_other rfl ?_)
        refine S_region ?_
        refine R_cons rfl (op_pure (p_move rfl) rfl ?_)
        refine R_cons rfl (op_pure (p_bin rfl rfl (b_geq h16)) rfl ?_)
        refine R_cons rfl (op_pure (p_move rfl) rfl ?_)
        first | refine R_pass rfl rfl rfl rfl ?_ | refine R_pass_undef rfl rfl rfl ?_ | refine R_guard rfl rfl rfl (op_pure (p_move rfl) rfl ?_)
        first | refine R_pass rfl rfl rfl rfl ?_ | refine R_pass_undef rfl rfl rfl ?_ | refine R_guard rfl rfl rfl (op_pure (p_indexArr0 (j := n) rfl rfl rfl arr_16_int hu) rfl ?_)
        first | refine R_pass rfl rfl rfl rfl ?_ | refine R_pass_undef rfl rfl rfl ?_ | refine R_guard rfl rfl rfl (op_pure (p_load rfl sc_int (by repeat (first | exact List.Mem.head _ | apply List.Mem.tail)) hcell) rfl ?_)
        first | refine R_pass rfl rfl rfl rfl ?_ | refine R_pass_undef rfl rfl rfl ?_ | refine R_guard rfl rfl rfl (op_pure (p_bin rfl rfl (b_gtr (by first | assumption | exact decide_eq_true (by omega) | exact decide_eq_false (by omega) | rfl))) rfl ?_)
        refine R_cons rfl (op_pure (by first | exact p_pick_yes rfl rfl | exact p_pick_no rfl rfl | exact p_pick rfl rfl rfl) rfl ?_)
        refine R_cons rfl (op_pure (p_move rfl) rfl ?_)
        first | refine R_pass rfl rfl rfl rfl ?_ | refine R_pass_undef rfl rfl rfl ?_ | refine R_guard rfl rfl rfl (op_pure (p_move rfl) rfl ?_)
        first | refine R_pass rfl rfl rfl rfl ?_ | refine R_pass_undef rfl rfl rfl ?_ | refine R_guard rfl rfl rfl (op_callV rfl rfl Try.func22 rfl (by kernel_rfl) rfl (Nat.le_refl _) (fun w' hm => cused_any bc (n + 1) bd 0 ph.down w' (hm.own (bc, _) (by (try simp only [List.cons_append, List.nil_append]); repeat (first | exact List.Mem.head _ | apply List.Mem.tail))).2) ?_)
        first | refine R_pass rfl rfl rfl rfl ?_ | refine R_pass_undef rfl rfl rfl ?_ | refine R_guard rfl rfl rfl (op_pure (p_move rfl) rfl ?_)
        first | refine R_pass rfl rfl rfl rfl ?_ | refine R_pass_undef rfl rfl rfl ?_ | refine R_guard rfl rfl rfl (op_pure (p_bin rfl rfl (b_add hadd)) rfl ?_)
        first | refine R_pass rfl rfl rfl rfl ?_ | refine R_pass_undef rfl rfl rfl ?_ | refine R_guard rfl rfl rfl (op_pure (p_bin rfl rfl (b_neq hne)) rfl ?_)
        refine R_cons rfl (op_pure (by first | exact p_pick_yes rfl rfl | exact p_pick_no rfl rfl | exact p_pick rfl rfl rfl) rfl ?_)
        refine R_nil ?_
        repeat (first | refine S_scope ?_ | refine S_label ?_ | refine E_noGoto_normal ?_ | refine E_noGoto_ret ?_ | refine E_noGoto_exit ?_ | refine S_yes rfl (by first | with_reducible rfl | decide) ?_ | refine S_no rfl (by first | with_reducible rfl | decide) ?_ | refine S_seq ?_ | refine E_seq ?_ | refine S_block ?_ | refine E_block_normal ?_ | refine S_skip ?_ | refine S_exit ?_ | refine S_ret ?_ | refine E_then_exit ?_ | refine E_then_ret ?_ | refine E_block_ret ?_ | refine E_block_exit ?_ | refine E_block_exit_other rfl ?_)
        refine S_region ?_
        refine R_cons rfl (op_pure (p_move rfl) rfl ?_)
        refine R_cons rfl (op_pure (p_indexArr0 (j := n) rfl rfl rfl arr_16_int hu) rfl ?_)
        refine R_cons rfl (op_pure (p_load rfl sc_int (by repeat (first | exact List.Mem.head _ | apply List.Mem.tail)) hcell) rfl ?_)
        refine R_cons rfl (op_pure (p_bin rfl rfl (b_add (r := ((1 : Nat) : Int)) rfl)) rfl ?_)
        refine R_cons rfl (op_pure (p_indexArr0 (j := n) rfl rfl rfl arr_16_int hu) rfl ?_)
        refine R_cons rfl (op_store rfl rfl rfl sc_int (by repeat (first | exact At.here | apply At.there)) hin ?_)
        refine R_nil ?_
        repeat (first | refine S_scope ?_ | refine S_label ?_ | refine E_noGoto_normal ?_ | refine E_noGoto_ret ?_ | refine E_noGoto_exit ?_ | refine S_yes rfl (by first | with_reducible rfl | decide) ?_ | refine S_no rfl (by first | with_reducible rfl | decide) ?_ | refine S_seq ?_ | refine E_seq ?_ | refine S_block ?_ | refine E_block_normal ?_ | refine S_skip ?_ | refine S_exit ?_ | refine S_ret ?_ | refine E_then_exit ?_ | refine E_then_ret ?_ | refine E_block_ret ?_ | refine E_block_exit ?_ | refine E_block_exit_other rfl ?_)
        rw [hset]
        refine S_region ?_
        refine R_cons rfl (op_pure (p_move rfl) rfl ?_)
        refine R_cons rfl (op_pure (p_bin rfl rfl (b_add hinc2)) rfl ?_)
        refine R_cons rfl (op_pure (p_assign rfl) rfl ?_)
        refine R_nil ?_
        repeat (first | refine S_scope ?_ | refine S_label ?_ | refine E_noGoto_normal ?_ | refine E_noGoto_ret ?_ | refine E_noGoto_exit ?_ | refine S_yes rfl (by first | with_reducible rfl | decide) ?_ | refine S_no rfl (by first | with_reducible rfl | decide) ?_ | refine S_seq ?_ | refine E_seq ?_ | refine S_block ?_ | refine E_block_normal ?_ | refine S_skip ?_ | refine S_exit ?_ | refine S_ret ?_ | refine E_then_exit ?_ | refine E_then_ret ?_ | refine E_block_ret ?_ | refine E_block_exit ?_ | refine E_block_exit_other rfl ?_)
        exact E_round (σ := Inner) (s := ⟨j, n, c', ph⟩) ⟨j + 1, n + 1, c'.set n 1, ph⟩ (by exact ⟨(by first | omega | (dsimp only; omega)), (by first | omega | (dsimp only; omega)), (by first | omega | (dsimp only; omega)), free_set hf', hph⟩) (by first | omega | (dsimp only; omega)) (by repeat (first | exact Sub.nil | refine Sub.cons rfl ?_)) (Fewer.refl _)
      · have hne0 : ((0 : Int) != 0) = false := rfl
        rcases he with ⟨rfl, rfl⟩ | rfl
        · skip
          repeat (first | refine S_scope ?_ | refine S_label ?_ | refine E_noGoto_normal ?_ | refine E_noGoto_ret ?_ | refine E_noGoto_exit ?_ | refine S_yes rfl (by first | with_reducible rfl | decide) ?_ | refine S_no rfl (by first | with_reducible rfl | decide) ?_ | refine S_seq ?_ | refine E_seq ?_ | refine S_block ?_ | refine E_block_normal ?_ | refine S_skip ?_ | refine S_exit ?_ | refine S_ret ?_ | refine E_then_exit ?_ | refine E_then_ret ?_ | refine E_block_ret ?_ | refine E_block_exit ?_ | refine E_block_exit_other rfl ?_)
          refine S_region ?_
          refine R_cons rfl (op_pure (p_move rfl) rfl ?_)
          refine R_cons rfl (op_pure (p_bin rfl rfl (b_eql (by first | assumption | exact beq_iff_eq.2 (by omega) | exact beq_eq_false_iff_ne.2 (by omega) | rfl))) rfl ?_)
          refine R_nil ?_
          repeat (first | refine S_scope ?_ | refine S_label ?_ | refine E_noGoto_normal ?_ | refine E_noGoto_ret ?_ | refine E_noGoto_exit ?_ | refine S_yes rfl (by first | with_reducible rfl | decide) ?_ | refine S_no rfl (by first | with_reducible rfl | decide) ?_ | refine S_seq ?_ | refine E_seq ?_ | refine S_block ?_ | refine E_block_normal ?_ | refine S_skip ?_ | refine S_exit ?_ | refine S_ret ?_ | refine E_then_exit ?_ | refine E_then_ret ?_ | refine E_block_ret ?_ | refine E_block_exit ?_ | refine E_block_exit_other rfl ?_)
          refine S_region ?_
          refine R_cons rfl (op_pure (p_move rfl) rfl ?_)
          refine R_cons rfl (op_pure (p_bin rfl rfl (b_neq (by first | assumption | exact bne_iff_ne.2 (by omega) | exact bne_eq_false_iff_eq.2 (by omega) | rfl))) rfl ?_)
          refine R_cons rfl (op_pure (p_move rfl) rfl ?_)
          first | refine R_pass rfl rfl rfl rfl ?_ | refine R_pass_undef rfl rfl rfl ?_ | refine R_guard rfl rfl rfl (op_pure (p_move rfl) rfl ?_)
          first | refine R_pass rfl rfl rfl rfl ?_ | refine R_pass_undef rfl rfl rfl ?_ | refine R_guard rfl rfl rfl (op_pure (p_bin rfl rfl (b_neq (by first | assumption | exact bne_iff_ne.2 (by omega) | exact bne_eq_false_iff_eq.2 (by omega) | rfl))) rfl ?_)
          refine R_cons rfl (op_pure (by first | exact p_pick_yes rfl rfl | exact p_pick_no rfl rfl | exact p_pick rfl rfl rfl) rfl ?_)
          refine R_cons rfl (op_pure (p_move rfl) rfl ?_)
          first | refine R_pass rfl rfl rfl rfl ?_ | refine R_pass_undef rfl rfl rfl ?_ | refine R_guard rfl rfl rfl (op_pure (p_move rfl) rfl ?_)
          first | refine R_pass rfl rfl rfl rfl ?_ | refine R_pass_undef rfl rfl rfl ?_ | refine R_guard rfl rfl rfl (op_pure (p_bin rfl rfl (b_neq (by first | assumption | exact bne_iff_ne.2 (by omega) | exact bne_eq_false_iff_eq.2 (by omega) | rfl))) rfl ?_)
          refine R_cons rfl (op_pure (by first | exact p_pick_yes rfl rfl | exact p_pick_no rfl rfl | exact p_pick rfl rfl rfl) rfl ?_)
          refine R_cons rfl (op_pure (p_move rfl) rfl ?_)
          first | refine R_pass rfl rfl rfl rfl ?_ | refine R_pass_undef rfl rfl rfl ?_ | refine R_guard rfl rfl rfl (op_pure (p_move rfl) rfl ?_)
          first | refine R_pass rfl rfl rfl rfl ?_ | refine R_pass_undef rfl rfl rfl ?_ | refine R_guard rfl rfl rfl (op_pure (p_bin rfl rfl (b_eql (by first | assumption | exact beq_iff_eq.2 (by omega) | exact beq_eq_false_iff_ne.2 (by omega) | rfl))) rfl ?_)
          first | refine R_pass rfl rfl rfl rfl ?_ | refine R_pass_undef rfl rfl rfl ?_ | refine R_guard rfl rfl rfl (op_pure (p_move rfl) rfl ?_)
          first | refine R_pass rfl rfl rfl rfl ?_ | refine R_pass_undef rfl rfl rfl ?_ | refine R_guard rfl rfl rfl (op_pure (p_move rfl) rfl ?_)
          first | refine R_pass rfl rfl rfl rfl ?_ | refine R_pass_undef rfl rfl rfl ?_ | refine R_guard rfl rfl rfl (op_callV rfl rfl Try.func22 rfl (by kernel_rfl) rfl (Nat.le_refl _) (fun w' hm => cused_any bc 16 bd 0 ph.down w' (hm.own (bc, _) (by (try simp only [List.cons_append, List.nil_append]); repeat (first | exact List.Mem.head _ | apply List.Mem.tail))).2) ?_)
          first | refine R_pass rfl rfl rfl rfl ?_ | refine R_pass_undef rfl rfl rfl ?_ | refine R_guard rfl rfl rfl (op_pure (p_bin rfl rfl (b_neq (by first | assumption | exact bne_iff_ne.2 (by omega) | exact bne_eq_false_iff_eq.2 (by omega) | rfl))) rfl ?_)
          first | refine R_pass rfl rfl rfl rfl ?_ | refine R_pass_undef rfl rfl rfl ?_ | refine R_guard rfl rfl rfl (op_pure (by first | exact p_pick_yes rfl rfl | exact p_pick_no rfl rfl | exact p_pick rfl rfl rfl) rfl ?_)
          refine R_cons rfl (op_pure (by first | exact p_pick_yes rfl rfl | exact p_pick_no rfl rfl | exact p_pick rfl rfl rfl) rfl ?_)
          refine R_nil ?_
          repeat (first | refine S_scope ?_ | refine S_label ?_ | refine E_noGoto_normal ?_ | refine E_noGoto_ret ?_ | refine E_noGoto_exit ?_ | refine S_yes rfl (by first | with_reducible rfl | decide) ?_ | refine S_no rfl (by first | with_reducible rfl | decide) ?_ | refine S_seq ?_ | refine E_seq ?_ | refine S_block ?_ | refine E_block_normal ?_ | refine S_skip ?_ | refine S_exit ?_ | refine S_ret ?_ | refine E_then_exit ?_ | refine E_then_ret ?_ | refine E_block_ret ?_ | refine E_block_exit ?_ | refine E_block_exit_other rfl ?_)
          refine S_region ?_
          refine R_cons rfl (op_pure (p_move rfl) rfl ?_)
          refine R_cons rfl (op_pure (p_bin rfl rfl (b_add hinc2)) rfl ?_)
          refine R_cons rfl (op_pure (p_assign rfl) rfl ?_)
          refine R_nil ?_
          repeat (first | refine S_scope ?_ | refine S_label ?_ | refine E_noGoto_normal ?_ | refine E_noGoto_ret ?_ | refine E_noGoto_exit ?_ | refine S_yes rfl (by first | with_reducible rfl | decide) ?_ | refine S_no rfl (by first | with_reducible rfl | decide) ?_ | refine S_seq ?_ | refine E_seq ?_ | refine S_block ?_ | refine E_block_normal ?_ | refine S_skip ?_ | refine S_exit ?_ | refine S_ret ?_ | refine E_then_exit ?_ | refine E_then_ret ?_ | refine E_block_ret ?_ | refine E_block_exit ?_ | refine E_block_exit_other rfl ?_)
          exact E_round (σ := Inner) (s := ⟨j, 16, c', ph⟩) ⟨j + 1, 16, c', ph⟩ (by exact ⟨(by first | omega | (dsimp only; omega)), (by first | omega | (dsimp only; omega)), (by first | omega | (dsimp only; omega)), hf', hph⟩) (by first | omega | (dsimp only; omega)) (by repeat (first | exact Sub.nil | refine Sub.cons rfl ?_)) (Fewer.refl _)
        · skip
          repeat (first | refine S_scope ?_ | refine S_label ?_ | refine E_noGoto_normal ?_ | refine E_noGoto_ret ?_ | refine E_noGoto_exit ?_ | refine S_yes rfl (by first | with_reducible rfl | decide) ?_ | refine S_no rfl (by first | with_reducible rfl | decide) ?_ | refine S_seq ?_ | refine E_seq ?_ | refine S_block ?_ | refine E_block_normal ?_ | refine S_skip ?_ | refine S_exit ?_ | refine S_ret ?_ | refine E_then_exit ?_ | refine E_then_ret ?_ | refine E_block_ret ?_ | refine E_block_exit ?_ | refine E_block_exit_other rfl ?_)
          refine S_region ?_
          refine R_cons rfl (op_pure (p_move rfl) rfl ?_)
          refine R_cons rfl (op_pure (p_bin rfl rfl (b_eql (by first | assumption | exact beq_iff_eq.2 (by omega) | exact beq_eq_false_iff_ne.2 (by omega) | rfl))) rfl ?_)
          refine R_nil ?_
          repeat (first | refine S_scope ?_ | refine S_label ?_ | refine E_noGoto_normal ?_ | refine E_noGoto_ret ?_ | refine E_noGoto_exit ?_ | refine S_yes rfl (by first | with_reducible rfl | decide) ?_ | refine S_no rfl (by first | with_reducible rfl | decide) ?_ | refine S_seq ?_ | refine E_seq ?_ | refine S_block ?_ | refine E_block_normal ?_ | refine S_skip ?_ | refine S_exit ?_ | refine S_ret ?_ | refine E_then_exit ?_ | refine E_then_ret ?_ | refine E_block_ret ?_ | refine E_block_exit ?_ | refine E_block_exit_other rfl ?_)
          refine S_region ?_
          refine R_cons rfl (op_pure (p_move rfl) rfl ?_)
          refine R_cons rfl (op_pure (p_bin rfl rfl (b_neq (by first | assumption | exact bne_iff_ne.2 (by omega) | exact bne_eq_false_iff_eq.2 (by omega) | rfl))) rfl ?_)
          refine R_cons rfl (op_pure (p_move rfl) rfl ?_)
          first | refine R_pass rfl rfl rfl rfl ?_ | refine R_pass_undef rfl rfl rfl ?_ | refine R_guard rfl rfl rfl (op_pure (p_move rfl) rfl ?_)
          first | refine R_pass rfl rfl rfl rfl ?_ | refine R_pass_undef rfl rfl rfl ?_ | refine R_guard rfl rfl rfl (op_pure (p_bin rfl rfl (b_neq (by first | assumption | exact bne_iff_ne.2 (by omega) | exact bne_eq_false_iff_eq.2 (by omega) | rfl))) rfl ?_)
          refine R_cons rfl (op_pure (by first | exact p_pick_yes rfl rfl | exact p_pick_no rfl rfl | exact p_pick rfl rfl rfl) rfl ?_)
          refine R_cons rfl (op_pure (p_move rfl) rfl ?_)
          first | refine R_pass rfl rfl rfl rfl ?_ | refine R_pass_undef rfl rfl rfl ?_ | refine R_guard rfl rfl rfl (op_pure (p_move rfl) rfl ?_)
          first | refine R_pass rfl rfl rfl rfl ?_ | refine R_pass_undef rfl rfl rfl ?_ | refine R_guard rfl rfl rfl (op_pure (p_bin rfl rfl (b_neq (by first | assumption | exact bne_iff_ne.2 (by omega) | exact bne_eq_false_iff_eq.2 (by omega) | rfl))) rfl ?_)
          refine R_cons rfl (op_pure (by first | exact p_pick_yes rfl rfl | exact p_pick_no rfl rfl | exact p_pick rfl rfl rfl) rfl ?_)
          refine R_cons rfl (op_pure (p_move rfl) rfl ?_)
          first | refine R_pass rfl rfl rfl rfl ?_ | refine R_pass_undef rfl rfl rfl ?_ | refine R_guard rfl rfl rfl (op_pure (p_move rfl) rfl ?_)
          first | refine R_pass rfl rfl rfl rfl ?_ | refine R_pass_undef rfl rfl rfl ?_ | refine R_guard rfl rfl rfl (op_pure (p_bin rfl rfl (b_eql (by first | assumption | exact beq_iff_eq.2 (by omega) | exact beq_eq_false_iff_ne.2 (by omega) | rfl))) rfl ?_)
          first | refine R_pass rfl rfl rfl rfl ?_ | refine R_pass_undef rfl rfl rfl ?_ | refine R_guard rfl rfl rfl (op_pure (p_move rfl) rfl ?_)
          first | refine R_pass rfl rfl rfl rfl ?_ | refine R_pass_undef rfl rfl rfl ?_ | refine R_guard rfl rfl rfl (op_pure (p_move rfl) rfl ?_)
          first | refine R_pass rfl rfl rfl rfl ?_ | refine R_pass_undef rfl rfl rfl ?_ | refine R_guard rfl rfl rfl (op_callV rfl rfl Try.func22 rfl (by kernel_rfl) rfl (Nat.le_refl _) (fun w' hm => cused_any bc 16 bd 0 ph.down w' (hm.own (bc, _) (by (try simp only [List.cons_append, List.nil_append]); repeat (first | exact List.Mem.head _ | apply List.Mem.tail))).2) ?_)
          first | refine R_pass rfl rfl rfl rfl ?_ | refine R_pass_undef rfl rfl rfl ?_ | refine R_guard rfl rfl rfl (op_pure (p_bin rfl rfl (b_neq (by first | assumption | exact bne_iff_ne.2 (by omega) | exact bne_eq_false_iff_eq.2 (by omega) | rfl))) rfl ?_)
          first | refine R_pass rfl rfl rfl rfl ?_ | refine R_pass_undef rfl rfl rfl ?_ | refine R_guard rfl rfl rfl (op_pure (by first | exact p_pick_yes rfl rfl | exact p_pick_no rfl rfl | exact p_pick rfl rfl rfl) rfl ?_)
          refine R_cons rfl (op_pure (by first | exact p_pick_yes rfl rfl | exact p_pick_no rfl rfl | exact p_pick rfl rfl rfl) rfl ?_)
          refine R_nil ?_
          repeat (first | refine S_scope ?_ | refine S_label ?_ | refine E_noGoto_normal ?_ | refine E_noGoto_ret ?_ | refine E_noGoto_exit ?_ | refine S_yes rfl (by first | with_reducible rfl | decide) ?_ | refine S_no rfl (by first | with_reducible rfl | decide) ?_ | refine S_seq ?_ | refine E_seq ?_ | refine S_block ?_ | refine E_block_normal ?_ | refine S_skip ?_ | refine S_exit ?_ | refine S_ret ?_ | refine E_then_exit ?_ | refine E_then_ret ?_ | refine E_block_ret ?_ | refine E_block_exit ?_ | refine E_block_exit_other rfl ?_)
          refine S_region ?_
          refine R_cons rfl (op_pure (p_move rfl) rfl ?_)
          refine R_cons rfl (op_pure (p_bin rfl rfl (b_add hinc2)) rfl ?_)
          refine R_cons rfl (op_pure (p_assign rfl) rfl ?_)
          refine R_nil ?_
          repeat (first | refine S_scope ?_ | refine S_label ?_ | refine E_noGoto_normal ?_ | refine E_noGoto_ret ?_ | refine E_noGoto_exit ?_ | refine S_yes rfl (by first | with_reducible rfl | decide) ?_ | refine S_no rfl (by first | with_reducible rfl | decide) ?_ | refine S_seq ?_ | refine E_seq ?_ | refine S_block ?_ | refine E_block_normal ?_ | refine S_skip ?_ | refine S_exit ?_ | refine S_ret ?_ | refine E_then_exit ?_ | refine E_then_ret ?_ | refine E_block_ret ?_ | refine E_block_exit ?_ | refine E_block_exit_other rfl ?_)
          exact E_round (σ := Inner) (s := ⟨j, k2, c', ph⟩) ⟨j + 1, k2, c', ph⟩ (by exact ⟨(by first | omega | (dsimp only; omega)), (by first | omega | (dsimp only; omega)), (by first | omega | (dsimp only; omega)), hf', hph⟩) (by first | omega | (dsimp only; omega)) (by repeat (first | exact Sub.nil | refine Sub.cons rfl ?_)) (Fewer.refl _)
    have g4 : decide ((j : Int) < 3) = false := decide_eq_false (by omega)
    repeat (first | refine S_scope ?_ | refine S_label ?_ | refine E_noGoto_normal ?_ | refine E_noGoto_ret ?_ | refine E_noGoto_exit ?_ | refine S_yes rfl (by first | with_reducible rfl | decide) ?_ | refine S_no rfl (by first | with_reducible rfl | decide) ?_ | refine S_seq ?_ | refine E_seq ?_ | refine S_block ?_ | refine E_block_normal ?_ | refine S_skip ?_ | refine S_exit ?_ | refine S_ret ?_ | refine E_then_exit ?_ | refine E_then_ret ?_ | refine E_block_ret ?_ | refine E_block_exit ?_ | refine E_block_exit_other rfl ?_)
    refine S_region ?_
    refine R_cons rfl (op_pure (p_move rfl) rfl ?_)
    refine R_cons rfl (op_pure (p_bin rfl rfl (b_lss g4)) rfl ?_)
    refine R_nil ?_
    repeat (first | refine S_scope ?_ | refine S_label ?_ | refine E_noGoto_normal ?_ | refine E_noGoto_ret ?_ | refine E_noGoto_exit ?_ | refine S_yes rfl (by first | with_reducible rfl | decide) ?_ | refine S_no rfl (by first | with_reducible rfl | decide) ?_ | refine S_seq ?_ | refine E_seq ?_ | refine S_block ?_ | refine E_block_normal ?_ | refine S_skip ?_ | refine S_exit ?_ | refine S_ret ?_ | refine E_then_exit ?_ | refine E_then_ret ?_ | refine E_block_ret ?_ | refine E_block_exit ?_ | refine E_block_exit_other rfl ?_)
    refine S_region ?_
    refine R_cons rfl (op_pure (p_move rfl) rfl ?_)
    refine R_cons rfl (op_callV rfl rfl Try.func22 rfl (by kernel_rfl) rfl (Nat.le_refl _) (fun w' hm => cused_any bc k' bd 0 ph.down w' (hm.own (bc, _) (by (try simp only [List.cons_append, List.nil_append]); repeat (first | exact List.Mem.head _ | apply List.Mem.tail))).2) ?_)
    refine R_cons rfl (op_pure (p_assign rfl) rfl ?_)
    refine R_nil ?_
    repeat (first | refine S_scope ?_ | refine S_label ?_ | refine E_noGoto_normal ?_ | refine E_noGoto_ret ?_ | refine E_noGoto_exit ?_ | refine S_yes rfl (by first | with_reducible rfl | decide) ?_ | refine S_no rfl (by first | with_reducible rfl | decide) ?_ | refine S_seq ?_ | refine E_seq ?_ | refine S_block ?_ | refine E_block_normal ?_ | refine S_skip ?_ | refine S_exit ?_ | refine S_ret ?_ | refine E_then_exit ?_ | refine E_then_ret ?_ | refine E_block_ret ?_ | refine E_block_exit ?_ | refine E_block_exit_other rfl ?_)
    refine S_cutE (σ := Nat × Nat × Nat × Nat × Nat × Nat × List Value × List Value) (fun s => [(13, .int .u32 (k' : Int)), (9, .int .u32 (k : Int)), (8, .int .i64 (i : Int)), (7, .pointer (some ⟨b7, 0, none⟩)), (4, .int .i64 0), (3, .pointer (some ⟨s.2.1, 0, none⟩)), (0, .slice (some ⟨ba, offa, none⟩) l.length c)])
      (fun s => [(b7, .cells (intsV c').toArray 58 (0, 0)), (s.2.1, .cells (diskC (.slice (some ⟨s.2.2.1, 0, none⟩) 1 s.2.2.2.1) (.slice (some ⟨s.2.2.2.2.1, 0, none⟩) 1 s.2.2.2.2.2.1) (.slice none 0 0) (-1) false).toArray 113 (0, 0)), (s.2.2.1, .cells (secV (dks [s.1]) ++ s.2.2.2.2.2.2.1).toArray 115 (0, 0)), (s.2.2.2.2.1, .cells (secV (dks [s.1]) ++ s.2.2.2.2.2.2.2).toArray 115 (0, 0))]) (fun s => k' ≤ s.1 ∧ s.1 ≤ k' + 1 ∧ s.1 ≤ 16) ?_ ?_
    · have hSk := dks_secs [k']
      have hlk : (dks [k']).length = 1 := dks_length [k']
      cases ph with
      | up L =>
        dsimp only [phRest, Ph.down]
        refine S_region ?_
        refine R_cons rfl (op_pure (p_move rfl) rfl ?_)
        refine R_cons rfl (op_pure (p_move rfl) rfl ?_)
        refine R_cons rfl (op_pure (p_move rfl) rfl ?_)
        refine R_cons rfl (op_pure (p_indexR (j := i) rfl rfl rfl slr_almonerlaw22_Try hlt) rfl ?_)
        refine R_cons rfl (op_pure (by first | exact p_fieldAddr0 rfl fd_almonerlaw22_Try_1 | exact p_fieldAddr rfl fd_almonerlaw22_Try_1) rfl ?_)
        refine R_cons rfl (op_pure (p_load_base rfl sc_bools hbal (by simp) hc1) rfl ?_)
        refine R_cons rfl (op_callNX (fun s : Nat × Nat × Nat × Nat × Nat × List Value × List Value => Value.tuple ([Value.pointer (some ⟨s.1, 0, none⟩), Value.int .i64 0] : List Value).toArray) (fun s => [(s.1, .cells (diskC (.slice (some ⟨s.2.1, 0, none⟩) 1 s.2.2.1) (.slice (some ⟨s.2.2.2.1, 0, none⟩) 1 s.2.2.2.2.1) (.slice none 0 0) (-1) false).toArray 113 (0, 0)), (s.2.1, .cells (secV (dks [k']) ++ s.2.2.2.2.2.1).toArray 115 (0, 0)), (s.2.2.2.1, .cells (secV (dks [k']) ++ s.2.2.2.2.2.2).toArray 115 (0, 0))]) (fun _ => True) rfl rfl Try.func26 rfl (by kernel_rfl) rfl (fun w' hm => dfail_nil bd bs 1 cs _ _ _ (dks [k']) sps hSk hlk (by omega) (by omega) tA tl.length tc w' (hm.own (bd, _) (by (try simp only [List.cons_append, List.nil_append]); repeat (first | exact List.Mem.head _ | apply List.Mem.tail))).2 (hm.own (bs, _) (by (try simp only [List.cons_append, List.nil_append]); repeat (first | exact List.Mem.head _ | apply List.Mem.tail))).2) (fun s _ => ?_))
        refine R_cons rfl (op_pure (p_move rfl) rfl ?_)
        refine R_cons rfl (op_pure (p_extract (i := 0) rfl rfl) rfl ?_)
        refine R_cons rfl (op_pure (p_extract (i := 1) rfl rfl) rfl ?_)
        refine R_cons rfl (op_pure (p_assign rfl) rfl ?_)
        refine R_cons rfl (op_pure (p_assign rfl) rfl ?_)
        refine R_nil ?_
        exact E_midE (k', s) (by exact ⟨Nat.le_refl _, (by first | omega | (dsimp only; omega)), (by first | omega | (dsimp only; omega))⟩) (by repeat (first | exact Sub.nil | refine Sub.cons rfl ?_)) (by dsimp only [phRest, Ph.down, List.cons_append, List.nil_append]; exact (by repeat (first | exact Fewer.nil | exact Fewer.refl _ | refine Fewer.pick rfl (by repeat (first | exact Del.here | apply Del.there)) ?_)))
      | dn =>
        dsimp only [phRest, Ph.down]
        refine S_region ?_
        refine R_cons rfl (op_pure (p_move rfl) rfl ?_)
        refine R_cons rfl (op_pure (p_move rfl) rfl ?_)
        refine R_cons rfl (op_pure (p_move rfl) rfl ?_)
        refine R_cons rfl (op_pure (p_indexR (j := i) rfl rfl rfl slr_almonerlaw22_Try hlt) rfl ?_)
        refine R_cons rfl (op_pure (by first | exact p_fieldAddr0 rfl fd_almonerlaw22_Try_1 | exact p_fieldAddr rfl fd_almonerlaw22_Try_1) rfl ?_)
        refine R_cons rfl (op_pure (p_load_base rfl sc_bools hbal (by simp) hc1) rfl ?_)
        refine R_cons rfl (op_callNX (fun s : Nat × Nat × Nat × Nat × Nat × List Value × List Value => Value.tuple ([Value.pointer (some ⟨s.1, 0, none⟩), Value.int .i64 0] : List Value).toArray) (fun s => [(s.1, .cells (diskC (.slice (some ⟨s.2.1, 0, none⟩) 1 s.2.2.1) (.slice (some ⟨s.2.2.2.1, 0, none⟩) 1 s.2.2.2.2.1) (.slice none 0 0) (-1) false).toArray 113 (0, 0)), (s.2.1, .cells (secV (dks [k']) ++ s.2.2.2.2.2.1).toArray 115 (0, 0)), (s.2.2.2.1, .cells (secV (dks [k']) ++ s.2.2.2.2.2.2).toArray 115 (0, 0))]) (fun _ => True) rfl rfl Try.func26 rfl (by kernel_rfl) rfl (fun w' hm => dfail_nil bd bs 1 cs _ _ _ (dks [k']) sps hSk hlk (by omega) (by omega) tA tl.length tc w' (hm.own (bd, _) (by (try simp only [List.cons_append, List.nil_append]); repeat (first | exact List.Mem.head _ | apply List.Mem.tail))).2 (hm.own (bs, _) (by (try simp only [List.cons_append, List.nil_append]); repeat (first | exact List.Mem.head _ | apply List.Mem.tail))).2) (fun s _ => ?_))
        refine R_cons rfl (op_pure (p_move rfl) rfl ?_)
        refine R_cons rfl (op_pure (p_extract (i := 0) rfl rfl) rfl ?_)
        refine R_cons rfl (op_pure (p_extract (i := 1) rfl rfl) rfl ?_)
        refine R_cons rfl (op_pure (p_assign rfl) rfl ?_)
        refine R_cons rfl (op_pure (p_assign rfl) rfl ?_)
        refine R_nil ?_
        exact E_midE (k', s) (by exact ⟨Nat.le_refl _, (by first | omega | (dsimp only; omega)), (by first | omega | (dsimp only; omega))⟩) (by repeat (first | exact Sub.nil | refine Sub.cons rfl ?_)) (by dsimp only [phRest, Ph.down, List.cons_append, List.nil_append]; exact (by repeat (first | exact Fewer.nil | exact Fewer.refl _ | refine Fewer.pick rfl (by repeat (first | exact Del.here | apply Del.there)) ?_)))
      | wt bw cw spw =>
        have hdk : (dks [k']).set 0 (toldS (k' + 1)) = dks [k' + 1] := dks_set [k'] 0 k'
        have hu : k' < 16 := hph.1
        dsimp only [phRest, Ph.down]
        refine S_region ?_
        refine R_cons rfl (op_pure (p_move rfl) rfl ?_)
        refine R_cons rfl (op_pure (p_move rfl) rfl ?_)
        refine R_cons rfl (op_pure (p_move rfl) rfl ?_)
        refine R_cons rfl (op_pure (p_indexR (j := i) rfl rfl rfl slr_almonerlaw22_Try hlt) rfl ?_)
        refine R_cons rfl (op_pure (by first | exact p_fieldAddr0 rfl fd_almonerlaw22_Try_1 | exact p_fieldAddr rfl fd_almonerlaw22_Try_1) rfl ?_)
        refine R_cons rfl (op_pure (p_load_base rfl sc_bools hbal (by simp) hc1) rfl ?_)
        refine R_cons rfl (op_callNX (fun s : Nat × Nat × Nat × Nat × Nat × List Value × List Value => Value.tuple ([Value.pointer (some ⟨s.1, 0, none⟩), Value.int .i64 0] : List Value).toArray) (fun s => [(s.1, .cells (diskC (.slice (some ⟨s.2.1, 0, none⟩) 1 s.2.2.1) (.slice (some ⟨s.2.2.2.1, 0, none⟩) 1 s.2.2.2.2.1) (.slice none 0 0) (-1) false).toArray 113 (0, 0)), (s.2.1, .cells (secV (if tl.getD 0 false then (dks [k']).set 0 (toldS (k' + 1)) else dks [k']) ++ s.2.2.2.2.2.1).toArray 115 (0, 0)), (s.2.2.2.1, .cells (secV (if tl.getD 0 false then (dks [k']).set 0 (toldS (k' + 1)) else dks [k']) ++ s.2.2.2.2.2.2).toArray 115 (0, 0))]) (fun _ => True) rfl rfl Try.func26 rfl (by kernel_rfl) rfl (fun w' hm => dfail_one bd bs bw 1 cs cw _ _ _ (dks [k']) sps spw hSk hlk (by omega) (by omega) 0 (by omega) (toldS (k' + 1)) (toldS_length _) hph.2 tA tc tl w' (htl.base hm) (hm.own (bd, _) (by (try simp only [List.cons_append, List.nil_append]); repeat (first | exact List.Mem.head _ | apply List.Mem.tail))).2 (hm.own (bs, _) (by (try simp only [List.cons_append, List.nil_append]); repeat (first | exact List.Mem.head _ | apply List.Mem.tail))).2 (hm.own (bw, _) (by (try simp only [List.cons_append, List.nil_append]); repeat (first | exact List.Mem.head _ | apply List.Mem.tail))).2) (fun s _ => ?_))
        refine R_cons rfl (op_pure (p_move rfl) rfl ?_)
        refine R_cons rfl (op_pure (p_extract (i := 0) rfl rfl) rfl ?_)
        refine R_cons rfl (op_pure (p_extract (i := 1) rfl rfl) rfl ?_)
        refine R_cons rfl (op_pure (p_assign rfl) rfl ?_)
        refine R_cons rfl (op_pure (p_assign rfl) rfl ?_)
        refine R_nil ?_
        rw [hdk]
        cases hlk : tl.getD 0 false with
        | true =>
          exact E_midE (k' + 1, s) (by exact ⟨(by first | omega | (dsimp only; omega)), Nat.le_refl _, (by first | omega | (dsimp only; omega))⟩) (by repeat (first | exact Sub.nil | refine Sub.cons rfl ?_)) (by rw [if_pos rfl]; exact (by dsimp only [phRest, Ph.down, List.cons_append, List.nil_append]; exact (by repeat (first | exact Fewer.nil | exact Fewer.refl _ | refine Fewer.pick rfl (by repeat (first | exact Del.here | apply Del.there)) ?_))))
        | false =>
          exact E_midE (k', s) (by exact ⟨Nat.le_refl _, (by first | omega | (dsimp only; omega)), (by first | omega | (dsimp only; omega))⟩) (by repeat (first | exact Sub.nil | refine Sub.cons rfl ?_)) (by rw [if_neg (by decide)]; exact (by dsimp only [phRest, Ph.down, List.cons_append, List.nil_append]; exact (by repeat (first | exact Fewer.nil | exact Fewer.refl _ | refine Fewer.pick rfl (by repeat (first | exact Del.here | apply Del.there)) ?_))))
    rintro ⟨k2, bd2, bs2, cs2, bn2, cn2, sps2, spn2⟩ ⟨hka, hkb, hk16⟩
    dsimp only at hka hkb hk16 ⊢
    have hS3 := dks_secs [k2]
    have hl3 : (dks [k2]).length = 1 := dks_length [k2]
    have hy0 : (dks [k2])[0]? = some (secT k2) := dks_at [k2] 0 k2 rfl
    have e1 : decide ((k2 : Int) < (k' : Int)) = false := decide_eq_false (by omega)
    have e2 : decide ((k' : Int) < (k : Int)) = false := decide_eq_false (by omega)
    have e3 : IntKind.u32.wrap ((k' : Int) + 1) = ((k' + 1 : Nat) : Int) := by rw [w_in_u32 (by omega)]; omega
    have e4 : decide (((k' + 1 : Nat) : Int) < (k2 : Int)) = false := decide_eq_false (by omega)
    repeat (first | refine S_scope ?_ | refine S_label ?_ | refine E_noGoto_normal ?_ | refine E_noGoto_ret ?_ | refine E_noGoto_exit ?_ | refine S_yes rfl (by first | with_reducible rfl | decide) ?_ | refine S_no rfl (by first | with_reducible rfl | decide) ?_ | refine S_seq ?_ | refine E_seq ?_ | refine S_block ?_ | refine E_block_normal ?_ | refine S_skip ?_ | refine S_exit ?_ | refine S_ret ?_ | refine E_then_exit ?_ | refine E_then_ret ?_ | refine E_block_ret ?_ | refine E_block_exit ?_ | refine E_block_exit_other rfl ?_)
    refine S_region ?_
    refine R_cons rfl (op_pure (p_move rfl) rfl ?_)
    refine R_cons rfl (op_callNX (fun q : Nat => Value.tuple ([Value.pointer (some ⟨q, 0, none⟩), Value.int .i64 0] : List Value).toArray) (fun q => [(q, .cells (cntC k2 bd2 0 false).toArray 103 (0, 0))]) (fun _ => True) rfl rfl Try.func20 rfl (by kernel_rfl) rfl (fun w' hm => copenX k2 bd2 bn2 1 _ _ _ _ _ _ _ _ hS3 hl3 0 (by omega) _ hy0 (secT_opened k2 hk16) w' (hm.own (bd2, _) (by (try simp only [List.cons_append, List.nil_append]); repeat (first | exact List.Mem.head _ | apply List.Mem.tail))).2 (hm.own (bn2, _) (by (try simp only [List.cons_append, List.nil_append]); repeat (first | exact List.Mem.head _ | apply List.Mem.tail))).2) (fun bc2 _ => ?_))
    refine R_cons rfl (op_pure (p_move rfl) rfl ?_)
    refine R_cons rfl (op_pure (p_extract (i := 0) rfl rfl) rfl ?_)
    refine R_cons rfl (op_pure (p_extract (i := 1) rfl rfl) rfl ?_)
    refine R_cons rfl (op_pure (p_assign rfl) rfl ?_)
    refine R_cons rfl (op_pure (p_assign rfl) rfl ?_)
    refine R_nil ?_
    repeat (first | refine S_scope ?_ | refine S_label ?_ | refine E_noGoto_normal ?_ | refine E_noGoto_ret ?_ | refine E_noGoto_exit ?_ | refine S_yes rfl (by first | with_reducible rfl | decide) ?_ | refine S_no rfl (by first | with_reducible rfl | decide) ?_ | refine S_seq ?_ | refine E_seq ?_ | refine S_block ?_ | refine E_block_normal ?_ | refine S_skip ?_ | refine S_exit ?_ | refine S_ret ?_ | refine E_then_exit ?_ | refine E_then_ret ?_ | refine E_block_ret ?_ | refine E_block_exit ?_ | refine E_block_exit_other rfl ?_)
    refine S_region ?_
    refine R_cons rfl (op_pure (p_move rfl) rfl ?_)
    refine R_cons rfl (op_pure (p_bin rfl rfl (b_neq (by first | assumption | exact bne_iff_ne.2 (by omega) | exact bne_eq_false_iff_eq.2 (by omega) | rfl))) rfl ?_)
    refine R_cons rfl (op_pure (p_move rfl) rfl ?_)
    first | refine R_pass rfl rfl rfl rfl ?_ | refine R_pass_undef rfl rfl rfl ?_ | refine R_guard rfl rfl rfl (op_pure (p_move rfl) rfl ?_)
    first | refine R_pass rfl rfl rfl rfl ?_ | refine R_pass_undef rfl rfl rfl ?_ | refine R_guard rfl rfl rfl (op_pure (p_bin rfl rfl (b_neq (by first | assumption | exact bne_iff_ne.2 (by omega) | exact bne_eq_false_iff_eq.2 (by omega) | rfl))) rfl ?_)
    refine R_cons rfl (op_pure (by first | exact p_pick_yes rfl rfl | exact p_pick_no rfl rfl | exact p_pick rfl rfl rfl) rfl ?_)
    refine R_cons rfl (op_pure (p_move rfl) rfl ?_)
    first | refine R_pass rfl rfl rfl rfl ?_ | refine R_pass_undef rfl rfl rfl ?_ | refine R_guard rfl rfl rfl (op_pure (p_move rfl) rfl ?_)
    first | refine R_pass rfl rfl rfl rfl ?_ | refine R_pass_undef rfl rfl rfl ?_ | refine R_guard rfl rfl rfl (op_callV rfl rfl Try.func22 rfl (by kernel_rfl) rfl (Nat.le_refl _) (fun w' hm => cused_any bc2 k2 bd2 0 false w' (hm.own (bc2, _) (by (try simp only [List.cons_append, List.nil_append]); repeat (first | exact List.Mem.head _ | apply List.Mem.tail))).2) ?_)
    first | refine R_pass rfl rfl rfl rfl ?_ | refine R_pass_undef rfl rfl rfl ?_ | refine R_guard rfl rfl rfl (op_pure (p_move rfl) rfl ?_)
    first | refine R_pass rfl rfl rfl rfl ?_ | refine R_pass_undef rfl rfl rfl ?_ | refine R_guard rfl rfl rfl (op_pure (p_bin rfl rfl (b_lss e1)) rfl ?_)
    refine R_cons rfl (op_pure (by first | exact p_pick_yes rfl rfl | exact p_pick_no rfl rfl | exact p_pick rfl rfl rfl) rfl ?_)
    refine R_cons rfl (op_pure (p_move rfl) rfl ?_)
    first | refine R_pass rfl rfl rfl rfl ?_ | refine R_pass_undef rfl rfl rfl ?_ | refine R_guard rfl rfl rfl (op_pure (p_move rfl) rfl ?_)
    first | refine R_pass rfl rfl rfl rfl ?_ | refine R_pass_undef rfl rfl rfl ?_ | refine R_guard rfl rfl rfl (op_pure (p_move rfl) rfl ?_)
    first | refine R_pass rfl rfl rfl rfl ?_ | refine R_pass_undef rfl rfl rfl ?_ | refine R_guard rfl rfl rfl (op_pure (p_bin rfl rfl (b_lss e2)) rfl ?_)
    refine R_cons rfl (op_pure (by first | exact p_pick_yes rfl rfl | exact p_pick_no rfl rfl | exact p_pick rfl rfl rfl) rfl ?_)
    refine R_cons rfl (op_pure (p_move rfl) rfl ?_)
    first | refine R_pass rfl rfl rfl rfl ?_ | refine R_pass_undef rfl rfl rfl ?_ | refine R_guard rfl rfl rfl (op_pure (p_move rfl) rfl ?_)
    first | refine R_pass rfl rfl rfl rfl ?_ | refine R_pass_undef rfl rfl rfl ?_ | refine R_guard rfl rfl rfl (op_callV rfl rfl Try.func22 rfl (by kernel_rfl) rfl (Nat.le_refl _) (fun w' hm => cused_any bc2 k2 bd2 0 false w' (hm.own (bc2, _) (by (try simp only [List.cons_append, List.nil_append]); repeat (first | exact List.Mem.head _ | apply List.Mem.tail))).2) ?_)
    first | refine R_pass rfl rfl rfl rfl ?_ | refine R_pass_undef rfl rfl rfl ?_ | refine R_guard rfl rfl rfl (op_pure (p_move rfl) rfl ?_)
    first | refine R_pass rfl rfl rfl rfl ?_ | refine R_pass_undef rfl rfl rfl ?_ | refine R_guard rfl rfl rfl (op_pure (p_bin rfl rfl (b_add e3)) rfl ?_)
    first | refine R_pass rfl rfl rfl rfl ?_ | refine R_pass_undef rfl rfl rfl ?_ | refine R_guard rfl rfl rfl (op_pure (p_bin rfl rfl (b_gtr e4)) rfl ?_)
    refine R_cons rfl (op_pure (by first | exact p_pick_yes rfl rfl | exact p_pick_no rfl rfl | exact p_pick rfl rfl rfl) rfl ?_)
    refine R_nil ?_
    repeat (first | refine S_scope ?_ | refine S_label ?_ | refine E_noGoto_normal ?_ | refine E_noGoto_ret ?_ | refine E_noGoto_exit ?_ | refine S_yes rfl (by first | with_reducible rfl | decide) ?_ | refine S_no rfl (by first | with_reducible rfl | decide) ?_ | refine S_seq ?_ | refine E_seq ?_ | refine S_block ?_ | refine E_block_normal ?_ | refine S_skip ?_ | refine S_exit ?_ | refine S_ret ?_ | refine E_then_exit ?_ | refine E_then_ret ?_ | refine E_block_ret ?_ | refine E_block_exit ?_ | refine E_block_exit_other rfl ?_)
    refine S_region ?_
    refine R_cons rfl (op_pure (p_move rfl) rfl ?_)
    refine R_cons rfl (op_pure (p_bin rfl rfl (b_add hinc)) rfl ?_)
    refine R_cons rfl (op_pure (p_assign rfl) rfl ?_)
    refine R_nil ?_
    repeat (first | refine S_scope ?_ | refine S_label ?_ | refine E_noGoto_normal ?_ | refine E_noGoto_ret ?_ | refine E_noGoto_exit ?_ | refine S_yes rfl (by first | with_reducible rfl | decide) ?_ | refine S_no rfl (by first | with_reducible rfl | decide) ?_ | refine S_seq ?_ | refine E_seq ?_ | refine S_block ?_ | refine E_block_normal ?_ | refine S_skip ?_ | refine S_exit ?_ | refine S_ret ?_ | refine E_then_exit ?_ | refine E_then_ret ?_ | refine E_block_ret ?_ | refine E_block_exit ?_ | refine E_block_exit_other rfl ?_)
    exact E_round (σ := Outer) (s := ⟨i, k, bd, bs, cs, bn, cn, bc, sps, spn, cc⟩) ⟨i + 1, k2, bd2, bs2, cs2, bn2, cn2, bc2, sps2, spn2, c'⟩ (by exact ⟨(by first | omega | (dsimp only; omega)), hk16, free_up hf' hka⟩) (by first | omega | (dsimp only; omega)) (by repeat (first | exact Sub.nil | refine Sub.cons rfl ?_)) (by dsimp only [List.cons_append, List.nil_append]; exact (by repeat (first | exact Fewer.nil | exact Fewer.refl _ | refine Fewer.pick rfl (by repeat (first | exact Del.here | apply Del.there)) ?_)))
  have g3 : decide ((i : Int) < (l.length : Int)) = false := decide_eq_false (by omega)
  repeat (first | refine S_scope ?_ | refine S_label ?_ | refine E_noGoto_normal ?_ | refine E_noGoto_ret ?_ | refine E_noGoto_exit ?_ | refine S_yes rfl (by first | with_reducible rfl | decide) ?_ | refine S_no rfl (by first | with_reducible rfl | decide) ?_ | refine S_seq ?_ | refine E_seq ?_ | refine S_block ?_ | refine E_block_normal ?_ | refine S_skip ?_ | refine S_exit ?_ | refine S_ret ?_ | refine E_then_exit ?_ | refine E_then_ret ?_ | refine E_block_ret ?_ | refine E_block_exit ?_ | refine E_block_exit_other rfl ?_)
  refine S_region ?_
  refine R_cons rfl (op_pure (p_move rfl) rfl ?_)
  refine R_cons rfl (op_pure (p_move rfl) rfl ?_)
  refine R_cons rfl (op_pure (p_lenR rfl slr_almonerlaw22_Try) rfl ?_)
  refine R_cons rfl (op_pure (p_bin rfl rfl (b_lss g3)) rfl ?_)
  refine R_nil ?_
  repeat (first | refine S_scope ?_ | refine S_label ?_ | refine E_noGoto_normal ?_ | refine E_noGoto_ret ?_ | refine E_noGoto_exit ?_ | refine S_yes rfl (by first | with_reducible rfl | decide) ?_ | refine S_no rfl (by first | with_reducible rfl | decide) ?_ | refine S_seq ?_ | refine E_seq ?_ | refine S_block ?_ | refine E_block_normal ?_ | refine S_skip ?_ | refine S_exit ?_ | refine S_ret ?_ | refine E_then_exit ?_ | refine E_then_ret ?_ | refine E_block_ret ?_ | refine E_block_exit ?_ | refine E_block_exit_other rfl ?_)
  refine S_region ?_
  refine R_cons rfl (op_callV rfl rfl Try.func23 rfl (by kernel_rfl) rfl (Nat.le_refl _) (fun w' _ => lives22 w') ?_)
  refine R_cons rfl (op_pure (p_assign rfl) rfl ?_)
  refine R_nil ?_
  repeat (first | refine S_scope ?_ | refine S_label ?_ | refine E_noGoto_normal ?_ | refine E_noGoto_ret ?_ | refine E_noGoto_exit ?_ | refine S_yes rfl (by first | with_reducible rfl | decide) ?_ | refine S_no rfl (by first | with_reducible rfl | decide) ?_ | refine S_seq ?_ | refine E_seq ?_ | refine S_block ?_ | refine E_block_normal ?_ | refine S_skip ?_ | refine S_exit ?_ | refine S_ret ?_ | refine E_then_exit ?_ | refine E_then_ret ?_ | refine E_block_ret ?_ | refine E_block_exit ?_ | refine E_block_exit_other rfl ?_)
  exact E_ret1 rfl rfl fun w' hm => ⟨rfl, hm.below⟩

theorem own : ownKnob Try.prog.godebug = none := by kernel_rfl
theorem laidOut : laidOutB Try.prog = true := by kernel_rfl
set_option maxRecDepth 100000 in
theorem lifted (os : Os) (started : os.Started) (H : Type) (enc : TypeId × Value → H) :
    ReturnsInHanded {} Try.checked os 9 .any (Rows.countsOnceSpec.pre6 enc Try.prog Try.f9 Rows.countsOnceRow.domain false) (Rows.countsOnceSpec.post enc Try.prog Try.f9 false true false false) := by
  refine returnsInHanded_of_change (C := Try.checked) own started (by kernel_rfl) Try.func9
    (ChangeSpec.witness6 (enc := enc) (C := Try.checked) false ⟨#[], #[.slice none 0 0], []⟩ 8 (by kernel_rfl) (by kernel_rfl) (by kernel_rfl) (by kernel_rfl)) ?_
  intro W base args ds gs before hval0 hW hcnd _
  have hval : ∀ (j : Nat) t v, Try.f9.params[j]? = some t → args[j]? = some v → Value.okWide Try.prog W .any base t v := hval0
  have hW' := hW
  obtain ⟨p, q, hA0, hV, rfl, hfz, hnd⟩ := hW
  have hA : DataW.TrodAll enc Try.prog W 0 (fun _ => true) true Try.f9.params.toList args.toList ds p := hA0
  rw [Try.params9] at hA hval
  obtain ⟨v0, vs0, d0, ds0, p0, q0, hargs, rfl, rfl, h0, r0⟩ := trodAll_cons hA
  obtain ⟨rfl, rfl, rfl⟩ := trodAll_nil r0
  obtain rfl : args = #[v0] := by cases args; simp_all
  obtain ⟨rfl, rfl⟩ := trodVars_none hV
  have k0 := h0
  have lt0 : ∀ x ∈ p0, x.block < W.heap.size := by obtain ⟨m, hm⟩ := k0; exact DataW.trod_lt m _ _ _ hm
  obtain ⟨A0, c0, a0, rfl, rd0, ok0, lc0, cm0⟩ := arg_byteBools Try.underlying57 Try.underlying62 Try.underlying5 Try.underlying60 Try.underlying4 (by kernel_rfl) (by kernel_rfl) (by kernel_rfl) (by kernel_rfl) rfl rfl (hval 0 57 v0 rfl rfl) k0
  clear hA0 hval0
  refine (walk W A0 c0 a0 rd0 ok0 lc0 cm0).mono fun e W' ⟨he, bel⟩ => ?_
  subst he
  exact ⟨_, rfl, _, _, _, [], _, [], hW', trodAll_mk1 (shut_bool Try.underlying4 _), (trodAll_cons_mk (Below.trod laidOut (by kernel_rfl) (of_decide_eq_true (by kernel_rfl)) k0 bel lt0) trodAll_mk0), rfl, bel.frame _, fun h => by cases h⟩
/-- The statement. -/
theorem proved : Rows.CountsOnceSaid :=
  OpenClaim.holds_of_wide 9 Try.f9 rfl rfl rfl rfl rfl rfl rfl ⟨rfl, rfl, rfl, rfl, rfl⟩ rfl rfl rfl rfl rfl (by kernel_rfl) Try.func9 (by kernel_rfl)
    (of_decide_eq_true (by kernel_rfl)) (by unfold Func.isWrapper; first | (rw [if_pos (by decide +kernel)]; kernel_rfl) | (rw [if_neg (by decide +kernel)]; exact ⟨rfl, rfl⟩))
    (fun os started H enc _ => lifted os started H enc)
#print axioms proved
end Go.Proofs.Ytfdlafjifjndeaa.countsOnce
