/-
  Numbers as bytes: the code's digits, an iterator.
-/
import Derived.Test.YtfdlafjifjndeaaPut1
import Derived.Test.YtfdlafjifjndeaaK4
namespace Go.Proofs.Ytfdlafjifjndeaa
open Go.Sha
open Go.RowKit Go.K
attribute [local irreducible] Exit.then Exit.inBlock Exit.noGoto bodyPost Code.wp QL Sx Rx Qx Ex Dx Op1 Pure1 Still1 K.Sub Calm Code.wpIn
attribute [local irreducible] Buf.hp Buf.cap Buf.addr
set_option linter.unusedVariables false

theorem digits_any (v m : Int) (w : World) : Calls Try.prog 82 [.int .u64 v, .int .i64 m].toArray w fun e w' => ∃ bm bn, e = .returned (.func (.func 93) #[] [.pointer (some ⟨bm, 0, none⟩), .pointer (some ⟨bn, 0, none⟩)].toArray) ∧ w.heap.size ≤ bm ∧ w.heap.size ≤ bn ∧ bm ≠ bn ∧
    w'.heap[bm]? = some (.cells [.int .i64 m].toArray 3 (0, 0)) ∧ w'.heap[bn]? = some (.cells [.int .u64 v].toArray 90 (0, 0)) ∧ Below w.heap.size w w' := by
  refine enter Try.func82 rfl Try.ntmps82 (by simp) ?_
  repeat (first | refine S_scope ?_ | refine S_label ?_ | refine E_noGoto_normal ?_ | refine E_noGoto_ret ?_ | refine E_noGoto_exit ?_ | refine S_yes rfl (by first | with_reducible rfl | decide) ?_ | refine S_no rfl (by first | with_reducible rfl | decide) ?_ | refine S_seq ?_ | refine E_seq ?_ | refine S_block ?_ | refine E_block_normal ?_ | refine S_skip ?_ | refine S_exit ?_ | refine S_ret ?_ | refine E_then_exit ?_ | refine E_then_ret ?_ | refine E_block_ret ?_ | refine E_block_exit ?_ | refine E_block_exit_other rfl ?_)
  refine S_region ?_
  refine R_cons rfl (op_box rfl rfl (Nat.le_refl _) (fun b2 => ?_))
  refine R_cons rfl (op_box rfl rfl (Nat.le_refl _) (fun b3 => ?_))
  refine R_cons rfl (op_pure (p_assign rfl) rfl ?_)
  refine R_nil ?_
  repeat (first | refine S_scope ?_ | refine S_label ?_ | refine E_noGoto_normal ?_ | refine E_noGoto_ret ?_ | refine E_noGoto_exit ?_ | refine S_yes rfl (by first | with_reducible rfl | decide) ?_ | refine S_no rfl (by first | with_reducible rfl | decide) ?_ | refine S_seq ?_ | refine E_seq ?_ | refine S_block ?_ | refine E_block_normal ?_ | refine S_skip ?_ | refine S_exit ?_ | refine S_ret ?_ | refine E_then_exit ?_ | refine E_then_ret ?_ | refine E_block_ret ?_ | refine E_block_exit ?_ | refine E_block_exit_other rfl ?_)
  refine S_region ?_
  refine R_cons rfl (op_pure (p_makeFunc (xs := []) (ys := [.tmp 3, .tmp 2]) rfl rfl) rfl ?_)
  refine R_cons rfl (op_pure (p_assign rfl) rfl ?_)
  refine R_nil ?_
  repeat (first | refine S_scope ?_ | refine S_label ?_ | refine E_noGoto_normal ?_ | refine E_noGoto_ret ?_ | refine E_noGoto_exit ?_ | refine S_yes rfl (by first | with_reducible rfl | decide) ?_ | refine S_no rfl (by first | with_reducible rfl | decide) ?_ | refine S_seq ?_ | refine E_seq ?_ | refine S_block ?_ | refine E_block_normal ?_ | refine S_skip ?_ | refine S_exit ?_ | refine S_ret ?_ | refine E_then_exit ?_ | refine E_then_ret ?_ | refine E_block_ret ?_ | refine E_block_exit ?_ | refine E_block_exit_other rfl ?_)
  refine E_ret1 rfl rfl fun w' hm => ⟨b3, b2, rfl, ?_, ?_, ?_, (hm.own (b3, _) (by repeat (first | exact List.Mem.head _ | apply List.Mem.tail))).2, (hm.own (b2, _) (by repeat (first | exact List.Mem.head _ | apply List.Mem.tail))).2, hm.below⟩
  · rcases (hm.own (b3, _) (by repeat (first | exact List.Mem.head _ | apply List.Mem.tail))).1 with h | h
    · exact h
    · cases h
  · rcases (hm.own (b2, _) (by repeat (first | exact List.Mem.head _ | apply List.Mem.tail))).1 with h | h
    · exact h
    · cases h
  · exact (List.pairwise_cons.1 hm.apart).1 _ (List.Mem.head _)

/-- a byte, as it is handed out -/
def encB (b : UInt8) : List Value := [.int .u8 (b.toNat : Int)]
set_option maxHeartbeats 1000000 in
theorem digits_iter (v m bm bn B : Nat) (w0 : Base) (hv : v ≤ 18446744073709551615) (hm8 : m ≤ 8) :
    Iter Try.prog 93 [.pointer (some ⟨bm, 0, none⟩), .pointer (some ⟨bn, 0, none⟩)] encB B w0 [(bm, .cells [.int .i64 (m : Int)].toArray 3 (0, 0)), (bn, .cells [.int .u64 (v : Int)].toArray 90 (0, 0))] (digitsB v m) := by
  intro l J W hmem hst hyield hJ0
  have hsub : IntKind.i64.wrap ((m : Int) - 1) = (m : Int) - 1 := w_in_i64 (by omega)
  have hmul : IntKind.i64.wrap (((m : Int) - 1) * 8) = ((m : Int) - 1) * 8 := w_in_i64 (by omega)
  refine enter_in Try.func93 rfl Try.ntmps93 (by simp) (fun a hf => ?_)
  have hh := hmem.here
  simp only [List.map_cons, List.map_nil] at hh
  refine (show SIx Try.prog W.heap.size ⟨W, [bm, bn]⟩ 19 [] none _ _ _ _ from ?_) a W hf hh
  repeat (first | refine SI_yes rfl (by first | with_reducible rfl | decide) ?_ | refine SI_no rfl (by first | with_reducible rfl | decide) ?_ | refine SI_seq ?_ | refine EI_seq ?_ | refine SI_block ?_ | refine E_block_normal ?_ | refine SI_skip ?_ | refine SI_exit ?_ | refine SI_ret ?_ | refine E_then_exit ?_ | refine E_then_ret ?_ | refine E_block_ret ?_ | refine E_block_exit ?_ | refine E_block_exit_other rfl ?_)
  refine SI_region ?_
  refine RI_cons rfl (by intro c h; cases h) (op_pure (by first | exact p_load rfl sc_int (by repeat (first | exact List.Mem.head _ | apply List.Mem.tail)) (by first | assumption | exact bytesV_get (by omega) | exact wordsV_get (by omega) | rfl) | exact p_load_base rfl sc_int (by assumption) (by simp) (by assumption)) rfl ?_)
  refine RI_cons rfl (by intro c h; cases h) (op_pure (p_bin rfl rfl (b_sub hsub)) rfl ?_)
  refine RI_cons rfl (by intro c h; cases h) (op_pure (p_bin rfl rfl (b_mul hmul)) rfl ?_)
  refine RI_cons rfl (by intro c h; cases h) (op_pure (p_assign rfl) rfl ?_)
  refine RI_nil ?_
  repeat (first | refine SI_yes rfl (by first | with_reducible rfl | decide) ?_ | refine SI_no rfl (by first | with_reducible rfl | decide) ?_ | refine SI_seq ?_ | refine EI_seq ?_ | refine SI_block ?_ | refine E_block_normal ?_ | refine SI_skip ?_ | refine SI_exit ?_ | refine SI_ret ?_ | refine E_then_exit ?_ | refine E_then_ret ?_ | refine E_block_ret ?_ | refine E_block_exit ?_ | refine E_block_exit_other rfl ?_)
  intro a2 W2 hf2 hm2
  have hbs : ∀ {W' : World}, Mem B w0 [(bm, .cells [.int .i64 (m : Int)].toArray 3 (0, 0)), (bn, .cells [.int .u64 (v : Int)].toArray 90 (0, 0))] W' → ∀ k ∈ [bm, bn], B ≤ k ∨ k ∈ w0.bs := fun h k hk => by
    simp only [List.mem_cons, List.not_mem_nil, or_false] at hk
    rcases hk with rfl | rfl
    · exact (h.own _ (List.Mem.head _)).1
    · exact (h.own _ (List.Mem.tail _ (List.Mem.head _))).1
  have hmB2 := hmem.back (hbs hmem) hm2
  refine SI_loopW (N := 19) (D := []) (fun s : List UInt8 × Nat => [(4, .int .i64 (((s.2 : Int) - 1) * 8)), (2, .pointer (some ⟨bn, 0, none⟩)), (1, .pointer (some ⟨bm, 0, none⟩)), (0, .func (.yield l) #[] #[])]) (fun _ => [(bm, .cells [.int .i64 (m : Int)].toArray 3 (0, 0)), (bn, .cells [.int .u64 (v : Int)].toArray 90 (0, 0))]) [bm, bn]
    (fun s W => J s.1 W ∧ Mem B w0 [(bm, .cells [.int .i64 (m : Int)].toArray 3 (0, 0)), (bn, .cells [.int .u64 (v : Int)].toArray 90 (0, 0))] W ∧ s.1 ++ digitsB v s.2 = digitsB v m ∧ s.2 ≤ 8) (fun s => s.2) ([], m) (hf2.sub (by repeat (first | exact Sub.nil | refine Sub.cons rfl ?_))) ⟨hst [] W W2 hJ0 (Steps1.of hm2), hmB2, rfl, hm8⟩ (fun s W h => by have := h.2.1.here; simpa using this) ?_
  rintro ⟨pre, k⟩ W ⟨hJ, hmW, htot, hk8⟩
  dsimp only at hJ hmW htot hk8 ⊢
  cases k with
  | zero =>
    have g1 : decide ((0 : Int) ≤ (((0 : Nat) : Int) - 1) * 8) = false := by decide
    repeat (first | refine SI_yes rfl (by first | with_reducible rfl | decide) ?_ | refine SI_no rfl (by first | with_reducible rfl | decide) ?_ | refine SI_seq ?_ | refine EI_seq ?_ | refine SI_block ?_ | refine E_block_normal ?_ | refine SI_skip ?_ | refine SI_exit ?_ | refine SI_ret ?_ | refine E_then_exit ?_ | refine E_then_ret ?_ | refine E_block_ret ?_ | refine E_block_exit ?_ | refine E_block_exit_other rfl ?_)
    refine SI_region ?_
    refine RI_cons rfl (by intro c h; cases h) (op_pure (p_move rfl) rfl ?_)
    refine RI_cons rfl (by intro c h; cases h) (op_pure (p_bin rfl rfl (b_geq g1)) rfl ?_)
    refine RI_nil ?_
    repeat (first | refine SI_yes rfl (by first | with_reducible rfl | decide) ?_ | refine SI_no rfl (by first | with_reducible rfl | decide) ?_ | refine SI_seq ?_ | refine EI_seq ?_ | refine SI_block ?_ | refine E_block_normal ?_ | refine SI_skip ?_ | refine SI_exit ?_ | refine SI_ret ?_ | refine E_then_exit ?_ | refine E_then_ret ?_ | refine E_block_ret ?_ | refine E_block_exit ?_ | refine E_block_exit_other rfl ?_)
    refine E_end0 rfl fun w hm => ⟨⟨_, rfl⟩, ?_⟩
    have : pre = digitsB v m := by rw [← htot]; simp [digitsB]
    rw [← this]
    exact hst pre W w hJ (Steps1.of hm)
  | succ j =>
    rw [show (((j + 1 : Nat) : Int) - 1) * 8 = ((j * 8 : Nat) : Int) by omega]
    have g1 : decide ((0 : Int) ≤ ((j * 8 : Nat) : Int)) = true := decide_eq_true (by omega)
    have hsh : (v : Int) / 2 ^ ((j * 8 : Nat) : Int).toNat = ((v / 256 ^ j : Nat) : Int) := by
      rw [shr_nat, show 2 ^ (j * 8) = 256 ^ j by rw [Nat.mul_comm, Nat.pow_mul]]
    have hcv : IntKind.u8.wrap ((v / 256 ^ j : Nat) : Int) = ((UInt8.ofNat (v / 256 ^ j % 256)).toNat : Int) := by
      rw [u8_nat, UInt8.toNat_ofNat', UInt8.toNat_ofNat']; omega
    have hs8 : IntKind.i64.wrap (((j * 8 : Nat) : Int) - 8) = (((j : Nat) : Int) - 1) * 8 := by rw [w_in_i64 (by omega)]; omega
    rw [digitsB] at htot
    repeat (first | refine SI_yes rfl (by first | with_reducible rfl | decide) ?_ | refine SI_no rfl (by first | with_reducible rfl | decide) ?_ | refine SI_seq ?_ | refine EI_seq ?_ | refine SI_block ?_ | refine E_block_normal ?_ | refine SI_skip ?_ | refine SI_exit ?_ | refine SI_ret ?_ | refine E_then_exit ?_ | refine E_then_ret ?_ | refine E_block_ret ?_ | refine E_block_exit ?_ | refine E_block_exit_other rfl ?_)
    refine SI_region ?_
    refine RI_cons rfl (by intro c h; cases h) (op_pure (p_move rfl) rfl ?_)
    refine RI_cons rfl (by intro c h; cases h) (op_pure (p_bin rfl rfl (b_geq g1)) rfl ?_)
    refine RI_nil ?_
    repeat (first | refine SI_yes rfl (by first | with_reducible rfl | decide) ?_ | refine SI_no rfl (by first | with_reducible rfl | decide) ?_ | refine SI_seq ?_ | refine EI_seq ?_ | refine SI_block ?_ | refine E_block_normal ?_ | refine SI_skip ?_ | refine SI_exit ?_ | refine SI_ret ?_ | refine E_then_exit ?_ | refine E_then_ret ?_ | refine E_block_ret ?_ | refine E_block_exit ?_ | refine E_block_exit_other rfl ?_)
    refine SI_region ?_
    refine RI_cons rfl (by intro c h; cases h) (op_pure (p_move rfl) rfl ?_)
    refine RI_cons rfl (by intro c h; cases h) (op_pure (by first | exact p_load rfl sc_u64 (by repeat (first | exact List.Mem.head _ | apply List.Mem.tail)) (by first | assumption | exact bytesV_get (by omega) | exact wordsV_get (by omega) | rfl) | exact p_load_base rfl sc_u64 (by assumption) (by simp) (by assumption)) rfl ?_)
    refine RI_cons rfl (by intro c h; cases h) (op_pure (p_move rfl) rfl ?_)
    refine RI_cons rfl (by intro c h; cases h) (op_pure (p_bin rfl rfl (b_shr (by omega) (by show _ ≤ (64 : Int); omega) hsh)) rfl ?_)
    refine RI_cons rfl (by intro c h; cases h) (op_pure (p_convert rfl sc_u64 ik_u8 hcv) rfl ?_)
    refine RI_yield rfl rfl rfl (fun w hm => ?_)
    have hmB := hmW.back (hbs hmW) hm
    have hpre : pre ++ [UInt8.ofNat (v / 256 ^ j % 256)] <+: digitsB v m := ⟨_, by rw [← htot, List.append_assoc]; rfl⟩
    refine yield_mono (hyield pre (UInt8.ofNat (v / 256 ^ j % 256)) w [(bm, .cells [.int .i64 (m : Int)].toArray 3 (0, 0)), (bn, .cells [.int .u64 (v : Int)].toArray 90 (0, 0))] hpre (hst pre W w hJ (Steps1.of hm)) rfl hmB) ?_
    rintro e w' ⟨rfl, hJ', hm'⟩
    refine ⟨.bool true, w'.heap.size, ⟨w', [bm, bn]⟩, _, rfl, (by have := hm'.here; simpa using this), ?_⟩
    refine RI_cons rfl (by intro c h; cases h) (op_pure (p_not rfl) rfl ?_)
    refine RI_nil ?_
    repeat (first | refine SI_yes rfl (by first | with_reducible rfl | decide) ?_ | refine SI_no rfl (by first | with_reducible rfl | decide) ?_ | refine SI_seq ?_ | refine EI_seq ?_ | refine SI_block ?_ | refine E_block_normal ?_ | refine SI_skip ?_ | refine SI_exit ?_ | refine SI_ret ?_ | refine E_then_exit ?_ | refine E_then_ret ?_ | refine E_block_ret ?_ | refine E_block_exit ?_ | refine E_block_exit_other rfl ?_)
    refine SI_region ?_
    refine RI_cons rfl (by intro c h; cases h) (op_pure (p_move rfl) rfl ?_)
    refine RI_cons rfl (by intro c h; cases h) (op_pure (p_bin rfl rfl (b_sub hs8)) rfl ?_)
    refine RI_cons rfl (by intro c h; cases h) (op_pure (p_assign rfl) rfl ?_)
    refine RI_nil ?_
    repeat (first | refine SI_yes rfl (by first | with_reducible rfl | decide) ?_ | refine SI_no rfl (by first | with_reducible rfl | decide) ?_ | refine SI_seq ?_ | refine EI_seq ?_ | refine SI_block ?_ | refine E_block_normal ?_ | refine SI_skip ?_ | refine SI_exit ?_ | refine SI_ret ?_ | refine E_then_exit ?_ | refine E_then_ret ?_ | refine E_block_ret ?_ | refine E_block_exit ?_ | refine E_block_exit_other rfl ?_)
    refine EI_end fun a w2 hf hm2 => ?_
    have hmB2 := hm'.back (hbs hm') hm2
    exact ⟨(pre ++ [UInt8.ofNat (v / 256 ^ j % 256)], j), by show j < j + 1; omega, hf.sub (by repeat (first | exact Sub.nil | refine Sub.cons rfl ?_)), hst _ w' w2 hJ' (Steps1.of hm2), hmB2, by show _ ++ _ = _; rw [← htot, List.append_assoc]; rfl, by show j ≤ 8; omega⟩
end Go.Proofs.Ytfdlafjifjndeaa
