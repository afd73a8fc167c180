/-
  The layer counts: a sector's bytes, a count in memory, what it says.
-/
import Derived.Test.YtfdlafjifjndeaaCnt1
import Derived.Test.YtfdlafjifjndeaaK12
namespace Go.K
open Go Go.RowKit
section
variable {P : Program} {B : Nat} {w0 : Base} {N : Nat} {D : List Deferred} {env : Env} {H : Hp} {T : Env → Hp → Prop} {ty : TypeId} {pos : String} {after : Array Edge} {g : Option (Nat × Bool)}
/-- A call that turns nothing that was there, and makes blocks. -/
theorem op_callN {d : Nat} {fo : Operand} {xs : List Operand} {ts : Array TypeId} {f : FuncId} {fn : Func} {vs first cap : List Value} {Post : Value → Hp → Prop} (hfo : look env fo = some (.func (.func f) first.toArray cap.toArray)) (hxs : looks env xs = some vs)
    (hf0 : P.funcs[f]? = some fn) (hb0 : fn.body.isNone = false) (hn0 : (fn.name == "runtime.NumGoroutine") = false) (hd : Nat.blt d N = true)
    (hc : ∀ w, Mem B w0 H w → Calls P f (first ++ vs ++ cap).toArray w fun e w' => ∃ v H', e = .returned v ∧ Mem w.heap.size ⟨w, []⟩ H' w' ∧ Post v H') (h : ∀ v H', Post v H' → T ((d, v) :: env) (H' ++ H)) :
    Op1 P B w0 N D ⟨some d, .call { callee := .value fo, args := xs.toArray, argTypes := ts }, ty, pos, after, g⟩ env H T :=
  op_call hfo hxs hf0 hb0 hn0 hd fun w hm => (hc w hm).mono fun _ _ ⟨v, H', he, hm', hp⟩ => ⟨v, H' ++ H, he, Mem.frame (Hc := []) hm hm', h v H' hp⟩
theorem results_tmp_cell {fn : Func} {t u : Nat} {ty : TypeId} (hr : fn.results = #[.tmp t, .cell u ty]) (hsc : Sc P ty) {tmps : Array Value} {w : World} {v e : Value} {b : Nat} (h1 : tmps[t]? = some v) (h2 : tmps[u]? = some (.pointer (some ⟨b, 0, none⟩))) (hc : w.cell? ⟨b, 0, none⟩ = some e) :
    (results fn tmps).run P w = .ok (.tuple [v, e].toArray) w := by
  obtain ⟨d, ht, hd, _⟩ := hsc
  simp [results, hr, h1, h2, asAddr, loadVar, isAgg_no ht hd, load, Sem.run, hc]
/-- Back with a number and a variable's value; nothing was put off. -/
theorem E_ret0D {fn : Func} {R : Ending → World → Prop} {t u : Nat} {ty2 : TypeId} {v e : Value} {b : Nat} {cs : List Value} {et : TypeId} {fr : Nat × Nat} (hr : fn.results = #[.tmp t, .cell u ty2]) (hsc : Sc P ty2) (hv : find env t = some v) (hu : find env u = some (.pointer (some ⟨b, 0, none⟩))) (hH : (b, Obj.cells cs.toArray et fr) ∈ H) (he : cs[0]? = some e)
    (h : ∀ w, Mem B w0 H w → R (.returned (.tuple [v, e].toArray)) w) : Ex B w0 N [] env H (bodyPostD P fn R .ret) := fun a w hf hm => by
  show Leaves P fn a.tmps R a.defers .returning w
  rw [hf.defs]
  exact ⟨_, results_tmp_cell hr hsc (hf.at_ t v hv) (hf.at_ u _ hu) ((hm.cell hH 0).trans he), h w hm⟩
end
/-- a count's cells -/
def cntC (used bd at_ : Nat) (down : Bool) : List Value := [.int .u32 (used : Int), .pointer (some ⟨bd, 0, none⟩), .int .i64 (at_ : Int), .bool down]
end Go.K
namespace Go.Proofs.Ytfdlafjifjndeaa
open Go.RowKit Go.K
attribute [local irreducible] Exit.then Exit.inBlock Exit.noGoto bodyPost Code.wp QL Sx Rx Qx Ex Dx Op1 Pure1 Still1 K.Sub Calm Code.wpIn
set_option linter.unusedVariables false
theorem row_counts_many : Row Try.prog 101 1 := ⟨_, Try.underlying101, rfl, by kernel_rfl⟩
theorem zero_counts_many : Zr Try.prog 101 (([Value.int .u32 0])) := by unfold Zr; kernel_rfl
theorem elr_counts_many : ElR Try.prog 101 (.agg (([Value.int .u32 0])).toArray) 1 4 := by
  obtain ⟨i, h1, h2, h3, h4⟩ := info_parts (show (Try.prog.info? 101).map (fun i => (i.zero, i.size, i.bytes)) = some (some (.agg (([Value.int .u32 0])).toArray), 1, 4) from by kernel_rfl)
  exact ⟨i, h1, h2, h3, h4, rfl⟩
theorem fd_counts_many_0 : FldAt Try.prog 101 0 0 := ⟨_, _, 0, Try.underlying101, rfl, rfl, by kernel_rfl⟩
theorem blt_counts_many : ∀ parts, Try.prog.built 101 parts = Instr.fill (fun i => [(0, 1)].toArray[i]?) (([Value.int .u32 0])).toArray parts := fun parts => by kernel_rfl
theorem row_counts_Count : Row Try.prog 103 4 := ⟨_, Try.underlying103, rfl, by kernel_rfl⟩
theorem zero_counts_Count : Zr Try.prog 103 ((([Value.int .u32 0]) ++ ([Value.pointer none] ++ ([Value.int .i64 0] ++ ([Value.bool false]))))) := by unfold Zr; kernel_rfl
theorem elr_counts_Count : ElR Try.prog 103 (.agg ((([Value.int .u32 0]) ++ ([Value.pointer none] ++ ([Value.int .i64 0] ++ ([Value.bool false]))))).toArray) 4 32 := by
  obtain ⟨i, h1, h2, h3, h4⟩ := info_parts (show (Try.prog.info? 103).map (fun i => (i.zero, i.size, i.bytes)) = some (some (.agg ((([Value.int .u32 0]) ++ ([Value.pointer none] ++ ([Value.int .i64 0] ++ ([Value.bool false]))))).toArray), 4, 32) from by kernel_rfl)
  exact ⟨i, h1, h2, h3, h4, rfl⟩
theorem fd_counts_Count_0 : FldAt Try.prog 103 0 0 := ⟨_, _, 0, Try.underlying103, rfl, rfl, by kernel_rfl⟩
theorem fd_counts_Count_1 : FldAt Try.prog 103 1 1 := ⟨_, _, 0, Try.underlying103, rfl, rfl, by kernel_rfl⟩
theorem fd_counts_Count_2 : FldAt Try.prog 103 2 2 := ⟨_, _, 0, Try.underlying103, rfl, rfl, by kernel_rfl⟩
theorem fd_counts_Count_3 : FldAt Try.prog 103 3 3 := ⟨_, _, 0, Try.underlying103, rfl, rfl, by kernel_rfl⟩
theorem blt_counts_Count : ∀ parts, Try.prog.built 103 parts = Instr.fill (fun i => [(0, 1), (1, 1), (2, 1), (3, 1)].toArray[i]?) ((([Value.int .u32 0]) ++ ([Value.pointer none] ++ ([Value.int .i64 0] ++ ([Value.bool false]))))).toArray parts := fun parts => by kernel_rfl
theorem ptr_counts_Count : Try.prog.underlying 48 = some (.pointer (Try.prog.pointee 48)) := by kernel_rfl
theorem sc_counts_Count : Sc Try.prog 48 := ⟨_, Try.underlying48, rfl, by kernel_rfl⟩
theorem zs_counts_Count : Zs Try.prog 48 (Value.pointer none) := ⟨by kernel_rfl, rfl⟩
/-- what stands in a sector of a count of which k are used -/
def sumU (xs : List UInt8) : UInt32 := UInt32.ofNat (onNat 1 xs)
theorem sumU_nat (xs : List UInt8) : (sumU xs).toNat = onNat 1 xs := by
  unfold sumU
  rw [UInt32.toNat_ofNat']
  have h : onNat 1 xs < 4294967296 := by
    unfold onNat
    have := adl_lt (1 % 65536 % 65521) (1 / 65536 % 65521) xs
    omega
  omega
def toldS (k : Nat) : List UInt8 := digitsB k 4 ++ digitsB (~~~ sumU (digitsB k 4)).toNat 4 ++ List.replicate 56 0
theorem toldS_length (k : Nat) : (toldS k).length = 64 := by unfold toldS; simp [digitsB_length]
attribute [local irreducible] digitsB onNat sumU Buf.hp Buf.cap Buf.addr

set_option maxHeartbeats 1000000 in
theorem sector_any (k : Nat) (hk : k < 4294967296) (w : World) : Calls Try.prog 58 [.agg [.int .u32 (k : Int)].toArray].toArray w (MadeBuf 5 (toldS k) w) := by
  have l4 := digitsB_length k 4
  have l42 := digitsB_length (~~~ sumU (digitsB k 4)).toNat 4
  have l8 : (digitsB k 4 ++ digitsB (~~~ sumU (digitsB k 4)).toNat 4).length = 8 := by rw [List.length_append, l4, l42]
  have hcv : IntKind.u64.wrap (k : Int) = (k : Int) := w_in_u64 (by omega)
  have hcv2 := w32_u64 (~~~ sumU (digitsB k 4))
  have hv2 : (~~~ sumU (digitsB k 4)).toNat ≤ 18446744073709551615 := by have := (~~~ sumU (digitsB k 4)).toNat_lt; omega
  have hcomp := k32_not (sumU (digitsB k 4))
  have hsub : IntKind.i64.wrap (64 - (((digitsB k 4 ++ digitsB (~~~ sumU (digitsB k 4)).toNat 4).length : Nat) : Int)) = 56 := by rw [l8]; decide
  have hh := And.intro hcv (And.intro hcv2 (And.intro hv2 (And.intro hcomp (show k ≤ 18446744073709551615 by omega))))
  clear hcv hcv2 hv2 hcomp hk
  refine enter Try.func58 rfl Try.ntmps58 (by simp) ?_
  repeat (first | refine S_scope ?_ | refine S_label ?_ | refine E_noGoto_normal ?_ | refine E_noGoto_ret ?_ | refine E_noGoto_exit ?_ | refine S_yes rfl (by first | with_reducible rfl | decide) ?_ | refine S_no rfl (by first | with_reducible rfl | decide) ?_ | refine S_seq ?_ | refine E_seq ?_ | refine S_block ?_ | refine E_block_normal ?_ | refine S_skip ?_ | refine S_exit ?_ | refine S_ret ?_ | refine E_then_exit ?_ | refine E_then_ret ?_ | refine E_block_ret ?_ | refine E_block_exit ?_ | refine E_block_exit_other rfl ?_)
  refine S_region ?_
  refine R_cons rfl (op_boxRow rfl rfl (Nat.le_refl _) (fun b1 => ?_))
  refine R_cons rfl (op_pure (p_assign rfl) rfl ?_)
  refine R_nil ?_
  repeat (first | refine S_scope ?_ | refine S_label ?_ | refine E_noGoto_normal ?_ | refine E_noGoto_ret ?_ | refine E_noGoto_exit ?_ | refine S_yes rfl (by first | with_reducible rfl | decide) ?_ | refine S_no rfl (by first | with_reducible rfl | decide) ?_ | refine S_seq ?_ | refine E_seq ?_ | refine S_block ?_ | refine E_block_normal ?_ | refine S_skip ?_ | refine S_exit ?_ | refine S_ret ?_ | refine E_then_exit ?_ | refine E_then_ret ?_ | refine E_block_ret ?_ | refine E_block_exit ?_ | refine E_block_exit_other rfl ?_)
  refine S_region ?_
  refine R_cons rfl (op_pure (by first | exact p_fieldAddr0 rfl fd_counts_many_0 | exact p_fieldAddr rfl fd_counts_many_0) rfl ?_)
  refine R_cons rfl (op_pure (p_load rfl sc_u32 (by repeat (first | exact List.Mem.head _ | apply List.Mem.tail)) (by rfl)) rfl ?_)
  refine R_cons rfl (op_pure (p_convert rfl sc_u32 ik_u64 hh.1) rfl ?_)
  refine R_cons rfl (op_callBuf (xs := digitsB k 4) rfl rfl Try.func47 rfl (by kernel_rfl) rfl (Nat.le_refl _) (fun w' hm => by have h := putBuf none 0 0 [] k 4 w' rfl (Reads.nil _) (by omega) hh.2.2.2.2 (by omega) (by omega); rw [List.nil_append] at h; exact h) (fun g sp hok5 => ?_))
  refine R_cons rfl (op_pure (p_assign rfl) rfl ?_)
  refine R_nil ?_
  repeat (first | refine S_scope ?_ | refine S_label ?_ | refine E_noGoto_normal ?_ | refine E_noGoto_ret ?_ | refine E_noGoto_exit ?_ | refine S_yes rfl (by first | with_reducible rfl | decide) ?_ | refine S_no rfl (by first | with_reducible rfl | decide) ?_ | refine S_seq ?_ | refine E_seq ?_ | refine S_block ?_ | refine E_block_normal ?_ | refine S_skip ?_ | refine S_exit ?_ | refine S_ret ?_ | refine E_then_exit ?_ | refine E_then_ret ?_ | refine E_block_ret ?_ | refine E_block_exit ?_ | refine E_block_exit_other rfl ?_)
  refine S_region ?_
  refine R_cons rfl (op_pure (p_move rfl) rfl ?_)
  refine R_cons rfl (op_pure (p_move rfl) rfl ?_)
  refine R_cons rfl (op_callV (v := .int .u32 ((sumU (digitsB k 4)).toNat : Int)) rfl rfl Try.func86 rfl (by kernel_rfl) rfl (Nat.le_refl _) (fun w' hm => by have h := of_any _ _ _ (digitsB k 4) w' rfl (hm.readsBuf (u := some (g, sp)) (e := 5) (by repeat (first | exact DelB.tail | exact DelB.no rfl | exact DelB.at_ rfl (by repeat (first | exact Del.here | apply Del.there)) | apply DelB.there)) hok5) (Buf.len_cap hok5) (Buf.cap_max hok5); rw [← sumU_nat] at h; exact h) ?_)
  refine R_cons rfl (op_pure (p_compl rfl hh.2.2.2.1) rfl ?_)
  refine R_cons rfl (op_pure (p_convert rfl sc_u32 ik_u64 hh.2.1) rfl ?_)
  refine R_cons rfl (op_callBuf (xs := digitsB k 4 ++ digitsB (~~~ sumU (digitsB k 4)).toNat 4) rfl rfl Try.func47 rfl (by kernel_rfl) rfl (Nat.le_refl _) (fun w' hm => putBuf _ _ (Buf.cap (some (g, sp)) (digitsB k 4)) (digitsB k 4) (~~~ sumU (digitsB k 4)).toNat 4 w' rfl (hm.readsBuf (u := some (g, sp)) (e := 5) (by repeat (first | exact DelB.tail | exact DelB.no rfl | exact DelB.at_ rfl (by repeat (first | exact Del.here | apply Del.there)) | apply DelB.there)) hok5) (by omega) hh.2.2.1 (by omega) (by omega)) (fun g2 sp2 hok2 => ?_))
  refine R_cons rfl (op_pure (p_assign rfl) rfl ?_)
  refine R_nil ?_
  repeat (first | refine S_scope ?_ | refine S_label ?_ | refine E_noGoto_normal ?_ | refine E_noGoto_ret ?_ | refine E_noGoto_exit ?_ | refine S_yes rfl (by first | with_reducible rfl | decide) ?_ | refine S_no rfl (by first | with_reducible rfl | decide) ?_ | refine S_seq ?_ | refine E_seq ?_ | refine S_block ?_ | refine E_block_normal ?_ | refine S_skip ?_ | refine S_exit ?_ | refine S_ret ?_ | refine E_then_exit ?_ | refine E_then_ret ?_ | refine E_block_ret ?_ | refine E_block_exit ?_ | refine E_block_exit_other rfl ?_)
  refine S_region ?_
  refine R_cons rfl (op_pure (p_move rfl) rfl ?_)
  refine R_cons rfl (op_pure (p_move rfl) rfl ?_)
  refine R_cons rfl (op_pure (p_len rfl slc_u8s) rfl ?_)
  refine R_cons rfl (op_pure (p_bin rfl rfl (b_sub hsub)) rfl ?_)
  refine R_cons rfl (op_appendZeros (b := g2) (sp := sp2) (xs := digitsB k 4 ++ digitsB (~~~ sumU (digitsB k 4)).toNat 4) (n := 56) rfl rfl rfl slc_u8s.1 Try.underlying3 el_u8 (by repeat (first | exact Del.here | apply Del.there)) hok2 (by omega) rfl (Nat.le_refl _) (fun v hokv hnev => ?_))
  refine R_cons rfl (op_pure (p_assign rfl) rfl ?_)
  refine R_nil ?_
  repeat (first | refine S_scope ?_ | refine S_label ?_ | refine E_noGoto_normal ?_ | refine E_noGoto_ret ?_ | refine E_noGoto_exit ?_ | refine S_yes rfl (by first | with_reducible rfl | decide) ?_ | refine S_no rfl (by first | with_reducible rfl | decide) ?_ | refine S_seq ?_ | refine E_seq ?_ | refine S_block ?_ | refine E_block_normal ?_ | refine S_skip ?_ | refine S_exit ?_ | refine S_ret ?_ | refine E_then_exit ?_ | refine E_then_ret ?_ | refine E_block_ret ?_ | refine E_block_exit ?_ | refine E_block_exit_other rfl ?_)
  obtain ⟨g3, sp3, rfl⟩ := Buf.some_of hokv (by rw [List.length_append]; simp)
  have he : digitsB k 4 ++ digitsB (~~~ sumU (digitsB k 4)).toNat 4 ++ List.replicate 56 0 = toldS k := rfl
  rw [he] at hokv ⊢
  refine E_ret1 rfl rfl fun w' hm => ⟨g3, sp3, rfl, hokv, ?_, ?_, hm.below⟩
  · rcases (hm.own (g3, .cells (bytesV (toldS k) ++ sp3).toArray 5 (0, 0)) (by unfold Buf.hp; simp)).1 with h | h
    · exact h
    · cases h
  · exact (hm.own (g3, .cells (bytesV (toldS k) ++ sp3).toArray 5 (0, 0)) (by unfold Buf.hp; simp)).2

theorem cthere_any (bc used bd at_ : Nat) (down : Bool) (w : World) (hb : w.heap[bc]? = some (.cells (cntC used bd at_ down).toArray 103 (0, 0))) :
    Calls Try.prog 59 [.pointer (some ⟨bc, 0, none⟩)].toArray w fun e w' => e = .returned (.bool true) ∧ Below w.heap.size w w' := by
  have hbl := (Array.getElem?_eq_some_iff.1 hb).1
  have c1 : w.cell? ⟨bc, 1, none⟩ = some (.pointer (some ⟨bd, 0, none⟩)) := by rw [cell_of_row w bc 1 _ _ _ hb]; rfl
  refine enter Try.func59 rfl Try.ntmps59 (by simp) ?_
  repeat (first | refine S_scope ?_ | refine S_label ?_ | refine E_noGoto_normal ?_ | refine E_noGoto_ret ?_ | refine E_noGoto_exit ?_ | refine S_yes rfl (by first | with_reducible rfl | decide) ?_ | refine S_no rfl (by first | with_reducible rfl | decide) ?_ | refine S_seq ?_ | refine E_seq ?_ | refine S_block ?_ | refine E_block_normal ?_ | refine S_skip ?_ | refine S_exit ?_ | refine S_ret ?_ | refine E_then_exit ?_ | refine E_then_ret ?_ | refine E_block_ret ?_ | refine E_block_exit ?_ | refine E_block_exit_other rfl ?_)
  refine S_region ?_
  refine R_cons rfl (op_pure (p_assign rfl) rfl ?_)
  refine R_nil ?_
  repeat (first | refine S_scope ?_ | refine S_label ?_ | refine E_noGoto_normal ?_ | refine E_noGoto_ret ?_ | refine E_noGoto_exit ?_ | refine S_yes rfl (by first | with_reducible rfl | decide) ?_ | refine S_no rfl (by first | with_reducible rfl | decide) ?_ | refine S_seq ?_ | refine E_seq ?_ | refine S_block ?_ | refine E_block_normal ?_ | refine S_skip ?_ | refine S_exit ?_ | refine S_ret ?_ | refine E_then_exit ?_ | refine E_then_ret ?_ | refine E_block_ret ?_ | refine E_block_exit ?_ | refine E_block_exit_other rfl ?_)
  refine S_region ?_
  refine R_cons rfl (op_pure (p_move rfl) rfl ?_)
  refine R_cons rfl (op_pure (p_neq_nil rfl rfl ptr_counts_Count) rfl ?_)
  refine R_cons rfl (op_pure (p_move rfl) rfl ?_)
  first | refine R_pass rfl rfl rfl rfl ?_ | refine R_pass_undef rfl rfl rfl ?_ | refine R_guard rfl rfl rfl (op_pure (p_move rfl) rfl ?_)
  first | refine R_pass rfl rfl rfl rfl ?_ | refine R_pass_undef rfl rfl rfl ?_ | refine R_guard rfl rfl rfl (op_pure (p_nilCheck rfl) rfl ?_)
  first | refine R_pass rfl rfl rfl rfl ?_ | refine R_pass_undef rfl rfl rfl ?_ | refine R_guard rfl rfl rfl (op_pure (by first | exact p_fieldAddr0 rfl fd_counts_Count_1 | exact p_fieldAddr rfl fd_counts_Count_1) rfl ?_)
  first | refine R_pass rfl rfl rfl rfl ?_ | refine R_pass_undef rfl rfl rfl ?_ | refine R_guard rfl rfl rfl (op_pure (p_load_base rfl sc_disks_Disk hbl (by simp) c1) rfl ?_)
  first | refine R_pass rfl rfl rfl rfl ?_ | refine R_pass_undef rfl rfl rfl ?_ | refine R_guard rfl rfl rfl (op_pure (p_neq_nil rfl rfl ptr_disks_Disk) rfl ?_)
  refine R_cons rfl (op_pure (by first | exact p_pick_yes rfl rfl | exact p_pick_no rfl rfl | exact p_pick rfl rfl rfl) rfl ?_)
  refine R_cons rfl (op_pure (p_assign rfl) rfl ?_)
  refine R_nil ?_
  repeat (first | refine S_scope ?_ | refine S_label ?_ | refine E_noGoto_normal ?_ | refine E_noGoto_ret ?_ | refine E_noGoto_exit ?_ | refine S_yes rfl (by first | with_reducible rfl | decide) ?_ | refine S_no rfl (by first | with_reducible rfl | decide) ?_ | refine S_seq ?_ | refine E_seq ?_ | refine S_block ?_ | refine E_block_normal ?_ | refine S_skip ?_ | refine S_exit ?_ | refine S_ret ?_ | refine E_then_exit ?_ | refine E_then_ret ?_ | refine E_block_ret ?_ | refine E_block_exit ?_ | refine E_block_exit_other rfl ?_)
  exact E_ret1 rfl rfl fun w' hm => ⟨rfl, hm.below⟩
theorem cthere_nil (w : World) : Calls Try.prog 59 [.pointer none].toArray w fun e w' => e = .returned (.bool false) ∧ Below w.heap.size w w' := by
  refine enter Try.func59 rfl Try.ntmps59 (by simp) ?_
  repeat (first | refine S_scope ?_ | refine S_label ?_ | refine E_noGoto_normal ?_ | refine E_noGoto_ret ?_ | refine E_noGoto_exit ?_ | refine S_yes rfl (by first | with_reducible rfl | decide) ?_ | refine S_no rfl (by first | with_reducible rfl | decide) ?_ | refine S_seq ?_ | refine E_seq ?_ | refine S_block ?_ | refine E_block_normal ?_ | refine S_skip ?_ | refine S_exit ?_ | refine S_ret ?_ | refine E_then_exit ?_ | refine E_then_ret ?_ | refine E_block_ret ?_ | refine E_block_exit ?_ | refine E_block_exit_other rfl ?_)
  refine S_region ?_
  refine R_cons rfl (op_pure (p_assign rfl) rfl ?_)
  refine R_nil ?_
  repeat (first | refine S_scope ?_ | refine S_label ?_ | refine E_noGoto_normal ?_ | refine E_noGoto_ret ?_ | refine E_noGoto_exit ?_ | refine S_yes rfl (by first | with_reducible rfl | decide) ?_ | refine S_no rfl (by first | with_reducible rfl | decide) ?_ | refine S_seq ?_ | refine E_seq ?_ | refine S_block ?_ | refine E_block_normal ?_ | refine S_skip ?_ | refine S_exit ?_ | refine S_ret ?_ | refine E_then_exit ?_ | refine E_then_ret ?_ | refine E_block_ret ?_ | refine E_block_exit ?_ | refine E_block_exit_other rfl ?_)
  refine S_region ?_
  refine R_cons rfl (op_pure (p_move rfl) rfl ?_)
  refine R_cons rfl (op_pure (p_neq_nil rfl rfl ptr_counts_Count) rfl ?_)
  refine R_cons rfl (op_pure (p_move rfl) rfl ?_)
  first | refine R_pass rfl rfl rfl rfl ?_ | refine R_pass_undef rfl rfl rfl ?_ | refine R_guard rfl rfl rfl (op_pure (p_move rfl) rfl ?_)
  first | refine R_pass rfl rfl rfl rfl ?_ | refine R_pass_undef rfl rfl rfl ?_ | refine R_guard rfl rfl rfl (op_pure (p_nilCheck rfl) rfl ?_)
  first | refine R_pass rfl rfl rfl rfl ?_ | refine R_pass_undef rfl rfl rfl ?_ | refine R_guard rfl rfl rfl (op_pure (by first | exact p_fieldAddr0 rfl fd_counts_Count_1 | exact p_fieldAddr rfl fd_counts_Count_1) rfl ?_)
  first | refine R_pass rfl rfl rfl rfl ?_ | refine R_pass_undef rfl rfl rfl ?_ | refine R_guard rfl rfl rfl (op_pure (p_load_base rfl sc_disks_Disk hbl (by simp) c1) rfl ?_)
  first | refine R_pass rfl rfl rfl rfl ?_ | refine R_pass_undef rfl rfl rfl ?_ | refine R_guard rfl rfl rfl (op_pure (p_neq_nil rfl rfl ptr_disks_Disk) rfl ?_)
  refine R_cons rfl (op_pure (by first | exact p_pick_yes rfl rfl | exact p_pick_no rfl rfl | exact p_pick rfl rfl rfl) rfl ?_)
  refine R_cons rfl (op_pure (p_assign rfl) rfl ?_)
  refine R_nil ?_
  repeat (first | refine S_scope ?_ | refine S_label ?_ | refine E_noGoto_normal ?_ | refine E_noGoto_ret ?_ | refine E_noGoto_exit ?_ | refine S_yes rfl (by first | with_reducible rfl | decide) ?_ | refine S_no rfl (by first | with_reducible rfl | decide) ?_ | refine S_seq ?_ | refine E_seq ?_ | refine S_block ?_ | refine E_block_normal ?_ | refine S_skip ?_ | refine S_exit ?_ | refine S_ret ?_ | refine E_then_exit ?_ | refine E_then_ret ?_ | refine E_block_ret ?_ | refine E_block_exit ?_ | refine E_block_exit_other rfl ?_)
  exact E_ret1 rfl rfl fun w' hm => ⟨rfl, hm.below⟩

theorem cused_any (bc used bd at_ : Nat) (down : Bool) (w : World) (hb : w.heap[bc]? = some (.cells (cntC used bd at_ down).toArray 103 (0, 0))) :
    Calls Try.prog 22 [.pointer (some ⟨bc, 0, none⟩)].toArray w fun e w' => e = .returned (.int .u32 (used : Int)) ∧ Below w.heap.size w w' := by
  have hbl := (Array.getElem?_eq_some_iff.1 hb).1
  have c0 : w.cell? ⟨bc, 0, none⟩ = some (.int .u32 (used : Int)) := by rw [cell_of_row w bc 0 _ _ _ hb]; rfl
  refine enter Try.func22 rfl Try.ntmps22 (by simp) ?_
  repeat (first | refine S_scope ?_ | refine S_label ?_ | refine E_noGoto_normal ?_ | refine E_noGoto_ret ?_ | refine E_noGoto_exit ?_ | refine S_yes rfl (by first | with_reducible rfl | decide) ?_ | refine S_no rfl (by first | with_reducible rfl | decide) ?_ | refine S_seq ?_ | refine E_seq ?_ | refine S_block ?_ | refine E_block_normal ?_ | refine S_skip ?_ | refine S_exit ?_ | refine S_ret ?_ | refine E_then_exit ?_ | refine E_then_ret ?_ | refine E_block_ret ?_ | refine E_block_exit ?_ | refine E_block_exit_other rfl ?_)
  refine S_region ?_
  refine R_cons rfl (op_pure (p_assign rfl) rfl ?_)
  refine R_nil ?_
  repeat (first | refine S_scope ?_ | refine S_label ?_ | refine E_noGoto_normal ?_ | refine E_noGoto_ret ?_ | refine E_noGoto_exit ?_ | refine S_yes rfl (by first | with_reducible rfl | decide) ?_ | refine S_no rfl (by first | with_reducible rfl | decide) ?_ | refine S_seq ?_ | refine E_seq ?_ | refine S_block ?_ | refine E_block_normal ?_ | refine S_skip ?_ | refine S_exit ?_ | refine S_ret ?_ | refine E_then_exit ?_ | refine E_then_ret ?_ | refine E_block_ret ?_ | refine E_block_exit ?_ | refine E_block_exit_other rfl ?_)
  refine S_region ?_
  refine R_cons rfl (op_pure (p_move rfl) rfl ?_)
  refine R_cons rfl (op_callV rfl rfl Try.func59 rfl (by kernel_rfl) rfl (Nat.le_refl _) (fun w' hm => cthere_any bc used bd at_ down w' (below_block hm.below hb)) ?_)
  refine R_cons rfl (op_pure (p_not rfl) rfl ?_)
  refine R_nil ?_
  repeat (first | refine S_scope ?_ | refine S_label ?_ | refine E_noGoto_normal ?_ | refine E_noGoto_ret ?_ | refine E_noGoto_exit ?_ | refine S_yes rfl (by first | with_reducible rfl | decide) ?_ | refine S_no rfl (by first | with_reducible rfl | decide) ?_ | refine S_seq ?_ | refine E_seq ?_ | refine S_block ?_ | refine E_block_normal ?_ | refine S_skip ?_ | refine S_exit ?_ | refine S_ret ?_ | refine E_then_exit ?_ | refine E_then_ret ?_ | refine E_block_ret ?_ | refine E_block_exit ?_ | refine E_block_exit_other rfl ?_)
  refine S_region ?_
  refine R_cons rfl (op_pure (p_move rfl) rfl ?_)
  refine R_cons rfl (op_pure (p_nilCheck rfl) rfl ?_)
  refine R_cons rfl (op_pure (by first | exact p_fieldAddr0 rfl fd_counts_Count_0 | exact p_fieldAddr rfl fd_counts_Count_0) rfl ?_)
  refine R_cons rfl (op_pure (by first | exact p_fieldAddr0 rfl fd_counts_many_0 | exact p_fieldAddr rfl fd_counts_many_0) rfl ?_)
  refine R_cons rfl (op_pure (p_load_base rfl sc_u32 hbl (by simp) c0) rfl ?_)
  refine R_cons rfl (op_pure (p_assign rfl) rfl ?_)
  refine R_nil ?_
  repeat (first | refine S_scope ?_ | refine S_label ?_ | refine E_noGoto_normal ?_ | refine E_noGoto_ret ?_ | refine E_noGoto_exit ?_ | refine S_yes rfl (by first | with_reducible rfl | decide) ?_ | refine S_no rfl (by first | with_reducible rfl | decide) ?_ | refine S_seq ?_ | refine E_seq ?_ | refine S_block ?_ | refine E_block_normal ?_ | refine S_skip ?_ | refine S_exit ?_ | refine S_ret ?_ | refine E_then_exit ?_ | refine E_then_ret ?_ | refine E_block_ret ?_ | refine E_block_exit ?_ | refine E_block_exit_other rfl ?_)
  exact E_ret1 rfl rfl fun w' hm => ⟨rfl, hm.below⟩
theorem cused_nil (w : World) : Calls Try.prog 22 [.pointer none].toArray w fun e w' => e = .returned (.int .u32 0) ∧ Below w.heap.size w w' := by
  refine enter Try.func22 rfl Try.ntmps22 (by simp) ?_
  repeat (first | refine S_scope ?_ | refine S_label ?_ | refine E_noGoto_normal ?_ | refine E_noGoto_ret ?_ | refine E_noGoto_exit ?_ | refine S_yes rfl (by first | with_reducible rfl | decide) ?_ | refine S_no rfl (by first | with_reducible rfl | decide) ?_ | refine S_seq ?_ | refine E_seq ?_ | refine S_block ?_ | refine E_block_normal ?_ | refine S_skip ?_ | refine S_exit ?_ | refine S_ret ?_ | refine E_then_exit ?_ | refine E_then_ret ?_ | refine E_block_ret ?_ | refine E_block_exit ?_ | refine E_block_exit_other rfl ?_)
  refine S_region ?_
  refine R_cons rfl (op_pure (p_assign rfl) rfl ?_)
  refine R_nil ?_
  repeat (first | refine S_scope ?_ | refine S_label ?_ | refine E_noGoto_normal ?_ | refine E_noGoto_ret ?_ | refine E_noGoto_exit ?_ | refine S_yes rfl (by first | with_reducible rfl | decide) ?_ | refine S_no rfl (by first | with_reducible rfl | decide) ?_ | refine S_seq ?_ | refine E_seq ?_ | refine S_block ?_ | refine E_block_normal ?_ | refine S_skip ?_ | refine S_exit ?_ | refine S_ret ?_ | refine E_then_exit ?_ | refine E_then_ret ?_ | refine E_block_ret ?_ | refine E_block_exit ?_ | refine E_block_exit_other rfl ?_)
  refine S_region ?_
  refine R_cons rfl (op_pure (p_move rfl) rfl ?_)
  refine R_cons rfl (op_callV rfl rfl Try.func59 rfl (by kernel_rfl) rfl (Nat.le_refl _) (fun w' hm => cthere_nil w') ?_)
  refine R_cons rfl (op_pure (p_not rfl) rfl ?_)
  refine R_nil ?_
  repeat (first | refine S_scope ?_ | refine S_label ?_ | refine E_noGoto_normal ?_ | refine E_noGoto_ret ?_ | refine E_noGoto_exit ?_ | refine S_yes rfl (by first | with_reducible rfl | decide) ?_ | refine S_no rfl (by first | with_reducible rfl | decide) ?_ | refine S_seq ?_ | refine E_seq ?_ | refine S_block ?_ | refine E_block_normal ?_ | refine S_skip ?_ | refine S_exit ?_ | refine S_ret ?_ | refine E_then_exit ?_ | refine E_then_ret ?_ | refine E_block_ret ?_ | refine E_block_exit ?_ | refine E_block_exit_other rfl ?_)
  refine S_region ?_
  refine R_cons rfl (op_pure (p_assign rfl) rfl ?_)
  refine R_nil ?_
  repeat (first | refine S_scope ?_ | refine S_label ?_ | refine E_noGoto_normal ?_ | refine E_noGoto_ret ?_ | refine E_noGoto_exit ?_ | refine S_yes rfl (by first | with_reducible rfl | decide) ?_ | refine S_no rfl (by first | with_reducible rfl | decide) ?_ | refine S_seq ?_ | refine E_seq ?_ | refine S_block ?_ | refine E_block_normal ?_ | refine S_skip ?_ | refine S_exit ?_ | refine S_ret ?_ | refine E_then_exit ?_ | refine E_then_ret ?_ | refine E_block_ret ?_ | refine E_block_exit ?_ | refine E_block_exit_other rfl ?_)
  exact E_ret1 rfl rfl fun w' hm => ⟨rfl, hm.below⟩
end Go.Proofs.Ytfdlafjifjndeaa
