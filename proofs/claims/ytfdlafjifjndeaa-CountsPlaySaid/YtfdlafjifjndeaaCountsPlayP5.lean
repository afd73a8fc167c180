/-
  The document's disk: how it stands in memory; whether it may be called; its fuse, its length, a sector read.
-/
import Derived.Test.YtfdlafjifjndeaaCountsPlayP4
namespace Go.Proofs.Ytfdlafjifjndeaa
open Go.RowKit Go.K
attribute [local irreducible] Exit.then Exit.inBlock Exit.noGoto bodyPost Code.wp QL Sx Rx Qx Ex Dx Op1 Pure1 Still1 K.Sub Calm Code.wpIn
set_option linter.unusedVariables false
theorem fd_almonerref05_Disk_0 : FldAt Try.prog 124 0 0 := ⟨_, _, 0, Try.underlying124, rfl, rfl, by kernel_rfl⟩
theorem fd_almonerref05_Disk_1 : FldAt Try.prog 124 1 1 := ⟨_, _, 0, Try.underlying124, rfl, rfl, by kernel_rfl⟩
theorem fd_almonerref05_Disk_2 : FldAt Try.prog 124 2 2 := ⟨_, _, 0, Try.underlying124, rfl, rfl, by kernel_rfl⟩
theorem fd_almonerref05_Disk_3 : FldAt Try.prog 124 3 3 := ⟨_, _, 0, Try.underlying124, rfl, rfl, by kernel_rfl⟩
theorem sc_almonerref05_Disk : Sc Try.prog 68 := ⟨_, Try.underlying68, rfl, by kernel_rfl⟩
theorem row_almonerref05_wait : Row Try.prog 129 2 := ⟨_, Try.underlying129, rfl, by kernel_rfl⟩
theorem elr_almonerref05_wait : ElR Try.prog 129 (.agg (([Value.int .i64 0] ++ ([Value.slice none 0 0]))).toArray) 2 32 := by
  obtain ⟨i, h1, h2, h3, h4⟩ := info_parts (show (Try.prog.info? 129).map (fun i => (i.zero, i.size, i.bytes)) = some (some (.agg (([Value.int .i64 0] ++ ([Value.slice none 0 0]))).toArray), 2, 32) from by kernel_rfl)
  exact ⟨i, h1, h2, h3, h4, rfl⟩
theorem fd_almonerref05_wait_0 : FldAt Try.prog 129 0 0 := ⟨_, _, 0, Try.underlying129, rfl, rfl, by kernel_rfl⟩
theorem fd_almonerref05_wait_1 : FldAt Try.prog 129 1 1 := ⟨_, _, 0, Try.underlying129, rfl, rfl, by kernel_rfl⟩
theorem slr_almonerref05_wait : SlR Try.prog 122 129 2 := ⟨Try.underlying122, row_almonerref05_wait⟩
theorem sc_almonerref05_wait : Sc Try.prog 122 := ⟨_, Try.underlying122, rfl, by kernel_rfl⟩
theorem fd_almonerref22_Count_0 : FldAt Try.prog 126 0 0 := ⟨_, _, 0, Try.underlying126, rfl, rfl, by kernel_rfl⟩
theorem fd_almonerref22_Count_1 : FldAt Try.prog 126 1 1 := ⟨_, _, 0, Try.underlying126, rfl, rfl, by kernel_rfl⟩
theorem fd_almonerref22_Count_2 : FldAt Try.prog 126 2 2 := ⟨_, _, 0, Try.underlying126, rfl, rfl, by kernel_rfl⟩
theorem fd_almonerref22_Count_3 : FldAt Try.prog 126 3 3 := ⟨_, _, 0, Try.underlying126, rfl, rfl, by kernel_rfl⟩
theorem sc_u8ss : Sc Try.prog 121 := ⟨_, Try.underlying121, rfl, by kernel_rfl⟩
theorem elr_u8s : ElR Try.prog 40 (.slice none 0 0) 1 24 := by
  obtain ⟨i, h1, h2, h3, h4⟩ := info_parts (show (Try.prog.info? 40).map (fun i => (i.zero, i.size, i.bytes)) = some (some (.slice none 0 0), 1, 24) from by kernel_rfl)
  exact ⟨i, h1, h2, h3, h4, rfl⟩
/-- a sector of the document's disk, in memory of its own -/
structure RS where
  b : Nat
  c : Nat
  sp : List Value
  x : List UInt8
def RS.val (r : RS) : Value := .slice (some ⟨r.b, 0, none⟩) 64 r.c
def RS.ob (r : RS) : Nat × Obj := (r.b, .cells (bytesV r.x ++ r.sp).toArray 5 (0, 0))
def RS.at_ (w : World) (r : RS) : Prop := w.heap[r.b]? = some (.cells (bytesV r.x ++ r.sp).toArray 5 (0, 0)) ∧ r.x.length = 64
def refC (S L : Value) (left : Int) (bl : Bool) : List Value := [S, L, .int .i64 left, .bool bl]
def rwV (ws : List (Nat × RS)) : List Value := ws.flatMap fun w => [Value.int .i64 (w.1 : Int), w.2.val]
theorem rwV_length (ws : List (Nat × RS)) : (rwV ws).length = ws.length * 2 := flat_length (fun w : Nat × RS => [Value.int .i64 (w.1 : Int), w.2.val]) 2 ws fun _ _ => rfl
theorem rwV_snoc (ws : List (Nat × RS)) (i : Nat) (r : RS) : rwV (ws ++ [(i, r)]) = rwV ws ++ [Value.int .i64 (i : Int), r.val] := by
  unfold rwV
  rw [List.flatMap_append]
  simp
theorem rwV_cell (ws : List (Nat × RS)) (sp : List Value) (j k : Nat) (w : Nat × RS) (h : ws[j]? = some w) (hk : k < 2) : (rwV ws ++ sp)[j * 2 + k]? = [Value.int .i64 (w.1 : Int), w.2.val][k]? := by
  have hj : j < ws.length := (List.getElem?_eq_some_iff.1 h).1
  rw [List.getElem?_append_left (by rw [rwV_length]; omega)]
  exact flat_cell (fun w : Nat × RS => [Value.int .i64 (w.1 : Int), w.2.val]) 2 ws (fun _ _ => rfl) j k w h hk
structure QS where
  br : Nat
  bS : Nat
  cS : Nat
  spS : List Value
  lb : Option (Nat × Nat × List Value)
  su : List RS
  ws : List (Nat × RS)
def lbVal (lb : Option (Nat × Nat × List Value)) (n : Nat) : Value :=
  match lb with
  | none => .slice none 0 0
  | some (b, cap, _) => .slice (some ⟨b, 0, none⟩) n cap
def lbHp (lb : Option (Nat × Nat × List Value)) (ws : List (Nat × RS)) : Hp :=
  match lb with
  | none => []
  | some (b, _, sp) => [(b, .cells (rwV ws ++ sp).toArray 129 (0, 0))]
def lbOk (lb : Option (Nat × Nat × List Value)) (ws : List (Nat × RS)) : Prop :=
  match lb with
  | none => ws = []
  | some (_, cap, sp) => (rwV ws ++ sp).length = cap * 2 ∧ ws.length ≤ cap ∧ cap ≤ maxLen
def QS.row (q : QS) (left : Int) (bl : Bool) : List Value := refC (.slice (some ⟨q.bS, 0, none⟩) 3 q.cS) (lbVal q.lb q.ws.length) left bl
def suV (su : List RS) : List Value := su.map RS.val
def refH (q : QS) (left : Int) (bl : Bool) : Hp := (q.br, .cells (q.row left bl).toArray 124 (0, 0)) :: (q.bS, .cells (suV q.su ++ q.spS).toArray 40 (0, 0)) :: lbHp q.lb q.ws
def RwsOk (ws : List (Nat × RS)) : Prop := ∀ w ∈ ws, w.1 < 3
/-- all that the document's disk reads stands in a world -/
structure QS.at_ (w : World) (q : QS) (left : Int) (bl : Bool) : Prop where
  n3 : q.su.length = 3
  lok : lbOk q.lb q.ws
  wok : RwsOk q.ws
  row : w.heap[q.br]? = some (.cells (q.row left bl).toArray 124 (0, 0))
  sus : w.heap[q.bS]? = some (.cells (suV q.su ++ q.spS).toArray 40 (0, 0))
  lbs : ∀ t, q.lb = some t → w.heap[t.1]? = some (.cells (rwV q.ws ++ t.2.2).toArray 129 (0, 0))
  sua : ∀ r ∈ q.su, r.at_ w
  wsa : ∀ v ∈ q.ws, v.2.at_ w
def QS.sure (q : QS) : List (List UInt8) := q.su.map RS.x
def QS.wss (q : QS) : List (Nat × List UInt8) := q.ws.map fun w => (w.1, w.2.x)
/-- what was written last to a sector -/
def lastR (i : Nat) (r : RS) (ws : List (Nat × RS)) : RS := ws.foldl (fun r w => if w.1 = i then w.2 else r) r
theorem lastR_x (i : Nat) (ws : List (Nat × RS)) : ∀ (l : List (List UInt8)) (r : RS), l[i]? = some r.x → (nowOf l (ws.map fun w => (w.1, w.2.x)))[i]? = some (lastR i r ws).x := by
  unfold nowOf lastR
  induction ws with
  | nil => exact fun l r h => h
  | cons w ws ih =>
    intro l r h
    rw [List.map_cons, List.foldl_cons, List.foldl_cons]
    refine ih _ _ ?_
    dsimp only
    by_cases hw : w.1 = i
    · rw [if_pos hw, hw, List.getElem?_set_self (List.getElem?_eq_some_iff.1 h).1]
    · rw [if_neg hw, List.getElem?_set_ne hw]
      exact h
theorem lastR_mem (i : Nat) (ws : List (Nat × RS)) (P : RS → Prop) (hw : ∀ v ∈ ws, P v.2) : ∀ r, P r → P (lastR i r ws) := by
  unfold lastR
  induction ws with
  | nil => exact fun r h => h
  | cons w ws ih =>
    intro r h
    rw [List.foldl_cons]
    refine ih (fun v hv => hw v (List.mem_cons_of_mem _ hv)) _ ?_
    split
    · exact hw w (List.mem_cons_self ..)
    · exact h
theorem lastR_succ (i : Nat) (r : RS) (ws : List (Nat × RS)) (j : Nat) (w : Nat × RS) (h : ws[j]? = some w) : lastR i r (ws.take (j + 1)) = if w.1 = i then w.2 else lastR i r (ws.take j) := by
  unfold lastR
  rw [List.take_add_one, h, List.foldl_append]
  rfl
attribute [local irreducible] leftS blownS rwV nowOf lastR
theorem rmay (br : Nat) (S L : Value) (left : Int) (bl : Bool) (hlo : -1 ≤ left) (hhi : left ≤ 9223372036854775807) (w : World) (hm : Mem w.heap.size ⟨w, [br]⟩ [(br, .cells (refC S L left bl).toArray 124 (0, 0))] w) :
    Calls Try.prog 71 [.pointer (some ⟨br, 0, none⟩)].toArray w fun e w' => ∃ _ : Unit, e = .returned (.bool (!blownS left bl)) ∧ Mem w.heap.size ⟨w, [br]⟩ [(br, .cells (refC S L (leftS left bl) (blownS left bl)).toArray 124 (0, 0))] w' ∧ True := by
  refine enter_at Try.func71 rfl Try.ntmps71 (by simp) hm ?_
  by_cases h0 : left = 0
  · subst h0
    have hb : blownS 0 bl = true := by unfold blownS; cases bl <;> rfl
    have hl : leftS 0 bl = 0 := by unfold leftS; rw [hb]; rfl
    rw [hb, hl]
    have g1 : ((0 : Int) == 0) = true := rfl
    repeat (first | refine S_scope ?_ | refine S_label ?_ | refine E_noGoto_normal ?_ | refine E_noGoto_ret ?_ | refine E_noGoto_exit ?_ | refine S_yes rfl (by first | with_reducible rfl | decide) ?_ | refine S_no rfl (by first | with_reducible rfl | decide) ?_ | refine S_seq ?_ | refine E_seq ?_ | refine S_block ?_ | refine E_block_normal ?_ | refine S_skip ?_ | refine S_exit ?_ | refine S_ret ?_ | refine E_then_exit ?_ | refine E_then_ret ?_ | refine E_block_ret ?_ | refine E_block_exit ?_ | refine E_block_exit_other rfl ?_)
    refine S_region ?_
    refine R_cons rfl (op_pure (p_assign rfl) rfl ?_)
    refine R_nil ?_
    repeat (first | refine S_scope ?_ | refine S_label ?_ | refine E_noGoto_normal ?_ | refine E_noGoto_ret ?_ | refine E_noGoto_exit ?_ | refine S_yes rfl (by first | with_reducible rfl | decide) ?_ | refine S_no rfl (by first | with_reducible rfl | decide) ?_ | refine S_seq ?_ | refine E_seq ?_ | refine S_block ?_ | refine E_block_normal ?_ | refine S_skip ?_ | refine S_exit ?_ | refine S_ret ?_ | refine E_then_exit ?_ | refine E_then_ret ?_ | refine E_block_ret ?_ | refine E_block_exit ?_ | refine E_block_exit_other rfl ?_)
    refine S_region ?_
    refine R_cons rfl (op_pure (p_move rfl) rfl ?_)
    refine R_cons rfl (op_pure (p_nilCheck rfl) rfl ?_)
    refine R_cons rfl (op_pure (by first | exact p_fieldAddr0 rfl fd_almonerref05_Disk_2 | exact p_fieldAddr rfl fd_almonerref05_Disk_2) rfl ?_)
    refine R_cons rfl (op_pure (p_load rfl sc_int (by repeat (first | exact List.Mem.head _ | apply List.Mem.tail)) (by rfl)) rfl ?_)
    refine R_cons rfl (op_pure (p_bin rfl rfl (b_eql g1)) rfl ?_)
    refine R_nil ?_
    repeat (first | refine S_scope ?_ | refine S_label ?_ | refine E_noGoto_normal ?_ | refine E_noGoto_ret ?_ | refine E_noGoto_exit ?_ | refine S_yes rfl (by first | with_reducible rfl | decide) ?_ | refine S_no rfl (by first | with_reducible rfl | decide) ?_ | refine S_seq ?_ | refine E_seq ?_ | refine S_block ?_ | refine E_block_normal ?_ | refine S_skip ?_ | refine S_exit ?_ | refine S_ret ?_ | refine E_then_exit ?_ | refine E_then_ret ?_ | refine E_block_ret ?_ | refine E_block_exit ?_ | refine E_block_exit_other rfl ?_)
    refine S_region ?_
    refine R_cons rfl (op_pure (p_move rfl) rfl ?_)
    refine R_cons rfl (op_pure (p_nilCheck rfl) rfl ?_)
    refine R_cons rfl (op_pure (by first | exact p_fieldAddr0 rfl fd_almonerref05_Disk_3 | exact p_fieldAddr rfl fd_almonerref05_Disk_3) rfl ?_)
    refine R_cons rfl (op_store rfl rfl rfl sc_bool (by repeat (first | exact At.here | apply At.there)) (by exact Nat.le_of_ble_eq_true rfl) ?_)
    refine R_nil ?_
    repeat (first | refine S_scope ?_ | refine S_label ?_ | refine E_noGoto_normal ?_ | refine E_noGoto_ret ?_ | refine E_noGoto_exit ?_ | refine S_yes rfl (by first | with_reducible rfl | decide) ?_ | refine S_no rfl (by first | with_reducible rfl | decide) ?_ | refine S_seq ?_ | refine E_seq ?_ | refine S_block ?_ | refine E_block_normal ?_ | refine S_skip ?_ | refine S_exit ?_ | refine S_ret ?_ | refine E_then_exit ?_ | refine E_then_ret ?_ | refine E_block_ret ?_ | refine E_block_exit ?_ | refine E_block_exit_other rfl ?_)
    refine S_region ?_
    refine R_cons rfl (op_pure (p_move rfl) rfl ?_)
    refine R_cons rfl (op_pure (p_nilCheck rfl) rfl ?_)
    refine R_cons rfl (op_pure (by first | exact p_fieldAddr0 rfl fd_almonerref05_Disk_3 | exact p_fieldAddr rfl fd_almonerref05_Disk_3) rfl ?_)
    refine R_cons rfl (op_pure (p_load rfl sc_bool (by repeat (first | exact List.Mem.head _ | apply List.Mem.tail)) (by rfl)) rfl ?_)
    refine R_nil ?_
    repeat (first | refine S_scope ?_ | refine S_label ?_ | refine E_noGoto_normal ?_ | refine E_noGoto_ret ?_ | refine E_noGoto_exit ?_ | refine S_yes rfl (by first | with_reducible rfl | decide) ?_ | refine S_no rfl (by first | with_reducible rfl | decide) ?_ | refine S_seq ?_ | refine E_seq ?_ | refine S_block ?_ | refine E_block_normal ?_ | refine S_skip ?_ | refine S_exit ?_ | refine S_ret ?_ | refine E_then_exit ?_ | refine E_then_ret ?_ | refine E_block_ret ?_ | refine E_block_exit ?_ | refine E_block_exit_other rfl ?_)
    refine S_region ?_
    refine R_cons rfl (op_pure (p_assign rfl) rfl ?_)
    refine R_nil ?_
    repeat (first | refine S_scope ?_ | refine S_label ?_ | refine E_noGoto_normal ?_ | refine E_noGoto_ret ?_ | refine E_noGoto_exit ?_ | refine S_yes rfl (by first | with_reducible rfl | decide) ?_ | refine S_no rfl (by first | with_reducible rfl | decide) ?_ | refine S_seq ?_ | refine E_seq ?_ | refine S_block ?_ | refine E_block_normal ?_ | refine S_skip ?_ | refine S_exit ?_ | refine S_ret ?_ | refine E_then_exit ?_ | refine E_then_ret ?_ | refine E_block_ret ?_ | refine E_block_exit ?_ | refine E_block_exit_other rfl ?_)
    exact E_ret1 rfl rfl fun w' hm => ⟨(), rfl, hm, trivial⟩
  have g1 : (left == 0) = false := beq_eq_false_iff_ne.2 h0
  cases bl with
  | true =>
    have hb : blownS left true = true := by unfold blownS; rfl
    have hl : leftS left true = left := by unfold leftS; rw [hb]; rfl
    rw [hb, hl]
    repeat (first | refine S_scope ?_ | refine S_label ?_ | refine E_noGoto_normal ?_ | refine E_noGoto_ret ?_ | refine E_noGoto_exit ?_ | refine S_yes rfl (by first | with_reducible rfl | decide) ?_ | refine S_no rfl (by first | with_reducible rfl | decide) ?_ | refine S_seq ?_ | refine E_seq ?_ | refine S_block ?_ | refine E_block_normal ?_ | refine S_skip ?_ | refine S_exit ?_ | refine S_ret ?_ | refine E_then_exit ?_ | refine E_then_ret ?_ | refine E_block_ret ?_ | refine E_block_exit ?_ | refine E_block_exit_other rfl ?_)
    refine S_region ?_
    refine R_cons rfl (op_pure (p_assign rfl) rfl ?_)
    refine R_nil ?_
    repeat (first | refine S_scope ?_ | refine S_label ?_ | refine E_noGoto_normal ?_ | refine E_noGoto_ret ?_ | refine E_noGoto_exit ?_ | refine S_yes rfl (by first | with_reducible rfl | decide) ?_ | refine S_no rfl (by first | with_reducible rfl | decide) ?_ | refine S_seq ?_ | refine E_seq ?_ | refine S_block ?_ | refine E_block_normal ?_ | refine S_skip ?_ | refine S_exit ?_ | refine S_ret ?_ | refine E_then_exit ?_ | refine E_then_ret ?_ | refine E_block_ret ?_ | refine E_block_exit ?_ | refine E_block_exit_other rfl ?_)
    refine S_region ?_
    refine R_cons rfl (op_pure (p_move rfl) rfl ?_)
    refine R_cons rfl (op_pure (p_nilCheck rfl) rfl ?_)
    refine R_cons rfl (op_pure (by first | exact p_fieldAddr0 rfl fd_almonerref05_Disk_2 | exact p_fieldAddr rfl fd_almonerref05_Disk_2) rfl ?_)
    refine R_cons rfl (op_pure (p_load rfl sc_int (by repeat (first | exact List.Mem.head _ | apply List.Mem.tail)) (by rfl)) rfl ?_)
    refine R_cons rfl (op_pure (p_bin rfl rfl (b_eql g1)) rfl ?_)
    refine R_nil ?_
    repeat (first | refine S_scope ?_ | refine S_label ?_ | refine E_noGoto_normal ?_ | refine E_noGoto_ret ?_ | refine E_noGoto_exit ?_ | refine S_yes rfl (by first | with_reducible rfl | decide) ?_ | refine S_no rfl (by first | with_reducible rfl | decide) ?_ | refine S_seq ?_ | refine E_seq ?_ | refine S_block ?_ | refine E_block_normal ?_ | refine S_skip ?_ | refine S_exit ?_ | refine S_ret ?_ | refine E_then_exit ?_ | refine E_then_ret ?_ | refine E_block_ret ?_ | refine E_block_exit ?_ | refine E_block_exit_other rfl ?_)
    refine S_region ?_
    refine R_cons rfl (op_pure (p_move rfl) rfl ?_)
    refine R_cons rfl (op_pure (p_nilCheck rfl) rfl ?_)
    refine R_cons rfl (op_pure (by first | exact p_fieldAddr0 rfl fd_almonerref05_Disk_3 | exact p_fieldAddr rfl fd_almonerref05_Disk_3) rfl ?_)
    refine R_cons rfl (op_pure (p_load rfl sc_bool (by repeat (first | exact List.Mem.head _ | apply List.Mem.tail)) (by rfl)) rfl ?_)
    refine R_nil ?_
    repeat (first | refine S_scope ?_ | refine S_label ?_ | refine E_noGoto_normal ?_ | refine E_noGoto_ret ?_ | refine E_noGoto_exit ?_ | refine S_yes rfl (by first | with_reducible rfl | decide) ?_ | refine S_no rfl (by first | with_reducible rfl | decide) ?_ | refine S_seq ?_ | refine E_seq ?_ | refine S_block ?_ | refine E_block_normal ?_ | refine S_skip ?_ | refine S_exit ?_ | refine S_ret ?_ | refine E_then_exit ?_ | refine E_then_ret ?_ | refine E_block_ret ?_ | refine E_block_exit ?_ | refine E_block_exit_other rfl ?_)
    refine S_region ?_
    refine R_cons rfl (op_pure (p_assign rfl) rfl ?_)
    refine R_nil ?_
    repeat (first | refine S_scope ?_ | refine S_label ?_ | refine E_noGoto_normal ?_ | refine E_noGoto_ret ?_ | refine E_noGoto_exit ?_ | refine S_yes rfl (by first | with_reducible rfl | decide) ?_ | refine S_no rfl (by first | with_reducible rfl | decide) ?_ | refine S_seq ?_ | refine E_seq ?_ | refine S_block ?_ | refine E_block_normal ?_ | refine S_skip ?_ | refine S_exit ?_ | refine S_ret ?_ | refine E_then_exit ?_ | refine E_then_ret ?_ | refine E_block_ret ?_ | refine E_block_exit ?_ | refine E_block_exit_other rfl ?_)
    exact E_ret1 rfl rfl fun w' hm => ⟨(), rfl, hm, trivial⟩
  | false =>
    have hb : blownS left false = false := by unfold blownS; rw [g1]; rfl
    by_cases hp : 0 < left
    · have hl : leftS left false = left - 1 := by unfold leftS; rw [hb, if_pos (by rw [decide_eq_true hp]; rfl)]
      rw [hb, hl]
      have g2 : decide (0 < left) = true := decide_eq_true hp
      have hsub : IntKind.i64.wrap (left - 1) = left - 1 := w_in_i64 (by omega)
      repeat (first | refine S_scope ?_ | refine S_label ?_ | refine E_noGoto_normal ?_ | refine E_noGoto_ret ?_ | refine E_noGoto_exit ?_ | refine S_yes rfl (by first | with_reducible rfl | decide) ?_ | refine S_no rfl (by first | with_reducible rfl | decide) ?_ | refine S_seq ?_ | refine E_seq ?_ | refine S_block ?_ | refine E_block_normal ?_ | refine S_skip ?_ | refine S_exit ?_ | refine S_ret ?_ | refine E_then_exit ?_ | refine E_then_ret ?_ | refine E_block_ret ?_ | refine E_block_exit ?_ | refine E_block_exit_other rfl ?_)
      refine S_region ?_
      refine R_cons rfl (op_pure (p_assign rfl) rfl ?_)
      refine R_nil ?_
      repeat (first | refine S_scope ?_ | refine S_label ?_ | refine E_noGoto_normal ?_ | refine E_noGoto_ret ?_ | refine E_noGoto_exit ?_ | refine S_yes rfl (by first | with_reducible rfl | decide) ?_ | refine S_no rfl (by first | with_reducible rfl | decide) ?_ | refine S_seq ?_ | refine E_seq ?_ | refine S_block ?_ | refine E_block_normal ?_ | refine S_skip ?_ | refine S_exit ?_ | refine S_ret ?_ | refine E_then_exit ?_ | refine E_then_ret ?_ | refine E_block_ret ?_ | refine E_block_exit ?_ | refine E_block_exit_other rfl ?_)
      refine S_region ?_
      refine R_cons rfl (op_pure (p_move rfl) rfl ?_)
      refine R_cons rfl (op_pure (p_nilCheck rfl) rfl ?_)
      refine R_cons rfl (op_pure (by first | exact p_fieldAddr0 rfl fd_almonerref05_Disk_2 | exact p_fieldAddr rfl fd_almonerref05_Disk_2) rfl ?_)
      refine R_cons rfl (op_pure (p_load rfl sc_int (by repeat (first | exact List.Mem.head _ | apply List.Mem.tail)) (by rfl)) rfl ?_)
      refine R_cons rfl (op_pure (p_bin rfl rfl (b_eql g1)) rfl ?_)
      refine R_nil ?_
      repeat (first | refine S_scope ?_ | refine S_label ?_ | refine E_noGoto_normal ?_ | refine E_noGoto_ret ?_ | refine E_noGoto_exit ?_ | refine S_yes rfl (by first | with_reducible rfl | decide) ?_ | refine S_no rfl (by first | with_reducible rfl | decide) ?_ | refine S_seq ?_ | refine E_seq ?_ | refine S_block ?_ | refine E_block_normal ?_ | refine S_skip ?_ | refine S_exit ?_ | refine S_ret ?_ | refine E_then_exit ?_ | refine E_then_ret ?_ | refine E_block_ret ?_ | refine E_block_exit ?_ | refine E_block_exit_other rfl ?_)
      refine S_region ?_
      refine R_cons rfl (op_pure (p_move rfl) rfl ?_)
      refine R_cons rfl (op_pure (p_nilCheck rfl) rfl ?_)
      refine R_cons rfl (op_pure (by first | exact p_fieldAddr0 rfl fd_almonerref05_Disk_3 | exact p_fieldAddr rfl fd_almonerref05_Disk_3) rfl ?_)
      refine R_cons rfl (op_pure (p_load rfl sc_bool (by repeat (first | exact List.Mem.head _ | apply List.Mem.tail)) (by rfl)) rfl ?_)
      refine R_nil ?_
      repeat (first | refine S_scope ?_ | refine S_label ?_ | refine E_noGoto_normal ?_ | refine E_noGoto_ret ?_ | refine E_noGoto_exit ?_ | refine S_yes rfl (by first | with_reducible rfl | decide) ?_ | refine S_no rfl (by first | with_reducible rfl | decide) ?_ | refine S_seq ?_ | refine E_seq ?_ | refine S_block ?_ | refine E_block_normal ?_ | refine S_skip ?_ | refine S_exit ?_ | refine S_ret ?_ | refine E_then_exit ?_ | refine E_then_ret ?_ | refine E_block_ret ?_ | refine E_block_exit ?_ | refine E_block_exit_other rfl ?_)
      refine S_region ?_
      refine R_cons rfl (op_pure (p_move rfl) rfl ?_)
      refine R_cons rfl (op_pure (p_nilCheck rfl) rfl ?_)
      refine R_cons rfl (op_pure (by first | exact p_fieldAddr0 rfl fd_almonerref05_Disk_2 | exact p_fieldAddr rfl fd_almonerref05_Disk_2) rfl ?_)
      refine R_cons rfl (op_pure (p_load rfl sc_int (by repeat (first | exact List.Mem.head _ | apply List.Mem.tail)) (by rfl)) rfl ?_)
      refine R_cons rfl (op_pure (p_bin rfl rfl (b_gtr g2)) rfl ?_)
      refine R_nil ?_
      repeat (first | refine S_scope ?_ | refine S_label ?_ | refine E_noGoto_normal ?_ | refine E_noGoto_ret ?_ | refine E_noGoto_exit ?_ | refine S_yes rfl (by first | with_reducible rfl | decide) ?_ | refine S_no rfl (by first | with_reducible rfl | decide) ?_ | refine S_seq ?_ | refine E_seq ?_ | refine S_block ?_ | refine E_block_normal ?_ | refine S_skip ?_ | refine S_exit ?_ | refine S_ret ?_ | refine E_then_exit ?_ | refine E_then_ret ?_ | refine E_block_ret ?_ | refine E_block_exit ?_ | refine E_block_exit_other rfl ?_)
      refine S_region ?_
      refine R_cons rfl (op_pure (p_move rfl) rfl ?_)
      refine R_cons rfl (op_pure (p_nilCheck rfl) rfl ?_)
      refine R_cons rfl (op_pure (by first | exact p_fieldAddr0 rfl fd_almonerref05_Disk_2 | exact p_fieldAddr rfl fd_almonerref05_Disk_2) rfl ?_)
      refine R_cons rfl (op_pure (p_load rfl sc_int (by repeat (first | exact List.Mem.head _ | apply List.Mem.tail)) (by rfl)) rfl ?_)
      refine R_cons rfl (op_pure (p_bin rfl rfl (b_sub hsub)) rfl ?_)
      refine R_cons rfl (op_pure (p_nilCheck rfl) rfl ?_)
      refine R_cons rfl (op_pure (by first | exact p_fieldAddr0 rfl fd_almonerref05_Disk_2 | exact p_fieldAddr rfl fd_almonerref05_Disk_2) rfl ?_)
      refine R_cons rfl (op_store rfl rfl rfl sc_int (by repeat (first | exact At.here | apply At.there)) (by exact Nat.le_of_ble_eq_true rfl) ?_)
      refine R_nil ?_
      repeat (first | refine S_scope ?_ | refine S_label ?_ | refine E_noGoto_normal ?_ | refine E_noGoto_ret ?_ | refine E_noGoto_exit ?_ | refine S_yes rfl (by first | with_reducible rfl | decide) ?_ | refine S_no rfl (by first | with_reducible rfl | decide) ?_ | refine S_seq ?_ | refine E_seq ?_ | refine S_block ?_ | refine E_block_normal ?_ | refine S_skip ?_ | refine S_exit ?_ | refine S_ret ?_ | refine E_then_exit ?_ | refine E_then_ret ?_ | refine E_block_ret ?_ | refine E_block_exit ?_ | refine E_block_exit_other rfl ?_)
      refine S_region ?_
      refine R_cons rfl (op_pure (p_assign rfl) rfl ?_)
      refine R_nil ?_
      repeat (first | refine S_scope ?_ | refine S_label ?_ | refine E_noGoto_normal ?_ | refine E_noGoto_ret ?_ | refine E_noGoto_exit ?_ | refine S_yes rfl (by first | with_reducible rfl | decide) ?_ | refine S_no rfl (by first | with_reducible rfl | decide) ?_ | refine S_seq ?_ | refine E_seq ?_ | refine S_block ?_ | refine E_block_normal ?_ | refine S_skip ?_ | refine S_exit ?_ | refine S_ret ?_ | refine E_then_exit ?_ | refine E_then_ret ?_ | refine E_block_ret ?_ | refine E_block_exit ?_ | refine E_block_exit_other rfl ?_)
      exact E_ret1 rfl rfl fun w' hm => ⟨(), rfl, hm, trivial⟩
    · have g2 : decide (0 < left) = false := decide_eq_false hp
      have hl : leftS left false = left := by unfold leftS; rw [hb, if_neg (by rw [g2]; decide)]
      rw [hb, hl]
      repeat (first | refine S_scope ?_ | refine S_label ?_ | refine E_noGoto_normal ?_ | refine E_noGoto_ret ?_ | refine E_noGoto_exit ?_ | refine S_yes rfl (by first | with_reducible rfl | decide) ?_ | refine S_no rfl (by first | with_reducible rfl | decide) ?_ | refine S_seq ?_ | refine E_seq ?_ | refine S_block ?_ | refine E_block_normal ?_ | refine S_skip ?_ | refine S_exit ?_ | refine S_ret ?_ | refine E_then_exit ?_ | refine E_then_ret ?_ | refine E_block_ret ?_ | refine E_block_exit ?_ | refine E_block_exit_other rfl ?_)
      refine S_region ?_
      refine R_cons rfl (op_pure (p_assign rfl) rfl ?_)
      refine R_nil ?_
      repeat (first | refine S_scope ?_ | refine S_label ?_ | refine E_noGoto_normal ?_ | refine E_noGoto_ret ?_ | refine E_noGoto_exit ?_ | refine S_yes rfl (by first | with_reducible rfl | decide) ?_ | refine S_no rfl (by first | with_reducible rfl | decide) ?_ | refine S_seq ?_ | refine E_seq ?_ | refine S_block ?_ | refine E_block_normal ?_ | refine S_skip ?_ | refine S_exit ?_ | refine S_ret ?_ | refine E_then_exit ?_ | refine E_then_ret ?_ | refine E_block_ret ?_ | refine E_block_exit ?_ | refine E_block_exit_other rfl ?_)
      refine S_region ?_
      refine R_cons rfl (op_pure (p_move rfl) rfl ?_)
      refine R_cons rfl (op_pure (p_nilCheck rfl) rfl ?_)
      refine R_cons rfl (op_pure (by first | exact p_fieldAddr0 rfl fd_almonerref05_Disk_2 | exact p_fieldAddr rfl fd_almonerref05_Disk_2) rfl ?_)
      refine R_cons rfl (op_pure (p_load rfl sc_int (by repeat (first | exact List.Mem.head _ | apply List.Mem.tail)) (by rfl)) rfl ?_)
      refine R_cons rfl (op_pure (p_bin rfl rfl (b_eql g1)) rfl ?_)
      refine R_nil ?_
      repeat (first | refine S_scope ?_ | refine S_label ?_ | refine E_noGoto_normal ?_ | refine E_noGoto_ret ?_ | refine E_noGoto_exit ?_ | refine S_yes rfl (by first | with_reducible rfl | decide) ?_ | refine S_no rfl (by first | with_reducible rfl | decide) ?_ | refine S_seq ?_ | refine E_seq ?_ | refine S_block ?_ | refine E_block_normal ?_ | refine S_skip ?_ | refine S_exit ?_ | refine S_ret ?_ | refine E_then_exit ?_ | refine E_then_ret ?_ | refine E_block_ret ?_ | refine E_block_exit ?_ | refine E_block_exit_other rfl ?_)
      refine S_region ?_
      refine R_cons rfl (op_pure (p_move rfl) rfl ?_)
      refine R_cons rfl (op_pure (p_nilCheck rfl) rfl ?_)
      refine R_cons rfl (op_pure (by first | exact p_fieldAddr0 rfl fd_almonerref05_Disk_3 | exact p_fieldAddr rfl fd_almonerref05_Disk_3) rfl ?_)
      refine R_cons rfl (op_pure (p_load rfl sc_bool (by repeat (first | exact List.Mem.head _ | apply List.Mem.tail)) (by rfl)) rfl ?_)
      refine R_nil ?_
      repeat (first | refine S_scope ?_ | refine S_label ?_ | refine E_noGoto_normal ?_ | refine E_noGoto_ret ?_ | refine E_noGoto_exit ?_ | refine S_yes rfl (by first | with_reducible rfl | decide) ?_ | refine S_no rfl (by first | with_reducible rfl | decide) ?_ | refine S_seq ?_ | refine E_seq ?_ | refine S_block ?_ | refine E_block_normal ?_ | refine S_skip ?_ | refine S_exit ?_ | refine S_ret ?_ | refine E_then_exit ?_ | refine E_then_ret ?_ | refine E_block_ret ?_ | refine E_block_exit ?_ | refine E_block_exit_other rfl ?_)
      refine S_region ?_
      refine R_cons rfl (op_pure (p_move rfl) rfl ?_)
      refine R_cons rfl (op_pure (p_nilCheck rfl) rfl ?_)
      refine R_cons rfl (op_pure (by first | exact p_fieldAddr0 rfl fd_almonerref05_Disk_2 | exact p_fieldAddr rfl fd_almonerref05_Disk_2) rfl ?_)
      refine R_cons rfl (op_pure (p_load rfl sc_int (by repeat (first | exact List.Mem.head _ | apply List.Mem.tail)) (by rfl)) rfl ?_)
      refine R_cons rfl (op_pure (p_bin rfl rfl (b_gtr g2)) rfl ?_)
      refine R_nil ?_
      repeat (first | refine S_scope ?_ | refine S_label ?_ | refine E_noGoto_normal ?_ | refine E_noGoto_ret ?_ | refine E_noGoto_exit ?_ | refine S_yes rfl (by first | with_reducible rfl | decide) ?_ | refine S_no rfl (by first | with_reducible rfl | decide) ?_ | refine S_seq ?_ | refine E_seq ?_ | refine S_block ?_ | refine E_block_normal ?_ | refine S_skip ?_ | refine S_exit ?_ | refine S_ret ?_ | refine E_then_exit ?_ | refine E_then_ret ?_ | refine E_block_ret ?_ | refine E_block_exit ?_ | refine E_block_exit_other rfl ?_)
      refine S_region ?_
      refine R_cons rfl (op_pure (p_assign rfl) rfl ?_)
      refine R_nil ?_
      repeat (first | refine S_scope ?_ | refine S_label ?_ | refine E_noGoto_normal ?_ | refine E_noGoto_ret ?_ | refine E_noGoto_exit ?_ | refine S_yes rfl (by first | with_reducible rfl | decide) ?_ | refine S_no rfl (by first | with_reducible rfl | decide) ?_ | refine S_seq ?_ | refine E_seq ?_ | refine S_block ?_ | refine E_block_normal ?_ | refine S_skip ?_ | refine S_exit ?_ | refine S_ret ?_ | refine E_then_exit ?_ | refine E_then_ret ?_ | refine E_block_ret ?_ | refine E_block_exit ?_ | refine E_block_exit_other rfl ?_)
      exact E_ret1 rfl rfl fun w' hm => ⟨(), rfl, hm, trivial⟩
theorem rfuse (br : Nat) (S L : Value) (left : Int) (bl : Bool) (n : Int) (w : World) (hm : Mem w.heap.size ⟨w, [br]⟩ [(br, .cells (refC S L left bl).toArray 124 (0, 0))] w) :
    Calls Try.prog 29 [.pointer (some ⟨br, 0, none⟩), .int .i64 n].toArray w fun e w' => ∃ _ : Unit, e = .returned (.int .i64 0) ∧ Mem w.heap.size ⟨w, [br]⟩ [(br, .cells (refC S L (max (-1) n) false).toArray 124 (0, 0))] w' ∧ True := by
  have hmx : (if (-1 : Int) < n then n else -1) = max (-1) n := by
    by_cases h : (-1 : Int) < n
    · rw [if_pos h, Int.max_eq_right (by omega)]
    · rw [if_neg h, Int.max_eq_left (by omega)]
  refine enter_at Try.func29 rfl Try.ntmps29 (by simp) hm ?_
  repeat (first | refine S_scope ?_ | refine S_label ?_ | refine E_noGoto_normal ?_ | refine E_noGoto_ret ?_ | refine E_noGoto_exit ?_ | refine S_yes rfl (by first | with_reducible rfl | decide) ?_ | refine S_no rfl (by first | with_reducible rfl | decide) ?_ | refine S_seq ?_ | refine E_seq ?_ | refine S_block ?_ | refine E_block_normal ?_ | refine S_skip ?_ | refine S_exit ?_ | refine S_ret ?_ | refine E_then_exit ?_ | refine E_then_ret ?_ | refine E_block_ret ?_ | refine E_block_exit ?_ | refine E_block_exit_other rfl ?_)
  refine S_region ?_
  refine R_cons rfl (op_pure (p_assign rfl) rfl ?_)
  refine R_nil ?_
  repeat (first | refine S_scope ?_ | refine S_label ?_ | refine E_noGoto_normal ?_ | refine E_noGoto_ret ?_ | refine E_noGoto_exit ?_ | refine S_yes rfl (by first | with_reducible rfl | decide) ?_ | refine S_no rfl (by first | with_reducible rfl | decide) ?_ | refine S_seq ?_ | refine E_seq ?_ | refine S_block ?_ | refine E_block_normal ?_ | refine S_skip ?_ | refine S_exit ?_ | refine S_ret ?_ | refine E_then_exit ?_ | refine E_then_ret ?_ | refine E_block_ret ?_ | refine E_block_exit ?_ | refine E_block_exit_other rfl ?_)
  refine S_region ?_
  refine R_cons rfl (op_pure (p_move rfl) rfl ?_)
  refine R_cons rfl (op_pure (p_move rfl) rfl ?_)
  refine R_cons rfl (op_pure (p_max2 rfl rfl hmx) rfl ?_)
  refine R_cons rfl (op_pure (p_nilCheck rfl) rfl ?_)
  refine R_cons rfl (op_pure (by first | exact p_fieldAddr0 rfl fd_almonerref05_Disk_2 | exact p_fieldAddr rfl fd_almonerref05_Disk_2) rfl ?_)
  refine R_cons rfl (op_store rfl rfl rfl sc_int (by repeat (first | exact At.here | apply At.there)) (by exact Nat.le_of_ble_eq_true rfl) ?_)
  refine R_nil ?_
  repeat (first | refine S_scope ?_ | refine S_label ?_ | refine E_noGoto_normal ?_ | refine E_noGoto_ret ?_ | refine E_noGoto_exit ?_ | refine S_yes rfl (by first | with_reducible rfl | decide) ?_ | refine S_no rfl (by first | with_reducible rfl | decide) ?_ | refine S_seq ?_ | refine E_seq ?_ | refine S_block ?_ | refine E_block_normal ?_ | refine S_skip ?_ | refine S_exit ?_ | refine S_ret ?_ | refine E_then_exit ?_ | refine E_then_ret ?_ | refine E_block_ret ?_ | refine E_block_exit ?_ | refine E_block_exit_other rfl ?_)
  refine S_region ?_
  refine R_cons rfl (op_pure (p_move rfl) rfl ?_)
  refine R_cons rfl (op_pure (p_nilCheck rfl) rfl ?_)
  refine R_cons rfl (op_pure (by first | exact p_fieldAddr0 rfl fd_almonerref05_Disk_3 | exact p_fieldAddr rfl fd_almonerref05_Disk_3) rfl ?_)
  refine R_cons rfl (op_store rfl rfl rfl sc_bool (by repeat (first | exact At.here | apply At.there)) (by exact Nat.le_of_ble_eq_true rfl) ?_)
  refine R_nil ?_
  repeat (first | refine S_scope ?_ | refine S_label ?_ | refine E_noGoto_normal ?_ | refine E_noGoto_ret ?_ | refine E_noGoto_exit ?_ | refine S_yes rfl (by first | with_reducible rfl | decide) ?_ | refine S_no rfl (by first | with_reducible rfl | decide) ?_ | refine S_seq ?_ | refine E_seq ?_ | refine S_block ?_ | refine E_block_normal ?_ | refine S_skip ?_ | refine S_exit ?_ | refine S_ret ?_ | refine E_then_exit ?_ | refine E_then_ret ?_ | refine E_block_ret ?_ | refine E_block_exit ?_ | refine E_block_exit_other rfl ?_)
  refine S_region ?_
  refine R_cons rfl (op_pure (p_assign rfl) rfl ?_)
  refine R_nil ?_
  repeat (first | refine S_scope ?_ | refine S_label ?_ | refine E_noGoto_normal ?_ | refine E_noGoto_ret ?_ | refine E_noGoto_exit ?_ | refine S_yes rfl (by first | with_reducible rfl | decide) ?_ | refine S_no rfl (by first | with_reducible rfl | decide) ?_ | refine S_seq ?_ | refine E_seq ?_ | refine S_block ?_ | refine E_block_normal ?_ | refine S_skip ?_ | refine S_exit ?_ | refine S_ret ?_ | refine E_then_exit ?_ | refine E_then_ret ?_ | refine E_block_ret ?_ | refine E_block_exit ?_ | refine E_block_exit_other rfl ?_)
  exact E_ret1 rfl rfl fun w' hm => ⟨(), rfl, hm, trivial⟩
theorem rlen (br : Nat) (S : Option Addr) (cS : Nat) (L : Value) (left : Int) (bl : Bool) (w : World) (hb : w.heap[br]? = some (.cells (refC (.slice S 3 cS) L left bl).toArray 124 (0, 0))) :
    Calls Try.prog 65 [.pointer (some ⟨br, 0, none⟩)].toArray w fun e w' => e = .returned (.int .i64 3) ∧ Below w.heap.size w w' := by
  have hbl := (Array.getElem?_eq_some_iff.1 hb).1
  have c0 : w.cell? ⟨br, 0, none⟩ = some (.slice S 3 cS) := by rw [cell_of_row w br 0 _ _ _ hb]; rfl
  refine enter Try.func65 rfl Try.ntmps65 (by simp) ?_
  repeat (first | refine S_scope ?_ | refine S_label ?_ | refine E_noGoto_normal ?_ | refine E_noGoto_ret ?_ | refine E_noGoto_exit ?_ | refine S_yes rfl (by first | with_reducible rfl | decide) ?_ | refine S_no rfl (by first | with_reducible rfl | decide) ?_ | refine S_seq ?_ | refine E_seq ?_ | refine S_block ?_ | refine E_block_normal ?_ | refine S_skip ?_ | refine S_exit ?_ | refine S_ret ?_ | refine E_then_exit ?_ | refine E_then_ret ?_ | refine E_block_ret ?_ | refine E_block_exit ?_ | refine E_block_exit_other rfl ?_)
  refine S_region ?_
  refine R_cons rfl (op_pure (p_assign rfl) rfl ?_)
  refine R_nil ?_
  repeat (first | refine S_scope ?_ | refine S_label ?_ | refine E_noGoto_normal ?_ | refine E_noGoto_ret ?_ | refine E_noGoto_exit ?_ | refine S_yes rfl (by first | with_reducible rfl | decide) ?_ | refine S_no rfl (by first | with_reducible rfl | decide) ?_ | refine S_seq ?_ | refine E_seq ?_ | refine S_block ?_ | refine E_block_normal ?_ | refine S_skip ?_ | refine S_exit ?_ | refine S_ret ?_ | refine E_then_exit ?_ | refine E_then_ret ?_ | refine E_block_ret ?_ | refine E_block_exit ?_ | refine E_block_exit_other rfl ?_)
  refine S_region ?_
  refine R_cons rfl (op_pure (p_move rfl) rfl ?_)
  refine R_cons rfl (op_pure (p_nilCheck rfl) rfl ?_)
  refine R_cons rfl (op_pure (by first | exact p_fieldAddr0 rfl fd_almonerref05_Disk_0 | exact p_fieldAddr rfl fd_almonerref05_Disk_0) rfl ?_)
  refine R_cons rfl (op_pure (p_load_base rfl sc_u8ss hbl (by simp) c0) rfl ?_)
  refine R_cons rfl (op_pure (p_len rfl slc_u8ss) rfl ?_)
  refine R_cons rfl (op_pure (p_assign rfl) rfl ?_)
  refine R_nil ?_
  repeat (first | refine S_scope ?_ | refine S_label ?_ | refine E_noGoto_normal ?_ | refine E_noGoto_ret ?_ | refine E_noGoto_exit ?_ | refine S_yes rfl (by first | with_reducible rfl | decide) ?_ | refine S_no rfl (by first | with_reducible rfl | decide) ?_ | refine S_seq ?_ | refine E_seq ?_ | refine S_block ?_ | refine E_block_normal ?_ | refine S_skip ?_ | refine S_exit ?_ | refine S_ret ?_ | refine E_then_exit ?_ | refine E_then_ret ?_ | refine E_block_ret ?_ | refine E_block_exit ?_ | refine E_block_exit_other rfl ?_)
  exact E_ret1 rfl rfl fun w' hm => ⟨rfl, hm.below⟩
set_option maxHeartbeats 1000000 in
theorem rread (q : QS) (left : Int) (bl : Bool) (i : Nat) (hi : i < 3) (hn : q.ws.length ≤ 1000) (w : World) (hq : q.at_ w left bl) :
    Calls Try.prog 66 [.pointer (some ⟨q.br, 0, none⟩), .int .i64 (i : Int)].toArray w fun e w' => ∃ g sp x, (nowOf q.sure q.wss)[i]? = some x ∧ x.length = 64 ∧ e = .returned (.tuple [Buf.val (some (g, sp)) x, .int .i64 0].toArray) ∧ Buf.ok (some (g, sp)) x ∧ w.heap.size ≤ g ∧ w'.heap[g]? = some (.cells (bytesV x ++ sp).toArray 5 (0, 0)) ∧ Below w.heap.size w w' := by
  have hbl := (Array.getElem?_eq_some_iff.1 hq.row).1
  have hbS := (Array.getElem?_eq_some_iff.1 hq.sus).1
  have c0 : w.cell? ⟨q.br, 0, none⟩ = some (.slice (some ⟨q.bS, 0, none⟩) 3 q.cS) := by rw [cell_of_row w q.br 0 _ _ _ hq.row]; rfl
  have c1 : w.cell? ⟨q.br, 1, none⟩ = some (lbVal q.lb q.ws.length) := by rw [cell_of_row w q.br 1 _ _ _ hq.row]; rfl
  obtain ⟨r, hr⟩ : ∃ r, q.su[i]? = some r := ⟨_, List.getElem?_eq_getElem (by rw [hq.n3]; exact hi)⟩
  have cS : w.cell? ⟨q.bS, 0 + i, none⟩ = some r.val := by
    rw [Nat.zero_add, cell_of_row w q.bS i _ _ _ hq.sus]
    unfold suV
    rw [List.getElem?_toArray, List.getElem?_append_left (by rw [List.length_map, hq.n3]; exact hi), List.getElem?_map, hr]
    rfl
  have hwv : ∃ W cw, lbVal q.lb q.ws.length = .slice W q.ws.length cw ∧ (0 < q.ws.length → ∃ bw, W = some ⟨bw, 0, none⟩ ∧ bw < w.heap.size ∧ ∀ j k v, q.ws[j]? = some v → k < 2 → w.cell? ⟨bw, 0 + j * 2 + k, none⟩ = [Value.int .i64 (v.1 : Int), v.2.val][k]?) := by
    have h1 := hq.lok
    have h2 := hq.lbs
    cases hlb : q.lb with
    | none =>
      rw [hlb] at h1
      have h3 : q.ws = [] := h1
      rw [h3]
      exact ⟨none, 0, rfl, fun h => absurd h (by decide)⟩
    | some t =>
      obtain ⟨bw, cw, spw⟩ := t
      have h3 := h2 _ hlb
      refine ⟨_, _, rfl, fun _ => ⟨bw, rfl, (Array.getElem?_eq_some_iff.1 h3).1, fun j k v hv hk => ?_⟩⟩
      rw [show 0 + j * 2 + k = j * 2 + k by omega, cell_of_row w bw _ _ _ _ h3, List.getElem?_toArray]
      exact rwV_cell q.ws spw j k v hv hk
  obtain ⟨W, cw, hwv, hwc⟩ := hwv
  rw [hwv] at c1
  have g1 : decide ((i : Int) < 0) = false := decide_eq_false (by omega)
  have g2 : decide ((3 : Int) ≤ (i : Int)) = false := decide_eq_false (by omega)
  refine enter Try.func66 rfl Try.ntmps66 (by simp) ?_
  repeat (first | refine S_scope ?_ | refine S_label ?_ | refine E_noGoto_normal ?_ | refine E_noGoto_ret ?_ | refine E_noGoto_exit ?_ | refine S_yes rfl (by first | with_reducible rfl | decide) ?_ | refine S_no rfl (by first | with_reducible rfl | decide) ?_ | refine S_seq ?_ | refine E_seq ?_ | refine S_block ?_ | refine E_block_normal ?_ | refine S_skip ?_ | refine S_exit ?_ | refine S_ret ?_ | refine E_then_exit ?_ | refine E_then_ret ?_ | refine E_block_ret ?_ | refine E_block_exit ?_ | refine E_block_exit_other rfl ?_)
  refine S_region ?_
  refine R_cons rfl (op_pure (p_assign rfl) rfl ?_)
  refine R_cons rfl (op_pure (p_assign rfl) rfl ?_)
  refine R_nil ?_
  repeat (first | refine S_scope ?_ | refine S_label ?_ | refine E_noGoto_normal ?_ | refine E_noGoto_ret ?_ | refine E_noGoto_exit ?_ | refine S_yes rfl (by first | with_reducible rfl | decide) ?_ | refine S_no rfl (by first | with_reducible rfl | decide) ?_ | refine S_seq ?_ | refine E_seq ?_ | refine S_block ?_ | refine E_block_normal ?_ | refine S_skip ?_ | refine S_exit ?_ | refine S_ret ?_ | refine E_then_exit ?_ | refine E_then_ret ?_ | refine E_block_ret ?_ | refine E_block_exit ?_ | refine E_block_exit_other rfl ?_)
  refine S_region ?_
  refine R_cons rfl (op_pure (p_move rfl) rfl ?_)
  refine R_cons rfl (op_pure (p_bin rfl rfl (b_lss g1)) rfl ?_)
  refine R_cons rfl (op_pure (p_move rfl) rfl ?_)
  first | refine R_pass rfl rfl rfl rfl ?_ | refine R_pass_undef rfl rfl rfl ?_ | refine R_guard rfl rfl rfl (op_pure (p_move rfl) rfl ?_)
  first | refine R_pass rfl rfl rfl rfl ?_ | refine R_pass_undef rfl rfl rfl ?_ | refine R_guard rfl rfl rfl (op_pure (p_move rfl) rfl ?_)
  first | refine R_pass rfl rfl rfl rfl ?_ | refine R_pass_undef rfl rfl rfl ?_ | refine R_guard rfl rfl rfl (op_pure (p_nilCheck rfl) rfl ?_)
  first | refine R_pass rfl rfl rfl rfl ?_ | refine R_pass_undef rfl rfl rfl ?_ | refine R_guard rfl rfl rfl (op_pure (by first | exact p_fieldAddr0 rfl fd_almonerref05_Disk_0 | exact p_fieldAddr rfl fd_almonerref05_Disk_0) rfl ?_)
  first | refine R_pass rfl rfl rfl rfl ?_ | refine R_pass_undef rfl rfl rfl ?_ | refine R_guard rfl rfl rfl (op_pure (p_load_base rfl sc_u8ss hbl (by simp) c0) rfl ?_)
  first | refine R_pass rfl rfl rfl rfl ?_ | refine R_pass_undef rfl rfl rfl ?_ | refine R_guard rfl rfl rfl (op_pure (p_len rfl slc_u8ss) rfl ?_)
  first | refine R_pass rfl rfl rfl rfl ?_ | refine R_pass_undef rfl rfl rfl ?_ | refine R_guard rfl rfl rfl (op_pure (p_bin rfl rfl (b_geq g2)) rfl ?_)
  refine R_cons rfl (op_pure (by first | exact p_pick_yes rfl rfl | exact p_pick_no rfl rfl | exact p_pick rfl rfl rfl) rfl ?_)
  refine R_nil ?_
  repeat (first | refine S_scope ?_ | refine S_label ?_ | refine E_noGoto_normal ?_ | refine E_noGoto_ret ?_ | refine E_noGoto_exit ?_ | refine S_yes rfl (by first | with_reducible rfl | decide) ?_ | refine S_no rfl (by first | with_reducible rfl | decide) ?_ | refine S_seq ?_ | refine E_seq ?_ | refine S_block ?_ | refine E_block_normal ?_ | refine S_skip ?_ | refine S_exit ?_ | refine S_ret ?_ | refine E_then_exit ?_ | refine E_then_ret ?_ | refine E_block_ret ?_ | refine E_block_exit ?_ | refine E_block_exit_other rfl ?_)
  refine S_region ?_
  refine R_cons rfl (op_pure (p_move rfl) rfl ?_)
  refine R_cons rfl (op_pure (p_nilCheck rfl) rfl ?_)
  refine R_cons rfl (op_pure (by first | exact p_fieldAddr0 rfl fd_almonerref05_Disk_0 | exact p_fieldAddr rfl fd_almonerref05_Disk_0) rfl ?_)
  refine R_cons rfl (op_pure (p_load_base rfl sc_u8ss hbl (by simp) c0) rfl ?_)
  refine R_cons rfl (op_pure (p_move rfl) rfl ?_)
  refine R_cons rfl (op_pure (p_indexSl (j := i) rfl rfl rfl slc_u8ss hi) rfl ?_)
  refine R_cons rfl (op_pure (p_load_base rfl sc_u8s hbS (by simp) cS) rfl ?_)
  refine R_cons rfl (op_pure (p_assign rfl) rfl ?_)
  refine R_nil ?_
  repeat (first | refine S_scope ?_ | refine S_label ?_ | refine E_noGoto_normal ?_ | refine E_noGoto_ret ?_ | refine E_noGoto_exit ?_ | refine S_yes rfl (by first | with_reducible rfl | decide) ?_ | refine S_no rfl (by first | with_reducible rfl | decide) ?_ | refine S_seq ?_ | refine E_seq ?_ | refine S_block ?_ | refine E_block_normal ?_ | refine S_skip ?_ | refine S_exit ?_ | refine S_ret ?_ | refine E_then_exit ?_ | refine E_then_ret ?_ | refine E_block_ret ?_ | refine E_block_exit ?_ | refine E_block_exit_other rfl ?_)
  refine S_region ?_
  refine R_cons rfl (op_pure (p_assign rfl) rfl ?_)
  refine R_nil ?_
  repeat (first | refine S_scope ?_ | refine S_label ?_ | refine E_noGoto_normal ?_ | refine E_noGoto_ret ?_ | refine E_noGoto_exit ?_ | refine S_yes rfl (by first | with_reducible rfl | decide) ?_ | refine S_no rfl (by first | with_reducible rfl | decide) ?_ | refine S_seq ?_ | refine E_seq ?_ | refine S_block ?_ | refine E_block_normal ?_ | refine S_skip ?_ | refine S_exit ?_ | refine S_ret ?_ | refine E_then_exit ?_ | refine E_then_ret ?_ | refine E_block_ret ?_ | refine E_block_exit ?_ | refine E_block_exit_other rfl ?_)
  refine S_loop (fun j : Nat => [(7, .int .i64 (j : Int)), (6, (lastR i r (q.ws.take j)).val), (1, .int .i64 (i : Int)), (0, .pointer (some ⟨q.br, 0, none⟩))]) (fun _ => []) (fun j => j ≤ q.ws.length) (fun j => q.ws.length - j) 0 (Nat.zero_le _) (by unfold lastR; repeat (first | exact Sub.nil | refine Sub.cons rfl ?_)) .nil ?_
  intro j hj
  by_cases hlt : j < q.ws.length
  · obtain ⟨bw, rfl, hbw, hcell⟩ := hwc (by omega)
    obtain ⟨v, hv⟩ : ∃ v, q.ws[j]? = some v := ⟨_, List.getElem?_eq_getElem hlt⟩
    have hc0 := hcell j 0 v hv (by omega)
    have hc1 := hcell j 1 v hv (by omega)
    have hsucc := lastR_succ i r q.ws j v hv
    have g5 : decide ((j : Int) < (q.ws.length : Int)) = true := decide_eq_true (by omega)
    have hinc : IntKind.i64.wrap ((j : Int) + 1) = ((j + 1 : Nat) : Int) := by rw [w_in_i64 (by omega)]; omega
    by_cases hvi : v.1 = i
    · have g6 : ((v.1 : Int) == (i : Int)) = true := by rw [hvi]; simp
      rw [if_pos hvi] at hsucc
      repeat (first | refine S_scope ?_ | refine S_label ?_ | refine E_noGoto_normal ?_ | refine E_noGoto_ret ?_ | refine E_noGoto_exit ?_ | refine S_yes rfl (by first | with_reducible rfl | decide) ?_ | refine S_no rfl (by first | with_reducible rfl | decide) ?_ | refine S_seq ?_ | refine E_seq ?_ | refine S_block ?_ | refine E_block_normal ?_ | refine S_skip ?_ | refine S_exit ?_ | refine S_ret ?_ | refine E_then_exit ?_ | refine E_then_ret ?_ | refine E_block_ret ?_ | refine E_block_exit ?_ | refine E_block_exit_other rfl ?_)
      refine S_region ?_
      refine R_cons rfl (op_pure (p_move rfl) rfl ?_)
      refine R_cons rfl (op_pure (p_move rfl) rfl ?_)
      refine R_cons rfl (op_pure (p_nilCheck rfl) rfl ?_)
      refine R_cons rfl (op_pure (by first | exact p_fieldAddr0 rfl fd_almonerref05_Disk_1 | exact p_fieldAddr rfl fd_almonerref05_Disk_1) rfl ?_)
      refine R_cons rfl (op_pure (p_load_base rfl sc_almonerref05_wait hbl (by simp) c1) rfl ?_)
      refine R_cons rfl (op_pure (p_lenR rfl slr_almonerref05_wait) rfl ?_)
      refine R_cons rfl (op_pure (p_bin rfl rfl (b_lss g5)) rfl ?_)
      refine R_nil ?_
      repeat (first | refine S_scope ?_ | refine S_label ?_ | refine E_noGoto_normal ?_ | refine E_noGoto_ret ?_ | refine E_noGoto_exit ?_ | refine S_yes rfl (by first | with_reducible rfl | decide) ?_ | refine S_no rfl (by first | with_reducible rfl | decide) ?_ | refine S_seq ?_ | refine E_seq ?_ | refine S_block ?_ | refine E_block_normal ?_ | refine S_skip ?_ | refine S_exit ?_ | refine S_ret ?_ | refine E_then_exit ?_ | refine E_then_ret ?_ | refine E_block_ret ?_ | refine E_block_exit ?_ | refine E_block_exit_other rfl ?_)
      refine S_region ?_
      refine R_cons rfl (op_pure (p_move rfl) rfl ?_)
      refine R_cons rfl (op_pure (p_nilCheck rfl) rfl ?_)
      refine R_cons rfl (op_pure (by first | exact p_fieldAddr0 rfl fd_almonerref05_Disk_1 | exact p_fieldAddr rfl fd_almonerref05_Disk_1) rfl ?_)
      refine R_cons rfl (op_pure (p_load_base rfl sc_almonerref05_wait hbl (by simp) c1) rfl ?_)
      refine R_cons rfl (op_pure (p_move rfl) rfl ?_)
      refine R_cons rfl (op_pure (p_indexR (j := j) rfl rfl rfl slr_almonerref05_wait hlt) rfl ?_)
      refine R_cons rfl (op_pure (by first | exact p_fieldAddr0 rfl fd_almonerref05_wait_0 | exact p_fieldAddr rfl fd_almonerref05_wait_0) rfl ?_)
      refine R_cons rfl (op_pure (p_load_base rfl sc_int hbw (by simp) hc0) rfl ?_)
      refine R_cons rfl (op_pure (p_move rfl) rfl ?_)
      refine R_cons rfl (op_pure (p_bin rfl rfl (b_eql g6)) rfl ?_)
      refine R_nil ?_
      repeat (first | refine S_scope ?_ | refine S_label ?_ | refine E_noGoto_normal ?_ | refine E_noGoto_ret ?_ | refine E_noGoto_exit ?_ | refine S_yes rfl (by first | with_reducible rfl | decide) ?_ | refine S_no rfl (by first | with_reducible rfl | decide) ?_ | refine S_seq ?_ | refine E_seq ?_ | refine S_block ?_ | refine E_block_normal ?_ | refine S_skip ?_ | refine S_exit ?_ | refine S_ret ?_ | refine E_then_exit ?_ | refine E_then_ret ?_ | refine E_block_ret ?_ | refine E_block_exit ?_ | refine E_block_exit_other rfl ?_)
      refine S_region ?_
      refine R_cons rfl (op_pure (p_move rfl) rfl ?_)
      refine R_cons rfl (op_pure (p_nilCheck rfl) rfl ?_)
      refine R_cons rfl (op_pure (by first | exact p_fieldAddr0 rfl fd_almonerref05_Disk_1 | exact p_fieldAddr rfl fd_almonerref05_Disk_1) rfl ?_)
      refine R_cons rfl (op_pure (p_load_base rfl sc_almonerref05_wait hbl (by simp) c1) rfl ?_)
      refine R_cons rfl (op_pure (p_move rfl) rfl ?_)
      refine R_cons rfl (op_pure (p_indexR (j := j) rfl rfl rfl slr_almonerref05_wait hlt) rfl ?_)
      refine R_cons rfl (op_pure (by first | exact p_fieldAddr0 rfl fd_almonerref05_wait_1 | exact p_fieldAddr rfl fd_almonerref05_wait_1) rfl ?_)
      refine R_cons rfl (op_pure (p_load_base rfl sc_u8s hbw (by simp) hc1) rfl ?_)
      refine R_cons rfl (op_pure (p_assign rfl) rfl ?_)
      refine R_nil ?_
      repeat (first | refine S_scope ?_ | refine S_label ?_ | refine E_noGoto_normal ?_ | refine E_noGoto_ret ?_ | refine E_noGoto_exit ?_ | refine S_yes rfl (by first | with_reducible rfl | decide) ?_ | refine S_no rfl (by first | with_reducible rfl | decide) ?_ | refine S_seq ?_ | refine E_seq ?_ | refine S_block ?_ | refine E_block_normal ?_ | refine S_skip ?_ | refine S_exit ?_ | refine S_ret ?_ | refine E_then_exit ?_ | refine E_then_ret ?_ | refine E_block_ret ?_ | refine E_block_exit ?_ | refine E_block_exit_other rfl ?_)
      refine S_region ?_
      refine R_cons rfl (op_pure (p_move rfl) rfl ?_)
      refine R_cons rfl (op_pure (p_bin rfl rfl (b_add hinc)) rfl ?_)
      refine R_cons rfl (op_pure (p_assign rfl) rfl ?_)
      refine R_nil ?_
      repeat (first | refine S_scope ?_ | refine S_label ?_ | refine E_noGoto_normal ?_ | refine E_noGoto_ret ?_ | refine E_noGoto_exit ?_ | refine S_yes rfl (by first | with_reducible rfl | decide) ?_ | refine S_no rfl (by first | with_reducible rfl | decide) ?_ | refine S_seq ?_ | refine E_seq ?_ | refine S_block ?_ | refine E_block_normal ?_ | refine S_skip ?_ | refine S_exit ?_ | refine S_ret ?_ | refine E_then_exit ?_ | refine E_then_ret ?_ | refine E_block_ret ?_ | refine E_block_exit ?_ | refine E_block_exit_other rfl ?_)
      exact E_round (j + 1) (by omega) (by omega) (by rw [hsucc]; repeat (first | exact Sub.nil | refine Sub.cons rfl ?_)) (Fewer.refl _)
    · have g6 : ((v.1 : Int) == (i : Int)) = false := beq_eq_false_iff_ne.2 (by omega)
      rw [if_neg hvi] at hsucc
      repeat (first | refine S_scope ?_ | refine S_label ?_ | refine E_noGoto_normal ?_ | refine E_noGoto_ret ?_ | refine E_noGoto_exit ?_ | refine S_yes rfl (by first | with_reducible rfl | decide) ?_ | refine S_no rfl (by first | with_reducible rfl | decide) ?_ | refine S_seq ?_ | refine E_seq ?_ | refine S_block ?_ | refine E_block_normal ?_ | refine S_skip ?_ | refine S_exit ?_ | refine S_ret ?_ | refine E_then_exit ?_ | refine E_then_ret ?_ | refine E_block_ret ?_ | refine E_block_exit ?_ | refine E_block_exit_other rfl ?_)
      refine S_region ?_
      refine R_cons rfl (op_pure (p_move rfl) rfl ?_)
      refine R_cons rfl (op_pure (p_move rfl) rfl ?_)
      refine R_cons rfl (op_pure (p_nilCheck rfl) rfl ?_)
      refine R_cons rfl (op_pure (by first | exact p_fieldAddr0 rfl fd_almonerref05_Disk_1 | exact p_fieldAddr rfl fd_almonerref05_Disk_1) rfl ?_)
      refine R_cons rfl (op_pure (p_load_base rfl sc_almonerref05_wait hbl (by simp) c1) rfl ?_)
      refine R_cons rfl (op_pure (p_lenR rfl slr_almonerref05_wait) rfl ?_)
      refine R_cons rfl (op_pure (p_bin rfl rfl (b_lss g5)) rfl ?_)
      refine R_nil ?_
      repeat (first | refine S_scope ?_ | refine S_label ?_ | refine E_noGoto_normal ?_ | refine E_noGoto_ret ?_ | refine E_noGoto_exit ?_ | refine S_yes rfl (by first | with_reducible rfl | decide) ?_ | refine S_no rfl (by first | with_reducible rfl | decide) ?_ | refine S_seq ?_ | refine E_seq ?_ | refine S_block ?_ | refine E_block_normal ?_ | refine S_skip ?_ | refine S_exit ?_ | refine S_ret ?_ | refine E_then_exit ?_ | refine E_then_ret ?_ | refine E_block_ret ?_ | refine E_block_exit ?_ | refine E_block_exit_other rfl ?_)
      refine S_region ?_
      refine R_cons rfl (op_pure (p_move rfl) rfl ?_)
      refine R_cons rfl (op_pure (p_nilCheck rfl) rfl ?_)
      refine R_cons rfl (op_pure (by first | exact p_fieldAddr0 rfl fd_almonerref05_Disk_1 | exact p_fieldAddr rfl fd_almonerref05_Disk_1) rfl ?_)
      refine R_cons rfl (op_pure (p_load_base rfl sc_almonerref05_wait hbl (by simp) c1) rfl ?_)
      refine R_cons rfl (op_pure (p_move rfl) rfl ?_)
      refine R_cons rfl (op_pure (p_indexR (j := j) rfl rfl rfl slr_almonerref05_wait hlt) rfl ?_)
      refine R_cons rfl (op_pure (by first | exact p_fieldAddr0 rfl fd_almonerref05_wait_0 | exact p_fieldAddr rfl fd_almonerref05_wait_0) rfl ?_)
      refine R_cons rfl (op_pure (p_load_base rfl sc_int hbw (by simp) hc0) rfl ?_)
      refine R_cons rfl (op_pure (p_move rfl) rfl ?_)
      refine R_cons rfl (op_pure (p_bin rfl rfl (b_eql g6)) rfl ?_)
      refine R_nil ?_
      repeat (first | refine S_scope ?_ | refine S_label ?_ | refine E_noGoto_normal ?_ | refine E_noGoto_ret ?_ | refine E_noGoto_exit ?_ | refine S_yes rfl (by first | with_reducible rfl | decide) ?_ | refine S_no rfl (by first | with_reducible rfl | decide) ?_ | refine S_seq ?_ | refine E_seq ?_ | refine S_block ?_ | refine E_block_normal ?_ | refine S_skip ?_ | refine S_exit ?_ | refine S_ret ?_ | refine E_then_exit ?_ | refine E_then_ret ?_ | refine E_block_ret ?_ | refine E_block_exit ?_ | refine E_block_exit_other rfl ?_)
      refine S_region ?_
      refine R_cons rfl (op_pure (p_move rfl) rfl ?_)
      refine R_cons rfl (op_pure (p_bin rfl rfl (b_add hinc)) rfl ?_)
      refine R_cons rfl (op_pure (p_assign rfl) rfl ?_)
      refine R_nil ?_
      repeat (first | refine S_scope ?_ | refine S_label ?_ | refine E_noGoto_normal ?_ | refine E_noGoto_ret ?_ | refine E_noGoto_exit ?_ | refine S_yes rfl (by first | with_reducible rfl | decide) ?_ | refine S_no rfl (by first | with_reducible rfl | decide) ?_ | refine S_seq ?_ | refine E_seq ?_ | refine S_block ?_ | refine E_block_normal ?_ | refine S_skip ?_ | refine S_exit ?_ | refine S_ret ?_ | refine E_then_exit ?_ | refine E_then_ret ?_ | refine E_block_ret ?_ | refine E_block_exit ?_ | refine E_block_exit_other rfl ?_)
      exact E_round (j + 1) (by omega) (by omega) (by rw [hsucc]; repeat (first | exact Sub.nil | refine Sub.cons rfl ?_)) (Fewer.refl _)
  have hjk : j = q.ws.length := by omega
  subst hjk
  have g5 : decide ((q.ws.length : Int) < (q.ws.length : Int)) = false := decide_eq_false (by omega)
  rw [List.take_length]
  have hrx : q.sure[i]? = some r.x := by unfold QS.sure; rw [List.getElem?_map, hr]; rfl
  have hlx := lastR_x i q.ws q.sure r hrx
  have hla := lastR_mem i q.ws (RS.at_ w) hq.wsa r (hq.sua r (List.mem_of_getElem? hr))
  generalize lastR i r q.ws = z at hlx hla
  obtain ⟨hz1, hz2⟩ := hla
  have hrd : Reads w (some ⟨z.b, 0, none⟩) 64 (bytesV z.x) := by
    have h := reads_pre hz1
    rwa [bytesV_length, hz2] at h
  repeat (first | refine S_scope ?_ | refine S_label ?_ | refine E_noGoto_normal ?_ | refine E_noGoto_ret ?_ | refine E_noGoto_exit ?_ | refine S_yes rfl (by first | with_reducible rfl | decide) ?_ | refine S_no rfl (by first | with_reducible rfl | decide) ?_ | refine S_seq ?_ | refine E_seq ?_ | refine S_block ?_ | refine E_block_normal ?_ | refine S_skip ?_ | refine S_exit ?_ | refine S_ret ?_ | refine E_then_exit ?_ | refine E_then_ret ?_ | refine E_block_ret ?_ | refine E_block_exit ?_ | refine E_block_exit_other rfl ?_)
  refine S_region ?_
  refine R_cons rfl (op_pure (p_move rfl) rfl ?_)
  refine R_cons rfl (op_pure (p_move rfl) rfl ?_)
  refine R_cons rfl (op_pure (p_nilCheck rfl) rfl ?_)
  refine R_cons rfl (op_pure (by first | exact p_fieldAddr0 rfl fd_almonerref05_Disk_1 | exact p_fieldAddr rfl fd_almonerref05_Disk_1) rfl ?_)
  refine R_cons rfl (op_pure (p_load_base rfl sc_almonerref05_wait hbl (by simp) c1) rfl ?_)
  refine R_cons rfl (op_pure (p_lenR rfl slr_almonerref05_wait) rfl ?_)
  refine R_cons rfl (op_pure (p_bin rfl rfl (b_lss g5)) rfl ?_)
  refine R_nil ?_
  repeat (first | refine S_scope ?_ | refine S_label ?_ | refine E_noGoto_normal ?_ | refine E_noGoto_ret ?_ | refine E_noGoto_exit ?_ | refine S_yes rfl (by first | with_reducible rfl | decide) ?_ | refine S_no rfl (by first | with_reducible rfl | decide) ?_ | refine S_seq ?_ | refine E_seq ?_ | refine S_block ?_ | refine E_block_normal ?_ | refine S_skip ?_ | refine S_exit ?_ | refine S_ret ?_ | refine E_then_exit ?_ | refine E_then_ret ?_ | refine E_block_ret ?_ | refine E_block_exit ?_ | refine E_block_exit_other rfl ?_)
  refine S_region ?_
  refine R_cons rfl (op_pure (p_move rfl) rfl ?_)
  refine R_cons rfl (op_appendBuf (u := none) (xs := []) (ys := z.x) rfl rfl slc_u8s.1 el_u8 (by repeat (first | exact DelB.tail | exact DelB.no rfl | exact DelB.at_ rfl (by repeat (first | exact Del.here | apply Del.there)) | apply DelB.there)) (by trivial) (fun w' hm => hrd.base hm) (by rw [List.length_nil, hz2]; omega) rfl (Nat.le_refl _) (fun u hu hun => ?_))
  refine R_cons rfl (op_pure (p_assign rfl) rfl ?_)
  refine R_cons rfl (op_pure (p_assign rfl) rfl ?_)
  refine R_nil ?_
  repeat (first | refine S_scope ?_ | refine S_label ?_ | refine E_noGoto_normal ?_ | refine E_noGoto_ret ?_ | refine E_noGoto_exit ?_ | refine S_yes rfl (by first | with_reducible rfl | decide) ?_ | refine S_no rfl (by first | with_reducible rfl | decide) ?_ | refine S_seq ?_ | refine E_seq ?_ | refine S_block ?_ | refine E_block_normal ?_ | refine S_skip ?_ | refine S_exit ?_ | refine S_ret ?_ | refine E_then_exit ?_ | refine E_then_ret ?_ | refine E_block_ret ?_ | refine E_block_exit ?_ | refine E_block_exit_other rfl ?_)
  rw [List.nil_append] at hu ⊢
  obtain ⟨g, sp, rfl⟩ := Buf.some_of hu (by rw [hz2]; omega)
  refine E_ret2 rfl rfl rfl fun w' hm => ⟨g, sp, z.x, hlx, hz2, rfl, hu, ?_, ?_, hm.below⟩
  · rcases (hm.own (g, .cells (bytesV z.x ++ sp).toArray 5 (0, 0)) (by unfold Buf.hp; simp)).1 with h | h
    · exact h
    · cases h
  · exact (hm.own (g, .cells (bytesV z.x ++ sp).toArray 5 (0, 0)) (by unfold Buf.hp; simp)).2
end Go.Proofs.Ytfdlafjifjndeaa
/-
  The document's disk: a sector written; all made sure; a byte turned.
-/
namespace Go.Proofs.Ytfdlafjifjndeaa
open Go.RowKit Go.K
attribute [local irreducible] Exit.then Exit.inBlock Exit.noGoto bodyPost Code.wp QL Sx Rx Qx Ex Dx Op1 Pure1 Still1 K.Sub Calm Code.wpIn
set_option linter.unusedVariables false
theorem bytesV_zeros (n : Nat) : List.replicate n (Value.int .u8 0) = bytesV (List.replicate n 0) := by
  unfold bytesV
  rw [List.map_replicate]
  rfl
def syncQ (su : List RS) (ws : List (Nat × RS)) : List RS := ws.foldl (fun l w => l.set w.1 w.2) su
theorem syncQ_nil (su : List RS) : syncQ su [] = su := rfl
theorem syncQ_succ (su : List RS) (ws : List (Nat × RS)) (j : Nat) (w : Nat × RS) (h : ws[j]? = some w) : syncQ su (ws.take (j + 1)) = (syncQ su (ws.take j)).set w.1 w.2 := by
  unfold syncQ
  rw [List.take_add_one, h, List.foldl_append]
  rfl
theorem syncQ_length (ws : List (Nat × RS)) : ∀ su : List RS, (syncQ su ws).length = su.length := by
  unfold syncQ
  induction ws with
  | nil => exact fun _ => rfl
  | cons w ws ih => exact fun su => by rw [List.foldl_cons, ih, List.length_set]
theorem syncQ_x (ws : List (Nat × RS)) : ∀ su : List RS, (syncQ su ws).map RS.x = nowOf (su.map RS.x) (ws.map fun w => (w.1, w.2.x)) := by
  unfold syncQ nowOf
  induction ws with
  | nil => exact fun _ => rfl
  | cons w ws ih => exact fun su => by rw [List.foldl_cons, List.map_cons, List.foldl_cons, ih, List.map_set]
theorem syncQ_mem (ws : List (Nat × RS)) (P : RS → Prop) (hw : ∀ v ∈ ws, P v.2) : ∀ su : List RS, (∀ r ∈ su, P r) → ∀ r ∈ syncQ su ws, P r := by
  unfold syncQ
  induction ws with
  | nil => exact fun su h => h
  | cons w ws ih =>
    intro su h
    rw [List.foldl_cons]
    refine ih (fun v hv => hw v (List.mem_cons_of_mem _ hv)) _ fun r hr => ?_
    rcases List.mem_or_eq_of_mem_set hr with hr | rfl
    · exact h r hr
    · exact hw w (List.mem_cons_self ..)
theorem suV_set (su : List RS) (sp : List Value) (i : Nat) (r : RS) (hi : i < su.length) : (suV su ++ sp).set (0 + i) r.val = suV (su.set i r) ++ sp := by
  unfold suV
  rw [Nat.zero_add, List.set_append_left _ _ (by rw [List.length_map]; exact hi), List.map_set]
theorem suV_length (su : List RS) : (suV su).length = su.length := List.length_map ..
/-- data is none of the disk's own -/
theorem ref_notdata {q : QS} {left : Int} {bl : Bool} {B : Nat} {w0 : Base} {w : World} (hm : Mem B w0 (refH q left bl) w) {r : RS} (hr : r.at_ w) : r.b ∉ (refH q left bl).map (·.1) := fun hin => by
  obtain ⟨p, hp, e⟩ := List.mem_map.1 hin
  have h1 := (hm.own p hp).2
  rw [e, hr.1] at h1
  unfold refH at hp
  rcases List.mem_cons.1 hp with rfl | hp
  · simp at h1
  rcases List.mem_cons.1 hp with rfl | hp
  · simp at h1
  unfold lbHp at hp
  split at hp
  · cases hp
  · rw [List.mem_singleton] at hp
    subst hp
    simp at h1
attribute [local irreducible] leftS blownS rwV nowOf lastR suV syncQ
theorem rwrite_arg (q : QS) (left : Int) (bl : Bool) (i : Int) (A : Option Addr) (n c : Nat) (h : i < 0 ∨ 3 ≤ i ∨ 64 < n) (w : World)
    (hb : w.heap[q.br]? = some (.cells (q.row left bl).toArray 124 (0, 0))) :
    Calls Try.prog 33 [.pointer (some ⟨q.br, 0, none⟩), .int .i64 i, .slice A n c].toArray w fun e w' => e = .returned (.int .i64 1) ∧ Below w.heap.size w w' := by
  have hbl := (Array.getElem?_eq_some_iff.1 hb).1
  have c0 : w.cell? ⟨q.br, 0, none⟩ = some (.slice (some ⟨q.bS, 0, none⟩) 3 q.cS) := by rw [cell_of_row w q.br 0 _ _ _ hb]; rfl
  refine enter Try.func33 rfl Try.ntmps33 (by simp) ?_
  by_cases h1 : i < 0
  · have g1 : decide (i < 0) = true := decide_eq_true h1
    repeat (first | refine S_scope ?_ | refine S_label ?_ | refine E_noGoto_normal ?_ | refine E_noGoto_ret ?_ | refine E_noGoto_exit ?_ | refine S_yes rfl (by first | with_reducible rfl | decide) ?_ | refine S_no rfl (by first | with_reducible rfl | decide) ?_ | refine S_seq ?_ | refine E_seq ?_ | refine S_block ?_ | refine E_block_normal ?_ | refine S_skip ?_ | refine S_exit ?_ | refine S_ret ?_ | refine E_then_exit ?_ | refine E_then_ret ?_ | refine E_block_ret ?_ | refine E_block_exit ?_ | refine E_block_exit_other rfl ?_)
    refine S_region ?_
    refine R_cons rfl (op_pure (p_assign rfl) rfl ?_)
    refine R_nil ?_
    repeat (first | refine S_scope ?_ | refine S_label ?_ | refine E_noGoto_normal ?_ | refine E_noGoto_ret ?_ | refine E_noGoto_exit ?_ | refine S_yes rfl (by first | with_reducible rfl | decide) ?_ | refine S_no rfl (by first | with_reducible rfl | decide) ?_ | refine S_seq ?_ | refine E_seq ?_ | refine S_block ?_ | refine E_block_normal ?_ | refine S_skip ?_ | refine S_exit ?_ | refine S_ret ?_ | refine E_then_exit ?_ | refine E_then_ret ?_ | refine E_block_ret ?_ | refine E_block_exit ?_ | refine E_block_exit_other rfl ?_)
    refine S_region ?_
    refine R_cons rfl (op_pure (p_move rfl) rfl ?_)
    refine R_cons rfl (op_pure (p_bin rfl rfl (b_lss g1)) rfl ?_)
    refine R_cons rfl (op_pure (p_move rfl) rfl ?_)
    first | refine R_pass rfl rfl rfl rfl ?_ | refine R_pass_undef rfl rfl rfl ?_ | refine R_guard rfl rfl rfl (op_pure (p_move rfl) rfl ?_)
    first | refine R_pass rfl rfl rfl rfl ?_ | refine R_pass_undef rfl rfl rfl ?_ | refine R_guard rfl rfl rfl (op_pure (p_move rfl) rfl ?_)
    first | refine R_pass rfl rfl rfl rfl ?_ | refine R_pass_undef rfl rfl rfl ?_ | refine R_guard rfl rfl rfl (op_pure (p_nilCheck rfl) rfl ?_)
    first | refine R_pass rfl rfl rfl rfl ?_ | refine R_pass_undef rfl rfl rfl ?_ | refine R_guard rfl rfl rfl (op_pure (by first | exact p_fieldAddr0 rfl fd_almonerref05_Disk_0 | exact p_fieldAddr rfl fd_almonerref05_Disk_0) rfl ?_)
    first | refine R_pass rfl rfl rfl rfl ?_ | refine R_pass_undef rfl rfl rfl ?_ | refine R_guard rfl rfl rfl (op_pure (p_load_base rfl sc_u8ss hbl (by simp) c0) rfl ?_)
    first | refine R_pass rfl rfl rfl rfl ?_ | refine R_pass_undef rfl rfl rfl ?_ | refine R_guard rfl rfl rfl (op_pure (p_len rfl slc_u8ss) rfl ?_)
    first | refine R_pass rfl rfl rfl rfl ?_ | refine R_pass_undef rfl rfl rfl ?_ | refine R_guard rfl rfl rfl (op_pure (p_bin rfl rfl (b_geq (by first | assumption | exact decide_eq_true (by omega) | exact decide_eq_false (by omega) | rfl))) rfl ?_)
    refine R_cons rfl (op_pure (by first | exact p_pick_yes rfl rfl | exact p_pick_no rfl rfl | exact p_pick rfl rfl rfl) rfl ?_)
    refine R_cons rfl (op_pure (p_move rfl) rfl ?_)
    first | refine R_pass rfl rfl rfl rfl ?_ | refine R_pass_undef rfl rfl rfl ?_ | refine R_guard rfl rfl rfl (op_pure (p_move rfl) rfl ?_)
    first | refine R_pass rfl rfl rfl rfl ?_ | refine R_pass_undef rfl rfl rfl ?_ | refine R_guard rfl rfl rfl (op_pure (p_len rfl slc_u8s) rfl ?_)
    first | refine R_pass rfl rfl rfl rfl ?_ | refine R_pass_undef rfl rfl rfl ?_ | refine R_guard rfl rfl rfl (op_pure (p_bin rfl rfl (b_gtr (by first | assumption | exact decide_eq_true (by omega) | exact decide_eq_false (by omega) | rfl))) rfl ?_)
    refine R_cons rfl (op_pure (by first | exact p_pick_yes rfl rfl | exact p_pick_no rfl rfl | exact p_pick rfl rfl rfl) rfl ?_)
    refine R_nil ?_
    repeat (first | refine S_scope ?_ | refine S_label ?_ | refine E_noGoto_normal ?_ | refine E_noGoto_ret ?_ | refine E_noGoto_exit ?_ | refine S_yes rfl (by first | with_reducible rfl | decide) ?_ | refine S_no rfl (by first | with_reducible rfl | decide) ?_ | refine S_seq ?_ | refine E_seq ?_ | refine S_block ?_ | refine E_block_normal ?_ | refine S_skip ?_ | refine S_exit ?_ | refine S_ret ?_ | refine E_then_exit ?_ | refine E_then_ret ?_ | refine E_block_ret ?_ | refine E_block_exit ?_ | refine E_block_exit_other rfl ?_)
    refine S_region ?_
    refine R_cons rfl (op_pure (p_assign rfl) rfl ?_)
    refine R_nil ?_
    repeat (first | refine S_scope ?_ | refine S_label ?_ | refine E_noGoto_normal ?_ | refine E_noGoto_ret ?_ | refine E_noGoto_exit ?_ | refine S_yes rfl (by first | with_reducible rfl | decide) ?_ | refine S_no rfl (by first | with_reducible rfl | decide) ?_ | refine S_seq ?_ | refine E_seq ?_ | refine S_block ?_ | refine E_block_normal ?_ | refine S_skip ?_ | refine S_exit ?_ | refine S_ret ?_ | refine E_then_exit ?_ | refine E_then_ret ?_ | refine E_block_ret ?_ | refine E_block_exit ?_ | refine E_block_exit_other rfl ?_)
    exact E_ret1 rfl rfl fun w' hm => ⟨rfl, hm.below⟩
  have g1 : decide (i < 0) = false := decide_eq_false h1
  by_cases h2 : 3 ≤ i
  · have g2 : decide ((3 : Int) ≤ i) = true := decide_eq_true h2
    repeat (first | refine S_scope ?_ | refine S_label ?_ | refine E_noGoto_normal ?_ | refine E_noGoto_ret ?_ | refine E_noGoto_exit ?_ | refine S_yes rfl (by first | with_reducible rfl | decide) ?_ | refine S_no rfl (by first | with_reducible rfl | decide) ?_ | refine S_seq ?_ | refine E_seq ?_ | refine S_block ?_ | refine E_block_normal ?_ | refine S_skip ?_ | refine S_exit ?_ | refine S_ret ?_ | refine E_then_exit ?_ | refine E_then_ret ?_ | refine E_block_ret ?_ | refine E_block_exit ?_ | refine E_block_exit_other rfl ?_)
    refine S_region ?_
    refine R_cons rfl (op_pure (p_assign rfl) rfl ?_)
    refine R_nil ?_
    repeat (first | refine S_scope ?_ | refine S_label ?_ | refine E_noGoto_normal ?_ | refine E_noGoto_ret ?_ | refine E_noGoto_exit ?_ | refine S_yes rfl (by first | with_reducible rfl | decide) ?_ | refine S_no rfl (by first | with_reducible rfl | decide) ?_ | refine S_seq ?_ | refine E_seq ?_ | refine S_block ?_ | refine E_block_normal ?_ | refine S_skip ?_ | refine S_exit ?_ | refine S_ret ?_ | refine E_then_exit ?_ | refine E_then_ret ?_ | refine E_block_ret ?_ | refine E_block_exit ?_ | refine E_block_exit_other rfl ?_)
    refine S_region ?_
    refine R_cons rfl (op_pure (p_move rfl) rfl ?_)
    refine R_cons rfl (op_pure (p_bin rfl rfl (b_lss g1)) rfl ?_)
    refine R_cons rfl (op_pure (p_move rfl) rfl ?_)
    first | refine R_pass rfl rfl rfl rfl ?_ | refine R_pass_undef rfl rfl rfl ?_ | refine R_guard rfl rfl rfl (op_pure (p_move rfl) rfl ?_)
    first | refine R_pass rfl rfl rfl rfl ?_ | refine R_pass_undef rfl rfl rfl ?_ | refine R_guard rfl rfl rfl (op_pure (p_move rfl) rfl ?_)
    first | refine R_pass rfl rfl rfl rfl ?_ | refine R_pass_undef rfl rfl rfl ?_ | refine R_guard rfl rfl rfl (op_pure (p_nilCheck rfl) rfl ?_)
    first | refine R_pass rfl rfl rfl rfl ?_ | refine R_pass_undef rfl rfl rfl ?_ | refine R_guard rfl rfl rfl (op_pure (by first | exact p_fieldAddr0 rfl fd_almonerref05_Disk_0 | exact p_fieldAddr rfl fd_almonerref05_Disk_0) rfl ?_)
    first | refine R_pass rfl rfl rfl rfl ?_ | refine R_pass_undef rfl rfl rfl ?_ | refine R_guard rfl rfl rfl (op_pure (p_load_base rfl sc_u8ss hbl (by simp) c0) rfl ?_)
    first | refine R_pass rfl rfl rfl rfl ?_ | refine R_pass_undef rfl rfl rfl ?_ | refine R_guard rfl rfl rfl (op_pure (p_len rfl slc_u8ss) rfl ?_)
    first | refine R_pass rfl rfl rfl rfl ?_ | refine R_pass_undef rfl rfl rfl ?_ | refine R_guard rfl rfl rfl (op_pure (p_bin rfl rfl (b_geq g2)) rfl ?_)
    refine R_cons rfl (op_pure (by first | exact p_pick_yes rfl rfl | exact p_pick_no rfl rfl | exact p_pick rfl rfl rfl) rfl ?_)
    refine R_cons rfl (op_pure (p_move rfl) rfl ?_)
    first | refine R_pass rfl rfl rfl rfl ?_ | refine R_pass_undef rfl rfl rfl ?_ | refine R_guard rfl rfl rfl (op_pure (p_move rfl) rfl ?_)
    first | refine R_pass rfl rfl rfl rfl ?_ | refine R_pass_undef rfl rfl rfl ?_ | refine R_guard rfl rfl rfl (op_pure (p_len rfl slc_u8s) rfl ?_)
    first | refine R_pass rfl rfl rfl rfl ?_ | refine R_pass_undef rfl rfl rfl ?_ | refine R_guard rfl rfl rfl (op_pure (p_bin rfl rfl (b_gtr (by first | assumption | exact decide_eq_true (by omega) | exact decide_eq_false (by omega) | rfl))) rfl ?_)
    refine R_cons rfl (op_pure (by first | exact p_pick_yes rfl rfl | exact p_pick_no rfl rfl | exact p_pick rfl rfl rfl) rfl ?_)
    refine R_nil ?_
    repeat (first | refine S_scope ?_ | refine S_label ?_ | refine E_noGoto_normal ?_ | refine E_noGoto_ret ?_ | refine E_noGoto_exit ?_ | refine S_yes rfl (by first | with_reducible rfl | decide) ?_ | refine S_no rfl (by first | with_reducible rfl | decide) ?_ | refine S_seq ?_ | refine E_seq ?_ | refine S_block ?_ | refine E_block_normal ?_ | refine S_skip ?_ | refine S_exit ?_ | refine S_ret ?_ | refine E_then_exit ?_ | refine E_then_ret ?_ | refine E_block_ret ?_ | refine E_block_exit ?_ | refine E_block_exit_other rfl ?_)
    refine S_region ?_
    refine R_cons rfl (op_pure (p_assign rfl) rfl ?_)
    refine R_nil ?_
    repeat (first | refine S_scope ?_ | refine S_label ?_ | refine E_noGoto_normal ?_ | refine E_noGoto_ret ?_ | refine E_noGoto_exit ?_ | refine S_yes rfl (by first | with_reducible rfl | decide) ?_ | refine S_no rfl (by first | with_reducible rfl | decide) ?_ | refine S_seq ?_ | refine E_seq ?_ | refine S_block ?_ | refine E_block_normal ?_ | refine S_skip ?_ | refine S_exit ?_ | refine S_ret ?_ | refine E_then_exit ?_ | refine E_then_ret ?_ | refine E_block_ret ?_ | refine E_block_exit ?_ | refine E_block_exit_other rfl ?_)
    exact E_ret1 rfl rfl fun w' hm => ⟨rfl, hm.below⟩
  have g2 : decide ((3 : Int) ≤ i) = false := decide_eq_false h2
  have g3 : decide ((64 : Int) < (n : Int)) = true := decide_eq_true (by omega)
  repeat (first | refine S_scope ?_ | refine S_label ?_ | refine E_noGoto_normal ?_ | refine E_noGoto_ret ?_ | refine E_noGoto_exit ?_ | refine S_yes rfl (by first | with_reducible rfl | decide) ?_ | refine S_no rfl (by first | with_reducible rfl | decide) ?_ | refine S_seq ?_ | refine E_seq ?_ | refine S_block ?_ | refine E_block_normal ?_ | refine S_skip ?_ | refine S_exit ?_ | refine S_ret ?_ | refine E_then_exit ?_ | refine E_then_ret ?_ | refine E_block_ret ?_ | refine E_block_exit ?_ | refine E_block_exit_other rfl ?_)
  refine S_region ?_
  refine R_cons rfl (op_pure (p_assign rfl) rfl ?_)
  refine R_nil ?_
  repeat (first | refine S_scope ?_ | refine S_label ?_ | refine E_noGoto_normal ?_ | refine E_noGoto_ret ?_ | refine E_noGoto_exit ?_ | refine S_yes rfl (by first | with_reducible rfl | decide) ?_ | refine S_no rfl (by first | with_reducible rfl | decide) ?_ | refine S_seq ?_ | refine E_seq ?_ | refine S_block ?_ | refine E_block_normal ?_ | refine S_skip ?_ | refine S_exit ?_ | refine S_ret ?_ | refine E_then_exit ?_ | refine E_then_ret ?_ | refine E_block_ret ?_ | refine E_block_exit ?_ | refine E_block_exit_other rfl ?_)
  refine S_region ?_
  refine R_cons rfl (op_pure (p_move rfl) rfl ?_)
  refine R_cons rfl (op_pure (p_bin rfl rfl (b_lss g1)) rfl ?_)
  refine R_cons rfl (op_pure (p_move rfl) rfl ?_)
  first | refine R_pass rfl rfl rfl rfl ?_ | refine R_pass_undef rfl rfl rfl ?_ | refine R_guard rfl rfl rfl (op_pure (p_move rfl) rfl ?_)
  first | refine R_pass rfl rfl rfl rfl ?_ | refine R_pass_undef rfl rfl rfl ?_ | refine R_guard rfl rfl rfl (op_pure (p_move rfl) rfl ?_)
  first | refine R_pass rfl rfl rfl rfl ?_ | refine R_pass_undef rfl rfl rfl ?_ | refine R_guard rfl rfl rfl (op_pure (p_nilCheck rfl) rfl ?_)
  first | refine R_pass rfl rfl rfl rfl ?_ | refine R_pass_undef rfl rfl rfl ?_ | refine R_guard rfl rfl rfl (op_pure (by first | exact p_fieldAddr0 rfl fd_almonerref05_Disk_0 | exact p_fieldAddr rfl fd_almonerref05_Disk_0) rfl ?_)
  first | refine R_pass rfl rfl rfl rfl ?_ | refine R_pass_undef rfl rfl rfl ?_ | refine R_guard rfl rfl rfl (op_pure (p_load_base rfl sc_u8ss hbl (by simp) c0) rfl ?_)
  first | refine R_pass rfl rfl rfl rfl ?_ | refine R_pass_undef rfl rfl rfl ?_ | refine R_guard rfl rfl rfl (op_pure (p_len rfl slc_u8ss) rfl ?_)
  first | refine R_pass rfl rfl rfl rfl ?_ | refine R_pass_undef rfl rfl rfl ?_ | refine R_guard rfl rfl rfl (op_pure (p_bin rfl rfl (b_geq g2)) rfl ?_)
  refine R_cons rfl (op_pure (by first | exact p_pick_yes rfl rfl | exact p_pick_no rfl rfl | exact p_pick rfl rfl rfl) rfl ?_)
  refine R_cons rfl (op_pure (p_move rfl) rfl ?_)
  first | refine R_pass rfl rfl rfl rfl ?_ | refine R_pass_undef rfl rfl rfl ?_ | refine R_guard rfl rfl rfl (op_pure (p_move rfl) rfl ?_)
  first | refine R_pass rfl rfl rfl rfl ?_ | refine R_pass_undef rfl rfl rfl ?_ | refine R_guard rfl rfl rfl (op_pure (p_len rfl slc_u8s) rfl ?_)
  first | refine R_pass rfl rfl rfl rfl ?_ | refine R_pass_undef rfl rfl rfl ?_ | refine R_guard rfl rfl rfl (op_pure (p_bin rfl rfl (b_gtr g3)) rfl ?_)
  refine R_cons rfl (op_pure (by first | exact p_pick_yes rfl rfl | exact p_pick_no rfl rfl | exact p_pick rfl rfl rfl) rfl ?_)
  refine R_nil ?_
  repeat (first | refine S_scope ?_ | refine S_label ?_ | refine E_noGoto_normal ?_ | refine E_noGoto_ret ?_ | refine E_noGoto_exit ?_ | refine S_yes rfl (by first | with_reducible rfl | decide) ?_ | refine S_no rfl (by first | with_reducible rfl | decide) ?_ | refine S_seq ?_ | refine E_seq ?_ | refine S_block ?_ | refine E_block_normal ?_ | refine S_skip ?_ | refine S_exit ?_ | refine S_ret ?_ | refine E_then_exit ?_ | refine E_then_ret ?_ | refine E_block_ret ?_ | refine E_block_exit ?_ | refine E_block_exit_other rfl ?_)
  refine S_region ?_
  refine R_cons rfl (op_pure (p_assign rfl) rfl ?_)
  refine R_nil ?_
  repeat (first | refine S_scope ?_ | refine S_label ?_ | refine E_noGoto_normal ?_ | refine E_noGoto_ret ?_ | refine E_noGoto_exit ?_ | refine S_yes rfl (by first | with_reducible rfl | decide) ?_ | refine S_no rfl (by first | with_reducible rfl | decide) ?_ | refine S_seq ?_ | refine E_seq ?_ | refine S_block ?_ | refine E_block_normal ?_ | refine S_skip ?_ | refine S_exit ?_ | refine S_ret ?_ | refine E_then_exit ?_ | refine E_then_ret ?_ | refine E_block_ret ?_ | refine E_block_exit ?_ | refine E_block_exit_other rfl ?_)
  exact E_ret1 rfl rfl fun w' hm => ⟨rfl, hm.below⟩
set_option maxHeartbeats 4000000 in
theorem rwriteG (q : QS) (left : Int) (bl : Bool) (hlo : -1 ≤ left) (hhi : left ≤ 9223372036854775807) (hlb : lbOk q.lb q.ws) (hwn : q.ws.length ≤ 1000) (i : Nat) (hi : i < 3) (A : Option Addr) (c : Nat) (x : List UInt8) (hx : x.length ≤ 64) (w : World)
    (hsrc : ∀ w' H', Mem w.heap.size ⟨w, (refH q left bl).map (·.1)⟩ H' w' → Reads w' A x.length (bytesV x)) (hm : Mem w.heap.size ⟨w, (refH q left bl).map (·.1)⟩ (refH q left bl) w) :
    Calls Try.prog 33 [.pointer (some ⟨q.br, 0, none⟩), .int .i64 (i : Int), .slice A x.length c].toArray w fun e w' => ∃ v H', e = .returned v ∧ Mem w.heap.size ⟨w, (refH q left bl).map (·.1)⟩ H' w' ∧
      ((blownS left bl = true ∧ v = .int .i64 9 ∧ H' = refH q (leftS left bl) true) ∨
       (blownS left bl = false ∧ v = .int .i64 0 ∧ ∃ b lb, lbOk lb (q.ws ++ [(i, ⟨b, 64, [], pad x⟩)]) ∧ H' = RS.ob ⟨b, 64, [], pad x⟩ :: refH ⟨q.br, q.bS, q.cS, q.spS, lb, q.su, q.ws ++ [(i, ⟨b, 64, [], pad x⟩)]⟩ (leftS left bl) false)) := by
  obtain ⟨br, bS, cS, spS, lb, su, ws⟩ := q
  dsimp only at hlb hwn
  have g1 : decide ((i : Int) < 0) = false := decide_eq_false (by omega)
  have g2 : decide ((3 : Int) ≤ (i : Int)) = false := decide_eq_false (by omega)
  have g3 : decide ((64 : Int) < (x.length : Int)) = false := decide_eq_false (by omega)
  have hpl := pad_length hx
  unfold refH at hsrc hm ⊢
  unfold QS.row at hsrc hm ⊢
  dsimp only at hsrc hm ⊢
  refine enter_at Try.func33 rfl Try.ntmps33 (by simp) hm ?_
  repeat (first | refine S_scope ?_ | refine S_label ?_ | refine E_noGoto_normal ?_ | refine E_noGoto_ret ?_ | refine E_noGoto_exit ?_ | refine S_yes rfl (by first | with_reducible rfl | decide) ?_ | refine S_no rfl (by first | with_reducible rfl | decide) ?_ | refine S_seq ?_ | refine E_seq ?_ | refine S_block ?_ | refine E_block_normal ?_ | refine S_skip ?_ | refine S_exit ?_ | refine S_ret ?_ | refine E_then_exit ?_ | refine E_then_ret ?_ | refine E_block_ret ?_ | refine E_block_exit ?_ | refine E_block_exit_other rfl ?_)
  refine S_region ?_
  refine R_cons rfl (op_pure (p_assign rfl) rfl ?_)
  refine R_nil ?_
  repeat (first | refine S_scope ?_ | refine S_label ?_ | refine E_noGoto_normal ?_ | refine E_noGoto_ret ?_ | refine E_noGoto_exit ?_ | refine S_yes rfl (by first | with_reducible rfl | decide) ?_ | refine S_no rfl (by first | with_reducible rfl | decide) ?_ | refine S_seq ?_ | refine E_seq ?_ | refine S_block ?_ | refine E_block_normal ?_ | refine S_skip ?_ | refine S_exit ?_ | refine S_ret ?_ | refine E_then_exit ?_ | refine E_then_ret ?_ | refine E_block_ret ?_ | refine E_block_exit ?_ | refine E_block_exit_other rfl ?_)
  refine S_region ?_
  refine R_cons rfl (op_pure (p_move rfl) rfl ?_)
  refine R_cons rfl (op_pure (p_bin rfl rfl (b_lss g1)) rfl ?_)
  refine R_cons rfl (op_pure (p_move rfl) rfl ?_)
  first | refine R_pass rfl rfl rfl rfl ?_ | refine R_pass_undef rfl rfl rfl ?_ | refine R_guard rfl rfl rfl (op_pure (p_move rfl) rfl ?_)
  first | refine R_pass rfl rfl rfl rfl ?_ | refine R_pass_undef rfl rfl rfl ?_ | refine R_guard rfl rfl rfl (op_pure (p_move rfl) rfl ?_)
  first | refine R_pass rfl rfl rfl rfl ?_ | refine R_pass_undef rfl rfl rfl ?_ | refine R_guard rfl rfl rfl (op_pure (p_nilCheck rfl) rfl ?_)
  first | refine R_pass rfl rfl rfl rfl ?_ | refine R_pass_undef rfl rfl rfl ?_ | refine R_guard rfl rfl rfl (op_pure (by first | exact p_fieldAddr0 rfl fd_almonerref05_Disk_0 | exact p_fieldAddr rfl fd_almonerref05_Disk_0) rfl ?_)
  first | refine R_pass rfl rfl rfl rfl ?_ | refine R_pass_undef rfl rfl rfl ?_ | refine R_guard rfl rfl rfl (op_pure (p_load rfl sc_u8ss (by repeat (first | exact List.Mem.head _ | apply List.Mem.tail)) (by rfl)) rfl ?_)
  first | refine R_pass rfl rfl rfl rfl ?_ | refine R_pass_undef rfl rfl rfl ?_ | refine R_guard rfl rfl rfl (op_pure (p_len rfl slc_u8ss) rfl ?_)
  first | refine R_pass rfl rfl rfl rfl ?_ | refine R_pass_undef rfl rfl rfl ?_ | refine R_guard rfl rfl rfl (op_pure (p_bin rfl rfl (b_geq g2)) rfl ?_)
  refine R_cons rfl (op_pure (by first | exact p_pick_yes rfl rfl | exact p_pick_no rfl rfl | exact p_pick rfl rfl rfl) rfl ?_)
  refine R_cons rfl (op_pure (p_move rfl) rfl ?_)
  first | refine R_pass rfl rfl rfl rfl ?_ | refine R_pass_undef rfl rfl rfl ?_ | refine R_guard rfl rfl rfl (op_pure (p_move rfl) rfl ?_)
  first | refine R_pass rfl rfl rfl rfl ?_ | refine R_pass_undef rfl rfl rfl ?_ | refine R_guard rfl rfl rfl (op_pure (p_len rfl slc_u8s) rfl ?_)
  first | refine R_pass rfl rfl rfl rfl ?_ | refine R_pass_undef rfl rfl rfl ?_ | refine R_guard rfl rfl rfl (op_pure (p_bin rfl rfl (b_gtr g3)) rfl ?_)
  refine R_cons rfl (op_pure (by first | exact p_pick_yes rfl rfl | exact p_pick_no rfl rfl | exact p_pick rfl rfl rfl) rfl ?_)
  refine R_nil ?_
  repeat (first | refine S_scope ?_ | refine S_label ?_ | refine E_noGoto_normal ?_ | refine E_noGoto_ret ?_ | refine E_noGoto_exit ?_ | refine S_yes rfl (by first | with_reducible rfl | decide) ?_ | refine S_no rfl (by first | with_reducible rfl | decide) ?_ | refine S_seq ?_ | refine E_seq ?_ | refine S_block ?_ | refine E_block_normal ?_ | refine S_skip ?_ | refine S_exit ?_ | refine S_ret ?_ | refine E_then_exit ?_ | refine E_then_ret ?_ | refine E_block_ret ?_ | refine E_block_exit ?_ | refine E_block_exit_other rfl ?_)
  refine S_region ?_
  refine R_cons rfl (op_pure (p_move rfl) rfl ?_)
  refine R_cons rfl (op_callX (fun _ : Unit => .bool (!blownS left bl)) (fun _ => [(br, .cells (refC (.slice (some ⟨bS, 0, none⟩) 3 cS) (lbVal lb ws.length) (leftS left bl) (blownS left bl)).toArray 124 (0, 0))]) (fun _ => True) (Hc := [(br, .cells (refC (.slice (some ⟨bS, 0, none⟩) 3 cS) (lbVal lb ws.length) left bl).toArray 124 (0, 0))]) (K := (bS, .cells (suV su ++ spS).toArray 40 (0, 0)) :: lbHp lb ws) rfl rfl Try.func71 rfl (by kernel_rfl) rfl (List.Perm.refl _) (fun w' hm => rmay br _ _ left bl hlo hhi w' hm) (fun _ _ => ?_))
  refine R_cons rfl (op_pure (p_not rfl) rfl ?_)
  refine R_nil ?_
  cases hbw : blownS left bl with
  | true =>
    repeat (first | refine S_scope ?_ | refine S_label ?_ | refine E_noGoto_normal ?_ | refine E_noGoto_ret ?_ | refine E_noGoto_exit ?_ | refine S_yes rfl (by first | with_reducible rfl | decide) ?_ | refine S_no rfl (by first | with_reducible rfl | decide) ?_ | refine S_seq ?_ | refine E_seq ?_ | refine S_block ?_ | refine E_block_normal ?_ | refine S_skip ?_ | refine S_exit ?_ | refine S_ret ?_ | refine E_then_exit ?_ | refine E_then_ret ?_ | refine E_block_ret ?_ | refine E_block_exit ?_ | refine E_block_exit_other rfl ?_)
    refine S_region ?_
    refine R_cons rfl (op_pure (p_assign rfl) rfl ?_)
    refine R_nil ?_
    repeat (first | refine S_scope ?_ | refine S_label ?_ | refine E_noGoto_normal ?_ | refine E_noGoto_ret ?_ | refine E_noGoto_exit ?_ | refine S_yes rfl (by first | with_reducible rfl | decide) ?_ | refine S_no rfl (by first | with_reducible rfl | decide) ?_ | refine S_seq ?_ | refine E_seq ?_ | refine S_block ?_ | refine E_block_normal ?_ | refine S_skip ?_ | refine S_exit ?_ | refine S_ret ?_ | refine E_then_exit ?_ | refine E_then_ret ?_ | refine E_block_ret ?_ | refine E_block_exit ?_ | refine E_block_exit_other rfl ?_)
    exact E_ret1 rfl rfl fun w' hm => ⟨_, _, rfl, hm, .inl ⟨rfl, rfl, rfl⟩⟩
  | false =>
    repeat (first | refine S_scope ?_ | refine S_label ?_ | refine E_noGoto_normal ?_ | refine E_noGoto_ret ?_ | refine E_noGoto_exit ?_ | refine S_yes rfl (by first | with_reducible rfl | decide) ?_ | refine S_no rfl (by first | with_reducible rfl | decide) ?_ | refine S_seq ?_ | refine E_seq ?_ | refine S_block ?_ | refine E_block_normal ?_ | refine S_skip ?_ | refine S_exit ?_ | refine S_ret ?_ | refine E_then_exit ?_ | refine E_then_ret ?_ | refine E_block_ret ?_ | refine E_block_exit ?_ | refine E_block_exit_other rfl ?_)
    refine S_region ?_
    refine R_cons rfl (op_makeSlice (l := 64) (c := 64) rfl rfl rfl rfl slc_u8s.1 el_u8 (by decide) (by decide) (by decide) rfl (Nat.le_refl _) (fun b => ?_))
    refine R_cons rfl (op_pure (p_assign rfl) rfl ?_)
    refine R_nil ?_
    repeat (first | refine S_scope ?_ | refine S_label ?_ | refine E_noGoto_normal ?_ | refine E_noGoto_ret ?_ | refine E_noGoto_exit ?_ | refine S_yes rfl (by first | with_reducible rfl | decide) ?_ | refine S_no rfl (by first | with_reducible rfl | decide) ?_ | refine S_seq ?_ | refine E_seq ?_ | refine S_block ?_ | refine E_block_normal ?_ | refine S_skip ?_ | refine S_exit ?_ | refine S_ret ?_ | refine E_then_exit ?_ | refine E_then_ret ?_ | refine E_block_ret ?_ | refine E_block_exit ?_ | refine E_block_exit_other rfl ?_)
    rw [bytesV_zeros]
    simp only [List.cons_append, List.nil_append]
    refine S_region ?_
    refine R_cons rfl (op_pure (p_move rfl) rfl ?_)
    refine R_cons rfl (op_pure (p_move rfl) rfl ?_)
    refine R_cons rfl (op_copy (n := x.length) rfl rfl slc_u8s (Nat.min_eq_left hx) (fun w' hm => hsrc w' _ hm) (bytesV_one _) (by repeat (first | exact At.here | apply At.there)) (by rw [bytesV_length, List.length_replicate]; omega) rfl ?_)
    refine R_nil ?_
    repeat (first | refine S_scope ?_ | refine S_label ?_ | refine E_noGoto_normal ?_ | refine E_noGoto_ret ?_ | refine E_noGoto_exit ?_ | refine S_yes rfl (by first | with_reducible rfl | decide) ?_ | refine S_no rfl (by first | with_reducible rfl | decide) ?_ | refine S_seq ?_ | refine E_seq ?_ | refine S_block ?_ | refine E_block_normal ?_ | refine S_skip ?_ | refine S_exit ?_ | refine S_ret ?_ | refine E_then_exit ?_ | refine E_then_ret ?_ | refine E_block_ret ?_ | refine E_block_exit ?_ | refine E_block_exit_other rfl ?_)
    rw [List.take_of_length_le (by rw [bytesV_length]; exact Nat.le_refl _), lay_pad x hx]
    have hone : ∀ v ∈ [Value.int .i64 (i : Int), Value.slice (some ⟨b, 0, none⟩) 64 64], v.oneCell' = true := ones_cons rfl (ones_cons rfl ones_nil)
    have hsn := rwV_snoc ws i ⟨b, 64, [], pad x⟩
    have hob : RS.ob ⟨b, 64, [], pad x⟩ = (b, .cells (bytesV (pad x)).toArray 5 (0, 0)) := by unfold RS.ob; rw [List.append_nil]
    have hlen1 : (ws ++ [(i, (⟨b, 64, [], pad x⟩ : RS))]).length = ws.length + 1 := by rw [List.length_append]; rfl
    cases lb with
    | none =>
      have hws : ws = [] := hlb
      subst hws
      dsimp only [lbHp, lbVal]
      have e0 : rwV [] = [] := by unfold rwV; rfl
      have hsn : rwV ([] ++ [(i, (⟨b, 64, [], pad x⟩ : RS))]) = [Value.int .i64 (i : Int), Value.slice (some ⟨b, 0, none⟩) 64 64] := by rw [hsn, e0]; rfl
      refine S_region ?_
      refine R_cons rfl (op_pure (p_move rfl) rfl ?_)
      refine R_cons rfl (op_pure (p_move rfl) rfl ?_)
      refine R_cons rfl (op_pure (p_nilCheck rfl) rfl ?_)
      refine R_cons rfl (op_pure (by first | exact p_fieldAddr0 rfl fd_almonerref05_Disk_1 | exact p_fieldAddr rfl fd_almonerref05_Disk_1) rfl ?_)
      refine R_cons rfl (op_pure (p_load rfl sc_almonerref05_wait (by repeat (first | exact List.Mem.head _ | apply List.Mem.tail)) (by rfl)) rfl ?_)
      refine R_cons rfl (op_pure (p_move rfl) rfl ?_)
      refine R_cons rfl (op_pure (p_move rfl) rfl ?_)
      refine R_cons rfl (op_pure (p_build (ps := [(0, .tmp 36), (1, .tmp 37)]) (cs := [.int .i64 (i : Int), .slice (some ⟨b, 0, none⟩) 64 64]) rfl (by kernel_rfl)) rfl ?_)
      refine R_cons rfl (op_buildSliceR (s := 2) (ps := [(0, .tmp 38)]) (l := [[.int .i64 (i : Int), .slice (some ⟨b, 0, none⟩) 64 64]]) rfl rfl slr_almonerref05_wait.1 elr_almonerref05_wait (fun y hy => by rw [List.mem_singleton] at hy; subst hy; rfl) rfl (by decide) (by decide) rfl (Nat.le_refl _) (fun b39 => ?_))
      refine R_cons rfl (op_appendNilR (s := 2) (bytes := 32) (m := 1) (ys := [.int .i64 (i : Int), .slice (some ⟨b, 0, none⟩) 64 64]) rfl rfl slr_almonerref05_wait.1 elr_almonerref05_wait (by decide) (fun w' hm => hm.readsAll (b := b39) (n := 2) (cs := [[Value.int .i64 (i : Int), Value.slice (some ⟨b, 0, none⟩) 64 64]].flatMap id) (by repeat (first | exact List.Mem.head _ | apply List.Mem.tail)) rfl) hone (by decide) (by decide) (by decide) rfl (Nat.le_refl _) (fun b' c' s' h' i' j' => ?_))
      refine R_cons rfl (op_pure (p_nilCheck rfl) rfl ?_)
      refine R_cons rfl (op_pure (by first | exact p_fieldAddr0 rfl fd_almonerref05_Disk_1 | exact p_fieldAddr rfl fd_almonerref05_Disk_1) rfl ?_)
      refine R_cons rfl (op_store rfl rfl rfl sc_almonerref05_wait (by repeat (first | exact At.here | apply At.there)) (by exact Nat.le_of_ble_eq_true rfl) ?_)
      refine R_nil ?_
      repeat (first | refine S_scope ?_ | refine S_label ?_ | refine E_noGoto_normal ?_ | refine E_noGoto_ret ?_ | refine E_noGoto_exit ?_ | refine S_yes rfl (by first | with_reducible rfl | decide) ?_ | refine S_no rfl (by first | with_reducible rfl | decide) ?_ | refine S_seq ?_ | refine E_seq ?_ | refine S_block ?_ | refine E_block_normal ?_ | refine S_skip ?_ | refine S_exit ?_ | refine S_ret ?_ | refine E_then_exit ?_ | refine E_then_ret ?_ | refine E_block_ret ?_ | refine E_block_exit ?_ | refine E_block_exit_other rfl ?_)
      refine S_region ?_
      refine R_cons rfl (op_pure (p_assign rfl) rfl ?_)
      refine R_nil ?_
      repeat (first | refine S_scope ?_ | refine S_label ?_ | refine E_noGoto_normal ?_ | refine E_noGoto_ret ?_ | refine E_noGoto_exit ?_ | refine S_yes rfl (by first | with_reducible rfl | decide) ?_ | refine S_no rfl (by first | with_reducible rfl | decide) ?_ | refine S_seq ?_ | refine E_seq ?_ | refine S_block ?_ | refine E_block_normal ?_ | refine S_skip ?_ | refine S_exit ?_ | refine S_ret ?_ | refine E_then_exit ?_ | refine E_then_ret ?_ | refine E_block_ret ?_ | refine E_block_exit ?_ | refine E_block_exit_other rfl ?_)
      refine E_ret1 rfl rfl fun w' hm => ⟨_, _, rfl, ?_, .inr ⟨by first | trivial | rfl, by first | trivial | rfl, b, some (b', c', s'), ⟨by rw [hsn]; exact h', i', j'⟩, rfl⟩⟩
      rw [hob]
      dsimp only [lbHp, lbVal]
      rw [hsn]
      exact hm.fewer (by repeat (first | exact Fewer.nil | refine Fewer.pick rfl (by repeat (first | exact Del.here | apply Del.there)) ?_))
    | some t =>
      obtain ⟨bL, cL, spL⟩ := t
      obtain ⟨hw1, hw2, hw3⟩ := hlb
      dsimp only [lbHp, lbVal]
      refine S_region ?_
      refine R_cons rfl (op_pure (p_move rfl) rfl ?_)
      refine R_cons rfl (op_pure (p_move rfl) rfl ?_)
      refine R_cons rfl (op_pure (p_nilCheck rfl) rfl ?_)
      refine R_cons rfl (op_pure (by first | exact p_fieldAddr0 rfl fd_almonerref05_Disk_1 | exact p_fieldAddr rfl fd_almonerref05_Disk_1) rfl ?_)
      refine R_cons rfl (op_pure (p_load rfl sc_almonerref05_wait (by repeat (first | exact List.Mem.head _ | apply List.Mem.tail)) (by rfl)) rfl ?_)
      refine R_cons rfl (op_pure (p_move rfl) rfl ?_)
      refine R_cons rfl (op_pure (p_move rfl) rfl ?_)
      refine R_cons rfl (op_pure (p_build (ps := [(0, .tmp 36), (1, .tmp 37)]) (cs := [.int .i64 (i : Int), .slice (some ⟨b, 0, none⟩) 64 64]) rfl (by kernel_rfl)) rfl ?_)
      refine R_cons rfl (op_buildSliceR (s := 2) (ps := [(0, .tmp 38)]) (l := [[.int .i64 (i : Int), .slice (some ⟨b, 0, none⟩) 64 64]]) rfl rfl slr_almonerref05_wait.1 elr_almonerref05_wait (fun y hy => by rw [List.mem_singleton] at hy; subst hy; rfl) rfl (by decide) (by decide) rfl (Nat.le_refl _) (fun b39 => ?_))
      refine R_cons rfl (op_appendR (s := 2) (bytes := 32) (m := 1) (xs := rwV ws) (sp := spL) (ys := [.int .i64 (i : Int), .slice (some ⟨b, 0, none⟩) 64 64]) rfl rfl slr_almonerref05_wait.1 elr_almonerref05_wait (by decide) (by repeat (first | exact Del.here | apply Del.there)) (rwV_length ws) hw1 hw3 (fun w' hm => hm.readsAll (b := b39) (n := 2) (cs := [[Value.int .i64 (i : Int), Value.slice (some ⟨b, 0, none⟩) 64 64]].flatMap id) (by repeat (first | exact List.Mem.head _ | apply List.Mem.tail)) rfl) hone (by decide) (by omega) (by decide) rfl (Nat.le_refl _) (fun b' c' s' h' i' j' => ?_))
      refine R_cons rfl (op_pure (p_nilCheck rfl) rfl ?_)
      refine R_cons rfl (op_pure (by first | exact p_fieldAddr0 rfl fd_almonerref05_Disk_1 | exact p_fieldAddr rfl fd_almonerref05_Disk_1) rfl ?_)
      refine R_cons rfl (op_store rfl rfl rfl sc_almonerref05_wait (by repeat (first | exact At.here | apply At.there)) (by exact Nat.le_of_ble_eq_true rfl) ?_)
      refine R_nil ?_
      repeat (first | refine S_scope ?_ | refine S_label ?_ | refine E_noGoto_normal ?_ | refine E_noGoto_ret ?_ | refine E_noGoto_exit ?_ | refine S_yes rfl (by first | with_reducible rfl | decide) ?_ | refine S_no rfl (by first | with_reducible rfl | decide) ?_ | refine S_seq ?_ | refine E_seq ?_ | refine S_block ?_ | refine E_block_normal ?_ | refine S_skip ?_ | refine S_exit ?_ | refine S_ret ?_ | refine E_then_exit ?_ | refine E_then_ret ?_ | refine E_block_ret ?_ | refine E_block_exit ?_ | refine E_block_exit_other rfl ?_)
      refine S_region ?_
      refine R_cons rfl (op_pure (p_assign rfl) rfl ?_)
      refine R_nil ?_
      repeat (first | refine S_scope ?_ | refine S_label ?_ | refine E_noGoto_normal ?_ | refine E_noGoto_ret ?_ | refine E_noGoto_exit ?_ | refine S_yes rfl (by first | with_reducible rfl | decide) ?_ | refine S_no rfl (by first | with_reducible rfl | decide) ?_ | refine S_seq ?_ | refine E_seq ?_ | refine S_block ?_ | refine E_block_normal ?_ | refine S_skip ?_ | refine S_exit ?_ | refine S_ret ?_ | refine E_then_exit ?_ | refine E_then_ret ?_ | refine E_block_ret ?_ | refine E_block_exit ?_ | refine E_block_exit_other rfl ?_)
      refine E_ret1 rfl rfl fun w' hm => ⟨_, _, rfl, ?_, .inr ⟨by first | trivial | rfl, by first | trivial | rfl, b, some (b', c', s'), ⟨by rw [hsn]; exact h', by rw [hlen1]; exact i', j'⟩, rfl⟩⟩
      rw [hob]
      dsimp only [lbHp, lbVal]
      rw [hsn, hlen1]
      exact hm.fewer (by repeat (first | exact Fewer.nil | refine Fewer.pick rfl (by repeat (first | exact Del.here | apply Del.there)) ?_))
set_option maxHeartbeats 2000000 in
theorem rsync (q : QS) (left : Int) (bl : Bool) (hlb : lbOk q.lb q.ws) (hwn : q.ws.length ≤ 1000) (h3 : q.su.length = 3) (hws : RwsOk q.ws) (w : World) (hm : Mem w.heap.size ⟨w, (refH q left bl).map (·.1)⟩ (refH q left bl) w) :
    Calls Try.prog 69 [.pointer (some ⟨q.br, 0, none⟩)].toArray w fun e w' => ∃ _ : Unit, e = .returned (.tuple #[]) ∧ Mem w.heap.size ⟨w, (refH q left bl).map (·.1)⟩ (refH ⟨q.br, q.bS, q.cS, q.spS, none, syncQ q.su q.ws, []⟩ left bl) w' ∧ True := by
  obtain ⟨br, bS, cS, spS, lb, su, ws⟩ := q
  dsimp only at hlb hwn h3 hws
  unfold refH at hm ⊢
  unfold QS.row at hm ⊢
  dsimp only at hm ⊢
  refine enter_at Try.func69 rfl Try.ntmps69 (by simp) hm ?_
  cases lb with
  | none =>
    have hw0 : ws = [] := hlb
    subst hw0
    rw [syncQ_nil]
    dsimp only [lbHp, lbVal]
    repeat (first | refine S_scope ?_ | refine S_label ?_ | refine E_noGoto_normal ?_ | refine E_noGoto_ret ?_ | refine E_noGoto_exit ?_ | refine S_yes rfl (by first | with_reducible rfl | decide) ?_ | refine S_no rfl (by first | with_reducible rfl | decide) ?_ | refine S_seq ?_ | refine E_seq ?_ | refine S_block ?_ | refine E_block_normal ?_ | refine S_skip ?_ | refine S_exit ?_ | refine S_ret ?_ | refine E_then_exit ?_ | refine E_then_ret ?_ | refine E_block_ret ?_ | refine E_block_exit ?_ | refine E_block_exit_other rfl ?_)
    refine S_region ?_
    refine R_cons rfl (op_pure (p_assign rfl) rfl ?_)
    refine R_nil ?_
    repeat (first | refine S_scope ?_ | refine S_label ?_ | refine E_noGoto_normal ?_ | refine E_noGoto_ret ?_ | refine E_noGoto_exit ?_ | refine S_yes rfl (by first | with_reducible rfl | decide) ?_ | refine S_no rfl (by first | with_reducible rfl | decide) ?_ | refine S_seq ?_ | refine E_seq ?_ | refine S_block ?_ | refine E_block_normal ?_ | refine S_skip ?_ | refine S_exit ?_ | refine S_ret ?_ | refine E_then_exit ?_ | refine E_then_ret ?_ | refine E_block_ret ?_ | refine E_block_exit ?_ | refine E_block_exit_other rfl ?_)
    refine S_loop (fun _ : Unit => [(2, .int .i64 0), (0, .pointer (some ⟨br, 0, none⟩))]) (fun _ => [(br, .cells (refC (.slice (some ⟨bS, 0, none⟩) 3 cS) (.slice none 0 0) left bl).toArray 124 (0, 0)), (bS, .cells (suV su ++ spS).toArray 40 (0, 0))]) (fun _ => True) (fun _ => 0) () trivial (by repeat (first | exact Sub.nil | refine Sub.cons rfl ?_)) (Fewer.refl _) ?_
    intro _ _
    repeat (first | refine S_scope ?_ | refine S_label ?_ | refine E_noGoto_normal ?_ | refine E_noGoto_ret ?_ | refine E_noGoto_exit ?_ | refine S_yes rfl (by first | with_reducible rfl | decide) ?_ | refine S_no rfl (by first | with_reducible rfl | decide) ?_ | refine S_seq ?_ | refine E_seq ?_ | refine S_block ?_ | refine E_block_normal ?_ | refine S_skip ?_ | refine S_exit ?_ | refine S_ret ?_ | refine E_then_exit ?_ | refine E_then_ret ?_ | refine E_block_ret ?_ | refine E_block_exit ?_ | refine E_block_exit_other rfl ?_)
    refine S_region ?_
    refine R_cons rfl (op_pure (p_move rfl) rfl ?_)
    refine R_cons rfl (op_pure (p_move rfl) rfl ?_)
    refine R_cons rfl (op_pure (p_nilCheck rfl) rfl ?_)
    refine R_cons rfl (op_pure (by first | exact p_fieldAddr0 rfl fd_almonerref05_Disk_1 | exact p_fieldAddr rfl fd_almonerref05_Disk_1) rfl ?_)
    refine R_cons rfl (op_pure (p_load rfl sc_almonerref05_wait (by repeat (first | exact List.Mem.head _ | apply List.Mem.tail)) (by rfl)) rfl ?_)
    refine R_cons rfl (op_pure (p_lenR rfl slr_almonerref05_wait) rfl ?_)
    refine R_cons rfl (op_pure (p_bin rfl rfl (b_lss (by first | assumption | exact decide_eq_true (by omega) | exact decide_eq_false (by omega) | rfl))) rfl ?_)
    refine R_nil ?_
    repeat (first | refine S_scope ?_ | refine S_label ?_ | refine E_noGoto_normal ?_ | refine E_noGoto_ret ?_ | refine E_noGoto_exit ?_ | refine S_yes rfl (by first | with_reducible rfl | decide) ?_ | refine S_no rfl (by first | with_reducible rfl | decide) ?_ | refine S_seq ?_ | refine E_seq ?_ | refine S_block ?_ | refine E_block_normal ?_ | refine S_skip ?_ | refine S_exit ?_ | refine S_ret ?_ | refine E_then_exit ?_ | refine E_then_ret ?_ | refine E_block_ret ?_ | refine E_block_exit ?_ | refine E_block_exit_other rfl ?_)
    refine S_region ?_
    refine R_cons rfl (op_pure (p_move rfl) rfl ?_)
    refine R_cons rfl (op_pure (p_nilCheck rfl) rfl ?_)
    refine R_cons rfl (op_pure (by first | exact p_fieldAddr0 rfl fd_almonerref05_Disk_1 | exact p_fieldAddr rfl fd_almonerref05_Disk_1) rfl ?_)
    refine R_cons rfl (op_store rfl rfl rfl sc_almonerref05_wait (by repeat (first | exact At.here | apply At.there)) (by exact Nat.le_of_ble_eq_true rfl) ?_)
    refine R_nil ?_
    repeat (first | refine S_scope ?_ | refine S_label ?_ | refine E_noGoto_normal ?_ | refine E_noGoto_ret ?_ | refine E_noGoto_exit ?_ | refine S_yes rfl (by first | with_reducible rfl | decide) ?_ | refine S_no rfl (by first | with_reducible rfl | decide) ?_ | refine S_seq ?_ | refine E_seq ?_ | refine S_block ?_ | refine E_block_normal ?_ | refine S_skip ?_ | refine S_exit ?_ | refine S_ret ?_ | refine E_then_exit ?_ | refine E_then_ret ?_ | refine E_block_ret ?_ | refine E_block_exit ?_ | refine E_block_exit_other rfl ?_)
    exact E_end0 rfl fun w' hm => ⟨(), rfl, hm, trivial⟩
  | some t =>
    obtain ⟨bL, cL, spL⟩ := t
    obtain ⟨hw1, hw2, hw3⟩ := hlb
    dsimp only [lbHp, lbVal]
    repeat (first | refine S_scope ?_ | refine S_label ?_ | refine E_noGoto_normal ?_ | refine E_noGoto_ret ?_ | refine E_noGoto_exit ?_ | refine S_yes rfl (by first | with_reducible rfl | decide) ?_ | refine S_no rfl (by first | with_reducible rfl | decide) ?_ | refine S_seq ?_ | refine E_seq ?_ | refine S_block ?_ | refine E_block_normal ?_ | refine S_skip ?_ | refine S_exit ?_ | refine S_ret ?_ | refine E_then_exit ?_ | refine E_then_ret ?_ | refine E_block_ret ?_ | refine E_block_exit ?_ | refine E_block_exit_other rfl ?_)
    refine S_region ?_
    refine R_cons rfl (op_pure (p_assign rfl) rfl ?_)
    refine R_nil ?_
    repeat (first | refine S_scope ?_ | refine S_label ?_ | refine E_noGoto_normal ?_ | refine E_noGoto_ret ?_ | refine E_noGoto_exit ?_ | refine S_yes rfl (by first | with_reducible rfl | decide) ?_ | refine S_no rfl (by first | with_reducible rfl | decide) ?_ | refine S_seq ?_ | refine E_seq ?_ | refine S_block ?_ | refine E_block_normal ?_ | refine S_skip ?_ | refine S_exit ?_ | refine S_ret ?_ | refine E_then_exit ?_ | refine E_then_ret ?_ | refine E_block_ret ?_ | refine E_block_exit ?_ | refine E_block_exit_other rfl ?_)
    refine S_loop (fun j : Nat => [(2, .int .i64 (j : Int)), (0, .pointer (some ⟨br, 0, none⟩))]) (fun j => [(br, .cells (refC (.slice (some ⟨bS, 0, none⟩) 3 cS) (.slice (some ⟨bL, 0, none⟩) ws.length cL) left bl).toArray 124 (0, 0)), (bS, .cells (suV (syncQ su (ws.take j)) ++ spS).toArray 40 (0, 0)), (bL, .cells (rwV ws ++ spL).toArray 129 (0, 0))]) (fun j => j ≤ ws.length) (fun j => ws.length - j) 0 (Nat.zero_le _) (by repeat (first | exact Sub.nil | refine Sub.cons rfl ?_)) (by rw [List.take_zero, syncQ_nil]; exact Fewer.refl _) ?_
    intro j hj
    by_cases hlt : j < ws.length
    · obtain ⟨v, hv⟩ : ∃ v, ws[j]? = some v := ⟨_, List.getElem?_eq_getElem hlt⟩
      have hc0 : (rwV ws ++ spL)[0 + j * 2 + 0]? = some (.int .i64 (v.1 : Int)) := by rw [Nat.zero_add]; exact rwV_cell ws spL j 0 v hv (by omega)
      have hc1 : (rwV ws ++ spL)[0 + j * 2 + 1]? = some v.2.val := by rw [Nat.zero_add]; exact rwV_cell ws spL j 1 v hv (by omega)
      have hv3 := hws v (List.mem_of_getElem? hv)
      have hsucc := syncQ_succ su ws j v hv
      have hl3 : (syncQ su (ws.take j)).length = 3 := by rw [syncQ_length, h3]
      have g5 : decide ((j : Int) < (ws.length : Int)) = true := decide_eq_true (by omega)
      have hinc : IntKind.i64.wrap ((j : Int) + 1) = ((j + 1 : Nat) : Int) := by rw [w_in_i64 (by omega)]; omega
      have hset := suV_set (syncQ su (ws.take j)) spS v.1 v.2 (by omega)
      repeat (first | refine S_scope ?_ | refine S_label ?_ | refine E_noGoto_normal ?_ | refine E_noGoto_ret ?_ | refine E_noGoto_exit ?_ | refine S_yes rfl (by first | with_reducible rfl | decide) ?_ | refine S_no rfl (by first | with_reducible rfl | decide) ?_ | refine S_seq ?_ | refine E_seq ?_ | refine S_block ?_ | refine E_block_normal ?_ | refine S_skip ?_ | refine S_exit ?_ | refine S_ret ?_ | refine E_then_exit ?_ | refine E_then_ret ?_ | refine E_block_ret ?_ | refine E_block_exit ?_ | refine E_block_exit_other rfl ?_)
      refine S_region ?_
      refine R_cons rfl (op_pure (p_move rfl) rfl ?_)
      refine R_cons rfl (op_pure (p_move rfl) rfl ?_)
      refine R_cons rfl (op_pure (p_nilCheck rfl) rfl ?_)
      refine R_cons rfl (op_pure (by first | exact p_fieldAddr0 rfl fd_almonerref05_Disk_1 | exact p_fieldAddr rfl fd_almonerref05_Disk_1) rfl ?_)
      refine R_cons rfl (op_pure (p_load rfl sc_almonerref05_wait (by repeat (first | exact List.Mem.head _ | apply List.Mem.tail)) (by rfl)) rfl ?_)
      refine R_cons rfl (op_pure (p_lenR rfl slr_almonerref05_wait) rfl ?_)
      refine R_cons rfl (op_pure (p_bin rfl rfl (b_lss g5)) rfl ?_)
      refine R_nil ?_
      repeat (first | refine S_scope ?_ | refine S_label ?_ | refine E_noGoto_normal ?_ | refine E_noGoto_ret ?_ | refine E_noGoto_exit ?_ | refine S_yes rfl (by first | with_reducible rfl | decide) ?_ | refine S_no rfl (by first | with_reducible rfl | decide) ?_ | refine S_seq ?_ | refine E_seq ?_ | refine S_block ?_ | refine E_block_normal ?_ | refine S_skip ?_ | refine S_exit ?_ | refine S_ret ?_ | refine E_then_exit ?_ | refine E_then_ret ?_ | refine E_block_ret ?_ | refine E_block_exit ?_ | refine E_block_exit_other rfl ?_)
      refine S_tail 21 (by kernel_rfl) (by kernel_rfl) (by kernel_rfl) (by kernel_rfl) ?_
      refine Q_cons (Still1.of_pure (p_move rfl)) rfl ?_
      refine Q_cons (Still1.of_pure (p_nilCheck rfl)) rfl ?_
      refine Q_cons (Still1.of_pure (by first | exact p_fieldAddr0 rfl fd_almonerref05_Disk_0 | exact p_fieldAddr rfl fd_almonerref05_Disk_0)) rfl ?_
      refine Q_cons (Still1.of_pure (p_load rfl sc_u8ss (by repeat (first | exact List.Mem.head _ | apply List.Mem.tail)) (by rfl))) rfl ?_
      refine Q_cons (Still1.of_pure (p_move rfl)) rfl ?_
      refine Q_cons (Still1.of_pure (p_nilCheck rfl)) rfl ?_
      refine Q_cons (Still1.of_pure (by first | exact p_fieldAddr0 rfl fd_almonerref05_Disk_1 | exact p_fieldAddr rfl fd_almonerref05_Disk_1)) rfl ?_
      refine Q_cons (Still1.of_pure (p_load rfl sc_almonerref05_wait (by repeat (first | exact List.Mem.head _ | apply List.Mem.tail)) (by rfl))) rfl ?_
      refine Q_cons (Still1.of_pure (p_move rfl)) rfl ?_
      refine Q_cons (Still1.of_pure (p_indexR (j := j) rfl rfl rfl slr_almonerref05_wait hlt)) rfl ?_
      refine Q_cons (Still1.of_pure (by first | exact p_fieldAddr0 rfl fd_almonerref05_wait_0 | exact p_fieldAddr rfl fd_almonerref05_wait_0)) rfl ?_
      refine Q_cons (Still1.of_pure (p_load rfl sc_int (by repeat (first | exact List.Mem.head _ | apply List.Mem.tail)) hc0)) rfl ?_
      refine Q_cons (Still1.of_pure (p_move rfl)) rfl ?_
      refine Q_cons (Still1.of_pure (p_nilCheck rfl)) rfl ?_
      refine Q_cons (Still1.of_pure (by first | exact p_fieldAddr0 rfl fd_almonerref05_Disk_1 | exact p_fieldAddr rfl fd_almonerref05_Disk_1)) rfl ?_
      refine Q_cons (Still1.of_pure (p_load rfl sc_almonerref05_wait (by repeat (first | exact List.Mem.head _ | apply List.Mem.tail)) (by rfl))) rfl ?_
      refine Q_cons (Still1.of_pure (p_move rfl)) rfl ?_
      refine Q_cons (Still1.of_pure (p_indexR (j := j) rfl rfl rfl slr_almonerref05_wait hlt)) rfl ?_
      refine Q_cons (Still1.of_pure (by first | exact p_fieldAddr0 rfl fd_almonerref05_wait_1 | exact p_fieldAddr rfl fd_almonerref05_wait_1)) rfl ?_
      refine Q_cons (Still1.of_pure (p_load rfl sc_u8s (by repeat (first | exact List.Mem.head _ | apply List.Mem.tail)) hc1)) rfl ?_
      refine Q_cons (Still1.of_pure (p_indexSl (j := v.1) rfl rfl rfl slc_u8ss hv3)) rfl ?_
      refine Q_nop ?_
      refine Q_nil ?_
      refine E_tail ?_
      refine R_cons rfl (op_store rfl rfl rfl sc_u8s (by repeat (first | exact At.here | apply At.there)) (by rw [List.length_append, suV_length, hl3]; omega) ?_)
      refine R_nil ?_
      repeat (first | refine S_scope ?_ | refine S_label ?_ | refine E_noGoto_normal ?_ | refine E_noGoto_ret ?_ | refine E_noGoto_exit ?_ | refine S_yes rfl (by first | with_reducible rfl | decide) ?_ | refine S_no rfl (by first | with_reducible rfl | decide) ?_ | refine S_seq ?_ | refine E_seq ?_ | refine S_block ?_ | refine E_block_normal ?_ | refine S_skip ?_ | refine S_exit ?_ | refine S_ret ?_ | refine E_then_exit ?_ | refine E_then_ret ?_ | refine E_block_ret ?_ | refine E_block_exit ?_ | refine E_block_exit_other rfl ?_)
      rw [hset, ← hsucc]
      refine S_region ?_
      refine R_cons rfl (op_pure (p_move rfl) rfl ?_)
      refine R_cons rfl (op_pure (p_bin rfl rfl (b_add hinc)) rfl ?_)
      refine R_cons rfl (op_pure (p_assign rfl) rfl ?_)
      refine R_nil ?_
      repeat (first | refine S_scope ?_ | refine S_label ?_ | refine E_noGoto_normal ?_ | refine E_noGoto_ret ?_ | refine E_noGoto_exit ?_ | refine S_yes rfl (by first | with_reducible rfl | decide) ?_ | refine S_no rfl (by first | with_reducible rfl | decide) ?_ | refine S_seq ?_ | refine E_seq ?_ | refine S_block ?_ | refine E_block_normal ?_ | refine S_skip ?_ | refine S_exit ?_ | refine S_ret ?_ | refine E_then_exit ?_ | refine E_then_ret ?_ | refine E_block_ret ?_ | refine E_block_exit ?_ | refine E_block_exit_other rfl ?_)
      exact E_round (j + 1) (by omega) (by omega) (by repeat (first | exact Sub.nil | refine Sub.cons rfl ?_)) (Fewer.refl _)
    have hjk : j = ws.length := by omega
    subst hjk
    have g5 : decide ((ws.length : Int) < (ws.length : Int)) = false := decide_eq_false (by omega)
    rw [List.take_length]
    repeat (first | refine S_scope ?_ | refine S_label ?_ | refine E_noGoto_normal ?_ | refine E_noGoto_ret ?_ | refine E_noGoto_exit ?_ | refine S_yes rfl (by first | with_reducible rfl | decide) ?_ | refine S_no rfl (by first | with_reducible rfl | decide) ?_ | refine S_seq ?_ | refine E_seq ?_ | refine S_block ?_ | refine E_block_normal ?_ | refine S_skip ?_ | refine S_exit ?_ | refine S_ret ?_ | refine E_then_exit ?_ | refine E_then_ret ?_ | refine E_block_ret ?_ | refine E_block_exit ?_ | refine E_block_exit_other rfl ?_)
    refine S_region ?_
    refine R_cons rfl (op_pure (p_move rfl) rfl ?_)
    refine R_cons rfl (op_pure (p_move rfl) rfl ?_)
    refine R_cons rfl (op_pure (p_nilCheck rfl) rfl ?_)
    refine R_cons rfl (op_pure (by first | exact p_fieldAddr0 rfl fd_almonerref05_Disk_1 | exact p_fieldAddr rfl fd_almonerref05_Disk_1) rfl ?_)
    refine R_cons rfl (op_pure (p_load rfl sc_almonerref05_wait (by repeat (first | exact List.Mem.head _ | apply List.Mem.tail)) (by rfl)) rfl ?_)
    refine R_cons rfl (op_pure (p_lenR rfl slr_almonerref05_wait) rfl ?_)
    refine R_cons rfl (op_pure (p_bin rfl rfl (b_lss g5)) rfl ?_)
    refine R_nil ?_
    repeat (first | refine S_scope ?_ | refine S_label ?_ | refine E_noGoto_normal ?_ | refine E_noGoto_ret ?_ | refine E_noGoto_exit ?_ | refine S_yes rfl (by first | with_reducible rfl | decide) ?_ | refine S_no rfl (by first | with_reducible rfl | decide) ?_ | refine S_seq ?_ | refine E_seq ?_ | refine S_block ?_ | refine E_block_normal ?_ | refine S_skip ?_ | refine S_exit ?_ | refine S_ret ?_ | refine E_then_exit ?_ | refine E_then_ret ?_ | refine E_block_ret ?_ | refine E_block_exit ?_ | refine E_block_exit_other rfl ?_)
    refine S_region ?_
    refine R_cons rfl (op_pure (p_move rfl) rfl ?_)
    refine R_cons rfl (op_pure (p_nilCheck rfl) rfl ?_)
    refine R_cons rfl (op_pure (by first | exact p_fieldAddr0 rfl fd_almonerref05_Disk_1 | exact p_fieldAddr rfl fd_almonerref05_Disk_1) rfl ?_)
    refine R_cons rfl (op_store rfl rfl rfl sc_almonerref05_wait (by repeat (first | exact At.here | apply At.there)) (by exact Nat.le_of_ble_eq_true rfl) ?_)
    refine R_nil ?_
    repeat (first | refine S_scope ?_ | refine S_label ?_ | refine E_noGoto_normal ?_ | refine E_noGoto_ret ?_ | refine E_noGoto_exit ?_ | refine S_yes rfl (by first | with_reducible rfl | decide) ?_ | refine S_no rfl (by first | with_reducible rfl | decide) ?_ | refine S_seq ?_ | refine E_seq ?_ | refine S_block ?_ | refine E_block_normal ?_ | refine S_skip ?_ | refine S_exit ?_ | refine S_ret ?_ | refine E_then_exit ?_ | refine E_then_ret ?_ | refine E_block_ret ?_ | refine E_block_exit ?_ | refine E_block_exit_other rfl ?_)
    exact E_end0 rfl fun w' hm => ⟨(), rfl, hm.fewer (.keep rfl (.keep rfl .nil)), trivial⟩
theorem rSync (q : QS) (left : Int) (bl : Bool) (hlo : -1 ≤ left) (hhi : left ≤ 9223372036854775807) (hlb : lbOk q.lb q.ws) (hwn : q.ws.length ≤ 1000) (h3 : q.su.length = 3) (hws : RwsOk q.ws) (w : World) (hm : Mem w.heap.size ⟨w, (refH q left bl).map (·.1)⟩ (refH q left bl) w) :
    Calls Try.prog 72 [.pointer (some ⟨q.br, 0, none⟩)].toArray w fun e w' => ∃ _ : Unit, e = .returned (.int .i64 (if blownS left bl then 9 else 0)) ∧ Mem w.heap.size ⟨w, (refH q left bl).map (·.1)⟩ (if blownS left bl then refH q (leftS left bl) true else refH ⟨q.br, q.bS, q.cS, q.spS, none, syncQ q.su q.ws, []⟩ (leftS left bl) false) w' ∧ True := by
  refine enter_at Try.func72 rfl Try.ntmps72 (by simp) hm ?_
  repeat (first | refine S_scope ?_ | refine S_label ?_ | refine E_noGoto_normal ?_ | refine E_noGoto_ret ?_ | refine E_noGoto_exit ?_ | refine S_yes rfl (by first | with_reducible rfl | decide) ?_ | refine S_no rfl (by first | with_reducible rfl | decide) ?_ | refine S_seq ?_ | refine E_seq ?_ | refine S_block ?_ | refine E_block_normal ?_ | refine S_skip ?_ | refine S_exit ?_ | refine S_ret ?_ | refine E_then_exit ?_ | refine E_then_ret ?_ | refine E_block_ret ?_ | refine E_block_exit ?_ | refine E_block_exit_other rfl ?_)
  refine S_region ?_
  refine R_cons rfl (op_pure (p_assign rfl) rfl ?_)
  refine R_nil ?_
  repeat (first | refine S_scope ?_ | refine S_label ?_ | refine E_noGoto_normal ?_ | refine E_noGoto_ret ?_ | refine E_noGoto_exit ?_ | refine S_yes rfl (by first | with_reducible rfl | decide) ?_ | refine S_no rfl (by first | with_reducible rfl | decide) ?_ | refine S_seq ?_ | refine E_seq ?_ | refine S_block ?_ | refine E_block_normal ?_ | refine S_skip ?_ | refine S_exit ?_ | refine S_ret ?_ | refine E_then_exit ?_ | refine E_then_ret ?_ | refine E_block_ret ?_ | refine E_block_exit ?_ | refine E_block_exit_other rfl ?_)
  refine S_region ?_
  refine R_cons rfl (op_pure (p_move rfl) rfl ?_)
  refine R_cons rfl (op_callX (fun _ : Unit => .bool (!blownS left bl)) (fun _ => [(q.br, .cells (q.row (leftS left bl) (blownS left bl)).toArray 124 (0, 0))]) (fun _ => True) (Hc := [(q.br, .cells (q.row left bl).toArray 124 (0, 0))]) (K := (q.bS, .cells (suV q.su ++ q.spS).toArray 40 (0, 0)) :: lbHp q.lb q.ws) rfl rfl Try.func71 rfl (by kernel_rfl) rfl (List.Perm.refl _) (fun w' hm => rmay q.br _ _ left bl hlo hhi w' hm) (fun _ _ => ?_))
  refine R_cons rfl (op_pure (p_not rfl) rfl ?_)
  refine R_nil ?_
  cases hbw : blownS left bl with
  | true =>
    repeat (first | refine S_scope ?_ | refine S_label ?_ | refine E_noGoto_normal ?_ | refine E_noGoto_ret ?_ | refine E_noGoto_exit ?_ | refine S_yes rfl (by first | with_reducible rfl | decide) ?_ | refine S_no rfl (by first | with_reducible rfl | decide) ?_ | refine S_seq ?_ | refine E_seq ?_ | refine S_block ?_ | refine E_block_normal ?_ | refine S_skip ?_ | refine S_exit ?_ | refine S_ret ?_ | refine E_then_exit ?_ | refine E_then_ret ?_ | refine E_block_ret ?_ | refine E_block_exit ?_ | refine E_block_exit_other rfl ?_)
    refine S_region ?_
    refine R_cons rfl (op_pure (p_assign rfl) rfl ?_)
    refine R_nil ?_
    repeat (first | refine S_scope ?_ | refine S_label ?_ | refine E_noGoto_normal ?_ | refine E_noGoto_ret ?_ | refine E_noGoto_exit ?_ | refine S_yes rfl (by first | with_reducible rfl | decide) ?_ | refine S_no rfl (by first | with_reducible rfl | decide) ?_ | refine S_seq ?_ | refine E_seq ?_ | refine S_block ?_ | refine E_block_normal ?_ | refine S_skip ?_ | refine S_exit ?_ | refine S_ret ?_ | refine E_then_exit ?_ | refine E_then_ret ?_ | refine E_block_ret ?_ | refine E_block_exit ?_ | refine E_block_exit_other rfl ?_)
    exact E_ret1 rfl rfl fun w' hm => ⟨(), rfl, hm, trivial⟩
  | false =>
    repeat (first | refine S_scope ?_ | refine S_label ?_ | refine E_noGoto_normal ?_ | refine E_noGoto_ret ?_ | refine E_noGoto_exit ?_ | refine S_yes rfl (by first | with_reducible rfl | decide) ?_ | refine S_no rfl (by first | with_reducible rfl | decide) ?_ | refine S_seq ?_ | refine E_seq ?_ | refine S_block ?_ | refine E_block_normal ?_ | refine S_skip ?_ | refine S_exit ?_ | refine S_ret ?_ | refine E_then_exit ?_ | refine E_then_ret ?_ | refine E_block_ret ?_ | refine E_block_exit ?_ | refine E_block_exit_other rfl ?_)
    refine S_region ?_
    refine R_cons rfl (op_pure (p_move rfl) rfl ?_)
    refine R_cons rfl (op_callX (fun _ : Unit => .tuple #[]) (fun _ => refH ⟨q.br, q.bS, q.cS, q.spS, none, syncQ q.su q.ws, []⟩ (leftS left bl) false) (fun _ => True) (Hc := refH q (leftS left bl) false) (K := []) rfl rfl Try.func69 rfl (by kernel_rfl) rfl (by rw [List.append_nil]; exact List.Perm.refl _) (fun w' hm => rsync q (leftS left bl) false hlb hwn h3 hws w' hm) (fun _ _ => ?_))
    refine R_nil ?_
    repeat (first | refine S_scope ?_ | refine S_label ?_ | refine E_noGoto_normal ?_ | refine E_noGoto_ret ?_ | refine E_noGoto_exit ?_ | refine S_yes rfl (by first | with_reducible rfl | decide) ?_ | refine S_no rfl (by first | with_reducible rfl | decide) ?_ | refine S_seq ?_ | refine E_seq ?_ | refine S_block ?_ | refine E_block_normal ?_ | refine S_skip ?_ | refine S_exit ?_ | refine S_ret ?_ | refine E_then_exit ?_ | refine E_then_ret ?_ | refine E_block_ret ?_ | refine E_block_exit ?_ | refine E_block_exit_other rfl ?_)
    refine S_region ?_
    refine R_cons rfl (op_pure (p_assign rfl) rfl ?_)
    refine R_nil ?_
    repeat (first | refine S_scope ?_ | refine S_label ?_ | refine E_noGoto_normal ?_ | refine E_noGoto_ret ?_ | refine E_noGoto_exit ?_ | refine S_yes rfl (by first | with_reducible rfl | decide) ?_ | refine S_no rfl (by first | with_reducible rfl | decide) ?_ | refine S_seq ?_ | refine E_seq ?_ | refine S_block ?_ | refine E_block_normal ?_ | refine S_skip ?_ | refine S_exit ?_ | refine S_ret ?_ | refine E_then_exit ?_ | refine E_then_ret ?_ | refine E_block_ret ?_ | refine E_block_exit ?_ | refine E_block_exit_other rfl ?_)
    rw [List.append_nil]
    exact E_ret1 rfl rfl fun w' hm => ⟨(), rfl, hm, trivial⟩
end Go.Proofs.Ytfdlafjifjndeaa
/-
  The document's disk: a byte turned; a disk made.
-/
namespace Go.Proofs.Ytfdlafjifjndeaa
open Go.RowKit Go.K
attribute [local irreducible] Exit.then Exit.inBlock Exit.noGoto bodyPost Code.wp QL Sx Rx Qx Ex Dx Op1 Pure1 Still1 K.Sub Calm Code.wpIn
set_option linter.unusedVariables false
theorem bytes_set (x : List UInt8) (sp : List Value) (p : Nat) (b : UInt8) (hp : p < x.length) : (bytesV x ++ sp).set (0 + p) (.int .u8 (b.toNat : Int)) = bytesV (x.set p b) ++ sp := by
  rw [Nat.zero_add, List.set_append_left _ _ (by rw [bytesV_length]; exact hp), bytesV_set]
theorem bytes_cell (x : List UInt8) (sp : List Value) (p : Nat) (hp : p < x.length) : (bytesV x ++ sp)[0 + p]? = some (.int .u8 ((x.getD p 0).toNat : Int)) := by
  rw [Nat.zero_add, List.getElem?_append_left (by rw [bytesV_length]; exact hp)]
  exact bytesV_get hp
theorem suV_cell (su : List RS) (sp : List Value) (i : Nat) (r : RS) (h : su[i]? = some r) : (suV su ++ sp)[0 + i]? = some r.val := by
  have hi : i < su.length := (List.getElem?_eq_some_iff.1 h).1
  unfold suV
  rw [Nat.zero_add, List.getElem?_append_left (by rw [List.length_map]; exact hi), List.getElem?_map, h]
  rfl
theorem suV_snoc (su : List RS) (r : RS) : suV (su ++ [r]) = suV su ++ [r.val] := by unfold suV; rw [List.map_append]; rfl
attribute [local irreducible] leftS blownS rwV nowOf lastR suV syncQ
theorem rturn_arg (q : QS) (left : Int) (bl : Bool) (i at_ : Int) (by_ : UInt8) (h : i < 0 ∨ 3 ≤ i ∨ at_ < 0 ∨ 64 ≤ at_) (w : World)
    (hb : w.heap[q.br]? = some (.cells (q.row left bl).toArray 124 (0, 0))) :
    Calls Try.prog 31 [.pointer (some ⟨q.br, 0, none⟩), .int .i64 i, .int .i64 at_, .int .u8 (by_.toNat : Int)].toArray w fun e w' => e = .returned (.int .i64 1) ∧ Below w.heap.size w w' := by
  have hbl := (Array.getElem?_eq_some_iff.1 hb).1
  have c0 : w.cell? ⟨q.br, 0, none⟩ = some (.slice (some ⟨q.bS, 0, none⟩) 3 q.cS) := by rw [cell_of_row w q.br 0 _ _ _ hb]; rfl
  refine enter Try.func31 rfl Try.ntmps31 (by simp) ?_
  by_cases h1 : i < 0
  · have g1 : decide (i < 0) = true := decide_eq_true h1
    repeat (first | refine S_scope ?_ | refine S_label ?_ | refine E_noGoto_normal ?_ | refine E_noGoto_ret ?_ | refine E_noGoto_exit ?_ | refine S_yes rfl (by first | with_reducible rfl | decide) ?_ | refine S_no rfl (by first | with_reducible rfl | decide) ?_ | refine S_seq ?_ | refine E_seq ?_ | refine S_block ?_ | refine E_block_normal ?_ | refine S_skip ?_ | refine S_exit ?_ | refine S_ret ?_ | refine E_then_exit ?_ | refine E_then_ret ?_ | refine E_block_ret ?_ | refine E_block_exit ?_ | refine E_block_exit_other rfl ?_)
    refine S_region ?_
    refine R_cons rfl (op_pure (p_assign rfl) rfl ?_)
    refine R_nil ?_
    repeat (first | refine S_scope ?_ | refine S_label ?_ | refine E_noGoto_normal ?_ | refine E_noGoto_ret ?_ | refine E_noGoto_exit ?_ | refine S_yes rfl (by first | with_reducible rfl | decide) ?_ | refine S_no rfl (by first | with_reducible rfl | decide) ?_ | refine S_seq ?_ | refine E_seq ?_ | refine S_block ?_ | refine E_block_normal ?_ | refine S_skip ?_ | refine S_exit ?_ | refine S_ret ?_ | refine E_then_exit ?_ | refine E_then_ret ?_ | refine E_block_ret ?_ | refine E_block_exit ?_ | refine E_block_exit_other rfl ?_)
    refine S_region ?_
    refine R_cons rfl (op_pure (p_move rfl) rfl ?_)
    refine R_cons rfl (op_pure (p_bin rfl rfl (b_lss g1)) rfl ?_)
    refine R_cons rfl (op_pure (p_move rfl) rfl ?_)
    first | refine R_pass rfl rfl rfl rfl ?_ | refine R_pass_undef rfl rfl rfl ?_ | refine R_guard rfl rfl rfl (op_pure (p_move rfl) rfl ?_)
    first | refine R_pass rfl rfl rfl rfl ?_ | refine R_pass_undef rfl rfl rfl ?_ | refine R_guard rfl rfl rfl (op_pure (p_move rfl) rfl ?_)
    first | refine R_pass rfl rfl rfl rfl ?_ | refine R_pass_undef rfl rfl rfl ?_ | refine R_guard rfl rfl rfl (op_pure (p_nilCheck rfl) rfl ?_)
    first | refine R_pass rfl rfl rfl rfl ?_ | refine R_pass_undef rfl rfl rfl ?_ | refine R_guard rfl rfl rfl (op_pure (by first | exact p_fieldAddr0 rfl fd_almonerref05_Disk_0 | exact p_fieldAddr rfl fd_almonerref05_Disk_0) rfl ?_)
    first | refine R_pass rfl rfl rfl rfl ?_ | refine R_pass_undef rfl rfl rfl ?_ | refine R_guard rfl rfl rfl (op_pure (p_load_base rfl sc_u8ss hbl (by simp) c0) rfl ?_)
    first | refine R_pass rfl rfl rfl rfl ?_ | refine R_pass_undef rfl rfl rfl ?_ | refine R_guard rfl rfl rfl (op_pure (p_len rfl slc_u8ss) rfl ?_)
    first | refine R_pass rfl rfl rfl rfl ?_ | refine R_pass_undef rfl rfl rfl ?_ | refine R_guard rfl rfl rfl (op_pure (p_bin rfl rfl (b_geq (by first | assumption | exact decide_eq_true (by omega) | exact decide_eq_false (by omega) | rfl))) rfl ?_)
    refine R_cons rfl (op_pure (by first | exact p_pick_yes rfl rfl | exact p_pick_no rfl rfl | exact p_pick rfl rfl rfl) rfl ?_)
    refine R_cons rfl (op_pure (p_move rfl) rfl ?_)
    first | refine R_pass rfl rfl rfl rfl ?_ | refine R_pass_undef rfl rfl rfl ?_ | refine R_guard rfl rfl rfl (op_pure (p_move rfl) rfl ?_)
    first | refine R_pass rfl rfl rfl rfl ?_ | refine R_pass_undef rfl rfl rfl ?_ | refine R_guard rfl rfl rfl (op_pure (p_bin rfl rfl (b_lss (by first | assumption | exact decide_eq_true (by omega) | exact decide_eq_false (by omega) | rfl))) rfl ?_)
    refine R_cons rfl (op_pure (by first | exact p_pick_yes rfl rfl | exact p_pick_no rfl rfl | exact p_pick rfl rfl rfl) rfl ?_)
    refine R_cons rfl (op_pure (p_move rfl) rfl ?_)
    first | refine R_pass rfl rfl rfl rfl ?_ | refine R_pass_undef rfl rfl rfl ?_ | refine R_guard rfl rfl rfl (op_pure (p_move rfl) rfl ?_)
    first | refine R_pass rfl rfl rfl rfl ?_ | refine R_pass_undef rfl rfl rfl ?_ | refine R_guard rfl rfl rfl (op_pure (p_bin rfl rfl (b_geq (by first | assumption | exact decide_eq_true (by omega) | exact decide_eq_false (by omega) | rfl))) rfl ?_)
    refine R_cons rfl (op_pure (by first | exact p_pick_yes rfl rfl | exact p_pick_no rfl rfl | exact p_pick rfl rfl rfl) rfl ?_)
    refine R_nil ?_
    repeat (first | refine S_scope ?_ | refine S_label ?_ | refine E_noGoto_normal ?_ | refine E_noGoto_ret ?_ | refine E_noGoto_exit ?_ | refine S_yes rfl (by first | with_reducible rfl | decide) ?_ | refine S_no rfl (by first | with_reducible rfl | decide) ?_ | refine S_seq ?_ | refine E_seq ?_ | refine S_block ?_ | refine E_block_normal ?_ | refine S_skip ?_ | refine S_exit ?_ | refine S_ret ?_ | refine E_then_exit ?_ | refine E_then_ret ?_ | refine E_block_ret ?_ | refine E_block_exit ?_ | refine E_block_exit_other rfl ?_)
    refine S_region ?_
    refine R_cons rfl (op_pure (p_assign rfl) rfl ?_)
    refine R_nil ?_
    repeat (first | refine S_scope ?_ | refine S_label ?_ | refine E_noGoto_normal ?_ | refine E_noGoto_ret ?_ | refine E_noGoto_exit ?_ | refine S_yes rfl (by first | with_reducible rfl | decide) ?_ | refine S_no rfl (by first | with_reducible rfl | decide) ?_ | refine S_seq ?_ | refine E_seq ?_ | refine S_block ?_ | refine E_block_normal ?_ | refine S_skip ?_ | refine S_exit ?_ | refine S_ret ?_ | refine E_then_exit ?_ | refine E_then_ret ?_ | refine E_block_ret ?_ | refine E_block_exit ?_ | refine E_block_exit_other rfl ?_)
    exact E_ret1 rfl rfl fun w' hm => ⟨rfl, hm.below⟩
  have g1 : decide (i < 0) = false := decide_eq_false h1
  by_cases h2 : 3 ≤ i
  · have g2 : decide ((3 : Int) ≤ i) = true := decide_eq_true h2
    repeat (first | refine S_scope ?_ | refine S_label ?_ | refine E_noGoto_normal ?_ | refine E_noGoto_ret ?_ | refine E_noGoto_exit ?_ | refine S_yes rfl (by first | with_reducible rfl | decide) ?_ | refine S_no rfl (by first | with_reducible rfl | decide) ?_ | refine S_seq ?_ | refine E_seq ?_ | refine S_block ?_ | refine E_block_normal ?_ | refine S_skip ?_ | refine S_exit ?_ | refine S_ret ?_ | refine E_then_exit ?_ | refine E_then_ret ?_ | refine E_block_ret ?_ | refine E_block_exit ?_ | refine E_block_exit_other rfl ?_)
    refine S_region ?_
    refine R_cons rfl (op_pure (p_assign rfl) rfl ?_)
    refine R_nil ?_
    repeat (first | refine S_scope ?_ | refine S_label ?_ | refine E_noGoto_normal ?_ | refine E_noGoto_ret ?_ | refine E_noGoto_exit ?_ | refine S_yes rfl (by first | with_reducible rfl | decide) ?_ | refine S_no rfl (by first | with_reducible rfl | decide) ?_ | refine S_seq ?_ | refine E_seq ?_ | refine S_block ?_ | refine E_block_normal ?_ | refine S_skip ?_ | refine S_exit ?_ | refine S_ret ?_ | refine E_then_exit ?_ | refine E_then_ret ?_ | refine E_block_ret ?_ | refine E_block_exit ?_ | refine E_block_exit_other rfl ?_)
    refine S_region ?_
    refine R_cons rfl (op_pure (p_move rfl) rfl ?_)
    refine R_cons rfl (op_pure (p_bin rfl rfl (b_lss g1)) rfl ?_)
    refine R_cons rfl (op_pure (p_move rfl) rfl ?_)
    first | refine R_pass rfl rfl rfl rfl ?_ | refine R_pass_undef rfl rfl rfl ?_ | refine R_guard rfl rfl rfl (op_pure (p_move rfl) rfl ?_)
    first | refine R_pass rfl rfl rfl rfl ?_ | refine R_pass_undef rfl rfl rfl ?_ | refine R_guard rfl rfl rfl (op_pure (p_move rfl) rfl ?_)
    first | refine R_pass rfl rfl rfl rfl ?_ | refine R_pass_undef rfl rfl rfl ?_ | refine R_guard rfl rfl rfl (op_pure (p_nilCheck rfl) rfl ?_)
    first | refine R_pass rfl rfl rfl rfl ?_ | refine R_pass_undef rfl rfl rfl ?_ | refine R_guard rfl rfl rfl (op_pure (by first | exact p_fieldAddr0 rfl fd_almonerref05_Disk_0 | exact p_fieldAddr rfl fd_almonerref05_Disk_0) rfl ?_)
    first | refine R_pass rfl rfl rfl rfl ?_ | refine R_pass_undef rfl rfl rfl ?_ | refine R_guard rfl rfl rfl (op_pure (p_load_base rfl sc_u8ss hbl (by simp) c0) rfl ?_)
    first | refine R_pass rfl rfl rfl rfl ?_ | refine R_pass_undef rfl rfl rfl ?_ | refine R_guard rfl rfl rfl (op_pure (p_len rfl slc_u8ss) rfl ?_)
    first | refine R_pass rfl rfl rfl rfl ?_ | refine R_pass_undef rfl rfl rfl ?_ | refine R_guard rfl rfl rfl (op_pure (p_bin rfl rfl (b_geq g2)) rfl ?_)
    refine R_cons rfl (op_pure (by first | exact p_pick_yes rfl rfl | exact p_pick_no rfl rfl | exact p_pick rfl rfl rfl) rfl ?_)
    refine R_cons rfl (op_pure (p_move rfl) rfl ?_)
    first | refine R_pass rfl rfl rfl rfl ?_ | refine R_pass_undef rfl rfl rfl ?_ | refine R_guard rfl rfl rfl (op_pure (p_move rfl) rfl ?_)
    first | refine R_pass rfl rfl rfl rfl ?_ | refine R_pass_undef rfl rfl rfl ?_ | refine R_guard rfl rfl rfl (op_pure (p_bin rfl rfl (b_lss (by first | assumption | exact decide_eq_true (by omega) | exact decide_eq_false (by omega) | rfl))) rfl ?_)
    refine R_cons rfl (op_pure (by first | exact p_pick_yes rfl rfl | exact p_pick_no rfl rfl | exact p_pick rfl rfl rfl) rfl ?_)
    refine R_cons rfl (op_pure (p_move rfl) rfl ?_)
    first | refine R_pass rfl rfl rfl rfl ?_ | refine R_pass_undef rfl rfl rfl ?_ | refine R_guard rfl rfl rfl (op_pure (p_move rfl) rfl ?_)
    first | refine R_pass rfl rfl rfl rfl ?_ | refine R_pass_undef rfl rfl rfl ?_ | refine R_guard rfl rfl rfl (op_pure (p_bin rfl rfl (b_geq (by first | assumption | exact decide_eq_true (by omega) | exact decide_eq_false (by omega) | rfl))) rfl ?_)
    refine R_cons rfl (op_pure (by first | exact p_pick_yes rfl rfl | exact p_pick_no rfl rfl | exact p_pick rfl rfl rfl) rfl ?_)
    refine R_nil ?_
    repeat (first | refine S_scope ?_ | refine S_label ?_ | refine E_noGoto_normal ?_ | refine E_noGoto_ret ?_ | refine E_noGoto_exit ?_ | refine S_yes rfl (by first | with_reducible rfl | decide) ?_ | refine S_no rfl (by first | with_reducible rfl | decide) ?_ | refine S_seq ?_ | refine E_seq ?_ | refine S_block ?_ | refine E_block_normal ?_ | refine S_skip ?_ | refine S_exit ?_ | refine S_ret ?_ | refine E_then_exit ?_ | refine E_then_ret ?_ | refine E_block_ret ?_ | refine E_block_exit ?_ | refine E_block_exit_other rfl ?_)
    refine S_region ?_
    refine R_cons rfl (op_pure (p_assign rfl) rfl ?_)
    refine R_nil ?_
    repeat (first | refine S_scope ?_ | refine S_label ?_ | refine E_noGoto_normal ?_ | refine E_noGoto_ret ?_ | refine E_noGoto_exit ?_ | refine S_yes rfl (by first | with_reducible rfl | decide) ?_ | refine S_no rfl (by first | with_reducible rfl | decide) ?_ | refine S_seq ?_ | refine E_seq ?_ | refine S_block ?_ | refine E_block_normal ?_ | refine S_skip ?_ | refine S_exit ?_ | refine S_ret ?_ | refine E_then_exit ?_ | refine E_then_ret ?_ | refine E_block_ret ?_ | refine E_block_exit ?_ | refine E_block_exit_other rfl ?_)
    exact E_ret1 rfl rfl fun w' hm => ⟨rfl, hm.below⟩
  have g2 : decide ((3 : Int) ≤ i) = false := decide_eq_false h2
  by_cases h3 : at_ < 0
  · have g3 : decide (at_ < 0) = true := decide_eq_true h3
    repeat (first | refine S_scope ?_ | refine S_label ?_ | refine E_noGoto_normal ?_ | refine E_noGoto_ret ?_ | refine E_noGoto_exit ?_ | refine S_yes rfl (by first | with_reducible rfl | decide) ?_ | refine S_no rfl (by first | with_reducible rfl | decide) ?_ | refine S_seq ?_ | refine E_seq ?_ | refine S_block ?_ | refine E_block_normal ?_ | refine S_skip ?_ | refine S_exit ?_ | refine S_ret ?_ | refine E_then_exit ?_ | refine E_then_ret ?_ | refine E_block_ret ?_ | refine E_block_exit ?_ | refine E_block_exit_other rfl ?_)
    refine S_region ?_
    refine R_cons rfl (op_pure (p_assign rfl) rfl ?_)
    refine R_nil ?_
    repeat (first | refine S_scope ?_ | refine S_label ?_ | refine E_noGoto_normal ?_ | refine E_noGoto_ret ?_ | refine E_noGoto_exit ?_ | refine S_yes rfl (by first | with_reducible rfl | decide) ?_ | refine S_no rfl (by first | with_reducible rfl | decide) ?_ | refine S_seq ?_ | refine E_seq ?_ | refine S_block ?_ | refine E_block_normal ?_ | refine S_skip ?_ | refine S_exit ?_ | refine S_ret ?_ | refine E_then_exit ?_ | refine E_then_ret ?_ | refine E_block_ret ?_ | refine E_block_exit ?_ | refine E_block_exit_other rfl ?_)
    refine S_region ?_
    refine R_cons rfl (op_pure (p_move rfl) rfl ?_)
    refine R_cons rfl (op_pure (p_bin rfl rfl (b_lss g1)) rfl ?_)
    refine R_cons rfl (op_pure (p_move rfl) rfl ?_)
    first | refine R_pass rfl rfl rfl rfl ?_ | refine R_pass_undef rfl rfl rfl ?_ | refine R_guard rfl rfl rfl (op_pure (p_move rfl) rfl ?_)
    first | refine R_pass rfl rfl rfl rfl ?_ | refine R_pass_undef rfl rfl rfl ?_ | refine R_guard rfl rfl rfl (op_pure (p_move rfl) rfl ?_)
    first | refine R_pass rfl rfl rfl rfl ?_ | refine R_pass_undef rfl rfl rfl ?_ | refine R_guard rfl rfl rfl (op_pure (p_nilCheck rfl) rfl ?_)
    first | refine R_pass rfl rfl rfl rfl ?_ | refine R_pass_undef rfl rfl rfl ?_ | refine R_guard rfl rfl rfl (op_pure (by first | exact p_fieldAddr0 rfl fd_almonerref05_Disk_0 | exact p_fieldAddr rfl fd_almonerref05_Disk_0) rfl ?_)
    first | refine R_pass rfl rfl rfl rfl ?_ | refine R_pass_undef rfl rfl rfl ?_ | refine R_guard rfl rfl rfl (op_pure (p_load_base rfl sc_u8ss hbl (by simp) c0) rfl ?_)
    first | refine R_pass rfl rfl rfl rfl ?_ | refine R_pass_undef rfl rfl rfl ?_ | refine R_guard rfl rfl rfl (op_pure (p_len rfl slc_u8ss) rfl ?_)
    first | refine R_pass rfl rfl rfl rfl ?_ | refine R_pass_undef rfl rfl rfl ?_ | refine R_guard rfl rfl rfl (op_pure (p_bin rfl rfl (b_geq g2)) rfl ?_)
    refine R_cons rfl (op_pure (by first | exact p_pick_yes rfl rfl | exact p_pick_no rfl rfl | exact p_pick rfl rfl rfl) rfl ?_)
    refine R_cons rfl (op_pure (p_move rfl) rfl ?_)
    first | refine R_pass rfl rfl rfl rfl ?_ | refine R_pass_undef rfl rfl rfl ?_ | refine R_guard rfl rfl rfl (op_pure (p_move rfl) rfl ?_)
    first | refine R_pass rfl rfl rfl rfl ?_ | refine R_pass_undef rfl rfl rfl ?_ | refine R_guard rfl rfl rfl (op_pure (p_bin rfl rfl (b_lss g3)) rfl ?_)
    refine R_cons rfl (op_pure (by first | exact p_pick_yes rfl rfl | exact p_pick_no rfl rfl | exact p_pick rfl rfl rfl) rfl ?_)
    refine R_cons rfl (op_pure (p_move rfl) rfl ?_)
    first | refine R_pass rfl rfl rfl rfl ?_ | refine R_pass_undef rfl rfl rfl ?_ | refine R_guard rfl rfl rfl (op_pure (p_move rfl) rfl ?_)
    first | refine R_pass rfl rfl rfl rfl ?_ | refine R_pass_undef rfl rfl rfl ?_ | refine R_guard rfl rfl rfl (op_pure (p_bin rfl rfl (b_geq (by first | assumption | exact decide_eq_true (by omega) | exact decide_eq_false (by omega) | rfl))) rfl ?_)
    refine R_cons rfl (op_pure (by first | exact p_pick_yes rfl rfl | exact p_pick_no rfl rfl | exact p_pick rfl rfl rfl) rfl ?_)
    refine R_nil ?_
    repeat (first | refine S_scope ?_ | refine S_label ?_ | refine E_noGoto_normal ?_ | refine E_noGoto_ret ?_ | refine E_noGoto_exit ?_ | refine S_yes rfl (by first | with_reducible rfl | decide) ?_ | refine S_no rfl (by first | with_reducible rfl | decide) ?_ | refine S_seq ?_ | refine E_seq ?_ | refine S_block ?_ | refine E_block_normal ?_ | refine S_skip ?_ | refine S_exit ?_ | refine S_ret ?_ | refine E_then_exit ?_ | refine E_then_ret ?_ | refine E_block_ret ?_ | refine E_block_exit ?_ | refine E_block_exit_other rfl ?_)
    refine S_region ?_
    refine R_cons rfl (op_pure (p_assign rfl) rfl ?_)
    refine R_nil ?_
    repeat (first | refine S_scope ?_ | refine S_label ?_ | refine E_noGoto_normal ?_ | refine E_noGoto_ret ?_ | refine E_noGoto_exit ?_ | refine S_yes rfl (by first | with_reducible rfl | decide) ?_ | refine S_no rfl (by first | with_reducible rfl | decide) ?_ | refine S_seq ?_ | refine E_seq ?_ | refine S_block ?_ | refine E_block_normal ?_ | refine S_skip ?_ | refine S_exit ?_ | refine S_ret ?_ | refine E_then_exit ?_ | refine E_then_ret ?_ | refine E_block_ret ?_ | refine E_block_exit ?_ | refine E_block_exit_other rfl ?_)
    exact E_ret1 rfl rfl fun w' hm => ⟨rfl, hm.below⟩
  have g3 : decide (at_ < 0) = false := decide_eq_false h3
  have g4 : decide ((64 : Int) ≤ at_) = true := decide_eq_true (by omega)
  repeat (first | refine S_scope ?_ | refine S_label ?_ | refine E_noGoto_normal ?_ | refine E_noGoto_ret ?_ | refine E_noGoto_exit ?_ | refine S_yes rfl (by first | with_reducible rfl | decide) ?_ | refine S_no rfl (by first | with_reducible rfl | decide) ?_ | refine S_seq ?_ | refine E_seq ?_ | refine S_block ?_ | refine E_block_normal ?_ | refine S_skip ?_ | refine S_exit ?_ | refine S_ret ?_ | refine E_then_exit ?_ | refine E_then_ret ?_ | refine E_block_ret ?_ | refine E_block_exit ?_ | refine E_block_exit_other rfl ?_)
  refine S_region ?_
  refine R_cons rfl (op_pure (p_assign rfl) rfl ?_)
  refine R_nil ?_
  repeat (first | refine S_scope ?_ | refine S_label ?_ | refine E_noGoto_normal ?_ | refine E_noGoto_ret ?_ | refine E_noGoto_exit ?_ | refine S_yes rfl (by first | with_reducible rfl | decide) ?_ | refine S_no rfl (by first | with_reducible rfl | decide) ?_ | refine S_seq ?_ | refine E_seq ?_ | refine S_block ?_ | refine E_block_normal ?_ | refine S_skip ?_ | refine S_exit ?_ | refine S_ret ?_ | refine E_then_exit ?_ | refine E_then_ret ?_ | refine E_block_ret ?_ | refine E_block_exit ?_ | refine E_block_exit_other rfl ?_)
  refine S_region ?_
  refine R_cons rfl (op_pure (p_move rfl) rfl ?_)
  refine R_cons rfl (op_pure (p_bin rfl rfl (b_lss g1)) rfl ?_)
  refine R_cons rfl (op_pure (p_move rfl) rfl ?_)
  first | refine R_pass rfl rfl rfl rfl ?_ | refine R_pass_undef rfl rfl rfl ?_ | refine R_guard rfl rfl rfl (op_pure (p_move rfl) rfl ?_)
  first | refine R_pass rfl rfl rfl rfl ?_ | refine R_pass_undef rfl rfl rfl ?_ | refine R_guard rfl rfl rfl (op_pure (p_move rfl) rfl ?_)
  first | refine R_pass rfl rfl rfl rfl ?_ | refine R_pass_undef rfl rfl rfl ?_ | refine R_guard rfl rfl rfl (op_pure (p_nilCheck rfl) rfl ?_)
  first | refine R_pass rfl rfl rfl rfl ?_ | refine R_pass_undef rfl rfl rfl ?_ | refine R_guard rfl rfl rfl (op_pure (by first | exact p_fieldAddr0 rfl fd_almonerref05_Disk_0 | exact p_fieldAddr rfl fd_almonerref05_Disk_0) rfl ?_)
  first | refine R_pass rfl rfl rfl rfl ?_ | refine R_pass_undef rfl rfl rfl ?_ | refine R_guard rfl rfl rfl (op_pure (p_load_base rfl sc_u8ss hbl (by simp) c0) rfl ?_)
  first | refine R_pass rfl rfl rfl rfl ?_ | refine R_pass_undef rfl rfl rfl ?_ | refine R_guard rfl rfl rfl (op_pure (p_len rfl slc_u8ss) rfl ?_)
  first | refine R_pass rfl rfl rfl rfl ?_ | refine R_pass_undef rfl rfl rfl ?_ | refine R_guard rfl rfl rfl (op_pure (p_bin rfl rfl (b_geq g2)) rfl ?_)
  refine R_cons rfl (op_pure (by first | exact p_pick_yes rfl rfl | exact p_pick_no rfl rfl | exact p_pick rfl rfl rfl) rfl ?_)
  refine R_cons rfl (op_pure (p_move rfl) rfl ?_)
  first | refine R_pass rfl rfl rfl rfl ?_ | refine R_pass_undef rfl rfl rfl ?_ | refine R_guard rfl rfl rfl (op_pure (p_move rfl) rfl ?_)
  first | refine R_pass rfl rfl rfl rfl ?_ | refine R_pass_undef rfl rfl rfl ?_ | refine R_guard rfl rfl rfl (op_pure (p_bin rfl rfl (b_lss g3)) rfl ?_)
  refine R_cons rfl (op_pure (by first | exact p_pick_yes rfl rfl | exact p_pick_no rfl rfl | exact p_pick rfl rfl rfl) rfl ?_)
  refine R_cons rfl (op_pure (p_move rfl) rfl ?_)
  first | refine R_pass rfl rfl rfl rfl ?_ | refine R_pass_undef rfl rfl rfl ?_ | refine R_guard rfl rfl rfl (op_pure (p_move rfl) rfl ?_)
  first | refine R_pass rfl rfl rfl rfl ?_ | refine R_pass_undef rfl rfl rfl ?_ | refine R_guard rfl rfl rfl (op_pure (p_bin rfl rfl (b_geq g4)) rfl ?_)
  refine R_cons rfl (op_pure (by first | exact p_pick_yes rfl rfl | exact p_pick_no rfl rfl | exact p_pick rfl rfl rfl) rfl ?_)
  refine R_nil ?_
  repeat (first | refine S_scope ?_ | refine S_label ?_ | refine E_noGoto_normal ?_ | refine E_noGoto_ret ?_ | refine E_noGoto_exit ?_ | refine S_yes rfl (by first | with_reducible rfl | decide) ?_ | refine S_no rfl (by first | with_reducible rfl | decide) ?_ | refine S_seq ?_ | refine E_seq ?_ | refine S_block ?_ | refine E_block_normal ?_ | refine S_skip ?_ | refine S_exit ?_ | refine S_ret ?_ | refine E_then_exit ?_ | refine E_then_ret ?_ | refine E_block_ret ?_ | refine E_block_exit ?_ | refine E_block_exit_other rfl ?_)
  refine S_region ?_
  refine R_cons rfl (op_pure (p_assign rfl) rfl ?_)
  refine R_nil ?_
  repeat (first | refine S_scope ?_ | refine S_label ?_ | refine E_noGoto_normal ?_ | refine E_noGoto_ret ?_ | refine E_noGoto_exit ?_ | refine S_yes rfl (by first | with_reducible rfl | decide) ?_ | refine S_no rfl (by first | with_reducible rfl | decide) ?_ | refine S_seq ?_ | refine E_seq ?_ | refine S_block ?_ | refine E_block_normal ?_ | refine S_skip ?_ | refine S_exit ?_ | refine S_ret ?_ | refine E_then_exit ?_ | refine E_then_ret ?_ | refine E_block_ret ?_ | refine E_block_exit ?_ | refine E_block_exit_other rfl ?_)
  exact E_ret1 rfl rfl fun w' hm => ⟨rfl, hm.below⟩
theorem rturn_blown (q : QS) (left : Int) (i at_ : Nat) (hi : i < 3) (hat : at_ < 64) (by_ : UInt8) (w : World)
    (hb : w.heap[q.br]? = some (.cells (q.row left true).toArray 124 (0, 0))) :
    Calls Try.prog 31 [.pointer (some ⟨q.br, 0, none⟩), .int .i64 (i : Int), .int .i64 (at_ : Int), .int .u8 (by_.toNat : Int)].toArray w fun e w' => e = .returned (.int .i64 9) ∧ Below w.heap.size w w' := by
  have hbl := (Array.getElem?_eq_some_iff.1 hb).1
  have c0 : w.cell? ⟨q.br, 0, none⟩ = some (.slice (some ⟨q.bS, 0, none⟩) 3 q.cS) := by rw [cell_of_row w q.br 0 _ _ _ hb]; rfl
  have c3 : w.cell? ⟨q.br, 3, none⟩ = some (.bool true) := by rw [cell_of_row w q.br 3 _ _ _ hb]; rfl
  have g1 : decide ((i : Int) < 0) = false := decide_eq_false (by omega)
  have g2 : decide ((3 : Int) ≤ (i : Int)) = false := decide_eq_false (by omega)
  have g3 : decide ((at_ : Int) < 0) = false := decide_eq_false (by omega)
  have g4 : decide ((64 : Int) ≤ (at_ : Int)) = false := decide_eq_false (by omega)
  refine enter Try.func31 rfl Try.ntmps31 (by simp) ?_
  repeat (first | refine S_scope ?_ | refine S_label ?_ | refine E_noGoto_normal ?_ | refine E_noGoto_ret ?_ | refine E_noGoto_exit ?_ | refine S_yes rfl (by first | with_reducible rfl | decide) ?_ | refine S_no rfl (by first | with_reducible rfl | decide) ?_ | refine S_seq ?_ | refine E_seq ?_ | refine S_block ?_ | refine E_block_normal ?_ | refine S_skip ?_ | refine S_exit ?_ | refine S_ret ?_ | refine E_then_exit ?_ | refine E_then_ret ?_ | refine E_block_ret ?_ | refine E_block_exit ?_ | refine E_block_exit_other rfl ?_)
  refine S_region ?_
  refine R_cons rfl (op_pure (p_assign rfl) rfl ?_)
  refine R_nil ?_
  repeat (first | refine S_scope ?_ | refine S_label ?_ | refine E_noGoto_normal ?_ | refine E_noGoto_ret ?_ | refine E_noGoto_exit ?_ | refine S_yes rfl (by first | with_reducible rfl | decide) ?_ | refine S_no rfl (by first | with_reducible rfl | decide) ?_ | refine S_seq ?_ | refine E_seq ?_ | refine S_block ?_ | refine E_block_normal ?_ | refine S_skip ?_ | refine S_exit ?_ | refine S_ret ?_ | refine E_then_exit ?_ | refine E_then_ret ?_ | refine E_block_ret ?_ | refine E_block_exit ?_ | refine E_block_exit_other rfl ?_)
  refine S_region ?_
  refine R_cons rfl (op_pure (p_move rfl) rfl ?_)
  refine R_cons rfl (op_pure (p_bin rfl rfl (b_lss g1)) rfl ?_)
  refine R_cons rfl (op_pure (p_move rfl) rfl ?_)
  first | refine R_pass rfl rfl rfl rfl ?_ | refine R_pass_undef rfl rfl rfl ?_ | refine R_guard rfl rfl rfl (op_pure (p_move rfl) rfl ?_)
  first | refine R_pass rfl rfl rfl rfl ?_ | refine R_pass_undef rfl rfl rfl ?_ | refine R_guard rfl rfl rfl (op_pure (p_move rfl) rfl ?_)
  first | refine R_pass rfl rfl rfl rfl ?_ | refine R_pass_undef rfl rfl rfl ?_ | refine R_guard rfl rfl rfl (op_pure (p_nilCheck rfl) rfl ?_)
  first | refine R_pass rfl rfl rfl rfl ?_ | refine R_pass_undef rfl rfl rfl ?_ | refine R_guard rfl rfl rfl (op_pure (by first | exact p_fieldAddr0 rfl fd_almonerref05_Disk_0 | exact p_fieldAddr rfl fd_almonerref05_Disk_0) rfl ?_)
  first | refine R_pass rfl rfl rfl rfl ?_ | refine R_pass_undef rfl rfl rfl ?_ | refine R_guard rfl rfl rfl (op_pure (p_load_base rfl sc_u8ss hbl (by simp) c0) rfl ?_)
  first | refine R_pass rfl rfl rfl rfl ?_ | refine R_pass_undef rfl rfl rfl ?_ | refine R_guard rfl rfl rfl (op_pure (p_len rfl slc_u8ss) rfl ?_)
  first | refine R_pass rfl rfl rfl rfl ?_ | refine R_pass_undef rfl rfl rfl ?_ | refine R_guard rfl rfl rfl (op_pure (p_bin rfl rfl (b_geq g2)) rfl ?_)
  refine R_cons rfl (op_pure (by first | exact p_pick_yes rfl rfl | exact p_pick_no rfl rfl | exact p_pick rfl rfl rfl) rfl ?_)
  refine R_cons rfl (op_pure (p_move rfl) rfl ?_)
  first | refine R_pass rfl rfl rfl rfl ?_ | refine R_pass_undef rfl rfl rfl ?_ | refine R_guard rfl rfl rfl (op_pure (p_move rfl) rfl ?_)
  first | refine R_pass rfl rfl rfl rfl ?_ | refine R_pass_undef rfl rfl rfl ?_ | refine R_guard rfl rfl rfl (op_pure (p_bin rfl rfl (b_lss g3)) rfl ?_)
  refine R_cons rfl (op_pure (by first | exact p_pick_yes rfl rfl | exact p_pick_no rfl rfl | exact p_pick rfl rfl rfl) rfl ?_)
  refine R_cons rfl (op_pure (p_move rfl) rfl ?_)
  first | refine R_pass rfl rfl rfl rfl ?_ | refine R_pass_undef rfl rfl rfl ?_ | refine R_guard rfl rfl rfl (op_pure (p_move rfl) rfl ?_)
  first | refine R_pass rfl rfl rfl rfl ?_ | refine R_pass_undef rfl rfl rfl ?_ | refine R_guard rfl rfl rfl (op_pure (p_bin rfl rfl (b_geq g4)) rfl ?_)
  refine R_cons rfl (op_pure (by first | exact p_pick_yes rfl rfl | exact p_pick_no rfl rfl | exact p_pick rfl rfl rfl) rfl ?_)
  refine R_nil ?_
  repeat (first | refine S_scope ?_ | refine S_label ?_ | refine E_noGoto_normal ?_ | refine E_noGoto_ret ?_ | refine E_noGoto_exit ?_ | refine S_yes rfl (by first | with_reducible rfl | decide) ?_ | refine S_no rfl (by first | with_reducible rfl | decide) ?_ | refine S_seq ?_ | refine E_seq ?_ | refine S_block ?_ | refine E_block_normal ?_ | refine S_skip ?_ | refine S_exit ?_ | refine S_ret ?_ | refine E_then_exit ?_ | refine E_then_ret ?_ | refine E_block_ret ?_ | refine E_block_exit ?_ | refine E_block_exit_other rfl ?_)
  refine S_region ?_
  refine R_cons rfl (op_pure (p_move rfl) rfl ?_)
  refine R_cons rfl (op_pure (p_nilCheck rfl) rfl ?_)
  refine R_cons rfl (op_pure (by first | exact p_fieldAddr0 rfl fd_almonerref05_Disk_3 | exact p_fieldAddr rfl fd_almonerref05_Disk_3) rfl ?_)
  refine R_cons rfl (op_pure (p_load_base rfl sc_bool hbl (by simp) c3) rfl ?_)
  refine R_nil ?_
  repeat (first | refine S_scope ?_ | refine S_label ?_ | refine E_noGoto_normal ?_ | refine E_noGoto_ret ?_ | refine E_noGoto_exit ?_ | refine S_yes rfl (by first | with_reducible rfl | decide) ?_ | refine S_no rfl (by first | with_reducible rfl | decide) ?_ | refine S_seq ?_ | refine E_seq ?_ | refine S_block ?_ | refine E_block_normal ?_ | refine S_skip ?_ | refine S_exit ?_ | refine S_ret ?_ | refine E_then_exit ?_ | refine E_then_ret ?_ | refine E_block_ret ?_ | refine E_block_exit ?_ | refine E_block_exit_other rfl ?_)
  refine S_region ?_
  refine R_cons rfl (op_pure (p_assign rfl) rfl ?_)
  refine R_nil ?_
  repeat (first | refine S_scope ?_ | refine S_label ?_ | refine E_noGoto_normal ?_ | refine E_noGoto_ret ?_ | refine E_noGoto_exit ?_ | refine S_yes rfl (by first | with_reducible rfl | decide) ?_ | refine S_no rfl (by first | with_reducible rfl | decide) ?_ | refine S_seq ?_ | refine E_seq ?_ | refine S_block ?_ | refine E_block_normal ?_ | refine S_skip ?_ | refine S_exit ?_ | refine S_ret ?_ | refine E_then_exit ?_ | refine E_then_ret ?_ | refine E_block_ret ?_ | refine E_block_exit ?_ | refine E_block_exit_other rfl ?_)
  exact E_ret1 rfl rfl fun w' hm => ⟨rfl, hm.below⟩
set_option maxHeartbeats 2000000 in
theorem rturnG (q : QS) (left : Int) (i at_ : Nat) (hi : i < 3) (hat : at_ < 64) (by_ : UInt8) (hlb : lbOk q.lb q.ws) (hwn : q.ws.length ≤ 1000) (h3 : q.su.length = 3) (hws : RwsOk q.ws) (w : World) (hsu : ∀ r ∈ q.su, r.at_ w) (hwsa : ∀ v ∈ q.ws, v.2.at_ w) (hm : Mem w.heap.size ⟨w, (refH q left false).map (·.1)⟩ (refH q left false) w) :
    Calls Try.prog 31 [.pointer (some ⟨q.br, 0, none⟩), .int .i64 (i : Int), .int .i64 (at_ : Int), .int .u8 (by_.toNat : Int)].toArray w fun e w' => ∃ r : RS, e = .returned (.int .i64 0) ∧ Mem w.heap.size ⟨w, (refH q left false).map (·.1)⟩ (r.ob :: refH ⟨q.br, q.bS, q.cS, q.spS, none, (syncQ q.su q.ws).set i r, []⟩ left false) w' ∧ ∃ r1, (syncQ q.su q.ws)[i]? = some r1 ∧ r1.x.length = 64 ∧ r.x = r1.x.set at_ (r1.x.getD at_ 0 ^^^ by_) := by
  have hsl : (syncQ q.su q.ws).length = 3 := by rw [syncQ_length, h3]
  obtain ⟨r1, hr1⟩ : ∃ r1, (syncQ q.su q.ws)[i]? = some r1 := ⟨_, List.getElem?_eq_getElem (by rw [hsl]; exact hi)⟩
  have hr1a := syncQ_mem q.ws (RS.at_ w) hwsa q.su hsu r1 (List.mem_of_getElem? hr1)
  have hnd := ref_notdata hm hr1a
  have hrd : Reads w (some ⟨r1.b, 0, none⟩) 64 (bytesV r1.x) := by
    have h := reads_pre hr1a.1
    rwa [bytesV_length, hr1a.2] at h
  have hxl := hr1a.2
  have g1 : decide ((i : Int) < 0) = false := decide_eq_false (by omega)
  have g2 : decide ((3 : Int) ≤ (i : Int)) = false := decide_eq_false (by omega)
  have g3 : decide ((at_ : Int) < 0) = false := decide_eq_false (by omega)
  have g4 : decide ((64 : Int) ≤ (at_ : Int)) = false := decide_eq_false (by omega)
  refine enter_at Try.func31 rfl Try.ntmps31 (by simp) hm ?_
  unfold refH
  repeat (first | refine S_scope ?_ | refine S_label ?_ | refine E_noGoto_normal ?_ | refine E_noGoto_ret ?_ | refine E_noGoto_exit ?_ | refine S_yes rfl (by first | with_reducible rfl | decide) ?_ | refine S_no rfl (by first | with_reducible rfl | decide) ?_ | refine S_seq ?_ | refine E_seq ?_ | refine S_block ?_ | refine E_block_normal ?_ | refine S_skip ?_ | refine S_exit ?_ | refine S_ret ?_ | refine E_then_exit ?_ | refine E_then_ret ?_ | refine E_block_ret ?_ | refine E_block_exit ?_ | refine E_block_exit_other rfl ?_)
  refine S_region ?_
  refine R_cons rfl (op_pure (p_assign rfl) rfl ?_)
  refine R_nil ?_
  repeat (first | refine S_scope ?_ | refine S_label ?_ | refine E_noGoto_normal ?_ | refine E_noGoto_ret ?_ | refine E_noGoto_exit ?_ | refine S_yes rfl (by first | with_reducible rfl | decide) ?_ | refine S_no rfl (by first | with_reducible rfl | decide) ?_ | refine S_seq ?_ | refine E_seq ?_ | refine S_block ?_ | refine E_block_normal ?_ | refine S_skip ?_ | refine S_exit ?_ | refine S_ret ?_ | refine E_then_exit ?_ | refine E_then_ret ?_ | refine E_block_ret ?_ | refine E_block_exit ?_ | refine E_block_exit_other rfl ?_)
  refine S_region ?_
  refine R_cons rfl (op_pure (p_move rfl) rfl ?_)
  refine R_cons rfl (op_pure (p_bin rfl rfl (b_lss g1)) rfl ?_)
  refine R_cons rfl (op_pure (p_move rfl) rfl ?_)
  first | refine R_pass rfl rfl rfl rfl ?_ | refine R_pass_undef rfl rfl rfl ?_ | refine R_guard rfl rfl rfl (op_pure (p_move rfl) rfl ?_)
  first | refine R_pass rfl rfl rfl rfl ?_ | refine R_pass_undef rfl rfl rfl ?_ | refine R_guard rfl rfl rfl (op_pure (p_move rfl) rfl ?_)
  first | refine R_pass rfl rfl rfl rfl ?_ | refine R_pass_undef rfl rfl rfl ?_ | refine R_guard rfl rfl rfl (op_pure (p_nilCheck rfl) rfl ?_)
  first | refine R_pass rfl rfl rfl rfl ?_ | refine R_pass_undef rfl rfl rfl ?_ | refine R_guard rfl rfl rfl (op_pure (by first | exact p_fieldAddr0 rfl fd_almonerref05_Disk_0 | exact p_fieldAddr rfl fd_almonerref05_Disk_0) rfl ?_)
  first | refine R_pass rfl rfl rfl rfl ?_ | refine R_pass_undef rfl rfl rfl ?_ | refine R_guard rfl rfl rfl (op_pure (p_load rfl sc_u8ss (by repeat (first | exact List.Mem.head _ | apply List.Mem.tail)) (by rfl)) rfl ?_)
  first | refine R_pass rfl rfl rfl rfl ?_ | refine R_pass_undef rfl rfl rfl ?_ | refine R_guard rfl rfl rfl (op_pure (p_len rfl slc_u8ss) rfl ?_)
  first | refine R_pass rfl rfl rfl rfl ?_ | refine R_pass_undef rfl rfl rfl ?_ | refine R_guard rfl rfl rfl (op_pure (p_bin rfl rfl (b_geq g2)) rfl ?_)
  refine R_cons rfl (op_pure (by first | exact p_pick_yes rfl rfl | exact p_pick_no rfl rfl | exact p_pick rfl rfl rfl) rfl ?_)
  refine R_cons rfl (op_pure (p_move rfl) rfl ?_)
  first | refine R_pass rfl rfl rfl rfl ?_ | refine R_pass_undef rfl rfl rfl ?_ | refine R_guard rfl rfl rfl (op_pure (p_move rfl) rfl ?_)
  first | refine R_pass rfl rfl rfl rfl ?_ | refine R_pass_undef rfl rfl rfl ?_ | refine R_guard rfl rfl rfl (op_pure (p_bin rfl rfl (b_lss g3)) rfl ?_)
  refine R_cons rfl (op_pure (by first | exact p_pick_yes rfl rfl | exact p_pick_no rfl rfl | exact p_pick rfl rfl rfl) rfl ?_)
  refine R_cons rfl (op_pure (p_move rfl) rfl ?_)
  first | refine R_pass rfl rfl rfl rfl ?_ | refine R_pass_undef rfl rfl rfl ?_ | refine R_guard rfl rfl rfl (op_pure (p_move rfl) rfl ?_)
  first | refine R_pass rfl rfl rfl rfl ?_ | refine R_pass_undef rfl rfl rfl ?_ | refine R_guard rfl rfl rfl (op_pure (p_bin rfl rfl (b_geq g4)) rfl ?_)
  refine R_cons rfl (op_pure (by first | exact p_pick_yes rfl rfl | exact p_pick_no rfl rfl | exact p_pick rfl rfl rfl) rfl ?_)
  refine R_nil ?_
  repeat (first | refine S_scope ?_ | refine S_label ?_ | refine E_noGoto_normal ?_ | refine E_noGoto_ret ?_ | refine E_noGoto_exit ?_ | refine S_yes rfl (by first | with_reducible rfl | decide) ?_ | refine S_no rfl (by first | with_reducible rfl | decide) ?_ | refine S_seq ?_ | refine E_seq ?_ | refine S_block ?_ | refine E_block_normal ?_ | refine S_skip ?_ | refine S_exit ?_ | refine S_ret ?_ | refine E_then_exit ?_ | refine E_then_ret ?_ | refine E_block_ret ?_ | refine E_block_exit ?_ | refine E_block_exit_other rfl ?_)
  refine S_region ?_
  refine R_cons rfl (op_pure (p_move rfl) rfl ?_)
  refine R_cons rfl (op_pure (p_nilCheck rfl) rfl ?_)
  refine R_cons rfl (op_pure (by first | exact p_fieldAddr0 rfl fd_almonerref05_Disk_3 | exact p_fieldAddr rfl fd_almonerref05_Disk_3) rfl ?_)
  refine R_cons rfl (op_pure (p_load rfl sc_bool (by repeat (first | exact List.Mem.head _ | apply List.Mem.tail)) (by rfl)) rfl ?_)
  refine R_nil ?_
  repeat (first | refine S_scope ?_ | refine S_label ?_ | refine E_noGoto_normal ?_ | refine E_noGoto_ret ?_ | refine E_noGoto_exit ?_ | refine S_yes rfl (by first | with_reducible rfl | decide) ?_ | refine S_no rfl (by first | with_reducible rfl | decide) ?_ | refine S_seq ?_ | refine E_seq ?_ | refine S_block ?_ | refine E_block_normal ?_ | refine S_skip ?_ | refine S_exit ?_ | refine S_ret ?_ | refine E_then_exit ?_ | refine E_then_ret ?_ | refine E_block_ret ?_ | refine E_block_exit ?_ | refine E_block_exit_other rfl ?_)
  refine S_region ?_
  refine R_cons rfl (op_pure (p_move rfl) rfl ?_)
  refine R_cons rfl (op_callX (fun _ : Unit => .tuple #[]) (fun _ => refH ⟨q.br, q.bS, q.cS, q.spS, none, syncQ q.su q.ws, []⟩ left false) (fun _ => True) (Hc := refH q left false) (K := []) rfl rfl Try.func69 rfl (by kernel_rfl) rfl (by rw [List.append_nil]; exact List.Perm.refl _) (fun w' hm => rsync q left false hlb hwn h3 hws w' hm) (fun _ _ => ?_))
  refine R_nil ?_
  repeat (first | refine S_scope ?_ | refine S_label ?_ | refine E_noGoto_normal ?_ | refine E_noGoto_ret ?_ | refine E_noGoto_exit ?_ | refine S_yes rfl (by first | with_reducible rfl | decide) ?_ | refine S_no rfl (by first | with_reducible rfl | decide) ?_ | refine S_seq ?_ | refine E_seq ?_ | refine S_block ?_ | refine E_block_normal ?_ | refine S_skip ?_ | refine S_exit ?_ | refine S_ret ?_ | refine E_then_exit ?_ | refine E_then_ret ?_ | refine E_block_ret ?_ | refine E_block_exit ?_ | refine E_block_exit_other rfl ?_)
  rw [List.append_nil]
  unfold refH QS.row
  dsimp only [lbHp, lbVal, List.length_nil]
  refine S_region ?_
  refine R_cons rfl (op_pure (p_move rfl) rfl ?_)
  refine R_cons rfl (op_pure (p_nilCheck rfl) rfl ?_)
  refine R_cons rfl (op_pure (by first | exact p_fieldAddr0 rfl fd_almonerref05_Disk_0 | exact p_fieldAddr rfl fd_almonerref05_Disk_0) rfl ?_)
  refine R_cons rfl (op_pure (p_load rfl sc_u8ss (by repeat (first | exact List.Mem.head _ | apply List.Mem.tail)) (by rfl)) rfl ?_)
  refine R_cons rfl (op_pure (p_move rfl) rfl ?_)
  refine R_cons rfl (op_pure (p_indexSl (j := i) rfl rfl rfl slc_u8ss hi) rfl ?_)
  refine R_cons rfl (op_pure (p_load rfl sc_u8s (by repeat (first | exact List.Mem.head _ | apply List.Mem.tail)) (suV_cell _ _ i r1 hr1)) rfl ?_)
  refine R_cons rfl (op_appendBuf (u := none) (xs := []) (ys := r1.x) rfl rfl slc_u8s.1 el_u8 (by repeat (first | exact DelB.tail | exact DelB.no rfl | exact DelB.at_ rfl (by repeat (first | exact Del.here | apply Del.there)) | apply DelB.there)) (by trivial) (fun w' hm => hrd.other (fun _ b off e => by cases e; exact hnd) hm) (by rw [List.length_nil, hxl]; omega) rfl (Nat.le_refl _) (fun u hu hun => ?_))
  refine R_cons rfl (op_pure (p_assign rfl) rfl ?_)
  refine R_nil ?_
  repeat (first | refine S_scope ?_ | refine S_label ?_ | refine E_noGoto_normal ?_ | refine E_noGoto_ret ?_ | refine E_noGoto_exit ?_ | refine S_yes rfl (by first | with_reducible rfl | decide) ?_ | refine S_no rfl (by first | with_reducible rfl | decide) ?_ | refine S_seq ?_ | refine E_seq ?_ | refine S_block ?_ | refine E_block_normal ?_ | refine S_skip ?_ | refine S_exit ?_ | refine S_ret ?_ | refine E_then_exit ?_ | refine E_then_ret ?_ | refine E_block_ret ?_ | refine E_block_exit ?_ | refine E_block_exit_other rfl ?_)
  rw [List.nil_append] at hu
  obtain ⟨g, sp, rfl⟩ := Buf.some_of hu (by rw [hxl]; omega)
  have he : Buf.val (some (g, sp)) ([] ++ r1.x) = .slice (some ⟨g, 0, none⟩) r1.x.length (Buf.cap (some (g, sp)) r1.x) := by unfold Buf.val Buf.addr; rfl
  have hhp : Buf.hp (some (g, sp)) 5 ([] ++ r1.x) = [(g, .cells (bytesV r1.x ++ sp).toArray 5 (0, 0))] := by unfold Buf.hp; rfl
  rw [he, hhp]
  simp only [List.cons_append, List.nil_append]
  have hp : at_ < r1.x.length := by omega
  have hcell := bytes_cell r1.x sp at_ hp
  have hset := bytes_set r1.x sp at_ (r1.x.getD at_ 0 ^^^ by_) hp
  refine S_region ?_
  refine R_cons rfl (op_pure (p_move rfl) rfl ?_)
  refine R_cons rfl (op_pure (p_move rfl) rfl ?_)
  refine R_cons rfl (op_pure (p_move rfl) rfl ?_)
  refine R_cons rfl (op_pure (p_move rfl) rfl ?_)
  refine R_cons rfl (op_pure (p_indexSl (j := at_) rfl rfl rfl slc_u8s hp) rfl ?_)
  refine R_cons rfl (op_pure (p_load rfl sc_u8 (by repeat (first | exact List.Mem.head _ | apply List.Mem.tail)) hcell) rfl ?_)
  refine R_cons rfl (op_pure (p_move rfl) rfl ?_)
  refine R_cons rfl (op_pure (p_bin rfl rfl (b_xor (k8_xor _ _))) rfl ?_)
  refine R_cons rfl (op_pure (p_indexSl (j := at_) rfl rfl rfl slc_u8s hp) rfl ?_)
  refine R_cons rfl (op_store rfl rfl rfl sc_u8 (by repeat (first | exact At.here | apply At.there)) (by rw [List.length_append, bytesV_length]; omega) ?_)
  refine R_nil ?_
  repeat (first | refine S_scope ?_ | refine S_label ?_ | refine E_noGoto_normal ?_ | refine E_noGoto_ret ?_ | refine E_noGoto_exit ?_ | refine S_yes rfl (by first | with_reducible rfl | decide) ?_ | refine S_no rfl (by first | with_reducible rfl | decide) ?_ | refine S_seq ?_ | refine E_seq ?_ | refine S_block ?_ | refine E_block_normal ?_ | refine S_skip ?_ | refine S_exit ?_ | refine S_ret ?_ | refine E_then_exit ?_ | refine E_then_ret ?_ | refine E_block_ret ?_ | refine E_block_exit ?_ | refine E_block_exit_other rfl ?_)
  rw [hset]
  have hsets := suV_set (syncQ q.su q.ws) q.spS i ⟨g, Buf.cap (some (g, sp)) r1.x, sp, r1.x.set at_ (r1.x.getD at_ 0 ^^^ by_)⟩ (by omega)
  have hv : Value.slice (some ⟨g, 0, none⟩) r1.x.length (Buf.cap (some (g, sp)) r1.x) = RS.val ⟨g, Buf.cap (some (g, sp)) r1.x, sp, r1.x.set at_ (r1.x.getD at_ 0 ^^^ by_)⟩ := by unfold RS.val; rw [hxl]
  refine S_region ?_
  refine R_cons rfl (op_pure (p_move rfl) rfl ?_)
  refine R_cons rfl (op_pure (p_nilCheck rfl) rfl ?_)
  refine R_cons rfl (op_pure (by first | exact p_fieldAddr0 rfl fd_almonerref05_Disk_0 | exact p_fieldAddr rfl fd_almonerref05_Disk_0) rfl ?_)
  refine R_cons rfl (op_pure (p_load rfl sc_u8ss (by repeat (first | exact List.Mem.head _ | apply List.Mem.tail)) (by rfl)) rfl ?_)
  refine R_cons rfl (op_pure (p_move rfl) rfl ?_)
  refine R_cons rfl (op_pure (p_move rfl) rfl ?_)
  refine R_cons rfl (op_pure (p_indexSl (j := i) rfl rfl rfl slc_u8ss hi) rfl ?_)
  refine R_cons rfl (op_store rfl rfl rfl sc_u8s (by repeat (first | exact At.here | apply At.there)) (by rw [List.length_append, suV_length, hsl]; omega) ?_)
  refine R_nil ?_
  repeat (first | refine S_scope ?_ | refine S_label ?_ | refine E_noGoto_normal ?_ | refine E_noGoto_ret ?_ | refine E_noGoto_exit ?_ | refine S_yes rfl (by first | with_reducible rfl | decide) ?_ | refine S_no rfl (by first | with_reducible rfl | decide) ?_ | refine S_seq ?_ | refine E_seq ?_ | refine S_block ?_ | refine E_block_normal ?_ | refine S_skip ?_ | refine S_exit ?_ | refine S_ret ?_ | refine E_then_exit ?_ | refine E_then_ret ?_ | refine E_block_ret ?_ | refine E_block_exit ?_ | refine E_block_exit_other rfl ?_)
  refine S_region ?_
  refine R_cons rfl (op_pure (p_assign rfl) rfl ?_)
  refine R_nil ?_
  repeat (first | refine S_scope ?_ | refine S_label ?_ | refine E_noGoto_normal ?_ | refine E_noGoto_ret ?_ | refine E_noGoto_exit ?_ | refine S_yes rfl (by first | with_reducible rfl | decide) ?_ | refine S_no rfl (by first | with_reducible rfl | decide) ?_ | refine S_seq ?_ | refine E_seq ?_ | refine S_block ?_ | refine E_block_normal ?_ | refine S_skip ?_ | refine S_exit ?_ | refine S_ret ?_ | refine E_then_exit ?_ | refine E_then_ret ?_ | refine E_block_ret ?_ | refine E_block_exit ?_ | refine E_block_exit_other rfl ?_)
  rw [hv, hsets]
  exact E_ret1 rfl rfl fun w' hm => ⟨⟨g, Buf.cap (some (g, sp)) r1.x, sp, r1.x.set at_ (r1.x.getD at_ 0 ^^^ by_)⟩, rfl, hm.perm (List.perm_append_comm (l₁ := [_, _]) (l₂ := [_])), r1, hr1, hxl, rfl⟩
/-- the slice of the sectors, while it grows -/
def suVal (ob : Option (Nat × Nat × List Value)) (n : Nat) : Value :=
  match ob with
  | none => .slice none 0 0
  | some (b, c, _) => .slice (some ⟨b, 0, none⟩) n c
def suHp (ob : Option (Nat × Nat × List Value)) (su : List RS) : Hp :=
  match ob with
  | none => []
  | some (b, _, sp) => [(b, .cells (suV su ++ sp).toArray 40 (0, 0))]
def suOk (ob : Option (Nat × Nat × List Value)) (su : List RS) : Prop :=
  match ob with
  | none => su = []
  | some (_, c, sp) => (suV su ++ sp).length = c * 1 ∧ su.length ≤ c ∧ c ≤ maxLen
set_option maxHeartbeats 4000000 in
theorem rnew (w : World) :
    Calls Try.prog 27 [.int .i64 3].toArray w fun e w' => ∃ s : Nat × (Nat × Nat × List Value) × Nat × Nat × Nat, e = .returned (Value.tuple ([Value.pointer (some ⟨s.1, 0, none⟩), Value.int .i64 0] : List Value).toArray) ∧ Mem w.heap.size ⟨w, []⟩ (refH ⟨s.1, s.2.1.1, s.2.1.2.1, s.2.1.2.2, none, [⟨s.2.2.1, 64, [], List.replicate 64 0⟩, ⟨s.2.2.2.1, 64, [], List.replicate 64 0⟩, ⟨s.2.2.2.2, 64, [], List.replicate 64 0⟩], []⟩ (-1) false ++ [RS.ob ⟨s.2.2.1, 64, [], List.replicate 64 0⟩, RS.ob ⟨s.2.2.2.1, 64, [], List.replicate 64 0⟩, RS.ob ⟨s.2.2.2.2, 64, [], List.replicate 64 0⟩]) w' ∧ True := by
  refine enter Try.func27 rfl Try.ntmps27 (by simp) ?_
  repeat (first | refine S_scope ?_ | refine S_label ?_ | refine E_noGoto_normal ?_ | refine E_noGoto_ret ?_ | refine E_noGoto_exit ?_ | refine S_yes rfl (by first | with_reducible rfl | decide) ?_ | refine S_no rfl (by first | with_reducible rfl | decide) ?_ | refine S_seq ?_ | refine E_seq ?_ | refine S_block ?_ | refine E_block_normal ?_ | refine S_skip ?_ | refine S_exit ?_ | refine S_ret ?_ | refine E_then_exit ?_ | refine E_then_ret ?_ | refine E_block_ret ?_ | refine E_block_exit ?_ | refine E_block_exit_other rfl ?_)
  refine S_region ?_
  refine R_cons rfl (op_pure (p_assign rfl) rfl ?_)
  refine R_cons rfl (op_pure (p_assign rfl) rfl ?_)
  refine R_nil ?_
  repeat (first | refine S_scope ?_ | refine S_label ?_ | refine E_noGoto_normal ?_ | refine E_noGoto_ret ?_ | refine E_noGoto_exit ?_ | refine S_yes rfl (by first | with_reducible rfl | decide) ?_ | refine S_no rfl (by first | with_reducible rfl | decide) ?_ | refine S_seq ?_ | refine E_seq ?_ | refine S_block ?_ | refine E_block_normal ?_ | refine S_skip ?_ | refine S_exit ?_ | refine S_ret ?_ | refine E_then_exit ?_ | refine E_then_ret ?_ | refine E_block_ret ?_ | refine E_block_exit ?_ | refine E_block_exit_other rfl ?_)
  refine S_region ?_
  refine R_cons rfl (op_pure (p_move rfl) rfl ?_)
  refine R_cons rfl (op_pure (p_bin rfl rfl (b_lss (by first | assumption | exact decide_eq_true (by omega) | exact decide_eq_false (by omega) | rfl))) rfl ?_)
  refine R_cons rfl (op_pure (p_move rfl) rfl ?_)
  first | refine R_pass rfl rfl rfl rfl ?_ | refine R_pass_undef rfl rfl rfl ?_ | refine R_guard rfl rfl rfl (op_pure (p_move rfl) rfl ?_)
  first | refine R_pass rfl rfl rfl rfl ?_ | refine R_pass_undef rfl rfl rfl ?_ | refine R_guard rfl rfl rfl (op_pure (p_bin rfl rfl (b_gtr (by first | assumption | exact decide_eq_true (by omega) | exact decide_eq_false (by omega) | rfl))) rfl ?_)
  refine R_cons rfl (op_pure (by first | exact p_pick_yes rfl rfl | exact p_pick_no rfl rfl | exact p_pick rfl rfl rfl) rfl ?_)
  refine R_nil ?_
  repeat (first | refine S_scope ?_ | refine S_label ?_ | refine E_noGoto_normal ?_ | refine E_noGoto_ret ?_ | refine E_noGoto_exit ?_ | refine S_yes rfl (by first | with_reducible rfl | decide) ?_ | refine S_no rfl (by first | with_reducible rfl | decide) ?_ | refine S_seq ?_ | refine E_seq ?_ | refine S_block ?_ | refine E_block_normal ?_ | refine S_skip ?_ | refine S_exit ?_ | refine S_ret ?_ | refine E_then_exit ?_ | refine E_then_ret ?_ | refine E_block_ret ?_ | refine E_block_exit ?_ | refine E_block_exit_other rfl ?_)
  refine S_region ?_
  refine R_cons rfl (op_pure (p_build (ps := [(2, .const (.int .i64 (-1)))]) (cs := refC (.slice none 0 0) (.slice none 0 0) (-1) false) rfl (by kernel_rfl)) rfl ?_)
  refine R_cons rfl (op_boxRow rfl rfl (Nat.le_refl _) (fun b13 => ?_))
  refine R_cons rfl (op_pure (p_assign rfl) rfl ?_)
  refine R_nil ?_
  repeat (first | refine S_scope ?_ | refine S_label ?_ | refine E_noGoto_normal ?_ | refine E_noGoto_ret ?_ | refine E_noGoto_exit ?_ | refine S_yes rfl (by first | with_reducible rfl | decide) ?_ | refine S_no rfl (by first | with_reducible rfl | decide) ?_ | refine S_seq ?_ | refine E_seq ?_ | refine S_block ?_ | refine E_block_normal ?_ | refine S_skip ?_ | refine S_exit ?_ | refine S_ret ?_ | refine E_then_exit ?_ | refine E_then_ret ?_ | refine E_block_ret ?_ | refine E_block_exit ?_ | refine E_block_exit_other rfl ?_)
  refine S_region ?_
  refine R_cons rfl (op_pure (p_assign rfl) rfl ?_)
  refine R_nil ?_
  repeat (first | refine S_scope ?_ | refine S_label ?_ | refine E_noGoto_normal ?_ | refine E_noGoto_ret ?_ | refine E_noGoto_exit ?_ | refine S_yes rfl (by first | with_reducible rfl | decide) ?_ | refine S_no rfl (by first | with_reducible rfl | decide) ?_ | refine S_seq ?_ | refine E_seq ?_ | refine S_block ?_ | refine E_block_normal ?_ | refine S_skip ?_ | refine S_exit ?_ | refine S_ret ?_ | refine E_then_exit ?_ | refine E_then_ret ?_ | refine E_block_ret ?_ | refine E_block_exit ?_ | refine E_block_exit_other rfl ?_)
  refine S_loop (σ := Nat × Option (Nat × Nat × List Value) × List RS) (fun s => [(5, .int .i64 (s.1 : Int)), (4, .pointer (some ⟨b13, 0, none⟩)), (0, .int .i64 3)]) (fun s => (b13, .cells (refC (suVal s.2.1 s.2.2.length) (.slice none 0 0) (-1) false).toArray 124 (0, 0)) :: (suHp s.2.1 s.2.2 ++ s.2.2.map RS.ob)) (fun s => s.1 ≤ 3 ∧ s.2.2.length = s.1 ∧ suOk s.2.1 s.2.2 ∧ ∀ r ∈ s.2.2, r.c = 64 ∧ r.sp = [] ∧ r.x = List.replicate 64 0) (fun s => 3 - s.1) (0, none, []) ⟨Nat.zero_le _, rfl, rfl, fun r hr => by cases hr⟩ (by repeat (first | exact Sub.nil | refine Sub.cons rfl ?_)) (Fewer.refl _) ?_
  rintro ⟨j, ob, su⟩ ⟨hj, hsl, hob, hsu⟩
  dsimp only at hj hsl hob hsu ⊢
  by_cases hlt : j < 3
  · have g5 : decide ((j : Int) < 3) = true := decide_eq_true (by omega)
    have hinc : IntKind.i64.wrap ((j : Int) + 1) = ((j + 1 : Nat) : Int) := by rw [w_in_i64 (by omega)]; omega
    repeat (first | refine S_scope ?_ | refine S_label ?_ | refine E_noGoto_normal ?_ | refine E_noGoto_ret ?_ | refine E_noGoto_exit ?_ | refine S_yes rfl (by first | with_reducible rfl | decide) ?_ | refine S_no rfl (by first | with_reducible rfl | decide) ?_ | refine S_seq ?_ | refine E_seq ?_ | refine S_block ?_ | refine E_block_normal ?_ | refine S_skip ?_ | refine S_exit ?_ | refine S_ret ?_ | refine E_then_exit ?_ | refine E_then_ret ?_ | refine E_block_ret ?_ | refine E_block_exit ?_ | refine E_block_exit_other rfl ?_)
    refine S_region ?_
    refine R_cons rfl (op_pure (p_move rfl) rfl ?_)
    refine R_cons rfl (op_pure (p_move rfl) rfl ?_)
    refine R_cons rfl (op_pure (p_bin rfl rfl (b_lss g5)) rfl ?_)
    refine R_nil ?_
    repeat (first | refine S_scope ?_ | refine S_label ?_ | refine E_noGoto_normal ?_ | refine E_noGoto_ret ?_ | refine E_noGoto_exit ?_ | refine S_yes rfl (by first | with_reducible rfl | decide) ?_ | refine S_no rfl (by first | with_reducible rfl | decide) ?_ | refine S_seq ?_ | refine E_seq ?_ | refine S_block ?_ | refine E_block_normal ?_ | refine S_skip ?_ | refine S_exit ?_ | refine S_ret ?_ | refine E_then_exit ?_ | refine E_then_ret ?_ | refine E_block_ret ?_ | refine E_block_exit ?_ | refine E_block_exit_other rfl ?_)
    have hone : ∀ b : Nat, ∀ v ∈ [Value.slice (some ⟨b, 0, none⟩) 64 64], v.oneCell' = true := fun b => ones_cons rfl ones_nil
    refine S_cutE (σ := Nat × (Nat × Nat × List Value)) (fun t => [(5, .int .i64 (j : Int)), (4, .pointer (some ⟨b13, 0, none⟩)), (0, .int .i64 3)]) (fun t => (b13, .cells (refC (suVal (some t.2) (su.length + 1)) (.slice none 0 0) (-1) false).toArray 124 (0, 0)) :: (t.2.1, .cells (suV (su ++ [⟨t.1, 64, [], List.replicate 64 0⟩]) ++ t.2.2.2).toArray 40 (0, 0)) :: RS.ob ⟨t.1, 64, [], List.replicate 64 0⟩ :: su.map RS.ob) (fun t => suOk (some t.2) (su ++ [⟨t.1, 64, [], List.replicate 64 0⟩])) ?_ ?_
    · skip
      cases ob with
      | none =>
        have hs0 : su = [] := hob
        subst hs0
        dsimp only [suHp, suVal]
        simp only [List.nil_append]
        refine S_drawn (by kernel_rfl) .nil ?_
        refine D_take 0 rfl (by kernel_rfl) (by kernel_rfl) (by kernel_rfl) (by repeat (first | exact calm_body | exact calm_mid | apply calm_noGoto | exact calm_midE | apply calm_then | apply calm_block)) (p_move rfl) rfl ?_
        refine D_take 1 rfl (by kernel_rfl) (by kernel_rfl) (by kernel_rfl) (by repeat (first | exact calm_body | exact calm_mid | apply calm_noGoto | exact calm_midE | apply calm_then | apply calm_block)) (p_move rfl) rfl ?_
        refine D_take 2 rfl (by kernel_rfl) (by kernel_rfl) (by kernel_rfl) (by repeat (first | exact calm_body | exact calm_mid | apply calm_noGoto | exact calm_midE | apply calm_then | apply calm_block)) (p_nilCheck rfl) rfl ?_
        refine D_take 3 rfl (by kernel_rfl) (by kernel_rfl) (by kernel_rfl) (by repeat (first | exact calm_body | exact calm_mid | apply calm_noGoto | exact calm_midE | apply calm_then | apply calm_block)) (by first | exact p_fieldAddr0 rfl fd_almonerref05_Disk_0 | exact p_fieldAddr rfl fd_almonerref05_Disk_0) rfl ?_
        refine D_two 4 5 (by kernel_rfl) ?_ ?_
        · refine step_plain 4 rfl rfl (op_pure (p_load rfl sc_u8ss (by repeat (first | exact List.Mem.head _ | apply List.Mem.tail)) (by rfl)) rfl ?_)
          refine ⟨(by repeat (first | exact Fewer.nil | refine Fewer.keep rfl ?_ | refine Fewer.drop ?_ | exact Fewer.refl _ | exact Fewer.inl _ _ | (simp only [List.append_nil]; first | exact Fewer.inl _ _ | exact Fewer.refl _))), ?_⟩
          refine D_only 5 rfl (by kernel_rfl) rfl (op_makeSlice (l := 64) (c := 64) rfl rfl rfl rfl slc_u8s.1 el_u8 (by decide) (by decide) (by decide) rfl (Nat.le_refl _) (fun b => ?_))
          refine ⟨(by repeat (first | exact Fewer.nil | refine Fewer.keep rfl ?_ | refine Fewer.drop ?_ | exact Fewer.refl _ | exact Fewer.inl _ _ | (simp only [List.append_nil]; first | exact Fewer.inl _ _ | exact Fewer.refl _))), ?_⟩
          refine D_only 6 rfl (by kernel_rfl) rfl (op_buildSliceAll (n := 1) (ps := [(0, .tmp 24)]) rfl slc_u8ss.1 el_u8s (by decide) (by decide) (by kernel_rfl) rfl (Nat.le_refl _) (fun b25 => ?_))
          refine ⟨(by repeat (first | exact Fewer.nil | refine Fewer.keep rfl ?_ | refine Fewer.drop ?_ | exact Fewer.refl _ | exact Fewer.inl _ _ | (simp only [List.append_nil]; first | exact Fewer.inl _ _ | exact Fewer.refl _))), ?_⟩
          refine D_only 7 rfl (by kernel_rfl) rfl (op_appendNilR (s := 1) (bytes := 24) (m := 1) (ys := [.slice (some ⟨b, 0, none⟩) 64 64]) rfl rfl slc_u8ss.1 elr_u8s (by decide) (fun w' hm => hm.readsAll (b := b25) (n := 1) (cs := [.slice (some ⟨b, 0, none⟩) 64 64]) (by repeat (first | exact List.Mem.head _ | apply List.Mem.tail)) rfl) (hone b) (by decide) (by decide) (by decide) rfl (Nat.le_refl _) (fun b' c' s' h' i' j' => ?_))
          refine ⟨(by repeat (first | exact Fewer.nil | refine Fewer.keep rfl ?_ | refine Fewer.drop ?_ | exact Fewer.refl _ | exact Fewer.inl _ _ | (simp only [List.append_nil]; first | exact Fewer.inl _ _ | exact Fewer.refl _))), ?_⟩
          refine D_take 8 rfl (by kernel_rfl) (by kernel_rfl) (by kernel_rfl) (by repeat (first | exact calm_body | exact calm_mid | apply calm_noGoto | exact calm_midE | apply calm_then | apply calm_block)) (p_nilCheck rfl) rfl ?_
          refine D_take 9 rfl (by kernel_rfl) (by kernel_rfl) (by kernel_rfl) (by repeat (first | exact calm_body | exact calm_mid | apply calm_noGoto | exact calm_midE | apply calm_then | apply calm_block)) (by first | exact p_fieldAddr0 rfl fd_almonerref05_Disk_0 | exact p_fieldAddr rfl fd_almonerref05_Disk_0) rfl ?_
          refine D_only 10 rfl (by kernel_rfl) rfl (op_store rfl rfl rfl sc_u8ss (by repeat (first | exact At.here | apply At.there)) (by exact Nat.le_of_ble_eq_true rfl) ?_)
          refine ⟨(by repeat (first | exact Fewer.nil | refine Fewer.keep rfl ?_ | refine Fewer.drop ?_ | exact Fewer.refl _ | exact Fewer.inl _ _ | (simp only [List.append_nil]; first | exact Fewer.inl _ _ | exact Fewer.refl _))), ?_⟩
          refine D_done (by kernel_rfl) ?_
          exact E_midE (b, (b', c', s')) (by refine ⟨?_, i', j'⟩; unfold suV; exact h') (by repeat (first | exact Sub.nil | refine Sub.cons rfl ?_)) (by dsimp only [suVal]; unfold suV RS.ob RS.val; rw [bytesV_zeros]; simp only [List.append_nil, List.nil_append, List.map_cons, List.map_nil, List.length_nil, Nat.zero_add]; exact (by repeat (first | exact Fewer.nil | exact Fewer.refl _ | refine Fewer.pick rfl (by repeat (first | exact Del.here | apply Del.there)) ?_)))
        · refine step_plain 5 rfl rfl (op_makeSlice (l := 64) (c := 64) rfl rfl rfl rfl slc_u8s.1 el_u8 (by decide) (by decide) (by decide) rfl (Nat.le_refl _) (fun b => ?_))
          refine ⟨(by repeat (first | exact Fewer.nil | refine Fewer.keep rfl ?_ | refine Fewer.drop ?_ | exact Fewer.refl _ | exact Fewer.inl _ _ | (simp only [List.append_nil]; first | exact Fewer.inl _ _ | exact Fewer.refl _))), ?_⟩
          refine D_two 4 6 (by kernel_rfl) ?_ ?_
          · refine step_plain 4 rfl rfl (op_pure (p_load rfl sc_u8ss (by repeat (first | exact List.Mem.head _ | apply List.Mem.tail)) (by rfl)) rfl ?_)
            refine ⟨(by repeat (first | exact Fewer.nil | refine Fewer.keep rfl ?_ | refine Fewer.drop ?_ | exact Fewer.refl _ | exact Fewer.inl _ _ | (simp only [List.append_nil]; first | exact Fewer.inl _ _ | exact Fewer.refl _))), ?_⟩
            refine D_only 6 rfl (by kernel_rfl) rfl (op_buildSliceAll (n := 1) (ps := [(0, .tmp 24)]) rfl slc_u8ss.1 el_u8s (by decide) (by decide) (by kernel_rfl) rfl (Nat.le_refl _) (fun b25 => ?_))
            refine ⟨(by repeat (first | exact Fewer.nil | refine Fewer.keep rfl ?_ | refine Fewer.drop ?_ | exact Fewer.refl _ | exact Fewer.inl _ _ | (simp only [List.append_nil]; first | exact Fewer.inl _ _ | exact Fewer.refl _))), ?_⟩
            refine D_only 7 rfl (by kernel_rfl) rfl (op_appendNilR (s := 1) (bytes := 24) (m := 1) (ys := [.slice (some ⟨b, 0, none⟩) 64 64]) rfl rfl slc_u8ss.1 elr_u8s (by decide) (fun w' hm => hm.readsAll (b := b25) (n := 1) (cs := [.slice (some ⟨b, 0, none⟩) 64 64]) (by repeat (first | exact List.Mem.head _ | apply List.Mem.tail)) rfl) (hone b) (by decide) (by decide) (by decide) rfl (Nat.le_refl _) (fun b' c' s' h' i' j' => ?_))
            refine ⟨(by repeat (first | exact Fewer.nil | refine Fewer.keep rfl ?_ | refine Fewer.drop ?_ | exact Fewer.refl _ | exact Fewer.inl _ _ | (simp only [List.append_nil]; first | exact Fewer.inl _ _ | exact Fewer.refl _))), ?_⟩
            refine D_take 8 rfl (by kernel_rfl) (by kernel_rfl) (by kernel_rfl) (by repeat (first | exact calm_body | exact calm_mid | apply calm_noGoto | exact calm_midE | apply calm_then | apply calm_block)) (p_nilCheck rfl) rfl ?_
            refine D_take 9 rfl (by kernel_rfl) (by kernel_rfl) (by kernel_rfl) (by repeat (first | exact calm_body | exact calm_mid | apply calm_noGoto | exact calm_midE | apply calm_then | apply calm_block)) (by first | exact p_fieldAddr0 rfl fd_almonerref05_Disk_0 | exact p_fieldAddr rfl fd_almonerref05_Disk_0) rfl ?_
            refine D_only 10 rfl (by kernel_rfl) rfl (op_store rfl rfl rfl sc_u8ss (by repeat (first | exact At.here | apply At.there)) (by exact Nat.le_of_ble_eq_true rfl) ?_)
            refine ⟨(by repeat (first | exact Fewer.nil | refine Fewer.keep rfl ?_ | refine Fewer.drop ?_ | exact Fewer.refl _ | exact Fewer.inl _ _ | (simp only [List.append_nil]; first | exact Fewer.inl _ _ | exact Fewer.refl _))), ?_⟩
            refine D_done (by kernel_rfl) ?_
            exact E_midE (b, (b', c', s')) (by refine ⟨?_, i', j'⟩; unfold suV; exact h') (by repeat (first | exact Sub.nil | refine Sub.cons rfl ?_)) (by dsimp only [suVal]; unfold suV RS.ob RS.val; rw [bytesV_zeros]; simp only [List.append_nil, List.nil_append, List.map_cons, List.map_nil, List.length_nil, Nat.zero_add]; exact (by repeat (first | exact Fewer.nil | exact Fewer.refl _ | refine Fewer.pick rfl (by repeat (first | exact Del.here | apply Del.there)) ?_)))
          · refine step_plain 6 rfl rfl (op_buildSliceAll (n := 1) (ps := [(0, .tmp 24)]) rfl slc_u8ss.1 el_u8s (by decide) (by decide) (by kernel_rfl) rfl (Nat.le_refl _) (fun b25 => ?_))
            refine ⟨(by repeat (first | exact Fewer.nil | refine Fewer.keep rfl ?_ | refine Fewer.drop ?_ | exact Fewer.refl _ | exact Fewer.inl _ _ | (simp only [List.append_nil]; first | exact Fewer.inl _ _ | exact Fewer.refl _))), ?_⟩
            refine D_only 4 rfl (by kernel_rfl) rfl (op_pure (p_load rfl sc_u8ss (by repeat (first | exact List.Mem.head _ | apply List.Mem.tail)) (by rfl)) rfl ?_)
            refine ⟨(by repeat (first | exact Fewer.nil | refine Fewer.keep rfl ?_ | refine Fewer.drop ?_ | exact Fewer.refl _ | exact Fewer.inl _ _ | (simp only [List.append_nil]; first | exact Fewer.inl _ _ | exact Fewer.refl _))), ?_⟩
            refine D_only 7 rfl (by kernel_rfl) rfl (op_appendNilR (s := 1) (bytes := 24) (m := 1) (ys := [.slice (some ⟨b, 0, none⟩) 64 64]) rfl rfl slc_u8ss.1 elr_u8s (by decide) (fun w' hm => hm.readsAll (b := b25) (n := 1) (cs := [.slice (some ⟨b, 0, none⟩) 64 64]) (by repeat (first | exact List.Mem.head _ | apply List.Mem.tail)) rfl) (hone b) (by decide) (by decide) (by decide) rfl (Nat.le_refl _) (fun b' c' s' h' i' j' => ?_))
            refine ⟨(by repeat (first | exact Fewer.nil | refine Fewer.keep rfl ?_ | refine Fewer.drop ?_ | exact Fewer.refl _ | exact Fewer.inl _ _ | (simp only [List.append_nil]; first | exact Fewer.inl _ _ | exact Fewer.refl _))), ?_⟩
            refine D_take 8 rfl (by kernel_rfl) (by kernel_rfl) (by kernel_rfl) (by repeat (first | exact calm_body | exact calm_mid | apply calm_noGoto | exact calm_midE | apply calm_then | apply calm_block)) (p_nilCheck rfl) rfl ?_
            refine D_take 9 rfl (by kernel_rfl) (by kernel_rfl) (by kernel_rfl) (by repeat (first | exact calm_body | exact calm_mid | apply calm_noGoto | exact calm_midE | apply calm_then | apply calm_block)) (by first | exact p_fieldAddr0 rfl fd_almonerref05_Disk_0 | exact p_fieldAddr rfl fd_almonerref05_Disk_0) rfl ?_
            refine D_only 10 rfl (by kernel_rfl) rfl (op_store rfl rfl rfl sc_u8ss (by repeat (first | exact At.here | apply At.there)) (by exact Nat.le_of_ble_eq_true rfl) ?_)
            refine ⟨(by repeat (first | exact Fewer.nil | refine Fewer.keep rfl ?_ | refine Fewer.drop ?_ | exact Fewer.refl _ | exact Fewer.inl _ _ | (simp only [List.append_nil]; first | exact Fewer.inl _ _ | exact Fewer.refl _))), ?_⟩
            refine D_done (by kernel_rfl) ?_
            exact E_midE (b, (b', c', s')) (by refine ⟨?_, i', j'⟩; unfold suV; exact h') (by repeat (first | exact Sub.nil | refine Sub.cons rfl ?_)) (by dsimp only [suVal]; unfold suV RS.ob RS.val; rw [bytesV_zeros]; simp only [List.append_nil, List.nil_append, List.map_cons, List.map_nil, List.length_nil, Nat.zero_add]; exact (by repeat (first | exact Fewer.nil | exact Fewer.refl _ | refine Fewer.pick rfl (by repeat (first | exact Del.here | apply Del.there)) ?_)))
      | some t =>
        obtain ⟨bS, cS, spS⟩ := t
        obtain ⟨hw1, hw2, hw3⟩ := hob
        dsimp only [suHp, suVal]
        simp only [List.cons_append, List.nil_append]
        refine S_drawn (by kernel_rfl) .nil ?_
        refine D_take 0 rfl (by kernel_rfl) (by kernel_rfl) (by kernel_rfl) (by repeat (first | exact calm_body | exact calm_mid | apply calm_noGoto | exact calm_midE | apply calm_then | apply calm_block)) (p_move rfl) rfl ?_
        refine D_take 1 rfl (by kernel_rfl) (by kernel_rfl) (by kernel_rfl) (by repeat (first | exact calm_body | exact calm_mid | apply calm_noGoto | exact calm_midE | apply calm_then | apply calm_block)) (p_move rfl) rfl ?_
        refine D_take 2 rfl (by kernel_rfl) (by kernel_rfl) (by kernel_rfl) (by repeat (first | exact calm_body | exact calm_mid | apply calm_noGoto | exact calm_midE | apply calm_then | apply calm_block)) (p_nilCheck rfl) rfl ?_
        refine D_take 3 rfl (by kernel_rfl) (by kernel_rfl) (by kernel_rfl) (by repeat (first | exact calm_body | exact calm_mid | apply calm_noGoto | exact calm_midE | apply calm_then | apply calm_block)) (by first | exact p_fieldAddr0 rfl fd_almonerref05_Disk_0 | exact p_fieldAddr rfl fd_almonerref05_Disk_0) rfl ?_
        refine D_two 4 5 (by kernel_rfl) ?_ ?_
        · refine step_plain 4 rfl rfl (op_pure (p_load rfl sc_u8ss (by repeat (first | exact List.Mem.head _ | apply List.Mem.tail)) (by rfl)) rfl ?_)
          refine ⟨(by repeat (first | exact Fewer.nil | refine Fewer.keep rfl ?_ | refine Fewer.drop ?_ | exact Fewer.refl _ | exact Fewer.inl _ _ | (simp only [List.append_nil]; first | exact Fewer.inl _ _ | exact Fewer.refl _))), ?_⟩
          refine D_only 5 rfl (by kernel_rfl) rfl (op_makeSlice (l := 64) (c := 64) rfl rfl rfl rfl slc_u8s.1 el_u8 (by decide) (by decide) (by decide) rfl (Nat.le_refl _) (fun b => ?_))
          refine ⟨(by repeat (first | exact Fewer.nil | refine Fewer.keep rfl ?_ | refine Fewer.drop ?_ | exact Fewer.refl _ | exact Fewer.inl _ _ | (simp only [List.append_nil]; first | exact Fewer.inl _ _ | exact Fewer.refl _))), ?_⟩
          refine D_only 6 rfl (by kernel_rfl) rfl (op_buildSliceAll (n := 1) (ps := [(0, .tmp 24)]) rfl slc_u8ss.1 el_u8s (by decide) (by decide) (by kernel_rfl) rfl (Nat.le_refl _) (fun b25 => ?_))
          refine ⟨(by repeat (first | exact Fewer.nil | refine Fewer.keep rfl ?_ | refine Fewer.drop ?_ | exact Fewer.refl _ | exact Fewer.inl _ _ | (simp only [List.append_nil]; first | exact Fewer.inl _ _ | exact Fewer.refl _))), ?_⟩
          refine D_only 7 rfl (by kernel_rfl) rfl (op_appendR (s := 1) (bytes := 24) (m := 1) (xs := suV su) (sp := spS) (ys := [.slice (some ⟨b, 0, none⟩) 64 64]) rfl rfl slc_u8ss.1 elr_u8s (by decide) (by repeat (first | exact Del.here | apply Del.there)) (by rw [suV_length, Nat.mul_one]) hw1 hw3 (fun w' hm => hm.readsAll (b := b25) (n := 1) (cs := [.slice (some ⟨b, 0, none⟩) 64 64]) (by repeat (first | exact List.Mem.head _ | apply List.Mem.tail)) rfl) (hone b) (by decide) (by omega) (by decide) rfl (Nat.le_refl _) (fun b' c' s' h' i' j' => ?_))
          refine ⟨(by repeat (first | exact Fewer.nil | refine Fewer.keep rfl ?_ | refine Fewer.drop ?_ | exact Fewer.refl _ | exact Fewer.inl _ _ | (simp only [List.append_nil]; first | exact Fewer.inl _ _ | exact Fewer.refl _))), ?_⟩
          refine D_take 8 rfl (by kernel_rfl) (by kernel_rfl) (by kernel_rfl) (by repeat (first | exact calm_body | exact calm_mid | apply calm_noGoto | exact calm_midE | apply calm_then | apply calm_block)) (p_nilCheck rfl) rfl ?_
          refine D_take 9 rfl (by kernel_rfl) (by kernel_rfl) (by kernel_rfl) (by repeat (first | exact calm_body | exact calm_mid | apply calm_noGoto | exact calm_midE | apply calm_then | apply calm_block)) (by first | exact p_fieldAddr0 rfl fd_almonerref05_Disk_0 | exact p_fieldAddr rfl fd_almonerref05_Disk_0) rfl ?_
          refine D_only 10 rfl (by kernel_rfl) rfl (op_store rfl rfl rfl sc_u8ss (by repeat (first | exact At.here | apply At.there)) (by exact Nat.le_of_ble_eq_true rfl) ?_)
          refine ⟨(by repeat (first | exact Fewer.nil | refine Fewer.keep rfl ?_ | refine Fewer.drop ?_ | exact Fewer.refl _ | exact Fewer.inl _ _ | (simp only [List.append_nil]; first | exact Fewer.inl _ _ | exact Fewer.refl _))), ?_⟩
          refine D_done (by kernel_rfl) ?_
          exact E_midE (b, (b', c', s')) (by refine ⟨?_, by rw [List.length_append]; exact i', j'⟩; rw [suV_snoc]; exact h') (by repeat (first | exact Sub.nil | refine Sub.cons rfl ?_)) (by dsimp only [suVal]; rw [suV_snoc]; unfold RS.ob RS.val; rw [bytesV_zeros]; simp only [List.append_nil]; exact (by repeat (first | exact Fewer.nil | exact Fewer.refl _ | refine Fewer.pick rfl (by repeat (first | exact Del.here | apply Del.there)) ?_ | refine Fewer.drop ?_)))
        · refine step_plain 5 rfl rfl (op_makeSlice (l := 64) (c := 64) rfl rfl rfl rfl slc_u8s.1 el_u8 (by decide) (by decide) (by decide) rfl (Nat.le_refl _) (fun b => ?_))
          refine ⟨(by repeat (first | exact Fewer.nil | refine Fewer.keep rfl ?_ | refine Fewer.drop ?_ | exact Fewer.refl _ | exact Fewer.inl _ _ | (simp only [List.append_nil]; first | exact Fewer.inl _ _ | exact Fewer.refl _))), ?_⟩
          refine D_two 4 6 (by kernel_rfl) ?_ ?_
          · refine step_plain 4 rfl rfl (op_pure (p_load rfl sc_u8ss (by repeat (first | exact List.Mem.head _ | apply List.Mem.tail)) (by rfl)) rfl ?_)
            refine ⟨(by repeat (first | exact Fewer.nil | refine Fewer.keep rfl ?_ | refine Fewer.drop ?_ | exact Fewer.refl _ | exact Fewer.inl _ _ | (simp only [List.append_nil]; first | exact Fewer.inl _ _ | exact Fewer.refl _))), ?_⟩
            refine D_only 6 rfl (by kernel_rfl) rfl (op_buildSliceAll (n := 1) (ps := [(0, .tmp 24)]) rfl slc_u8ss.1 el_u8s (by decide) (by decide) (by kernel_rfl) rfl (Nat.le_refl _) (fun b25 => ?_))
            refine ⟨(by repeat (first | exact Fewer.nil | refine Fewer.keep rfl ?_ | refine Fewer.drop ?_ | exact Fewer.refl _ | exact Fewer.inl _ _ | (simp only [List.append_nil]; first | exact Fewer.inl _ _ | exact Fewer.refl _))), ?_⟩
            refine D_only 7 rfl (by kernel_rfl) rfl (op_appendR (s := 1) (bytes := 24) (m := 1) (xs := suV su) (sp := spS) (ys := [.slice (some ⟨b, 0, none⟩) 64 64]) rfl rfl slc_u8ss.1 elr_u8s (by decide) (by repeat (first | exact Del.here | apply Del.there)) (by rw [suV_length, Nat.mul_one]) hw1 hw3 (fun w' hm => hm.readsAll (b := b25) (n := 1) (cs := [.slice (some ⟨b, 0, none⟩) 64 64]) (by repeat (first | exact List.Mem.head _ | apply List.Mem.tail)) rfl) (hone b) (by decide) (by omega) (by decide) rfl (Nat.le_refl _) (fun b' c' s' h' i' j' => ?_))
            refine ⟨(by repeat (first | exact Fewer.nil | refine Fewer.keep rfl ?_ | refine Fewer.drop ?_ | exact Fewer.refl _ | exact Fewer.inl _ _ | (simp only [List.append_nil]; first | exact Fewer.inl _ _ | exact Fewer.refl _))), ?_⟩
            refine D_take 8 rfl (by kernel_rfl) (by kernel_rfl) (by kernel_rfl) (by repeat (first | exact calm_body | exact calm_mid | apply calm_noGoto | exact calm_midE | apply calm_then | apply calm_block)) (p_nilCheck rfl) rfl ?_
            refine D_take 9 rfl (by kernel_rfl) (by kernel_rfl) (by kernel_rfl) (by repeat (first | exact calm_body | exact calm_mid | apply calm_noGoto | exact calm_midE | apply calm_then | apply calm_block)) (by first | exact p_fieldAddr0 rfl fd_almonerref05_Disk_0 | exact p_fieldAddr rfl fd_almonerref05_Disk_0) rfl ?_
            refine D_only 10 rfl (by kernel_rfl) rfl (op_store rfl rfl rfl sc_u8ss (by repeat (first | exact At.here | apply At.there)) (by exact Nat.le_of_ble_eq_true rfl) ?_)
            refine ⟨(by repeat (first | exact Fewer.nil | refine Fewer.keep rfl ?_ | refine Fewer.drop ?_ | exact Fewer.refl _ | exact Fewer.inl _ _ | (simp only [List.append_nil]; first | exact Fewer.inl _ _ | exact Fewer.refl _))), ?_⟩
            refine D_done (by kernel_rfl) ?_
            exact E_midE (b, (b', c', s')) (by refine ⟨?_, by rw [List.length_append]; exact i', j'⟩; rw [suV_snoc]; exact h') (by repeat (first | exact Sub.nil | refine Sub.cons rfl ?_)) (by dsimp only [suVal]; rw [suV_snoc]; unfold RS.ob RS.val; rw [bytesV_zeros]; simp only [List.append_nil]; exact (by repeat (first | exact Fewer.nil | exact Fewer.refl _ | refine Fewer.pick rfl (by repeat (first | exact Del.here | apply Del.there)) ?_ | refine Fewer.drop ?_)))
          · refine step_plain 6 rfl rfl (op_buildSliceAll (n := 1) (ps := [(0, .tmp 24)]) rfl slc_u8ss.1 el_u8s (by decide) (by decide) (by kernel_rfl) rfl (Nat.le_refl _) (fun b25 => ?_))
            refine ⟨(by repeat (first | exact Fewer.nil | refine Fewer.keep rfl ?_ | refine Fewer.drop ?_ | exact Fewer.refl _ | exact Fewer.inl _ _ | (simp only [List.append_nil]; first | exact Fewer.inl _ _ | exact Fewer.refl _))), ?_⟩
            refine D_only 4 rfl (by kernel_rfl) rfl (op_pure (p_load rfl sc_u8ss (by repeat (first | exact List.Mem.head _ | apply List.Mem.tail)) (by rfl)) rfl ?_)
            refine ⟨(by repeat (first | exact Fewer.nil | refine Fewer.keep rfl ?_ | refine Fewer.drop ?_ | exact Fewer.refl _ | exact Fewer.inl _ _ | (simp only [List.append_nil]; first | exact Fewer.inl _ _ | exact Fewer.refl _))), ?_⟩
            refine D_only 7 rfl (by kernel_rfl) rfl (op_appendR (s := 1) (bytes := 24) (m := 1) (xs := suV su) (sp := spS) (ys := [.slice (some ⟨b, 0, none⟩) 64 64]) rfl rfl slc_u8ss.1 elr_u8s (by decide) (by repeat (first | exact Del.here | apply Del.there)) (by rw [suV_length, Nat.mul_one]) hw1 hw3 (fun w' hm => hm.readsAll (b := b25) (n := 1) (cs := [.slice (some ⟨b, 0, none⟩) 64 64]) (by repeat (first | exact List.Mem.head _ | apply List.Mem.tail)) rfl) (hone b) (by decide) (by omega) (by decide) rfl (Nat.le_refl _) (fun b' c' s' h' i' j' => ?_))
            refine ⟨(by repeat (first | exact Fewer.nil | refine Fewer.keep rfl ?_ | refine Fewer.drop ?_ | exact Fewer.refl _ | exact Fewer.inl _ _ | (simp only [List.append_nil]; first | exact Fewer.inl _ _ | exact Fewer.refl _))), ?_⟩
            refine D_take 8 rfl (by kernel_rfl) (by kernel_rfl) (by kernel_rfl) (by repeat (first | exact calm_body | exact calm_mid | apply calm_noGoto | exact calm_midE | apply calm_then | apply calm_block)) (p_nilCheck rfl) rfl ?_
            refine D_take 9 rfl (by kernel_rfl) (by kernel_rfl) (by kernel_rfl) (by repeat (first | exact calm_body | exact calm_mid | apply calm_noGoto | exact calm_midE | apply calm_then | apply calm_block)) (by first | exact p_fieldAddr0 rfl fd_almonerref05_Disk_0 | exact p_fieldAddr rfl fd_almonerref05_Disk_0) rfl ?_
            refine D_only 10 rfl (by kernel_rfl) rfl (op_store rfl rfl rfl sc_u8ss (by repeat (first | exact At.here | apply At.there)) (by exact Nat.le_of_ble_eq_true rfl) ?_)
            refine ⟨(by repeat (first | exact Fewer.nil | refine Fewer.keep rfl ?_ | refine Fewer.drop ?_ | exact Fewer.refl _ | exact Fewer.inl _ _ | (simp only [List.append_nil]; first | exact Fewer.inl _ _ | exact Fewer.refl _))), ?_⟩
            refine D_done (by kernel_rfl) ?_
            exact E_midE (b, (b', c', s')) (by refine ⟨?_, by rw [List.length_append]; exact i', j'⟩; rw [suV_snoc]; exact h') (by repeat (first | exact Sub.nil | refine Sub.cons rfl ?_)) (by dsimp only [suVal]; rw [suV_snoc]; unfold RS.ob RS.val; rw [bytesV_zeros]; simp only [List.append_nil]; exact (by repeat (first | exact Fewer.nil | exact Fewer.refl _ | refine Fewer.pick rfl (by repeat (first | exact Del.here | apply Del.there)) ?_ | refine Fewer.drop ?_)))
    rintro ⟨b, bS, cS, spS⟩ hob2
    dsimp only at hob2 ⊢
    repeat (first | refine S_scope ?_ | refine S_label ?_ | refine E_noGoto_normal ?_ | refine E_noGoto_ret ?_ | refine E_noGoto_exit ?_ | refine S_yes rfl (by first | with_reducible rfl | decide) ?_ | refine S_no rfl (by first | with_reducible rfl | decide) ?_ | refine S_seq ?_ | refine E_seq ?_ | refine S_block ?_ | refine E_block_normal ?_ | refine S_skip ?_ | refine S_exit ?_ | refine S_ret ?_ | refine E_then_exit ?_ | refine E_then_ret ?_ | refine E_block_ret ?_ | refine E_block_exit ?_ | refine E_block_exit_other rfl ?_)
    refine S_region ?_
    refine R_cons rfl (op_pure (p_move rfl) rfl ?_)
    refine R_cons rfl (op_pure (p_bin rfl rfl (b_add hinc)) rfl ?_)
    refine R_cons rfl (op_pure (p_assign rfl) rfl ?_)
    refine R_nil ?_
    repeat (first | refine S_scope ?_ | refine S_label ?_ | refine E_noGoto_normal ?_ | refine E_noGoto_ret ?_ | refine E_noGoto_exit ?_ | refine S_yes rfl (by first | with_reducible rfl | decide) ?_ | refine S_no rfl (by first | with_reducible rfl | decide) ?_ | refine S_seq ?_ | refine E_seq ?_ | refine S_block ?_ | refine E_block_normal ?_ | refine S_skip ?_ | refine S_exit ?_ | refine S_ret ?_ | refine E_then_exit ?_ | refine E_then_ret ?_ | refine E_block_ret ?_ | refine E_block_exit ?_ | refine E_block_exit_other rfl ?_)
    refine E_perm (List.Perm.cons _ (List.Perm.cons _ (List.perm_append_comm (l₁ := [_]) (l₂ := su.map RS.ob)))) ?_
    exact E_round (s := (j, ob, su)) (j + 1, some (bS, cS, spS), su ++ [⟨b, 64, [], List.replicate 64 0⟩]) (by
      refine ⟨by dsimp only; omega, by dsimp only; rw [List.length_append, hsl]; rfl, hob2, fun r hr => ?_⟩
      rcases List.mem_append.1 hr with hr | hr
      · exact hsu r hr
      · rw [List.mem_singleton] at hr; subst hr; exact ⟨rfl, rfl, rfl⟩) (by dsimp only; omega) (by repeat (first | exact Sub.nil | refine Sub.cons rfl ?_)) (by dsimp only [suHp, suVal]; rw [List.map_append, List.length_append]; exact Fewer.refl _)
  have hj3 : j = 3 := by omega
  subst hj3
  have g5 : decide (((3 : Nat) : Int) < 3) = false := rfl
  repeat (first | refine S_scope ?_ | refine S_label ?_ | refine E_noGoto_normal ?_ | refine E_noGoto_ret ?_ | refine E_noGoto_exit ?_ | refine S_yes rfl (by first | with_reducible rfl | decide) ?_ | refine S_no rfl (by first | with_reducible rfl | decide) ?_ | refine S_seq ?_ | refine E_seq ?_ | refine S_block ?_ | refine E_block_normal ?_ | refine S_skip ?_ | refine S_exit ?_ | refine S_ret ?_ | refine E_then_exit ?_ | refine E_then_ret ?_ | refine E_block_ret ?_ | refine E_block_exit ?_ | refine E_block_exit_other rfl ?_)
  refine S_region ?_
  refine R_cons rfl (op_pure (p_move rfl) rfl ?_)
  refine R_cons rfl (op_pure (p_move rfl) rfl ?_)
  refine R_cons rfl (op_pure (p_bin rfl rfl (b_lss g5)) rfl ?_)
  refine R_nil ?_
  repeat (first | refine S_scope ?_ | refine S_label ?_ | refine E_noGoto_normal ?_ | refine E_noGoto_ret ?_ | refine E_noGoto_exit ?_ | refine S_yes rfl (by first | with_reducible rfl | decide) ?_ | refine S_no rfl (by first | with_reducible rfl | decide) ?_ | refine S_seq ?_ | refine E_seq ?_ | refine S_block ?_ | refine E_block_normal ?_ | refine S_skip ?_ | refine S_exit ?_ | refine S_ret ?_ | refine E_then_exit ?_ | refine E_then_ret ?_ | refine E_block_ret ?_ | refine E_block_exit ?_ | refine E_block_exit_other rfl ?_)
  refine S_region ?_
  refine R_cons rfl (op_pure (p_move rfl) rfl ?_)
  refine R_cons rfl (op_pure (p_assign rfl) rfl ?_)
  refine R_cons rfl (op_pure (p_assign rfl) rfl ?_)
  refine R_nil ?_
  repeat (first | refine S_scope ?_ | refine S_label ?_ | refine E_noGoto_normal ?_ | refine E_noGoto_ret ?_ | refine E_noGoto_exit ?_ | refine S_yes rfl (by first | with_reducible rfl | decide) ?_ | refine S_no rfl (by first | with_reducible rfl | decide) ?_ | refine S_seq ?_ | refine E_seq ?_ | refine S_block ?_ | refine E_block_normal ?_ | refine S_skip ?_ | refine S_exit ?_ | refine S_ret ?_ | refine E_then_exit ?_ | refine E_then_ret ?_ | refine E_block_ret ?_ | refine E_block_exit ?_ | refine E_block_exit_other rfl ?_)
  obtain ⟨r0, r1, r2, rfl⟩ : ∃ r0 r1 r2, su = [r0, r1, r2] := by
    match su, hsl with
    | [a, b, c], _ => exact ⟨a, b, c, rfl⟩
  cases ob with
  | none => cases (show [r0, r1, r2] = [] from hob)
  | some t =>
    obtain ⟨bS, cS, spS⟩ := t
    have h0 := hsu r0 (by simp)
    have h1 := hsu r1 (by simp)
    have h2 := hsu r2 (by simp)
    obtain ⟨b0, _, _, _⟩ := r0
    obtain ⟨b1, _, _, _⟩ := r1
    obtain ⟨b2, _, _, _⟩ := r2
    obtain ⟨rfl, rfl, rfl⟩ := h0
    obtain ⟨rfl, rfl, rfl⟩ := h1
    obtain ⟨rfl, rfl, rfl⟩ := h2
    exact E_ret2 rfl rfl rfl fun w' hm => ⟨(b13, (bS, cS, spS), b0, b1, b2), rfl, hm, trivial⟩
end Go.Proofs.Ytfdlafjifjndeaa
