/-
  The document's disk: a disk that fails.
-/
import Derived.Test.YtfdlafjifjndeaaCountsPlayP5
import Derived.Laws.BytesString
import Derived.Laws.Cells
namespace Go.Proofs.Ytfdlafjifjndeaa
open Go.RowKit Go.K
attribute [local irreducible] Exit.then Exit.inBlock Exit.noGoto bodyPost Code.wp QL Sx Rx Qx Ex Dx Op1 Pure1 Still1 K.Sub Calm Code.wpIn
set_option linter.unusedVariables false
theorem keptJ_past (sure : List (List UInt8)) (ws : List (Nat × List UInt8)) (l : List Bool) (j : Nat) (h : l.length ≤ j) : keptJ sure ws l (j + 1) = keptJ sure ws l j := by
  have hz : (ws.zip l).length ≤ j := by rw [List.length_zip]; exact Nat.le_trans (Nat.min_le_right _ _) h
  rw [keptJ_all sure ws l j hz, keptJ_all sure ws l (j + 1) (by omega)]
theorem lay_64 (y x : List UInt8) (hy : y.length = 64) (hx : x.length = 64) : lay (bytesV y) 0 ((bytesV x).take 64) = bytesV x := by
  rw [List.take_of_length_le (by rw [bytesV_length, hx]; exact Nat.le_refl _)]
  exact lay_whole (by rw [bytesV_length, bytesV_length, hy, hx])
/-- the waits, as they are read -/
theorem lb_reads {q : QS} {left : Int} {bl : Bool} {w : World} (hq : q.at_ w left bl) : ∃ W cw, lbVal q.lb q.ws.length = .slice W q.ws.length cw ∧ (0 < q.ws.length → ∃ bw, W = some ⟨bw, 0, none⟩ ∧ bw < w.heap.size ∧ ∀ j k v, q.ws[j]? = some v → k < 2 → w.cell? ⟨bw, 0 + j * 2 + k, none⟩ = [Value.int .i64 (v.1 : Int), v.2.val][k]?) := by
  have h1 := hq.lok
  have h2 := hq.lbs
  cases hlb : q.lb with
  | none =>
    rw [hlb] at h1
    have h3 : q.ws = [] := h1
    rw [h3]
    exact ⟨none, 0, rfl, fun h => absurd h (by decide)⟩
  | some t =>
    obtain ⟨bw, cw, spw⟩ := t
    have h3 := h2 _ hlb
    refine ⟨_, _, rfl, fun _ => ⟨bw, rfl, (Array.getElem?_eq_some_iff.1 h3).1, fun j k v hv hk => ?_⟩⟩
    rw [show 0 + j * 2 + k = j * 2 + k by omega, cell_of_row w bw _ _ _ _ h3, List.getElem?_toArray]
    exact rwV_cell q.ws spw j k v hv hk
theorem RS.reads {w : World} {r : RS} (h : r.at_ w) : Reads w (some ⟨r.b, 0, none⟩) 64 (bytesV r.x) := by
  have h1 := reads_pre h.1
  rwa [bytesV_length, h.2] at h1
attribute [local irreducible] leftS blownS rwV nowOf lastR suV syncQ keptJ keptOf
structure RF where
  br : Nat
  bS : Nat
  cS : Nat
  spS : List Value
  b0 : Nat
  b1 : Nat
  b2 : Nat
  y0 : List UInt8
  y1 : List UInt8
  y2 : List UInt8
structure YS where
  j : Nat
  y0 : List UInt8
  y1 : List UInt8
  y2 : List UInt8
set_option maxHeartbeats 8000000 in
theorem rfail (q : QS) (left : Int) (bl : Bool) (hn : q.ws.length ≤ 1000) (A : Option Addr) (c : Nat) (l : List Bool) (w : World) (hrd : Reads w A l.length (boolsV l)) (hq : q.at_ w left bl) :
    Calls Try.prog 30 [.pointer (some ⟨q.br, 0, none⟩), .slice A l.length c].toArray w fun e w' => ∃ s : RF, e = .returned (.pointer (some ⟨s.br, 0, none⟩)) ∧ Mem w.heap.size ⟨w, []⟩ (refH ⟨s.br, s.bS, s.cS, s.spS, none, [⟨s.b0, 64, [], s.y0⟩, ⟨s.b1, 64, [], s.y1⟩, ⟨s.b2, 64, [], s.y2⟩], []⟩ (-1) false ++ [RS.ob ⟨s.b0, 64, [], s.y0⟩, RS.ob ⟨s.b1, 64, [], s.y1⟩, RS.ob ⟨s.b2, 64, [], s.y2⟩]) w' ∧ [s.y0, s.y1, s.y2] = keptOf q.sure q.wss l := by
  have hbl := (Array.getElem?_eq_some_iff.1 hq.row).1
  have hbS := (Array.getElem?_eq_some_iff.1 hq.sus).1
  have c0 : w.cell? ⟨q.br, 0, none⟩ = some (.slice (some ⟨q.bS, 0, none⟩) 3 q.cS) := by rw [cell_of_row w q.br 0 _ _ _ hq.row]; rfl
  have c1 : w.cell? ⟨q.br, 1, none⟩ = some (lbVal q.lb q.ws.length) := by rw [cell_of_row w q.br 1 _ _ _ hq.row]; rfl
  obtain ⟨W, cw, hwv, hwc⟩ := lb_reads hq
  rw [hwv] at c1
  obtain ⟨s0, s1, s2, hsu⟩ : ∃ s0 s1 s2, q.su = [s0, s1, s2] := by
    match hh : q.su, hq.n3 with
    | [a, b, c], _ => exact ⟨a, b, c, rfl⟩
  have hs0 := hq.sua s0 (by rw [hsu]; simp)
  have hs1 := hq.sua s1 (by rw [hsu]; simp)
  have hs2 := hq.sua s2 (by rw [hsu]; simp)
  have hsure : q.sure = [s0.x, s1.x, s2.x] := by unfold QS.sure; rw [hsu]; rfl
  have hcs : ∀ i r, q.su[i]? = some r → w.cell? ⟨q.bS, 0 + i, none⟩ = some r.val := fun i r hr => by
    rw [cell_of_row w q.bS _ _ _ _ hq.sus, List.getElem?_toArray]
    exact suV_cell q.su q.spS i r hr
  have d0 := hcs 0 s0 (by rw [hsu]; rfl)
  have d1 := hcs 1 s1 (by rw [hsu]; rfl)
  have d2 := hcs 2 s2 (by rw [hsu]; rfl)
  have hzl : (List.replicate 64 (0 : UInt8)).length = 64 := List.length_replicate
  refine enter Try.func30 rfl Try.ntmps30 (by simp) ?_
  repeat (first | refine S_scope ?_ | refine S_label ?_ | refine E_noGoto_normal ?_ | refine E_noGoto_ret ?_ | refine E_noGoto_exit ?_ | refine S_yes rfl (by first | with_reducible rfl | decide) ?_ | refine S_no rfl (by first | with_reducible rfl | decide) ?_ | refine S_seq ?_ | refine E_seq ?_ | refine S_block ?_ | refine E_block_normal ?_ | refine S_skip ?_ | refine S_exit ?_ | refine S_ret ?_ | refine E_then_exit ?_ | refine E_then_ret ?_ | refine E_block_ret ?_ | refine E_block_exit ?_ | refine E_block_exit_other rfl ?_)
  refine S_region ?_
  refine R_cons rfl (op_pure (p_assign rfl) rfl ?_)
  refine R_nil ?_
  repeat (first | refine S_scope ?_ | refine S_label ?_ | refine E_noGoto_normal ?_ | refine E_noGoto_ret ?_ | refine E_noGoto_exit ?_ | refine S_yes rfl (by first | with_reducible rfl | decide) ?_ | refine S_no rfl (by first | with_reducible rfl | decide) ?_ | refine S_seq ?_ | refine E_seq ?_ | refine S_block ?_ | refine E_block_normal ?_ | refine S_skip ?_ | refine S_exit ?_ | refine S_ret ?_ | refine E_then_exit ?_ | refine E_then_ret ?_ | refine E_block_ret ?_ | refine E_block_exit ?_ | refine E_block_exit_other rfl ?_)
  refine S_region ?_
  refine R_cons rfl (op_pure (p_move rfl) rfl ?_)
  refine R_cons rfl (op_pure (p_nilCheck rfl) rfl ?_)
  refine R_cons rfl (op_pure (by first | exact p_fieldAddr0 rfl fd_almonerref05_Disk_0 | exact p_fieldAddr rfl fd_almonerref05_Disk_0) rfl ?_)
  refine R_cons rfl (op_pure (p_load_base rfl sc_u8ss hbl (by simp) c0) rfl ?_)
  refine R_cons rfl (op_pure (p_len rfl slc_u8ss) rfl ?_)
  refine R_cons rfl (op_callNX (fun s : Nat × (Nat × Nat × List Value) × Nat × Nat × Nat => Value.tuple ([Value.pointer (some ⟨s.1, 0, none⟩), Value.int .i64 0] : List Value).toArray) (fun s => (refH ⟨s.1, s.2.1.1, s.2.1.2.1, s.2.1.2.2, none, [⟨s.2.2.1, 64, [], (List.replicate 64 0)⟩, ⟨s.2.2.2.1, 64, [], (List.replicate 64 0)⟩, ⟨s.2.2.2.2, 64, [], (List.replicate 64 0)⟩], []⟩ (-1) false ++ [RS.ob ⟨s.2.2.1, 64, [], (List.replicate 64 0)⟩, RS.ob ⟨s.2.2.2.1, 64, [], (List.replicate 64 0)⟩, RS.ob ⟨s.2.2.2.2, 64, [], (List.replicate 64 0)⟩])) (fun _ => True) rfl rfl Try.func27 rfl (by kernel_rfl) rfl (fun w' _ => rnew w') (fun s _ => ?_))
  refine R_cons rfl (op_pure (p_move rfl) rfl ?_)
  refine R_cons rfl (op_pure (p_extract (i := 0) rfl rfl) rfl ?_)
  refine R_cons rfl (op_pure (p_extract (i := 1) rfl rfl) rfl ?_)
  refine R_cons rfl (op_pure (p_assign rfl) rfl ?_)
  refine R_cons rfl (op_pure (p_assign rfl) rfl ?_)
  refine R_nil ?_
  repeat (first | refine S_scope ?_ | refine S_label ?_ | refine E_noGoto_normal ?_ | refine E_noGoto_ret ?_ | refine E_noGoto_exit ?_ | refine S_yes rfl (by first | with_reducible rfl | decide) ?_ | refine S_no rfl (by first | with_reducible rfl | decide) ?_ | refine S_seq ?_ | refine E_seq ?_ | refine S_block ?_ | refine E_block_normal ?_ | refine S_skip ?_ | refine S_exit ?_ | refine S_ret ?_ | refine E_then_exit ?_ | refine E_then_ret ?_ | refine E_block_ret ?_ | refine E_block_exit ?_ | refine E_block_exit_other rfl ?_)
  refine S_region ?_
  refine R_cons rfl (op_pure (p_assign rfl) rfl ?_)
  refine R_nil ?_
  repeat (first | refine S_scope ?_ | refine S_label ?_ | refine E_noGoto_normal ?_ | refine E_noGoto_ret ?_ | refine E_noGoto_exit ?_ | refine S_yes rfl (by first | with_reducible rfl | decide) ?_ | refine S_no rfl (by first | with_reducible rfl | decide) ?_ | refine S_seq ?_ | refine E_seq ?_ | refine S_block ?_ | refine E_block_normal ?_ | refine S_skip ?_ | refine S_exit ?_ | refine S_ret ?_ | refine E_then_exit ?_ | refine E_then_ret ?_ | refine E_block_ret ?_ | refine E_block_exit ?_ | refine E_block_exit_other rfl ?_)
  obtain ⟨br2, ⟨bS2, cS2, spS2⟩, b0, b1, b2⟩ := s
  unfold refH QS.row RS.ob
  dsimp only [lbHp, lbVal, List.length_nil]
  simp only [List.append_nil, List.cons_append, List.nil_append]
  have v0 : (suV [(⟨b0, 64, [], List.replicate 64 0⟩ : RS), ⟨b1, 64, [], List.replicate 64 0⟩, ⟨b2, 64, [], List.replicate 64 0⟩] ++ spS2)[0 + 0]? = some (.slice (some ⟨b0, 0, none⟩) 64 64) := suV_cell [(⟨b0, 64, [], List.replicate 64 0⟩ : RS), ⟨b1, 64, [], List.replicate 64 0⟩, ⟨b2, 64, [], List.replicate 64 0⟩] spS2 0 _ rfl
  have v1 : (suV [(⟨b0, 64, [], List.replicate 64 0⟩ : RS), ⟨b1, 64, [], List.replicate 64 0⟩, ⟨b2, 64, [], List.replicate 64 0⟩] ++ spS2)[0 + 1]? = some (.slice (some ⟨b1, 0, none⟩) 64 64) := suV_cell [(⟨b0, 64, [], List.replicate 64 0⟩ : RS), ⟨b1, 64, [], List.replicate 64 0⟩, ⟨b2, 64, [], List.replicate 64 0⟩] spS2 1 _ rfl
  have v2 : (suV [(⟨b0, 64, [], List.replicate 64 0⟩ : RS), ⟨b1, 64, [], List.replicate 64 0⟩, ⟨b2, 64, [], List.replicate 64 0⟩] ++ spS2)[0 + 2]? = some (.slice (some ⟨b2, 0, none⟩) 64 64) := suV_cell [(⟨b0, 64, [], List.replicate 64 0⟩ : RS), ⟨b1, 64, [], List.replicate 64 0⟩, ⟨b2, 64, [], List.replicate 64 0⟩] spS2 2 _ rfl
  have hfin : ∀ y0 y1 y2 : List UInt8, suV [(⟨b0, 64, [], List.replicate 64 0⟩ : RS), ⟨b1, 64, [], List.replicate 64 0⟩, ⟨b2, 64, [], List.replicate 64 0⟩] = suV [(⟨b0, 64, [], y0⟩ : RS), ⟨b1, 64, [], y1⟩, ⟨b2, 64, [], y2⟩] := fun _ _ _ => by unfold suV; rfl
  refine S_loop (σ := YS) (fun s => [(7, .int .i64 (s.j : Int)), (5, .pointer (some ⟨br2, 0, none⟩)), (1, .slice A l.length c), (0, .pointer (some ⟨q.br, 0, none⟩))]) (fun s => [(br2, .cells (refC (.slice (some ⟨bS2, 0, none⟩) 3 cS2) (.slice none 0 0) (-1) false).toArray 124 (0, 0)), (bS2, .cells (suV [(⟨b0, 64, [], List.replicate 64 0⟩ : RS), ⟨b1, 64, [], List.replicate 64 0⟩, ⟨b2, 64, [], List.replicate 64 0⟩] ++ spS2).toArray 40 (0, 0)), (b0, .cells (bytesV s.y0).toArray 5 (0, 0)), (b1, .cells (bytesV s.y1).toArray 5 (0, 0)), (b2, .cells (bytesV s.y2).toArray 5 (0, 0))])
    (fun s => s.j ≤ 3 ∧ (s.y0.length = 64 ∧ s.y1.length = 64 ∧ s.y2.length = 64) ∧ (0 < s.j → s.y0 = s0.x) ∧ (1 < s.j → s.y1 = s1.x) ∧ (2 < s.j → s.y2 = s2.x)) (fun s => 3 - s.j) ⟨0, List.replicate 64 0, List.replicate 64 0, List.replicate 64 0⟩ ⟨Nat.zero_le _, ⟨hzl, hzl, hzl⟩, fun h => absurd h (by decide), fun h => absurd h (by decide), fun h => absurd h (by decide)⟩ (by repeat (first | exact Sub.nil | refine Sub.cons rfl ?_)) (by repeat (first | exact Fewer.nil | exact Fewer.refl _ | refine Fewer.pick rfl (by repeat (first | exact Del.here | apply Del.there)) ?_)) ?_
  rintro ⟨j, y0, y1, y2⟩ ⟨hj, ⟨hy0, hy1, hy2⟩, e0, e1, e2⟩
  dsimp only at hj hy0 hy1 hy2 e0 e1 e2 ⊢
  by_cases hlt : j < 3
  · skip
    have hc : j = 0 ∨ j = 1 ∨ j = 2 := by omega
    rcases hc with rfl | rfl | rfl
    · have g5 : decide (((0 : Nat) : Int) < ((3 : Nat) : Int)) = true := rfl
      repeat (first | refine S_scope ?_ | refine S_label ?_ | refine E_noGoto_normal ?_ | refine E_noGoto_ret ?_ | refine E_noGoto_exit ?_ | refine S_yes rfl (by first | with_reducible rfl | decide) ?_ | refine S_no rfl (by first | with_reducible rfl | decide) ?_ | refine S_seq ?_ | refine E_seq ?_ | refine S_block ?_ | refine E_block_normal ?_ | refine S_skip ?_ | refine S_exit ?_ | refine S_ret ?_ | refine E_then_exit ?_ | refine E_then_ret ?_ | refine E_block_ret ?_ | refine E_block_exit ?_ | refine E_block_exit_other rfl ?_)
      refine S_region ?_
      refine R_cons rfl (op_pure (p_move rfl) rfl ?_)
      refine R_cons rfl (op_pure (p_move rfl) rfl ?_)
      refine R_cons rfl (op_pure (p_nilCheck rfl) rfl ?_)
      refine R_cons rfl (op_pure (by first | exact p_fieldAddr0 rfl fd_almonerref05_Disk_0 | exact p_fieldAddr rfl fd_almonerref05_Disk_0) rfl ?_)
      refine R_cons rfl (op_pure (p_load_base rfl sc_u8ss hbl (by simp) c0) rfl ?_)
      refine R_cons rfl (op_pure (p_len rfl slc_u8ss) rfl ?_)
      refine R_cons rfl (op_pure (p_bin rfl rfl (b_lss g5)) rfl ?_)
      refine R_nil ?_
      repeat (first | refine S_scope ?_ | refine S_label ?_ | refine E_noGoto_normal ?_ | refine E_noGoto_ret ?_ | refine E_noGoto_exit ?_ | refine S_yes rfl (by first | with_reducible rfl | decide) ?_ | refine S_no rfl (by first | with_reducible rfl | decide) ?_ | refine S_seq ?_ | refine E_seq ?_ | refine S_block ?_ | refine E_block_normal ?_ | refine S_skip ?_ | refine S_exit ?_ | refine S_ret ?_ | refine E_then_exit ?_ | refine E_then_ret ?_ | refine E_block_ret ?_ | refine E_block_exit ?_ | refine E_block_exit_other rfl ?_)
      refine S_tail 14 (by kernel_rfl) (by kernel_rfl) (by kernel_rfl) (by kernel_rfl) ?_
      refine Q_cons (Still1.of_pure (p_move rfl)) rfl ?_
      refine Q_cons (Still1.of_pure (p_nilCheck rfl)) rfl ?_
      refine Q_cons (Still1.of_pure (by first | exact p_fieldAddr0 rfl fd_almonerref05_Disk_0 | exact p_fieldAddr rfl fd_almonerref05_Disk_0)) rfl ?_
      refine Q_cons (Still1.of_pure (p_load rfl sc_u8ss (by repeat (first | exact List.Mem.head _ | apply List.Mem.tail)) (by rfl))) rfl ?_
      refine Q_cons (Still1.of_pure (p_move rfl)) rfl ?_
      refine Q_cons (Still1.of_pure (p_indexSl (j := 0) rfl rfl rfl slc_u8ss (by omega))) rfl ?_
      refine Q_cons (Still1.of_pure (p_load rfl sc_u8s (by repeat (first | exact List.Mem.head _ | apply List.Mem.tail)) v0)) rfl ?_
      refine Q_cons (Still1.of_pure (p_move rfl)) rfl ?_
      refine Q_cons (Still1.of_pure (p_nilCheck rfl)) rfl ?_
      refine Q_cons (Still1.of_pure (by first | exact p_fieldAddr0 rfl fd_almonerref05_Disk_0 | exact p_fieldAddr rfl fd_almonerref05_Disk_0)) rfl ?_
      refine Q_cons (Still1.of_pure (p_load_base rfl sc_u8ss hbl (by simp) c0)) rfl ?_
      refine Q_cons (Still1.of_pure (p_move rfl)) rfl ?_
      refine Q_cons (Still1.of_pure (p_indexSl (j := 0) rfl rfl rfl slc_u8ss (by omega))) rfl ?_
      refine Q_cons (Still1.of_pure (p_load_base rfl sc_u8s hbS (by simp) d0)) rfl ?_
      refine Q_nop ?_
      refine Q_nil ?_
      refine E_tail ?_
      refine R_cons rfl (op_copy (n := 64) rfl rfl slc_u8s rfl (fun w' hm => (RS.reads hs0).base hm) (bytesV_one _) (by repeat (first | exact At.here | apply At.there)) (by rw [bytesV_length, hy0]; exact Nat.le_refl _) rfl ?_)
      refine R_nil ?_
      repeat (first | refine S_scope ?_ | refine S_label ?_ | refine E_noGoto_normal ?_ | refine E_noGoto_ret ?_ | refine E_noGoto_exit ?_ | refine S_yes rfl (by first | with_reducible rfl | decide) ?_ | refine S_no rfl (by first | with_reducible rfl | decide) ?_ | refine S_seq ?_ | refine E_seq ?_ | refine S_block ?_ | refine E_block_normal ?_ | refine S_skip ?_ | refine S_exit ?_ | refine S_ret ?_ | refine E_then_exit ?_ | refine E_then_ret ?_ | refine E_block_ret ?_ | refine E_block_exit ?_ | refine E_block_exit_other rfl ?_)
      rw [lay_64 y0 s0.x hy0 hs0.2]
      refine S_region ?_
      refine R_cons rfl (op_pure (p_move rfl) rfl ?_)
      refine R_cons rfl (op_pure (p_bin rfl rfl (b_add (r := ((1 : Nat) : Int)) rfl)) rfl ?_)
      refine R_cons rfl (op_pure (p_assign rfl) rfl ?_)
      refine R_nil ?_
      repeat (first | refine S_scope ?_ | refine S_label ?_ | refine E_noGoto_normal ?_ | refine E_noGoto_ret ?_ | refine E_noGoto_exit ?_ | refine S_yes rfl (by first | with_reducible rfl | decide) ?_ | refine S_no rfl (by first | with_reducible rfl | decide) ?_ | refine S_seq ?_ | refine E_seq ?_ | refine S_block ?_ | refine E_block_normal ?_ | refine S_skip ?_ | refine S_exit ?_ | refine S_ret ?_ | refine E_then_exit ?_ | refine E_then_ret ?_ | refine E_block_ret ?_ | refine E_block_exit ?_ | refine E_block_exit_other rfl ?_)
      exact E_round (σ := YS) (s := ⟨0, y0, y1, y2⟩) ⟨1, s0.x, y1, y2⟩ (by exact ⟨by show 1 ≤ 3; omega, ⟨hs0.2, hy1, hy2⟩, fun _ => rfl, fun h => absurd h (by show ¬ (1 < 1); omega), fun h => absurd h (by show ¬ (2 < 1); omega)⟩) (by show 3 - 1 < 3 - 0; omega) (by repeat (first | exact Sub.nil | refine Sub.cons rfl ?_)) (by repeat (first | exact Fewer.nil | exact Fewer.refl _ | refine Fewer.pick rfl (by repeat (first | exact Del.here | apply Del.there)) ?_))
    · have g5 : decide (((1 : Nat) : Int) < ((3 : Nat) : Int)) = true := rfl
      repeat (first | refine S_scope ?_ | refine S_label ?_ | refine E_noGoto_normal ?_ | refine E_noGoto_ret ?_ | refine E_noGoto_exit ?_ | refine S_yes rfl (by first | with_reducible rfl | decide) ?_ | refine S_no rfl (by first | with_reducible rfl | decide) ?_ | refine S_seq ?_ | refine E_seq ?_ | refine S_block ?_ | refine E_block_normal ?_ | refine S_skip ?_ | refine S_exit ?_ | refine S_ret ?_ | refine E_then_exit ?_ | refine E_then_ret ?_ | refine E_block_ret ?_ | refine E_block_exit ?_ | refine E_block_exit_other rfl ?_)
      refine S_region ?_
      refine R_cons rfl (op_pure (p_move rfl) rfl ?_)
      refine R_cons rfl (op_pure (p_move rfl) rfl ?_)
      refine R_cons rfl (op_pure (p_nilCheck rfl) rfl ?_)
      refine R_cons rfl (op_pure (by first | exact p_fieldAddr0 rfl fd_almonerref05_Disk_0 | exact p_fieldAddr rfl fd_almonerref05_Disk_0) rfl ?_)
      refine R_cons rfl (op_pure (p_load_base rfl sc_u8ss hbl (by simp) c0) rfl ?_)
      refine R_cons rfl (op_pure (p_len rfl slc_u8ss) rfl ?_)
      refine R_cons rfl (op_pure (p_bin rfl rfl (b_lss g5)) rfl ?_)
      refine R_nil ?_
      repeat (first | refine S_scope ?_ | refine S_label ?_ | refine E_noGoto_normal ?_ | refine E_noGoto_ret ?_ | refine E_noGoto_exit ?_ | refine S_yes rfl (by first | with_reducible rfl | decide) ?_ | refine S_no rfl (by first | with_reducible rfl | decide) ?_ | refine S_seq ?_ | refine E_seq ?_ | refine S_block ?_ | refine E_block_normal ?_ | refine S_skip ?_ | refine S_exit ?_ | refine S_ret ?_ | refine E_then_exit ?_ | refine E_then_ret ?_ | refine E_block_ret ?_ | refine E_block_exit ?_ | refine E_block_exit_other rfl ?_)
      refine S_tail 14 (by kernel_rfl) (by kernel_rfl) (by kernel_rfl) (by kernel_rfl) ?_
      refine Q_cons (Still1.of_pure (p_move rfl)) rfl ?_
      refine Q_cons (Still1.of_pure (p_nilCheck rfl)) rfl ?_
      refine Q_cons (Still1.of_pure (by first | exact p_fieldAddr0 rfl fd_almonerref05_Disk_0 | exact p_fieldAddr rfl fd_almonerref05_Disk_0)) rfl ?_
      refine Q_cons (Still1.of_pure (p_load rfl sc_u8ss (by repeat (first | exact List.Mem.head _ | apply List.Mem.tail)) (by rfl))) rfl ?_
      refine Q_cons (Still1.of_pure (p_move rfl)) rfl ?_
      refine Q_cons (Still1.of_pure (p_indexSl (j := 1) rfl rfl rfl slc_u8ss (by omega))) rfl ?_
      refine Q_cons (Still1.of_pure (p_load rfl sc_u8s (by repeat (first | exact List.Mem.head _ | apply List.Mem.tail)) v1)) rfl ?_
      refine Q_cons (Still1.of_pure (p_move rfl)) rfl ?_
      refine Q_cons (Still1.of_pure (p_nilCheck rfl)) rfl ?_
      refine Q_cons (Still1.of_pure (by first | exact p_fieldAddr0 rfl fd_almonerref05_Disk_0 | exact p_fieldAddr rfl fd_almonerref05_Disk_0)) rfl ?_
      refine Q_cons (Still1.of_pure (p_load_base rfl sc_u8ss hbl (by simp) c0)) rfl ?_
      refine Q_cons (Still1.of_pure (p_move rfl)) rfl ?_
      refine Q_cons (Still1.of_pure (p_indexSl (j := 1) rfl rfl rfl slc_u8ss (by omega))) rfl ?_
      refine Q_cons (Still1.of_pure (p_load_base rfl sc_u8s hbS (by simp) d1)) rfl ?_
      refine Q_nop ?_
      refine Q_nil ?_
      refine E_tail ?_
      refine R_cons rfl (op_copy (n := 64) rfl rfl slc_u8s rfl (fun w' hm => (RS.reads hs1).base hm) (bytesV_one _) (by repeat (first | exact At.here | apply At.there)) (by rw [bytesV_length, hy1]; exact Nat.le_refl _) rfl ?_)
      refine R_nil ?_
      repeat (first | refine S_scope ?_ | refine S_label ?_ | refine E_noGoto_normal ?_ | refine E_noGoto_ret ?_ | refine E_noGoto_exit ?_ | refine S_yes rfl (by first | with_reducible rfl | decide) ?_ | refine S_no rfl (by first | with_reducible rfl | decide) ?_ | refine S_seq ?_ | refine E_seq ?_ | refine S_block ?_ | refine E_block_normal ?_ | refine S_skip ?_ | refine S_exit ?_ | refine S_ret ?_ | refine E_then_exit ?_ | refine E_then_ret ?_ | refine E_block_ret ?_ | refine E_block_exit ?_ | refine E_block_exit_other rfl ?_)
      rw [lay_64 y1 s1.x hy1 hs1.2]
      refine S_region ?_
      refine R_cons rfl (op_pure (p_move rfl) rfl ?_)
      refine R_cons rfl (op_pure (p_bin rfl rfl (b_add (r := ((2 : Nat) : Int)) rfl)) rfl ?_)
      refine R_cons rfl (op_pure (p_assign rfl) rfl ?_)
      refine R_nil ?_
      repeat (first | refine S_scope ?_ | refine S_label ?_ | refine E_noGoto_normal ?_ | refine E_noGoto_ret ?_ | refine E_noGoto_exit ?_ | refine S_yes rfl (by first | with_reducible rfl | decide) ?_ | refine S_no rfl (by first | with_reducible rfl | decide) ?_ | refine S_seq ?_ | refine E_seq ?_ | refine S_block ?_ | refine E_block_normal ?_ | refine S_skip ?_ | refine S_exit ?_ | refine S_ret ?_ | refine E_then_exit ?_ | refine E_then_ret ?_ | refine E_block_ret ?_ | refine E_block_exit ?_ | refine E_block_exit_other rfl ?_)
      exact E_round (σ := YS) (s := ⟨1, y0, y1, y2⟩) ⟨2, y0, s1.x, y2⟩ (by exact ⟨by show 2 ≤ 3; omega, ⟨hy0, hs1.2, hy2⟩, fun _ => e0 (by omega), fun _ => rfl, fun h => absurd h (by show ¬ (2 < 2); omega)⟩) (by show 3 - 2 < 3 - 1; omega) (by repeat (first | exact Sub.nil | refine Sub.cons rfl ?_)) (by repeat (first | exact Fewer.nil | exact Fewer.refl _ | refine Fewer.pick rfl (by repeat (first | exact Del.here | apply Del.there)) ?_))
    · have g5 : decide (((2 : Nat) : Int) < ((3 : Nat) : Int)) = true := rfl
      repeat (first | refine S_scope ?_ | refine S_label ?_ | refine E_noGoto_normal ?_ | refine E_noGoto_ret ?_ | refine E_noGoto_exit ?_ | refine S_yes rfl (by first | with_reducible rfl | decide) ?_ | refine S_no rfl (by first | with_reducible rfl | decide) ?_ | refine S_seq ?_ | refine E_seq ?_ | refine S_block ?_ | refine E_block_normal ?_ | refine S_skip ?_ | refine S_exit ?_ | refine S_ret ?_ | refine E_then_exit ?_ | refine E_then_ret ?_ | refine E_block_ret ?_ | refine E_block_exit ?_ | refine E_block_exit_other rfl ?_)
      refine S_region ?_
      refine R_cons rfl (op_pure (p_move rfl) rfl ?_)
      refine R_cons rfl (op_pure (p_move rfl) rfl ?_)
      refine R_cons rfl (op_pure (p_nilCheck rfl) rfl ?_)
      refine R_cons rfl (op_pure (by first | exact p_fieldAddr0 rfl fd_almonerref05_Disk_0 | exact p_fieldAddr rfl fd_almonerref05_Disk_0) rfl ?_)
      refine R_cons rfl (op_pure (p_load_base rfl sc_u8ss hbl (by simp) c0) rfl ?_)
      refine R_cons rfl (op_pure (p_len rfl slc_u8ss) rfl ?_)
      refine R_cons rfl (op_pure (p_bin rfl rfl (b_lss g5)) rfl ?_)
      refine R_nil ?_
      repeat (first | refine S_scope ?_ | refine S_label ?_ | refine E_noGoto_normal ?_ | refine E_noGoto_ret ?_ | refine E_noGoto_exit ?_ | refine S_yes rfl (by first | with_reducible rfl | decide) ?_ | refine S_no rfl (by first | with_reducible rfl | decide) ?_ | refine S_seq ?_ | refine E_seq ?_ | refine S_block ?_ | refine E_block_normal ?_ | refine S_skip ?_ | refine S_exit ?_ | refine S_ret ?_ | refine E_then_exit ?_ | refine E_then_ret ?_ | refine E_block_ret ?_ | refine E_block_exit ?_ | refine E_block_exit_other rfl ?_)
      refine S_tail 14 (by kernel_rfl) (by kernel_rfl) (by kernel_rfl) (by kernel_rfl) ?_
      refine Q_cons (Still1.of_pure (p_move rfl)) rfl ?_
      refine Q_cons (Still1.of_pure (p_nilCheck rfl)) rfl ?_
      refine Q_cons (Still1.of_pure (by first | exact p_fieldAddr0 rfl fd_almonerref05_Disk_0 | exact p_fieldAddr rfl fd_almonerref05_Disk_0)) rfl ?_
      refine Q_cons (Still1.of_pure (p_load rfl sc_u8ss (by repeat (first | exact List.Mem.head _ | apply List.Mem.tail)) (by rfl))) rfl ?_
      refine Q_cons (Still1.of_pure (p_move rfl)) rfl ?_
      refine Q_cons (Still1.of_pure (p_indexSl (j := 2) rfl rfl rfl slc_u8ss (by omega))) rfl ?_
      refine Q_cons (Still1.of_pure (p_load rfl sc_u8s (by repeat (first | exact List.Mem.head _ | apply List.Mem.tail)) v2)) rfl ?_
      refine Q_cons (Still1.of_pure (p_move rfl)) rfl ?_
      refine Q_cons (Still1.of_pure (p_nilCheck rfl)) rfl ?_
      refine Q_cons (Still1.of_pure (by first | exact p_fieldAddr0 rfl fd_almonerref05_Disk_0 | exact p_fieldAddr rfl fd_almonerref05_Disk_0)) rfl ?_
      refine Q_cons (Still1.of_pure (p_load_base rfl sc_u8ss hbl (by simp) c0)) rfl ?_
      refine Q_cons (Still1.of_pure (p_move rfl)) rfl ?_
      refine Q_cons (Still1.of_pure (p_indexSl (j := 2) rfl rfl rfl slc_u8ss (by omega))) rfl ?_
      refine Q_cons (Still1.of_pure (p_load_base rfl sc_u8s hbS (by simp) d2)) rfl ?_
      refine Q_nop ?_
      refine Q_nil ?_
      refine E_tail ?_
      refine R_cons rfl (op_copy (n := 64) rfl rfl slc_u8s rfl (fun w' hm => (RS.reads hs2).base hm) (bytesV_one _) (by repeat (first | exact At.here | apply At.there)) (by rw [bytesV_length, hy2]; exact Nat.le_refl _) rfl ?_)
      refine R_nil ?_
      repeat (first | refine S_scope ?_ | refine S_label ?_ | refine E_noGoto_normal ?_ | refine E_noGoto_ret ?_ | refine E_noGoto_exit ?_ | refine S_yes rfl (by first | with_reducible rfl | decide) ?_ | refine S_no rfl (by first | with_reducible rfl | decide) ?_ | refine S_seq ?_ | refine E_seq ?_ | refine S_block ?_ | refine E_block_normal ?_ | refine S_skip ?_ | refine S_exit ?_ | refine S_ret ?_ | refine E_then_exit ?_ | refine E_then_ret ?_ | refine E_block_ret ?_ | refine E_block_exit ?_ | refine E_block_exit_other rfl ?_)
      rw [lay_64 y2 s2.x hy2 hs2.2]
      refine S_region ?_
      refine R_cons rfl (op_pure (p_move rfl) rfl ?_)
      refine R_cons rfl (op_pure (p_bin rfl rfl (b_add (r := ((3 : Nat) : Int)) rfl)) rfl ?_)
      refine R_cons rfl (op_pure (p_assign rfl) rfl ?_)
      refine R_nil ?_
      repeat (first | refine S_scope ?_ | refine S_label ?_ | refine E_noGoto_normal ?_ | refine E_noGoto_ret ?_ | refine E_noGoto_exit ?_ | refine S_yes rfl (by first | with_reducible rfl | decide) ?_ | refine S_no rfl (by first | with_reducible rfl | decide) ?_ | refine S_seq ?_ | refine E_seq ?_ | refine S_block ?_ | refine E_block_normal ?_ | refine S_skip ?_ | refine S_exit ?_ | refine S_ret ?_ | refine E_then_exit ?_ | refine E_then_ret ?_ | refine E_block_ret ?_ | refine E_block_exit ?_ | refine E_block_exit_other rfl ?_)
      exact E_round (σ := YS) (s := ⟨2, y0, y1, y2⟩) ⟨3, y0, y1, s2.x⟩ (by exact ⟨by show 3 ≤ 3; omega, ⟨hy0, hy1, hs2.2⟩, fun _ => e0 (by omega), fun _ => e1 (by omega), fun _ => rfl⟩) (by show 3 - 3 < 3 - 2; omega) (by repeat (first | exact Sub.nil | refine Sub.cons rfl ?_)) (by repeat (first | exact Fewer.nil | exact Fewer.refl _ | refine Fewer.pick rfl (by repeat (first | exact Del.here | apply Del.there)) ?_))
  have hj3 : j = 3 := by omega
  subst hj3
  have g5 : decide (((3 : Nat) : Int) < ((3 : Nat) : Int)) = false := rfl
  obtain rfl := e0 (by omega)
  obtain rfl := e1 (by omega)
  obtain rfl := e2 (by omega)
  clear e0 e1 e2
  repeat (first | refine S_scope ?_ | refine S_label ?_ | refine E_noGoto_normal ?_ | refine E_noGoto_ret ?_ | refine E_noGoto_exit ?_ | refine S_yes rfl (by first | with_reducible rfl | decide) ?_ | refine S_no rfl (by first | with_reducible rfl | decide) ?_ | refine S_seq ?_ | refine E_seq ?_ | refine S_block ?_ | refine E_block_normal ?_ | refine S_skip ?_ | refine S_exit ?_ | refine S_ret ?_ | refine E_then_exit ?_ | refine E_then_ret ?_ | refine E_block_ret ?_ | refine E_block_exit ?_ | refine E_block_exit_other rfl ?_)
  refine S_region ?_
  refine R_cons rfl (op_pure (p_move rfl) rfl ?_)
  refine R_cons rfl (op_pure (p_move rfl) rfl ?_)
  refine R_cons rfl (op_pure (p_nilCheck rfl) rfl ?_)
  refine R_cons rfl (op_pure (by first | exact p_fieldAddr0 rfl fd_almonerref05_Disk_0 | exact p_fieldAddr rfl fd_almonerref05_Disk_0) rfl ?_)
  refine R_cons rfl (op_pure (p_load_base rfl sc_u8ss hbl (by simp) c0) rfl ?_)
  refine R_cons rfl (op_pure (p_len rfl slc_u8ss) rfl ?_)
  refine R_cons rfl (op_pure (p_bin rfl rfl (b_lss g5)) rfl ?_)
  refine R_nil ?_
  repeat (first | refine S_scope ?_ | refine S_label ?_ | refine E_noGoto_normal ?_ | refine E_noGoto_ret ?_ | refine E_noGoto_exit ?_ | refine S_yes rfl (by first | with_reducible rfl | decide) ?_ | refine S_no rfl (by first | with_reducible rfl | decide) ?_ | refine S_seq ?_ | refine E_seq ?_ | refine S_block ?_ | refine E_block_normal ?_ | refine S_skip ?_ | refine S_exit ?_ | refine S_ret ?_ | refine E_then_exit ?_ | refine E_then_ret ?_ | refine E_block_ret ?_ | refine E_block_exit ?_ | refine E_block_exit_other rfl ?_)
  refine S_region ?_
  refine R_cons rfl (op_pure (p_assign rfl) rfl ?_)
  refine R_nil ?_
  repeat (first | refine S_scope ?_ | refine S_label ?_ | refine E_noGoto_normal ?_ | refine E_noGoto_ret ?_ | refine E_noGoto_exit ?_ | refine S_yes rfl (by first | with_reducible rfl | decide) ?_ | refine S_no rfl (by first | with_reducible rfl | decide) ?_ | refine S_seq ?_ | refine E_seq ?_ | refine S_block ?_ | refine E_block_normal ?_ | refine S_skip ?_ | refine S_exit ?_ | refine S_ret ?_ | refine E_then_exit ?_ | refine E_then_ret ?_ | refine E_block_ret ?_ | refine E_block_exit ?_ | refine E_block_exit_other rfl ?_)
  refine S_loop (σ := YS) (fun s => [(8, .int .i64 (s.j : Int)), (5, .pointer (some ⟨br2, 0, none⟩)), (1, .slice A l.length c), (0, .pointer (some ⟨q.br, 0, none⟩))]) (fun s => [(br2, .cells (refC (.slice (some ⟨bS2, 0, none⟩) 3 cS2) (.slice none 0 0) (-1) false).toArray 124 (0, 0)), (bS2, .cells (suV [(⟨b0, 64, [], List.replicate 64 0⟩ : RS), ⟨b1, 64, [], List.replicate 64 0⟩, ⟨b2, 64, [], List.replicate 64 0⟩] ++ spS2).toArray 40 (0, 0)), (b0, .cells (bytesV s.y0).toArray 5 (0, 0)), (b1, .cells (bytesV s.y1).toArray 5 (0, 0)), (b2, .cells (bytesV s.y2).toArray 5 (0, 0))])
    (fun s => s.j ≤ q.ws.length ∧ (s.y0.length = 64 ∧ s.y1.length = 64 ∧ s.y2.length = 64) ∧ [s.y0, s.y1, s.y2] = keptJ q.sure q.wss l s.j) (fun s => q.ws.length - s.j) ⟨0, s0.x, s1.x, s2.x⟩ ⟨Nat.zero_le _, ⟨hs0.2, hs1.2, hs2.2⟩, by rw [keptJ_0, hsure]⟩ (by repeat (first | exact Sub.nil | refine Sub.cons rfl ?_)) (by repeat (first | exact Fewer.nil | exact Fewer.refl _ | refine Fewer.pick rfl (by repeat (first | exact Del.here | apply Del.there)) ?_)) ?_
  clear hy0 hy1 hy2 hlt hj
  rintro ⟨j, y0, y1, y2⟩ ⟨hj, ⟨hy0, hy1, hy2⟩, hy⟩
  dsimp only at hj hy0 hy1 hy2 hy ⊢
  have hwl : q.wss.length = q.ws.length := List.length_map ..
  by_cases hlt : j < q.ws.length
  · have g6 : decide ((j : Int) < (q.ws.length : Int)) = true := decide_eq_true (by omega)
    have hinc : IntKind.i64.wrap ((j : Int) + 1) = ((j + 1 : Nat) : Int) := by rw [w_in_i64 (by omega)]; omega
    by_cases hll : j < l.length
    · have g7 : decide ((j : Int) < (l.length : Int)) = true := decide_eq_true (by omega)
      obtain ⟨ba, offa, rfl, hbal, hca⟩ := hrd.2 (by omega)
      have hl00 := hca j (.bool (l.getD j false)) (boolsV_get hll)
      have hlj : l[j]? = some (l.getD j false) := by rw [List.getD_eq_getElem?_getD, List.getElem?_eq_getElem hll]; rfl
      obtain ⟨v, hv⟩ : ∃ v, q.ws[j]? = some v := ⟨_, List.getElem?_eq_getElem hlt⟩
      have hvs : q.wss[j]? = some (v.1, v.2.x) := by unfold QS.wss; rw [List.getElem?_map, hv]; rfl
      have hsucc := keptJ_succ q.sure q.wss l j _ _ hvs hlj
      rw [← hy] at hsucc
      dsimp only at hsucc
      repeat (first | refine S_scope ?_ | refine S_label ?_ | refine E_noGoto_normal ?_ | refine E_noGoto_ret ?_ | refine E_noGoto_exit ?_ | refine S_yes rfl (by first | with_reducible rfl | decide) ?_ | refine S_no rfl (by first | with_reducible rfl | decide) ?_ | refine S_seq ?_ | refine E_seq ?_ | refine S_block ?_ | refine E_block_normal ?_ | refine S_skip ?_ | refine S_exit ?_ | refine S_ret ?_ | refine E_then_exit ?_ | refine E_then_ret ?_ | refine E_block_ret ?_ | refine E_block_exit ?_ | refine E_block_exit_other rfl ?_)
      refine S_region ?_
      refine R_cons rfl (op_pure (p_move rfl) rfl ?_)
      refine R_cons rfl (op_pure (p_move rfl) rfl ?_)
      refine R_cons rfl (op_pure (p_nilCheck rfl) rfl ?_)
      refine R_cons rfl (op_pure (by first | exact p_fieldAddr0 rfl fd_almonerref05_Disk_1 | exact p_fieldAddr rfl fd_almonerref05_Disk_1) rfl ?_)
      refine R_cons rfl (op_pure (p_load_base rfl sc_almonerref05_wait hbl (by simp) c1) rfl ?_)
      refine R_cons rfl (op_pure (p_lenR rfl slr_almonerref05_wait) rfl ?_)
      refine R_cons rfl (op_pure (p_bin rfl rfl (b_lss g6)) rfl ?_)
      refine R_nil ?_
      repeat (first | refine S_scope ?_ | refine S_label ?_ | refine E_noGoto_normal ?_ | refine E_noGoto_ret ?_ | refine E_noGoto_exit ?_ | refine S_yes rfl (by first | with_reducible rfl | decide) ?_ | refine S_no rfl (by first | with_reducible rfl | decide) ?_ | refine S_seq ?_ | refine E_seq ?_ | refine S_block ?_ | refine E_block_normal ?_ | refine S_skip ?_ | refine S_exit ?_ | refine S_ret ?_ | refine E_then_exit ?_ | refine E_then_ret ?_ | refine E_block_ret ?_ | refine E_block_exit ?_ | refine E_block_exit_other rfl ?_)
      refine S_region ?_
      refine R_cons rfl (op_pure (p_move rfl) rfl ?_)
      refine R_cons rfl (op_pure (p_move rfl) rfl ?_)
      refine R_cons rfl (op_pure (p_len rfl slc_bool) rfl ?_)
      refine R_cons rfl (op_pure (p_bin rfl rfl (b_lss g7)) rfl ?_)
      refine R_cons rfl (op_pure (p_move rfl) rfl ?_)
      first | refine R_pass rfl rfl rfl rfl ?_ | refine R_pass_undef rfl rfl rfl ?_ | refine R_guard rfl rfl rfl (op_pure (p_move rfl) rfl ?_)
      first | refine R_pass rfl rfl rfl rfl ?_ | refine R_pass_undef rfl rfl rfl ?_ | refine R_guard rfl rfl rfl (op_pure (p_move rfl) rfl ?_)
      first | refine R_pass rfl rfl rfl rfl ?_ | refine R_pass_undef rfl rfl rfl ?_ | refine R_guard rfl rfl rfl (op_pure (p_indexSl (j := j) rfl rfl rfl slc_bool hll) rfl ?_)
      first | refine R_pass rfl rfl rfl rfl ?_ | refine R_pass_undef rfl rfl rfl ?_ | refine R_guard rfl rfl rfl (op_pure (p_load_base rfl sc_bool hbal (by simp) hl00) rfl ?_)
      refine R_cons rfl (op_pure (by first | exact p_pick_yes rfl rfl | exact p_pick_no rfl rfl | exact p_pick rfl rfl rfl) rfl ?_)
      refine R_nil ?_
      cases hlk : l.getD j false with
      | false =>
        rw [hlk, if_neg (by decide)] at hsucc
        repeat (first | refine S_scope ?_ | refine S_label ?_ | refine E_noGoto_normal ?_ | refine E_noGoto_ret ?_ | refine E_noGoto_exit ?_ | refine S_yes rfl (by first | with_reducible rfl | decide) ?_ | refine S_no rfl (by first | with_reducible rfl | decide) ?_ | refine S_seq ?_ | refine E_seq ?_ | refine S_block ?_ | refine E_block_normal ?_ | refine S_skip ?_ | refine S_exit ?_ | refine S_ret ?_ | refine E_then_exit ?_ | refine E_then_ret ?_ | refine E_block_ret ?_ | refine E_block_exit ?_ | refine E_block_exit_other rfl ?_)
        refine S_region ?_
        refine R_cons rfl (op_pure (p_move rfl) rfl ?_)
        refine R_cons rfl (op_pure (p_bin rfl rfl (b_add hinc)) rfl ?_)
        refine R_cons rfl (op_pure (p_assign rfl) rfl ?_)
        refine R_nil ?_
        repeat (first | refine S_scope ?_ | refine S_label ?_ | refine E_noGoto_normal ?_ | refine E_noGoto_ret ?_ | refine E_noGoto_exit ?_ | refine S_yes rfl (by first | with_reducible rfl | decide) ?_ | refine S_no rfl (by first | with_reducible rfl | decide) ?_ | refine S_seq ?_ | refine E_seq ?_ | refine S_block ?_ | refine E_block_normal ?_ | refine S_skip ?_ | refine S_exit ?_ | refine S_ret ?_ | refine E_then_exit ?_ | refine E_then_ret ?_ | refine E_block_ret ?_ | refine E_block_exit ?_ | refine E_block_exit_other rfl ?_)
        exact E_round (σ := YS) (s := ⟨j, y0, y1, y2⟩) ⟨j + 1, y0, y1, y2⟩ (by exact ⟨by show j + 1 ≤ q.ws.length; omega, ⟨hy0, hy1, hy2⟩, hsucc.symm⟩) (by show q.ws.length - (j + 1) < q.ws.length - j; omega) (by repeat (first | exact Sub.nil | refine Sub.cons rfl ?_)) (by repeat (first | exact Fewer.nil | exact Fewer.refl _ | refine Fewer.pick rfl (by repeat (first | exact Del.here | apply Del.there)) ?_))
      | true =>
        rw [hlk, if_pos rfl] at hsucc
        have hv3 := hq.wok v (List.mem_of_getElem? hv)
        have hva := hq.wsa v (List.mem_of_getElem? hv)
        obtain ⟨bw, rfl, hbw, hcell⟩ := hwc (by omega)
        have hc0 := hcell j 0 v hv (by omega)
        have hc1 := hcell j 1 v hv (by omega)
        obtain ⟨i, z⟩ := v
        dsimp only at hsucc hv3 hva hc0 hc1
        have hc : i = 0 ∨ i = 1 ∨ i = 2 := by omega
        rcases hc with rfl | rfl | rfl
        · skip
          repeat (first | refine S_scope ?_ | refine S_label ?_ | refine E_noGoto_normal ?_ | refine E_noGoto_ret ?_ | refine E_noGoto_exit ?_ | refine S_yes rfl (by first | with_reducible rfl | decide) ?_ | refine S_no rfl (by first | with_reducible rfl | decide) ?_ | refine S_seq ?_ | refine E_seq ?_ | refine S_block ?_ | refine E_block_normal ?_ | refine S_skip ?_ | refine S_exit ?_ | refine S_ret ?_ | refine E_then_exit ?_ | refine E_then_ret ?_ | refine E_block_ret ?_ | refine E_block_exit ?_ | refine E_block_exit_other rfl ?_)
          refine S_tail 22 (by kernel_rfl) (by kernel_rfl) (by kernel_rfl) (by kernel_rfl) ?_
          refine Q_cons (Still1.of_pure (p_move rfl)) rfl ?_
          refine Q_cons (Still1.of_pure (p_nilCheck rfl)) rfl ?_
          refine Q_cons (Still1.of_pure (by first | exact p_fieldAddr0 rfl fd_almonerref05_Disk_0 | exact p_fieldAddr rfl fd_almonerref05_Disk_0)) rfl ?_
          refine Q_cons (Still1.of_pure (p_load rfl sc_u8ss (by repeat (first | exact List.Mem.head _ | apply List.Mem.tail)) (by rfl))) rfl ?_
          refine Q_cons (Still1.of_pure (p_move rfl)) rfl ?_
          refine Q_cons (Still1.of_pure (p_nilCheck rfl)) rfl ?_
          refine Q_cons (Still1.of_pure (by first | exact p_fieldAddr0 rfl fd_almonerref05_Disk_1 | exact p_fieldAddr rfl fd_almonerref05_Disk_1)) rfl ?_
          refine Q_cons (Still1.of_pure (p_load_base rfl sc_almonerref05_wait hbl (by simp) c1)) rfl ?_
          refine Q_cons (Still1.of_pure (p_move rfl)) rfl ?_
          refine Q_cons (Still1.of_pure (p_indexR (j := j) rfl rfl rfl slr_almonerref05_wait hlt)) rfl ?_
          refine Q_cons (Still1.of_pure (by first | exact p_fieldAddr0 rfl fd_almonerref05_wait_0 | exact p_fieldAddr rfl fd_almonerref05_wait_0)) rfl ?_
          refine Q_cons (Still1.of_pure (p_load_base rfl sc_int hbw (by simp) hc0)) rfl ?_
          refine Q_cons (Still1.of_pure (p_indexSl (j := 0) rfl rfl rfl slc_u8ss (by omega))) rfl ?_
          refine Q_cons (Still1.of_pure (p_load rfl sc_u8s (by repeat (first | exact List.Mem.head _ | apply List.Mem.tail)) v0)) rfl ?_
          refine Q_cons (Still1.of_pure (p_move rfl)) rfl ?_
          refine Q_cons (Still1.of_pure (p_nilCheck rfl)) rfl ?_
          refine Q_cons (Still1.of_pure (by first | exact p_fieldAddr0 rfl fd_almonerref05_Disk_1 | exact p_fieldAddr rfl fd_almonerref05_Disk_1)) rfl ?_
          refine Q_cons (Still1.of_pure (p_load_base rfl sc_almonerref05_wait hbl (by simp) c1)) rfl ?_
          refine Q_cons (Still1.of_pure (p_move rfl)) rfl ?_
          refine Q_cons (Still1.of_pure (p_indexR (j := j) rfl rfl rfl slr_almonerref05_wait hlt)) rfl ?_
          refine Q_cons (Still1.of_pure (by first | exact p_fieldAddr0 rfl fd_almonerref05_wait_1 | exact p_fieldAddr rfl fd_almonerref05_wait_1)) rfl ?_
          refine Q_cons (Still1.of_pure (p_load_base rfl sc_u8s hbw (by simp) hc1)) rfl ?_
          refine Q_nop ?_
          refine Q_nil ?_
          refine E_tail ?_
          refine R_cons rfl (op_copy (n := 64) rfl rfl slc_u8s rfl (fun w' hm => (RS.reads hva).base hm) (bytesV_one _) (by repeat (first | exact At.here | apply At.there)) (by rw [bytesV_length, hy0]; exact Nat.le_refl _) rfl ?_)
          refine R_nil ?_
          repeat (first | refine S_scope ?_ | refine S_label ?_ | refine E_noGoto_normal ?_ | refine E_noGoto_ret ?_ | refine E_noGoto_exit ?_ | refine S_yes rfl (by first | with_reducible rfl | decide) ?_ | refine S_no rfl (by first | with_reducible rfl | decide) ?_ | refine S_seq ?_ | refine E_seq ?_ | refine S_block ?_ | refine E_block_normal ?_ | refine S_skip ?_ | refine S_exit ?_ | refine S_ret ?_ | refine E_then_exit ?_ | refine E_then_ret ?_ | refine E_block_ret ?_ | refine E_block_exit ?_ | refine E_block_exit_other rfl ?_)
          rw [lay_64 y0 z.x hy0 hva.2]
          refine S_region ?_
          refine R_cons rfl (op_pure (p_move rfl) rfl ?_)
          refine R_cons rfl (op_pure (p_bin rfl rfl (b_add hinc)) rfl ?_)
          refine R_cons rfl (op_pure (p_assign rfl) rfl ?_)
          refine R_nil ?_
          repeat (first | refine S_scope ?_ | refine S_label ?_ | refine E_noGoto_normal ?_ | refine E_noGoto_ret ?_ | refine E_noGoto_exit ?_ | refine S_yes rfl (by first | with_reducible rfl | decide) ?_ | refine S_no rfl (by first | with_reducible rfl | decide) ?_ | refine S_seq ?_ | refine E_seq ?_ | refine S_block ?_ | refine E_block_normal ?_ | refine S_skip ?_ | refine S_exit ?_ | refine S_ret ?_ | refine E_then_exit ?_ | refine E_then_ret ?_ | refine E_block_ret ?_ | refine E_block_exit ?_ | refine E_block_exit_other rfl ?_)
          exact E_round (σ := YS) (s := ⟨j, y0, y1, y2⟩) ⟨j + 1, z.x, y1, y2⟩ (by exact ⟨by show j + 1 ≤ q.ws.length; omega, ⟨hva.2, hy1, hy2⟩, hsucc.symm⟩) (by show q.ws.length - (j + 1) < q.ws.length - j; omega) (by repeat (first | exact Sub.nil | refine Sub.cons rfl ?_)) (by repeat (first | exact Fewer.nil | exact Fewer.refl _ | refine Fewer.pick rfl (by repeat (first | exact Del.here | apply Del.there)) ?_))
        · skip
          repeat (first | refine S_scope ?_ | refine S_label ?_ | refine E_noGoto_normal ?_ | refine E_noGoto_ret ?_ | refine E_noGoto_exit ?_ | refine S_yes rfl (by first | with_reducible rfl | decide) ?_ | refine S_no rfl (by first | with_reducible rfl | decide) ?_ | refine S_seq ?_ | refine E_seq ?_ | refine S_block ?_ | refine E_block_normal ?_ | refine S_skip ?_ | refine S_exit ?_ | refine S_ret ?_ | refine E_then_exit ?_ | refine E_then_ret ?_ | refine E_block_ret ?_ | refine E_block_exit ?_ | refine E_block_exit_other rfl ?_)
          refine S_tail 22 (by kernel_rfl) (by kernel_rfl) (by kernel_rfl) (by kernel_rfl) ?_
          refine Q_cons (Still1.of_pure (p_move rfl)) rfl ?_
          refine Q_cons (Still1.of_pure (p_nilCheck rfl)) rfl ?_
          refine Q_cons (Still1.of_pure (by first | exact p_fieldAddr0 rfl fd_almonerref05_Disk_0 | exact p_fieldAddr rfl fd_almonerref05_Disk_0)) rfl ?_
          refine Q_cons (Still1.of_pure (p_load rfl sc_u8ss (by repeat (first | exact List.Mem.head _ | apply List.Mem.tail)) (by rfl))) rfl ?_
          refine Q_cons (Still1.of_pure (p_move rfl)) rfl ?_
          refine Q_cons (Still1.of_pure (p_nilCheck rfl)) rfl ?_
          refine Q_cons (Still1.of_pure (by first | exact p_fieldAddr0 rfl fd_almonerref05_Disk_1 | exact p_fieldAddr rfl fd_almonerref05_Disk_1)) rfl ?_
          refine Q_cons (Still1.of_pure (p_load_base rfl sc_almonerref05_wait hbl (by simp) c1)) rfl ?_
          refine Q_cons (Still1.of_pure (p_move rfl)) rfl ?_
          refine Q_cons (Still1.of_pure (p_indexR (j := j) rfl rfl rfl slr_almonerref05_wait hlt)) rfl ?_
          refine Q_cons (Still1.of_pure (by first | exact p_fieldAddr0 rfl fd_almonerref05_wait_0 | exact p_fieldAddr rfl fd_almonerref05_wait_0)) rfl ?_
          refine Q_cons (Still1.of_pure (p_load_base rfl sc_int hbw (by simp) hc0)) rfl ?_
          refine Q_cons (Still1.of_pure (p_indexSl (j := 1) rfl rfl rfl slc_u8ss (by omega))) rfl ?_
          refine Q_cons (Still1.of_pure (p_load rfl sc_u8s (by repeat (first | exact List.Mem.head _ | apply List.Mem.tail)) v1)) rfl ?_
          refine Q_cons (Still1.of_pure (p_move rfl)) rfl ?_
          refine Q_cons (Still1.of_pure (p_nilCheck rfl)) rfl ?_
          refine Q_cons (Still1.of_pure (by first | exact p_fieldAddr0 rfl fd_almonerref05_Disk_1 | exact p_fieldAddr rfl fd_almonerref05_Disk_1)) rfl ?_
          refine Q_cons (Still1.of_pure (p_load_base rfl sc_almonerref05_wait hbl (by simp) c1)) rfl ?_
          refine Q_cons (Still1.of_pure (p_move rfl)) rfl ?_
          refine Q_cons (Still1.of_pure (p_indexR (j := j) rfl rfl rfl slr_almonerref05_wait hlt)) rfl ?_
          refine Q_cons (Still1.of_pure (by first | exact p_fieldAddr0 rfl fd_almonerref05_wait_1 | exact p_fieldAddr rfl fd_almonerref05_wait_1)) rfl ?_
          refine Q_cons (Still1.of_pure (p_load_base rfl sc_u8s hbw (by simp) hc1)) rfl ?_
          refine Q_nop ?_
          refine Q_nil ?_
          refine E_tail ?_
          refine R_cons rfl (op_copy (n := 64) rfl rfl slc_u8s rfl (fun w' hm => (RS.reads hva).base hm) (bytesV_one _) (by repeat (first | exact At.here | apply At.there)) (by rw [bytesV_length, hy1]; exact Nat.le_refl _) rfl ?_)
          refine R_nil ?_
          repeat (first | refine S_scope ?_ | refine S_label ?_ | refine E_noGoto_normal ?_ | refine E_noGoto_ret ?_ | refine E_noGoto_exit ?_ | refine S_yes rfl (by first | with_reducible rfl | decide) ?_ | refine S_no rfl (by first | with_reducible rfl | decide) ?_ | refine S_seq ?_ | refine E_seq ?_ | refine S_block ?_ | refine E_block_normal ?_ | refine S_skip ?_ | refine S_exit ?_ | refine S_ret ?_ | refine E_then_exit ?_ | refine E_then_ret ?_ | refine E_block_ret ?_ | refine E_block_exit ?_ | refine E_block_exit_other rfl ?_)
          rw [lay_64 y1 z.x hy1 hva.2]
          refine S_region ?_
          refine R_cons rfl (op_pure (p_move rfl) rfl ?_)
          refine R_cons rfl (op_pure (p_bin rfl rfl (b_add hinc)) rfl ?_)
          refine R_cons rfl (op_pure (p_assign rfl) rfl ?_)
          refine R_nil ?_
          repeat (first | refine S_scope ?_ | refine S_label ?_ | refine E_noGoto_normal ?_ | refine E_noGoto_ret ?_ | refine E_noGoto_exit ?_ | refine S_yes rfl (by first | with_reducible rfl | decide) ?_ | refine S_no rfl (by first | with_reducible rfl | decide) ?_ | refine S_seq ?_ | refine E_seq ?_ | refine S_block ?_ | refine E_block_normal ?_ | refine S_skip ?_ | refine S_exit ?_ | refine S_ret ?_ | refine E_then_exit ?_ | refine E_then_ret ?_ | refine E_block_ret ?_ | refine E_block_exit ?_ | refine E_block_exit_other rfl ?_)
          exact E_round (σ := YS) (s := ⟨j, y0, y1, y2⟩) ⟨j + 1, y0, z.x, y2⟩ (by exact ⟨by show j + 1 ≤ q.ws.length; omega, ⟨hy0, hva.2, hy2⟩, hsucc.symm⟩) (by show q.ws.length - (j + 1) < q.ws.length - j; omega) (by repeat (first | exact Sub.nil | refine Sub.cons rfl ?_)) (by repeat (first | exact Fewer.nil | exact Fewer.refl _ | refine Fewer.pick rfl (by repeat (first | exact Del.here | apply Del.there)) ?_))
        · skip
          repeat (first | refine S_scope ?_ | refine S_label ?_ | refine E_noGoto_normal ?_ | refine E_noGoto_ret ?_ | refine E_noGoto_exit ?_ | refine S_yes rfl (by first | with_reducible rfl | decide) ?_ | refine S_no rfl (by first | with_reducible rfl | decide) ?_ | refine S_seq ?_ | refine E_seq ?_ | refine S_block ?_ | refine E_block_normal ?_ | refine S_skip ?_ | refine S_exit ?_ | refine S_ret ?_ | refine E_then_exit ?_ | refine E_then_ret ?_ | refine E_block_ret ?_ | refine E_block_exit ?_ | refine E_block_exit_other rfl ?_)
          refine S_tail 22 (by kernel_rfl) (by kernel_rfl) (by kernel_rfl) (by kernel_rfl) ?_
          refine Q_cons (Still1.of_pure (p_move rfl)) rfl ?_
          refine Q_cons (Still1.of_pure (p_nilCheck rfl)) rfl ?_
          refine Q_cons (Still1.of_pure (by first | exact p_fieldAddr0 rfl fd_almonerref05_Disk_0 | exact p_fieldAddr rfl fd_almonerref05_Disk_0)) rfl ?_
          refine Q_cons (Still1.of_pure (p_load rfl sc_u8ss (by repeat (first | exact List.Mem.head _ | apply List.Mem.tail)) (by rfl))) rfl ?_
          refine Q_cons (Still1.of_pure (p_move rfl)) rfl ?_
          refine Q_cons (Still1.of_pure (p_nilCheck rfl)) rfl ?_
          refine Q_cons (Still1.of_pure (by first | exact p_fieldAddr0 rfl fd_almonerref05_Disk_1 | exact p_fieldAddr rfl fd_almonerref05_Disk_1)) rfl ?_
          refine Q_cons (Still1.of_pure (p_load_base rfl sc_almonerref05_wait hbl (by simp) c1)) rfl ?_
          refine Q_cons (Still1.of_pure (p_move rfl)) rfl ?_
          refine Q_cons (Still1.of_pure (p_indexR (j := j) rfl rfl rfl slr_almonerref05_wait hlt)) rfl ?_
          refine Q_cons (Still1.of_pure (by first | exact p_fieldAddr0 rfl fd_almonerref05_wait_0 | exact p_fieldAddr rfl fd_almonerref05_wait_0)) rfl ?_
          refine Q_cons (Still1.of_pure (p_load_base rfl sc_int hbw (by simp) hc0)) rfl ?_
          refine Q_cons (Still1.of_pure (p_indexSl (j := 2) rfl rfl rfl slc_u8ss (by omega))) rfl ?_
          refine Q_cons (Still1.of_pure (p_load rfl sc_u8s (by repeat (first | exact List.Mem.head _ | apply List.Mem.tail)) v2)) rfl ?_
          refine Q_cons (Still1.of_pure (p_move rfl)) rfl ?_
          refine Q_cons (Still1.of_pure (p_nilCheck rfl)) rfl ?_
          refine Q_cons (Still1.of_pure (by first | exact p_fieldAddr0 rfl fd_almonerref05_Disk_1 | exact p_fieldAddr rfl fd_almonerref05_Disk_1)) rfl ?_
          refine Q_cons (Still1.of_pure (p_load_base rfl sc_almonerref05_wait hbl (by simp) c1)) rfl ?_
          refine Q_cons (Still1.of_pure (p_move rfl)) rfl ?_
          refine Q_cons (Still1.of_pure (p_indexR (j := j) rfl rfl rfl slr_almonerref05_wait hlt)) rfl ?_
          refine Q_cons (Still1.of_pure (by first | exact p_fieldAddr0 rfl fd_almonerref05_wait_1 | exact p_fieldAddr rfl fd_almonerref05_wait_1)) rfl ?_
          refine Q_cons (Still1.of_pure (p_load_base rfl sc_u8s hbw (by simp) hc1)) rfl ?_
          refine Q_nop ?_
          refine Q_nil ?_
          refine E_tail ?_
          refine R_cons rfl (op_copy (n := 64) rfl rfl slc_u8s rfl (fun w' hm => (RS.reads hva).base hm) (bytesV_one _) (by repeat (first | exact At.here | apply At.there)) (by rw [bytesV_length, hy2]; exact Nat.le_refl _) rfl ?_)
          refine R_nil ?_
          repeat (first | refine S_scope ?_ | refine S_label ?_ | refine E_noGoto_normal ?_ | refine E_noGoto_ret ?_ | refine E_noGoto_exit ?_ | refine S_yes rfl (by first | with_reducible rfl | decide) ?_ | refine S_no rfl (by first | with_reducible rfl | decide) ?_ | refine S_seq ?_ | refine E_seq ?_ | refine S_block ?_ | refine E_block_normal ?_ | refine S_skip ?_ | refine S_exit ?_ | refine S_ret ?_ | refine E_then_exit ?_ | refine E_then_ret ?_ | refine E_block_ret ?_ | refine E_block_exit ?_ | refine E_block_exit_other rfl ?_)
          rw [lay_64 y2 z.x hy2 hva.2]
          refine S_region ?_
          refine R_cons rfl (op_pure (p_move rfl) rfl ?_)
          refine R_cons rfl (op_pure (p_bin rfl rfl (b_add hinc)) rfl ?_)
          refine R_cons rfl (op_pure (p_assign rfl) rfl ?_)
          refine R_nil ?_
          repeat (first | refine S_scope ?_ | refine S_label ?_ | refine E_noGoto_normal ?_ | refine E_noGoto_ret ?_ | refine E_noGoto_exit ?_ | refine S_yes rfl (by first | with_reducible rfl | decide) ?_ | refine S_no rfl (by first | with_reducible rfl | decide) ?_ | refine S_seq ?_ | refine E_seq ?_ | refine S_block ?_ | refine E_block_normal ?_ | refine S_skip ?_ | refine S_exit ?_ | refine S_ret ?_ | refine E_then_exit ?_ | refine E_then_ret ?_ | refine E_block_ret ?_ | refine E_block_exit ?_ | refine E_block_exit_other rfl ?_)
          exact E_round (σ := YS) (s := ⟨j, y0, y1, y2⟩) ⟨j + 1, y0, y1, z.x⟩ (by exact ⟨by show j + 1 ≤ q.ws.length; omega, ⟨hy0, hy1, hva.2⟩, hsucc.symm⟩) (by show q.ws.length - (j + 1) < q.ws.length - j; omega) (by repeat (first | exact Sub.nil | refine Sub.cons rfl ?_)) (by repeat (first | exact Fewer.nil | exact Fewer.refl _ | refine Fewer.pick rfl (by repeat (first | exact Del.here | apply Del.there)) ?_))
    · have g7 : decide ((j : Int) < (l.length : Int)) = false := decide_eq_false (by omega)
      have hp := keptJ_past q.sure q.wss l j (by omega)
      repeat (first | refine S_scope ?_ | refine S_label ?_ | refine E_noGoto_normal ?_ | refine E_noGoto_ret ?_ | refine E_noGoto_exit ?_ | refine S_yes rfl (by first | with_reducible rfl | decide) ?_ | refine S_no rfl (by first | with_reducible rfl | decide) ?_ | refine S_seq ?_ | refine E_seq ?_ | refine S_block ?_ | refine E_block_normal ?_ | refine S_skip ?_ | refine S_exit ?_ | refine S_ret ?_ | refine E_then_exit ?_ | refine E_then_ret ?_ | refine E_block_ret ?_ | refine E_block_exit ?_ | refine E_block_exit_other rfl ?_)
      refine S_region ?_
      refine R_cons rfl (op_pure (p_move rfl) rfl ?_)
      refine R_cons rfl (op_pure (p_move rfl) rfl ?_)
      refine R_cons rfl (op_pure (p_nilCheck rfl) rfl ?_)
      refine R_cons rfl (op_pure (by first | exact p_fieldAddr0 rfl fd_almonerref05_Disk_1 | exact p_fieldAddr rfl fd_almonerref05_Disk_1) rfl ?_)
      refine R_cons rfl (op_pure (p_load_base rfl sc_almonerref05_wait hbl (by simp) c1) rfl ?_)
      refine R_cons rfl (op_pure (p_lenR rfl slr_almonerref05_wait) rfl ?_)
      refine R_cons rfl (op_pure (p_bin rfl rfl (b_lss g6)) rfl ?_)
      refine R_nil ?_
      repeat (first | refine S_scope ?_ | refine S_label ?_ | refine E_noGoto_normal ?_ | refine E_noGoto_ret ?_ | refine E_noGoto_exit ?_ | refine S_yes rfl (by first | with_reducible rfl | decide) ?_ | refine S_no rfl (by first | with_reducible rfl | decide) ?_ | refine S_seq ?_ | refine E_seq ?_ | refine S_block ?_ | refine E_block_normal ?_ | refine S_skip ?_ | refine S_exit ?_ | refine S_ret ?_ | refine E_then_exit ?_ | refine E_then_ret ?_ | refine E_block_ret ?_ | refine E_block_exit ?_ | refine E_block_exit_other rfl ?_)
      refine S_region ?_
      refine R_cons rfl (op_pure (p_move rfl) rfl ?_)
      refine R_cons rfl (op_pure (p_move rfl) rfl ?_)
      refine R_cons rfl (op_pure (p_len rfl slc_bool) rfl ?_)
      refine R_cons rfl (op_pure (p_bin rfl rfl (b_lss g7)) rfl ?_)
      refine R_cons rfl (op_pure (p_move rfl) rfl ?_)
      first | refine R_pass rfl rfl rfl rfl ?_ | refine R_pass_undef rfl rfl rfl ?_ | refine R_guard rfl rfl rfl (op_pure (p_move rfl) rfl ?_)
      first | refine R_pass rfl rfl rfl rfl ?_ | refine R_pass_undef rfl rfl rfl ?_ | refine R_guard rfl rfl rfl (op_pure (p_move rfl) rfl ?_)
      first | refine R_pass rfl rfl rfl rfl ?_ | refine R_pass_undef rfl rfl rfl ?_ | refine R_guard rfl rfl rfl (op_pure (p_indexSl (j := j) rfl rfl rfl slc_bool hll) rfl ?_)
      first | refine R_pass rfl rfl rfl rfl ?_ | refine R_pass_undef rfl rfl rfl ?_ | refine R_guard rfl rfl rfl (op_pure (p_load_base rfl sc_bool hbal (by simp) hl00) rfl ?_)
      refine R_cons rfl (op_pure (by first | exact p_pick_yes rfl rfl | exact p_pick_no rfl rfl | exact p_pick rfl rfl rfl) rfl ?_)
      refine R_nil ?_
      repeat (first | refine S_scope ?_ | refine S_label ?_ | refine E_noGoto_normal ?_ | refine E_noGoto_ret ?_ | refine E_noGoto_exit ?_ | refine S_yes rfl (by first | with_reducible rfl | decide) ?_ | refine S_no rfl (by first | with_reducible rfl | decide) ?_ | refine S_seq ?_ | refine E_seq ?_ | refine S_block ?_ | refine E_block_normal ?_ | refine S_skip ?_ | refine S_exit ?_ | refine S_ret ?_ | refine E_then_exit ?_ | refine E_then_ret ?_ | refine E_block_ret ?_ | refine E_block_exit ?_ | refine E_block_exit_other rfl ?_)
      refine S_region ?_
      refine R_cons rfl (op_pure (p_move rfl) rfl ?_)
      refine R_cons rfl (op_pure (p_bin rfl rfl (b_add hinc)) rfl ?_)
      refine R_cons rfl (op_pure (p_assign rfl) rfl ?_)
      refine R_nil ?_
      repeat (first | refine S_scope ?_ | refine S_label ?_ | refine E_noGoto_normal ?_ | refine E_noGoto_ret ?_ | refine E_noGoto_exit ?_ | refine S_yes rfl (by first | with_reducible rfl | decide) ?_ | refine S_no rfl (by first | with_reducible rfl | decide) ?_ | refine S_seq ?_ | refine E_seq ?_ | refine S_block ?_ | refine E_block_normal ?_ | refine S_skip ?_ | refine S_exit ?_ | refine S_ret ?_ | refine E_then_exit ?_ | refine E_then_ret ?_ | refine E_block_ret ?_ | refine E_block_exit ?_ | refine E_block_exit_other rfl ?_)
      exact E_round (σ := YS) (s := ⟨j, y0, y1, y2⟩) ⟨j + 1, y0, y1, y2⟩ (by exact ⟨by show j + 1 ≤ q.ws.length; omega, ⟨hy0, hy1, hy2⟩, hy.trans hp.symm⟩) (by show q.ws.length - (j + 1) < q.ws.length - j; omega) (by repeat (first | exact Sub.nil | refine Sub.cons rfl ?_)) (by repeat (first | exact Fewer.nil | exact Fewer.refl _ | refine Fewer.pick rfl (by repeat (first | exact Del.here | apply Del.there)) ?_))
  have hjk : j = q.ws.length := by omega
  subst hjk
  have g6 : decide ((q.ws.length : Int) < (q.ws.length : Int)) = false := decide_eq_false (by omega)
  have hall := keptJ_all q.sure q.wss l q.ws.length (by rw [List.length_zip, hwl]; exact Nat.min_le_left _ _)
  repeat (first | refine S_scope ?_ | refine S_label ?_ | refine E_noGoto_normal ?_ | refine E_noGoto_ret ?_ | refine E_noGoto_exit ?_ | refine S_yes rfl (by first | with_reducible rfl | decide) ?_ | refine S_no rfl (by first | with_reducible rfl | decide) ?_ | refine S_seq ?_ | refine E_seq ?_ | refine S_block ?_ | refine E_block_normal ?_ | refine S_skip ?_ | refine S_exit ?_ | refine S_ret ?_ | refine E_then_exit ?_ | refine E_then_ret ?_ | refine E_block_ret ?_ | refine E_block_exit ?_ | refine E_block_exit_other rfl ?_)
  refine S_region ?_
  refine R_cons rfl (op_pure (p_move rfl) rfl ?_)
  refine R_cons rfl (op_pure (p_move rfl) rfl ?_)
  refine R_cons rfl (op_pure (p_nilCheck rfl) rfl ?_)
  refine R_cons rfl (op_pure (by first | exact p_fieldAddr0 rfl fd_almonerref05_Disk_1 | exact p_fieldAddr rfl fd_almonerref05_Disk_1) rfl ?_)
  refine R_cons rfl (op_pure (p_load_base rfl sc_almonerref05_wait hbl (by simp) c1) rfl ?_)
  refine R_cons rfl (op_pure (p_lenR rfl slr_almonerref05_wait) rfl ?_)
  refine R_cons rfl (op_pure (p_bin rfl rfl (b_lss g6)) rfl ?_)
  refine R_nil ?_
  repeat (first | refine S_scope ?_ | refine S_label ?_ | refine E_noGoto_normal ?_ | refine E_noGoto_ret ?_ | refine E_noGoto_exit ?_ | refine S_yes rfl (by first | with_reducible rfl | decide) ?_ | refine S_no rfl (by first | with_reducible rfl | decide) ?_ | refine S_seq ?_ | refine E_seq ?_ | refine S_block ?_ | refine E_block_normal ?_ | refine S_skip ?_ | refine S_exit ?_ | refine S_ret ?_ | refine E_then_exit ?_ | refine E_then_ret ?_ | refine E_block_ret ?_ | refine E_block_exit ?_ | refine E_block_exit_other rfl ?_)
  refine S_region ?_
  refine R_cons rfl (op_pure (p_move rfl) rfl ?_)
  refine R_cons rfl (op_pure (p_assign rfl) rfl ?_)
  refine R_nil ?_
  repeat (first | refine S_scope ?_ | refine S_label ?_ | refine E_noGoto_normal ?_ | refine E_noGoto_ret ?_ | refine E_noGoto_exit ?_ | refine S_yes rfl (by first | with_reducible rfl | decide) ?_ | refine S_no rfl (by first | with_reducible rfl | decide) ?_ | refine S_seq ?_ | refine E_seq ?_ | refine S_block ?_ | refine E_block_normal ?_ | refine S_skip ?_ | refine S_exit ?_ | refine S_ret ?_ | refine E_then_exit ?_ | refine E_then_ret ?_ | refine E_block_ret ?_ | refine E_block_exit ?_ | refine E_block_exit_other rfl ?_)
  refine E_ret1 rfl rfl fun w' hm => ⟨⟨br2, bS2, cS2, spS2, b0, b1, b2, y0, y1, y2⟩, rfl, ?_, hy.trans hall⟩
  dsimp only
  rw [← hfin y0 y1 y2]
  exact hm
end Go.Proofs.Ytfdlafjifjndeaa
/-
  Bytes as text. Plain theorems, over any program.
-/
namespace Go.K
open Go Go.RowKit
theorem push_all (xs : List UInt8) : ∀ s : ByteArray, (xs.map fun b => (b.toNat : Int)).foldl (fun (r : ByteArray) (n : Int) => r.push (UInt8.ofNat n.toNat)) s = ⟨(s.data.toList ++ xs).toArray⟩ := by
  induction xs with
  | nil => intro s; simp
  | cons x xs ih =>
    intro s
    rw [List.map_cons, List.foldl_cons, ih]
    have e : UInt8.ofNat ((x.toNat : Int)).toNat = x := by simp
    rw [e]
    cases s
    simp [ByteArray.push]
theorem toList_loop (bs : ByteArray) : ∀ (n i : Nat) (r : List UInt8), bs.size - i = n → ByteArray.toList.loop bs i r = r.reverse ++ bs.data.toList.drop i := by
  intro n
  induction n with
  | zero =>
    intro i r h
    rw [ByteArray.toList.loop, if_neg (by omega), List.drop_eq_nil_of_le (by have : bs.data.toList.length = bs.size := rfl; omega), List.append_nil]
  | succ n ih =>
    intro i r h
    have hi : i < bs.size := by omega
    have hi2 : i < bs.data.toList.length := hi
    rw [ByteArray.toList.loop, if_pos hi, ih (i + 1) _ (by omega), List.reverse_cons, List.append_assoc]
    congr 1
    rw [List.drop_eq_getElem_cons hi2]
    have hg : bs.get! i = bs.data.toList[i] := by
      show bs.data[i]! = _
      rw [getElem!_pos bs.data i hi]
      simp
    rw [hg]
    rfl
theorem toList_mk (xs : List UInt8) : (⟨xs.toArray⟩ : ByteArray).toList = xs := by
  unfold ByteArray.toList
  rw [toList_loop _ _ 0 [] rfl]
  simp
section
variable {P : Program} {B : Nat} {w0 : Base} {N : Nat} {D : List Deferred} {env : Env} {H : Hp} {dst : Option Nat} {ty : TypeId} {pos : String} {after : Array Edge} {g : Option (Nat × Bool)}
theorem p_bytesStr {s t e : TypeId} {x : Operand} {A : Option Addr} {n c : Nat} {xs : List UInt8} (hx : look env x = some (.slice A n c)) (hs : P.underlying s = some (.slice e)) (he : P.underlying e = some (.int .u8)) (ht : P.underlying t = some .string) (hn : n ≠ 0)
    (hsrc : ∀ w, Mem B w0 H w → Reads w A n (bytesV xs)) : Pure1 P B w0 N D ⟨dst, .convert s t x, ty, pos, after, g⟩ env H (tx xs) := fun a w hf hm => by
  obtain ⟨hl, hc⟩ := hsrc w hm
  obtain ⟨b, off, rfl, hb, hcell⟩ := hc hn
  have hload := run_loadCells_list (P := P) (w := w) (⟨b, off, none⟩ : Addr) (bytesV xs) (fun j v hv => by rw [Addr.add_mid]; exact hcell j v hv)
  rw [hl] at hload
  have hbm : bytesV xs = (xs.map fun b => (b.toNat : Int)).map (Value.int .u8) := by unfold bytesV; rw [List.map_map]; rfl
  rw [hbm] at hload
  have h2 := run_bytesToString (P := P) w ⟨b, off, none⟩ n c _ hload
  rw [push_all] at h2
  have h3 := run_convert_bytes_string (P := P) w s t e (some ⟨b, off, none⟩) n c hs he ht
  rw [h2] at h3
  simp only [execOp, hf.eval hx, Sem.run_bind, h3, Result.andThen_ok, Sem.run_pure]
  rfl
theorem p_neqStr {t yT : TypeId} {x y : Operand} {a b : ByteArray} {r : Bool} (hx : look env x = some (.string a)) (hy : look env y = some (.string b)) (hr : (a.toList != b.toList) = r) :
    Pure1 P B w0 N D ⟨dst, .binOp .neq t x y yT, ty, pos, after, g⟩ env H (.bool r) := fun q w hf _ => by
  subst hr
  simp only [execOp, hf.eval hx, hf.eval hy, eqGuard_at_string, Sem.run_bind, Sem.run_pure, Result.andThen_ok, binOp, Op.stringOp]
  rfl
end
end Go.K
/-
  The document's counts: what a sector tells; a count opened; the next number.
-/
namespace Go.Proofs.Ytfdlafjifjndeaa
open Go.RowKit Go.K
attribute [local irreducible] Exit.then Exit.inBlock Exit.noGoto bodyPost Code.wp QL Sx Rx Qx Ex Dx Op1 Pure1 Still1 K.Sub Calm Code.wpIn
set_option linter.unusedVariables false
theorem pow256 (i : Nat) : 256 ^ i = 2 ^ (i * 8) := by rw [Nat.mul_comm, Nat.pow_mul]
theorem rcomp (x : UInt32) : bits .xor .u32 (x.toNat : Int) 4294967295 = ((~~~x).toNat : Int) := by
  have h := k32_xor x 4294967295
  rw [show ((4294967295 : UInt32).toNat : Int) = 4294967295 from rfl] at h
  rw [h]
  have e : x ^^^ 4294967295 = ~~~x := by
    rw [show (4294967295 : UInt32) = -1 from rfl]
    exact UInt32.xor_neg_one
  rw [e]
theorem told_eq (k : Nat) (j : Nat) : (digitsB k 4 ++ digitsB (~~~ sumU (digitsB k 4)).toNat 4 ++ List.replicate j 0).length = 8 + j := by
  rw [List.length_append, List.length_append, digitsB_length, digitsB_length, List.length_replicate]
attribute [local irreducible] digitsB onNat sumU Buf.hp Buf.cap Buf.addr leftS blownS rwV nowOf lastR suV syncQ keptJ keptOf
theorem ref4Of (A : Option Addr) (n c : Nat) (xs : List UInt8) (w : World) (hl : xs.length = n) (hrd : Reads w A n (bytesV xs)) (hnc : n ≤ c) (hcm : c ≤ maxLen) :
    Calls Try.prog 89 [.slice A n c].toArray w fun e w' => e = .returned (.int .u32 ((sumU xs).toNat : Int)) ∧ Below w.heap.size w w' := by
  refine enter Try.func89 rfl Try.ntmps89 (by simp) ?_
  repeat (first | refine S_scope ?_ | refine S_label ?_ | refine E_noGoto_normal ?_ | refine E_noGoto_ret ?_ | refine E_noGoto_exit ?_ | refine S_yes rfl (by first | with_reducible rfl | decide) ?_ | refine S_no rfl (by first | with_reducible rfl | decide) ?_ | refine S_seq ?_ | refine E_seq ?_ | refine S_block ?_ | refine E_block_normal ?_ | refine S_skip ?_ | refine S_exit ?_ | refine S_ret ?_ | refine E_then_exit ?_ | refine E_then_ret ?_ | refine E_block_ret ?_ | refine E_block_exit ?_ | refine E_block_exit_other rfl ?_)
  refine S_region ?_
  refine R_cons rfl (op_pure (p_assign rfl) rfl ?_)
  refine R_nil ?_
  repeat (first | refine S_scope ?_ | refine S_label ?_ | refine E_noGoto_normal ?_ | refine E_noGoto_ret ?_ | refine E_noGoto_exit ?_ | refine S_yes rfl (by first | with_reducible rfl | decide) ?_ | refine S_no rfl (by first | with_reducible rfl | decide) ?_ | refine S_seq ?_ | refine E_seq ?_ | refine S_block ?_ | refine E_block_normal ?_ | refine S_skip ?_ | refine S_exit ?_ | refine S_ret ?_ | refine E_then_exit ?_ | refine E_then_ret ?_ | refine E_block_ret ?_ | refine E_block_exit ?_ | refine E_block_exit_other rfl ?_)
  refine S_region ?_
  refine R_cons rfl (op_pure (p_move rfl) rfl ?_)
  refine R_cons rfl (op_callV rfl rfl Try.func98 rfl (by kernel_rfl) rfl (Nat.le_refl _) (fun w' hm => refOn_any 1 (by decide) A n c xs w' hl (hrd.base hm) hnc hcm) ?_)
  refine R_cons rfl (op_pure (p_assign rfl) rfl ?_)
  refine R_nil ?_
  repeat (first | refine S_scope ?_ | refine S_label ?_ | refine E_noGoto_normal ?_ | refine E_noGoto_ret ?_ | refine E_noGoto_exit ?_ | refine S_yes rfl (by first | with_reducible rfl | decide) ?_ | refine S_no rfl (by first | with_reducible rfl | decide) ?_ | refine S_seq ?_ | refine E_seq ?_ | refine S_block ?_ | refine E_block_normal ?_ | refine S_skip ?_ | refine S_exit ?_ | refine S_ret ?_ | refine E_then_exit ?_ | refine E_then_ret ?_ | refine E_block_ret ?_ | refine E_block_exit ?_ | refine E_block_exit_other rfl ?_)
  rw [← sumU_nat]
  exact E_ret1 rfl rfl fun w' hm => ⟨rfl, hm.below⟩
theorem refGet4 (A : Option Addr) (n c : Nat) (xs : List UInt8) (hl : xs.length = n) (hn : 4 ≤ n) (hn2 : n ≤ 1000000) (w : World) (hrd : Reads w A n (bytesV xs)) :
    Calls Try.prog 67 [.slice A n c, .int .i64 4].toArray w fun e w' => e = .returned (.tuple [.int .u64 (getP xs 4 : Int), .int .i64 0].toArray) ∧ Below w.heap.size w w' := by
  obtain ⟨b, off, rfl, hbl, hcell⟩ := hrd.2 (by omega)
  have g0 : decide ((n : Int) < 4) = false := decide_eq_false (by omega)
  refine enter Try.func67 rfl Try.ntmps67 (by simp) ?_
  repeat (first | refine S_scope ?_ | refine S_label ?_ | refine E_noGoto_normal ?_ | refine E_noGoto_ret ?_ | refine E_noGoto_exit ?_ | refine S_yes rfl (by first | with_reducible rfl | decide) ?_ | refine S_no rfl (by first | with_reducible rfl | decide) ?_ | refine S_seq ?_ | refine E_seq ?_ | refine S_block ?_ | refine E_block_normal ?_ | refine S_skip ?_ | refine S_exit ?_ | refine S_ret ?_ | refine E_then_exit ?_ | refine E_then_ret ?_ | refine E_block_ret ?_ | refine E_block_exit ?_ | refine E_block_exit_other rfl ?_)
  refine S_region ?_
  refine R_cons rfl (op_pure (p_assign rfl) rfl ?_)
  refine R_cons rfl (op_pure (p_assign rfl) rfl ?_)
  refine R_nil ?_
  repeat (first | refine S_scope ?_ | refine S_label ?_ | refine E_noGoto_normal ?_ | refine E_noGoto_ret ?_ | refine E_noGoto_exit ?_ | refine S_yes rfl (by first | with_reducible rfl | decide) ?_ | refine S_no rfl (by first | with_reducible rfl | decide) ?_ | refine S_seq ?_ | refine E_seq ?_ | refine S_block ?_ | refine E_block_normal ?_ | refine S_skip ?_ | refine S_exit ?_ | refine S_ret ?_ | refine E_then_exit ?_ | refine E_then_ret ?_ | refine E_block_ret ?_ | refine E_block_exit ?_ | refine E_block_exit_other rfl ?_)
  refine S_region ?_
  refine R_cons rfl (op_pure (p_move rfl) rfl ?_)
  refine R_cons rfl (op_pure (p_bin rfl rfl (b_lss (by first | assumption | exact decide_eq_true (by omega) | exact decide_eq_false (by omega) | rfl))) rfl ?_)
  refine R_cons rfl (op_pure (p_move rfl) rfl ?_)
  first | refine R_pass rfl rfl rfl rfl ?_ | refine R_pass_undef rfl rfl rfl ?_ | refine R_guard rfl rfl rfl (op_pure (p_move rfl) rfl ?_)
  first | refine R_pass rfl rfl rfl rfl ?_ | refine R_pass_undef rfl rfl rfl ?_ | refine R_guard rfl rfl rfl (op_pure (p_bin rfl rfl (b_gtr (by first | assumption | exact decide_eq_true (by omega) | exact decide_eq_false (by omega) | rfl))) rfl ?_)
  refine R_cons rfl (op_pure (by first | exact p_pick_yes rfl rfl | exact p_pick_no rfl rfl | exact p_pick rfl rfl rfl) rfl ?_)
  refine R_nil ?_
  repeat (first | refine S_scope ?_ | refine S_label ?_ | refine E_noGoto_normal ?_ | refine E_noGoto_ret ?_ | refine E_noGoto_exit ?_ | refine S_yes rfl (by first | with_reducible rfl | decide) ?_ | refine S_no rfl (by first | with_reducible rfl | decide) ?_ | refine S_seq ?_ | refine E_seq ?_ | refine S_block ?_ | refine E_block_normal ?_ | refine S_skip ?_ | refine S_exit ?_ | refine S_ret ?_ | refine E_then_exit ?_ | refine E_then_ret ?_ | refine E_block_ret ?_ | refine E_block_exit ?_ | refine E_block_exit_other rfl ?_)
  refine S_region ?_
  refine R_cons rfl (op_pure (p_move rfl) rfl ?_)
  refine R_cons rfl (op_pure (p_move rfl) rfl ?_)
  refine R_cons rfl (op_pure (p_len rfl slc_u8s) rfl ?_)
  refine R_cons rfl (op_pure (p_bin rfl rfl (b_gtr g0)) rfl ?_)
  refine R_nil ?_
  repeat (first | refine S_scope ?_ | refine S_label ?_ | refine E_noGoto_normal ?_ | refine E_noGoto_ret ?_ | refine E_noGoto_exit ?_ | refine S_yes rfl (by first | with_reducible rfl | decide) ?_ | refine S_no rfl (by first | with_reducible rfl | decide) ?_ | refine S_seq ?_ | refine E_seq ?_ | refine S_block ?_ | refine E_block_normal ?_ | refine S_skip ?_ | refine S_exit ?_ | refine S_ret ?_ | refine E_then_exit ?_ | refine E_then_ret ?_ | refine E_block_ret ?_ | refine E_block_exit ?_ | refine E_block_exit_other rfl ?_)
  refine S_region ?_
  refine R_cons rfl (op_pure (p_assign rfl) rfl ?_)
  refine R_nil ?_
  repeat (first | refine S_scope ?_ | refine S_label ?_ | refine E_noGoto_normal ?_ | refine E_noGoto_ret ?_ | refine E_noGoto_exit ?_ | refine S_yes rfl (by first | with_reducible rfl | decide) ?_ | refine S_no rfl (by first | with_reducible rfl | decide) ?_ | refine S_seq ?_ | refine E_seq ?_ | refine S_block ?_ | refine E_block_normal ?_ | refine S_skip ?_ | refine S_exit ?_ | refine S_ret ?_ | refine E_then_exit ?_ | refine E_then_ret ?_ | refine E_block_ret ?_ | refine E_block_exit ?_ | refine E_block_exit_other rfl ?_)
  refine S_region ?_
  refine R_cons rfl (op_pure (p_assign rfl) rfl ?_)
  refine R_nil ?_
  repeat (first | refine S_scope ?_ | refine S_label ?_ | refine E_noGoto_normal ?_ | refine E_noGoto_ret ?_ | refine E_noGoto_exit ?_ | refine S_yes rfl (by first | with_reducible rfl | decide) ?_ | refine S_no rfl (by first | with_reducible rfl | decide) ?_ | refine S_seq ?_ | refine E_seq ?_ | refine S_block ?_ | refine E_block_normal ?_ | refine S_skip ?_ | refine S_exit ?_ | refine S_ret ?_ | refine E_then_exit ?_ | refine E_then_ret ?_ | refine E_block_ret ?_ | refine E_block_exit ?_ | refine E_block_exit_other rfl ?_)
  refine S_loop (fun i : Nat => [(7, .int .i64 (i : Int)), (6, .int .u64 (getP xs i : Int)), (1, .int .i64 4), (0, .slice (some ⟨b, off, none⟩) n c)]) (fun _ => []) (fun i => i ≤ 4) (fun i => 4 - i) 0 (Nat.zero_le _) (by repeat (first | exact Sub.nil | refine Sub.cons rfl ?_)) .nil ?_
  intro i hi
  by_cases hlt : i < 4
  · have g1 : decide ((i : Int) < 4) = true := decide_eq_true (by omega)
    have hadd : IntKind.i64.wrap ((i : Int) + 1) = ((i + 1 : Nat) : Int) := by rw [w_in_i64 (by omega)]; omega
    have hs1 : IntKind.i64.wrap ((4 : Int) - 1) = 3 := by decide
    have hs2 : IntKind.i64.wrap ((3 : Int) - (i : Int)) = ((3 - i : Nat) : Int) := by rw [w_in_i64 (by omega)]; omega
    have hx := b_lt (xs.getD (3 - i) 0)
    have hcv : IntKind.u64.wrap ((xs.getD (3 - i) 0).toNat : Int) = ((xs.getD (3 - i) 0).toNat : Int) := w_in_u64 (by omega)
    have hc : w.cell? ⟨b, off + (3 - i), none⟩ = some (.int .u8 ((xs.getD (3 - i) 0).toNat : Int)) := hcell _ _ (bytesV_get (by omega))
    have hlt2 := getP_lt xs i
    have hp24 : 2 ^ (i * 8) ≤ 2 ^ 24 := Nat.pow_le_pow_right (by omega) (by omega)
    have hp : (2 : Nat) ^ 24 = 16777216 := by decide
    have hb1 : (xs.getD (3 - i) 0).toNat * 2 ^ (i * 8) ≤ 255 * 16777216 := Nat.le_trans (Nat.mul_le_mul (by omega) (by omega)) (Nat.le_refl _)
    have hmul : IntKind.u64.wrap (((xs.getD (3 - i) 0).toNat : Int) * ((256 ^ i : Nat) : Int)) = (((xs.getD (3 - i) 0).toNat * 2 ^ (i * 8) : Nat) : Int) := by
      rw [pow256, ← Int.natCast_mul, w_in_u64 (by omega)]
    have hsum : IntKind.u64.wrap ((getP xs i : Int) + (((xs.getD (3 - i) 0).toNat * 2 ^ (i * 8) : Nat) : Int)) = (getP xs (i + 1) : Int) := by
      have hnext : (xs.getD (3 - i) 0).toNat * 2 ^ (i * 8) + getP xs i = getP xs (i + 1) := by rw [getP]
      rw [← hnext, w_in_u64 (by omega)]
      omega
    have hh := And.intro hmul (And.intro hsum hc)
    clear hlt2 hp24 hp hb1 hmul hsum hc
    repeat (first | refine S_scope ?_ | refine S_label ?_ | refine E_noGoto_normal ?_ | refine E_noGoto_ret ?_ | refine E_noGoto_exit ?_ | refine S_yes rfl (by first | with_reducible rfl | decide) ?_ | refine S_no rfl (by first | with_reducible rfl | decide) ?_ | refine S_seq ?_ | refine E_seq ?_ | refine S_block ?_ | refine E_block_normal ?_ | refine S_skip ?_ | refine S_exit ?_ | refine S_ret ?_ | refine E_then_exit ?_ | refine E_then_ret ?_ | refine E_block_ret ?_ | refine E_block_exit ?_ | refine E_block_exit_other rfl ?_)
    refine S_region ?_
    refine R_cons rfl (op_pure (p_move rfl) rfl ?_)
    refine R_cons rfl (op_pure (p_move rfl) rfl ?_)
    refine R_cons rfl (op_pure (p_bin rfl rfl (b_lss g1)) rfl ?_)
    refine R_nil ?_
    repeat (first | refine S_scope ?_ | refine S_label ?_ | refine E_noGoto_normal ?_ | refine E_noGoto_ret ?_ | refine E_noGoto_exit ?_ | refine S_yes rfl (by first | with_reducible rfl | decide) ?_ | refine S_no rfl (by first | with_reducible rfl | decide) ?_ | refine S_seq ?_ | refine E_seq ?_ | refine S_block ?_ | refine E_block_normal ?_ | refine S_skip ?_ | refine S_exit ?_ | refine S_ret ?_ | refine E_then_exit ?_ | refine E_then_ret ?_ | refine E_block_ret ?_ | refine E_block_exit ?_ | refine E_block_exit_other rfl ?_)
    refine S_quiet (by kernel_rfl) (by kernel_rfl) ?_
    refine Q_cons (Still1.of_pure (p_move rfl)) rfl ?_
    refine Q_cons (Still1.of_pure (p_move rfl)) rfl ?_
    refine Q_cons (Still1.of_pure (p_move rfl)) rfl ?_
    refine Q_cons (Still1.of_pure (p_bin rfl rfl (b_sub hs1))) rfl ?_
    refine Q_cons (Still1.of_pure (p_move rfl)) rfl ?_
    refine Q_cons (Still1.of_pure (p_bin rfl rfl (b_sub hs2))) rfl ?_
    refine Q_cons (Still1.of_pure (p_indexSl (j := 3 - i) rfl rfl rfl slc_u8s (by omega))) rfl ?_
    refine Q_cons (Still1.of_pure (p_load_base rfl sc_u8 hbl (by simp) hh.2.2)) rfl ?_
    refine Q_cons (Still1.of_pure (p_convert rfl sc_u8 ik_u64 hcv)) rfl ?_
    refine Q_cons (Still1.of_pure (p_move rfl)) rfl ?_
    refine Q_cons (still_call rfl rfl Try.func87 rfl (by kernel_rfl) (Nat.le_refl _) (fun w' _ => power_any i (by omega) w')) rfl ?_
    refine Q_cons (Still1.of_pure (p_bin rfl rfl (b_mul hh.1))) rfl ?_
    refine Q_cons (Still1.of_pure (p_bin rfl rfl (b_add hh.2.1))) rfl ?_
    refine Q_cons (Still1.of_pure (p_assign rfl)) rfl ?_
    refine Q_nil ?_
    repeat (first | refine S_scope ?_ | refine S_label ?_ | refine E_noGoto_normal ?_ | refine E_noGoto_ret ?_ | refine E_noGoto_exit ?_ | refine S_yes rfl (by first | with_reducible rfl | decide) ?_ | refine S_no rfl (by first | with_reducible rfl | decide) ?_ | refine S_seq ?_ | refine E_seq ?_ | refine S_block ?_ | refine E_block_normal ?_ | refine S_skip ?_ | refine S_exit ?_ | refine S_ret ?_ | refine E_then_exit ?_ | refine E_then_ret ?_ | refine E_block_ret ?_ | refine E_block_exit ?_ | refine E_block_exit_other rfl ?_)
    refine S_region ?_
    refine R_cons rfl (op_pure (p_move rfl) rfl ?_)
    refine R_cons rfl (op_pure (p_bin rfl rfl (b_add hadd)) rfl ?_)
    refine R_cons rfl (op_pure (p_assign rfl) rfl ?_)
    refine R_nil ?_
    repeat (first | refine S_scope ?_ | refine S_label ?_ | refine E_noGoto_normal ?_ | refine E_noGoto_ret ?_ | refine E_noGoto_exit ?_ | refine S_yes rfl (by first | with_reducible rfl | decide) ?_ | refine S_no rfl (by first | with_reducible rfl | decide) ?_ | refine S_seq ?_ | refine E_seq ?_ | refine S_block ?_ | refine E_block_normal ?_ | refine S_skip ?_ | refine S_exit ?_ | refine S_ret ?_ | refine E_then_exit ?_ | refine E_then_ret ?_ | refine E_block_ret ?_ | refine E_block_exit ?_ | refine E_block_exit_other rfl ?_)
    exact E_round (i + 1) (by omega) (by omega) (by repeat (first | exact Sub.nil | refine Sub.cons rfl ?_)) (Fewer.refl _)
  have hi4 : i = 4 := by omega
  subst hi4
  have g1 : decide (((4 : Nat) : Int) < 4) = false := rfl
  repeat (first | refine S_scope ?_ | refine S_label ?_ | refine E_noGoto_normal ?_ | refine E_noGoto_ret ?_ | refine E_noGoto_exit ?_ | refine S_yes rfl (by first | with_reducible rfl | decide) ?_ | refine S_no rfl (by first | with_reducible rfl | decide) ?_ | refine S_seq ?_ | refine E_seq ?_ | refine S_block ?_ | refine E_block_normal ?_ | refine S_skip ?_ | refine S_exit ?_ | refine S_ret ?_ | refine E_then_exit ?_ | refine E_then_ret ?_ | refine E_block_ret ?_ | refine E_block_exit ?_ | refine E_block_exit_other rfl ?_)
  refine S_region ?_
  refine R_cons rfl (op_pure (p_move rfl) rfl ?_)
  refine R_cons rfl (op_pure (p_move rfl) rfl ?_)
  refine R_cons rfl (op_pure (p_bin rfl rfl (b_lss g1)) rfl ?_)
  refine R_nil ?_
  repeat (first | refine S_scope ?_ | refine S_label ?_ | refine E_noGoto_normal ?_ | refine E_noGoto_ret ?_ | refine E_noGoto_exit ?_ | refine S_yes rfl (by first | with_reducible rfl | decide) ?_ | refine S_no rfl (by first | with_reducible rfl | decide) ?_ | refine S_seq ?_ | refine E_seq ?_ | refine S_block ?_ | refine E_block_normal ?_ | refine S_skip ?_ | refine S_exit ?_ | refine S_ret ?_ | refine E_then_exit ?_ | refine E_then_ret ?_ | refine E_block_ret ?_ | refine E_block_exit ?_ | refine E_block_exit_other rfl ?_)
  refine S_region ?_
  refine R_cons rfl (op_pure (p_move rfl) rfl ?_)
  refine R_cons rfl (op_pure (p_assign rfl) rfl ?_)
  refine R_cons rfl (op_pure (p_assign rfl) rfl ?_)
  refine R_nil ?_
  repeat (first | refine S_scope ?_ | refine S_label ?_ | refine E_noGoto_normal ?_ | refine E_noGoto_ret ?_ | refine E_noGoto_exit ?_ | refine S_yes rfl (by first | with_reducible rfl | decide) ?_ | refine S_no rfl (by first | with_reducible rfl | decide) ?_ | refine S_seq ?_ | refine E_seq ?_ | refine S_block ?_ | refine E_block_normal ?_ | refine S_skip ?_ | refine S_exit ?_ | refine S_ret ?_ | refine E_then_exit ?_ | refine E_then_ret ?_ | refine E_block_ret ?_ | refine E_block_exit ?_ | refine E_block_exit_other rfl ?_)
  exact E_ret2 rfl rfl rfl fun w' hm => ⟨rfl, hm.below⟩
set_option maxHeartbeats 2000000 in
theorem rtold (k : Nat) (hk : k < 4294967296) (w : World) : Calls Try.prog 68 [.int .u32 (k : Int)].toArray w (MadeBuf 5 (toldS k) w) := by
  have l4 := digitsB_length k 4
  have hcv : IntKind.u64.wrap (k : Int) = (k : Int) := w_in_u64 (by omega)
  have hcv2 := w32_u64 (~~~ sumU (digitsB k 4))
  have hv2 : (~~~ sumU (digitsB k 4)).toNat ≤ 18446744073709551615 := by have := (~~~ sumU (digitsB k 4)).toNat_lt; omega
  have hcomp := rcomp (sumU (digitsB k 4))
  have hh := And.intro hcv (And.intro hcv2 (And.intro hv2 (And.intro hcomp (show k ≤ 18446744073709551615 by omega))))
  clear hcv hcv2 hv2 hcomp hk
  have htl := told_eq k
  refine enter Try.func68 rfl Try.ntmps68 (by simp) ?_
  repeat (first | refine S_scope ?_ | refine S_label ?_ | refine E_noGoto_normal ?_ | refine E_noGoto_ret ?_ | refine E_noGoto_exit ?_ | refine S_yes rfl (by first | with_reducible rfl | decide) ?_ | refine S_no rfl (by first | with_reducible rfl | decide) ?_ | refine S_seq ?_ | refine E_seq ?_ | refine S_block ?_ | refine E_block_normal ?_ | refine S_skip ?_ | refine S_exit ?_ | refine S_ret ?_ | refine E_then_exit ?_ | refine E_then_ret ?_ | refine E_block_ret ?_ | refine E_block_exit ?_ | refine E_block_exit_other rfl ?_)
  refine S_region ?_
  refine R_cons rfl (op_pure (p_assign rfl) rfl ?_)
  refine R_nil ?_
  repeat (first | refine S_scope ?_ | refine S_label ?_ | refine E_noGoto_normal ?_ | refine E_noGoto_ret ?_ | refine E_noGoto_exit ?_ | refine S_yes rfl (by first | with_reducible rfl | decide) ?_ | refine S_no rfl (by first | with_reducible rfl | decide) ?_ | refine S_seq ?_ | refine E_seq ?_ | refine S_block ?_ | refine E_block_normal ?_ | refine S_skip ?_ | refine S_exit ?_ | refine S_ret ?_ | refine E_then_exit ?_ | refine E_then_ret ?_ | refine E_block_ret ?_ | refine E_block_exit ?_ | refine E_block_exit_other rfl ?_)
  refine S_region ?_
  refine R_cons rfl (op_pure (p_move rfl) rfl ?_)
  refine R_cons rfl (op_pure (p_convert rfl sc_u32 ik_u64 hh.1) rfl ?_)
  refine R_cons rfl (op_callBuf (xs := digitsB k 4) rfl rfl Try.func88 rfl (by kernel_rfl) rfl (Nat.le_refl _) (fun w' hm => by have h := refPutBuf none 0 0 [] k 4 w' rfl (Reads.nil _) (by omega) hh.2.2.2.2 (by omega) (by omega); rw [List.nil_append] at h; exact h) (fun g sp hok5 => ?_))
  refine R_cons rfl (op_pure (p_assign rfl) rfl ?_)
  refine R_nil ?_
  repeat (first | refine S_scope ?_ | refine S_label ?_ | refine E_noGoto_normal ?_ | refine E_noGoto_ret ?_ | refine E_noGoto_exit ?_ | refine S_yes rfl (by first | with_reducible rfl | decide) ?_ | refine S_no rfl (by first | with_reducible rfl | decide) ?_ | refine S_seq ?_ | refine E_seq ?_ | refine S_block ?_ | refine E_block_normal ?_ | refine S_skip ?_ | refine S_exit ?_ | refine S_ret ?_ | refine E_then_exit ?_ | refine E_then_ret ?_ | refine E_block_ret ?_ | refine E_block_exit ?_ | refine E_block_exit_other rfl ?_)
  refine S_region ?_
  refine R_cons rfl (op_pure (p_move rfl) rfl ?_)
  refine R_cons rfl (op_pure (p_move rfl) rfl ?_)
  refine R_cons rfl (op_callV (v := .int .u32 ((sumU (digitsB k 4)).toNat : Int)) rfl rfl Try.func89 rfl (by kernel_rfl) rfl (Nat.le_refl _) (fun w' hm => ref4Of _ _ _ (digitsB k 4) w' rfl (hm.readsBuf (u := some (g, sp)) (e := 5) (by repeat (first | exact DelB.tail | exact DelB.no rfl | exact DelB.at_ rfl (by repeat (first | exact Del.here | apply Del.there)) | apply DelB.there)) hok5) (Buf.len_cap hok5) (Buf.cap_max hok5)) ?_)
  refine R_cons rfl (op_pure (p_bin rfl rfl (b_xor hh.2.2.2.1)) rfl ?_)
  refine R_cons rfl (op_pure (p_convert rfl sc_u32 ik_u64 hh.2.1) rfl ?_)
  refine R_cons rfl (op_callBuf (xs := digitsB k 4 ++ digitsB (~~~ sumU (digitsB k 4)).toNat 4) rfl rfl Try.func88 rfl (by kernel_rfl) rfl (Nat.le_refl _) (fun w' hm => refPutBuf _ _ (Buf.cap (some (g, sp)) (digitsB k 4)) (digitsB k 4) (~~~ sumU (digitsB k 4)).toNat 4 w' rfl (hm.readsBuf (u := some (g, sp)) (e := 5) (by repeat (first | exact DelB.tail | exact DelB.no rfl | exact DelB.at_ rfl (by repeat (first | exact Del.here | apply Del.there)) | apply DelB.there)) hok5) (by omega) hh.2.2.1 (by omega) (by omega)) (fun g2 sp2 hok2 => ?_))
  refine R_cons rfl (op_pure (p_assign rfl) rfl ?_)
  refine R_nil ?_
  repeat (first | refine S_scope ?_ | refine S_label ?_ | refine E_noGoto_normal ?_ | refine E_noGoto_ret ?_ | refine E_noGoto_exit ?_ | refine S_yes rfl (by first | with_reducible rfl | decide) ?_ | refine S_no rfl (by first | with_reducible rfl | decide) ?_ | refine S_seq ?_ | refine E_seq ?_ | refine S_block ?_ | refine E_block_normal ?_ | refine S_skip ?_ | refine S_exit ?_ | refine S_ret ?_ | refine E_then_exit ?_ | refine E_then_ret ?_ | refine E_block_ret ?_ | refine E_block_exit ?_ | refine E_block_exit_other rfl ?_)
  refine S_loop (σ := Nat × Buf) (fun s => [(3, s.2.val (digitsB k 4 ++ digitsB (~~~ sumU (digitsB k 4)).toNat 4 ++ List.replicate s.1 0))]) (fun s => s.2.hp 5 (digitsB k 4 ++ digitsB (~~~ sumU (digitsB k 4)).toNat 4 ++ List.replicate s.1 0)) (fun s => s.1 ≤ 56 ∧ s.2.ok (digitsB k 4 ++ digitsB (~~~ sumU (digitsB k 4)).toNat 4 ++ List.replicate s.1 0)) (fun s => 56 - s.1) (0, some (g2, sp2)) ⟨by omega, by rw [List.replicate_zero, List.append_nil]; exact hok2⟩ (by rw [List.replicate_zero, List.append_nil]; repeat (first | exact Sub.nil | refine Sub.cons rfl ?_)) (by rw [List.replicate_zero, List.append_nil]; unfold Buf.hp; simp only [List.cons_append, List.nil_append]; exact (by repeat (first | exact Fewer.nil | exact Fewer.refl _ | refine Fewer.pick rfl (by repeat (first | exact Del.here | apply Del.there)) ?_ | refine Fewer.drop ?_))) ?_
  rintro ⟨j, u⟩ ⟨hj, hu⟩
  dsimp only at hj hu ⊢
  have hlen := htl j
  have hval : Buf.val u (digitsB k 4 ++ digitsB (~~~ sumU (digitsB k 4)).toNat 4 ++ List.replicate j 0) = .slice (Buf.addr u) (8 + j) (Buf.cap u (digitsB k 4 ++ digitsB (~~~ sumU (digitsB k 4)).toNat 4 ++ List.replicate j 0)) := by unfold Buf.val; rw [hlen]
  by_cases hlt : j < 56
  · have g1 : decide (((8 + j : Nat) : Int) < 64) = true := decide_eq_true (by omega)
    repeat (first | refine S_scope ?_ | refine S_label ?_ | refine E_noGoto_normal ?_ | refine E_noGoto_ret ?_ | refine E_noGoto_exit ?_ | refine S_yes rfl (by first | with_reducible rfl | decide) ?_ | refine S_no rfl (by first | with_reducible rfl | decide) ?_ | refine S_seq ?_ | refine E_seq ?_ | refine S_block ?_ | refine E_block_normal ?_ | refine S_skip ?_ | refine S_exit ?_ | refine S_ret ?_ | refine E_then_exit ?_ | refine E_then_ret ?_ | refine E_block_ret ?_ | refine E_block_exit ?_ | refine E_block_exit_other rfl ?_)
    refine S_region ?_
    refine R_cons rfl (op_pure (p_move rfl) rfl ?_)
    refine R_cons rfl (op_pure (p_len (n := 8 + j) (by exact congrArg some hval) slc_u8s) rfl ?_)
    refine R_cons rfl (op_pure (p_bin rfl rfl (b_lss g1)) rfl ?_)
    refine R_nil ?_
    repeat (first | refine S_scope ?_ | refine S_label ?_ | refine E_noGoto_normal ?_ | refine E_noGoto_ret ?_ | refine E_noGoto_exit ?_ | refine S_yes rfl (by first | with_reducible rfl | decide) ?_ | refine S_no rfl (by first | with_reducible rfl | decide) ?_ | refine S_seq ?_ | refine E_seq ?_ | refine S_block ?_ | refine E_block_normal ?_ | refine S_skip ?_ | refine S_exit ?_ | refine S_ret ?_ | refine E_then_exit ?_ | refine E_then_ret ?_ | refine E_block_ret ?_ | refine E_block_exit ?_ | refine E_block_exit_other rfl ?_)
    refine S_region ?_
    refine R_cons rfl (op_pure (p_move rfl) rfl ?_)
    refine R_cons rfl (op_buildSliceAll (n := 1) (ps := [(0, .const (.int .u8 0))]) rfl slc_u8s.1 el_u8 (by decide) (by decide) (by kernel_rfl) rfl (Nat.le_refl _) (fun b17 => ?_))
    refine R_cons rfl (op_appendBuf (ys := [0]) rfl rfl slc_u8s.1 el_u8 (by repeat (first | exact DelB.tail | exact DelB.no rfl | exact DelB.at_ rfl (by repeat (first | exact Del.here | apply Del.there)) | apply DelB.there)) hu (fun w' hm => hm.readsAll (b := b17) (n := 1) (cs := bytesV [0]) (by repeat (first | exact List.Mem.head _ | apply List.Mem.tail)) rfl) (by rw [hlen]; simp; omega) rfl (Nat.le_refl _) (fun u' hu' _ => ?_))
    refine R_cons rfl (op_pure (p_assign rfl) rfl ?_)
    refine R_nil ?_
    repeat (first | refine S_scope ?_ | refine S_label ?_ | refine E_noGoto_normal ?_ | refine E_noGoto_ret ?_ | refine E_noGoto_exit ?_ | refine S_yes rfl (by first | with_reducible rfl | decide) ?_ | refine S_no rfl (by first | with_reducible rfl | decide) ?_ | refine S_seq ?_ | refine E_seq ?_ | refine S_block ?_ | refine E_block_normal ?_ | refine S_skip ?_ | refine S_exit ?_ | refine S_ret ?_ | refine E_then_exit ?_ | refine E_then_ret ?_ | refine E_block_ret ?_ | refine E_block_exit ?_ | refine E_block_exit_other rfl ?_)
    have hrep : digitsB k 4 ++ digitsB (~~~ sumU (digitsB k 4)).toNat 4 ++ List.replicate j 0 ++ [0] = digitsB k 4 ++ digitsB (~~~ sumU (digitsB k 4)).toNat 4 ++ List.replicate (j + 1) 0 := by
      rw [List.append_assoc _ (List.replicate j 0)]
      congr 1
      exact (List.replicate_succ' ..).symm
    rw [hrep] at hu' ⊢
    exact E_round (σ := Nat × Buf) (s := (j, u)) (j + 1, u') (by exact ⟨by show j + 1 ≤ 56; omega, hu'⟩) (by show 56 - (j + 1) < 56 - j; omega) (by repeat (first | exact Sub.nil | refine Sub.cons rfl ?_)) (by simp only [List.cons_append, List.nil_append]; exact (by repeat (first | exact Fewer.nil | exact Fewer.refl _ | refine Fewer.pick rfl (by repeat (first | exact Del.here | apply Del.there)) ?_ | refine Fewer.drop ?_)))
  have hj56 : j = 56 := by omega
  subst hj56
  have g1 : decide (((8 + 56 : Nat) : Int) < 64) = false := rfl
  repeat (first | refine S_scope ?_ | refine S_label ?_ | refine E_noGoto_normal ?_ | refine E_noGoto_ret ?_ | refine E_noGoto_exit ?_ | refine S_yes rfl (by first | with_reducible rfl | decide) ?_ | refine S_no rfl (by first | with_reducible rfl | decide) ?_ | refine S_seq ?_ | refine E_seq ?_ | refine S_block ?_ | refine E_block_normal ?_ | refine S_skip ?_ | refine S_exit ?_ | refine S_ret ?_ | refine E_then_exit ?_ | refine E_then_ret ?_ | refine E_block_ret ?_ | refine E_block_exit ?_ | refine E_block_exit_other rfl ?_)
  refine S_region ?_
  refine R_cons rfl (op_pure (p_move rfl) rfl ?_)
  refine R_cons rfl (op_pure (p_len (n := 8 + 56) (by exact congrArg some hval) slc_u8s) rfl ?_)
  refine R_cons rfl (op_pure (p_bin rfl rfl (b_lss g1)) rfl ?_)
  refine R_nil ?_
  repeat (first | refine S_scope ?_ | refine S_label ?_ | refine E_noGoto_normal ?_ | refine E_noGoto_ret ?_ | refine E_noGoto_exit ?_ | refine S_yes rfl (by first | with_reducible rfl | decide) ?_ | refine S_no rfl (by first | with_reducible rfl | decide) ?_ | refine S_seq ?_ | refine E_seq ?_ | refine S_block ?_ | refine E_block_normal ?_ | refine S_skip ?_ | refine S_exit ?_ | refine S_ret ?_ | refine E_then_exit ?_ | refine E_then_ret ?_ | refine E_block_ret ?_ | refine E_block_exit ?_ | refine E_block_exit_other rfl ?_)
  refine S_region ?_
  refine R_cons rfl (op_pure (p_move rfl) rfl ?_)
  refine R_cons rfl (op_pure (p_assign rfl) rfl ?_)
  refine R_nil ?_
  repeat (first | refine S_scope ?_ | refine S_label ?_ | refine E_noGoto_normal ?_ | refine E_noGoto_ret ?_ | refine E_noGoto_exit ?_ | refine S_yes rfl (by first | with_reducible rfl | decide) ?_ | refine S_no rfl (by first | with_reducible rfl | decide) ?_ | refine S_seq ?_ | refine E_seq ?_ | refine S_block ?_ | refine E_block_normal ?_ | refine S_skip ?_ | refine S_exit ?_ | refine S_ret ?_ | refine E_then_exit ?_ | refine E_then_ret ?_ | refine E_block_ret ?_ | refine E_block_exit ?_ | refine E_block_exit_other rfl ?_)
  have he : digitsB k 4 ++ digitsB (~~~ sumU (digitsB k 4)).toNat 4 ++ List.replicate 56 0 = toldS k := rfl
  rw [he] at hu ⊢
  obtain ⟨g3, sp3, rfl⟩ := Buf.some_of hu (by rw [toldS_length]; omega)
  refine E_ret1 rfl rfl fun w' hm => ⟨g3, sp3, rfl, hu, ?_, ?_, hm.below⟩
  · rcases (hm.own (g3, .cells (bytesV (toldS k) ++ sp3).toArray 5 (0, 0)) (by unfold Buf.hp; simp)).1 with h | h
    · exact h
    · cases h
  · exact (hm.own (g3, .cells (bytesV (toldS k) ++ sp3).toArray 5 (0, 0)) (by unfold Buf.hp; simp)).2
end Go.Proofs.Ytfdlafjifjndeaa
/-
  The document's counts: a count opened; the next number.
-/
namespace Go.Proofs.Ytfdlafjifjndeaa
open Go.RowKit Go.K
attribute [local irreducible] Exit.then Exit.inBlock Exit.noGoto bodyPost Code.wp QL Sx Rx Qx Ex Dx Op1 Pure1 Still1 K.Sub Calm Code.wpIn
set_option linter.unusedVariables false
def rcntC (br at_ used : Nat) (down : Bool) : List Value := [.pointer (some ⟨br, 0, none⟩), .int .i64 (at_ : Int), .int .u32 (used : Int), .bool down]
theorem any_zero (x : List UInt8) (hx : x.length = 64) : (x == List.replicate 64 0) = !(x.any (· != 0)) := by
  cases h : x.any (· != 0) with
  | false =>
    rw [Bool.not_false, beq_iff_eq]
    refine List.eq_replicate_iff.2 ⟨hx, fun b hb => ?_⟩
    have := List.any_eq_false.1 h b hb
    simpa using this
  | true =>
    rw [Bool.not_true]
    refine beq_eq_false_iff_ne.2 fun e => ?_
    rw [e] at h
    obtain ⟨b, hb, hb2⟩ := List.any_eq_true.1 h
    rw [List.eq_of_mem_replicate hb] at hb2
    exact absurd hb2 (by decide)
attribute [local irreducible] digitsB onNat sumU Buf.hp Buf.cap Buf.addr leftS blownS rwV nowOf lastR suV syncQ keptJ keptOf toldS getP openedS
theorem ropen_arg (q : QS) (left : Int) (bl : Bool) (i : Int) (h : i < 0 ∨ 3 ≤ i) (w : World) (hb : w.heap[q.br]? = some (.cells (q.row left bl).toArray 124 (0, 0))) :
    Calls Try.prog 28 [.pointer (some ⟨q.br, 0, none⟩), .int .i64 i].toArray w fun e w' => e = .returned (.tuple [.pointer none, .int .i64 1].toArray) ∧ Below w.heap.size w w' := by
  refine enter Try.func28 rfl Try.ntmps28 (by simp) ?_
  by_cases h1 : i < 0
  · have g2 : decide (i < 0) = true := decide_eq_true h1
    repeat (first | refine S_scope ?_ | refine S_label ?_ | refine E_noGoto_normal ?_ | refine E_noGoto_ret ?_ | refine E_noGoto_exit ?_ | refine S_yes rfl (by first | with_reducible rfl | decide) ?_ | refine S_no rfl (by first | with_reducible rfl | decide) ?_ | refine S_seq ?_ | refine E_seq ?_ | refine S_block ?_ | refine E_block_normal ?_ | refine S_skip ?_ | refine S_exit ?_ | refine S_ret ?_ | refine E_then_exit ?_ | refine E_then_ret ?_ | refine E_block_ret ?_ | refine E_block_exit ?_ | refine E_block_exit_other rfl ?_)
    refine S_region ?_
    refine R_cons rfl (op_pure (p_assign rfl) rfl ?_)
    refine R_cons rfl (op_pure (p_assign rfl) rfl ?_)
    refine R_nil ?_
    repeat (first | refine S_scope ?_ | refine S_label ?_ | refine E_noGoto_normal ?_ | refine E_noGoto_ret ?_ | refine E_noGoto_exit ?_ | refine S_yes rfl (by first | with_reducible rfl | decide) ?_ | refine S_no rfl (by first | with_reducible rfl | decide) ?_ | refine S_seq ?_ | refine E_seq ?_ | refine S_block ?_ | refine E_block_normal ?_ | refine S_skip ?_ | refine S_exit ?_ | refine S_ret ?_ | refine E_then_exit ?_ | refine E_then_ret ?_ | refine E_block_ret ?_ | refine E_block_exit ?_ | refine E_block_exit_other rfl ?_)
    refine S_region ?_
    refine R_cons rfl (op_pure (p_move rfl) rfl ?_)
    refine R_cons rfl (op_pure (p_bin rfl rfl (b_lss g2)) rfl ?_)
    refine R_cons rfl (op_pure (p_move rfl) rfl ?_)
    first | refine R_pass rfl rfl rfl rfl ?_ | refine R_pass_undef rfl rfl rfl ?_ | refine R_guard rfl rfl rfl (op_pure (p_move rfl) rfl ?_)
    first | refine R_pass rfl rfl rfl rfl ?_ | refine R_pass_undef rfl rfl rfl ?_ | refine R_guard rfl rfl rfl (op_pure (p_move rfl) rfl ?_)
    first | refine R_pass rfl rfl rfl rfl ?_ | refine R_pass_undef rfl rfl rfl ?_ | refine R_guard rfl rfl rfl (op_callV rfl rfl Try.func65 rfl (by kernel_rfl) rfl (Nat.le_refl _) (fun w' hm => rlen q.br _ _ _ left bl w' (below_block hm.below hb)) ?_)
    first | refine R_pass rfl rfl rfl rfl ?_ | refine R_pass_undef rfl rfl rfl ?_ | refine R_guard rfl rfl rfl (op_pure (p_bin rfl rfl (b_geq (by first | assumption | exact decide_eq_true (by omega) | exact decide_eq_false (by omega) | rfl))) rfl ?_)
    refine R_cons rfl (op_pure (by first | exact p_pick_yes rfl rfl | exact p_pick_no rfl rfl | exact p_pick rfl rfl rfl) rfl ?_)
    refine R_nil ?_
    repeat (first | refine S_scope ?_ | refine S_label ?_ | refine E_noGoto_normal ?_ | refine E_noGoto_ret ?_ | refine E_noGoto_exit ?_ | refine S_yes rfl (by first | with_reducible rfl | decide) ?_ | refine S_no rfl (by first | with_reducible rfl | decide) ?_ | refine S_seq ?_ | refine E_seq ?_ | refine S_block ?_ | refine E_block_normal ?_ | refine S_skip ?_ | refine S_exit ?_ | refine S_ret ?_ | refine E_then_exit ?_ | refine E_then_ret ?_ | refine E_block_ret ?_ | refine E_block_exit ?_ | refine E_block_exit_other rfl ?_)
    refine S_region ?_
    refine R_cons rfl (op_pure (p_assign rfl) rfl ?_)
    refine R_cons rfl (op_pure (p_assign rfl) rfl ?_)
    refine R_nil ?_
    repeat (first | refine S_scope ?_ | refine S_label ?_ | refine E_noGoto_normal ?_ | refine E_noGoto_ret ?_ | refine E_noGoto_exit ?_ | refine S_yes rfl (by first | with_reducible rfl | decide) ?_ | refine S_no rfl (by first | with_reducible rfl | decide) ?_ | refine S_seq ?_ | refine E_seq ?_ | refine S_block ?_ | refine E_block_normal ?_ | refine S_skip ?_ | refine S_exit ?_ | refine S_ret ?_ | refine E_then_exit ?_ | refine E_then_ret ?_ | refine E_block_ret ?_ | refine E_block_exit ?_ | refine E_block_exit_other rfl ?_)
    exact E_ret2 rfl rfl rfl fun w' hm => ⟨rfl, hm.below⟩
  have g2 : decide (i < 0) = false := decide_eq_false h1
  have g3 : decide ((3 : Int) ≤ i) = true := decide_eq_true (by omega)
  repeat (first | refine S_scope ?_ | refine S_label ?_ | refine E_noGoto_normal ?_ | refine E_noGoto_ret ?_ | refine E_noGoto_exit ?_ | refine S_yes rfl (by first | with_reducible rfl | decide) ?_ | refine S_no rfl (by first | with_reducible rfl | decide) ?_ | refine S_seq ?_ | refine E_seq ?_ | refine S_block ?_ | refine E_block_normal ?_ | refine S_skip ?_ | refine S_exit ?_ | refine S_ret ?_ | refine E_then_exit ?_ | refine E_then_ret ?_ | refine E_block_ret ?_ | refine E_block_exit ?_ | refine E_block_exit_other rfl ?_)
  refine S_region ?_
  refine R_cons rfl (op_pure (p_assign rfl) rfl ?_)
  refine R_cons rfl (op_pure (p_assign rfl) rfl ?_)
  refine R_nil ?_
  repeat (first | refine S_scope ?_ | refine S_label ?_ | refine E_noGoto_normal ?_ | refine E_noGoto_ret ?_ | refine E_noGoto_exit ?_ | refine S_yes rfl (by first | with_reducible rfl | decide) ?_ | refine S_no rfl (by first | with_reducible rfl | decide) ?_ | refine S_seq ?_ | refine E_seq ?_ | refine S_block ?_ | refine E_block_normal ?_ | refine S_skip ?_ | refine S_exit ?_ | refine S_ret ?_ | refine E_then_exit ?_ | refine E_then_ret ?_ | refine E_block_ret ?_ | refine E_block_exit ?_ | refine E_block_exit_other rfl ?_)
  refine S_region ?_
  refine R_cons rfl (op_pure (p_move rfl) rfl ?_)
  refine R_cons rfl (op_pure (p_bin rfl rfl (b_lss g2)) rfl ?_)
  refine R_cons rfl (op_pure (p_move rfl) rfl ?_)
  first | refine R_pass rfl rfl rfl rfl ?_ | refine R_pass_undef rfl rfl rfl ?_ | refine R_guard rfl rfl rfl (op_pure (p_move rfl) rfl ?_)
  first | refine R_pass rfl rfl rfl rfl ?_ | refine R_pass_undef rfl rfl rfl ?_ | refine R_guard rfl rfl rfl (op_pure (p_move rfl) rfl ?_)
  first | refine R_pass rfl rfl rfl rfl ?_ | refine R_pass_undef rfl rfl rfl ?_ | refine R_guard rfl rfl rfl (op_callV rfl rfl Try.func65 rfl (by kernel_rfl) rfl (Nat.le_refl _) (fun w' hm => rlen q.br _ _ _ left bl w' (below_block hm.below hb)) ?_)
  first | refine R_pass rfl rfl rfl rfl ?_ | refine R_pass_undef rfl rfl rfl ?_ | refine R_guard rfl rfl rfl (op_pure (p_bin rfl rfl (b_geq g3)) rfl ?_)
  refine R_cons rfl (op_pure (by first | exact p_pick_yes rfl rfl | exact p_pick_no rfl rfl | exact p_pick rfl rfl rfl) rfl ?_)
  refine R_nil ?_
  repeat (first | refine S_scope ?_ | refine S_label ?_ | refine E_noGoto_normal ?_ | refine E_noGoto_ret ?_ | refine E_noGoto_exit ?_ | refine S_yes rfl (by first | with_reducible rfl | decide) ?_ | refine S_no rfl (by first | with_reducible rfl | decide) ?_ | refine S_seq ?_ | refine E_seq ?_ | refine S_block ?_ | refine E_block_normal ?_ | refine S_skip ?_ | refine S_exit ?_ | refine S_ret ?_ | refine E_then_exit ?_ | refine E_then_ret ?_ | refine E_block_ret ?_ | refine E_block_exit ?_ | refine E_block_exit_other rfl ?_)
  refine S_region ?_
  refine R_cons rfl (op_pure (p_assign rfl) rfl ?_)
  refine R_cons rfl (op_pure (p_assign rfl) rfl ?_)
  refine R_nil ?_
  repeat (first | refine S_scope ?_ | refine S_label ?_ | refine E_noGoto_normal ?_ | refine E_noGoto_ret ?_ | refine E_noGoto_exit ?_ | refine S_yes rfl (by first | with_reducible rfl | decide) ?_ | refine S_no rfl (by first | with_reducible rfl | decide) ?_ | refine S_seq ?_ | refine E_seq ?_ | refine S_block ?_ | refine E_block_normal ?_ | refine S_skip ?_ | refine S_exit ?_ | refine S_ret ?_ | refine E_then_exit ?_ | refine E_then_ret ?_ | refine E_block_ret ?_ | refine E_block_exit ?_ | refine E_block_exit_other rfl ?_)
  exact E_ret2 rfl rfl rfl fun w' hm => ⟨rfl, hm.below⟩
set_option maxHeartbeats 2000000 in
theorem ropen (q : QS) (left : Int) (bl : Bool) (i : Nat) (hi : i < 3) (hn : q.ws.length ≤ 1000) (w : World) (hq : q.at_ w left bl) :
    Calls Try.prog 28 [.pointer (some ⟨q.br, 0, none⟩), .int .i64 (i : Int)].toArray w fun e w' => ∃ v H', e = .returned v ∧ Mem w.heap.size ⟨w, []⟩ H' w' ∧
      ∃ x, (nowOf q.sure q.wss)[i]? = some x ∧ ((∃ k bc, openedS x = some k ∧ v = .tuple [.pointer (some ⟨bc, 0, none⟩), .int .i64 0].toArray ∧ H' = [(bc, .cells (rcntC q.br i k false).toArray 126 (0, 0))]) ∨ (openedS x = none ∧ v = .tuple [.pointer none, .int .i64 4].toArray ∧ H' = [])) := by
  have g1 : decide ((i : Int) < 0) = false := decide_eq_false (by omega)
  have g2 : decide ((3 : Int) ≤ (i : Int)) = false := decide_eq_false (by omega)
  refine enter Try.func28 rfl Try.ntmps28 (by simp) ?_
  repeat (first | refine S_scope ?_ | refine S_label ?_ | refine E_noGoto_normal ?_ | refine E_noGoto_ret ?_ | refine E_noGoto_exit ?_ | refine S_yes rfl (by first | with_reducible rfl | decide) ?_ | refine S_no rfl (by first | with_reducible rfl | decide) ?_ | refine S_seq ?_ | refine E_seq ?_ | refine S_block ?_ | refine E_block_normal ?_ | refine S_skip ?_ | refine S_exit ?_ | refine S_ret ?_ | refine E_then_exit ?_ | refine E_then_ret ?_ | refine E_block_ret ?_ | refine E_block_exit ?_ | refine E_block_exit_other rfl ?_)
  refine S_region ?_
  refine R_cons rfl (op_pure (p_assign rfl) rfl ?_)
  refine R_cons rfl (op_pure (p_assign rfl) rfl ?_)
  refine R_nil ?_
  repeat (first | refine S_scope ?_ | refine S_label ?_ | refine E_noGoto_normal ?_ | refine E_noGoto_ret ?_ | refine E_noGoto_exit ?_ | refine S_yes rfl (by first | with_reducible rfl | decide) ?_ | refine S_no rfl (by first | with_reducible rfl | decide) ?_ | refine S_seq ?_ | refine E_seq ?_ | refine S_block ?_ | refine E_block_normal ?_ | refine S_skip ?_ | refine S_exit ?_ | refine S_ret ?_ | refine E_then_exit ?_ | refine E_then_ret ?_ | refine E_block_ret ?_ | refine E_block_exit ?_ | refine E_block_exit_other rfl ?_)
  refine S_region ?_
  refine R_cons rfl (op_pure (p_move rfl) rfl ?_)
  refine R_cons rfl (op_pure (p_bin rfl rfl (b_lss g1)) rfl ?_)
  refine R_cons rfl (op_pure (p_move rfl) rfl ?_)
  first | refine R_pass rfl rfl rfl rfl ?_ | refine R_pass_undef rfl rfl rfl ?_ | refine R_guard rfl rfl rfl (op_pure (p_move rfl) rfl ?_)
  first | refine R_pass rfl rfl rfl rfl ?_ | refine R_pass_undef rfl rfl rfl ?_ | refine R_guard rfl rfl rfl (op_pure (p_move rfl) rfl ?_)
  first | refine R_pass rfl rfl rfl rfl ?_ | refine R_pass_undef rfl rfl rfl ?_ | refine R_guard rfl rfl rfl (op_callV rfl rfl Try.func65 rfl (by kernel_rfl) rfl (Nat.le_refl _) (fun w' hm => rlen q.br _ _ _ left bl w' (below_block hm.below hq.row)) ?_)
  first | refine R_pass rfl rfl rfl rfl ?_ | refine R_pass_undef rfl rfl rfl ?_ | refine R_guard rfl rfl rfl (op_pure (p_bin rfl rfl (b_geq g2)) rfl ?_)
  refine R_cons rfl (op_pure (by first | exact p_pick_yes rfl rfl | exact p_pick_no rfl rfl | exact p_pick rfl rfl rfl) rfl ?_)
  refine R_nil ?_
  repeat (first | refine S_scope ?_ | refine S_label ?_ | refine E_noGoto_normal ?_ | refine E_noGoto_ret ?_ | refine E_noGoto_exit ?_ | refine S_yes rfl (by first | with_reducible rfl | decide) ?_ | refine S_no rfl (by first | with_reducible rfl | decide) ?_ | refine S_seq ?_ | refine E_seq ?_ | refine S_block ?_ | refine E_block_normal ?_ | refine S_skip ?_ | refine S_exit ?_ | refine S_ret ?_ | refine E_then_exit ?_ | refine E_then_ret ?_ | refine E_block_ret ?_ | refine E_block_exit ?_ | refine E_block_exit_other rfl ?_)
  refine S_region ?_
  refine R_cons rfl (op_pure (p_move rfl) rfl ?_)
  refine R_cons rfl (op_pure (p_move rfl) rfl ?_)
  refine R_cons rfl (op_call rfl rfl Try.func66 rfl (by kernel_rfl) rfl fun w1 hm => (rread q left bl i hi hn w1 ⟨hq.n3, hq.lok, hq.wok, below_block hm.below hq.row, below_block hm.below hq.sus, fun t ht => below_block hm.below (hq.lbs t ht), fun r hr => ⟨below_block hm.below (hq.sua r hr).1, (hq.sua r hr).2⟩, fun v hv => ⟨below_block hm.below (hq.wsa v hv).1, (hq.wsa v hv).2⟩⟩).mono ?_)
  rintro e w2 ⟨g, sp, x, hx, hxl, rfl, hok, hg, hgo, hbel⟩
  refine ⟨_, _, rfl, hm.call1 (Nat.le_refl _) hbel hg hgo, ?_⟩
  clear hm hbel hg hgo w1 w2
  have hval : Buf.val (some (g, sp)) x = .slice (some ⟨g, 0, none⟩) 64 (Buf.cap (some (g, sp)) x) := by unfold Buf.val Buf.addr; rw [hxl]
  rw [hval]
  refine R_cons rfl (op_pure (p_move rfl) rfl ?_)
  refine R_cons rfl (op_pure (p_extract (i := 0) rfl rfl) rfl ?_)
  refine R_cons rfl (op_pure (p_extract (i := 1) rfl rfl) rfl ?_)
  refine R_cons rfl (op_pure (p_assign rfl) rfl ?_)
  refine R_cons rfl (op_pure (p_assign rfl) rfl ?_)
  refine R_nil ?_
  repeat (first | refine S_scope ?_ | refine S_label ?_ | refine E_noGoto_normal ?_ | refine E_noGoto_ret ?_ | refine E_noGoto_exit ?_ | refine S_yes rfl (by first | with_reducible rfl | decide) ?_ | refine S_no rfl (by first | with_reducible rfl | decide) ?_ | refine S_seq ?_ | refine E_seq ?_ | refine S_block ?_ | refine E_block_normal ?_ | refine S_skip ?_ | refine S_exit ?_ | refine S_ret ?_ | refine E_then_exit ?_ | refine E_then_ret ?_ | refine E_block_ret ?_ | refine E_block_exit ?_ | refine E_block_exit_other rfl ?_)
  have hxv : (bytesV x).length = 64 := by rw [bytesV_length, hxl]
  have heq : ((⟨x.toArray⟩ : ByteArray).toList == (⟨(List.replicate 64 (0 : UInt8)).toArray⟩ : ByteArray).toList) = !(x.any (· != 0)) := by rw [toList_mk, toList_mk]; exact any_zero x hxl
  refine S_cut [(28, .bool (!(x.any (· != 0)))), (6, .slice (some ⟨g, 0, none⟩) 64 (Buf.cap (some (g, sp)) x)), (1, .int .i64 (i : Int)), (0, .pointer (some ⟨q.br, 0, none⟩))] [(g, .cells (bytesV x ++ sp).toArray 5 (0, 0))] ?_ ?_
  · refine S_drawn (by kernel_rfl) (.keep rfl .nil) ?_
    refine D_take 0 rfl (by kernel_rfl) (by kernel_rfl) (by kernel_rfl) (by repeat (first | exact calm_body | exact calm_mid | apply calm_noGoto | exact calm_midE | apply calm_then | apply calm_block)) (p_move rfl) rfl ?_
    refine D_take 1 rfl (by kernel_rfl) (by kernel_rfl) (by kernel_rfl) (by repeat (first | exact calm_body | exact calm_mid | apply calm_noGoto | exact calm_midE | apply calm_then | apply calm_block)) (p_bytesStr (xs := x) rfl slc_u8s.1 Try.underlying5 Try.underlying9 (by decide) (fun w' hm => by have h := hm.readsPre (b := g) (xs := bytesV x) (by repeat (first | exact List.Mem.head _ | apply List.Mem.tail)); rwa [hxv] at h)) rfl ?_
    refine D_only 2 rfl (by kernel_rfl) rfl (op_makeSlice (l := 64) (c := 64) rfl rfl rfl rfl slc_u8s.1 el_u8 (by decide) (by decide) (by decide) rfl (Nat.le_refl _) (fun b26 => ?_))
    refine ⟨(by repeat (first | exact Fewer.nil | refine Fewer.keep rfl ?_ | refine Fewer.drop ?_ | exact Fewer.refl _ | exact Fewer.inl _ _ | (simp only [List.append_nil]; first | exact Fewer.inl _ _ | exact Fewer.refl _))), ?_⟩
    refine D_only 3 rfl (by kernel_rfl) rfl (op_pure (p_bytesStr (xs := List.replicate 64 0) rfl slc_u8s.1 Try.underlying5 Try.underlying9 (by decide) (fun w' hm => by have h := hm.readsAll (b := b26) (n := 64) (cs := List.replicate 64 (Value.int .u8 0)) (by repeat (first | exact List.Mem.head _ | apply List.Mem.tail)) rfl; rwa [bytesV_zeros] at h)) rfl ?_)
    refine ⟨(by repeat (first | exact Fewer.nil | refine Fewer.keep rfl ?_ | refine Fewer.drop ?_ | exact Fewer.refl _ | exact Fewer.inl _ _ | (simp only [List.append_nil]; first | exact Fewer.inl _ _ | exact Fewer.refl _))), ?_⟩
    refine D_take 4 rfl (by kernel_rfl) (by kernel_rfl) (by kernel_rfl) (by repeat (first | exact calm_body | exact calm_mid | apply calm_noGoto | exact calm_midE | apply calm_then | apply calm_block)) (p_eqlStr rfl rfl heq) rfl ?_
    refine D_done (by kernel_rfl) ?_
    exact E_mid (by repeat (first | exact Sub.nil | refine Sub.cons rfl ?_)) (by repeat (first | exact Fewer.nil | exact Fewer.refl _ | refine Fewer.pick rfl (by repeat (first | exact Del.here | apply Del.there)) ?_ | refine Fewer.drop ?_))
  cases hany : x.any (· != 0) with
  | false =>
    have ho : openedS x = some 0 := by unfold openedS; rw [if_pos hany]
    repeat (first | refine S_scope ?_ | refine S_label ?_ | refine E_noGoto_normal ?_ | refine E_noGoto_ret ?_ | refine E_noGoto_exit ?_ | refine S_yes rfl (by first | with_reducible rfl | decide) ?_ | refine S_no rfl (by first | with_reducible rfl | decide) ?_ | refine S_seq ?_ | refine E_seq ?_ | refine S_block ?_ | refine E_block_normal ?_ | refine S_skip ?_ | refine S_exit ?_ | refine S_ret ?_ | refine E_then_exit ?_ | refine E_then_ret ?_ | refine E_block_ret ?_ | refine E_block_exit ?_ | refine E_block_exit_other rfl ?_)
    refine S_region ?_
    refine R_cons rfl (op_pure (p_move rfl) rfl ?_)
    refine R_cons rfl (op_pure (p_move rfl) rfl ?_)
    refine R_cons rfl (op_pure (p_build (ps := [(0, .tmp 29), (1, .tmp 30)]) (cs := rcntC q.br i 0 false) rfl (by kernel_rfl)) rfl ?_)
    refine R_cons rfl (op_boxRow rfl rfl (Nat.le_refl _) (fun b32 => ?_))
    refine R_cons rfl (op_pure (p_assign rfl) rfl ?_)
    refine R_cons rfl (op_pure (p_assign rfl) rfl ?_)
    refine R_nil ?_
    repeat (first | refine S_scope ?_ | refine S_label ?_ | refine E_noGoto_normal ?_ | refine E_noGoto_ret ?_ | refine E_noGoto_exit ?_ | refine S_yes rfl (by first | with_reducible rfl | decide) ?_ | refine S_no rfl (by first | with_reducible rfl | decide) ?_ | refine S_seq ?_ | refine E_seq ?_ | refine S_block ?_ | refine E_block_normal ?_ | refine S_skip ?_ | refine S_exit ?_ | refine S_ret ?_ | refine E_then_exit ?_ | refine E_then_ret ?_ | refine E_block_ret ?_ | refine E_block_exit ?_ | refine E_block_exit_other rfl ?_)
    exact E_ret2 rfl rfl rfl fun w' hm => ⟨_, _, rfl, hm.fewer (.keep rfl .nil), x, hx, .inl ⟨0, b32, ho, rfl, rfl⟩⟩
  | true =>
    have hg4 := getP_lt x 4
    rw [show (2 : Nat) ^ (4 * 8) = 4294967296 from by decide] at hg4
    have hcv : IntKind.u32.wrap (getP x 4 : Int) = (getP x 4 : Int) := w_in_u32 (by omega)
    repeat (first | refine S_scope ?_ | refine S_label ?_ | refine E_noGoto_normal ?_ | refine E_noGoto_ret ?_ | refine E_noGoto_exit ?_ | refine S_yes rfl (by first | with_reducible rfl | decide) ?_ | refine S_no rfl (by first | with_reducible rfl | decide) ?_ | refine S_seq ?_ | refine E_seq ?_ | refine S_block ?_ | refine E_block_normal ?_ | refine S_skip ?_ | refine S_exit ?_ | refine S_ret ?_ | refine E_then_exit ?_ | refine E_then_ret ?_ | refine E_block_ret ?_ | refine E_block_exit ?_ | refine E_block_exit_other rfl ?_)
    refine S_region ?_
    refine R_cons rfl (op_pure (p_move rfl) rfl ?_)
    refine R_cons rfl (op_callV rfl rfl Try.func67 rfl (by kernel_rfl) rfl (Nat.le_refl _) (fun w' hm => refGet4 (some ⟨g, 0, none⟩) 64 (Buf.cap (some (g, sp)) x) x hxl (by omega) (by omega) w' (by have h := hm.readsPre (b := g) (xs := bytesV x) (by repeat (first | exact List.Mem.head _ | apply List.Mem.tail)); rwa [hxv] at h)) ?_)
    refine R_cons rfl (op_pure (p_move rfl) rfl ?_)
    refine R_cons rfl (op_pure (p_extract (i := 0) rfl rfl) rfl ?_)
    refine R_cons rfl (op_pure (p_extract (i := 1) rfl rfl) rfl ?_)
    refine R_cons rfl (op_pure (p_assign rfl) rfl ?_)
    refine R_cons rfl (op_pure (p_assign rfl) rfl ?_)
    refine R_nil ?_
    repeat (first | refine S_scope ?_ | refine S_label ?_ | refine E_noGoto_normal ?_ | refine E_noGoto_ret ?_ | refine E_noGoto_exit ?_ | refine S_yes rfl (by first | with_reducible rfl | decide) ?_ | refine S_no rfl (by first | with_reducible rfl | decide) ?_ | refine S_seq ?_ | refine E_seq ?_ | refine S_block ?_ | refine E_block_normal ?_ | refine S_skip ?_ | refine S_exit ?_ | refine S_ret ?_ | refine E_then_exit ?_ | refine E_then_ret ?_ | refine E_block_ret ?_ | refine E_block_exit ?_ | refine E_block_exit_other rfl ?_)
    by_cases h16 : getP x 4 ≤ 16
    · have g5 : decide ((16 : Int) < (getP x 4 : Int)) = false := decide_eq_false (by omega)
      have htl := toldS_length (getP x 4)
      have hv2 : ∀ g2 sp2, Buf.val (some (g2, sp2)) (toldS (getP x 4)) = .slice (some ⟨g2, 0, none⟩) 64 (Buf.cap (some (g2, sp2)) (toldS (getP x 4))) := fun g2 sp2 => by unfold Buf.val Buf.addr; rw [htl]
      have hneq : ((⟨x.toArray⟩ : ByteArray).toList != (⟨(toldS (getP x 4)).toArray⟩ : ByteArray).toList) = !(x == toldS (getP x 4)) := by rw [toList_mk, toList_mk]; rfl
      refine S_cut [(48, .bool (!(x == toldS (getP x 4)))), (8, .int .u64 (getP x 4 : Int)), (1, .int .i64 (i : Int)), (0, .pointer (some ⟨q.br, 0, none⟩))] [] ?_ ?_
      · refine S_drawn (by kernel_rfl) (.keep rfl .nil) ?_
        refine D_take 0 rfl (by kernel_rfl) (by kernel_rfl) (by kernel_rfl) (by repeat (first | exact calm_body | exact calm_mid | apply calm_noGoto | exact calm_midE | apply calm_then | apply calm_block)) (p_move rfl) rfl ?_
        refine D_take 1 rfl (by kernel_rfl) (by kernel_rfl) (by kernel_rfl) (by repeat (first | exact calm_body | exact calm_mid | apply calm_noGoto | exact calm_midE | apply calm_then | apply calm_block)) (p_bin rfl rfl (b_gtr g5)) rfl ?_
        refine D_take 2 rfl (by kernel_rfl) (by kernel_rfl) (by kernel_rfl) (by repeat (first | exact calm_body | exact calm_mid | apply calm_noGoto | exact calm_midE | apply calm_then | apply calm_block)) (p_move rfl) rfl ?_
        first | refine D_pass 3 rfl (by kernel_rfl) (by kernel_rfl) (by kernel_rfl) (by repeat (first | exact calm_body | exact calm_mid | apply calm_noGoto | exact calm_midE | apply calm_then | apply calm_block)) rfl rfl rfl rfl ?_ | refine D_pass_undef 3 rfl (by kernel_rfl) (by kernel_rfl) (by kernel_rfl) (by repeat (first | exact calm_body | exact calm_mid | apply calm_noGoto | exact calm_midE | apply calm_then | apply calm_block)) rfl rfl rfl ?_ | refine D_take_guard 3 rfl (by kernel_rfl) (by kernel_rfl) (by kernel_rfl) (by repeat (first | exact calm_body | exact calm_mid | apply calm_noGoto | exact calm_midE | apply calm_then | apply calm_block)) rfl rfl (p_move rfl) rfl ?_
        first | refine D_pass 4 rfl (by kernel_rfl) (by kernel_rfl) (by kernel_rfl) (by repeat (first | exact calm_body | exact calm_mid | apply calm_noGoto | exact calm_midE | apply calm_then | apply calm_block)) rfl rfl rfl rfl ?_ | refine D_pass_undef 4 rfl (by kernel_rfl) (by kernel_rfl) (by kernel_rfl) (by repeat (first | exact calm_body | exact calm_mid | apply calm_noGoto | exact calm_midE | apply calm_then | apply calm_block)) rfl rfl rfl ?_ | refine D_take_guard 4 rfl (by kernel_rfl) (by kernel_rfl) (by kernel_rfl) (by repeat (first | exact calm_body | exact calm_mid | apply calm_noGoto | exact calm_midE | apply calm_then | apply calm_block)) rfl rfl (p_bytesStr (xs := x) rfl slc_u8s.1 Try.underlying5 Try.underlying9 (by decide) (fun w' hm => by have h := hm.readsPre (b := g) (xs := bytesV x) (by repeat (first | exact List.Mem.head _ | apply List.Mem.tail)); rwa [hxv] at h)) rfl ?_
        first | refine D_pass 5 rfl (by kernel_rfl) (by kernel_rfl) (by kernel_rfl) (by repeat (first | exact calm_body | exact calm_mid | apply calm_noGoto | exact calm_midE | apply calm_then | apply calm_block)) rfl rfl rfl rfl ?_ | refine D_pass_undef 5 rfl (by kernel_rfl) (by kernel_rfl) (by kernel_rfl) (by repeat (first | exact calm_body | exact calm_mid | apply calm_noGoto | exact calm_midE | apply calm_then | apply calm_block)) rfl rfl rfl ?_ | refine D_take_guard 5 rfl (by kernel_rfl) (by kernel_rfl) (by kernel_rfl) (by repeat (first | exact calm_body | exact calm_mid | apply calm_noGoto | exact calm_midE | apply calm_then | apply calm_block)) rfl rfl (p_move rfl) rfl ?_
        first | refine D_pass 6 rfl (by kernel_rfl) (by kernel_rfl) (by kernel_rfl) (by repeat (first | exact calm_body | exact calm_mid | apply calm_noGoto | exact calm_midE | apply calm_then | apply calm_block)) rfl rfl rfl rfl ?_ | refine D_pass_undef 6 rfl (by kernel_rfl) (by kernel_rfl) (by kernel_rfl) (by repeat (first | exact calm_body | exact calm_mid | apply calm_noGoto | exact calm_midE | apply calm_then | apply calm_block)) rfl rfl rfl ?_ | refine D_take_guard 6 rfl (by kernel_rfl) (by kernel_rfl) (by kernel_rfl) (by repeat (first | exact calm_body | exact calm_mid | apply calm_noGoto | exact calm_midE | apply calm_then | apply calm_block)) rfl rfl (p_convert rfl sc_u64 ik_u32 hcv) rfl ?_
        first | refine D_pass 7 rfl (by kernel_rfl) (by kernel_rfl) (by kernel_rfl) (by repeat (first | exact calm_body | exact calm_mid | apply calm_noGoto | exact calm_midE | apply calm_then | apply calm_block)) rfl rfl rfl rfl ?_ | refine D_pass_undef 7 rfl (by kernel_rfl) (by kernel_rfl) (by kernel_rfl) (by repeat (first | exact calm_body | exact calm_mid | apply calm_noGoto | exact calm_midE | apply calm_then | apply calm_block)) rfl rfl rfl ?_ | (refine D_only_guard 7 rfl (by kernel_rfl) rfl rfl rfl (op_callBuf (xs := toldS (getP x 4)) rfl rfl Try.func68 rfl (by kernel_rfl) rfl (Nat.le_refl _) (fun w' _ => rtold (getP x 4) hg4 w') (fun g2 sp2 hok2 => ?_)); refine ⟨(by repeat (first | exact Fewer.nil | refine Fewer.keep rfl ?_ | refine Fewer.drop ?_ | exact Fewer.refl _ | exact Fewer.inl _ _ | (simp only [List.append_nil]; first | exact Fewer.inl _ _ | exact Fewer.refl _))), ?_⟩)
        first | refine D_pass 8 rfl (by kernel_rfl) (by kernel_rfl) (by kernel_rfl) (by repeat (first | exact calm_body | exact calm_mid | apply calm_noGoto | exact calm_midE | apply calm_then | apply calm_block)) rfl rfl rfl rfl ?_ | refine D_pass_undef 8 rfl (by kernel_rfl) (by kernel_rfl) (by kernel_rfl) (by repeat (first | exact calm_body | exact calm_mid | apply calm_noGoto | exact calm_midE | apply calm_then | apply calm_block)) rfl rfl rfl ?_ | (refine D_only_guard 8 rfl (by kernel_rfl) rfl rfl rfl (op_pure (p_bytesStr (n := 64) (xs := toldS (getP x 4)) (by exact congrArg some (hv2 _ _)) slc_u8s.1 Try.underlying5 Try.underlying9 (by decide) (fun w' hm => by have h := hm.readsBuf (u := some (g2, sp2)) (e := 5) (by repeat (first | exact DelB.tail | exact DelB.no rfl | exact DelB.at_ rfl (by repeat (first | exact Del.here | apply Del.there)) | apply DelB.there)) hok2; rw [htl] at h; unfold Buf.addr at h; exact h)) rfl ?_); refine ⟨(by repeat (first | exact Fewer.nil | refine Fewer.keep rfl ?_ | refine Fewer.drop ?_ | exact Fewer.refl _ | exact Fewer.inl _ _ | (simp only [List.append_nil]; first | exact Fewer.inl _ _ | exact Fewer.refl _))), ?_⟩)
        first | refine D_pass 9 rfl (by kernel_rfl) (by kernel_rfl) (by kernel_rfl) (by repeat (first | exact calm_body | exact calm_mid | apply calm_noGoto | exact calm_midE | apply calm_then | apply calm_block)) rfl rfl rfl rfl ?_ | refine D_pass_undef 9 rfl (by kernel_rfl) (by kernel_rfl) (by kernel_rfl) (by repeat (first | exact calm_body | exact calm_mid | apply calm_noGoto | exact calm_midE | apply calm_then | apply calm_block)) rfl rfl rfl ?_ | refine D_take_guard 9 rfl (by kernel_rfl) (by kernel_rfl) (by kernel_rfl) (by repeat (first | exact calm_body | exact calm_mid | apply calm_noGoto | exact calm_midE | apply calm_then | apply calm_block)) rfl rfl (p_neqStr rfl rfl hneq) rfl ?_
        refine D_take 10 rfl (by kernel_rfl) (by kernel_rfl) (by kernel_rfl) (by repeat (first | exact calm_body | exact calm_mid | apply calm_noGoto | exact calm_midE | apply calm_then | apply calm_block)) (by first | exact p_pick_yes rfl rfl | exact p_pick_no rfl rfl | exact p_pick rfl rfl rfl) rfl ?_
        refine D_done (by kernel_rfl) ?_
        exact E_mid (by repeat (first | exact Sub.nil | refine Sub.cons rfl ?_)) .nil
      by_cases hsame : toldS (getP x 4) = x
      · have ho : openedS x = some (getP x 4) := by unfold openedS; rw [if_neg (by rw [hany]; decide), if_pos ⟨h16, hsame⟩]
        have hbq : (x == toldS (getP x 4)) = true := beq_iff_eq.2 hsame.symm
        rw [hbq]
        repeat (first | refine S_scope ?_ | refine S_label ?_ | refine E_noGoto_normal ?_ | refine E_noGoto_ret ?_ | refine E_noGoto_exit ?_ | refine S_yes rfl (by first | with_reducible rfl | decide) ?_ | refine S_no rfl (by first | with_reducible rfl | decide) ?_ | refine S_seq ?_ | refine E_seq ?_ | refine S_block ?_ | refine E_block_normal ?_ | refine S_skip ?_ | refine S_exit ?_ | refine S_ret ?_ | refine E_then_exit ?_ | refine E_then_ret ?_ | refine E_block_ret ?_ | refine E_block_exit ?_ | refine E_block_exit_other rfl ?_)
        refine S_region ?_
        refine R_cons rfl (op_pure (p_move rfl) rfl ?_)
        refine R_cons rfl (op_pure (p_move rfl) rfl ?_)
        refine R_cons rfl (op_pure (p_move rfl) rfl ?_)
        refine R_cons rfl (op_pure (p_convert rfl sc_u64 ik_u32 hcv) rfl ?_)
        refine R_cons rfl (op_pure (p_build (ps := [(0, .tmp 49), (1, .tmp 50), (2, .tmp 52)]) (cs := rcntC q.br i (getP x 4) false) rfl (by kernel_rfl)) rfl ?_)
        refine R_cons rfl (op_boxRow rfl rfl (Nat.le_refl _) (fun b54 => ?_))
        refine R_cons rfl (op_pure (p_assign rfl) rfl ?_)
        refine R_cons rfl (op_pure (p_assign rfl) rfl ?_)
        refine R_nil ?_
        repeat (first | refine S_scope ?_ | refine S_label ?_ | refine E_noGoto_normal ?_ | refine E_noGoto_ret ?_ | refine E_noGoto_exit ?_ | refine S_yes rfl (by first | with_reducible rfl | decide) ?_ | refine S_no rfl (by first | with_reducible rfl | decide) ?_ | refine S_seq ?_ | refine E_seq ?_ | refine S_block ?_ | refine E_block_normal ?_ | refine S_skip ?_ | refine S_exit ?_ | refine S_ret ?_ | refine E_then_exit ?_ | refine E_then_ret ?_ | refine E_block_ret ?_ | refine E_block_exit ?_ | refine E_block_exit_other rfl ?_)
        exact E_ret2 rfl rfl rfl fun w' hm => ⟨_, _, rfl, hm, x, hx, .inl ⟨getP x 4, b54, ho, rfl, rfl⟩⟩
      · have ho : openedS x = none := by unfold openedS; rw [if_neg (by rw [hany]; decide), if_neg (fun h => hsame h.2)]
        have hbq : (x == toldS (getP x 4)) = false := beq_eq_false_iff_ne.2 (fun e => hsame e.symm)
        rw [hbq]
        repeat (first | refine S_scope ?_ | refine S_label ?_ | refine E_noGoto_normal ?_ | refine E_noGoto_ret ?_ | refine E_noGoto_exit ?_ | refine S_yes rfl (by first | with_reducible rfl | decide) ?_ | refine S_no rfl (by first | with_reducible rfl | decide) ?_ | refine S_seq ?_ | refine E_seq ?_ | refine S_block ?_ | refine E_block_normal ?_ | refine S_skip ?_ | refine S_exit ?_ | refine S_ret ?_ | refine E_then_exit ?_ | refine E_then_ret ?_ | refine E_block_ret ?_ | refine E_block_exit ?_ | refine E_block_exit_other rfl ?_)
        refine S_region ?_
        refine R_cons rfl (op_pure (p_assign rfl) rfl ?_)
        refine R_cons rfl (op_pure (p_assign rfl) rfl ?_)
        refine R_nil ?_
        repeat (first | refine S_scope ?_ | refine S_label ?_ | refine E_noGoto_normal ?_ | refine E_noGoto_ret ?_ | refine E_noGoto_exit ?_ | refine S_yes rfl (by first | with_reducible rfl | decide) ?_ | refine S_no rfl (by first | with_reducible rfl | decide) ?_ | refine S_seq ?_ | refine E_seq ?_ | refine S_block ?_ | refine E_block_normal ?_ | refine S_skip ?_ | refine S_exit ?_ | refine S_ret ?_ | refine E_then_exit ?_ | refine E_then_ret ?_ | refine E_block_ret ?_ | refine E_block_exit ?_ | refine E_block_exit_other rfl ?_)
        exact E_ret2 rfl rfl rfl fun w' hm => ⟨_, _, rfl, hm.fewer .nil, x, hx, .inr ⟨ho, rfl, rfl⟩⟩
    · have g5 : decide ((16 : Int) < (getP x 4 : Int)) = true := decide_eq_true (by omega)
      have ho : openedS x = none := by unfold openedS; rw [if_neg (by rw [hany]; decide), if_neg (fun h => h16 h.1)]
      refine S_cut [(48, .bool true)] [] ?_ ?_
      · refine S_drawn (by kernel_rfl) (.keep rfl .nil) ?_
        refine D_take 0 rfl (by kernel_rfl) (by kernel_rfl) (by kernel_rfl) (by repeat (first | exact calm_body | exact calm_mid | apply calm_noGoto | exact calm_midE | apply calm_then | apply calm_block)) (p_move rfl) rfl ?_
        refine D_take 1 rfl (by kernel_rfl) (by kernel_rfl) (by kernel_rfl) (by repeat (first | exact calm_body | exact calm_mid | apply calm_noGoto | exact calm_midE | apply calm_then | apply calm_block)) (p_bin rfl rfl (b_gtr g5)) rfl ?_
        refine D_take 2 rfl (by kernel_rfl) (by kernel_rfl) (by kernel_rfl) (by repeat (first | exact calm_body | exact calm_mid | apply calm_noGoto | exact calm_midE | apply calm_then | apply calm_block)) (p_move rfl) rfl ?_
        first | refine D_pass 3 rfl (by kernel_rfl) (by kernel_rfl) (by kernel_rfl) (by repeat (first | exact calm_body | exact calm_mid | apply calm_noGoto | exact calm_midE | apply calm_then | apply calm_block)) rfl rfl rfl rfl ?_ | refine D_pass_undef 3 rfl (by kernel_rfl) (by kernel_rfl) (by kernel_rfl) (by repeat (first | exact calm_body | exact calm_mid | apply calm_noGoto | exact calm_midE | apply calm_then | apply calm_block)) rfl rfl rfl ?_ | refine D_take_guard 3 rfl (by kernel_rfl) (by kernel_rfl) (by kernel_rfl) (by repeat (first | exact calm_body | exact calm_mid | apply calm_noGoto | exact calm_midE | apply calm_then | apply calm_block)) rfl rfl (p_move rfl) rfl ?_
        first | refine D_pass 4 rfl (by kernel_rfl) (by kernel_rfl) (by kernel_rfl) (by repeat (first | exact calm_body | exact calm_mid | apply calm_noGoto | exact calm_midE | apply calm_then | apply calm_block)) rfl rfl rfl rfl ?_ | refine D_pass_undef 4 rfl (by kernel_rfl) (by kernel_rfl) (by kernel_rfl) (by repeat (first | exact calm_body | exact calm_mid | apply calm_noGoto | exact calm_midE | apply calm_then | apply calm_block)) rfl rfl rfl ?_ | refine D_take_guard 4 rfl (by kernel_rfl) (by kernel_rfl) (by kernel_rfl) (by repeat (first | exact calm_body | exact calm_mid | apply calm_noGoto | exact calm_midE | apply calm_then | apply calm_block)) rfl rfl (p_bytesStr (xs := x) rfl slc_u8s.1 Try.underlying5 Try.underlying9 (by decide) (fun w' hm => by have h := hm.readsPre (b := g) (xs := bytesV x) (by repeat (first | exact List.Mem.head _ | apply List.Mem.tail)); rwa [hxv] at h)) rfl ?_
        first | refine D_pass 5 rfl (by kernel_rfl) (by kernel_rfl) (by kernel_rfl) (by repeat (first | exact calm_body | exact calm_mid | apply calm_noGoto | exact calm_midE | apply calm_then | apply calm_block)) rfl rfl rfl rfl ?_ | refine D_pass_undef 5 rfl (by kernel_rfl) (by kernel_rfl) (by kernel_rfl) (by repeat (first | exact calm_body | exact calm_mid | apply calm_noGoto | exact calm_midE | apply calm_then | apply calm_block)) rfl rfl rfl ?_ | refine D_take_guard 5 rfl (by kernel_rfl) (by kernel_rfl) (by kernel_rfl) (by repeat (first | exact calm_body | exact calm_mid | apply calm_noGoto | exact calm_midE | apply calm_then | apply calm_block)) rfl rfl (p_move rfl) rfl ?_
        first | refine D_pass 6 rfl (by kernel_rfl) (by kernel_rfl) (by kernel_rfl) (by repeat (first | exact calm_body | exact calm_mid | apply calm_noGoto | exact calm_midE | apply calm_then | apply calm_block)) rfl rfl rfl rfl ?_ | refine D_pass_undef 6 rfl (by kernel_rfl) (by kernel_rfl) (by kernel_rfl) (by repeat (first | exact calm_body | exact calm_mid | apply calm_noGoto | exact calm_midE | apply calm_then | apply calm_block)) rfl rfl rfl ?_ | refine D_take_guard 6 rfl (by kernel_rfl) (by kernel_rfl) (by kernel_rfl) (by repeat (first | exact calm_body | exact calm_mid | apply calm_noGoto | exact calm_midE | apply calm_then | apply calm_block)) rfl rfl (p_convert rfl sc_u64 ik_u32 hcv) rfl ?_
        first | refine D_pass 7 rfl (by kernel_rfl) (by kernel_rfl) (by kernel_rfl) (by repeat (first | exact calm_body | exact calm_mid | apply calm_noGoto | exact calm_midE | apply calm_then | apply calm_block)) rfl rfl rfl rfl ?_ | refine D_pass_undef 7 rfl (by kernel_rfl) (by kernel_rfl) (by kernel_rfl) (by repeat (first | exact calm_body | exact calm_mid | apply calm_noGoto | exact calm_midE | apply calm_then | apply calm_block)) rfl rfl rfl ?_ | (refine D_only_guard 7 rfl (by kernel_rfl) rfl rfl rfl (op_callBuf (xs := toldS (getP x 4)) rfl rfl Try.func68 rfl (by kernel_rfl) rfl (Nat.le_refl _) (fun w' _ => rtold (getP x 4) hg4 w') (fun g2 sp2 hok2 => ?_)); refine ⟨(by repeat (first | exact Fewer.nil | refine Fewer.keep rfl ?_ | refine Fewer.drop ?_ | exact Fewer.refl _ | exact Fewer.inl _ _ | (simp only [List.append_nil]; first | exact Fewer.inl _ _ | exact Fewer.refl _))), ?_⟩)
        first | refine D_pass 8 rfl (by kernel_rfl) (by kernel_rfl) (by kernel_rfl) (by repeat (first | exact calm_body | exact calm_mid | apply calm_noGoto | exact calm_midE | apply calm_then | apply calm_block)) rfl rfl rfl rfl ?_ | refine D_pass_undef 8 rfl (by kernel_rfl) (by kernel_rfl) (by kernel_rfl) (by repeat (first | exact calm_body | exact calm_mid | apply calm_noGoto | exact calm_midE | apply calm_then | apply calm_block)) rfl rfl rfl ?_ | (refine D_only_guard 8 rfl (by kernel_rfl) rfl rfl rfl (op_pure (p_bytesStr (n := 64) (xs := toldS (getP x 4)) (by exact congrArg some (hv2 _ _)) slc_u8s.1 Try.underlying5 Try.underlying9 (by decide) (fun w' hm => by have h := hm.readsBuf (u := some (g2, sp2)) (e := 5) (by repeat (first | exact DelB.tail | exact DelB.no rfl | exact DelB.at_ rfl (by repeat (first | exact Del.here | apply Del.there)) | apply DelB.there)) hok2; rw [htl] at h; unfold Buf.addr at h; exact h)) rfl ?_); refine ⟨(by repeat (first | exact Fewer.nil | refine Fewer.keep rfl ?_ | refine Fewer.drop ?_ | exact Fewer.refl _ | exact Fewer.inl _ _ | (simp only [List.append_nil]; first | exact Fewer.inl _ _ | exact Fewer.refl _))), ?_⟩)
        first | refine D_pass 9 rfl (by kernel_rfl) (by kernel_rfl) (by kernel_rfl) (by repeat (first | exact calm_body | exact calm_mid | apply calm_noGoto | exact calm_midE | apply calm_then | apply calm_block)) rfl rfl rfl rfl ?_ | refine D_pass_undef 9 rfl (by kernel_rfl) (by kernel_rfl) (by kernel_rfl) (by repeat (first | exact calm_body | exact calm_mid | apply calm_noGoto | exact calm_midE | apply calm_then | apply calm_block)) rfl rfl rfl ?_ | refine D_take_guard 9 rfl (by kernel_rfl) (by kernel_rfl) (by kernel_rfl) (by repeat (first | exact calm_body | exact calm_mid | apply calm_noGoto | exact calm_midE | apply calm_then | apply calm_block)) rfl rfl (p_neqStr rfl rfl hneq) rfl ?_
        refine D_take 10 rfl (by kernel_rfl) (by kernel_rfl) (by kernel_rfl) (by repeat (first | exact calm_body | exact calm_mid | apply calm_noGoto | exact calm_midE | apply calm_then | apply calm_block)) (by first | exact p_pick_yes rfl rfl | exact p_pick_no rfl rfl | exact p_pick rfl rfl rfl) rfl ?_
        refine D_done (by kernel_rfl) ?_
        exact E_mid (by repeat (first | exact Sub.nil | refine Sub.cons rfl ?_)) .nil
      repeat (first | refine S_scope ?_ | refine S_label ?_ | refine E_noGoto_normal ?_ | refine E_noGoto_ret ?_ | refine E_noGoto_exit ?_ | refine S_yes rfl (by first | with_reducible rfl | decide) ?_ | refine S_no rfl (by first | with_reducible rfl | decide) ?_ | refine S_seq ?_ | refine E_seq ?_ | refine S_block ?_ | refine E_block_normal ?_ | refine S_skip ?_ | refine S_exit ?_ | refine S_ret ?_ | refine E_then_exit ?_ | refine E_then_ret ?_ | refine E_block_ret ?_ | refine E_block_exit ?_ | refine E_block_exit_other rfl ?_)
      refine S_region ?_
      refine R_cons rfl (op_pure (p_assign rfl) rfl ?_)
      refine R_cons rfl (op_pure (p_assign rfl) rfl ?_)
      refine R_nil ?_
      repeat (first | refine S_scope ?_ | refine S_label ?_ | refine E_noGoto_normal ?_ | refine E_noGoto_ret ?_ | refine E_noGoto_exit ?_ | refine S_yes rfl (by first | with_reducible rfl | decide) ?_ | refine S_no rfl (by first | with_reducible rfl | decide) ?_ | refine S_seq ?_ | refine E_seq ?_ | refine S_block ?_ | refine E_block_normal ?_ | refine S_skip ?_ | refine S_exit ?_ | refine S_ret ?_ | refine E_then_exit ?_ | refine E_then_ret ?_ | refine E_block_ret ?_ | refine E_block_exit ?_ | refine E_block_exit_other rfl ?_)
      exact E_ret2 rfl rfl rfl fun w' hm => ⟨_, _, rfl, hm.fewer .nil, x, hx, .inr ⟨ho, rfl, rfl⟩⟩
theorem rused (bc br at_ used : Nat) (down : Bool) (w : World) (hb : w.heap[bc]? = some (.cells (rcntC br at_ used down).toArray 126 (0, 0))) :
    Calls Try.prog 35 [.pointer (some ⟨bc, 0, none⟩)].toArray w fun e w' => e = .returned (.int .u32 (used : Int)) ∧ Below w.heap.size w w' := by
  have hbl := (Array.getElem?_eq_some_iff.1 hb).1
  have c2 : w.cell? ⟨bc, 2, none⟩ = some (.int .u32 (used : Int)) := by rw [cell_of_row w bc 2 _ _ _ hb]; rfl
  refine enter Try.func35 rfl Try.ntmps35 (by simp) ?_
  repeat (first | refine S_scope ?_ | refine S_label ?_ | refine E_noGoto_normal ?_ | refine E_noGoto_ret ?_ | refine E_noGoto_exit ?_ | refine S_yes rfl (by first | with_reducible rfl | decide) ?_ | refine S_no rfl (by first | with_reducible rfl | decide) ?_ | refine S_seq ?_ | refine E_seq ?_ | refine S_block ?_ | refine E_block_normal ?_ | refine S_skip ?_ | refine S_exit ?_ | refine S_ret ?_ | refine E_then_exit ?_ | refine E_then_ret ?_ | refine E_block_ret ?_ | refine E_block_exit ?_ | refine E_block_exit_other rfl ?_)
  refine S_region ?_
  refine R_cons rfl (op_pure (p_assign rfl) rfl ?_)
  refine R_nil ?_
  repeat (first | refine S_scope ?_ | refine S_label ?_ | refine E_noGoto_normal ?_ | refine E_noGoto_ret ?_ | refine E_noGoto_exit ?_ | refine S_yes rfl (by first | with_reducible rfl | decide) ?_ | refine S_no rfl (by first | with_reducible rfl | decide) ?_ | refine S_seq ?_ | refine E_seq ?_ | refine S_block ?_ | refine E_block_normal ?_ | refine S_skip ?_ | refine S_exit ?_ | refine S_ret ?_ | refine E_then_exit ?_ | refine E_then_ret ?_ | refine E_block_ret ?_ | refine E_block_exit ?_ | refine E_block_exit_other rfl ?_)
  refine S_region ?_
  refine R_cons rfl (op_pure (p_move rfl) rfl ?_)
  refine R_cons rfl (op_pure (p_nilCheck rfl) rfl ?_)
  refine R_cons rfl (op_pure (by first | exact p_fieldAddr0 rfl fd_almonerref22_Count_2 | exact p_fieldAddr rfl fd_almonerref22_Count_2) rfl ?_)
  refine R_cons rfl (op_pure (p_load_base rfl sc_u32 hbl (by simp) c2) rfl ?_)
  refine R_cons rfl (op_pure (p_assign rfl) rfl ?_)
  refine R_nil ?_
  repeat (first | refine S_scope ?_ | refine S_label ?_ | refine E_noGoto_normal ?_ | refine E_noGoto_ret ?_ | refine E_noGoto_exit ?_ | refine S_yes rfl (by first | with_reducible rfl | decide) ?_ | refine S_no rfl (by first | with_reducible rfl | decide) ?_ | refine S_seq ?_ | refine E_seq ?_ | refine S_block ?_ | refine E_block_normal ?_ | refine S_skip ?_ | refine S_exit ?_ | refine S_ret ?_ | refine E_then_exit ?_ | refine E_then_ret ?_ | refine E_block_ret ?_ | refine E_block_exit ?_ | refine E_block_exit_other rfl ?_)
  exact E_ret1 rfl rfl fun w' hm => ⟨rfl, hm.below⟩
end Go.Proofs.Ytfdlafjifjndeaa
/-
  The document's disk stands for the same as the program's: each call.
-/
namespace Go.Proofs.Ytfdlafjifjndeaa
open Go.RowKit Go.K
attribute [local irreducible] Exit.then Exit.inBlock Exit.noGoto bodyPost Code.wp QL Sx Rx Qx Ex Dx Op1 Pure1 Still1 K.Sub Calm Code.wpIn
set_option linter.unusedVariables false
theorem max_blown (l : Int) (bl : Bool) : blownS (max (-1) l) bl = blownS l bl := by
  unfold blownS
  by_cases h : -1 ≤ l
  · rw [Int.max_eq_right h]
  · rw [Int.max_eq_left (by omega), beq_eq_false_iff_ne.2 (show l ≠ 0 by omega)]
    rfl
theorem max_left (l : Int) (bl : Bool) : leftS (max (-1) l) bl = max (-1) (leftS l bl) := by
  by_cases h : -1 ≤ l
  · rw [Int.max_eq_right h]
    have : -1 ≤ leftS l bl := by
      unfold leftS
      split
      · rename_i h2
        have h3 : 0 < l := by simp at h2; exact h2.2
        omega
      · exact h
    rw [Int.max_eq_right this]
  · have e : leftS l bl = l := by
      unfold leftS
      rw [if_neg]
      intro h2
      have h3 : 0 < l := by simp at h2; exact h2.2
      omega
    have e2 : leftS (-1) bl = -1 := by
      unfold leftS
      rw [if_neg]
      intro h2
      simp at h2
    rw [e, Int.max_eq_left (by omega), e2]
structure Rel (m : Nat) (s : DS) (q : QS) : Prop where
  ok : s.ok m
  lok : lbOk q.lb q.ws
  sure : q.sure = s.sure
  wss : q.wss = s.ws
theorem Rel.n3 {m : Nat} {s : DS} {q : QS} (h : Rel m s q) : q.su.length = 3 := by
  have h1 := h.ok.1
  rw [← h.sure] at h1
  unfold QS.sure at h1
  rwa [List.length_map] at h1
theorem Rel.wn {m : Nat} {s : DS} {q : QS} (h : Rel m s q) : q.ws.length ≤ m := by
  have h1 := h.ok.2.2.2.2
  rw [← h.wss] at h1
  unfold QS.wss at h1
  rwa [List.length_map] at h1
theorem Rel.wok {m : Nat} {s : DS} {q : QS} (h : Rel m s q) : RwsOk q.ws := fun v hv => by
  have h1 := h.ok.2.2.1 (v.1, v.2.x) (by rw [← h.wss]; unfold QS.wss; exact List.mem_map_of_mem hv)
  exact h1.1
def QS.dat (q : QS) (D : Hp) : Prop := (∀ r ∈ q.su, r.ob ∈ D ∧ r.x.length = 64) ∧ (∀ v ∈ q.ws, v.2.ob ∈ D ∧ v.2.x.length = 64)
def lowL (l : Int) : Int := max (-1) l
theorem lowL_in {l : Int} (h : l ≤ 9223372036854775807) : -1 ≤ lowL l ∧ lowL l ≤ 9223372036854775807 := by
  unfold lowL
  rcases Int.le_total (-1) l with h1 | h1
  · rw [Int.max_eq_right h1]; exact ⟨h1, h⟩
  · rw [Int.max_eq_left h1]; omega
theorem lowL_left (l : Int) (bl : Bool) : leftS (lowL l) bl = lowL (leftS l bl) := max_left l bl
theorem lowL_blown (l : Int) (bl : Bool) : blownS (lowL l) bl = blownS l bl := max_blown l bl
theorem at_of {B : Nat} {w0 : Base} {H D : Hp} {w : World} {m : Nat} {s : DS} {q : QS} {left : Int} {bl : Bool} (hm : Mem B w0 H w) (h : Rel m s q) (h1 : ∀ p ∈ refH q left bl, p ∈ H) (h2 : ∀ p ∈ D, p ∈ H) (hd : q.dat D) : q.at_ w left bl := by
  refine ⟨h.n3, h.lok, h.wok, (hm.own (q.br, _) (h1 _ (by unfold refH; simp))).2, (hm.own (q.bS, _) (h1 _ (by unfold refH; simp))).2, fun t ht => ?_, fun r hr => ⟨(hm.own r.ob (h2 _ (hd.1 r hr).1)).2, (hd.1 r hr).2⟩, fun v hv => ⟨(hm.own v.2.ob (h2 _ (hd.2 v hv).1)).2, (hd.2 v hv).2⟩⟩
  exact (hm.own (t.1, .cells (rwV q.ws ++ t.2.2).toArray 129 (0, 0)) (h1 _ (by unfold refH lbHp; rw [ht]; simp))).2
theorem syncQ_sure (q : QS) : (syncQ q.su q.ws).map RS.x = nowOf q.sure q.wss := syncQ_x q.ws q.su
attribute [local irreducible] digitsB onNat sumU Buf.hp Buf.cap Buf.addr leftS blownS rwV nowOf lastR suV syncQ keptJ keptOf toldS getP openedS lowL
theorem syncQ_dat {q : QS} {D : Hp} (h : q.dat D) : ∀ r ∈ syncQ q.su q.ws, r.ob ∈ D ∧ r.x.length = 64 := syncQ_mem q.ws (fun r => r.ob ∈ D ∧ r.x.length = 64) h.2 q.su h.1
theorem rel_sync {m : Nat} {s : DS} {q : QS} (h : Rel m s q) (hb : blownS s.left s.bl = false) : Rel m s.sync ⟨q.br, q.bS, q.cS, q.spS, none, syncQ q.su q.ws, []⟩ := by
  refine ⟨sync_ok h.ok, rfl, ?_, ?_⟩
  · unfold DS.sync
    rw [if_neg (by rw [hb]; decide)]
    show (syncQ q.su q.ws).map RS.x = nowOf s.sure s.ws
    rw [syncQ_sure, h.sure, h.wss]
  · unfold DS.sync
    rw [if_neg (by rw [hb]; decide)]
    rfl
/-- a sector written -/
theorem rwriteX (m : Nat) (hm1 : m ≤ 1000) (s : DS) (q : QS) (hr : Rel m s q) (i : Nat) (hi : i < 3) (A : Option Addr) (c : Nat) (x : List UInt8) (hx : x.length ≤ 64) (w : World)
    (hsrc : ∀ w' H', Mem w.heap.size ⟨w, (refH q (lowL s.left) s.bl).map (·.1)⟩ H' w' → Reads w' A x.length (bytesV x)) (hm : Mem w.heap.size ⟨w, (refH q (lowL s.left) s.bl).map (·.1)⟩ (refH q (lowL s.left) s.bl) w) :
    Calls Try.prog 33 [.pointer (some ⟨q.br, 0, none⟩), .int .i64 (i : Int), .slice A x.length c].toArray w fun e w' => ∃ t : QS × Hp, e = .returned (.int .i64 (if blownS s.left s.bl then 9 else 0)) ∧ Mem w.heap.size ⟨w, (refH q (lowL s.left) s.bl).map (·.1)⟩ (t.2 ++ refH t.1 (lowL (s.write i (pad x)).left) (s.write i (pad x)).bl) w' ∧ (t.1.br = q.br ∧ Rel (m + 1) (s.write i (pad x)) t.1 ∧ ∀ D, q.dat D → t.1.dat (t.2 ++ D)) := by
  have hlw := lowL_in hr.ok.2.2.2.1.2
  have hwok := write_ok hr.ok hi (pad_length hx)
  refine (rwriteG q (lowL s.left) s.bl hlw.1 hlw.2 hr.lok (Nat.le_trans hr.wn hm1) i hi A c x hx w hsrc hm).mono ?_
  rintro e w' ⟨v, H', he, hm', hp⟩
  rw [lowL_blown, lowL_left] at hp
  rcases hp with ⟨hb, rfl, rfl⟩ | ⟨hb, rfl, b, lb, hlb, rfl⟩
  · have hs : s.write i (pad x) = ⟨s.sure, s.ws, leftS s.left s.bl, true⟩ := by unfold DS.write; rw [if_pos hb]
    rw [hs] at hwok ⊢
    rw [if_pos hb]
    exact ⟨(q, []), he, hm', rfl, ⟨hwok, hr.lok, hr.sure, hr.wss⟩, fun D hD => hD⟩
  · have hs : s.write i (pad x) = ⟨s.sure, s.ws ++ [(i, pad x)], leftS s.left s.bl, false⟩ := by unfold DS.write; rw [if_neg (by rw [hb]; decide)]
    rw [hs] at hwok ⊢
    rw [if_neg (by rw [hb]; decide)]
    refine ⟨(⟨q.br, q.bS, q.cS, q.spS, lb, q.su, q.ws ++ [(i, (⟨b, 64, [], pad x⟩ : RS))]⟩, [RS.ob ⟨b, 64, [], pad x⟩]), he, hm', rfl, ⟨hwok, hlb, hr.sure, ?_⟩, fun D hD => ⟨fun r h => ⟨List.mem_append_right _ (hD.1 r h).1, (hD.1 r h).2⟩, fun v hv => ?_⟩⟩
    · show (q.ws ++ [(i, (⟨b, 64, [], pad x⟩ : RS))]).map (fun w => (w.1, w.2.x)) = s.ws ++ [(i, pad x)]
      rw [List.map_append, ← hr.wss]
      rfl
    · rcases List.mem_append.1 hv with hv | hv
      · exact ⟨List.mem_append_right _ (hD.2 v hv).1, (hD.2 v hv).2⟩
      · rw [List.mem_singleton] at hv
        subst hv
        exact ⟨List.mem_append_left _ (List.mem_singleton.2 rfl), pad_length hx⟩
/-- all made sure -/
theorem rSyncX (m : Nat) (hm1 : m ≤ 1000) (s : DS) (q : QS) (hr : Rel m s q) (w : World) (hm : Mem w.heap.size ⟨w, (refH q (lowL s.left) s.bl).map (·.1)⟩ (refH q (lowL s.left) s.bl) w) :
    Calls Try.prog 72 [.pointer (some ⟨q.br, 0, none⟩)].toArray w fun e w' => ∃ t : QS, e = .returned (.int .i64 (if blownS s.left s.bl then 9 else 0)) ∧ Mem w.heap.size ⟨w, (refH q (lowL s.left) s.bl).map (·.1)⟩ (refH t (lowL s.sync.left) s.sync.bl) w' ∧ (t.br = q.br ∧ Rel m s.sync t ∧ ∀ D, q.dat D → t.dat D) := by
  have hlw := lowL_in hr.ok.2.2.2.1.2
  refine (rSync q (lowL s.left) s.bl hlw.1 hlw.2 hr.lok (Nat.le_trans hr.wn hm1) hr.n3 hr.wok w hm).mono ?_
  rintro e w' ⟨_, he, hm', _⟩
  rw [lowL_blown] at he hm'
  rw [lowL_left] at hm'
  cases hb : blownS s.left s.bl with
  | true =>
    rw [hb] at he hm'
    rw [if_pos rfl] at hm'
    have hs : s.sync = ⟨s.sure, s.ws, leftS s.left s.bl, true⟩ := by unfold DS.sync; rw [if_pos hb]
    have hok := sync_ok hr.ok
    rw [hs] at hok ⊢
    exact ⟨q, he, hm', rfl, ⟨hok, hr.lok, hr.sure, hr.wss⟩, fun D hD => hD⟩
  | false =>
    rw [hb] at he hm'
    rw [if_neg (by decide)] at hm'
    have hrs := rel_sync hr hb
    have hs : s.sync = ⟨nowOf s.sure s.ws, [], leftS s.left s.bl, false⟩ := by unfold DS.sync; rw [if_neg (by rw [hb]; decide)]
    rw [hs] at hrs ⊢
    exact ⟨_, he, hm', rfl, hrs, fun D hD => ⟨syncQ_dat hD, fun v hv => by cases hv⟩⟩
/-- a byte turned -/
theorem rturnX (m : Nat) (hm1 : m ≤ 1000) (s : DS) (q : QS) (hr : Rel m s q) (hbl : s.bl = false) (i at_ : Nat) (hi : i < 3) (hat : at_ < 64) (by_ : UInt8) (w : World) (hsu : ∀ r ∈ q.su, r.at_ w) (hwsa : ∀ v ∈ q.ws, v.2.at_ w) (hm : Mem w.heap.size ⟨w, (refH q (lowL s.left) s.bl).map (·.1)⟩ (refH q (lowL s.left) s.bl) w) :
    Calls Try.prog 31 [.pointer (some ⟨q.br, 0, none⟩), .int .i64 (i : Int), .int .i64 (at_ : Int), .int .u8 (by_.toNat : Int)].toArray w fun e w' => ∃ t : QS × Hp, e = .returned (.int .i64 0) ∧ Mem w.heap.size ⟨w, (refH q (lowL s.left) s.bl).map (·.1)⟩ (t.2 ++ refH t.1 (lowL (turnS s i at_ by_).left) (turnS s i at_ by_).bl) w' ∧ (t.1.br = q.br ∧ Rel m (turnS s i at_ by_) t.1 ∧ ∀ D, q.dat D → t.1.dat (t.2 ++ D)) := by
  have htok := turn_ok hr.ok i at_ hi by_
  unfold turnS at htok ⊢
  dsimp only at htok ⊢
  rw [hbl] at hm htok ⊢
  refine (rturnG q (lowL s.left) i at_ hi hat by_ hr.lok (Nat.le_trans hr.wn hm1) hr.n3 hr.wok w hsu hwsa hm).mono ?_
  rintro e w' ⟨r, he, hm', r1, hr1, hl1, hx⟩
  have hx1 : (nowOf s.sure s.ws).getD i [] = r1.x := by
    rw [← hr.sure, ← hr.wss, ← syncQ_sure, List.getD_eq_getElem?_getD, List.getElem?_map, hr1]
    rfl
  rw [hx1] at htok ⊢
  rw [← hx] at htok ⊢
  refine ⟨(⟨q.br, q.bS, q.cS, q.spS, none, (syncQ q.su q.ws).set i r, []⟩, [r.ob]), he, hm', rfl, ⟨htok, rfl, ?_, rfl⟩, fun D hD => ⟨fun r2 h2 => ?_, fun v hv => by cases hv⟩⟩
  · show ((syncQ q.su q.ws).set i r).map RS.x = (nowOf s.sure s.ws).set i r.x
    rw [List.map_set, syncQ_sure, hr.sure, hr.wss]
  · rcases List.mem_or_eq_of_mem_set h2 with h2 | rfl
    · exact ⟨List.mem_append_right _ (syncQ_dat hD r2 h2).1, (syncQ_dat hD r2 h2).2⟩
    · refine ⟨List.mem_append_left _ (List.mem_singleton.2 rfl), ?_⟩
      rw [hx, List.length_set]
      exact hl1
/-- a fuse -/
theorem rfuseX (q : QS) (left : Int) (bl : Bool) (n : Int) (w : World) (hm : Mem w.heap.size ⟨w, (refH q left bl).map (·.1)⟩ (refH q left bl) w) :
    Calls Try.prog 29 [.pointer (some ⟨q.br, 0, none⟩), .int .i64 n].toArray w fun e w' => ∃ _ : Unit, e = .returned (.int .i64 0) ∧ Mem w.heap.size ⟨w, (refH q left bl).map (·.1)⟩ (refH q (lowL n) false) w' ∧ True := by
  have hm2 : Mem w.heap.size ⟨w, (refH q left bl).map (·.1)⟩ ([(q.br, .cells (q.row left bl).toArray 124 (0, 0))] ++ ((q.bS, .cells (suV q.su ++ q.spS).toArray 40 (0, 0)) :: lbHp q.lb q.ws)) w := hm
  refine (rfuse q.br _ _ left bl n w (hm2.fewer (Fewer.inl _ _)).here).mono ?_
  rintro e w' ⟨_, he, hm3, _⟩
  have hm4 := hm2.frame hm3
  have e1 : max (-1) n = lowL n := by unfold lowL; rfl
  rw [e1] at hm4
  exact ⟨(), he, hm4, trivial⟩
/-- a disk that fails -/
theorem rfailX (m : Nat) (hm1 : m ≤ 1000) (s : DS) (q : QS) (hr : Rel m s q) (A : Option Addr) (c : Nat) (l : List Bool) (w : World) (hrd : Reads w A l.length (boolsV l)) (hq : q.at_ w (lowL s.left) s.bl) :
    Calls Try.prog 30 [.pointer (some ⟨q.br, 0, none⟩), .slice A l.length c].toArray w fun e w' => ∃ t : QS × Hp, e = .returned (.pointer (some ⟨t.1.br, 0, none⟩)) ∧ Mem w.heap.size ⟨w, []⟩ (refH t.1 (lowL (failS s l).left) (failS s l).bl ++ t.2) w' ∧ (Rel m (failS s l) t.1 ∧ t.1.dat t.2) := by
  refine (rfail q (lowL s.left) s.bl (Nat.le_trans hr.wn hm1) A c l w hrd hq).mono ?_
  rintro e w' ⟨t, he, hm', hy⟩
  have e1 : lowL (failS s l).left = -1 := by unfold lowL failS; rfl
  rw [e1]
  have hk := keptOf_ok s.sure s.ws l hr.ok.2.1 hr.ok.2.2.1
  rw [hr.sure, hr.wss] at hy
  rw [← hy] at hk
  refine ⟨(⟨t.br, t.bS, t.cS, t.spS, none, [⟨t.b0, 64, [], t.y0⟩, ⟨t.b1, 64, [], t.y1⟩, ⟨t.b2, 64, [], t.y2⟩], []⟩, _), he, hm', ⟨fail_ok hr.ok l, rfl, hy, rfl⟩, fun r h => ?_, fun v hv => by cases hv⟩
  have hk0 := hk.1 t.y0 (by simp)
  have hk1 := hk.1 t.y1 (by simp)
  have hk2 := hk.1 t.y2 (by simp)
  simp only [List.mem_cons, List.not_mem_nil, or_false] at h
  rcases h with rfl | rfl | rfl
  · exact ⟨by simp, hk0⟩
  · exact ⟨by simp, hk1⟩
  · exact ⟨by simp, hk2⟩
end Go.Proofs.Ytfdlafjifjndeaa
/-
  The document's counts: the next number.
-/
namespace Go.Proofs.Ytfdlafjifjndeaa
open Go.RowKit Go.K
attribute [local irreducible] Exit.then Exit.inBlock Exit.noGoto bodyPost Code.wp QL Sx Rx Qx Ex Dx Op1 Pure1 Still1 K.Sub Calm Code.wpIn
set_option linter.unusedVariables false
attribute [local irreducible] digitsB onNat sumU Buf.hp Buf.cap Buf.addr leftS blownS rwV nowOf lastR suV syncQ keptJ keptOf toldS getP openedS lowL
theorem rnext_no (bc br at_ used : Nat) (down : Bool) (h : 16 ≤ used ∨ down = true) (w : World) (hb : w.heap[bc]? = some (.cells (rcntC br at_ used down).toArray 126 (0, 0))) :
    Calls Try.prog 34 [.pointer (some ⟨bc, 0, none⟩)].toArray w fun e w' => e = .returned (.tuple [.int .u32 0, .int .i64 (if 16 ≤ used then 12 else 9)].toArray) ∧ Below w.heap.size w w' := by
  have hbl := (Array.getElem?_eq_some_iff.1 hb).1
  have c2 : w.cell? ⟨bc, 2, none⟩ = some (.int .u32 (used : Int)) := by rw [cell_of_row w bc 2 _ _ _ hb]; rfl
  have c3 : w.cell? ⟨bc, 3, none⟩ = some (.bool down) := by rw [cell_of_row w bc 3 _ _ _ hb]; rfl
  refine enter Try.func34 rfl Try.ntmps34 (by simp) ?_
  by_cases h16 : 16 ≤ used
  · rw [if_pos h16]
    have g1 : decide ((16 : Int) ≤ (used : Int)) = true := decide_eq_true (by omega)
    repeat (first | refine S_scope ?_ | refine S_label ?_ | refine E_noGoto_normal ?_ | refine E_noGoto_ret ?_ | refine E_noGoto_exit ?_ | refine S_yes rfl (by first | with_reducible rfl | decide) ?_ | refine S_no rfl (by first | with_reducible rfl | decide) ?_ | refine S_seq ?_ | refine E_seq ?_ | refine S_block ?_ | refine E_block_normal ?_ | refine S_skip ?_ | refine S_exit ?_ | refine S_ret ?_ | refine E_then_exit ?_ | refine E_then_ret ?_ | refine E_block_ret ?_ | refine E_block_exit ?_ | refine E_block_exit_other rfl ?_)
    refine S_region ?_
    refine R_cons rfl (op_pure (p_assign rfl) rfl ?_)
    refine R_cons rfl (op_pure (p_assign rfl) rfl ?_)
    refine R_nil ?_
    repeat (first | refine S_scope ?_ | refine S_label ?_ | refine E_noGoto_normal ?_ | refine E_noGoto_ret ?_ | refine E_noGoto_exit ?_ | refine S_yes rfl (by first | with_reducible rfl | decide) ?_ | refine S_no rfl (by first | with_reducible rfl | decide) ?_ | refine S_seq ?_ | refine E_seq ?_ | refine S_block ?_ | refine E_block_normal ?_ | refine S_skip ?_ | refine S_exit ?_ | refine S_ret ?_ | refine E_then_exit ?_ | refine E_then_ret ?_ | refine E_block_ret ?_ | refine E_block_exit ?_ | refine E_block_exit_other rfl ?_)
    refine S_region ?_
    refine R_cons rfl (op_pure (p_move rfl) rfl ?_)
    refine R_cons rfl (op_pure (p_nilCheck rfl) rfl ?_)
    refine R_cons rfl (op_pure (by first | exact p_fieldAddr0 rfl fd_almonerref22_Count_2 | exact p_fieldAddr rfl fd_almonerref22_Count_2) rfl ?_)
    refine R_cons rfl (op_pure (p_load_base rfl sc_u32 hbl (by simp) c2) rfl ?_)
    refine R_cons rfl (op_pure (p_bin rfl rfl (b_geq g1)) rfl ?_)
    refine R_nil ?_
    repeat (first | refine S_scope ?_ | refine S_label ?_ | refine E_noGoto_normal ?_ | refine E_noGoto_ret ?_ | refine E_noGoto_exit ?_ | refine S_yes rfl (by first | with_reducible rfl | decide) ?_ | refine S_no rfl (by first | with_reducible rfl | decide) ?_ | refine S_seq ?_ | refine E_seq ?_ | refine S_block ?_ | refine E_block_normal ?_ | refine S_skip ?_ | refine S_exit ?_ | refine S_ret ?_ | refine E_then_exit ?_ | refine E_then_ret ?_ | refine E_block_ret ?_ | refine E_block_exit ?_ | refine E_block_exit_other rfl ?_)
    refine S_region ?_
    refine R_cons rfl (op_pure (p_assign rfl) rfl ?_)
    refine R_cons rfl (op_pure (p_assign rfl) rfl ?_)
    refine R_nil ?_
    repeat (first | refine S_scope ?_ | refine S_label ?_ | refine E_noGoto_normal ?_ | refine E_noGoto_ret ?_ | refine E_noGoto_exit ?_ | refine S_yes rfl (by first | with_reducible rfl | decide) ?_ | refine S_no rfl (by first | with_reducible rfl | decide) ?_ | refine S_seq ?_ | refine E_seq ?_ | refine S_block ?_ | refine E_block_normal ?_ | refine S_skip ?_ | refine S_exit ?_ | refine S_ret ?_ | refine E_then_exit ?_ | refine E_then_ret ?_ | refine E_block_ret ?_ | refine E_block_exit ?_ | refine E_block_exit_other rfl ?_)
    exact E_ret2 rfl rfl rfl fun w' hm => ⟨rfl, hm.below⟩
  · rw [if_neg h16]
    have hd : down = true := by
      rcases h with h | h
      · exact absurd h h16
      · exact h
    subst hd
    have g1 : decide ((16 : Int) ≤ (used : Int)) = false := decide_eq_false (by omega)
    repeat (first | refine S_scope ?_ | refine S_label ?_ | refine E_noGoto_normal ?_ | refine E_noGoto_ret ?_ | refine E_noGoto_exit ?_ | refine S_yes rfl (by first | with_reducible rfl | decide) ?_ | refine S_no rfl (by first | with_reducible rfl | decide) ?_ | refine S_seq ?_ | refine E_seq ?_ | refine S_block ?_ | refine E_block_normal ?_ | refine S_skip ?_ | refine S_exit ?_ | refine S_ret ?_ | refine E_then_exit ?_ | refine E_then_ret ?_ | refine E_block_ret ?_ | refine E_block_exit ?_ | refine E_block_exit_other rfl ?_)
    refine S_region ?_
    refine R_cons rfl (op_pure (p_assign rfl) rfl ?_)
    refine R_cons rfl (op_pure (p_assign rfl) rfl ?_)
    refine R_nil ?_
    repeat (first | refine S_scope ?_ | refine S_label ?_ | refine E_noGoto_normal ?_ | refine E_noGoto_ret ?_ | refine E_noGoto_exit ?_ | refine S_yes rfl (by first | with_reducible rfl | decide) ?_ | refine S_no rfl (by first | with_reducible rfl | decide) ?_ | refine S_seq ?_ | refine E_seq ?_ | refine S_block ?_ | refine E_block_normal ?_ | refine S_skip ?_ | refine S_exit ?_ | refine S_ret ?_ | refine E_then_exit ?_ | refine E_then_ret ?_ | refine E_block_ret ?_ | refine E_block_exit ?_ | refine E_block_exit_other rfl ?_)
    refine S_region ?_
    refine R_cons rfl (op_pure (p_move rfl) rfl ?_)
    refine R_cons rfl (op_pure (p_nilCheck rfl) rfl ?_)
    refine R_cons rfl (op_pure (by first | exact p_fieldAddr0 rfl fd_almonerref22_Count_2 | exact p_fieldAddr rfl fd_almonerref22_Count_2) rfl ?_)
    refine R_cons rfl (op_pure (p_load_base rfl sc_u32 hbl (by simp) c2) rfl ?_)
    refine R_cons rfl (op_pure (p_bin rfl rfl (b_geq g1)) rfl ?_)
    refine R_nil ?_
    repeat (first | refine S_scope ?_ | refine S_label ?_ | refine E_noGoto_normal ?_ | refine E_noGoto_ret ?_ | refine E_noGoto_exit ?_ | refine S_yes rfl (by first | with_reducible rfl | decide) ?_ | refine S_no rfl (by first | with_reducible rfl | decide) ?_ | refine S_seq ?_ | refine E_seq ?_ | refine S_block ?_ | refine E_block_normal ?_ | refine S_skip ?_ | refine S_exit ?_ | refine S_ret ?_ | refine E_then_exit ?_ | refine E_then_ret ?_ | refine E_block_ret ?_ | refine E_block_exit ?_ | refine E_block_exit_other rfl ?_)
    refine S_region ?_
    refine R_cons rfl (op_pure (p_move rfl) rfl ?_)
    refine R_cons rfl (op_pure (p_nilCheck rfl) rfl ?_)
    refine R_cons rfl (op_pure (by first | exact p_fieldAddr0 rfl fd_almonerref22_Count_3 | exact p_fieldAddr rfl fd_almonerref22_Count_3) rfl ?_)
    refine R_cons rfl (op_pure (p_load_base rfl sc_bool hbl (by simp) c3) rfl ?_)
    refine R_nil ?_
    repeat (first | refine S_scope ?_ | refine S_label ?_ | refine E_noGoto_normal ?_ | refine E_noGoto_ret ?_ | refine E_noGoto_exit ?_ | refine S_yes rfl (by first | with_reducible rfl | decide) ?_ | refine S_no rfl (by first | with_reducible rfl | decide) ?_ | refine S_seq ?_ | refine E_seq ?_ | refine S_block ?_ | refine E_block_normal ?_ | refine S_skip ?_ | refine S_exit ?_ | refine S_ret ?_ | refine E_then_exit ?_ | refine E_then_ret ?_ | refine E_block_ret ?_ | refine E_block_exit ?_ | refine E_block_exit_other rfl ?_)
    refine S_region ?_
    refine R_cons rfl (op_pure (p_assign rfl) rfl ?_)
    refine R_cons rfl (op_pure (p_assign rfl) rfl ?_)
    refine R_nil ?_
    repeat (first | refine S_scope ?_ | refine S_label ?_ | refine E_noGoto_normal ?_ | refine E_noGoto_ret ?_ | refine E_noGoto_exit ?_ | refine S_yes rfl (by first | with_reducible rfl | decide) ?_ | refine S_no rfl (by first | with_reducible rfl | decide) ?_ | refine S_seq ?_ | refine E_seq ?_ | refine S_block ?_ | refine E_block_normal ?_ | refine S_skip ?_ | refine S_exit ?_ | refine S_ret ?_ | refine E_then_exit ?_ | refine E_then_ret ?_ | refine E_block_ret ?_ | refine E_block_exit ?_ | refine E_block_exit_other rfl ?_)
    exact E_ret2 rfl rfl rfl fun w' hm => ⟨rfl, hm.below⟩
set_option maxHeartbeats 4000000 in
theorem rnextX (m : Nat) (hm1 : m + 1 ≤ 1000) (s : DS) (q : QS) (hr : Rel m s q) (bc used at_ : Nat) (hat : at_ < 3) (hu : used < 16) (w : World) (hm : Mem w.heap.size ⟨w, ((bc, .cells (rcntC q.br at_ used false).toArray 126 (0, 0)) :: refH q (lowL (s).left) (s).bl).map (·.1)⟩ ((bc, .cells (rcntC q.br at_ used false).toArray 126 (0, 0)) :: refH q (lowL (s).left) (s).bl) w) :
    Calls Try.prog 34 [.pointer (some ⟨bc, 0, none⟩)].toArray w fun e w' => ∃ t : QS × Hp, e = .returned (Value.tuple ([Value.int .u32 ((nextS s at_ used).n : Int), Value.int .i64 (nextS s at_ used).e] : List Value).toArray) ∧
      Mem w.heap.size ⟨w, ((bc, .cells (rcntC q.br at_ used false).toArray 126 (0, 0)) :: refH q (lowL (s).left) (s).bl).map (·.1)⟩ ((bc, .cells (rcntC q.br at_ (nextS s at_ used).used (nextS s at_ used).down).toArray 126 (0, 0)) :: (t.2 ++ refH t.1 (lowL ((nextS s at_ used).s).left) ((nextS s at_ used).s).bl)) w' ∧ (t.1.br = q.br ∧ Rel (m + 1) (nextS s at_ used).s t.1 ∧ ∀ D, q.dat D → t.1.dat (t.2 ++ D)) := by
  have g1 : decide ((16 : Int) ≤ (used : Int)) = false := decide_eq_false (by omega)
  have hadd : IntKind.u32.wrap ((used : Int) + 1) = ((used + 1 : Nat) : Int) := by rw [w_in_u32 (by omega)]; omega
  have hsub1 : IntKind.u32.wrap (((used + 1 : Nat) : Int) - 1) = (used : Int) := by rw [w_in_u32 (by omega)]; omega
  have htl := toldS_length (used + 1)
  have htl2 : (toldS (used + 1)).length ≤ 64 := by omega
  have hpw : pad (toldS (used + 1)) = toldS (used + 1) := pad_whole htl
  have hu1 : used + 1 < 4294967296 := by omega
  refine enter_at Try.func34 rfl Try.ntmps34 (by simp) hm ?_
  repeat (first | refine S_scope ?_ | refine S_label ?_ | refine E_noGoto_normal ?_ | refine E_noGoto_ret ?_ | refine E_noGoto_exit ?_ | refine S_yes rfl (by first | with_reducible rfl | decide) ?_ | refine S_no rfl (by first | with_reducible rfl | decide) ?_ | refine S_seq ?_ | refine E_seq ?_ | refine S_block ?_ | refine E_block_normal ?_ | refine S_skip ?_ | refine S_exit ?_ | refine S_ret ?_ | refine E_then_exit ?_ | refine E_then_ret ?_ | refine E_block_ret ?_ | refine E_block_exit ?_ | refine E_block_exit_other rfl ?_)
  refine S_region ?_
  refine R_cons rfl (op_pure (p_assign rfl) rfl ?_)
  refine R_cons rfl (op_pure (p_assign rfl) rfl ?_)
  refine R_nil ?_
  repeat (first | refine S_scope ?_ | refine S_label ?_ | refine E_noGoto_normal ?_ | refine E_noGoto_ret ?_ | refine E_noGoto_exit ?_ | refine S_yes rfl (by first | with_reducible rfl | decide) ?_ | refine S_no rfl (by first | with_reducible rfl | decide) ?_ | refine S_seq ?_ | refine E_seq ?_ | refine S_block ?_ | refine E_block_normal ?_ | refine S_skip ?_ | refine S_exit ?_ | refine S_ret ?_ | refine E_then_exit ?_ | refine E_then_ret ?_ | refine E_block_ret ?_ | refine E_block_exit ?_ | refine E_block_exit_other rfl ?_)
  refine S_region ?_
  refine R_cons rfl (op_pure (p_move rfl) rfl ?_)
  refine R_cons rfl (op_pure (p_nilCheck rfl) rfl ?_)
  refine R_cons rfl (op_pure (by first | exact p_fieldAddr0 rfl fd_almonerref22_Count_2 | exact p_fieldAddr rfl fd_almonerref22_Count_2) rfl ?_)
  refine R_cons rfl (op_pure (p_load rfl sc_u32 (by repeat (first | exact List.Mem.head _ | apply List.Mem.tail)) (by rfl)) rfl ?_)
  refine R_cons rfl (op_pure (p_bin rfl rfl (b_geq g1)) rfl ?_)
  refine R_nil ?_
  repeat (first | refine S_scope ?_ | refine S_label ?_ | refine E_noGoto_normal ?_ | refine E_noGoto_ret ?_ | refine E_noGoto_exit ?_ | refine S_yes rfl (by first | with_reducible rfl | decide) ?_ | refine S_no rfl (by first | with_reducible rfl | decide) ?_ | refine S_seq ?_ | refine E_seq ?_ | refine S_block ?_ | refine E_block_normal ?_ | refine S_skip ?_ | refine S_exit ?_ | refine S_ret ?_ | refine E_then_exit ?_ | refine E_then_ret ?_ | refine E_block_ret ?_ | refine E_block_exit ?_ | refine E_block_exit_other rfl ?_)
  refine S_region ?_
  refine R_cons rfl (op_pure (p_move rfl) rfl ?_)
  refine R_cons rfl (op_pure (p_nilCheck rfl) rfl ?_)
  refine R_cons rfl (op_pure (by first | exact p_fieldAddr0 rfl fd_almonerref22_Count_3 | exact p_fieldAddr rfl fd_almonerref22_Count_3) rfl ?_)
  refine R_cons rfl (op_pure (p_load rfl sc_bool (by repeat (first | exact List.Mem.head _ | apply List.Mem.tail)) (by rfl)) rfl ?_)
  refine R_nil ?_
  repeat (first | refine S_scope ?_ | refine S_label ?_ | refine E_noGoto_normal ?_ | refine E_noGoto_ret ?_ | refine E_noGoto_exit ?_ | refine S_yes rfl (by first | with_reducible rfl | decide) ?_ | refine S_no rfl (by first | with_reducible rfl | decide) ?_ | refine S_seq ?_ | refine E_seq ?_ | refine S_block ?_ | refine E_block_normal ?_ | refine S_skip ?_ | refine S_exit ?_ | refine S_ret ?_ | refine E_then_exit ?_ | refine E_then_ret ?_ | refine E_block_ret ?_ | refine E_block_exit ?_ | refine E_block_exit_other rfl ?_)
  cases hb1 : blownS s.left s.bl with
  | true =>
    have hnx : nextS s at_ used = ⟨used, true, (s.write at_ (toldS (used + 1))), 0, 9⟩ := by unfold nextS; rw [if_pos hb1]
    rw [hnx]
    refine S_cutE (σ := QS × Hp) (fun t => [(36, .bool true), (0, .pointer (some ⟨bc, 0, none⟩))]) (fun t => (bc, .cells (rcntC q.br at_ used false).toArray 126 (0, 0)) :: (t.2 ++ refH t.1 (lowL ((s.write at_ (toldS (used + 1)))).left) ((s.write at_ (toldS (used + 1)))).bl)) (fun t => t.1.br = q.br ∧ Rel (m + 1) (s.write at_ (toldS (used + 1))) t.1 ∧ ∀ D, q.dat D → t.1.dat (t.2 ++ D)) ?_ ?_
    · refine S_drawn (by kernel_rfl) (.keep rfl .nil) ?_
      refine D_take 0 rfl (by kernel_rfl) (by kernel_rfl) (by kernel_rfl) (by repeat (first | exact calm_body | exact calm_mid | apply calm_noGoto | exact calm_midE | apply calm_then | apply calm_block)) (p_move rfl) rfl ?_
      refine D_take 1 rfl (by kernel_rfl) (by kernel_rfl) (by kernel_rfl) (by repeat (first | exact calm_body | exact calm_mid | apply calm_noGoto | exact calm_midE | apply calm_then | apply calm_block)) (p_nilCheck rfl) rfl ?_
      refine D_take 2 rfl (by kernel_rfl) (by kernel_rfl) (by kernel_rfl) (by repeat (first | exact calm_body | exact calm_mid | apply calm_noGoto | exact calm_midE | apply calm_then | apply calm_block)) (by first | exact p_fieldAddr0 rfl fd_almonerref22_Count_0 | exact p_fieldAddr rfl fd_almonerref22_Count_0) rfl ?_
      refine D_take 3 rfl (by kernel_rfl) (by kernel_rfl) (by kernel_rfl) (by repeat (first | exact calm_body | exact calm_mid | apply calm_noGoto | exact calm_midE | apply calm_then | apply calm_block)) (p_load rfl sc_almonerref05_Disk (by repeat (first | exact List.Mem.head _ | apply List.Mem.tail)) (by rfl)) rfl ?_
      refine D_take 4 rfl (by kernel_rfl) (by kernel_rfl) (by kernel_rfl) (by repeat (first | exact calm_body | exact calm_mid | apply calm_noGoto | exact calm_midE | apply calm_then | apply calm_block)) (p_move rfl) rfl ?_
      refine D_take 5 rfl (by kernel_rfl) (by kernel_rfl) (by kernel_rfl) (by repeat (first | exact calm_body | exact calm_mid | apply calm_noGoto | exact calm_midE | apply calm_then | apply calm_block)) (p_nilCheck rfl) rfl ?_
      refine D_take 6 rfl (by kernel_rfl) (by kernel_rfl) (by kernel_rfl) (by repeat (first | exact calm_body | exact calm_mid | apply calm_noGoto | exact calm_midE | apply calm_then | apply calm_block)) (by first | exact p_fieldAddr0 rfl fd_almonerref22_Count_1 | exact p_fieldAddr rfl fd_almonerref22_Count_1) rfl ?_
      refine D_take 7 rfl (by kernel_rfl) (by kernel_rfl) (by kernel_rfl) (by repeat (first | exact calm_body | exact calm_mid | apply calm_noGoto | exact calm_midE | apply calm_then | apply calm_block)) (p_load rfl sc_int (by repeat (first | exact List.Mem.head _ | apply List.Mem.tail)) (by rfl)) rfl ?_
      refine D_take 8 rfl (by kernel_rfl) (by kernel_rfl) (by kernel_rfl) (by repeat (first | exact calm_body | exact calm_mid | apply calm_noGoto | exact calm_midE | apply calm_then | apply calm_block)) (p_move rfl) rfl ?_
      refine D_take 9 rfl (by kernel_rfl) (by kernel_rfl) (by kernel_rfl) (by repeat (first | exact calm_body | exact calm_mid | apply calm_noGoto | exact calm_midE | apply calm_then | apply calm_block)) (p_nilCheck rfl) rfl ?_
      refine D_take 10 rfl (by kernel_rfl) (by kernel_rfl) (by kernel_rfl) (by repeat (first | exact calm_body | exact calm_mid | apply calm_noGoto | exact calm_midE | apply calm_then | apply calm_block)) (by first | exact p_fieldAddr0 rfl fd_almonerref22_Count_2 | exact p_fieldAddr rfl fd_almonerref22_Count_2) rfl ?_
      refine D_take 11 rfl (by kernel_rfl) (by kernel_rfl) (by kernel_rfl) (by repeat (first | exact calm_body | exact calm_mid | apply calm_noGoto | exact calm_midE | apply calm_then | apply calm_block)) (p_load rfl sc_u32 (by repeat (first | exact List.Mem.head _ | apply List.Mem.tail)) (by rfl)) rfl ?_
      refine D_take 12 rfl (by kernel_rfl) (by kernel_rfl) (by kernel_rfl) (by repeat (first | exact calm_body | exact calm_mid | apply calm_noGoto | exact calm_midE | apply calm_then | apply calm_block)) (p_bin rfl rfl (b_add hadd)) rfl ?_
      refine D_only 13 rfl (by kernel_rfl) rfl (op_callBuf (xs := toldS (used + 1)) rfl rfl Try.func68 rfl (by kernel_rfl) rfl (Nat.le_refl _) (fun w' _ => rtold (used + 1) hu1 w') (fun g sp hokg => ?_))
      refine ⟨(by repeat (first | exact Fewer.nil | refine Fewer.keep rfl ?_ | refine Fewer.drop ?_ | exact Fewer.refl _ | exact Fewer.inl _ _ | (simp only [List.append_nil]; first | exact Fewer.inl _ _ | exact Fewer.refl _))), ?_⟩
      refine D_only 14 rfl (by kernel_rfl) rfl (op_callXK (fun _ : QS × Hp => .int .i64 9) (fun t => t.2 ++ refH t.1 (lowL ((s.write at_ (toldS (used + 1)))).left) ((s.write at_ (toldS (used + 1)))).bl) (fun t => t.1.br = q.br ∧ Rel (m + 1) (s.write at_ (toldS (used + 1))) t.1 ∧ ∀ D, q.dat D → t.1.dat (t.2 ++ D)) (Hc := refH q (lowL (s).left) (s).bl) (K := [(g, .cells (bytesV (toldS (used + 1)) ++ sp).toArray 5 (0, 0)), (bc, .cells (rcntC q.br at_ used false).toArray 126 (0, 0))]) rfl rfl Try.func33 rfl (by kernel_rfl) rfl (by first | exact List.Perm.refl _ | (unfold Buf.hp; exact List.Perm.refl _)) (fun w' hm2 hm => (by have e : Buf.val (some (g, sp)) (toldS (used + 1)) = .slice (some ⟨g, 0, none⟩) (toldS (used + 1)).length (Buf.cap (some (g, sp)) (toldS (used + 1))) := (by unfold Buf.val Buf.addr; rfl); show Calls _ _ [.pointer (some ⟨q.br, 0, none⟩), .int .i64 (at_ : Int), Buf.val (some (g, sp)) (toldS (used + 1))].toArray _ _; rw [e]; have hrk := hm2.readsKept (b := g) (xs := bytesV (toldS (used + 1))) (sp := sp) (by repeat (first | exact List.Mem.head _ | apply List.Mem.tail)); rw [bytesV_length] at hrk; have h := rwriteX m (by omega) s q hr at_ hat _ (Buf.cap (some (g, sp)) (toldS (used + 1))) (toldS (used + 1)) htl2 w' hrk hm; rw [hpw, if_pos hb1] at h; exact h)) (fun t ht => ?_))
      refine ⟨(by repeat (first | exact Fewer.nil | refine Fewer.keep rfl ?_ | refine Fewer.drop ?_ | exact Fewer.refl _ | exact Fewer.inl _ _ | (simp only [List.append_nil]; first | exact Fewer.inl _ _ | exact Fewer.refl _))), ?_⟩
      refine D_take 15 rfl (by kernel_rfl) (by kernel_rfl) (by kernel_rfl) (by repeat (first | exact calm_body | exact calm_mid | apply calm_noGoto | exact calm_midE | apply calm_then | apply calm_block)) (p_bin rfl rfl (b_neq (by first | assumption | exact bne_iff_ne.2 (by omega) | exact bne_eq_false_iff_eq.2 (by omega) | rfl))) rfl ?_
      refine D_take 16 rfl (by kernel_rfl) (by kernel_rfl) (by kernel_rfl) (by repeat (first | exact calm_body | exact calm_mid | apply calm_noGoto | exact calm_midE | apply calm_then | apply calm_block)) (p_move rfl) rfl ?_
      first | refine D_pass 17 rfl (by kernel_rfl) (by kernel_rfl) (by kernel_rfl) (by repeat (first | exact calm_body | exact calm_mid | apply calm_noGoto | exact calm_midE | apply calm_then | apply calm_block)) rfl rfl rfl rfl ?_ | refine D_pass_undef 17 rfl (by kernel_rfl) (by kernel_rfl) (by kernel_rfl) (by repeat (first | exact calm_body | exact calm_mid | apply calm_noGoto | exact calm_midE | apply calm_then | apply calm_block)) rfl rfl rfl ?_ | refine D_take_guard 17 rfl (by kernel_rfl) (by kernel_rfl) (by kernel_rfl) (by repeat (first | exact calm_body | exact calm_mid | apply calm_noGoto | exact calm_midE | apply calm_then | apply calm_block)) rfl rfl (p_move rfl) rfl ?_
      first | refine D_pass 18 rfl (by kernel_rfl) (by kernel_rfl) (by kernel_rfl) (by repeat (first | exact calm_body | exact calm_mid | apply calm_noGoto | exact calm_midE | apply calm_then | apply calm_block)) rfl rfl rfl rfl ?_ | refine D_pass_undef 18 rfl (by kernel_rfl) (by kernel_rfl) (by kernel_rfl) (by repeat (first | exact calm_body | exact calm_mid | apply calm_noGoto | exact calm_midE | apply calm_then | apply calm_block)) rfl rfl rfl ?_ | refine D_take_guard 18 rfl (by kernel_rfl) (by kernel_rfl) (by kernel_rfl) (by repeat (first | exact calm_body | exact calm_mid | apply calm_noGoto | exact calm_midE | apply calm_then | apply calm_block)) rfl rfl (p_nilCheck rfl) rfl ?_
      first | refine D_pass 19 rfl (by kernel_rfl) (by kernel_rfl) (by kernel_rfl) (by repeat (first | exact calm_body | exact calm_mid | apply calm_noGoto | exact calm_midE | apply calm_then | apply calm_block)) rfl rfl rfl rfl ?_ | refine D_pass_undef 19 rfl (by kernel_rfl) (by kernel_rfl) (by kernel_rfl) (by repeat (first | exact calm_body | exact calm_mid | apply calm_noGoto | exact calm_midE | apply calm_then | apply calm_block)) rfl rfl rfl ?_ | refine D_take_guard 19 rfl (by kernel_rfl) (by kernel_rfl) (by kernel_rfl) (by repeat (first | exact calm_body | exact calm_mid | apply calm_noGoto | exact calm_midE | apply calm_then | apply calm_block)) rfl rfl (by first | exact p_fieldAddr0 rfl fd_almonerref22_Count_0 | exact p_fieldAddr rfl fd_almonerref22_Count_0) rfl ?_
      first | refine D_pass 20 rfl (by kernel_rfl) (by kernel_rfl) (by kernel_rfl) (by repeat (first | exact calm_body | exact calm_mid | apply calm_noGoto | exact calm_midE | apply calm_then | apply calm_block)) rfl rfl rfl rfl ?_ | refine D_pass_undef 20 rfl (by kernel_rfl) (by kernel_rfl) (by kernel_rfl) (by repeat (first | exact calm_body | exact calm_mid | apply calm_noGoto | exact calm_midE | apply calm_then | apply calm_block)) rfl rfl rfl ?_ | refine D_take_guard 20 rfl (by kernel_rfl) (by kernel_rfl) (by kernel_rfl) (by repeat (first | exact calm_body | exact calm_mid | apply calm_noGoto | exact calm_midE | apply calm_then | apply calm_block)) rfl rfl (p_load rfl sc_almonerref05_Disk (by repeat (first | exact List.Mem.head _ | apply List.Mem.tail)) (by rfl)) rfl ?_
      first | refine D_pass 21 rfl (by kernel_rfl) (by kernel_rfl) (by kernel_rfl) (by repeat (first | exact calm_body | exact calm_mid | apply calm_noGoto | exact calm_midE | apply calm_then | apply calm_block)) rfl rfl rfl rfl ?_ | refine D_pass_undef 21 rfl (by kernel_rfl) (by kernel_rfl) (by kernel_rfl) (by repeat (first | exact calm_body | exact calm_mid | apply calm_noGoto | exact calm_midE | apply calm_then | apply calm_block)) rfl rfl rfl ?_ | refine D_take_guard 21 rfl (by kernel_rfl) (by kernel_rfl) (by kernel_rfl) (by repeat (first | exact calm_body | exact calm_mid | apply calm_noGoto | exact calm_midE | apply calm_then | apply calm_block)) rfl rfl (p_move rfl) rfl ?_
      first | refine D_pass 22 rfl (by kernel_rfl) (by kernel_rfl) (by kernel_rfl) (by repeat (first | exact calm_body | exact calm_mid | apply calm_noGoto | exact calm_midE | apply calm_then | apply calm_block)) rfl rfl rfl rfl ?_ | refine D_pass_undef 22 rfl (by kernel_rfl) (by kernel_rfl) (by kernel_rfl) (by repeat (first | exact calm_body | exact calm_mid | apply calm_noGoto | exact calm_midE | apply calm_then | apply calm_block)) rfl rfl rfl ?_ | refine D_take_guard 22 rfl (by kernel_rfl) (by kernel_rfl) (by kernel_rfl) (by repeat (first | exact calm_body | exact calm_mid | apply calm_noGoto | exact calm_midE | apply calm_then | apply calm_block)) rfl rfl (p_bin rfl rfl (b_neq (by first | assumption | exact bne_iff_ne.2 (by omega) | exact bne_eq_false_iff_eq.2 (by omega) | rfl))) rfl ?_
      refine D_take 23 rfl (by kernel_rfl) (by kernel_rfl) (by kernel_rfl) (by repeat (first | exact calm_body | exact calm_mid | apply calm_noGoto | exact calm_midE | apply calm_then | apply calm_block)) (by first | exact p_pick_yes rfl rfl | exact p_pick_no rfl rfl | exact p_pick rfl rfl rfl) rfl ?_
      refine D_done (by kernel_rfl) ?_
      exact E_midE t ht (by repeat (first | exact Sub.nil | refine Sub.cons rfl ?_)) (.drop (.keep rfl (Fewer.refl _)))
    intro t ht
    repeat (first | refine S_scope ?_ | refine S_label ?_ | refine E_noGoto_normal ?_ | refine E_noGoto_ret ?_ | refine E_noGoto_exit ?_ | refine S_yes rfl (by first | with_reducible rfl | decide) ?_ | refine S_no rfl (by first | with_reducible rfl | decide) ?_ | refine S_seq ?_ | refine E_seq ?_ | refine S_block ?_ | refine E_block_normal ?_ | refine S_skip ?_ | refine S_exit ?_ | refine S_ret ?_ | refine E_then_exit ?_ | refine E_then_ret ?_ | refine E_block_ret ?_ | refine E_block_exit ?_ | refine E_block_exit_other rfl ?_)
    refine S_region ?_
    refine R_cons rfl (op_pure (p_move rfl) rfl ?_)
    refine R_cons rfl (op_pure (p_nilCheck rfl) rfl ?_)
    refine R_cons rfl (op_pure (by first | exact p_fieldAddr0 rfl fd_almonerref22_Count_3 | exact p_fieldAddr rfl fd_almonerref22_Count_3) rfl ?_)
    refine R_cons rfl (op_store rfl rfl rfl sc_bool (by repeat (first | exact At.here | apply At.there)) (by exact Nat.le_of_ble_eq_true rfl) ?_)
    refine R_nil ?_
    repeat (first | refine S_scope ?_ | refine S_label ?_ | refine E_noGoto_normal ?_ | refine E_noGoto_ret ?_ | refine E_noGoto_exit ?_ | refine S_yes rfl (by first | with_reducible rfl | decide) ?_ | refine S_no rfl (by first | with_reducible rfl | decide) ?_ | refine S_seq ?_ | refine E_seq ?_ | refine S_block ?_ | refine E_block_normal ?_ | refine S_skip ?_ | refine S_exit ?_ | refine S_ret ?_ | refine E_then_exit ?_ | refine E_then_ret ?_ | refine E_block_ret ?_ | refine E_block_exit ?_ | refine E_block_exit_other rfl ?_)
    refine S_region ?_
    refine R_cons rfl (op_pure (p_assign rfl) rfl ?_)
    refine R_cons rfl (op_pure (p_assign rfl) rfl ?_)
    refine R_nil ?_
    repeat (first | refine S_scope ?_ | refine S_label ?_ | refine E_noGoto_normal ?_ | refine E_noGoto_ret ?_ | refine E_noGoto_exit ?_ | refine S_yes rfl (by first | with_reducible rfl | decide) ?_ | refine S_no rfl (by first | with_reducible rfl | decide) ?_ | refine S_seq ?_ | refine E_seq ?_ | refine S_block ?_ | refine E_block_normal ?_ | refine S_skip ?_ | refine S_exit ?_ | refine S_ret ?_ | refine E_then_exit ?_ | refine E_then_ret ?_ | refine E_block_ret ?_ | refine E_block_exit ?_ | refine E_block_exit_other rfl ?_)
    exact E_ret2 rfl rfl rfl fun w' hm => ⟨t, rfl, hm, ht⟩
  | false =>
    have hsw : (s.write at_ (toldS (used + 1))).left = leftS s.left s.bl ∧ (s.write at_ (toldS (used + 1))).bl = false := by unfold DS.write; rw [if_neg (by rw [hb1]; decide)]; exact ⟨rfl, rfl⟩
    have hne : ¬ blownS s.left s.bl = true := by rw [hb1]; decide
    cases hb2 : blownS (leftS s.left s.bl) false with
    | true =>
      have hnx : nextS s at_ used = ⟨used, true, (s.write at_ (toldS (used + 1))).sync, 0, 9⟩ := by unfold nextS; rw [if_neg hne, if_pos hb2]
      have hb3 : blownS (s.write at_ (toldS (used + 1))).left (s.write at_ (toldS (used + 1))).bl = true := by rw [hsw.1, hsw.2]; exact hb2
      rw [hnx]
      refine S_cutE (σ := QS × Hp) (fun t => [(36, .bool true), (0, .pointer (some ⟨bc, 0, none⟩))]) (fun t => (bc, .cells (rcntC q.br at_ used false).toArray 126 (0, 0)) :: (t.2 ++ refH t.1 (lowL ((s.write at_ (toldS (used + 1))).sync).left) ((s.write at_ (toldS (used + 1))).sync).bl)) (fun t => t.1.br = q.br ∧ Rel (m + 1) (s.write at_ (toldS (used + 1))).sync t.1 ∧ ∀ D, q.dat D → t.1.dat (t.2 ++ D)) ?_ ?_
      · refine S_drawn (by kernel_rfl) (.keep rfl .nil) ?_
        refine D_take 0 rfl (by kernel_rfl) (by kernel_rfl) (by kernel_rfl) (by repeat (first | exact calm_body | exact calm_mid | apply calm_noGoto | exact calm_midE | apply calm_then | apply calm_block)) (p_move rfl) rfl ?_
        refine D_take 1 rfl (by kernel_rfl) (by kernel_rfl) (by kernel_rfl) (by repeat (first | exact calm_body | exact calm_mid | apply calm_noGoto | exact calm_midE | apply calm_then | apply calm_block)) (p_nilCheck rfl) rfl ?_
        refine D_take 2 rfl (by kernel_rfl) (by kernel_rfl) (by kernel_rfl) (by repeat (first | exact calm_body | exact calm_mid | apply calm_noGoto | exact calm_midE | apply calm_then | apply calm_block)) (by first | exact p_fieldAddr0 rfl fd_almonerref22_Count_0 | exact p_fieldAddr rfl fd_almonerref22_Count_0) rfl ?_
        refine D_take 3 rfl (by kernel_rfl) (by kernel_rfl) (by kernel_rfl) (by repeat (first | exact calm_body | exact calm_mid | apply calm_noGoto | exact calm_midE | apply calm_then | apply calm_block)) (p_load rfl sc_almonerref05_Disk (by repeat (first | exact List.Mem.head _ | apply List.Mem.tail)) (by rfl)) rfl ?_
        refine D_take 4 rfl (by kernel_rfl) (by kernel_rfl) (by kernel_rfl) (by repeat (first | exact calm_body | exact calm_mid | apply calm_noGoto | exact calm_midE | apply calm_then | apply calm_block)) (p_move rfl) rfl ?_
        refine D_take 5 rfl (by kernel_rfl) (by kernel_rfl) (by kernel_rfl) (by repeat (first | exact calm_body | exact calm_mid | apply calm_noGoto | exact calm_midE | apply calm_then | apply calm_block)) (p_nilCheck rfl) rfl ?_
        refine D_take 6 rfl (by kernel_rfl) (by kernel_rfl) (by kernel_rfl) (by repeat (first | exact calm_body | exact calm_mid | apply calm_noGoto | exact calm_midE | apply calm_then | apply calm_block)) (by first | exact p_fieldAddr0 rfl fd_almonerref22_Count_1 | exact p_fieldAddr rfl fd_almonerref22_Count_1) rfl ?_
        refine D_take 7 rfl (by kernel_rfl) (by kernel_rfl) (by kernel_rfl) (by repeat (first | exact calm_body | exact calm_mid | apply calm_noGoto | exact calm_midE | apply calm_then | apply calm_block)) (p_load rfl sc_int (by repeat (first | exact List.Mem.head _ | apply List.Mem.tail)) (by rfl)) rfl ?_
        refine D_take 8 rfl (by kernel_rfl) (by kernel_rfl) (by kernel_rfl) (by repeat (first | exact calm_body | exact calm_mid | apply calm_noGoto | exact calm_midE | apply calm_then | apply calm_block)) (p_move rfl) rfl ?_
        refine D_take 9 rfl (by kernel_rfl) (by kernel_rfl) (by kernel_rfl) (by repeat (first | exact calm_body | exact calm_mid | apply calm_noGoto | exact calm_midE | apply calm_then | apply calm_block)) (p_nilCheck rfl) rfl ?_
        refine D_take 10 rfl (by kernel_rfl) (by kernel_rfl) (by kernel_rfl) (by repeat (first | exact calm_body | exact calm_mid | apply calm_noGoto | exact calm_midE | apply calm_then | apply calm_block)) (by first | exact p_fieldAddr0 rfl fd_almonerref22_Count_2 | exact p_fieldAddr rfl fd_almonerref22_Count_2) rfl ?_
        refine D_take 11 rfl (by kernel_rfl) (by kernel_rfl) (by kernel_rfl) (by repeat (first | exact calm_body | exact calm_mid | apply calm_noGoto | exact calm_midE | apply calm_then | apply calm_block)) (p_load rfl sc_u32 (by repeat (first | exact List.Mem.head _ | apply List.Mem.tail)) (by rfl)) rfl ?_
        refine D_take 12 rfl (by kernel_rfl) (by kernel_rfl) (by kernel_rfl) (by repeat (first | exact calm_body | exact calm_mid | apply calm_noGoto | exact calm_midE | apply calm_then | apply calm_block)) (p_bin rfl rfl (b_add hadd)) rfl ?_
        refine D_only 13 rfl (by kernel_rfl) rfl (op_callBuf (xs := toldS (used + 1)) rfl rfl Try.func68 rfl (by kernel_rfl) rfl (Nat.le_refl _) (fun w' _ => rtold (used + 1) hu1 w') (fun g sp hokg => ?_))
        refine ⟨(by repeat (first | exact Fewer.nil | refine Fewer.keep rfl ?_ | refine Fewer.drop ?_ | exact Fewer.refl _ | exact Fewer.inl _ _ | (simp only [List.append_nil]; first | exact Fewer.inl _ _ | exact Fewer.refl _))), ?_⟩
        refine D_only 14 rfl (by kernel_rfl) rfl (op_callXK (fun _ : QS × Hp => .int .i64 0) (fun t => t.2 ++ refH t.1 (lowL ((s.write at_ (toldS (used + 1)))).left) ((s.write at_ (toldS (used + 1)))).bl) (fun t => t.1.br = q.br ∧ Rel (m + 1) (s.write at_ (toldS (used + 1))) t.1 ∧ ∀ D, q.dat D → t.1.dat (t.2 ++ D)) (Hc := refH q (lowL (s).left) (s).bl) (K := [(g, .cells (bytesV (toldS (used + 1)) ++ sp).toArray 5 (0, 0)), (bc, .cells (rcntC q.br at_ used false).toArray 126 (0, 0))]) rfl rfl Try.func33 rfl (by kernel_rfl) rfl (by first | exact List.Perm.refl _ | (unfold Buf.hp; exact List.Perm.refl _)) (fun w' hm2 hm => (by have e : Buf.val (some (g, sp)) (toldS (used + 1)) = .slice (some ⟨g, 0, none⟩) (toldS (used + 1)).length (Buf.cap (some (g, sp)) (toldS (used + 1))) := (by unfold Buf.val Buf.addr; rfl); show Calls _ _ [.pointer (some ⟨q.br, 0, none⟩), .int .i64 (at_ : Int), Buf.val (some (g, sp)) (toldS (used + 1))].toArray _ _; rw [e]; have hrk := hm2.readsKept (b := g) (xs := bytesV (toldS (used + 1))) (sp := sp) (by repeat (first | exact List.Mem.head _ | apply List.Mem.tail)); rw [bytesV_length] at hrk; have h := rwriteX m (by omega) s q hr at_ hat _ (Buf.cap (some (g, sp)) (toldS (used + 1))) (toldS (used + 1)) htl2 w' hrk hm; rw [hpw, if_neg hne] at h; exact h)) (fun t ht => ?_))
        refine ⟨(by repeat (first | exact Fewer.nil | refine Fewer.keep rfl ?_ | refine Fewer.drop ?_ | exact Fewer.refl _ | exact Fewer.inl _ _ | (simp only [List.append_nil]; first | exact Fewer.inl _ _ | exact Fewer.refl _))), ?_⟩
        refine D_take 15 rfl (by kernel_rfl) (by kernel_rfl) (by kernel_rfl) (by repeat (first | exact calm_body | exact calm_mid | apply calm_noGoto | exact calm_midE | apply calm_then | apply calm_block)) (p_bin rfl rfl (b_neq (by first | assumption | exact bne_iff_ne.2 (by omega) | exact bne_eq_false_iff_eq.2 (by omega) | rfl))) rfl ?_
        refine D_take 16 rfl (by kernel_rfl) (by kernel_rfl) (by kernel_rfl) (by repeat (first | exact calm_body | exact calm_mid | apply calm_noGoto | exact calm_midE | apply calm_then | apply calm_block)) (p_move rfl) rfl ?_
        first | refine D_pass 17 rfl (by kernel_rfl) (by kernel_rfl) (by kernel_rfl) (by repeat (first | exact calm_body | exact calm_mid | apply calm_noGoto | exact calm_midE | apply calm_then | apply calm_block)) rfl rfl rfl rfl ?_ | refine D_pass_undef 17 rfl (by kernel_rfl) (by kernel_rfl) (by kernel_rfl) (by repeat (first | exact calm_body | exact calm_mid | apply calm_noGoto | exact calm_midE | apply calm_then | apply calm_block)) rfl rfl rfl ?_ | refine D_take_guard 17 rfl (by kernel_rfl) (by kernel_rfl) (by kernel_rfl) (by repeat (first | exact calm_body | exact calm_mid | apply calm_noGoto | exact calm_midE | apply calm_then | apply calm_block)) rfl rfl (p_move rfl) rfl ?_
        first | refine D_pass 18 rfl (by kernel_rfl) (by kernel_rfl) (by kernel_rfl) (by repeat (first | exact calm_body | exact calm_mid | apply calm_noGoto | exact calm_midE | apply calm_then | apply calm_block)) rfl rfl rfl rfl ?_ | refine D_pass_undef 18 rfl (by kernel_rfl) (by kernel_rfl) (by kernel_rfl) (by repeat (first | exact calm_body | exact calm_mid | apply calm_noGoto | exact calm_midE | apply calm_then | apply calm_block)) rfl rfl rfl ?_ | refine D_take_guard 18 rfl (by kernel_rfl) (by kernel_rfl) (by kernel_rfl) (by repeat (first | exact calm_body | exact calm_mid | apply calm_noGoto | exact calm_midE | apply calm_then | apply calm_block)) rfl rfl (p_nilCheck rfl) rfl ?_
        first | refine D_pass 19 rfl (by kernel_rfl) (by kernel_rfl) (by kernel_rfl) (by repeat (first | exact calm_body | exact calm_mid | apply calm_noGoto | exact calm_midE | apply calm_then | apply calm_block)) rfl rfl rfl rfl ?_ | refine D_pass_undef 19 rfl (by kernel_rfl) (by kernel_rfl) (by kernel_rfl) (by repeat (first | exact calm_body | exact calm_mid | apply calm_noGoto | exact calm_midE | apply calm_then | apply calm_block)) rfl rfl rfl ?_ | refine D_take_guard 19 rfl (by kernel_rfl) (by kernel_rfl) (by kernel_rfl) (by repeat (first | exact calm_body | exact calm_mid | apply calm_noGoto | exact calm_midE | apply calm_then | apply calm_block)) rfl rfl (by first | exact p_fieldAddr0 rfl fd_almonerref22_Count_0 | exact p_fieldAddr rfl fd_almonerref22_Count_0) rfl ?_
        first | refine D_pass 20 rfl (by kernel_rfl) (by kernel_rfl) (by kernel_rfl) (by repeat (first | exact calm_body | exact calm_mid | apply calm_noGoto | exact calm_midE | apply calm_then | apply calm_block)) rfl rfl rfl rfl ?_ | refine D_pass_undef 20 rfl (by kernel_rfl) (by kernel_rfl) (by kernel_rfl) (by repeat (first | exact calm_body | exact calm_mid | apply calm_noGoto | exact calm_midE | apply calm_then | apply calm_block)) rfl rfl rfl ?_ | refine D_take_guard 20 rfl (by kernel_rfl) (by kernel_rfl) (by kernel_rfl) (by repeat (first | exact calm_body | exact calm_mid | apply calm_noGoto | exact calm_midE | apply calm_then | apply calm_block)) rfl rfl (p_load rfl sc_almonerref05_Disk (by repeat (first | exact List.Mem.head _ | apply List.Mem.tail)) (by rfl)) rfl ?_
        first | refine D_pass 21 rfl (by kernel_rfl) (by kernel_rfl) (by kernel_rfl) (by repeat (first | exact calm_body | exact calm_mid | apply calm_noGoto | exact calm_midE | apply calm_then | apply calm_block)) rfl rfl rfl rfl ?_ | refine D_pass_undef 21 rfl (by kernel_rfl) (by kernel_rfl) (by kernel_rfl) (by repeat (first | exact calm_body | exact calm_mid | apply calm_noGoto | exact calm_midE | apply calm_then | apply calm_block)) rfl rfl rfl ?_ | (refine D_only_guard 21 rfl (by kernel_rfl) rfl rfl rfl (op_callXK (fun _ : QS => .int .i64 9) (fun u => refH u (lowL ((s.write at_ (toldS (used + 1))).sync).left) ((s.write at_ (toldS (used + 1))).sync).bl) (fun u => u.br = t.1.br ∧ Rel (m + 1) (s.write at_ (toldS (used + 1))).sync u ∧ ∀ D, t.1.dat D → u.dat D) (Hc := refH t.1 (lowL ((s.write at_ (toldS (used + 1)))).left) ((s.write at_ (toldS (used + 1)))).bl) (K := [(g, .cells (bytesV (toldS (used + 1)) ++ sp).toArray 5 (0, 0)), (bc, .cells (rcntC q.br at_ used false).toArray 126 (0, 0))] ++ t.2) rfl (by show some [Value.pointer (some ⟨q.br, 0, none⟩)] = some [Value.pointer (some ⟨t.1.br, 0, none⟩)]; rw [ht.1]) Try.func72 rfl (by kernel_rfl) rfl (by rw [List.append_assoc]) (fun w' _ hm => (by have h := rSyncX (m + 1) hm1 (s.write at_ (toldS (used + 1))) t.1 ht.2.1 w' hm; rw [if_pos hb3] at h; exact h)) (fun u hu2 => ?_)); refine ⟨(by repeat (first | exact Fewer.nil | refine Fewer.keep rfl ?_ | refine Fewer.drop ?_ | exact Fewer.refl _ | exact Fewer.inl _ _ | (simp only [List.append_nil]; first | exact Fewer.inl _ _ | exact Fewer.refl _))), ?_⟩)
        first | refine D_pass 22 rfl (by kernel_rfl) (by kernel_rfl) (by kernel_rfl) (by repeat (first | exact calm_body | exact calm_mid | apply calm_noGoto | exact calm_midE | apply calm_then | apply calm_block)) rfl rfl rfl rfl ?_ | refine D_pass_undef 22 rfl (by kernel_rfl) (by kernel_rfl) (by kernel_rfl) (by repeat (first | exact calm_body | exact calm_mid | apply calm_noGoto | exact calm_midE | apply calm_then | apply calm_block)) rfl rfl rfl ?_ | refine D_take_guard 22 rfl (by kernel_rfl) (by kernel_rfl) (by kernel_rfl) (by repeat (first | exact calm_body | exact calm_mid | apply calm_noGoto | exact calm_midE | apply calm_then | apply calm_block)) rfl rfl (p_bin rfl rfl (b_neq (by first | assumption | exact bne_iff_ne.2 (by omega) | exact bne_eq_false_iff_eq.2 (by omega) | rfl))) rfl ?_
        refine D_take 23 rfl (by kernel_rfl) (by kernel_rfl) (by kernel_rfl) (by repeat (first | exact calm_body | exact calm_mid | apply calm_noGoto | exact calm_midE | apply calm_then | apply calm_block)) (by first | exact p_pick_yes rfl rfl | exact p_pick_no rfl rfl | exact p_pick rfl rfl rfl) rfl ?_
        refine D_done (by kernel_rfl) ?_
        exact E_midE (u, t.2) ⟨hu2.1.trans ht.1, hu2.2.1, fun D hD => hu2.2.2 _ (ht.2.2 D hD)⟩ (by repeat (first | exact Sub.nil | refine Sub.cons rfl ?_)) (by rw [List.append_assoc]; exact .drop (.keep rfl (Fewer.refl _)))
      intro t ht
      repeat (first | refine S_scope ?_ | refine S_label ?_ | refine E_noGoto_normal ?_ | refine E_noGoto_ret ?_ | refine E_noGoto_exit ?_ | refine S_yes rfl (by first | with_reducible rfl | decide) ?_ | refine S_no rfl (by first | with_reducible rfl | decide) ?_ | refine S_seq ?_ | refine E_seq ?_ | refine S_block ?_ | refine E_block_normal ?_ | refine S_skip ?_ | refine S_exit ?_ | refine S_ret ?_ | refine E_then_exit ?_ | refine E_then_ret ?_ | refine E_block_ret ?_ | refine E_block_exit ?_ | refine E_block_exit_other rfl ?_)
      refine S_region ?_
      refine R_cons rfl (op_pure (p_move rfl) rfl ?_)
      refine R_cons rfl (op_pure (p_nilCheck rfl) rfl ?_)
      refine R_cons rfl (op_pure (by first | exact p_fieldAddr0 rfl fd_almonerref22_Count_3 | exact p_fieldAddr rfl fd_almonerref22_Count_3) rfl ?_)
      refine R_cons rfl (op_store rfl rfl rfl sc_bool (by repeat (first | exact At.here | apply At.there)) (by exact Nat.le_of_ble_eq_true rfl) ?_)
      refine R_nil ?_
      repeat (first | refine S_scope ?_ | refine S_label ?_ | refine E_noGoto_normal ?_ | refine E_noGoto_ret ?_ | refine E_noGoto_exit ?_ | refine S_yes rfl (by first | with_reducible rfl | decide) ?_ | refine S_no rfl (by first | with_reducible rfl | decide) ?_ | refine S_seq ?_ | refine E_seq ?_ | refine S_block ?_ | refine E_block_normal ?_ | refine S_skip ?_ | refine S_exit ?_ | refine S_ret ?_ | refine E_then_exit ?_ | refine E_then_ret ?_ | refine E_block_ret ?_ | refine E_block_exit ?_ | refine E_block_exit_other rfl ?_)
      refine S_region ?_
      refine R_cons rfl (op_pure (p_assign rfl) rfl ?_)
      refine R_cons rfl (op_pure (p_assign rfl) rfl ?_)
      refine R_nil ?_
      repeat (first | refine S_scope ?_ | refine S_label ?_ | refine E_noGoto_normal ?_ | refine E_noGoto_ret ?_ | refine E_noGoto_exit ?_ | refine S_yes rfl (by first | with_reducible rfl | decide) ?_ | refine S_no rfl (by first | with_reducible rfl | decide) ?_ | refine S_seq ?_ | refine E_seq ?_ | refine S_block ?_ | refine E_block_normal ?_ | refine S_skip ?_ | refine S_exit ?_ | refine S_ret ?_ | refine E_then_exit ?_ | refine E_then_ret ?_ | refine E_block_ret ?_ | refine E_block_exit ?_ | refine E_block_exit_other rfl ?_)
      exact E_ret2 rfl rfl rfl fun w' hm => ⟨t, rfl, hm, ht⟩
    | false =>
      have hne2 : ¬ blownS (leftS s.left s.bl) false = true := by rw [hb2]; decide
      have hnx : nextS s at_ used = ⟨used + 1, false, (s.write at_ (toldS (used + 1))).sync, used, 0⟩ := by unfold nextS; rw [if_neg hne, if_neg hne2]
      have hb3 : ¬ blownS (s.write at_ (toldS (used + 1))).left (s.write at_ (toldS (used + 1))).bl = true := by rw [hsw.1, hsw.2]; exact hne2
      rw [hnx]
      refine S_cutE (σ := QS × Hp) (fun t => [(36, .bool false), (0, .pointer (some ⟨bc, 0, none⟩))]) (fun t => (bc, .cells (rcntC q.br at_ used false).toArray 126 (0, 0)) :: (t.2 ++ refH t.1 (lowL ((s.write at_ (toldS (used + 1))).sync).left) ((s.write at_ (toldS (used + 1))).sync).bl)) (fun t => t.1.br = q.br ∧ Rel (m + 1) (s.write at_ (toldS (used + 1))).sync t.1 ∧ ∀ D, q.dat D → t.1.dat (t.2 ++ D)) ?_ ?_
      · refine S_drawn (by kernel_rfl) (.keep rfl .nil) ?_
        refine D_take 0 rfl (by kernel_rfl) (by kernel_rfl) (by kernel_rfl) (by repeat (first | exact calm_body | exact calm_mid | apply calm_noGoto | exact calm_midE | apply calm_then | apply calm_block)) (p_move rfl) rfl ?_
        refine D_take 1 rfl (by kernel_rfl) (by kernel_rfl) (by kernel_rfl) (by repeat (first | exact calm_body | exact calm_mid | apply calm_noGoto | exact calm_midE | apply calm_then | apply calm_block)) (p_nilCheck rfl) rfl ?_
        refine D_take 2 rfl (by kernel_rfl) (by kernel_rfl) (by kernel_rfl) (by repeat (first | exact calm_body | exact calm_mid | apply calm_noGoto | exact calm_midE | apply calm_then | apply calm_block)) (by first | exact p_fieldAddr0 rfl fd_almonerref22_Count_0 | exact p_fieldAddr rfl fd_almonerref22_Count_0) rfl ?_
        refine D_take 3 rfl (by kernel_rfl) (by kernel_rfl) (by kernel_rfl) (by repeat (first | exact calm_body | exact calm_mid | apply calm_noGoto | exact calm_midE | apply calm_then | apply calm_block)) (p_load rfl sc_almonerref05_Disk (by repeat (first | exact List.Mem.head _ | apply List.Mem.tail)) (by rfl)) rfl ?_
        refine D_take 4 rfl (by kernel_rfl) (by kernel_rfl) (by kernel_rfl) (by repeat (first | exact calm_body | exact calm_mid | apply calm_noGoto | exact calm_midE | apply calm_then | apply calm_block)) (p_move rfl) rfl ?_
        refine D_take 5 rfl (by kernel_rfl) (by kernel_rfl) (by kernel_rfl) (by repeat (first | exact calm_body | exact calm_mid | apply calm_noGoto | exact calm_midE | apply calm_then | apply calm_block)) (p_nilCheck rfl) rfl ?_
        refine D_take 6 rfl (by kernel_rfl) (by kernel_rfl) (by kernel_rfl) (by repeat (first | exact calm_body | exact calm_mid | apply calm_noGoto | exact calm_midE | apply calm_then | apply calm_block)) (by first | exact p_fieldAddr0 rfl fd_almonerref22_Count_1 | exact p_fieldAddr rfl fd_almonerref22_Count_1) rfl ?_
        refine D_take 7 rfl (by kernel_rfl) (by kernel_rfl) (by kernel_rfl) (by repeat (first | exact calm_body | exact calm_mid | apply calm_noGoto | exact calm_midE | apply calm_then | apply calm_block)) (p_load rfl sc_int (by repeat (first | exact List.Mem.head _ | apply List.Mem.tail)) (by rfl)) rfl ?_
        refine D_take 8 rfl (by kernel_rfl) (by kernel_rfl) (by kernel_rfl) (by repeat (first | exact calm_body | exact calm_mid | apply calm_noGoto | exact calm_midE | apply calm_then | apply calm_block)) (p_move rfl) rfl ?_
        refine D_take 9 rfl (by kernel_rfl) (by kernel_rfl) (by kernel_rfl) (by repeat (first | exact calm_body | exact calm_mid | apply calm_noGoto | exact calm_midE | apply calm_then | apply calm_block)) (p_nilCheck rfl) rfl ?_
        refine D_take 10 rfl (by kernel_rfl) (by kernel_rfl) (by kernel_rfl) (by repeat (first | exact calm_body | exact calm_mid | apply calm_noGoto | exact calm_midE | apply calm_then | apply calm_block)) (by first | exact p_fieldAddr0 rfl fd_almonerref22_Count_2 | exact p_fieldAddr rfl fd_almonerref22_Count_2) rfl ?_
        refine D_take 11 rfl (by kernel_rfl) (by kernel_rfl) (by kernel_rfl) (by repeat (first | exact calm_body | exact calm_mid | apply calm_noGoto | exact calm_midE | apply calm_then | apply calm_block)) (p_load rfl sc_u32 (by repeat (first | exact List.Mem.head _ | apply List.Mem.tail)) (by rfl)) rfl ?_
        refine D_take 12 rfl (by kernel_rfl) (by kernel_rfl) (by kernel_rfl) (by repeat (first | exact calm_body | exact calm_mid | apply calm_noGoto | exact calm_midE | apply calm_then | apply calm_block)) (p_bin rfl rfl (b_add hadd)) rfl ?_
        refine D_only 13 rfl (by kernel_rfl) rfl (op_callBuf (xs := toldS (used + 1)) rfl rfl Try.func68 rfl (by kernel_rfl) rfl (Nat.le_refl _) (fun w' _ => rtold (used + 1) hu1 w') (fun g sp hokg => ?_))
        refine ⟨(by repeat (first | exact Fewer.nil | refine Fewer.keep rfl ?_ | refine Fewer.drop ?_ | exact Fewer.refl _ | exact Fewer.inl _ _ | (simp only [List.append_nil]; first | exact Fewer.inl _ _ | exact Fewer.refl _))), ?_⟩
        refine D_only 14 rfl (by kernel_rfl) rfl (op_callXK (fun _ : QS × Hp => .int .i64 0) (fun t => t.2 ++ refH t.1 (lowL ((s.write at_ (toldS (used + 1)))).left) ((s.write at_ (toldS (used + 1)))).bl) (fun t => t.1.br = q.br ∧ Rel (m + 1) (s.write at_ (toldS (used + 1))) t.1 ∧ ∀ D, q.dat D → t.1.dat (t.2 ++ D)) (Hc := refH q (lowL (s).left) (s).bl) (K := [(g, .cells (bytesV (toldS (used + 1)) ++ sp).toArray 5 (0, 0)), (bc, .cells (rcntC q.br at_ used false).toArray 126 (0, 0))]) rfl rfl Try.func33 rfl (by kernel_rfl) rfl (by first | exact List.Perm.refl _ | (unfold Buf.hp; exact List.Perm.refl _)) (fun w' hm2 hm => (by have e : Buf.val (some (g, sp)) (toldS (used + 1)) = .slice (some ⟨g, 0, none⟩) (toldS (used + 1)).length (Buf.cap (some (g, sp)) (toldS (used + 1))) := (by unfold Buf.val Buf.addr; rfl); show Calls _ _ [.pointer (some ⟨q.br, 0, none⟩), .int .i64 (at_ : Int), Buf.val (some (g, sp)) (toldS (used + 1))].toArray _ _; rw [e]; have hrk := hm2.readsKept (b := g) (xs := bytesV (toldS (used + 1))) (sp := sp) (by repeat (first | exact List.Mem.head _ | apply List.Mem.tail)); rw [bytesV_length] at hrk; have h := rwriteX m (by omega) s q hr at_ hat _ (Buf.cap (some (g, sp)) (toldS (used + 1))) (toldS (used + 1)) htl2 w' hrk hm; rw [hpw, if_neg hne] at h; exact h)) (fun t ht => ?_))
        refine ⟨(by repeat (first | exact Fewer.nil | refine Fewer.keep rfl ?_ | refine Fewer.drop ?_ | exact Fewer.refl _ | exact Fewer.inl _ _ | (simp only [List.append_nil]; first | exact Fewer.inl _ _ | exact Fewer.refl _))), ?_⟩
        refine D_take 15 rfl (by kernel_rfl) (by kernel_rfl) (by kernel_rfl) (by repeat (first | exact calm_body | exact calm_mid | apply calm_noGoto | exact calm_midE | apply calm_then | apply calm_block)) (p_bin rfl rfl (b_neq (by first | assumption | exact bne_iff_ne.2 (by omega) | exact bne_eq_false_iff_eq.2 (by omega) | rfl))) rfl ?_
        refine D_take 16 rfl (by kernel_rfl) (by kernel_rfl) (by kernel_rfl) (by repeat (first | exact calm_body | exact calm_mid | apply calm_noGoto | exact calm_midE | apply calm_then | apply calm_block)) (p_move rfl) rfl ?_
        first | refine D_pass 17 rfl (by kernel_rfl) (by kernel_rfl) (by kernel_rfl) (by repeat (first | exact calm_body | exact calm_mid | apply calm_noGoto | exact calm_midE | apply calm_then | apply calm_block)) rfl rfl rfl rfl ?_ | refine D_pass_undef 17 rfl (by kernel_rfl) (by kernel_rfl) (by kernel_rfl) (by repeat (first | exact calm_body | exact calm_mid | apply calm_noGoto | exact calm_midE | apply calm_then | apply calm_block)) rfl rfl rfl ?_ | refine D_take_guard 17 rfl (by kernel_rfl) (by kernel_rfl) (by kernel_rfl) (by repeat (first | exact calm_body | exact calm_mid | apply calm_noGoto | exact calm_midE | apply calm_then | apply calm_block)) rfl rfl (p_move rfl) rfl ?_
        first | refine D_pass 18 rfl (by kernel_rfl) (by kernel_rfl) (by kernel_rfl) (by repeat (first | exact calm_body | exact calm_mid | apply calm_noGoto | exact calm_midE | apply calm_then | apply calm_block)) rfl rfl rfl rfl ?_ | refine D_pass_undef 18 rfl (by kernel_rfl) (by kernel_rfl) (by kernel_rfl) (by repeat (first | exact calm_body | exact calm_mid | apply calm_noGoto | exact calm_midE | apply calm_then | apply calm_block)) rfl rfl rfl ?_ | refine D_take_guard 18 rfl (by kernel_rfl) (by kernel_rfl) (by kernel_rfl) (by repeat (first | exact calm_body | exact calm_mid | apply calm_noGoto | exact calm_midE | apply calm_then | apply calm_block)) rfl rfl (p_nilCheck rfl) rfl ?_
        first | refine D_pass 19 rfl (by kernel_rfl) (by kernel_rfl) (by kernel_rfl) (by repeat (first | exact calm_body | exact calm_mid | apply calm_noGoto | exact calm_midE | apply calm_then | apply calm_block)) rfl rfl rfl rfl ?_ | refine D_pass_undef 19 rfl (by kernel_rfl) (by kernel_rfl) (by kernel_rfl) (by repeat (first | exact calm_body | exact calm_mid | apply calm_noGoto | exact calm_midE | apply calm_then | apply calm_block)) rfl rfl rfl ?_ | refine D_take_guard 19 rfl (by kernel_rfl) (by kernel_rfl) (by kernel_rfl) (by repeat (first | exact calm_body | exact calm_mid | apply calm_noGoto | exact calm_midE | apply calm_then | apply calm_block)) rfl rfl (by first | exact p_fieldAddr0 rfl fd_almonerref22_Count_0 | exact p_fieldAddr rfl fd_almonerref22_Count_0) rfl ?_
        first | refine D_pass 20 rfl (by kernel_rfl) (by kernel_rfl) (by kernel_rfl) (by repeat (first | exact calm_body | exact calm_mid | apply calm_noGoto | exact calm_midE | apply calm_then | apply calm_block)) rfl rfl rfl rfl ?_ | refine D_pass_undef 20 rfl (by kernel_rfl) (by kernel_rfl) (by kernel_rfl) (by repeat (first | exact calm_body | exact calm_mid | apply calm_noGoto | exact calm_midE | apply calm_then | apply calm_block)) rfl rfl rfl ?_ | refine D_take_guard 20 rfl (by kernel_rfl) (by kernel_rfl) (by kernel_rfl) (by repeat (first | exact calm_body | exact calm_mid | apply calm_noGoto | exact calm_midE | apply calm_then | apply calm_block)) rfl rfl (p_load rfl sc_almonerref05_Disk (by repeat (first | exact List.Mem.head _ | apply List.Mem.tail)) (by rfl)) rfl ?_
        first | refine D_pass 21 rfl (by kernel_rfl) (by kernel_rfl) (by kernel_rfl) (by repeat (first | exact calm_body | exact calm_mid | apply calm_noGoto | exact calm_midE | apply calm_then | apply calm_block)) rfl rfl rfl rfl ?_ | refine D_pass_undef 21 rfl (by kernel_rfl) (by kernel_rfl) (by kernel_rfl) (by repeat (first | exact calm_body | exact calm_mid | apply calm_noGoto | exact calm_midE | apply calm_then | apply calm_block)) rfl rfl rfl ?_ | (refine D_only_guard 21 rfl (by kernel_rfl) rfl rfl rfl (op_callXK (fun _ : QS => .int .i64 0) (fun u => refH u (lowL ((s.write at_ (toldS (used + 1))).sync).left) ((s.write at_ (toldS (used + 1))).sync).bl) (fun u => u.br = t.1.br ∧ Rel (m + 1) (s.write at_ (toldS (used + 1))).sync u ∧ ∀ D, t.1.dat D → u.dat D) (Hc := refH t.1 (lowL ((s.write at_ (toldS (used + 1)))).left) ((s.write at_ (toldS (used + 1)))).bl) (K := [(g, .cells (bytesV (toldS (used + 1)) ++ sp).toArray 5 (0, 0)), (bc, .cells (rcntC q.br at_ used false).toArray 126 (0, 0))] ++ t.2) rfl (by show some [Value.pointer (some ⟨q.br, 0, none⟩)] = some [Value.pointer (some ⟨t.1.br, 0, none⟩)]; rw [ht.1]) Try.func72 rfl (by kernel_rfl) rfl (by rw [List.append_assoc]) (fun w' _ hm => (by have h := rSyncX (m + 1) hm1 (s.write at_ (toldS (used + 1))) t.1 ht.2.1 w' hm; rw [if_neg hb3] at h; exact h)) (fun u hu2 => ?_)); refine ⟨(by repeat (first | exact Fewer.nil | refine Fewer.keep rfl ?_ | refine Fewer.drop ?_ | exact Fewer.refl _ | exact Fewer.inl _ _ | (simp only [List.append_nil]; first | exact Fewer.inl _ _ | exact Fewer.refl _))), ?_⟩)
        first | refine D_pass 22 rfl (by kernel_rfl) (by kernel_rfl) (by kernel_rfl) (by repeat (first | exact calm_body | exact calm_mid | apply calm_noGoto | exact calm_midE | apply calm_then | apply calm_block)) rfl rfl rfl rfl ?_ | refine D_pass_undef 22 rfl (by kernel_rfl) (by kernel_rfl) (by kernel_rfl) (by repeat (first | exact calm_body | exact calm_mid | apply calm_noGoto | exact calm_midE | apply calm_then | apply calm_block)) rfl rfl rfl ?_ | refine D_take_guard 22 rfl (by kernel_rfl) (by kernel_rfl) (by kernel_rfl) (by repeat (first | exact calm_body | exact calm_mid | apply calm_noGoto | exact calm_midE | apply calm_then | apply calm_block)) rfl rfl (p_bin rfl rfl (b_neq (by first | assumption | exact bne_iff_ne.2 (by omega) | exact bne_eq_false_iff_eq.2 (by omega) | rfl))) rfl ?_
        refine D_take 23 rfl (by kernel_rfl) (by kernel_rfl) (by kernel_rfl) (by repeat (first | exact calm_body | exact calm_mid | apply calm_noGoto | exact calm_midE | apply calm_then | apply calm_block)) (by first | exact p_pick_yes rfl rfl | exact p_pick_no rfl rfl | exact p_pick rfl rfl rfl) rfl ?_
        refine D_done (by kernel_rfl) ?_
        exact E_midE (u, t.2) ⟨hu2.1.trans ht.1, hu2.2.1, fun D hD => hu2.2.2 _ (ht.2.2 D hD)⟩ (by repeat (first | exact Sub.nil | refine Sub.cons rfl ?_)) (by rw [List.append_assoc]; exact .drop (.keep rfl (Fewer.refl _)))
      intro t ht
      repeat (first | refine S_scope ?_ | refine S_label ?_ | refine E_noGoto_normal ?_ | refine E_noGoto_ret ?_ | refine E_noGoto_exit ?_ | refine S_yes rfl (by first | with_reducible rfl | decide) ?_ | refine S_no rfl (by first | with_reducible rfl | decide) ?_ | refine S_seq ?_ | refine E_seq ?_ | refine S_block ?_ | refine E_block_normal ?_ | refine S_skip ?_ | refine S_exit ?_ | refine S_ret ?_ | refine E_then_exit ?_ | refine E_then_ret ?_ | refine E_block_ret ?_ | refine E_block_exit ?_ | refine E_block_exit_other rfl ?_)
      refine S_region ?_
      refine R_cons rfl (op_pure (p_move rfl) rfl ?_)
      refine R_cons rfl (op_pure (p_nilCheck rfl) rfl ?_)
      refine R_cons rfl (op_pure (by first | exact p_fieldAddr0 rfl fd_almonerref22_Count_2 | exact p_fieldAddr rfl fd_almonerref22_Count_2) rfl ?_)
      refine R_cons rfl (op_pure (p_load rfl sc_u32 (by repeat (first | exact List.Mem.head _ | apply List.Mem.tail)) (by rfl)) rfl ?_)
      refine R_cons rfl (op_pure (p_bin rfl rfl (b_add hadd)) rfl ?_)
      refine R_cons rfl (op_pure (p_nilCheck rfl) rfl ?_)
      refine R_cons rfl (op_pure (by first | exact p_fieldAddr0 rfl fd_almonerref22_Count_2 | exact p_fieldAddr rfl fd_almonerref22_Count_2) rfl ?_)
      refine R_cons rfl (op_store rfl rfl rfl sc_u32 (by repeat (first | exact At.here | apply At.there)) (by exact Nat.le_of_ble_eq_true rfl) ?_)
      refine R_nil ?_
      repeat (first | refine S_scope ?_ | refine S_label ?_ | refine E_noGoto_normal ?_ | refine E_noGoto_ret ?_ | refine E_noGoto_exit ?_ | refine S_yes rfl (by first | with_reducible rfl | decide) ?_ | refine S_no rfl (by first | with_reducible rfl | decide) ?_ | refine S_seq ?_ | refine E_seq ?_ | refine S_block ?_ | refine E_block_normal ?_ | refine S_skip ?_ | refine S_exit ?_ | refine S_ret ?_ | refine E_then_exit ?_ | refine E_then_ret ?_ | refine E_block_ret ?_ | refine E_block_exit ?_ | refine E_block_exit_other rfl ?_)
      refine S_region ?_
      refine R_cons rfl (op_pure (p_move rfl) rfl ?_)
      refine R_cons rfl (op_pure (p_nilCheck rfl) rfl ?_)
      refine R_cons rfl (op_pure (by first | exact p_fieldAddr0 rfl fd_almonerref22_Count_2 | exact p_fieldAddr rfl fd_almonerref22_Count_2) rfl ?_)
      refine R_cons rfl (op_pure (p_load rfl sc_u32 (by repeat (first | exact List.Mem.head _ | apply List.Mem.tail)) (by rfl)) rfl ?_)
      refine R_cons rfl (op_pure (p_bin rfl rfl (b_sub hsub1)) rfl ?_)
      refine R_cons rfl (op_pure (p_assign rfl) rfl ?_)
      refine R_cons rfl (op_pure (p_assign rfl) rfl ?_)
      refine R_nil ?_
      repeat (first | refine S_scope ?_ | refine S_label ?_ | refine E_noGoto_normal ?_ | refine E_noGoto_ret ?_ | refine E_noGoto_exit ?_ | refine S_yes rfl (by first | with_reducible rfl | decide) ?_ | refine S_no rfl (by first | with_reducible rfl | decide) ?_ | refine S_seq ?_ | refine E_seq ?_ | refine S_block ?_ | refine E_block_normal ?_ | refine S_skip ?_ | refine S_exit ?_ | refine S_ret ?_ | refine E_then_exit ?_ | refine E_then_ret ?_ | refine E_block_ret ?_ | refine E_block_exit ?_ | refine E_block_exit_other rfl ?_)
      exact E_ret2 rfl rfl rfl fun w' hm => ⟨t, rfl, hm, ht⟩
end Go.Proofs.Ytfdlafjifjndeaa
/-
  The statement's play: both disks and both counts, in one memory.
-/
namespace Go.Proofs.Ytfdlafjifjndeaa
open Go.RowKit Go.K
attribute [local irreducible] Exit.then Exit.inBlock Exit.noGoto bodyPost Code.wp QL Sx Rx Qx Ex Dx Op1 Pure1 Still1 K.Sub Calm Code.wpIn
set_option linter.unusedVariables false
theorem opened_le (x : List UInt8) (k : Nat) (h : openedS x = some k) : k ≤ 16 := by
  unfold openedS at h
  split at h
  · cases h; omega
  · split at h
    · rename_i h2
      cases h
      exact h2.1
    · cases h
/-- what opening tells -/
def opn (s : DS) (at_ : Int) : Option Nat × Int :=
  if at_ < 0 ∨ 3 ≤ at_ then (none, 1) else match openedS ((nowOf s.sure s.ws).getD at_.toNat []) with
    | some k => (some k, 0)
    | none => (none, 4)
/-- both counts: the blocks, how many are used, whether it is down -/
abbrev CC := Option (Nat × Nat × Nat × Bool)
def cPtr (c : CC) : Value := .pointer (c.map fun t => (⟨t.1, 0, none⟩ : Addr))
def rPtr (c : CC) : Value := .pointer (c.map fun t => (⟨t.2.1, 0, none⟩ : Addr))
def cHp (c : CC) (bd at_ : Nat) : Hp :=
  match c with
  | none => []
  | some (bc, _, u, dn) => [(bc, .cells (cntC u bd at_ dn).toArray 103 (0, 0))]
def rHp (c : CC) (br at_ : Nat) : Hp :=
  match c with
  | none => []
  | some (_, rc, u, dn) => [(rc, .cells (rcntC br at_ u dn).toArray 126 (0, 0))]
def mkC (o : Option Nat) (b rc : Nat) : CC := o.map fun k => (b, rc, k, false)
def cOk (at_ : Int) (c : CC) : Prop := ∀ t, c = some t → (0 ≤ at_ ∧ at_ < 3) ∧ t.2.2.1 ≤ 16
attribute [local irreducible] digitsB onNat sumU Buf.hp Buf.cap Buf.addr leftS blownS rwV nowOf lastR suV syncQ keptJ keptOf toldS getP openedS lowL secV wsV
theorem opn_ok (s : DS) (at_ : Int) (b rc : Nat) : cOk at_ (mkC (opn s at_).1 b rc) := fun t ht => by
  unfold opn mkC at ht
  split at ht
  · cases ht
  · rename_i h
    split at ht
    · rename_i k hk
      simp only [Option.map_some, Option.some.injEq] at ht
      subst ht
      exact ⟨by omega, opened_le _ _ hk⟩
    · cases ht
theorem rel_mono {m m' : Nat} {s : DS} {q : QS} (h : Rel m s q) (hm : m ≤ m') : Rel m' s q := ⟨⟨h.ok.1, h.ok.2.1, h.ok.2.2.1, h.ok.2.2.2.1, Nat.le_trans h.ok.2.2.2.2 hm⟩, h.lok, h.sure, h.wss⟩
theorem prog_at {B : Nat} {w0 : Base} {H : Hp} {w : World} {p : PS} {s : DS} (hm : Mem B w0 H w) (h1 : ∀ x ∈ progH p s, x ∈ H) :
    w.heap[p.bd]? = some (.cells (diskC (.slice (some ⟨p.bs, 0, none⟩) 3 p.cs) (.slice (some ⟨p.bn, 0, none⟩) 3 p.cn) (wbVal p.wb s.ws) s.left s.bl).toArray 113 (0, 0)) ∧ w.heap[p.bs]? = some (.cells (secV s.sure ++ p.sps).toArray 115 (0, 0)) ∧ w.heap[p.bn]? = some (.cells (secV (nowOf s.sure s.ws) ++ p.spn).toArray 115 (0, 0)) := by
  refine ⟨(hm.own (p.bd, _) (h1 _ ?_)).2, (hm.own (p.bs, _) (h1 _ ?_)).2, (hm.own (p.bn, _) (h1 _ ?_)).2⟩ <;> (unfold progH; simp)
theorem wb_reads {B : Nat} {w0 : Base} {H : Hp} {w : World} {m : Nat} {p : PS} {s : DS} (hok : s.ok m) (hwb : wbOk p.wb s.ws) (hm : Mem B w0 H w) (h1 : ∀ x ∈ progH p s, x ∈ H) :
    ∃ W cw, wbVal p.wb s.ws = .slice W s.ws.length cw ∧ s.ws.length ≤ cw ∧ Reads w W (s.ws.length * 65) (wsV s.ws) := by
  cases hw : p.wb with
  | none =>
    rw [hw] at hwb
    have h0 : s.ws = [] := hwb
    refine ⟨none, 0, by rw [h0]; rfl, by rw [h0]; exact Nat.le_refl 0, ?_⟩
    rw [h0]
    have e : wsV [] = [] := by unfold wsV; rfl
    rw [e]
    exact Reads.nil w
  | some t =>
    obtain ⟨b, cap, sp⟩ := t
    rw [hw] at hwb
    have h2 : w.heap[b]? = some (.cells (wsV s.ws ++ sp).toArray 120 (0, 0)) := (hm.own (b, _) (h1 _ (by unfold progH wbHp; rw [hw]; simp))).2
    have h3 := reads_pre h2
    rw [wsV_length s.ws hok.2.2.1] at h3
    exact ⟨_, cap, rfl, hwb.2.1, h3⟩
theorem now_at {m : Nat} {s : DS} (hok : s.ok m) {i : Nat} (hi : i < 3) : (nowOf s.sure s.ws)[i]? = some ((nowOf s.sure s.ws).getD i []) := by
  have h : (nowOf s.sure s.ws).length = 3 := by rw [nowOf_length]; exact hok.1
  rw [List.getD_eq_getElem?_getD, List.getElem?_eq_getElem (by omega)]
  rfl
/-- the program's count opened -/
theorem copenU (m : Nat) (p : PS) (s : DS) (hok : s.ok m) (at_ : Int) (w : World) (hb : w.heap[p.bd]? = some (.cells (diskC (.slice (some ⟨p.bs, 0, none⟩) 3 p.cs) (.slice (some ⟨p.bn, 0, none⟩) 3 p.cn) (wbVal p.wb s.ws) s.left s.bl).toArray 113 (0, 0))) (hbn : w.heap[p.bn]? = some (.cells (secV (nowOf s.sure s.ws) ++ p.spn).toArray 115 (0, 0))) :
    Calls Try.prog 20 [.pointer (some ⟨p.bd, 0, none⟩), .int .i64 at_].toArray w fun e w' => ∃ b : Nat, e = .returned (Value.tuple ([cPtr (mkC (opn s at_).1 b 0), Value.int .i64 (opn s at_).2] : List Value).toArray) ∧ Mem w.heap.size ⟨w, []⟩ (cHp (mkC (opn s at_).1 b 0) p.bd at_.toNat) w' ∧ True := by
  unfold opn
  by_cases h : at_ < 0 ∨ 3 ≤ at_
  · rw [if_pos h]
    exact (copenArgI p s at_ h w hb).mono fun e w' ⟨he, hbel⟩ => ⟨0, he, (Mem.start w).call (Nat.le_refl _) hbel, trivial⟩
  · rw [if_neg h]
    obtain ⟨i, rfl⟩ : ∃ i : Nat, at_ = (i : Int) := ⟨at_.toNat, by omega⟩
    rw [Int.toNat_natCast]
    have hi : i < 3 := by omega
    have hS := nowOf_secs s.ws hok.2.2.1 s.sure hok.2.1
    have hl : (nowOf s.sure s.ws).length = 3 := by rw [nowOf_length]; exact hok.1
    refine (copen_any p.bd p.bn 3 p.cs p.cn _ _ s.left s.bl (nowOf s.sure s.ws) p.spn hS hl i hi _ (now_at hok hi) w hb hbn).mono ?_
    rintro e w' ⟨v, H', he, hm, hp⟩
    rcases hp with ⟨k, bc, ho, rfl, rfl⟩ | ⟨ho, rfl, rfl⟩
    · rw [ho]; exact ⟨bc, he, hm, trivial⟩
    · rw [ho]; exact ⟨0, he, hm, trivial⟩
/-- .. and the document's -/
theorem ropenU (m : Nat) (hm1 : m ≤ 1000) (s : DS) (q : QS) (hr : Rel m s q) (at_ : Int) (w : World) (hq : q.at_ w (lowL s.left) s.bl) :
    Calls Try.prog 28 [.pointer (some ⟨q.br, 0, none⟩), .int .i64 at_].toArray w fun e w' => ∃ b : Nat, e = .returned (Value.tuple ([rPtr (mkC (opn s at_).1 0 b), Value.int .i64 (opn s at_).2] : List Value).toArray) ∧ Mem w.heap.size ⟨w, []⟩ (rHp (mkC (opn s at_).1 0 b) q.br at_.toNat) w' ∧ True := by
  unfold opn
  by_cases h : at_ < 0 ∨ 3 ≤ at_
  · rw [if_pos h]
    exact (ropen_arg q _ _ at_ h w hq.row).mono fun e w' ⟨he, hbel⟩ => ⟨0, he, (Mem.start w).call (Nat.le_refl _) hbel, trivial⟩
  · rw [if_neg h]
    obtain ⟨i, rfl⟩ : ∃ i : Nat, at_ = (i : Int) := ⟨at_.toNat, by omega⟩
    rw [Int.toNat_natCast]
    have hi : i < 3 := by omega
    refine (ropen q _ _ i hi (Nat.le_trans hr.wn hm1) w hq).mono ?_
    rintro e w' ⟨v, H', he, hm, x, hx, hp⟩
    have hx2 : (nowOf s.sure s.ws).getD i [] = x := by rw [hr.sure, hr.wss, now_at hr.ok hi] at hx; exact Option.some.inj hx
    rw [hx2]
    rcases hp with ⟨k, bc, ho, rfl, rfl⟩ | ⟨ho, rfl, rfl⟩
    · rw [ho]; exact ⟨bc, he, hm, trivial⟩
    · rw [ho]; exact ⟨0, he, hm, trivial⟩
theorem cPtr_mk (o : Option Nat) (b rc : Nat) : cPtr (mkC o b 0) = cPtr (mkC o b rc) := by cases o <;> rfl
theorem rPtr_mk (o : Option Nat) (b rc : Nat) : rPtr (mkC o 0 rc) = rPtr (mkC o b rc) := by cases o <;> rfl
theorem cHp_mk (o : Option Nat) (b rc bd at_ : Nat) : cHp (mkC o b 0) bd at_ = cHp (mkC o b rc) bd at_ := by cases o <;> rfl
theorem rHp_mk (o : Option Nat) (b rc br at_ : Nat) : rHp (mkC o 0 rc) br at_ = rHp (mkC o b rc) br at_ := by cases o <;> rfl
/-- a sector written by the program -/
theorem dwriteX (m : Nat) (hm1 : m ≤ 1000) (p : PS) (s : DS) (hok : s.ok m) (hwb : wbOk p.wb s.ws) (i : Nat) (hi : i < 3) (A : Option Addr) (c : Nat) (x : List UInt8) (hx : x.length ≤ 64) (w : World)
    (hsrc : ∀ w' H', Mem w.heap.size ⟨w, (progH p s).map (·.1)⟩ H' w' → Reads w' A x.length (bytesV x)) (hm : Mem w.heap.size ⟨w, (progH p s).map (·.1)⟩ (progH p s) w) :
    Calls Try.prog 32 [.pointer (some ⟨p.bd, 0, none⟩), .int .i64 (i : Int), .slice A x.length c].toArray w fun e w' => ∃ wb : Option (Nat × Nat × List Value), e = .returned (.int .i64 (if blownS s.left s.bl then 9 else 0)) ∧ Mem w.heap.size ⟨w, (progH p s).map (·.1)⟩ (progH ⟨p.bd, p.bs, p.cs, p.bn, p.cn, p.sps, p.spn, wb⟩ (s.write i (pad x))) w' ∧ wbOk wb (s.write i (pad x)).ws := by
  cases hb : blownS s.left s.bl with
  | true =>
    refine (dwrite_failX m hm1 p s hok hwb i hi A c x hx hb w hsrc hm).mono ?_
    rintro e w' ⟨_, he, hm', _⟩
    have hs : (s.write i (pad x)).ws = s.ws := by unfold DS.write; rw [if_pos hb]
    exact ⟨p.wb, he, hm', by rw [hs]; exact hwb⟩
  | false => exact dwrite_okX m hm1 p s hok hwb i hi A c x hx hb w hsrc hm
theorem perm1 (A X Y : Hp) : (A ++ (X ++ Y)).Perm ((A ++ Y) ++ X) := by
  rw [List.append_assoc]
  exact List.Perm.append_left A List.perm_append_comm
theorem perm2 (A R D X : Hp) : ((A ++ (R ++ D)) ++ X).Perm (((A ++ X) ++ D) ++ R) := by
  have e1 : A ++ (R ++ D) ++ X = A ++ ((R ++ D) ++ X) := List.append_assoc ..
  have e2 : A ++ X ++ D ++ R = A ++ (X ++ (D ++ R)) := by simp only [List.append_assoc]
  rw [e1, e2]
  refine List.Perm.append_left A ((List.perm_append_comm (l₁ := R ++ D) (l₂ := X)).trans (List.Perm.append_left X List.perm_append_comm))
theorem perm3 (A X D ds R : Hp) : (((A ++ X) ++ D) ++ (ds ++ R)).Perm (A ++ (X ++ (R ++ (ds ++ D)))) := by
  rw [List.append_assoc, List.append_assoc]
  refine List.Perm.append_left A (List.Perm.append_left X ?_)
  rw [← List.append_assoc]
  exact (List.perm_append_comm (l₁ := D ++ ds) (l₂ := R)).trans (List.Perm.append_left R List.perm_append_comm)
theorem perm6 (r c Y X : Hp) : (r ++ (c ++ (Y ++ X))).Perm ((c ++ r) ++ (X ++ Y)) := by
  have e1 : r ++ (c ++ (Y ++ X)) = (r ++ c) ++ (Y ++ X) := by simp only [List.append_assoc]
  rw [e1]
  exact List.Perm.append List.perm_append_comm List.perm_append_comm
theorem perm7 (b n r : Nat × Obj) (Q D X : Hp) : (b :: r :: ((Q ++ D) ++ (n :: X))).Perm ((b :: n :: (X ++ D)) ++ (r :: Q)) := by
  refine List.Perm.cons b ?_
  have e1 : r :: ((Q ++ D) ++ (n :: X)) = (r :: Q) ++ (D ++ (n :: X)) := by simp only [List.append_assoc, List.cons_append]
  have e2 : (n :: (X ++ D)) ++ (r :: Q) = ((n :: X) ++ D) ++ (r :: Q) := by simp only [List.cons_append]
  show (r :: ((Q ++ D) ++ (n :: X))).Perm ((n :: (X ++ D)) ++ (r :: Q))
  rw [e1, e2]
  exact List.perm_append_comm.trans (List.Perm.append_right _ List.perm_append_comm)
theorem perm8 (b n r : Nat × Obj) (Q D X ds : Hp) : ((b :: n :: (X ++ D)) ++ (r :: (ds ++ Q))).Perm (b :: n :: r :: (X ++ (Q ++ (ds ++ D)))) := by
  refine List.Perm.cons b (List.Perm.cons n ?_)
  show ((X ++ D) ++ (r :: (ds ++ Q))).Perm (r :: (X ++ (Q ++ (ds ++ D))))
  refine List.perm_middle.trans (List.Perm.cons r ?_)
  have h := perm3 [] X D ds Q
  exact h
theorem src_of {w w1 : World} {A : Option Addr} {n : Nat} {xs : List Value} {K Hc : Hp} (hrd : Reads w A n xs) (hm : Mem w.heap.size ⟨w, []⟩ (K ++ Hc) w1) : ∀ w' H', Mem w1.heap.size ⟨w1, Hc.map (·.1)⟩ H' w' → Reads w' A n xs := fun w' H' hm' => by
  refine (hrd.base hm).other (fun hn b off e => ?_) hm'
  obtain ⟨b2, off2, e2, hb, _⟩ := hrd.2 hn
  rw [e] at e2
  cases e2
  intro hin
  obtain ⟨p, hp, rfl⟩ := List.mem_map.1 hin
  rcases (hm.own p (List.mem_append_right _ hp)).1 with h | h
  · exact absurd hb (Nat.not_lt.2 h)
  · cases h
theorem nextS_used (s : DS) (at_ u : Nat) : (nextS s at_ u).used ≤ u + 1 := by
  unfold nextS
  split
  · exact Nat.le_succ _
  · split
    · exact Nat.le_succ _
    · exact Nat.le_refl _
end Go.Proofs.Ytfdlafjifjndeaa
/-
  What an argument is, out of its reading: slices of structs of a byte, a number, a slice of bools, a number, a byte, a slice of bytes. Plain theorems, over any program.
-/
namespace Go.K
open Go Go.RowKit Go.ChangeShapes Go.WideShapes Go.ChangeAt
structure Deed where
  k : UInt8
  n : Int
  kA : Option Addr
  kc : Nat
  kl : List Bool
  a : Int
  b : UInt8
  bA : Option Addr
  bc : Nat
  bx : List UInt8
def Deed.val (s : Deed) : List Value := [.int .u8 (s.k.toNat : Int), .int .i64 s.n, .slice s.kA s.kl.length s.kc, .int .i64 s.a, .int .u8 (s.b.toNat : Int), .slice s.bA s.bx.length s.bc]
def Deed.ok (w : World) (s : Deed) : Prop := (-9223372036854775808 ≤ s.n ∧ s.n ≤ 9223372036854775807) ∧ (Reads w s.kA s.kl.length (boolsV s.kl) ∧ s.kl.length ≤ s.kc ∧ s.kc ≤ maxLen) ∧ (-9223372036854775808 ≤ s.a ∧ s.a ≤ 9223372036854775807) ∧ (Reads w s.bA s.bx.length (bytesV s.bx) ∧ s.bx.length ≤ s.bc ∧ s.bc ≤ maxLen)
theorem deed_cell (w : World) (s : Deed) (_ : s.ok w) (j : Nat) (hj : j < 6) : ∃ y, s.val[j]? = some y := by
  match j, hj with
  | 0, _ => exact ⟨_, rfl⟩
  | 1, _ => exact ⟨_, rfl⟩
  | 2, _ => exact ⟨_, rfl⟩
  | 3, _ => exact ⟨_, rfl⟩
  | 4, _ => exact ⟨_, rfl⟩
  | 5, _ => exact ⟨_, rfl⟩
section opens
variable {HT : Type} {enc : TypeId × Value → HT} {P : Program} {w : World} {base b0 : Nat} {spare : Nat → Bool} {held : Bool} {r : Reach} {t e u : TypeId} {v : Value} {d : DataW HT} {ps : List MemPlace}
theorem open_deed {n : Nat} {cs : List Value} {x : DataW HT × List MemPlace} {f0 f1 f2 f3 f4 f5 : Field} {ub ui us ul uy : TypeId} (ht : P.underlying e = some (.struct #[f0, f1, f2, f3, f4, f5])) (hub : P.underlying ub = some (.int .u8)) (hui : P.underlying ui = some (.int .i64)) (hus : P.underlying us = some (.slice ul)) (hul : P.underlying ul = some .bool) (huy : P.underlying uy = some (.slice ub))
    (hcb : P.cellsOf ub = 1) (hci : P.cellsOf ui = 1) (hcs : P.cellsOf us = 1) (hcl : P.cellsOf ul = 1) (hcy : P.cellsOf uy = 1) (hce : P.cellsOf e = 6)
    (h0 : (f0.type, f0.offset) = (ub, 0)) (h1 : (f1.type, f1.offset) = (ui, 1)) (h2 : (f2.type, f2.offset) = (us, 2)) (h3 : (f3.type, f3.offset) = (ui, 3)) (h4 : (f4.type, f4.offset) = (ub, 4)) (h5 : (f5.type, f5.offset) = (uy, 5))
    (h : DataW.trod enc P w base spare held n e cs = some x) : ∃ s : Deed, cs = s.val ∧ s.ok w := by
  obtain ⟨ys, m, _, _, hl, hy, hg⟩ := DataW.trod_struct ht h
  simp only [Prod.mk.injEq] at h0 h1 h2 h3 h4 h5
  obtain ⟨x0, r0⟩ := fld (i := 0) (o := 0) (s := 1) (ty := ub) hg hy rfl h0.2 h0.1 hcb
  obtain ⟨x1, r1⟩ := fld (i := 1) (o := 1) (s := 1) (ty := ui) hg hy rfl h1.2 h1.1 hci
  obtain ⟨x2, r2⟩ := fld (i := 2) (o := 2) (s := 1) (ty := us) hg hy rfl h2.2 h2.1 hcs
  obtain ⟨x3, r3⟩ := fld (i := 3) (o := 3) (s := 1) (ty := ui) hg hy rfl h3.2 h3.1 hci
  obtain ⟨x4, r4⟩ := fld (i := 4) (o := 4) (s := 1) (ty := ub) hg hy rfl h4.2 h4.1 hcb
  obtain ⟨x5, r5⟩ := fld (i := 5) (o := 5) (s := 1) (ty := uy) hg hy rfl h5.2 h5.1 hcy
  obtain ⟨a0, e0⟩ := open_u8 hub r0
  obtain ⟨a1, e1, b1⟩ := open_i64 hui r1
  obtain ⟨A, c, l, e2, hr, _, k3, k4⟩ := open_rows (fun b : Bool => [Value.bool b]) (fun _ => True) (by decide) (fun _ _ => rfl) hus hcl (fun n cs x hx => open_bool hul hx) bool_cell r2
  rw [Nat.mul_one] at hr
  obtain ⟨a3, e3, b3⟩ := open_i64 hui r3
  obtain ⟨a4, e4⟩ := open_u8 hub r4
  obtain ⟨A2, c2, bx, e5, hr2, k5, k6⟩ := open_bytes huy hub hcb r5
  exact ⟨⟨a0, a1, A, c, l, a3, a4, A2, c2, bx⟩, part_all (part_cons e0 (part_cons e1 (part_cons e2 (part_cons e3 (part_cons e4 (part_last e5 (by rw [hl, hce]))))))), b1, ⟨hr, k3, k4⟩, b3, hr2, k5, k6⟩
/-- A slice of such. -/
theorem arg_deeds {ub ui us ul uy : TypeId} {f0 f1 f2 f3 f4 f5 : Field} (ht : P.underlying t = some (.slice e)) (hte : P.underlying e = some (.struct #[f0, f1, f2, f3, f4, f5])) (hub : P.underlying ub = some (.int .u8)) (hui : P.underlying ui = some (.int .i64)) (hus : P.underlying us = some (.slice ul)) (hul : P.underlying ul = some .bool) (huy : P.underlying uy = some (.slice ub))
    (hcb : P.cellsOf ub = 1) (hci : P.cellsOf ui = 1) (hcs : P.cellsOf us = 1) (hcl : P.cellsOf ul = 1) (hcy : P.cellsOf uy = 1) (hce : P.cellsOf e = 6)
    (h0 : (f0.type, f0.offset) = (ub, 0)) (h1 : (f1.type, f1.offset) = (ui, 1)) (h2 : (f2.type, f2.offset) = (us, 2)) (h3 : (f3.type, f3.offset) = (ui, 3)) (h4 : (f4.type, f4.offset) = (ub, 4)) (h5 : (f5.type, f5.offset) = (uy, 5))
    (hv : Value.okWide P w r b0 t v) (h : DataW.Trod enc P w base spare held t v d ps) :
    ∃ (A : Option Addr) (c : Nat) (l : List Deed), v = .slice A l.length c ∧ Reads w A (l.length * 6) (l.flatMap Deed.val) ∧ (∀ s ∈ l, s.ok w) ∧ l.length ≤ c ∧ c ≤ maxLen :=
  arg_rows Deed.val (Deed.ok w) (by decide) (fun _ _ => rfl) ht hce (fun n cs x hx => open_deed hte hub hui hus hul huy hcb hci hcs hcl hcy hce h0 h1 h2 h3 h4 h5 hx) (deed_cell w) hv h
end opens
end Go.K
