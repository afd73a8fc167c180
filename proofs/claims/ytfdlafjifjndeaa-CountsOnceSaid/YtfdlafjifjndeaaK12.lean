/-
  append(x, make([]byte, n)...), where x lies in a block of the call's own.
-/
import Derived.Test.YtfdlafjifjndeaaK11
import Derived.Lib.AppendZerosOnto
namespace Go.K
open Go Go.RowKit
variable {P : Program} {B : Nat} {w0 : Base} {N : Nat} {D : List Deferred} {env : Env} {H : Hp} {T : Env → Hp → Prop} {ty : TypeId} {pos : String} {after : Array Edge} {gd : Option (Nat × Bool)}
theorem zeros_cells (n : Nat) : Builtin.zeroCells (Value.int .u8 0).cells n = (bytesV (List.replicate n 0)).toArray := by
  unfold Builtin.zeroCells
  apply Array.ext_getElem?
  intro i
  have hc : (Value.int .u8 0).cells = #[.int .u8 0] := rfl
  by_cases h : i < n
  · simp [hc, h, Nat.mod_one, bytesV, bv]
  · simp [hc, h, bytesV, Array.getElem?_eq_none]
theorem del_at {H Hr : Hp} {b : Nat} {o : Obj} (h : Del H b o Hr) (o' : Obj) : ∃ H', At H b o o' H' ∧ H'.Perm (Hr ++ [(b, o')]) := by
  induction h with
  | here => exact ⟨_, .here, (List.perm_append_comm (l₁ := [_]) (l₂ := _))⟩
  | @there H Hr x b o h ih =>
    obtain ⟨H', h1, h2⟩ := ih
    exact ⟨_, .there h1, h2.cons x⟩
theorem op_appendZeros {d : Nat} {t tn e : TypeId} {x y : Operand} {b : Nat} {sp : List Value} {xs : List UInt8} {k kn : IntKind} {n : Nat} {m : Int} {Hr : Hp} (hx : look env x = some (Buf.val (some (b, sp)) xs)) (hy : look env y = some (.int k m)) (hmn : m = (n : Int))
    (ht : P.underlying t = some (.slice e)) (htn : P.underlying tn = some (.int kn)) (he : El P e (.int .u8 0) 1) (hdel : Del H b (.cells (bytesV xs ++ sp).toArray e (0, 0)) Hr) (hok : Buf.ok (some (b, sp)) xs) (h63 : xs.length + n ≤ 70368744177664) (hd : Nat.blt d N = true) (hB : B ≤ w0.w.heap.size)
    (h : ∀ u' : Buf, u'.ok (xs ++ List.replicate n 0) → u' ≠ none → T ((d, u'.val (xs ++ List.replicate n 0)) :: env) (Hr ++ u'.hp e (xs ++ List.replicate n 0))) :
    Op1 P B w0 N D ⟨some d, .call { callee := .builtin .append, args := #[x, y], argTypes := #[t, tn] }, ty, pos, after, gd⟩ env H T := by
  subst hmn
  refine Op1.perm (T := T) fun K Q hT a w hf hm => ?_
  obtain ⟨i, hi, hz, hs, hb, hzc⟩ := he
  have hok : xs.length + sp.length ≤ maxLen := hok
  have hx' : look env x = some (.slice (some ⟨b, 0, none⟩) xs.length (xs.length + sp.length)) := hx
  have hbo := (hm.own _ hdel.mem).2
  have hsz : (sizeOf e).run P w = .ok 1 w := sizeOf_ok (by rw [hi]; simp [hs]) w
  have hw : IntKind.i64.wrap (n : Int) = n := by rw [IntKind.wrap_i64]; omega
  have hneg : ¬ ((n : Int) < 0) := by omega
  have hzl : (bytesV (List.replicate n 0)).length = n := by simp [bytesV]
  unfold Oper.wp
  by_cases hroom : n ≤ sp.length
  · have hneed : xs.length + n ≤ xs.length + sp.length := by omega
    have h48 : ¬ (281474976710656 < (n : Int) * (i.bytes : Int)) := by rw [hb]; omega
    have hst := run_storeCells_cells (P := P) b xs.length (bytesV (List.replicate n 0)) 0 w (fun j hj => by rw [cell_of_row w b _ _ _ _ hbo]; simp [bytesV_length] at hj ⊢; omega) (fun j hj => frozen_of_row w b _ _ _ hbo) (bytesV_one _)
    have hrun : (Builtin.append_ #[t, tn] ty #[.slice (some ⟨b, 0, none⟩) xs.length (xs.length + sp.length), .int k n]).run P w = .ok (.slice (some ⟨b, 0, none⟩) (xs.length + n) (xs.length + sp.length)) (w.setCells b xs.length (bytesV (List.replicate n 0))) := by
      by_cases hn0 : n = 0
      · subst hn0
        simp [Builtin.append_, run_underlying ht, run_underlying htn, sizeOf, typeInfo, hi, hs, asInt, asIntOf, IntKind.wrap_i64, storeCells, bytesV, World.setCells]
      · have hns : ¬ (n * 1 = 0) := by omega
        simp only [Builtin.append_, Sem.run_bind]
        simp [Builtin.append_, run_underlying ht, run_underlying htn, sizeOf, typeInfo, zeroValue, hi, hs, hz, asInt, asIntOf, hw, hneg, h48, hneed, hroom, hn0, zeros_cells, Addr.add_mid, hst]
    have hrun2 : (execOp a.eval ⟨some d, .call { callee := .builtin .append, args := #[x, y], argTypes := #[t, tn] }, ty, pos, after, gd⟩).run P w = .ok (.value (.slice (some ⟨b, 0, none⟩) (xs.length + n) (xs.length + sp.length))) (w.setCells b xs.length (bytesV (List.replicate n 0))) := by
      simp [execOp, resolve, hf.eval hx', hf.eval hy, invoke, builtin, hrun]
    rw [hrun2]
    have hlay : lay (bytesV xs ++ sp) xs.length (bytesV (List.replicate n 0)) = bytesV (xs ++ List.replicate n 0) ++ sp.drop n := by
      rw [lay_eq _ _ _ (by simp [bytesV_length]; omega), hzl, List.take_append_of_le_length (by rw [bytesV_length]; exact Nat.le_refl _), List.take_of_length_le (by rw [bytesV_length]; exact Nat.le_refl _), bytesV_append]
      congr 1
      rw [List.drop_append, List.drop_eq_nil_of_le (by rw [bytesV_length]; omega), bytesV_length, List.nil_append]
      congr 1
      omega
    obtain ⟨H', hat, hperm⟩ := del_at hdel (.cells (lay (bytesV xs ++ sp) xs.length (bytesV (List.replicate n 0))).toArray e (0, 0))
    have h1 := h (some (b, sp.drop n)) (by show (xs ++ List.replicate n 0).length + (sp.drop n).length ≤ maxLen; simp; omega) (by simp)
    have hc : Buf.cap (some (b, sp.drop n)) (xs ++ List.replicate n 0) = xs.length + sp.length := by show (xs ++ List.replicate n 0).length + (sp.drop n).length = _; simp; omega
    have hv : Buf.val (some (b, sp.drop n)) (xs ++ List.replicate n 0) = .slice (some ⟨b, 0, none⟩) (xs.length + n) (xs.length + sp.length) := by unfold Buf.val; rw [hc]; simp [Buf.addr]
    rw [hv] at h1
    refine hT _ _ ⟨_, ?_, h1⟩ _ _ (hf.put hd _) (Mem.lay _ _ _ _ _ xs.length hm hat)
    rw [hlay] at hperm
    exact hperm
  · have hloads : (Builtin.firstCells i.size xs.length (.slice (some ⟨b, 0, none⟩) xs.length (xs.length + sp.length))).run P w.drew = .ok (bytesV xs).toArray w.drew := by
      have := run_loadCells_list (P := P) w.drew ⟨b, 0, none⟩ (bytesV xs) (fun j v hv => by
        rw [Addr.add_mid, Nat.zero_add]
        show w.cell? ⟨b, j, none⟩ = some v
        rw [cell_of_row w b _ _ _ _ hbo]
        have hj : j < (bytesV xs).length := by
          rcases Nat.lt_or_ge j (bytesV xs).length with h | h
          · exact h
          · rw [List.getElem?_eq_none h] at hv; cases hv
        simp [List.getElem?_append_left hj, hv])
      rw [bytesV_length] at this
      simpa [Builtin.firstCells, hs] using this
    have hr := Lib.run_append_grow_zeros (P := P) w t tn ty e i (.int .u8 0) k kn ht htn hi hz (some ⟨b, 0, none⟩) xs.length (xs.length + sp.length) (bytesV xs) hloads n (by omega) (by omega) (by omega) (by omega) (by rw [hb]; omega) (by rw [hb]; exact growslice_fits (by omega) (by omega))
    have hrun2 : (execOp a.eval ⟨some d, .call { callee := .builtin .append, args := #[x, y], argTypes := #[t, tn] }, ty, pos, after, gd⟩).run P w = .ok (.value (.slice (some ⟨w.heap.size, 0, none⟩) (xs.length + n) (grownCap w (xs.length + n) (xs.length + sp.length) e))) (w.drew.alloc (.cells ((bytesV xs).toArray ++ Builtin.zeroCells (Value.int .u8 0).cells n ++ Builtin.zeroCells (Value.int .u8 0).cells (grownCap w (xs.length + n) (xs.length + sp.length) e - (xs.length + n))) e)) := by
      simp [execOp, resolve, hf.eval hx', hf.eval hy, invoke, builtin, hr]
    rw [hrun2]
    have hge := grownCap_ge w (xs.length + n) (xs.length + sp.length) e
    have hle := grownCap_le_maxLen w (xs.length + n) (xs.length + sp.length) e (by unfold maxLen; omega)
    generalize grownCap w (xs.length + n) (xs.length + sp.length) e = gc at hge hle
    have h1 := h (some (w.heap.size, bytesV (List.replicate (gc - (xs.length + n)) 0))) (by show (xs ++ List.replicate n 0).length + (bytesV _).length ≤ maxLen; simp [bytesV_length]; omega) (by simp)
    have hc : Buf.cap (some (w.heap.size, bytesV (List.replicate (gc - (xs.length + n)) 0))) (xs ++ List.replicate n 0) = gc := by show (xs ++ List.replicate n 0).length + (bytesV _).length = _; simp [bytesV_length]; omega
    have hv : Buf.val (some (w.heap.size, bytesV (List.replicate (gc - (xs.length + n)) 0))) (xs ++ List.replicate n 0) = .slice (some ⟨w.heap.size, 0, none⟩) (xs.length + n) gc := by unfold Buf.val; rw [hc]; simp [Buf.addr]
    rw [hv] at h1
    refine hT _ _ ⟨_, ?_, h1⟩ _ _ (hf.put hd _) ((hm.del hdel).drew.alloc hB _)
    rw [zeros_cells, zeros_cells]
    simp only [Buf.hp, bytesV_append, List.append_toArray]
    exact (List.perm_append_comm (l₁ := [_]) (l₂ := Hr))
/-- append(nil, make([]byte, n)...) -/
theorem op_appendZerosNil {d : Nat} {t tn e : TypeId} {x y : Operand} {k kn : IntKind} {n : Nat} {m : Int} (hx : look env x = some (.slice none 0 0)) (hy : look env y = some (.int k m)) (hmn : m = (n : Int)) (hn0 : 0 < n)
    (ht : P.underlying t = some (.slice e)) (htn : P.underlying tn = some (.int kn)) (he : El P e (.int .u8 0) 1) (h63 : n ≤ 70368744177664) (hd : Nat.blt d N = true) (hB : B ≤ w0.w.heap.size)
    (h : ∀ b cap sp, n + sp.length = cap → cap ≤ maxLen → T ((d, .slice (some ⟨b, 0, none⟩) n cap) :: env) ((b, .cells (bytesV (List.replicate n 0) ++ sp).toArray e (0, 0)) :: H)) :
    Op1 P B w0 N D ⟨some d, .call { callee := .builtin .append, args := #[x, y], argTypes := #[t, tn] }, ty, pos, after, gd⟩ env H T := fun K Q hT a w hf hm => by
  subst hmn
  obtain ⟨i, hi, hz, hs, hb, hzc⟩ := he
  have hr := Lib.run_append_nil_zeros (P := P) w t tn ty e i (.int .u8 0) k kn ht htn hi hz n hn0 (by omega) (by omega) (by rw [hb]; omega)
  have hrun2 : (execOp a.eval ⟨some d, .call { callee := .builtin .append, args := #[x, y], argTypes := #[t, tn] }, ty, pos, after, gd⟩).run P w = .ok (.value (.slice (some ⟨w.heap.size, 0, none⟩) n (grownCap w n 0 e))) (w.drew.alloc (.cells (Builtin.zeroCells (Value.int .u8 0).cells n ++ Builtin.zeroCells (Value.int .u8 0).cells (grownCap w n 0 e - n)) e)) := by
    simp [execOp, resolve, hf.eval hx, hf.eval hy, invoke, builtin, hr]
  unfold Oper.wp
  rw [hrun2]
  have hge := grownCap_ge w n 0 e
  have hle := grownCap_le_maxLen w n 0 e (by unfold maxLen; omega)
  generalize grownCap w n 0 e = gc at hge hle
  rw [zeros_cells, zeros_cells, List.append_toArray]
  exact hT _ _ (h w.heap.size gc (bytesV (List.replicate (gc - n) 0)) (by simp [bytesV_length]; omega) hle) _ _ (hf.put hd _) (hm.drew.alloc hB _)
end Go.K
