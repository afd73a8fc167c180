/-
  More operations: minus, complement, a byte of a text, copy, a cut of an array that lies in memory; numbers of 32 bits as such.
-/
import Derived.Test.YtfdlafjifjndeaaK6
import Derived.Laws.IdiomCopy
namespace Go.K
open Go Go.RowKit
variable {P : Program} {B : Nat} {w0 : Base} {N : Nat} {D : List Deferred} {env : Env} {H : Hp} {T : Env → Hp → Prop} {ty : TypeId} {pos : String} {after : Array Edge} {g : Option (Nat × Bool)} {dst : Option Nat}

theorem p_neg {t : TypeId} {x : Operand} {k : IntKind} {m r : Int} (hx : look env x = some (.int k m)) (h : k.wrap (0 - m) = r) : Pure1 P B w0 N D ⟨dst, .unOp .neg t x, ty, pos, after, g⟩ env H (.int k r) := fun a w hf _ => by
  simp [execOp, hf.eval hx, Op.unary, Op.intArith]
  rw [← h]; simp
theorem p_compl {t : TypeId} {x : Operand} {k : IntKind} {m r : Int} (hx : look env x = some (.int k m)) (h : bits .xor k (if k.signed then -1 else k.max) m = r) : Pure1 P B w0 N D ⟨dst, .unOp .xor t x, ty, pos, after, g⟩ env H (.int k r) := fun a w hf _ => by
  simp only [execOp, hf.eval hx, Op.unary, Sem.run_bind, intBits_xor, h, Sem.run_pure, Result.andThen_ok]
theorem k32_not (x : UInt32) : bits .xor .u32 (if IntKind.u32.signed then -1 else IntKind.u32.max) (x.toNat : Int) = ((~~~x).toNat : Int) := by
  have h1 : (if IntKind.u32.signed then -1 else IntKind.u32.max) = ((0xffffffff : UInt32).toNat : Int) := by decide
  rw [h1, k32_xor]
  congr 2
theorem k8_not (x : UInt8) : bits .xor .u8 (if IntKind.u8.signed then -1 else IntKind.u8.max) (x.toNat : Int) = ((~~~x).toNat : Int) := by
  have h1 : (if IntKind.u8.signed then -1 else IntKind.u8.max) = ((0xff : UInt8).toNat : Int) := by decide
  rw [h1, k8_xor]
  congr 2
theorem k8_xor_lit {m : Int} (c x : UInt8) (hm : m = (c.toNat : Int)) : bits .xor .u8 (x.toNat : Int) m = ((x ^^^ c).toNat : Int) := by rw [hm]; exact k8_xor x c
theorem k8_sub (x y : UInt8) : IntKind.u8.wrap ((x.toNat : Int) - (y.toNat : Int)) = ((x - y).toNat : Int) := by
  rw [IntKind.wrap_u8, UInt8.toNat_sub]; have := b_lt x; have := b_lt y; omega
theorem k8_sub_lit {m : Int} (c x : UInt8) (hm : m = (c.toNat : Int)) : IntKind.u8.wrap ((x.toNat : Int) - m) = ((x - c).toNat : Int) := by rw [hm]; exact k8_sub x c
theorem k32_mul (x y : UInt32) : IntKind.u32.wrap ((x.toNat : Int) * (y.toNat : Int)) = ((x * y).toNat : Int) := by
  rw [IntKind.wrap_u32, UInt32.toNat_mul, ← Int.natCast_mul]; omega
theorem k32_mul_lit {m : Int} (c x : UInt32) (hm : m = (c.toNat : Int)) : IntKind.u32.wrap (m * (x.toNat : Int)) = ((c * x).toNat : Int) := by rw [hm]; exact k32_mul c x
theorem k32_add_lit {m : Int} (c x : UInt32) (hm : m = (c.toNat : Int)) : IntKind.u32.wrap ((x.toNat : Int) + m) = ((x + c).toNat : Int) := by rw [hm]; exact k32_add x c

theorem p_eql_bytesR {t e yT : TypeId} {n : Nat} {x y : Operand} {xs ys : List UInt8} {r : Bool} (hx : look env x = some (.agg (bytesV xs).toArray)) (hy : look env y = some (.agg (bytesV ys).toArray))
    (ht : P.underlying t = some (.array n e)) (he : P.underlying e = some (.int .u8)) (hs : (P.info? e).map (·.size) = some 1) (hgd : P.eqGuardType P.depth t = false) (hxl : xs.length = n) (hyl : ys.length = n) (hr : (xs == ys) = r) :
    Pure1 P B w0 N D ⟨dst, .binOp .eql t x y yT, ty, pos, after, g⟩ env H (.bool r) := by subst hr; exact p_eql_bytes hx hy ht he hs hgd hxl hyl
theorem p_neq_bytesR {t e yT : TypeId} {n : Nat} {x y : Operand} {xs ys : List UInt8} {r : Bool} (hx : look env x = some (.agg (bytesV xs).toArray)) (hy : look env y = some (.agg (bytesV ys).toArray))
    (ht : P.underlying t = some (.array n e)) (he : P.underlying e = some (.int .u8)) (hs : (P.info? e).map (·.size) = some 1) (hgd : P.eqGuardType P.depth t = false) (hxl : xs.length = n) (hyl : ys.length = n) (hr : (!(xs == ys)) = r) :
    Pure1 P B w0 N D ⟨dst, .binOp .neq t x y yT, ty, pos, after, g⟩ env H (.bool r) := by subst hr; exact p_neq_bytes hx hy ht he hs hgd hxl hyl
theorem not_self {xs : List UInt8} : (!(xs == xs)) = false := by simp
/-- a byte of a text -/
theorem p_indexStr {t : TypeId} {x i : Operand} {k : IntKind} {m : Int} {s : ByteArray} {j : Nat} {b : UInt8} (hx : look env x = some (.string s)) (hi : look env i = some (.int k m)) (hj : m = (j : Int)) (ht : P.underlying t = some .string) (hb : s[j]? = some b) :
    Pure1 P B w0 N D ⟨dst, .index t x i, ty, pos, after, g⟩ env H (.int .u8 (b.toNat : Int)) := fun a w hf _ => by
  subst hj
  simp [execOp, hf.eval hx, hf.eval hi, Instr.index, asIntOf, run_underlying ht, hb]

/-- x[l:] of an array that lies in memory. -/
theorem p_sliceArrFrom {t e : TypeId} {x lo : Operand} {b off len l : Nat} {k : IntKind} {m : Int} (hx : look env x = some (.pointer (some ⟨b, off, none⟩))) (hlo : look env lo = some (.int k m)) (hm : m = (l : Int)) (ha : Arr P t len e) (hle : l < len) :
    Pure1 P B w0 N D ⟨dst, .slice t x (some lo) none none, ty, pos, after, g⟩ env H (.slice (some ⟨b, off + l, none⟩) (len - l) (len - l)) := fun a w hf _ => by
  subst hm
  obtain ⟨ht, _, _, _, hs⟩ := ha
  have h2 : ((l : Int) ≤ (len : Int)) := by omega
  have h3 : ¬ (len = l) := by omega
  simp [execOp, hf.eval hx, hf.eval hlo, Instr.sliceAt, run_underlying ht, Instr.sureAddr, sizeOf_ok hs, Instr.sliceBounds, Instr.sliceBound, asIntOf, Addr.add_mid, show l ≤ len by omega, h3]

theorem p_loadPart {t : TypeId} {x : Operand} {b off n : Nat} {cs xs : List Value} {et : TypeId} {fr : Nat × Nat} (hx : look env x = some (.pointer (some ⟨b, off, none⟩))) (hrow : Row P t n)
    (hH : (b, Obj.cells cs.toArray et fr) ∈ H) (hl : off + n ≤ cs.length) (hxs : (cs.drop off).take n = xs) : Pure1 P B w0 N D ⟨dst, .load t x, ty, pos, after, g⟩ env H (.agg xs.toArray) := by
  subst hxs; exact p_loadMid hx hrow hH hl

/-- copy into a row that is known; both may not be the same. -/
theorem op_copy {d : Nat} {t u e : TypeId} {x y : Operand} {b off dn dc sn sc n : Nat} {A : Option Addr} {cs xs : List Value} {et : TypeId} {H' : Hp} (hx : look env x = some (.slice (some ⟨b, off, none⟩) dn dc)) (hy : look env y = some (.slice A sn sc))
    (ht : Slc P t e) (hn : min sn dn = n) (hsrc : ∀ w, Mem B w0 H w → Reads w A sn xs) (h1 : ∀ v ∈ xs, v.oneCell' = true)
    (hat : At H b (.cells cs.toArray et (0, 0)) (.cells (lay cs off (xs.take n)).toArray et (0, 0)) H') (hlt : off + n ≤ cs.length) (hd : Nat.blt d N = true) (h : T ((d, .int .i64 (n : Int)) :: env) H') :
    Op1 P B w0 N D ⟨some d, .call { callee := .builtin .copy, args := #[x, y], argTypes := #[t, u] }, ty, pos, after, g⟩ env H T := fun K Q hT a w hf hm => by
  obtain ⟨htu, _, _, _, hs⟩ := ht
  have hb := hm.at_ hat
  have hrd := hsrc w hm
  have key : (Builtin.copy_ #[t, u] ty #[.slice (some ⟨b, off, none⟩) dn dc, .slice A sn sc]).run P w = .ok (goInt n) (w.setCells b off (xs.take n)) := by
    by_cases hn0 : n = 0
    · subst hn0
      rw [List.take_zero]
      exact run_copy_none w t u ty e _ _ _ _ _ _ htu hs hn
    · obtain ⟨b2, o2, rfl, _, hc2⟩ := hrd.2 (by omega)
      have hlen : (xs.take n).length = n := by rw [List.length_take, hrd.1]; omega
      have := run_copy_cells (P := P) w t u ty e b off dn dc ⟨b2, o2, none⟩ sn sc (xs.take n) htu hs (by rw [hlen]; exact hn.symm) (fun j v hv => by
          rw [Addr.add_mid]
          refine hc2 j v ?_
          rcases Nat.lt_or_ge j n with hj | hj
          · rwa [List.getElem?_take_of_lt hj] at hv
          · rw [List.getElem?_eq_none (by omega)] at hv; cases hv)
        (fun j hj => by rw [cell_of_row w b _ _ _ _ hb]; simp; omega) (fun j hj => frozen_of_row w b _ _ _ hb) (fun v hv => h1 v (List.mem_of_mem_take hv))
      rw [hlen] at this
      exact this
  have hrun : (execOp a.eval ⟨some d, .call { callee := .builtin .copy, args := #[x, y], argTypes := #[t, u] }, ty, pos, after, g⟩).run P w = .ok (.value (.int .i64 (n : Int))) (w.setCells b off (xs.take n)) := by
    simp [execOp, resolve, hf.eval hx, hf.eval hy, invoke, builtin, key, goInt]
  unfold Oper.wp
  rw [hrun]
  exact hT _ _ h _ _ (hf.put hd _) (Mem.lay _ _ _ _ _ off hm hat)

/-- A callee that turns one block that is known. -/
theorem Mem.turned {w w' : World} {H' : Hp} {b : Nat} {o o' : Obj} (m : Mem B w0 H w) (hat : At H b o o' H') (hc : Mem w.heap.size ⟨w, [b]⟩ [(b, o')] w') : Mem B w0 H' w' :=
  m.turn hat hc.chg.os hc.chg.tape hc.chg.output hc.chg.size (hc.own _ (.head _)).2 fun k hk hne => hc.chg.block k hk (by simpa using hne)
theorem Mem.one {w : World} {b : Nat} {o : Obj} (h : w.heap[b]? = some o) : Mem w.heap.size ⟨w, [b]⟩ [(b, o)] w :=
  ⟨Nat.le_refl _, Chg.refl _ _ _, fun p hp => by rw [List.mem_singleton] at hp; subst hp; exact ⟨.inr (by simp), h⟩, List.pairwise_singleton _ _⟩
end Go.K
