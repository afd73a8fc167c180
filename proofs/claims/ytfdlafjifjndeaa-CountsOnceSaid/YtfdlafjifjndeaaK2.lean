/-
  The operations, one law each, for the calculus of the first text. Plain theorems, over any program.
-/
import Derived.Test.YtfdlafjifjndeaaK1
import Derived.Stop.BytesEq
import Derived.ChangeKeysEq
namespace Go.K
open Go.RowKit

/-- A byte, a number of 32 bits, of 64 bits, as values; a natural number as an int. -/
def bv (b : UInt8) : Value := .int .u8 (b.toNat : Int)
def wv (x : UInt32) : Value := .int .u32 (x.toNat : Int)
def bytesV (xs : List UInt8) : List Value := xs.map bv
def wordsV (xs : List UInt32) : List Value := xs.map wv
theorem bytesV_length (xs : List UInt8) : (bytesV xs).length = xs.length := by simp [bytesV]
theorem wordsV_length (xs : List UInt32) : (wordsV xs).length = xs.length := by simp [wordsV]
theorem bytesV_get {xs : List UInt8} {j : Nat} (h : j < xs.length) : (bytesV xs)[j]? = some (.int .u8 ((xs.getD j 0).toNat : Int)) := by
  simp [bytesV, h, bv]
theorem wordsV_get {xs : List UInt32} {j : Nat} (h : j < xs.length) : (wordsV xs)[j]? = some (.int .u32 ((xs.getD j 0).toNat : Int)) := by
  simp [wordsV, h, wv]
theorem bytesV_append (xs ys : List UInt8) : bytesV (xs ++ ys) = bytesV xs ++ bytesV ys := by simp [bytesV]
theorem bytesV_set (xs : List UInt8) (j : Nat) (b : UInt8) : (bytesV xs).set j (.int .u8 (b.toNat : Int)) = bytesV (xs.set j b) := by
  rw [bytesV, bytesV, List.map_set]; rfl
theorem wordsV_set (xs : List UInt32) (j : Nat) (b : UInt32) : (wordsV xs).set j (.int .u32 (b.toNat : Int)) = wordsV (xs.set j b) := by
  rw [wordsV, wordsV, List.map_set]; rfl

theorem ones_nil : ∀ u ∈ ([] : List Value), u.oneCell' = true := fun _ h => (by cases h)
theorem ones_cons {v : Value} {r : List Value} (h : v.oneCell' = true) (hs : ∀ u ∈ r, u.oneCell' = true) : ∀ u ∈ v :: r, u.oneCell' = true := fun u hu => by
  rcases List.mem_cons.1 hu with rfl | hu
  · exact h
  · exact hs u hu
theorem bytesV_one (xs : List UInt8) : ∀ v ∈ bytesV xs, v.oneCell' = true := by
  intro v hv
  obtain ⟨b, _, rfl⟩ := List.mem_map.1 hv
  rfl
theorem wordsV_one (xs : List UInt32) : ∀ v ∈ wordsV xs, v.oneCell' = true := by
  intro v hv
  obtain ⟨b, _, rfl⟩ := List.mem_map.1 hv
  rfl

/-! ### Types -/
section types
variable {P : Program}
theorem sizeOf_ok {t : TypeId} {n : Nat} (h : (P.info? t).map (·.size) = some n) (w : World) : (sizeOf t).run P w = .ok n w := by
  unfold sizeOf
  cases hq : P.info? t with
  | none => simp [hq] at h
  | some i =>
    have : i.size = n := by simpa [hq] using h
    simp [typeInfo, hq, this]
theorem isAgg_no {t : TypeId} {d : TypeDesc} (h : P.underlying t = some d) (hd : d.isRow = false) (w : World) : (isAgg t).run P w = .ok false w := by
  unfold isAgg
  rw [Sem.run_bind, run_underlying h w]
  cases d <;> simp_all
theorem isAgg_yes {t : TypeId} {d : TypeDesc} (h : P.underlying t = some d) (hd : d.isRow = true) (w : World) : (isAgg t).run P w = .ok true w := by
  unfold isAgg
  rw [Sem.run_bind, run_underlying h w]
  cases d <;> simp_all
end types

/-- What a type is, as the operations ask it. -/
def Sc (P : Program) (t : TypeId) : Prop := ∃ d, P.underlying t = some d ∧ d.isRow = false ∧ (P.info? t).map (·.size) = some 1
def Row (P : Program) (t : TypeId) (n : Nat) : Prop := ∃ d, P.underlying t = some d ∧ d.isRow = true ∧ (P.info? t).map (·.size) = some n
def Arr (P : Program) (t : TypeId) (n : Nat) (e : TypeId) : Prop := P.underlying t = some (.array n e) ∧ Sc P e
def Slc (P : Program) (t : TypeId) (e : TypeId) : Prop := P.underlying t = some (.slice e) ∧ Sc P e
def Ik (P : Program) (t : TypeId) (k : IntKind) : Prop := P.underlying t = some (.int k)

/-! ### Numbers -/
theorem w_in_i64 {n : Int} (h : -9223372036854775808 ≤ n ∧ n ≤ 9223372036854775807) : IntKind.i64.wrap n = n := IntWalk.i64_in n h
theorem w_in_u64 {n : Int} (h : 0 ≤ n ∧ n ≤ 18446744073709551615) : IntKind.u64.wrap n = n := IntWalk.u64_in n h
theorem w_in_u32 {n : Int} (h : 0 ≤ n ∧ n ≤ 4294967295) : IntKind.u32.wrap n = n := IntWalk.u32_in n h
theorem w_in_u16 {n : Int} (h : 0 ≤ n ∧ n ≤ 65535) : IntKind.u16.wrap n = n := IntWalk.u16_in n h
theorem w_in_u8 {n : Int} (h : 0 ≤ n ∧ n ≤ 255) : IntKind.u8.wrap n = n := IntWalk.u8_in n h
theorem b_lt (b : UInt8) : b.toNat < 256 := b.toNat_lt
theorem w_lt (b : UInt32) : b.toNat < 4294967296 := b.toNat_lt
theorem w8_i64 (b : UInt8) : IntKind.i64.wrap (b.toNat : Int) = (b.toNat : Int) := w_in_i64 (by have := b_lt b; omega)
theorem w8_u64 (b : UInt8) : IntKind.u64.wrap (b.toNat : Int) = (b.toNat : Int) := w_in_u64 (by have := b_lt b; omega)
theorem w8_u32 (b : UInt8) : IntKind.u32.wrap (b.toNat : Int) = ((b.toUInt32).toNat : Int) := by rw [w_in_u32 (by have := b_lt b; omega)]; simp
theorem w8_u32n (b : UInt8) : IntKind.u32.wrap (b.toNat : Int) = (b.toNat : Int) := w_in_u32 (by have := b_lt b; omega)
theorem w32_u64 (b : UInt32) : IntKind.u64.wrap (b.toNat : Int) = (b.toNat : Int) := w_in_u64 (by have := w_lt b; omega)
theorem w32_i64 (b : UInt32) : IntKind.i64.wrap (b.toNat : Int) = (b.toNat : Int) := w_in_i64 (by have := w_lt b; omega)
theorem k32_add (x y : UInt32) : IntKind.u32.wrap ((x.toNat : Int) + (y.toNat : Int)) = ((x + y).toNat : Int) := by
  rw [IntKind.wrap_u32, UInt32.toNat_add]; omega
theorem k32_sub (x y : UInt32) : IntKind.u32.wrap ((x.toNat : Int) - (y.toNat : Int)) = ((x - y).toNat : Int) := by
  rw [IntKind.wrap_u32, UInt32.toNat_sub]; have := w_lt x; have := w_lt y; omega
theorem ofInt_nat (n a : Nat) (h : a < 2 ^ n) : (BitVec.ofInt n (a : Int)).toNat = a := by
  rw [BitVec.ofInt_natCast, BitVec.toNat_ofNat, Nat.mod_eq_of_lt h]
theorem k8_xor (x y : UInt8) : bits .xor .u8 (x.toNat : Int) (y.toNat : Int) = ((x ^^^ y).toNat : Int) := by
  show IntKind.u8.wrap ((BitVec.ofInt 8 (x.toNat : Int) ^^^ BitVec.ofInt 8 (y.toNat : Int)).toNat : Int) = _
  rw [BitVec.toNat_xor, ofInt_nat 8 _ x.toNat_lt, ofInt_nat 8 _ y.toNat_lt, ← UInt8.toNat_xor]
  have := b_lt (x ^^^ y)
  exact w_in_u8 (by omega)
theorem nat_rem (x n : Nat) : (x : Int).tmod (n : Int) = ((x % n : Nat) : Int) := rfl
theorem int_rem {x n : Int} (h : 0 ≤ x) : x.tmod n = x % n := Int.tmod_eq_emod_of_nonneg h
theorem mul_u64_of {x y : Int} (h : 0 ≤ x * y ∧ x * y ≤ 18446744073709551615) : IntKind.u64.wrap (x * y) = x * y := IntWalk.u64_in _ h
theorem nat_add_u64 {x y : Nat} (h : x + y ≤ 18446744073709551615) : IntKind.u64.wrap ((x : Int) + (y : Int)) = ((x + y : Nat) : Int) := w_in_u64 (by omega)
theorem shr_nat (a k : Nat) : (a : Int) / 2 ^ ((k : Int)).toNat = ((a / 2 ^ k : Nat) : Int) := by
  rw [Int.toNat_natCast, Int.natCast_ediv, Int.natCast_pow]; rfl
theorem shl_nat (a k : Nat) : (a : Int) * 2 ^ ((k : Int)).toNat = ((a * 2 ^ k : Nat) : Int) := by
  rw [Int.toNat_natCast, Int.natCast_mul, Int.natCast_pow]; rfl
theorem shl_nat_u64 (a k : Nat) (h : a * 2 ^ k ≤ 18446744073709551615) : IntKind.u64.wrap ((a : Int) * 2 ^ ((k : Int)).toNat) = ((a * 2 ^ k : Nat) : Int) := by
  rw [shl_nat]; exact w_in_u64 (by omega)
theorem u8_nat (n : Nat) : IntKind.u8.wrap (n : Int) = ((UInt8.ofNat n).toNat : Int) := by
  rw [IntKind.wrap_u8, UInt8.toNat_ofNat']; omega
theorem k32_shl (x : UInt32) (n : Nat) (h : n < 32) : IntKind.u32.wrap ((x.toNat : Int) * 2 ^ ((n : Int)).toNat) = ((x <<< UInt32.ofNat n).toNat : Int) := by
  rw [shl_nat, IntKind.wrap_u32, UInt32.toNat_shiftLeft, UInt32.toNat_ofNat', Nat.mod_eq_of_lt (show n < 2 ^ 32 by omega), Nat.mod_eq_of_lt h, Nat.shiftLeft_eq]
  omega
theorem k32_shr (x : UInt32) (n : Nat) (h : n < 32) : (x.toNat : Int) / 2 ^ ((n : Int)).toNat = ((x >>> UInt32.ofNat n).toNat : Int) := by
  rw [shr_nat, UInt32.toNat_shiftRight, UInt32.toNat_ofNat', Nat.mod_eq_of_lt (show n < 2 ^ 32 by omega), Nat.mod_eq_of_lt h, Nat.shiftRight_eq_div_pow]
theorem and16 (x : Nat) (h : x < 4294967296) : bits .and .u32 (x : Int) 65535 = ((x % 65536 : Nat) : Int) := by
  show IntKind.u32.wrap ((BitVec.ofInt 32 (x : Int) &&& BitVec.ofInt 32 ((65535 : Nat) : Int)).toNat : Int) = _
  rw [BitVec.toNat_and, ofInt_nat 32 _ h, ofInt_nat 32 65535 (by decide), show (65535 : Nat) = 2 ^ 16 - 1 from rfl, Nat.and_two_pow_sub_one_eq_mod]
  exact w_in_u32 (by omega)
theorem or_disj (a b : Nat) (ha : a < 281474976710656) (hb : b < 65536) : bits .or .u64 ((a * 65536 : Nat) : Int) (b : Int) = ((a * 65536 + b : Nat) : Int) := by
  show IntKind.u64.wrap ((BitVec.ofInt 64 ((a * 65536 : Nat) : Int) ||| BitVec.ofInt 64 (b : Int)).toNat : Int) = _
  rw [BitVec.toNat_or, ofInt_nat 64 _ (by omega), ofInt_nat 64 _ (by omega)]
  have h : a * 65536 ||| b = a * 65536 + b := by
    have := Nat.two_pow_add_eq_or_of_lt (i := 16) (b := b) (by omega) a
    rw [Nat.mul_comm a 65536]
    exact this.symm
  rw [h]
  exact w_in_u64 (by omega)
theorem nat_quo_u32 (x n : Nat) (h : x ≤ 4294967295) : IntKind.u32.wrap ((x : Int).tdiv (n : Int)) = ((x / n : Nat) : Int) := by
  have h1 : (x : Int).tdiv (n : Int) = ((x / n : Nat) : Int) := rfl
  rw [h1]
  have := Nat.div_le_self x n
  generalize x / n = q at *
  exact w_in_u32 (by omega)
theorem nat_quo_i64 (x n : Nat) (h : (x : Int) ≤ 9223372036854775807) : IntKind.i64.wrap ((x : Int).tdiv (n : Int)) = ((x / n : Nat) : Int) := by
  have h1 : (x : Int).tdiv (n : Int) = ((x / n : Nat) : Int) := rfl
  rw [h1]
  have := Nat.div_le_self x n
  generalize x / n = q at *
  exact w_in_i64 (by omega)
theorem nat_quo_u64 (x n : Nat) (h : x ≤ 18446744073709551615) : IntKind.u64.wrap ((x : Int).tdiv (n : Int)) = ((x / n : Nat) : Int) := by
  have h1 : (x : Int).tdiv (n : Int) = ((x / n : Nat) : Int) := rfl
  rw [h1]
  have := Nat.div_le_self x n
  generalize x / n = q at *
  exact w_in_u64 (by omega)
theorem nat_add_u32 {x y : Nat} (h : x + y ≤ 4294967295) : IntKind.u32.wrap ((x : Int) + (y : Int)) = ((x + y : Nat) : Int) := w_in_u32 (by omega)
theorem nat_mul_u32 (x n : Nat) (h : x * n ≤ 4294967295) : IntKind.u32.wrap ((x : Int) * (n : Int)) = ((x * n : Nat) : Int) := by
  rw [← Int.natCast_mul]; exact w_in_u32 (by omega)
theorem nat_mul_u64 (x n : Nat) (h : x * n ≤ 18446744073709551615) : IntKind.u64.wrap ((x : Int) * (n : Int)) = ((x * n : Nat) : Int) := by
  rw [← Int.natCast_mul]; exact w_in_u64 (by omega)
theorem k8_rem (x : UInt8) (n : Nat) (hn : n ≠ 0) : (x.toNat : Int).tmod (n : Int) = ((x.toNat % n : Nat) : Int) := rfl
theorem k32_xor (x y : UInt32) : bits .xor .u32 (x.toNat : Int) (y.toNat : Int) = ((x ^^^ y).toNat : Int) := by
  show IntKind.u32.wrap ((BitVec.ofInt 32 (x.toNat : Int) ^^^ BitVec.ofInt 32 (y.toNat : Int)).toNat : Int) = _
  rw [BitVec.toNat_xor, ofInt_nat 32 _ x.toNat_lt, ofInt_nat 32 _ y.toNat_lt, ← UInt32.toNat_xor]
  have := w_lt (x ^^^ y)
  exact w_in_u32 (by omega)
theorem k32_and (x y : UInt32) : bits .and .u32 (x.toNat : Int) (y.toNat : Int) = ((x &&& y).toNat : Int) := by
  show IntKind.u32.wrap ((BitVec.ofInt 32 (x.toNat : Int) &&& BitVec.ofInt 32 (y.toNat : Int)).toNat : Int) = _
  rw [BitVec.toNat_and, ofInt_nat 32 _ x.toNat_lt, ofInt_nat 32 _ y.toNat_lt, ← UInt32.toNat_and]
  have := w_lt (x &&& y)
  exact w_in_u32 (by omega)
theorem k32_or (x y : UInt32) : bits .or .u32 (x.toNat : Int) (y.toNat : Int) = ((x ||| y).toNat : Int) := by
  show IntKind.u32.wrap ((BitVec.ofInt 32 (x.toNat : Int) ||| BitVec.ofInt 32 (y.toNat : Int)).toNat : Int) = _
  rw [BitVec.toNat_or, ofInt_nat 32 _ x.toNat_lt, ofInt_nat 32 _ y.toNat_lt, ← UInt32.toNat_or]
  have := w_lt (x ||| y)
  exact w_in_u32 (by omega)
theorem bits_eq (k : IntKind) (x y : Int) (f : BitVec k.bits → BitVec k.bits → BitVec k.bits) (op : BinOp) (h : Op.intBits op k x y = pure (.int k (k.wrap (f (BitVec.ofInt k.bits x) (BitVec.ofInt k.bits y)).toNat))) (w : World) (P : Program) :
    (Op.intBits op k x y).run P w = .ok (.int k (k.wrap (f (BitVec.ofInt k.bits x) (BitVec.ofInt k.bits y)).toNat)) w := by rw [h]; rfl

section ops
variable {P : Program} {B : Nat} {w0 : Base} {N : Nat} {D : List Deferred} {env : Env} {H : Hp} {T : Env → Hp → Prop}
variable {dst : Option Tmp} {ty : TypeId} {pos : String} {after : Array Edge} {g : Option (Nat × Bool)}

theorem op_pure {d : Nat} {op : Op} {v : Value} (hp : Pure1 P B w0 N D ⟨some d, op, ty, pos, after, g⟩ env H v) (hd : Nat.blt d N = true) (h : T ((d, v) :: env) H) : Op1 P B w0 N D ⟨some d, op, ty, pos, after, g⟩ env H T :=
  fun K Q hT a w hf hm => by
    unfold Oper.wp
    rw [hp a w hf hm]
    exact hT _ _ h _ w (hf.put hd v) hm

theorem p_move {x : Operand} {v : Value} (hx : look env x = some v) : Pure1 P B w0 N D ⟨dst, .move x, ty, pos, after, g⟩ env H v := fun a w hf _ => by
  simp [execOp, hf.eval hx]
theorem p_assign {x : Operand} {v : Value} (hx : look env x = some v) : Pure1 P B w0 N D ⟨dst, .assign x, ty, pos, after, g⟩ env H v := fun a w hf _ => by
  simp [execOp, hf.eval hx]
theorem p_pick {c x y : Operand} {t : Bool} {u v : Value} (hc : look env c = some (.bool t)) (hx : look env x = some u) (hy : look env y = some v) :
    Pure1 P B w0 N D ⟨dst, .pick c x y, ty, pos, after, g⟩ env H (if t then u else v) := fun a w hf _ => by
  simp [execOp, hf.eval hc, hf.eval hx, hf.eval hy, asBool]
theorem p_pick_yes {c x y : Operand} {v : Value} (hc : look env c = some (.bool true)) (hx : look env x = some v) :
    Pure1 P B w0 N D ⟨dst, .pick c x y, ty, pos, after, g⟩ env H v := fun a w hf _ => by
  simp [execOp, hf.eval hc, hf.eval hx, asBool]
theorem p_pick_no {c x y : Operand} {v : Value} (hc : look env c = some (.bool false)) (hy : look env y = some v) :
    Pure1 P B w0 N D ⟨dst, .pick c x y, ty, pos, after, g⟩ env H v := fun a w hf _ => by
  simp [execOp, hf.eval hc, hf.eval hy, asBool]

/-- An operator on two integers. -/
theorem p_bin {op : BinOp} {xT yT : TypeId} {x y : Operand} {k k' : IntKind} {m n : Int} {r : Value} (hx : look env x = some (.int k m)) (hy : look env y = some (.int k' n))
    (hr : ∀ w, (binOp op xT (.int k m) (.int k' n)).run P w = .ok r w) : Pure1 P B w0 N D ⟨dst, .binOp op xT x y yT, ty, pos, after, g⟩ env H r := fun a w hf _ => by
  simp [execOp, hf.eval hx, hf.eval hy, eqGuard_at_int, hr w]
theorem p_bin_bool {op : BinOp} {xT yT : TypeId} {x y : Operand} {m n : Bool} {r : Value} (hx : look env x = some (.bool m)) (hy : look env y = some (.bool n))
    (hr : ∀ w, (binOp op xT (.bool m) (.bool n)).run P w = .ok r w) : Pure1 P B w0 N D ⟨dst, .binOp op xT x y yT, ty, pos, after, g⟩ env H r := fun a w hf _ => by
  simp [execOp, hf.eval hx, hf.eval hy, eqGuard_at_bool, hr w]

theorem b_add {t : TypeId} {k : IntKind} {m n r : Int} (h : k.wrap (m + n) = r) (w : World) : (binOp .add t (.int k m) (.int k n)).run P w = .ok (.int k r) w := by
  rw [binOp_add, Op.intArith, h]; rfl
theorem b_sub {t : TypeId} {k : IntKind} {m n r : Int} (h : k.wrap (m - n) = r) (w : World) : (binOp .sub t (.int k m) (.int k n)).run P w = .ok (.int k r) w := by
  rw [binOp_sub, Op.intArith, h]; rfl
theorem b_mul {t : TypeId} {k : IntKind} {m n r : Int} (h : k.wrap (m * n) = r) (w : World) : (binOp .mul t (.int k m) (.int k n)).run P w = .ok (.int k r) w := by
  rw [binOp_mul, Op.intArith, h]; rfl
theorem b_quo {t : TypeId} {k : IntKind} {m n r : Int} (h0 : n ≠ 0) (h : k.wrap (m.tdiv n) = r) (w : World) : (binOp .quo t (.int k m) (.int k n)).run P w = .ok (.int k r) w := by
  rw [binOp_quo, Op.intDiv, if_neg h0, h]; rfl
theorem b_rem {t : TypeId} {k : IntKind} {m n r : Int} (h0 : n ≠ 0) (h : m.tmod n = r) (w : World) : (binOp .rem t (.int k m) (.int k n)).run P w = .ok (.int k r) w := by
  rw [binOp_rem, Op.intDiv, if_neg h0, h]; rfl
theorem b_and {t : TypeId} {k : IntKind} {m n r : Int} (h : bits .and k m n = r) (w : World) : (binOp .and t (.int k m) (.int k n)).run P w = .ok (.int k r) w := by
  rw [binOp_and, intBits_and, h]; rfl
theorem b_or {t : TypeId} {k : IntKind} {m n r : Int} (h : bits .or k m n = r) (w : World) : (binOp .or t (.int k m) (.int k n)).run P w = .ok (.int k r) w := by
  rw [binOp_or, intBits_or, h]; rfl
theorem b_xor {t : TypeId} {k : IntKind} {m n r : Int} (h : bits .xor k m n = r) (w : World) : (binOp .xor t (.int k m) (.int k n)).run P w = .ok (.int k r) w := by
  rw [binOp_xor, intBits_xor, h]; rfl
theorem b_andNot {t : TypeId} {k : IntKind} {m n r : Int} (h : bits .andNot k m n = r) (w : World) : (binOp .andNot t (.int k m) (.int k n)).run P w = .ok (.int k r) w := by
  rw [binOp_andNot, intBits_andNot, h]; rfl
theorem b_shl {t : TypeId} {k k' : IntKind} {m n r : Int} (h0 : 0 ≤ n) (h1 : n ≤ k.bits) (h : k.wrap (m * 2 ^ n.toNat) = r) (w : World) : (binOp .shl t (.int k m) (.int k' n)).run P w = .ok (.int k r) w := by
  rw [binOp_shl, shift_shl k k' m n h0 h1, h]; rfl
theorem b_shr {t : TypeId} {k k' : IntKind} {m n r : Int} (h0 : 0 ≤ n) (h1 : n ≤ k.bits) (h : m / 2 ^ n.toNat = r) (w : World) : (binOp .shr t (.int k m) (.int k' n)).run P w = .ok (.int k r) w := by
  rw [binOp_shr, shift_shr k k' m n h0 h1, h]; rfl
theorem b_eql {t : TypeId} {k : IntKind} {m n : Int} {r : Bool} (h : (m == n) = r) (w : World) : (binOp .eql t (.int k m) (.int k n)).run P w = .ok (.bool r) w := by
  rw [binOp_eql, h]; rfl
theorem b_neq {t : TypeId} {k : IntKind} {m n : Int} {r : Bool} (h : (m != n) = r) (w : World) : (binOp .neq t (.int k m) (.int k n)).run P w = .ok (.bool r) w := by
  rw [binOp_neq, h]; rfl
theorem b_lss {t : TypeId} {k : IntKind} {m n : Int} {r : Bool} (h : decide (m < n) = r) (w : World) : (binOp .lss t (.int k m) (.int k n)).run P w = .ok (.bool r) w := by
  rw [binOp_lss, h]; rfl
theorem b_leq {t : TypeId} {k : IntKind} {m n : Int} {r : Bool} (h : decide (m ≤ n) = r) (w : World) : (binOp .leq t (.int k m) (.int k n)).run P w = .ok (.bool r) w := by
  rw [binOp_leq, h]; rfl
theorem b_gtr {t : TypeId} {k : IntKind} {m n : Int} {r : Bool} (h : decide (n < m) = r) (w : World) : (binOp .gtr t (.int k m) (.int k n)).run P w = .ok (.bool r) w := by
  rw [binOp_gtr, ← h]; rfl
theorem b_geq {t : TypeId} {k : IntKind} {m n : Int} {r : Bool} (h : decide (n ≤ m) = r) (w : World) : (binOp .geq t (.int k m) (.int k n)).run P w = .ok (.bool r) w := by
  rw [binOp_geq, ← h]; rfl
theorem b_eql_bool {t : TypeId} {m n r : Bool} (ht : P.underlying t = some .bool) (h : (m == n) = r) (w : World) : (binOp .eql t (.bool m) (.bool n)).run P w = .ok (.bool r) w := by
  subst h
  simp [binOp, Op.equal, Op.maxDepth, run_equalIn_bool' w 9999 t m n ht]
theorem b_neq_bool {t : TypeId} {m n r : Bool} (ht : P.underlying t = some .bool) (h : (!(m == n)) = r) (w : World) : (binOp .neq t (.bool m) (.bool n)).run P w = .ok (.bool r) w := by
  subst h
  simp [binOp, Op.equal, Op.maxDepth, run_equalIn_bool' w 9999 t m n ht]

/-- '==' on two rows of bytes. -/
theorem p_eql_bytes {t e yT : TypeId} {n : Nat} {x y : Operand} {xs ys : List UInt8} (hx : look env x = some (.agg (bytesV xs).toArray)) (hy : look env y = some (.agg (bytesV ys).toArray))
    (ht : P.underlying t = some (.array n e)) (he : P.underlying e = some (.int .u8)) (hs : (P.info? e).map (·.size) = some 1) (hgd : P.eqGuardType P.depth t = false) (hxl : xs.length = n) (hyl : ys.length = n) :
    Pure1 P B w0 N D ⟨dst, .binOp .eql t x y yT, ty, pos, after, g⟩ env H (.bool (xs == ys)) := fun a w hf _ => by
  have h1 := run_eql_bytes (P := P) w t e n ht he (fun w => sizeOf_ok hs w) xs ys hxl hyl
  have h2 := run_eqGuard_agg (P := P) w .eql t x y (bytesV xs).toArray (bytesV ys).toArray hgd
  simp only [execOp, hf.eval hx, hf.eval hy, Sem.run_bind, h2, Result.andThen_ok]
  rw [show (binOp .eql t (.agg (bytesV xs).toArray) (.agg (bytesV ys).toArray)).run P w = .ok (.bool (xs == ys)) w from h1]
  simp
theorem p_neq_bytes {t e yT : TypeId} {n : Nat} {x y : Operand} {xs ys : List UInt8} (hx : look env x = some (.agg (bytesV xs).toArray)) (hy : look env y = some (.agg (bytesV ys).toArray))
    (ht : P.underlying t = some (.array n e)) (he : P.underlying e = some (.int .u8)) (hs : (P.info? e).map (·.size) = some 1) (hgd : P.eqGuardType P.depth t = false) (hxl : xs.length = n) (hyl : ys.length = n) :
    Pure1 P B w0 N D ⟨dst, .binOp .neq t x y yT, ty, pos, after, g⟩ env H (.bool (!(xs == ys))) := fun a w hf _ => by
  have h1 := run_equalIn_bytes (P := P) w 9998 t e n ht he (fun w => sizeOf_ok hs w) xs ys hxl hyl
  have h2 := run_eqGuard_agg (P := P) w .neq t x y (bytesV xs).toArray (bytesV ys).toArray hgd
  simp only [execOp, hf.eval hx, hf.eval hy, Sem.run_bind, h2, Result.andThen_ok]
  rw [show (binOp .neq t (.agg (bytesV xs).toArray) (.agg (bytesV ys).toArray)).run P w = .ok (.bool (!(xs == ys))) w from by
    rw [run_neq_struct]; rw [show (Op.equalIn 10000 t (.agg (bytesV xs).toArray) (.agg (bytesV ys).toArray)).run P w = .ok (xs == ys) w from h1]; rfl]
  simp

theorem p_convert {s t : TypeId} {x : Operand} {k k' : IntKind} {m r : Int} (hx : look env x = some (.int k m)) (hs : Sc P s) (ht : Ik P t k') (hr : k'.wrap m = r) :
    Pure1 P B w0 N D ⟨dst, .convert s t x, ty, pos, after, g⟩ env H (.int k' r) := fun a w hf _ => by
  obtain ⟨d, hd, _⟩ := hs
  have ht : P.underlying t = some (.int k') := ht
  have h1 : (convert s t (.int k m)).run P w = .ok (.int k' r) w := by
    unfold convert
    simp only [Sem.run_bind, run_underlying hd, run_underlying ht, Result.andThen_ok]
    cases d <;> simp [Conv.intToInt, hr]
  simp [execOp, hf.eval hx, h1]

/-! ### Memory: reading -/
theorem p_load {t : TypeId} {x : Operand} {b off : Nat} {v : Value} {cs : List Value} {et : TypeId} {fr : Nat × Nat} (hx : look env x = some (.pointer (some ⟨b, off, none⟩))) (hsc : Sc P t)
    (hH : (b, Obj.cells cs.toArray et fr) ∈ H) (hc : cs[off]? = some v) : Pure1 P B w0 N D ⟨dst, .load t x, ty, pos, after, g⟩ env H v := fun a w hf hm => by
  obtain ⟨d, ht, hd, _⟩ := hsc
  have hcell : w.cell? ⟨b, off, none⟩ = some v := (hm.cell hH off).trans hc
  simp [execOp, hf.eval hx, Instr.loadAt, Instr.sureAddr, loadVar, isAgg_no ht hd, load, Sem.run, hcell]
theorem p_load_base {t : TypeId} {x : Operand} {b off : Nat} {v : Value} (hx : look env x = some (.pointer (some ⟨b, off, none⟩))) (hsc : Sc P t)
    (hb : b < B) (hbs : b ∉ w0.bs) (hc : w0.w.cell? ⟨b, off, none⟩ = some v) : Pure1 P B w0 N D ⟨dst, .load t x, ty, pos, after, g⟩ env H v := fun a w hf hm => by
  obtain ⟨d, ht, hd, _⟩ := hsc
  have hcell : w.cell? ⟨b, off, none⟩ = some v := (hm.base hb hbs).trans hc
  simp [execOp, hf.eval hx, Instr.loadAt, Instr.sureAddr, loadVar, isAgg_no ht hd, load, Sem.run, hcell]
theorem p_loadRow {t : TypeId} {x : Operand} {b n : Nat} {cs : List Value} {et : TypeId} {fr : Nat × Nat} (hx : look env x = some (.pointer (some ⟨b, 0, none⟩))) (hrow : Row P t n)
    (hH : (b, Obj.cells cs.toArray et fr) ∈ H) (hl : cs.length = n) : Pure1 P B w0 N D ⟨dst, .load t x, ty, pos, after, g⟩ env H (.agg cs.toArray) := fun a w hf hm => by
  obtain ⟨d, ht, hd, hi⟩ := hrow
  rw [← hl] at hi
  have h1 := run_loadAt_mid (P := P) w b 0 t cs d (fun j v hv => by rw [Nat.zero_add]; exact (hm.cell hH j).trans hv) ht hd hi
  simp only [execOp, hf.eval hx, Sem.run_bind, h1, Result.andThen_ok, Sem.run_pure]
theorem p_loadMid {t : TypeId} {x : Operand} {b off n : Nat} {cs : List Value} {et : TypeId} {fr : Nat × Nat} (hx : look env x = some (.pointer (some ⟨b, off, none⟩))) (hrow : Row P t n)
    (hH : (b, Obj.cells cs.toArray et fr) ∈ H) (hl : off + n ≤ cs.length) : Pure1 P B w0 N D ⟨dst, .load t x, ty, pos, after, g⟩ env H (.agg ((cs.drop off).take n).toArray) := fun a w hf hm => by
  obtain ⟨d, ht, hd, hi⟩ := hrow
  have h1 := run_loadAt_mid (P := P) w b off t ((cs.drop off).take n) d (fun j v hv => by
    rw [hm.cell hH]
    by_cases hj : j < n
    · rw [List.getElem?_take_of_lt hj, List.getElem?_drop] at hv; exact hv
    · rw [List.getElem?_eq_none (by simp; omega)] at hv; cases hv) ht hd (by rw [hi]; simp; omega)
  simp only [execOp, hf.eval hx, Sem.run_bind, h1, Result.andThen_ok, Sem.run_pure]

theorem p_indexArr {t e : TypeId} {x i : Operand} {b off len j : Nat} {k : IntKind} {m : Int} (hx : look env x = some (.pointer (some ⟨b, off, none⟩))) (hi : look env i = some (.int k m)) (hj : m = (j : Int)) (ha : Arr P t len e)
    (hlt : j < len) : Pure1 P B w0 N D ⟨dst, .indexAddr t x i, ty, pos, after, g⟩ env H (.pointer (some ⟨b, off + j, none⟩)) := fun a w hf _ => by
  obtain ⟨ht, _, _, _, hs⟩ := ha
  subst hj
  have h2 : ((j : Int) < (len : Int)) := by omega
  simp [execOp, hf.eval hx, hf.eval hi, Instr.indexAt, asIntOf, run_underlying ht, Instr.sureAddr, sizeOf_ok hs, h2, Addr.add_mid, hlt]
theorem p_indexArr0 {t e : TypeId} {x i : Operand} {b len j : Nat} {k : IntKind} {m : Int} (hx : look env x = some (.pointer (some ⟨b, 0, none⟩))) (hi : look env i = some (.int k m)) (hj : m = (j : Int)) (ha : Arr P t len e)
    (hlt : j < len) : Pure1 P B w0 N D ⟨dst, .indexAddr t x i, ty, pos, after, g⟩ env H (.pointer (some ⟨b, j, none⟩)) := by
  have := p_indexArr (P := P) (B := B) (w0 := w0) (N := N) (D := D) (H := H) (dst := dst) (ty := ty) (pos := pos) (after := after) (g := g) hx hi hj ha hlt
  rwa [Nat.zero_add] at this
theorem p_indexSl {t e : TypeId} {x i : Operand} {b off len cap j : Nat} {k : IntKind} {m : Int} (hx : look env x = some (.slice (some ⟨b, off, none⟩) len cap)) (hi : look env i = some (.int k m)) (hj : m = (j : Int)) (ha : Slc P t e)
    (hlt : j < len) : Pure1 P B w0 N D ⟨dst, .indexAddr t x i, ty, pos, after, g⟩ env H (.pointer (some ⟨b, off + j, none⟩)) := fun a w hf _ => by
  obtain ⟨ht, _, _, _, hs⟩ := ha
  subst hj
  have h2 : ((j : Int) < (len : Int)) := by omega
  simp [execOp, hf.eval hx, hf.eval hi, Instr.indexAt, asIntOf, run_underlying ht, sizeOf_ok hs, h2, Addr.add_mid, hlt]
/-- An element of an array that is a value, of one cell. -/
theorem p_indexVal {t e : TypeId} {x i : Operand} {len j : Nat} {k : IntKind} {m : Int} {cs : List Value} {v : Value} (hx : look env x = some (.agg cs.toArray)) (hi : look env i = some (.int k m)) (hj : m = (j : Int)) (ha : Arr P t len e) (hlt : j < len) (hv : cs[j]? = some v) : Pure1 P B w0 N D ⟨dst, .index t x i, ty, pos, after, g⟩ env H v := fun a w hf _ => by
  obtain ⟨ht, _, he, hd, hs⟩ := ha
  subst hj
  have h2 : ((j : Int) < (len : Int)) := by omega
  simp [execOp, hf.eval hx, hf.eval hi, Instr.index, asIntOf, run_underlying ht, sizeOf_ok hs, h2, hlt, part, isAgg_no he hd, hv]
theorem p_len {t : TypeId} {e : TypeId} {x : Operand} {A : Option Addr} {n c : Nat} (hx : look env x = some (.slice A n c)) (hsl : Slc P t e) :
    Pure1 P B w0 N D ⟨dst, .call { callee := .builtin .len, args := #[x], argTypes := #[t] }, ty, pos, after, g⟩ env H (.int .i64 (n : Int)) := fun a w hf _ => by
  have ht := hsl.1
  simp [execOp, resolve, hf.eval hx, invoke, builtin, Builtin.len_, Builtin.lenOf, run_underlying ht, goInt]

/-! ### Memory: making, writing -/
theorem op_box {d : Nat} {t : TypeId} {x : Operand} {v : Value} (hx : look env x = some v) (hd : Nat.blt d N = true) (hB : B ≤ w0.w.heap.size) (h : ∀ b, T ((d, .pointer (some ⟨b, 0, none⟩)) :: env) ((b, .cells v.cells t (0, 0)) :: H)) :
    Op1 P B w0 N D ⟨some d, .box t x, ty, pos, after, g⟩ env H T := fun K Q hT a w hf hm => by
  have h1 : (execOp a.eval ⟨some d, .box t x, ty, pos, after, g⟩).run P w = .ok (.value (.pointer (some ⟨w.heap.size, 0, none⟩))) (w.alloc (.cells v.cells t)) := by
    simp [execOp, hf.eval hx, Instr.box, newVar, newRow]
  unfold Oper.wp
  rw [h1]
  exact hT _ _ (h w.heap.size) _ _ (hf.put hd _) (hm.alloc hB _)
theorem op_boxRow {d : Nat} {t : TypeId} {x : Operand} {cs : List Value} (hx : look env x = some (.agg cs.toArray)) (hd : Nat.blt d N = true) (hB : B ≤ w0.w.heap.size) (h : ∀ b, T ((d, .pointer (some ⟨b, 0, none⟩)) :: env) ((b, .cells cs.toArray t (0, 0)) :: H)) :
    Op1 P B w0 N D ⟨some d, .box t x, ty, pos, after, g⟩ env H T := op_box hx hd hB h
theorem op_alloc {d : Nat} {t : TypeId} {z : Value} (hz : (P.info? t).bind (·.zero) = some z) (hd : Nat.blt d N = true) (hB : B ≤ w0.w.heap.size) (h : ∀ b, T ((d, .pointer (some ⟨b, 0, none⟩)) :: env) ((b, .cells z.cells t (0, 0)) :: H)) :
    Op1 P B w0 N D ⟨some d, .alloc t, ty, pos, after, g⟩ env H T := fun K Q hT a w hf hm => by
  have hzv : (zeroValue t).run P w = .ok z w := by
    unfold zeroValue
    cases hq : P.info? t with
    | none => simp [hq] at hz
    | some i =>
      have : i.zero = some z := by simpa [hq] using hz
      simp [typeInfo, hq, this]
  have h1 : (execOp a.eval ⟨some d, .alloc t, ty, pos, after, g⟩).run P w = .ok (.value (.pointer (some ⟨w.heap.size, 0, none⟩))) (w.alloc (.cells z.cells t)) := by
    simp [execOp, Instr.alloc, hzv, newVar, newRow]
  unfold Oper.wp
  rw [h1]
  exact hT _ _ (h w.heap.size) _ _ (hf.put hd _) (hm.alloc hB _)

def Zr (P : Program) (t : TypeId) (cs : List Value) : Prop := (P.info? t).bind (·.zero) = some (.agg cs.toArray)
def Zs (P : Program) (t : TypeId) (v : Value) : Prop := (P.info? t).bind (·.zero) = some v ∧ v.cells = #[v]
theorem op_allocRow {d : Nat} {t : TypeId} {cs : List Value} (hz : Zr P t cs) (hd : Nat.blt d N = true) (hB : B ≤ w0.w.heap.size) (h : ∀ b, T ((d, .pointer (some ⟨b, 0, none⟩)) :: env) ((b, .cells cs.toArray t (0, 0)) :: H)) :
    Op1 P B w0 N D ⟨some d, .alloc t, ty, pos, after, g⟩ env H T := op_alloc hz hd hB h
theorem op_alloc1 {d : Nat} {t : TypeId} {v : Value} (hz : Zs P t v) (hd : Nat.blt d N = true) (hB : B ≤ w0.w.heap.size) (h : ∀ b, T ((d, .pointer (some ⟨b, 0, none⟩)) :: env) ((b, .cells [v].toArray t (0, 0)) :: H)) :
    Op1 P B w0 N D ⟨some d, .alloc t, ty, pos, after, g⟩ env H T := op_alloc hz.1 hd hB (by rw [hz.2]; exact h)
theorem Mem.set {w : World} {H' : Hp} {b : Nat} {cs : List Value} {t : TypeId} (hm : Mem B w0 H w) (off : Nat) (v : Value) (hat : At H b (.cells cs.toArray t (0, 0)) (.cells (cs.set off v).toArray t (0, 0)) H') : Mem B w0 H' (w.setCell ⟨b, off, none⟩ v) := by
  have hb := hm.at_ hat
  refine hm.turn hat rfl rfl rfl (by simp [World.setCell]) ?_ (fun k hk hne => Below.heap_setCell _ _ _ _ hne)
  simp [World.setCell, Array.getElem?_modify, hb]
theorem op_store {t : TypeId} {x y : Operand} {b off : Nat} {v : Value} {cs : List Value} {et : TypeId} {H' : Hp} (hx : look env x = some (.pointer (some ⟨b, off, none⟩))) (hy : look env y = some v) (h1 : v.oneCell' = true)
    (hsc : Sc P t) (hat : At H b (.cells cs.toArray et (0, 0)) (.cells (cs.set off v).toArray et (0, 0)) H') (hlt : off < cs.length) (h : T env H') :
    Op1 P B w0 N D ⟨none, .store t x y, ty, pos, after, g⟩ env H T := fun K Q hT a w hf hm => by
  obtain ⟨_, _, _, hi⟩ := hsc
  have hb := hm.at_ hat
  have hcell : w.cell? ⟨b, off, none⟩ = some (cs[off]'hlt) := by rw [cell_of_row w b off _ _ _ hb]; simp [hlt]
  have hfz : w.frozen? ⟨b, off, none⟩ = false := frozen_of_row w b off _ _ hb
  have hrun : (execOp a.eval ⟨none, .store t x y, ty, pos, after, g⟩).run P w = .ok .skip (w.setCell ⟨b, off, none⟩ v) := by
    have hst : ∀ m, (store ⟨b, off, none⟩ v m).run P w = .ok () (w.setCell ⟨b, off, none⟩ v) := fun m => by
      rw [run_store P w _ v m h1]
      simp [stored, hcell, hfz]
    have hcs : v.cells = #[v] := by cases v <;> first | rfl | cases h1
    simp [execOp, hf.eval hx, hf.eval hy, Instr.storeAt, Instr.sureAddr, storeVar, sizeOf_ok hi, hcs, storeCells, hst, Addr.add_zero']
  unfold Oper.wp
  rw [hrun]
  exact hT _ _ h _ _ (hf.put_none _) (hm.set off v hat)

/-- A row of cells with another row laid over it from place o on. -/
def lay (cs : List Value) (o : Nat) : List Value → List Value
  | [] => cs
  | v :: r => lay (cs.set o v) (o + 1) r
theorem lay_length (r : List Value) : ∀ (cs : List Value) (o : Nat), (lay cs o r).length = cs.length := by
  induction r with
  | nil => exact fun _ _ => rfl
  | cons v r ih => exact fun cs o => by rw [lay, ih]; simp
theorem lay_all (r : List Value) : ∀ (cs pre : List Value), cs.length = r.length → lay (pre ++ cs) pre.length r = pre ++ r := by
  induction r with
  | nil => intro cs pre h; obtain rfl : cs = [] := List.eq_nil_of_length_eq_zero (by simpa using h); rfl
  | cons v r ih =>
    intro cs pre h
    cases cs with
    | nil => simp at h
    | cons c cs =>
      rw [lay, List.set_append_right _ _ (Nat.le_refl _)]
      simp only [Nat.sub_self, List.set_cons_zero]
      have := ih cs (pre ++ [v]) (by simpa using h)
      simpa using this
theorem lay_whole {cs r : List Value} (h : cs.length = r.length) : lay cs 0 r = r := by simpa using lay_all r cs [] h
theorem lay_eq (r : List Value) (cs : List Value) (o : Nat) (h : o + r.length ≤ cs.length) : lay cs o r = cs.take o ++ r ++ cs.drop (o + r.length) := by
  have gen : ∀ (r mid pre post : List Value), mid.length = r.length → lay (pre ++ (mid ++ post)) pre.length r = pre ++ (r ++ post) := by
    intro r
    induction r with
    | nil => intro mid pre post h; obtain rfl : mid = [] := List.eq_nil_of_length_eq_zero (by simpa using h); rfl
    | cons v r ih =>
      intro mid pre post h
      cases mid with
      | nil => simp at h
      | cons c mid =>
        rw [lay, List.set_append_right _ _ (Nat.le_refl _)]
        simp only [Nat.sub_self, List.cons_append, List.set_cons_zero]
        have := ih mid (pre ++ [v]) post (by simpa using h)
        simpa using this
  have h1 := gen r ((cs.drop o).take r.length) (cs.take o) (cs.drop (o + r.length)) (by simp; omega)
  have e : cs.take o ++ ((cs.drop o).take r.length ++ cs.drop (o + r.length)) = cs := by
    rw [← List.drop_drop, List.take_append_drop, List.take_append_drop]
  rw [e] at h1
  have hl : (cs.take o).length = o := by simp; omega
  rw [hl] at h1
  rw [h1, List.append_assoc]

theorem At.mid {H H' : Hp} {b : Nat} {o1 o2 om : Obj} (h : At H b o1 o2 H') : ∃ Hm, At H b o1 om Hm ∧ At Hm b om o2 H' := by
  induction h with
  | here => exact ⟨_, .here, .here⟩
  | @there H H' x b o o' h ih => obtain ⟨Hm, p, q⟩ := @ih; exact ⟨_, .there p, .there q⟩
theorem Mem.lay {b : Nat} {t : TypeId} (r : List Value) : ∀ (w : World) (H H' : Hp) (cs : List Value) (o : Nat), Mem B w0 H w → At H b (.cells cs.toArray t (0, 0)) (.cells (lay cs o r).toArray t (0, 0)) H' → Mem B w0 H' (w.setCells b o r) := by
  induction r with
  | nil =>
    intro w H H' cs o hm hat
    simp only [K.lay] at hat
    exact hm.turn hat rfl rfl rfl (Nat.le_refl _) (hm.at_ hat) (fun _ _ _ => rfl)
  | cons v r ih =>
    intro w H H' cs o hm hat
    obtain ⟨Hm, p, q⟩ := At.mid (om := .cells (cs.set o v).toArray t (0, 0)) hat
    exact ih _ _ _ _ (o + 1) (hm.set o v p) q

theorem op_storeRow {t : TypeId} {x y : Operand} {b off n : Nat} {cs r : List Value} {et : TypeId} {H' : Hp} (hx : look env x = some (.pointer (some ⟨b, off, none⟩))) (hy : look env y = some (.agg r.toArray)) (h1 : ∀ v ∈ r, v.oneCell' = true)
    (hrow : Row P t n) (hrl : r.length = n) (hat : At H b (.cells cs.toArray et (0, 0)) (.cells (lay cs off r).toArray et (0, 0)) H') (hlt : off + r.length ≤ cs.length) (h : T env H') :
    Op1 P B w0 N D ⟨none, .store t x y, ty, pos, after, g⟩ env H T := fun K Q hT a w hf hm => by
  have hb := hm.at_ hat
  obtain ⟨_, _, _, hi⟩ := hrow
  rw [← hrl] at hi
  have hth : w.there b off r.toArray.size := fun j hj => by
    have hj' : off + j < cs.length := by simp at hj; omega
    rw [cell_of_row w b _ _ _ _ hb, frozen_of_row w b _ _ _ hb]
    simp [hj']
  have hrun := run_storeAt_mid (P := P) w b off t r.toArray hth (by simpa using hi) (all_oneCell_toArray h1)
  have hrun2 : (execOp a.eval ⟨none, .store t x y, ty, pos, after, g⟩).run P w = .ok .skip (w.setCells b off r) := by
    simp only [execOp, hf.eval hx, hf.eval hy, Sem.run_bind, hrun, Result.andThen_ok, Sem.run_pure]
  unfold Oper.wp
  rw [hrun2]
  exact hT _ _ h _ _ (hf.put_none _) (Mem.lay r _ _ _ _ off hm hat)

/-! ### Calls -/
def looks (env : Env) : List Operand → Option (List Value)
  | [] => some []
  | x :: r => match look env x, looks env r with
    | some v, some vs => some (v :: vs)
    | _, _ => none
theorem Fits.evals {a : Act} (hf : Fits N D env a) : ∀ {xs : List Operand} {vs : List Value}, looks env xs = some vs → xs.map a.eval = vs
  | [], vs, h => by cases h; rfl
  | x :: r, vs, h => by
    simp only [looks] at h
    split at h
    · rename_i v vs' h1 h2
      cases h
      rw [List.map_cons, hf.eval h1, hf.evals h2]
    · cases h

theorem runs_callFunc {f : FuncId} {fn : Func} (hf : P.funcs[f]? = some fn) (hb : fn.body.isNone = false) (hn : (fn.name == "runtime.NumGoroutine") = false) (args : Array Value) (w : World) : (callFunc f args).run P w = .ok (.enter f args) w := by
  unfold callFunc
  simp only [Sem.run_bind, run_program, Result.andThen_ok, hf, hn, hb, Bool.false_eq_true, if_false, Sem.run_pure]

/-- A call of a function by a contract that says what is behind it. -/
theorem op_call {d : Nat} {fo : Operand} {xs : List Operand} {ts : Array TypeId} {f : FuncId} {fn : Func} {vs first cap : List Value} (hfo : look env fo = some (.func (.func f) first.toArray cap.toArray)) (hxs : looks env xs = some vs)
    (hf0 : P.funcs[f]? = some fn) (hb0 : fn.body.isNone = false) (hn0 : (fn.name == "runtime.NumGoroutine") = false) (hd : Nat.blt d N = true)
    (hc : ∀ w, Mem B w0 H w → Calls P f (first ++ vs ++ cap).toArray w fun e w' => ∃ v H', e = .returned v ∧ Mem B w0 H' w' ∧ T ((d, v) :: env) H') :
    Op1 P B w0 N D ⟨some d, .call { callee := .value fo, args := xs.toArray, argTypes := ts }, ty, pos, after, g⟩ env H T := fun K Q hT a w hf hm => by
  have hrun : (execOp a.eval ⟨some d, .call { callee := .value fo, args := xs.toArray, argTypes := ts }, ty, pos, after, g⟩).run P w = .ok (.enter f (first ++ vs ++ cap).toArray) w := by
    have h1 : (xs.toArray.map a.eval) = vs.toArray := by rw [List.map_toArray, hf.evals hxs]
    simp only [execOp, resolve, hf.eval hfo, h1, Deferred.ofValue, Sem.run_bind, Sem.run_pure, Result.andThen_ok, invoke]
    rw [runs_callFunc hf0 hb0 hn0]
    simp
  unfold Oper.wp
  rw [hrun]
  refine (hc w hm).mono ?_
  rintro e w' ⟨v, H', rfl, hm', ht⟩
  exact hT _ _ ht _ _ (hf.put hd v) hm'
/-- A call without a result that is kept. -/
theorem op_call0 {fo : Operand} {xs : List Operand} {ts : Array TypeId} {f : FuncId} {fn : Func} {vs first cap : List Value} (hfo : look env fo = some (.func (.func f) first.toArray cap.toArray)) (hxs : looks env xs = some vs)
    (hf0 : P.funcs[f]? = some fn) (hb0 : fn.body.isNone = false) (hn0 : (fn.name == "runtime.NumGoroutine") = false)
    (hc : ∀ w, Mem B w0 H w → Calls P f (first ++ vs ++ cap).toArray w fun e w' => ∃ v H', e = .returned v ∧ Mem B w0 H' w' ∧ T env H') :
    Op1 P B w0 N D ⟨none, .call { callee := .value fo, args := xs.toArray, argTypes := ts }, ty, pos, after, g⟩ env H T := fun K Q hT a w hf hm => by
  have hrun : (execOp a.eval ⟨none, .call { callee := .value fo, args := xs.toArray, argTypes := ts }, ty, pos, after, g⟩).run P w = .ok (.enter f (first ++ vs ++ cap).toArray) w := by
    have h1 : (xs.toArray.map a.eval) = vs.toArray := by rw [List.map_toArray, hf.evals hxs]
    simp only [execOp, resolve, hf.eval hfo, h1, Deferred.ofValue, Sem.run_bind, Sem.run_pure, Result.andThen_ok, invoke]
    rw [runs_callFunc hf0 hb0 hn0]
    simp
  unfold Oper.wp
  rw [hrun]
  refine (hc w hm).mono ?_
  rintro e w' ⟨v, H', rfl, hm', ht⟩
  exact hT _ _ ht _ _ (hf.put_none v) hm'
/-- A call that hands back v, and leaves alone what was there. -/
theorem op_callV {d : Nat} {fo : Operand} {xs : List Operand} {ts : Array TypeId} {f : FuncId} {fn : Func} {vs first cap : List Value} {v : Value} (hfo : look env fo = some (.func (.func f) first.toArray cap.toArray)) (hxs : looks env xs = some vs)
    (hf0 : P.funcs[f]? = some fn) (hb0 : fn.body.isNone = false) (hn0 : (fn.name == "runtime.NumGoroutine") = false) (hd : Nat.blt d N = true) (hB : B ≤ w0.w.heap.size)
    (hc : ∀ w, Mem B w0 H w → Calls P f (first ++ vs ++ cap).toArray w fun e w' => e = .returned v ∧ Below w.heap.size w w') (h : T ((d, v) :: env) H) :
    Op1 P B w0 N D ⟨some d, .call { callee := .value fo, args := xs.toArray, argTypes := ts }, ty, pos, after, g⟩ env H T :=
  op_call hfo hxs hf0 hb0 hn0 hd fun w hm => (hc w hm).mono fun _ _ ⟨he, hb⟩ => ⟨v, H, he, hm.call hB hb, h⟩
theorem still_call {dst : Option Tmp} {fo : Operand} {xs : List Operand} {ts : Array TypeId} {f : FuncId} {fn : Func} {vs first cap : List Value} {v : Value} (hfo : look env fo = some (.func (.func f) first.toArray cap.toArray)) (hxs : looks env xs = some vs)
    (hf0 : P.funcs[f]? = some fn) (hb0 : fn.body.isNone = false) (hn0 : (fn.name == "runtime.NumGoroutine") = false) (hB : B ≤ w0.w.heap.size)
    (hc : ∀ w, Mem B w0 H w → Calls P f (first ++ vs ++ cap).toArray w fun e w' => e = .returned v ∧ Below w.heap.size w w') :
    Still1 P B w0 N D ⟨dst, .call { callee := .value fo, args := xs.toArray, argTypes := ts }, ty, pos, after, g⟩ env H v := fun a w hf hm => by
  have hrun : (execOp a.eval ⟨dst, .call { callee := .value fo, args := xs.toArray, argTypes := ts }, ty, pos, after, g⟩).run P w = .ok (.enter f (first ++ vs ++ cap).toArray) w := by
    have h1 : (xs.toArray.map a.eval) = vs.toArray := by rw [List.map_toArray, hf.evals hxs]
    simp only [execOp, resolve, hf.eval hfo, h1, Deferred.ofValue, Sem.run_bind, Sem.run_pure, Result.andThen_ok, invoke]
    rw [runs_callFunc hf0 hb0 hn0]
    simp
  unfold Oper.quietAt
  rw [hrun]
  exact ⟨rfl, (hc w hm).mono fun _ _ ⟨he, hb⟩ => ⟨he, hm.call hB hb⟩⟩
end ops

/-! ### Entering and leaving a function -/
section enter
variable {P : Program} {f : FuncId} {fn : Func} {c : Code} {w : World} {R : Ending → World → Prop}

def envOf : Nat → List Value → Env
  | _, [] => []
  | i, v :: r => (i, v) :: envOf (i + 1) r
theorem find_envOf : ∀ (vs : List Value) (i t : Nat) (v : Value), find (envOf i vs) t = some v → i ≤ t ∧ vs[t - i]? = some v
  | [], _, _, _, h => by cases h
  | u :: r, i, t, v, h => by
    by_cases hi : i = t
    · subst hi
      rw [envOf, find_cons_same] at h
      simpa using h
    · rw [envOf, find_cons_ne hi] at h
      obtain ⟨h1, h2⟩ := find_envOf r (i + 1) t v h
      refine ⟨by omega, ?_⟩
      rw [show t - i = (t - (i + 1)) + 1 by omega]
      simpa using h2
theorem enter_at {B : Nat} {w0 : Base} {H : Hp} {N : Nat} {args : List Value} (hf : P.funcs[f]? = some fn) (hb : fn.body = some c) (hn : fn.ntmps = N) (ha : args.length ≤ N) (hm : Mem B w0 H w)
    (h : Sx P B w0 N [] c (envOf 0 args) H (bodyPost P fn R)) : Calls P f args.toArray w R := by
  refine calls_of_wp hf hb (h _ _ ⟨rfl, ?_, ?_⟩ hm)
  · rw [hn]; simp; omega
  · intro t v hv
    obtain ⟨_, h2⟩ := find_envOf args 0 t v hv
    have hl : t < args.length := by
      rcases Nat.lt_or_ge t args.length with h | h
      · exact h
      · rw [List.getElem?_eq_none (by simpa using h)] at h2; cases h2
    rw [Array.getElem?_append_left (by simpa using hl)]
    simpa using h2
theorem enter {N : Nat} {args : List Value} (hf : P.funcs[f]? = some fn) (hb : fn.body = some c) (hn : fn.ntmps = N) (ha : args.length ≤ N)
    (h : Sx P w.heap.size ⟨w, []⟩ N [] c (envOf 0 args) [] (bodyPost P fn R)) : Calls P f args.toArray w R :=
  enter_at hf hb hn ha (Mem.start w) h

variable {B : Nat} {w0 : Base} {N : Nat} {env : Env} {H : Hp}
theorem E_ret0 (hr : fn.results = #[]) (h : ∀ w, Mem B w0 H w → R (.returned (.tuple #[])) w) : Ex B w0 N [] env H (bodyPost P fn R .ret) :=
  fun _ w hf hm => bodyPost_ret (results_none hr _ _ _) hf.defs (h w hm)
theorem E_end0 (hr : fn.results = #[]) (h : ∀ w, Mem B w0 H w → R (.returned (.tuple #[])) w) : Ex B w0 N [] env H (bodyPost P fn R .normal) :=
  fun _ w hf hm => bodyPost_end (results_none hr _ _ _) hf.defs (h w hm)
theorem E_ret1 {t : Nat} {v : Value} (hr : fn.results = #[.tmp t]) (hv : find env t = some v) (h : ∀ w, Mem B w0 H w → R (.returned v) w) : Ex B w0 N [] env H (bodyPost P fn R .ret) :=
  fun a w hf hm => bodyPost_ret (v := v) (by have := hf.at_ t v hv; simp [results, hr, this]) hf.defs (h w hm)
theorem E_ret2 {t u : Nat} {v x : Value} (hr : fn.results = #[.tmp t, .tmp u]) (hv : find env t = some v) (hx : find env u = some x) (h : ∀ w, Mem B w0 H w → R (.returned (.tuple #[v, x])) w) : Ex B w0 N [] env H (bodyPost P fn R .ret) :=
  fun a w hf hm => bodyPost_ret (v := .tuple #[v, x]) (by have h1 := hf.at_ t v hv; have h2 := hf.at_ u x hx; simp [results, hr, h1, h2]) hf.defs (h w hm)
theorem E_ret3 {t u s : Nat} {v x y : Value} (hr : fn.results = #[.tmp t, .tmp u, .tmp s]) (hv : find env t = some v) (hx : find env u = some x) (hy : find env s = some y) (h : ∀ w, Mem B w0 H w → R (.returned (.tuple #[v, x, y])) w) : Ex B w0 N [] env H (bodyPost P fn R .ret) :=
  fun a w hf hm => bodyPost_ret (v := .tuple #[v, x, y]) (by have h1 := hf.at_ t v hv; have h2 := hf.at_ u x hx; have h3 := hf.at_ s y hy; simp [results, hr, h1, h2, h3]) hf.defs (h w hm)
/-- A result that lies in a block of its own: an array, a struct. -/
theorem E_retRow {t ty n : Nat} {b : Nat} {cs : List Value} {et : TypeId} {fr : Nat × Nat} (hr : fn.results = #[.cell t ty]) (hv : find env t = some (.pointer (some ⟨b, 0, none⟩))) (hH : (b, Obj.cells cs.toArray et fr) ∈ H)
    (hrow : Row P ty n) (hl : cs.length = n) (h : ∀ w, Mem B w0 H w → R (.returned (.agg cs.toArray)) w) : Ex B w0 N [] env H (bodyPost P fn R .ret) :=
  fun a w hf hm => bodyPost_ret (v := .agg cs.toArray) (by
    obtain ⟨d, hu, hd, hi⟩ := hrow
    rw [← hl] at hi
    have h1 := hf.at_ t _ hv
    have hg := (hm.own _ hH).2
    exact results_cell_row hr a.tmps w b et cs.toArray fr d (by simp [h1]) hg hu (by cases d <;> first | rfl | cases hd) (by simpa using hi)) hf.defs (h w hm)
end enter
end Go.K
