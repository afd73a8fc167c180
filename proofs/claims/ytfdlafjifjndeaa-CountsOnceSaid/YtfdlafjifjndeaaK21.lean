/-
  What an argument is, out of its reading: structs, field by field; slices of structs. Plain theorems, over any program.
-/
import Derived.Test.YtfdlafjifjndeaaK20
namespace Go.K
open Go Go.RowKit Go.ChangeShapes Go.WideShapes Go.ChangeAt
theorem part_cons {cs p q : List Value} {o s : Nat} (h : (cs.drop o).take s = p) (hr : cs.drop (o + s) = q) : cs.drop o = p ++ q := by
  rw [← h, ← hr, ← List.drop_drop]; exact (List.take_append_drop s _).symm
theorem part_nil {cs : List Value} {o : Nat} (h : cs.length = o) : cs.drop o = [] := List.drop_eq_nil_of_le (by omega)
theorem part_last {cs p : List Value} {o s : Nat} (h : (cs.drop o).take s = p) (hl : cs.length = o + s) : cs.drop o = p := by
  rw [← h, List.take_of_length_le (by rw [List.length_drop]; omega)]
theorem part_all {cs q : List Value} (h : cs.drop 0 = q) : cs = q := by simpa using h
theorem flat_cell {α : Type} (f : α → List Value) (s : Nat) : ∀ (l : List α), (∀ a ∈ l, (f a).length = s) → ∀ (i j : Nat) (a : α), l[i]? = some a → j < s → (l.flatMap f)[i * s + j]? = (f a)[j]?
  | [], _, i, j, a, h, _ => by simp at h
  | x :: l, hs, 0, j, a, h, hj => by
    simp only [List.getElem?_cons_zero, Option.some.injEq] at h
    subst h
    have := hs x (by simp)
    rw [List.flatMap_cons, Nat.zero_mul, Nat.zero_add, List.getElem?_append_left (by omega)]
  | x :: l, hs, i + 1, j, a, h, hj => by
    have := hs x (by simp)
    have ih := flat_cell f s l (fun b hb => hs b (by simp [hb])) i j a (by simpa using h) hj
    rw [List.flatMap_cons, List.getElem?_append_right (by rw [this, Nat.add_mul]; omega), ← ih]
    congr 1
    rw [this, Nat.add_mul]; omega
theorem flat_length {α : Type} (f : α → List Value) (s : Nat) : ∀ (l : List α), (∀ a ∈ l, (f a).length = s) → (l.flatMap f).length = l.length * s
  | [], _ => by simp
  | x :: l, hs => by
    have := hs x (by simp)
    rw [List.flatMap_cons, List.length_append, this, flat_length f s l (fun b hb => hs b (by simp [hb])), List.length_cons, Nat.add_mul]; omega
section opens
variable {HT : Type} {enc : TypeId × Value → HT} {P : Program} {w : World} {base b0 : Nat} {spare : Nat → Bool} {held : Bool} {r : Reach} {t e u : TypeId} {v : Value} {d : DataW HT} {ps : List MemPlace}
/-- one field's own reading -/
theorem fld {n i o s : Nat} {fs : Array Field} {f : Field} {ty : TypeId} {cs : List Value} {xs : List (DataW HT × List MemPlace)} (hget : ∀ (i : Nat) (f : Field), fs[i]? = some f → DataW.trod enc P w base spare held n f.type ((cs.drop f.offset).take (P.cellsOf f.type)) = xs[i]?)
    (hxl : xs.length = fs.size) (hi : fs[i]? = some f) (ho : f.offset = o) (hty : f.type = ty) (hc : P.cellsOf ty = s) : ∃ x, DataW.trod enc P w base spare held n ty ((cs.drop o).take s) = some x := by
  have h := hget i f hi
  rw [ho, hty, hc] at h
  have hl : i < xs.length := by rw [hxl]; exact (Array.getElem?_eq_some_iff.1 hi).1
  rw [List.getElem?_eq_getElem hl] at h
  exact ⟨_, h⟩
theorem open_u8 {n : Nat} {cs : List Value} {x : DataW HT × List MemPlace} (he : P.underlying e = some (.int .u8)) (h : DataW.trod enc P w base spare held n e cs = some x) : ∃ b : UInt8, cs = [.int .u8 (b.toNat : Int)] := by
  obtain ⟨z, hz, _, hw⟩ := DataW.trod_int he h
  obtain ⟨b, rfl⟩ := wf_u8 hw
  exact ⟨b, hz⟩
theorem open_u32 {n : Nat} {cs : List Value} {x : DataW HT × List MemPlace} (he : P.underlying e = some (.int .u32)) (h : DataW.trod enc P w base spare held n e cs = some x) : ∃ b : UInt32, cs = [.int .u32 (b.toNat : Int)] := by
  obtain ⟨z, hz, _, hw⟩ := DataW.trod_int he h
  obtain ⟨b, rfl⟩ := wf_u32 hw
  exact ⟨b, hz⟩
theorem open_u64 {n : Nat} {cs : List Value} {x : DataW HT × List MemPlace} (he : P.underlying e = some (.int .u64)) (h : DataW.trod enc P w base spare held n e cs = some x) : ∃ b : UInt64, cs = [.int .u64 (b.toNat : Int)] := by
  obtain ⟨z, hz, _, hw⟩ := DataW.trod_int he h
  obtain ⟨b, rfl⟩ := wf_u64 hw
  exact ⟨b, hz⟩
theorem open_i64 {n : Nat} {cs : List Value} {x : DataW HT × List MemPlace} (he : P.underlying e = some (.int .i64)) (h : DataW.trod enc P w base spare held n e cs = some x) : ∃ z : Int, cs = [.int .i64 z] ∧ -9223372036854775808 ≤ z ∧ z ≤ 9223372036854775807 := by
  obtain ⟨z, hz, _, hw⟩ := DataW.trod_int he h
  exact ⟨z, hz, wf_i64 hw⟩
/-- one cell that holds a slice of bytes -/
theorem open_bytes {n : Nat} {cs : List Value} {x : DataW HT × List MemPlace} (ht : P.underlying e = some (.slice u)) (he : P.underlying u = some (.int .u8)) (hce : P.cellsOf u = 1) (h : DataW.trod enc P w base spare held n e cs = some x) :
    ∃ (A : Option Addr) (c : Nat) (xs : List UInt8), cs = [.slice A xs.length c] ∧ Reads w A xs.length (bytesV xs) ∧ xs.length ≤ c ∧ c ≤ maxLen := by
  rcases open_ints ht he hce h with ⟨hcs, _⟩ | ⟨a, len, cap, zs, hcs, _, hl, hm, hz, hx, hcell, hwz⟩
  · exact ⟨none, 0, [], hcs, Reads.nil w, Nat.le_refl _, Nat.zero_le _⟩
  · have hzl : len ≤ zs.length := by rw [hz]; split <;> omega
    obtain ⟨xs, h1, h2⟩ := bytes_of_ints (zs.take len) (fun z hz => hwz z (List.mem_of_mem_take hz))
    have hxl : xs.length = len := by rw [h2, List.length_take]; omega
    refine ⟨some a, cap, xs, by rw [hcs, hxl], ⟨by rw [bytesV_length], fun hn => ?_⟩, by omega, hm⟩
    obtain ⟨b, off, spot⟩ := a
    have hc0 := hcell 0 (by omega)
    have hspot : spot = none := by simpa [Addr.add] using World.cell?_spot hc0
    subst hspot
    refine ⟨b, off, rfl, World.block_lt_of_cell? w (⟨b, off, none⟩ : Addr) (by simpa [Addr.add] using hc0), fun j y hy => ?_⟩
    rw [← h1] at hy
    have hj : j < len := by
      rcases Nat.lt_or_ge j len with h | h
      · exact h
      · rw [List.getElem?_eq_none (by simp; omega)] at hy; cases hy
    have hcj := hcell j (by omega)
    rw [Addr.add_mid] at hcj
    rw [hcj]
    have hz : (zs.take len)[j]? = some (zs.getD j 0) := by
      rw [List.getElem?_take_of_lt hj, List.getElem?_eq_getElem (by omega)]
      simp [List.getElem?_eq_getElem (show j < zs.length by omega)]
    rw [List.getElem?_map, hz] at hy
    simpa using hy
/-- a row of sums -/
theorem open_sumRow {n k : Nat} {cs : List Value} {x : DataW HT × List MemPlace} (ht : P.underlying t = some (.array k e)) (he : P.underlying e = some (.array 32 u)) (hu : P.underlying u = some (.int .u8)) (hce : P.cellsOf e = 32) (hcu : P.cellsOf u = 1) (hct : P.cellsOf t = k * 32) (h : DataW.trod enc P w base spare held n t cs = some x) :
    ∃ l : List (List UInt8), cs = sumsV l ∧ Sums l ∧ l.length = k := by
  obtain ⟨ys, m, _, _, hsz, hyl, hget⟩ := DataW.trod_array ht h
  rw [hct] at hsz
  simp only [hce] at hget
  obtain ⟨l, hll, hp⟩ := list_of_each (p := fun i (x : List UInt8) => (cs.drop (i * 32)).take 32 = bytesV x ∧ x.length = 32) k fun i hi => by
    have h1 := hget i hi
    rw [List.getElem?_eq_getElem (by omega)] at h1
    exact open_sum he hu hce hcu h1
  have hs : Sums l := fun x hx => by
    obtain ⟨j, hj⟩ := List.getElem?_of_mem hx
    exact (hp j x hj).2
  refine ⟨l, ?_, hs, hll⟩
  apply List.ext_getElem?
  intro q
  rcases Nat.lt_or_ge q (k * 32) with hq | hq
  · have hi : q / 32 < l.length := by omega
    have hq2 : q = q / 32 * 32 + q % 32 := by omega
    have hj := (hp (q / 32) (l.getD (q / 32) []) (by rw [List.getD_eq_getElem?_getD, List.getElem?_eq_getElem hi]; rfl)).1
    rw [hq2, hs.cell (q / 32) (q % 32) hi (by omega), ← hj, List.getElem?_take_of_lt (by omega), List.getElem?_drop]
  · rw [List.getElem?_eq_none (by omega), List.getElem?_eq_none (by rw [sumsV_length hs]; omega)]
/-- two numbers, as cells -/
def pairV (p : Int × Int) : List Value := [.int .i64 p.1, .int .i64 p.2]
def pairOk (p : Int × Int) : Prop := (-9223372036854775808 ≤ p.1 ∧ p.1 ≤ 9223372036854775807) ∧ -9223372036854775808 ≤ p.2 ∧ p.2 ≤ 9223372036854775807
theorem pair_cell (p : Int × Int) (_ : pairOk p) (j : Nat) (hj : j < 2) : ∃ y, (pairV p)[j]? = some y := by
  match j, hj with
  | 0, _ => exact ⟨_, rfl⟩
  | 1, _ => exact ⟨_, rfl⟩
theorem open_pair {n : Nat} {cs : List Value} {x : DataW HT × List MemPlace} {f0 f1 : Field} (ht : P.underlying e = some (.struct #[f0, f1])) (hu : P.underlying u = some (.int .i64)) (hc : P.cellsOf u = 1) (hce : P.cellsOf e = 2) (h0 : (f0.type, f0.offset) = (u, 0)) (h1 : (f1.type, f1.offset) = (u, 1)) (h : DataW.trod enc P w base spare held n e cs = some x) :
    ∃ p : Int × Int, cs = pairV p ∧ pairOk p := by
  obtain ⟨ys, m, _, _, hl, hy, hg⟩ := DataW.trod_struct ht h
  simp only [Prod.mk.injEq] at h0 h1
  obtain ⟨x0, r0⟩ := fld (i := 0) (o := 0) (s := 1) (ty := u) hg hy rfl h0.2 h0.1 hc
  obtain ⟨x1, r1⟩ := fld (i := 1) (o := 1) (s := 1) (ty := u) hg hy rfl h1.2 h1.1 hc
  obtain ⟨a, ea, la⟩ := open_i64 hu r0
  obtain ⟨b, eb, lb⟩ := open_i64 hu r1
  exact ⟨(a, b), part_all (part_cons ea (part_last eb (by rw [hl, hce]))), la, lb⟩
/-- A slice whose elements are rows of s cells, each of them told by its own reading. -/
theorem arg_rows {α : Type} (f : α → List Value) (okA : α → Prop) {s : Nat} (hs0 : 0 < s) (hlen : ∀ a, okA a → (f a).length = s) (ht : P.underlying t = some (.slice e)) (hce : P.cellsOf e = s)
    (hel : ∀ (n : Nat) (cs : List Value) (x : DataW HT × List MemPlace), DataW.trod enc P w base spare held n e cs = some x → ∃ a, cs = f a ∧ okA a) (hone : ∀ a, okA a → ∀ j, j < s → ∃ y, (f a)[j]? = some y) (hv : Value.okWide P w r b0 t v) (h : DataW.Trod enc P w base spare held t v d ps) :
    ∃ (A : Option Addr) (c : Nat) (l : List α), v = .slice A l.length c ∧ Reads w A (l.length * s) (l.flatMap f) ∧ (∀ a ∈ l, okA a) ∧ l.length ≤ c ∧ c ≤ maxLen := by
  obtain ⟨A, n, c, rfl⟩ := okWide_slice ht hv
  obtain ⟨fuel, hf⟩ := h
  rcases Deep.open_slice ht hf with ⟨hcs, _⟩ | ⟨a, len, cap, m, k, D, Pl, hcs, _, hl, hm, hmm, hxx, hel2⟩
  · simp [Value.cells] at hcs
    obtain ⟨rfl, rfl, rfl⟩ := hcs
    exact ⟨none, 0, [], rfl, by simpa using Reads.nil w, fun a ha => (by cases ha), Nat.le_refl _, by unfold maxLen; omega⟩
  · simp [Value.cells] at hcs
    obtain ⟨rfl, rfl, rfl⟩ := hcs
    have hlm : n ≤ m := by rw [hmm]; split <;> omega
    obtain ⟨l, hll, hp⟩ := list_of_each (p := fun i (x : α) => (∀ j, j < s → w.cell? ((a.add (i * s)).add j) = (f x)[j]?) ∧ okA x) n fun i hi => by
      obtain ⟨cs', h1, h2⟩ := hel2 i (by omega)
      obtain ⟨x, rfl, hx⟩ := hel _ _ _ h2
      rw [hce] at h1
      exact ⟨x, fun j hj => (World.cells?_some h1).2.2 j hj, hx⟩
    have hok : ∀ x ∈ l, okA x := fun x hx => by
      obtain ⟨j, hj⟩ := List.getElem?_of_mem hx
      exact (hp j x hj).2
    have hfl := flat_length f s l (fun x hx => hlen x (hok x hx))
    refine ⟨some a, c, l, by rw [hll], ⟨hfl, fun hn => ?_⟩, hok, by omega, hm⟩
    obtain ⟨b, off, spot⟩ := a
    have hl0 : 0 < l.length := by
      rcases Nat.eq_zero_or_pos l.length with h | h
      · rw [h, Nat.zero_mul] at hn; exact absurd rfl hn
      · exact h
    obtain ⟨s0, hs0'⟩ : ∃ s, l[0]? = some s := ⟨_, List.getElem?_eq_getElem hl0⟩
    obtain ⟨h1, h2⟩ := hp 0 s0 hs0'
    obtain ⟨y0, hy0⟩ := hone s0 h2 0 hs0
    have hc0 := h1 0 hs0
    rw [hy0] at hc0
    have hspot : spot = none := by simpa [Addr.add] using World.cell?_spot hc0
    subst hspot
    refine ⟨b, off, rfl, World.block_lt_of_cell? w (⟨b, off, none⟩ : Addr) (by simpa [Addr.add] using hc0), fun q y hy => ?_⟩
    have hq : q < l.length * s := by
      rcases Nat.lt_or_ge q (l.length * s) with h | h
      · exact h
      · rw [List.getElem?_eq_none (by omega)] at hy; cases hy
    have hi : q / s < l.length := (Nat.div_lt_iff_lt_mul hs0).2 hq
    have hq2 : q = q / s * s + q % s := by rw [Nat.mul_comm]; exact (Nat.div_add_mod q s).symm
    have hms := Nat.mod_lt q hs0
    obtain ⟨x, hx⟩ : ∃ x, l[q / s]? = some x := ⟨_, List.getElem?_eq_getElem hi⟩
    rw [hq2, flat_cell f s l (fun x hx => hlen x (hok x hx)) (q / s) (q % s) x hx hms] at hy
    have hj := (hp (q / s) x hx).1 (q % s) hms
    rw [hy] at hj
    simp only [Addr.add_mid] at hj
    rw [← hj]
    congr 2
    omega
end opens
end Go.K
