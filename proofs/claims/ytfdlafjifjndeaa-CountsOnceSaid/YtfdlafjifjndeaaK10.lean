/-
  What an argument is, out of its reading: slices of slices of bytes.
-/
import Derived.Test.YtfdlafjifjndeaaK9
import Derived.Deep.Slices
import Derived.SizedLaws
namespace Go.K
open Go Go.RowKit Go.ChangeShapes Go.WideShapes Go.ChangeAt

/-- a slice of bytes, as a value -/
structure Sl where
  A : Option Addr
  c : Nat
  xs : List UInt8
def Sl.val (s : Sl) : Value := .slice s.A s.xs.length s.c
def Sl.ok (w : World) (s : Sl) : Prop := Reads w s.A s.xs.length (bytesV s.xs) ∧ s.xs.length ≤ s.c ∧ s.c ≤ maxLen ∧ s.xs.length ≤ 140737488351232
theorem Sl.ok_base {w0 w : World} {H : Hp} {s : Sl} (h : s.ok w0) (hm : Mem w0.heap.size ⟨w0, []⟩ H w) : s.ok w := ⟨h.1.base hm, h.2⟩
theorem Sl.one (ls : List Sl) : ∀ v ∈ ls.map Sl.val, v.oneCell' = true := by
  intro v hv
  obtain ⟨s, _, rfl⟩ := List.mem_map.1 hv
  rfl
theorem Sl.get {ls : List Sl} {j : Nat} (h : j < ls.length) : (ls.map Sl.val)[j]? = some (ls[j]).val := by simp [h]

theorem list_of_each {α : Type} {p : Nat → α → Prop} : ∀ (n : Nat), (∀ i, i < n → ∃ x, p i x) → ∃ l : List α, l.length = n ∧ ∀ i x, l[i]? = some x → p i x
  | 0, _ => ⟨[], rfl, fun i x h => by simp at h⟩
  | n + 1, h => by
    obtain ⟨l, hl, hp⟩ := list_of_each n fun i hi => h i (by omega)
    obtain ⟨x, hx⟩ := h n (by omega)
    refine ⟨l ++ [x], by simp [hl], fun i y hy => ?_⟩
    rcases Nat.lt_or_ge i l.length with h1 | h1
    · rw [List.getElem?_append_left h1] at hy; exact hp i y hy
    · rw [List.getElem?_append_right h1] at hy
      have : i - l.length = 0 := by
        rcases Nat.eq_zero_or_pos (i - l.length) with h2 | h2
        · exact h2
        · rw [List.getElem?_eq_none (by simp; omega)] at hy; cases hy
      rw [this] at hy
      cases hy
      have e : i = n := by omega
      rw [e]; exact hx

section opens
variable {HT : Type} {enc : TypeId × Value → HT} {P : Program} {w : World} {base b0 : Nat} {spare : Nat → Bool} {held : Bool} {r : Reach} {t e u : TypeId} {v : Value} {d : DataW HT} {ps : List MemPlace}
/-- one cell that holds a slice of bytes -/
theorem open_sl {n : Nat} {cs : List Value} {x : DataW HT × List MemPlace} (ht : P.underlying e = some (.slice u)) (he : P.underlying u = some (.int .u8)) (hce : P.cellsOf u = 1) (hbu : P.bytesOf u = 1) (h : DataW.trod enc P w base spare held n e cs = some x) (hwt : ∀ n ∈ x.1.weights P e, n ≤ reachBytes) : ∃ s : Sl, cs = [s.val] ∧ s.ok w := by
  rcases open_ints ht he hce h with ⟨hcs, _⟩ | ⟨a, len, cap, zs, hcs, _, hl, hm, hz, hx, hcell, hwz⟩
  · exact ⟨⟨none, 0, []⟩, hcs, Reads.nil w, Nat.le_refl _, Nat.zero_le _, Nat.zero_le _⟩
  · have hzl : len ≤ zs.length := by rw [hz]; split <;> omega
    obtain ⟨xs, h1, h2⟩ := bytes_of_ints (zs.take len) (fun z hz => hwz z (List.mem_of_mem_take hz))
    have hxl : xs.length = len := by rw [h2, List.length_take]; omega
    refine ⟨⟨some a, cap, xs⟩, by rw [hcs, Sl.val, hxl], ⟨by rw [bytesV_length], fun hn => ?_⟩, by show xs.length ≤ cap; omega, hm, ?_⟩
    rotate_left
    · have hx1 : x.1 = .slice (lits .u8 (zs.take len)) (lits .u8 (zs.drop len)) := by rw [hx]
      have h3 := hwt (((zs.take len).length + (zs.drop len).length) * P.bytesOf u) (by rw [hx1]; simp [DataW.weights, ht, lits])
      rw [hbu, Nat.mul_one, List.length_take, List.length_drop] at h3
      unfold reachBytes at h3
      show xs.length ≤ _
      omega
    have hn : xs.length ≠ 0 := hn
    obtain ⟨b, off, spot⟩ := a
    have hc0 := hcell 0 (by omega)
    have hspot : spot = none := by simpa [Addr.add] using World.cell?_spot hc0
    subst hspot
    refine ⟨b, off, rfl, World.block_lt_of_cell? w (⟨b, off, none⟩ : Addr) (by simpa [Addr.add] using hc0), fun j y hy => ?_⟩
    have hy : (bytesV xs)[j]? = some y := hy
    rw [← h1] at hy
    have hj : j < len := by
      rcases Nat.lt_or_ge j len with h | h
      · exact h
      · rw [List.getElem?_eq_none (by simp; omega)] at hy; cases hy
    have hcj := hcell j (by omega)
    rw [Addr.add_mid] at hcj
    rw [hcj]
    have hz : (zs.take len)[j]? = some (zs.getD j 0) := by
      rw [List.getElem?_take_of_lt hj, List.getElem?_eq_getElem (by omega)]
      simp [List.getElem?_eq_getElem (show j < zs.length by omega)]
    rw [List.getElem?_map, hz] at hy
    simpa using hy
/-- A slice of slices of bytes. -/
theorem arg_slices (ht : P.underlying t = some (.slice e)) (he : P.underlying e = some (.slice u)) (hu : P.underlying u = some (.int .u8)) (hce : P.cellsOf e = 1) (hcu : P.cellsOf u = 1) (hbu : P.bytesOf u = 1) (hwt : ∀ n ∈ d.weights P t, n ≤ reachBytes) (hv : Value.okWide P w r b0 t v) (h : DataW.Trod enc P w base spare held t v d ps) :
    ∃ (A : Option Addr) (c : Nat) (ls : List Sl), v = .slice A ls.length c ∧ Reads w A ls.length (ls.map Sl.val) ∧ ls.length ≤ c ∧ c ≤ maxLen ∧ ∀ s ∈ ls, s.ok w := by
  obtain ⟨A, n, c, rfl⟩ := okWide_slice ht hv
  obtain ⟨fuel, hf⟩ := h
  rcases Deep.open_slice ht hf with ⟨hcs, _⟩ | ⟨a, len, cap, m, k, D, Pl, hcs, _, hl, hm, hmm, hxx, hel⟩
  · simp [Value.cells] at hcs
    obtain ⟨rfl, rfl, rfl⟩ := hcs
    exact ⟨none, 0, [], rfl, Reads.nil w, Nat.le_refl _, by unfold maxLen; omega, fun s hs => by cases hs⟩
  · simp [Value.cells] at hcs
    obtain ⟨rfl, rfl, rfl⟩ := hcs
    have hlm : n ≤ m := by rw [hmm]; split <;> omega
    obtain ⟨ls, hll, hp⟩ := list_of_each (p := fun i (s : Sl) => w.cell? (a.add i) = some s.val ∧ s.ok w) n fun i hi => by
      obtain ⟨cs', h1, h2⟩ := hel i (by omega)
      have hd : d = .slice ((List.range n).map D) ((List.range (m - n)).map fun j => D (n + j)) := congrArg Prod.fst hxx
      have hmem : ∀ (l : List Nat) (k : Nat), k ∈ l → ∀ q ∈ (D k).weights P e, q ∈ DataW.weightsAll P e (l.map D) := by
        intro l
        induction l with
        | nil => intro k hk; cases hk
        | cons y l ih =>
          intro k hk q hq
          simp only [List.map_cons, DataW.weightsAll, List.mem_append]
          rcases List.mem_cons.1 hk with rfl | hk
          · exact .inl hq
          · exact .inr (ih k hk q hq)
      obtain ⟨s, rfl, hs⟩ := open_sl he hu hcu hbu h2 (fun q hq => hwt q (by rw [hd]; simp only [DataW.weights, ht, List.mem_cons, List.mem_append]; exact .inr (.inl (hmem _ i (List.mem_range.2 hi) q hq))))
      rw [hce, Nat.mul_one] at h1
      exact ⟨s, cell_of_cells?_one h1, hs⟩
    refine ⟨some a, c, ls, by rw [hll], ⟨by simp, fun hn => ?_⟩, by omega, hm, fun s hs => ?_⟩
    · obtain ⟨b, off, spot⟩ := a
      obtain ⟨s0, hs0⟩ : ∃ s, ls[0]? = some s := ⟨_, List.getElem?_eq_getElem (by omega)⟩
      have hc0 := (hp 0 s0 hs0).1
      have hspot : spot = none := by simpa [Addr.add] using World.cell?_spot hc0
      subst hspot
      refine ⟨b, off, rfl, World.block_lt_of_cell? w (⟨b, off, none⟩ : Addr) (by simpa [Addr.add] using hc0), fun j y hy => ?_⟩
      rw [List.getElem?_map, Option.map_eq_some_iff] at hy
      obtain ⟨s, hs, rfl⟩ := hy
      have := (hp j s hs).1
      rwa [Addr.add_mid] at this
    · obtain ⟨j, hj⟩ := List.getElem?_of_mem hs
      exact (hp j s hj).2
end opens
end Go.K
