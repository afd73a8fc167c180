/-
  What an argument is, out of its reading: a slice of sums.
-/
import Derived.Test.YtfdlafjifjndeaaK16
namespace Go.K
open Go Go.RowKit Go.ChangeShapes Go.WideShapes Go.ChangeAt
theorem all_bytes : ∀ (cs : List Value), (∀ i, i < cs.length → ∃ b : UInt8, cs[i]? = some (.int .u8 (b.toNat : Int))) → ∃ xs : List UInt8, cs = bytesV xs := by
  intro cs
  induction cs with
  | nil => exact fun _ => ⟨[], rfl⟩
  | cons c cs ih =>
    intro h
    obtain ⟨b, hb⟩ := h 0 (by simp)
    obtain ⟨xs, hxs⟩ := ih fun i hi => by obtain ⟨b, hb⟩ := h (i + 1) (by simpa using hi); exact ⟨b, by simpa using hb⟩
    simp only [List.getElem?_cons_zero, Option.some.injEq] at hb
    exact ⟨b :: xs, by rw [hb, hxs]; rfl⟩
theorem Sums.cell {l : List (List UInt8)} (h : Sums l) : ∀ (i j : Nat), i < l.length → j < 32 → (sumsV l)[i * 32 + j]? = (bytesV (l.getD i []))[j]? := by
  intro i j hi hj
  have h1 := h.flat_drop i (by omega)
  have h2 : (l.drop i) = l.getD i [] :: l.drop (i + 1) := by
    rw [List.getD_eq_getElem?_getD, List.getElem?_eq_getElem hi, List.drop_eq_getElem_cons hi]
    rfl
  have hx : (l.getD i []).length = 32 := h _ (by rw [List.getD_eq_getElem?_getD, List.getElem?_eq_getElem hi]; exact List.getElem_mem hi)
  unfold sumsV bytesV
  rw [List.getElem?_map, List.getElem?_map, ← List.getElem?_drop, h1, h2, List.flatten_cons, List.getElem?_append_left (by omega)]
section opens
variable {HT : Type} {enc : TypeId × Value → HT} {P : Program} {w : World} {base b0 : Nat} {spare : Nat → Bool} {held : Bool} {r : Reach} {t e u : TypeId} {v : Value} {d : DataW HT} {ps : List MemPlace}
theorem open_sum {k n : Nat} {cs : List Value} {x : DataW HT × List MemPlace} (he : P.underlying e = some (.array k u)) (hu : P.underlying u = some (.int .u8)) (hce : P.cellsOf e = k) (hcu : P.cellsOf u = 1) (h : DataW.trod enc P w base spare held n e cs = some x) : ∃ xs : List UInt8, cs = bytesV xs ∧ xs.length = k := by
  obtain ⟨ys, m, _, _, hsz, hyl, hget⟩ := DataW.trod_array he h
  rw [hce] at hsz
  simp only [hcu, Nat.mul_one] at hget
  obtain ⟨xs, rfl⟩ := all_bytes cs fun i hi => by
    have h1 := hget i (by omega)
    rw [List.getElem?_eq_getElem (by omega)] at h1
    obtain ⟨z, hz, _, hw⟩ := DataW.trod_int hu h1
    obtain ⟨b, rfl⟩ := wf_u8 hw
    refine ⟨b, ?_⟩
    have h2 : ((cs.drop i).take 1)[0]? = some (.int .u8 (b.toNat : Int)) := by rw [hz]; rfl
    rw [List.getElem?_take_of_lt (by omega), List.getElem?_drop] at h2
    exact h2
  exact ⟨xs, rfl, by rw [bytesV_length] at hsz; exact hsz⟩
/-- A slice of sums. -/
theorem arg_sums (ht : P.underlying t = some (.slice e)) (he : P.underlying e = some (.array 32 u)) (hu : P.underlying u = some (.int .u8)) (hce : P.cellsOf e = 32) (hcu : P.cellsOf u = 1) (hv : Value.okWide P w r b0 t v) (h : DataW.Trod enc P w base spare held t v d ps) :
    ∃ (A : Option Addr) (c : Nat) (l : List (List UInt8)), v = .slice A l.length c ∧ ReadsS w A l ∧ l.length ≤ c ∧ c ≤ maxLen := by
  obtain ⟨A, n, c, rfl⟩ := okWide_slice ht hv
  obtain ⟨fuel, hf⟩ := h
  rcases Deep.open_slice ht hf with ⟨hcs, _⟩ | ⟨a, len, cap, m, k, D, Pl, hcs, _, hl, hm, hmm, hxx, hel⟩
  · simp [Value.cells] at hcs
    obtain ⟨rfl, rfl, rfl⟩ := hcs
    exact ⟨none, 0, [], rfl, ReadsS.nil w, Nat.le_refl _, by unfold maxLen; omega⟩
  · simp [Value.cells] at hcs
    obtain ⟨rfl, rfl, rfl⟩ := hcs
    have hlm : n ≤ m := by rw [hmm]; split <;> omega
    obtain ⟨l, hll, hp⟩ := list_of_each (p := fun i (x : List UInt8) => (∀ j, j < 32 → w.cell? ((a.add (i * 32)).add j) = (bytesV x)[j]?) ∧ x.length = 32) n fun i hi => by
      obtain ⟨cs', h1, h2⟩ := hel i (by omega)
      obtain ⟨xs, rfl, hx⟩ := open_sum he hu hce hcu h2
      rw [hce] at h1
      exact ⟨xs, fun j hj => (World.cells?_some h1).2.2 j hj, hx⟩
    have hs : Sums l := fun x hx => by
      obtain ⟨j, hj⟩ := List.getElem?_of_mem hx
      exact (hp j x hj).2
    refine ⟨some a, c, l, by rw [hll], ⟨hs, by unfold sumsV; rw [bytesV_length, hs.flat], fun hn => ?_⟩, by omega, hm⟩
    obtain ⟨b, off, spot⟩ := a
    obtain ⟨s0, hs0⟩ : ∃ s, l[0]? = some s := ⟨_, List.getElem?_eq_getElem (by omega)⟩
    have hc0 := (hp 0 s0 hs0).1 0 (by omega)
    have hx0 := (hp 0 s0 hs0).2
    rw [bytesV_get (by omega)] at hc0
    have hspot : spot = none := by simpa [Addr.add] using World.cell?_spot hc0
    subst hspot
    refine ⟨b, off, rfl, World.block_lt_of_cell? w (⟨b, off, none⟩ : Addr) (by simpa [Addr.add] using hc0), fun q y hy => ?_⟩
    have hq : q < l.length * 32 := by
      rcases Nat.lt_or_ge q (l.length * 32) with h | h
      · exact h
      · rw [List.getElem?_eq_none (by unfold sumsV; rw [bytesV_length, hs.flat]; omega)] at hy; cases hy
    have hi : q / 32 < l.length := by omega
    have hq2 : q = q / 32 * 32 + q % 32 := by omega
    rw [hq2, hs.cell (q / 32) (q % 32) hi (by omega)] at hy
    have hj := (hp (q / 32) (l.getD (q / 32) []) (by rw [List.getD_eq_getElem?_getD, List.getElem?_eq_getElem hi]; rfl)).1 (q % 32) (by omega)
    rw [hy] at hj
    simp only [Addr.add_mid] at hj
    rw [← hj]
    congr 2
    omega
end opens
end Go.K
