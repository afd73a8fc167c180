/-
  What an argument is, out of its reading: slices of bools; structs that hold one. Plain theorems, over any program.
-/
import Derived.Test.YtfdlafjifjndeaaK27
import Derived.ChangeArms
namespace Go.K
open Go Go.RowKit Go.ChangeShapes Go.WideShapes Go.ChangeAt
def boolsV (l : List Bool) : List Value := l.flatMap fun b => [Value.bool b]
theorem boolsV_length (l : List Bool) : (boolsV l).length = l.length := by
  have := flat_length (fun b : Bool => [Value.bool b]) 1 l (fun _ _ => rfl)
  rw [Nat.mul_one] at this
  exact this
theorem boolsV_get {l : List Bool} {j : Nat} (h : j < l.length) : (boolsV l)[j]? = some (.bool (l.getD j false)) := by
  have h1 := flat_cell (fun b : Bool => [Value.bool b]) 1 l (fun _ _ => rfl) j 0 l[j] (List.getElem?_eq_getElem h) (by omega)
  rw [Nat.mul_one, Nat.add_zero] at h1
  rw [List.getD_eq_getElem?_getD, List.getElem?_eq_getElem h]
  exact h1
theorem bool_cell (b : Bool) (_ : True) (j : Nat) (hj : j < 1) : ∃ y, [Value.bool b][j]? = some y := by
  match j, hj with
  | 0, _ => exact ⟨_, rfl⟩
section ops
variable {P : Program} {B : Nat} {w0 : Base} {N : Nat} {D : List Deferred} {env : Env} {H : Hp} {dst : Option Nat} {ty : TypeId} {pos : String} {after : Array Edge} {g : Option (Nat × Bool)}
/-- a row loaded that stands in what was there before -/
theorem p_loadRowBase {t : TypeId} {x : Operand} {b off n : Nat} {r : List Value} (hx : look env x = some (.pointer (some ⟨b, off, none⟩))) (hrow : Row P t n) (hl : r.length = n) (hb : b < B) (hbs : b ∉ w0.bs)
    (hc : ∀ j v, r[j]? = some v → w0.w.cell? ⟨b, off + j, none⟩ = some v) : Pure1 P B w0 N D ⟨dst, .load t x, ty, pos, after, g⟩ env H (.agg r.toArray) := fun a w hf hm => by
  obtain ⟨d, ht, hd, hi⟩ := hrow
  rw [← hl] at hi
  have h1 := run_loadAt_mid (P := P) w b off t r d (fun j v hv => (hm.base (p := ⟨b, off + j, none⟩) hb hbs).trans (hc j v hv)) ht hd hi
  simp only [execOp, hf.eval hx, Sem.run_bind, h1, Result.andThen_ok, Sem.run_pure]
end ops
section opens
variable {HT : Type} {enc : TypeId × Value → HT} {P : Program} {w : World} {base b0 : Nat} {spare : Nat → Bool} {held : Bool} {r : Reach} {t e u : TypeId} {v : Value} {d : DataW HT} {ps : List MemPlace}
theorem open_bool {n : Nat} {cs : List Value} {x : DataW HT × List MemPlace} (he : P.underlying e = some .bool) (h : DataW.trod enc P w base spare held n e cs = some x) : ∃ b : Bool, cs = [.bool b] ∧ True := by
  obtain ⟨b, hb, _⟩ := DataW.trod_bool he h
  exact ⟨b, hb, trivial⟩
/-- One cell that holds a slice whose elements are rows of s cells. -/
theorem open_rows {α : Type} (f : α → List Value) (okA : α → Prop) {s : Nat} (hs0 : 0 < s) (hlen : ∀ a, okA a → (f a).length = s) (ht : P.underlying t = some (.slice e)) (hce : P.cellsOf e = s)
    (hel : ∀ (n : Nat) (cs : List Value) (x : DataW HT × List MemPlace), DataW.trod enc P w base spare held n e cs = some x → ∃ a, cs = f a ∧ okA a) (hone : ∀ a, okA a → ∀ j, j < s → ∃ y, (f a)[j]? = some y) {n0 : Nat} {cs : List Value} {x0 : DataW HT × List MemPlace} (hf : DataW.trod enc P w base spare held n0 t cs = some x0) :
    ∃ (A : Option Addr) (c : Nat) (l : List α), cs = [.slice A l.length c] ∧ Reads w A (l.length * s) (l.flatMap f) ∧ (∀ a ∈ l, okA a) ∧ l.length ≤ c ∧ c ≤ maxLen := by
  rcases Deep.open_slice ht hf with ⟨hcs, _⟩ | ⟨a, n, c, m, k, D, Pl, hcs, _, hl, hm, hmm, hxx, hel2⟩
  · exact ⟨none, 0, [], hcs, by simpa using Reads.nil w, fun a ha => (by cases ha), Nat.le_refl _, by unfold maxLen; omega⟩
  · have hlm : n ≤ m := by rw [hmm]; split <;> omega
    obtain ⟨l, hll, hp⟩ := list_of_each (p := fun i (x : α) => (∀ j, j < s → w.cell? ((a.add (i * s)).add j) = (f x)[j]?) ∧ okA x) n fun i hi => by
      obtain ⟨cs', h1, h2⟩ := hel2 i (by omega)
      obtain ⟨x, rfl, hx⟩ := hel _ _ _ h2
      rw [hce] at h1
      exact ⟨x, fun j hj => (World.cells?_some h1).2.2 j hj, hx⟩
    have hok : ∀ x ∈ l, okA x := fun x hx => by
      obtain ⟨j, hj⟩ := List.getElem?_of_mem hx
      exact (hp j x hj).2
    have hfl := flat_length f s l (fun x hx => hlen x (hok x hx))
    refine ⟨some a, c, l, by rw [hcs, hll], ⟨hfl, fun hn => ?_⟩, hok, by omega, hm⟩
    obtain ⟨b, off, spot⟩ := a
    have hl0 : 0 < l.length := by
      rcases Nat.eq_zero_or_pos l.length with h | h
      · rw [h, Nat.zero_mul] at hn; exact absurd rfl hn
      · exact h
    obtain ⟨s0, hs0'⟩ : ∃ s, l[0]? = some s := ⟨_, List.getElem?_eq_getElem hl0⟩
    obtain ⟨h1, h2⟩ := hp 0 s0 hs0'
    obtain ⟨y0, hy0⟩ := hone s0 h2 0 hs0
    have hc0 := h1 0 hs0
    rw [hy0] at hc0
    have hspot : spot = none := by simpa [Addr.add] using World.cell?_spot hc0
    subst hspot
    refine ⟨b, off, rfl, World.block_lt_of_cell? w (⟨b, off, none⟩ : Addr) (by simpa [Addr.add] using hc0), fun q y hy => ?_⟩
    have hq : q < l.length * s := by
      rcases Nat.lt_or_ge q (l.length * s) with h | h
      · exact h
      · rw [List.getElem?_eq_none (by omega)] at hy; cases hy
    have hi : q / s < l.length := (Nat.div_lt_iff_lt_mul hs0).2 hq
    have hq2 : q = q / s * s + q % s := by rw [Nat.mul_comm]; exact (Nat.div_add_mod q s).symm
    have hms := Nat.mod_lt q hs0
    obtain ⟨x, hx⟩ : ∃ x, l[q / s]? = some x := ⟨_, List.getElem?_eq_getElem hi⟩
    rw [hq2, flat_cell f s l (fun x hx => hlen x (hok x hx)) (q / s) (q % s) x hx hms] at hy
    have hj := (hp (q / s) x hx).1 (q % s) hms
    rw [hy] at hj
    simp only [Addr.add_mid] at hj
    rw [← hj]
    congr 2
    omega
/-- A slice of bools. -/
theorem arg_bools (ht : P.underlying t = some (.slice e)) (he : P.underlying e = some .bool) (hce : P.cellsOf e = 1) (hv : Value.okWide P w r b0 t v) (h : DataW.Trod enc P w base spare held t v d ps) :
    ∃ (A : Option Addr) (c : Nat) (l : List Bool), v = .slice A l.length c ∧ Reads w A l.length (boolsV l) ∧ l.length ≤ c ∧ c ≤ maxLen := by
  obtain ⟨A, c, l, h1, h2, _, h3, h4⟩ := arg_rows (fun b : Bool => [Value.bool b]) (fun _ => True) (by decide) (fun _ _ => rfl) ht hce (fun n cs x hx => open_bool he hx) bool_cell hv h
  rw [Nat.mul_one] at h2
  exact ⟨A, c, l, h1, h2, h3, h4⟩
/-- a byte and a slice of bools, in one -/
structure ByteBools where
  at_ : UInt8
  A : Option Addr
  c : Nat
  l : List Bool
def ByteBools.val (s : ByteBools) : List Value := [.int .u8 (s.at_.toNat : Int), .slice s.A s.l.length s.c]
def ByteBools.ok (w : World) (s : ByteBools) : Prop := Reads w s.A s.l.length (boolsV s.l) ∧ s.l.length ≤ s.c ∧ s.c ≤ maxLen
theorem byteBools_cell (w : World) (s : ByteBools) (_ : s.ok w) (j : Nat) (hj : j < 2) : ∃ y, s.val[j]? = some y := by
  match j, hj with
  | 0, _ => exact ⟨_, rfl⟩
  | 1, _ => exact ⟨_, rfl⟩
theorem open_byteBools {n : Nat} {cs : List Value} {x : DataW HT × List MemPlace} {f0 f1 : Field} {ub us ul : TypeId} (ht : P.underlying e = some (.struct #[f0, f1])) (hub : P.underlying ub = some (.int .u8)) (hus : P.underlying us = some (.slice ul)) (hul : P.underlying ul = some .bool) (hcl : P.cellsOf ul = 1) (hcb : P.cellsOf ub = 1) (hcs : P.cellsOf us = 1) (hce : P.cellsOf e = 2) (h0 : (f0.type, f0.offset) = (ub, 0)) (h1 : (f1.type, f1.offset) = (us, 1))
    (h : DataW.trod enc P w base spare held n e cs = some x) : ∃ s : ByteBools, cs = s.val ∧ s.ok w := by
  obtain ⟨ys, m, _, _, hl, hy, hg⟩ := DataW.trod_struct ht h
  simp only [Prod.mk.injEq] at h0 h1
  obtain ⟨x0, r0⟩ := fld (i := 0) (o := 0) (s := 1) (ty := ub) hg hy rfl h0.2 h0.1 hcb
  obtain ⟨x1, r1⟩ := fld (i := 1) (o := 1) (s := 1) (ty := us) hg hy rfl h1.2 h1.1 hcs
  obtain ⟨a, ea⟩ := open_u8 hub r0
  obtain ⟨A, c, l, eb, hr, _, h3, h4⟩ := open_rows (fun b : Bool => [Value.bool b]) (fun _ => True) (by decide) (fun _ _ => rfl) hus hcl (fun n cs x hx => open_bool hul hx) bool_cell r1
  rw [Nat.mul_one] at hr
  exact ⟨⟨a, A, c, l⟩, part_all (part_cons ea (part_last eb (by rw [hl, hce]))), hr, h3, h4⟩
/-- A slice of such. -/
theorem arg_byteBools {ub us ul : TypeId} {f0 f1 : Field} (ht : P.underlying t = some (.slice e)) (hte : P.underlying e = some (.struct #[f0, f1])) (hub : P.underlying ub = some (.int .u8)) (hus : P.underlying us = some (.slice ul)) (hul : P.underlying ul = some .bool) (hcl : P.cellsOf ul = 1) (hcb : P.cellsOf ub = 1) (hcs : P.cellsOf us = 1) (hce : P.cellsOf e = 2) (h0 : (f0.type, f0.offset) = (ub, 0)) (h1 : (f1.type, f1.offset) = (us, 1))
    (hv : Value.okWide P w r b0 t v) (h : DataW.Trod enc P w base spare held t v d ps) :
    ∃ (A : Option Addr) (c : Nat) (l : List ByteBools), v = .slice A l.length c ∧ Reads w A (l.length * 2) (l.flatMap ByteBools.val) ∧ (∀ s ∈ l, s.ok w) ∧ l.length ≤ c ∧ c ≤ maxLen :=
  arg_rows ByteBools.val (ByteBools.ok w) (by decide) (fun _ _ => rfl) ht hce (fun n cs x hx => open_byteBools hte hub hus hul hcl hcb hcs hce h0 h1 hx) (byteBools_cell w) hv h
end opens
end Go.K
