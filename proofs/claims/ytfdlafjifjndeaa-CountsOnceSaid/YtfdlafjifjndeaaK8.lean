/-
  A region that draws its order, whose last operations (stores, assignments) wait for all that stand before them: what stands before is read in the order of the text, each operation quiet; then the last ones, one by one.
-/
import Derived.Test.YtfdlafjifjndeaaK7
namespace Go.K
open Go Go.RowKit

def nopOf (o : Oper) : Oper := { dst := none, op := .move (.const (.bool true)), type := o.type, pos := o.pos, after := o.after, guard := none }
def nopTail : Nat → List Oper → List Oper
  | 0, l => l.map nopOf
  | _ + 1, [] => []
  | n + 1, o :: r => o :: nopTail n r
theorem nopTail_get (L : List Oper) : ∀ (n j : Nat), (nopTail n L)[j]? = if j < n then L[j]? else (L[j]?).map nopOf := by
  induction L with
  | nil => intro n j; cases n <;> simp [nopTail]
  | cons o r ih =>
    intro n j
    cases n with
    | zero => simp [nopTail, ← List.map_cons]
    | succ n =>
      cases j with
      | zero => simp [nopTail]
      | succ j =>
        rw [nopTail, List.getElem?_cons_succ, ih n j, List.getElem?_cons_succ]
        simp
theorem nopTail_length (L : List Oper) : ∀ n, (nopTail n L).length = L.length := by
  induction L with
  | nil => intro n; cases n <;> rfl
  | cons o r ih => intro n; cases n <;> simp [nopTail, ih]

def edgeB (L : List Oper) (k j : Nat) : Bool := match L[k]? with
  | none => false
  | some o => o.after.any fun e => Region.binds .any e && Nat.beq e.on j
/-- Each edge that binds leads back; the last operations wait, by way of others perhaps, for all that stand before them. -/
def tailB (L : List Oper) (n : Nat) : Bool :=
  Nat.blt n L.length && ((List.range L.length).all fun i => match L[i]? with
    | none => true
    | some o => o.after.all fun e => !Region.binds .any e || Nat.blt e.on i) &&
  (List.range L.length).all fun i => Nat.blt i n || (List.range i).all fun j => (List.range' (j + 1) (i - j)).any fun k => edgeB L k j
def guardsB (L : List Oper) (n : Nat) : Bool := (List.range n).all fun i => match L[i]? with
  | some o => match o.guard with
    | some (j, _) => Nat.blt j n
    | none => true
  | none => true

section
variable {P : Program} {Q : Exit → Act → World → Prop} {C : World → Prop} {L : List Oper} {n : Nat}

theorem tailB_back (h : tailB L n = true) {i : Nat} {o : Oper} (ho : L[i]? = some o) : ∀ e ∈ o.after, Region.binds .any e = true → e.on < i := by
  intro e he hb
  simp only [tailB, Bool.and_eq_true, List.all_eq_true, List.mem_range] at h
  have h1 := h.1.2 i (List.getElem?_eq_some_iff.1 ho).1
  simp only [ho, Array.all_eq_true_iff_forall_mem] at h1
  have h2 := h1 e he
  simpa [hb] using h2
theorem tailB_all (h : tailB L n = true) {i : Nat} (hil : i < L.length) (hi : n ≤ i) {j : Nat} (hj : j < i) : ∃ k o, j < k ∧ k ≤ i ∧ L[k]? = some o ∧ ∃ e ∈ o.after, Region.binds .any e = true ∧ e.on = j := by
  simp only [tailB, Bool.and_eq_true, List.all_eq_true, List.mem_range] at h
  have h1 := h.2 i hil
  simp only [Bool.or_eq_true, List.all_eq_true, List.mem_range] at h1
  have h2 := (h1.resolve_left (by simp; omega)) j hj
  rw [List.any_eq_true] at h2
  obtain ⟨k, hk, h3⟩ := h2
  have hk' := List.mem_range'_1.1 hk
  unfold edgeB at h3
  cases ho : L[k]? with
  | none => simp [ho] at h3
  | some o =>
    simp only [ho] at h3
    obtain ⟨m, hm, h4⟩ := Array.any_eq_true.1 h3
    simp only [Bool.and_eq_true] at h4
    exact ⟨k, o, by omega, by omega, ho, o.after[m], Array.getElem_mem hm, h4.1, Nat.eq_of_beq_eq_true h4.2⟩
theorem tailB_lt (h : tailB L n = true) : n < L.length := by
  simp only [tailB, Bool.and_eq_true] at h
  simpa using h.1.1
theorem after_nop (i : Nat) : ((nopTail n L).toArray[i]?).map (·.after) = (L.toArray[i]?).map (·.after) := by
  simp only [List.getElem?_toArray, nopTail_get]
  split
  · rfl
  · cases L[i]? <;> rfl
theorem ready_nop (listed : Array Bool) : Region.ready .any (nopTail n L).toArray listed = Region.ready .any L.toArray listed := by
  unfold Region.ready
  have hs : (nopTail n L).toArray.size = L.toArray.size := by simp [nopTail_length]
  rw [hs]
  refine List.filter_congr fun i _ => ?_
  have h : ∀ (o : Option Oper), (o.map (·.after.all fun e => !Region.binds .any e || listed.getD e.on false)) = (o.map (·.after)).map (·.all fun e => !Region.binds .any e || listed.getD e.on false) := fun o => by cases o <;> rfl
  rw [h, h, after_nop]
theorem wanted_nop (hg : guardsB L n = true) {i : Nat} {o : Oper} (hi : i < n) (ho : L[i]? = some o) (tm : Array Value) : Region.wanted o (yielded (nopTail n L).toArray tm) = Region.wanted o (yielded L.toArray tm) := by
  simp only [guardsB, List.all_eq_true, List.mem_range] at hg
  have h1 := hg i hi
  simp only [ho] at h1
  unfold Region.wanted
  cases hgd : o.guard with
  | none => rfl
  | some p =>
    obtain ⟨j, want⟩ := p
    simp only [hgd] at h1
    have hj : j < n := by simpa using h1
    simp only [yielded, List.getElem?_toArray, nopTail_get, hj, if_true]

/-- somebody may come up as long as not all have -/
theorem ready_live (h : tailB L n = true) {listed : Array Bool} (hs : listed.size = L.length) : ∀ j, j < L.length → listed.getD j true = false → Region.ready .any L.toArray listed ≠ [] := by
  intro j
  induction j using Nat.strongRecOn with
  | ind j ih =>
    intro hj hl
    obtain ⟨o, ho⟩ : ∃ o, L[j]? = some o := ⟨_, List.getElem?_eq_getElem hj⟩
    by_cases hall : ∀ e ∈ o.after, Region.binds .any e = true → listed.getD e.on false = true
    · intro he
      have : j ∈ Region.ready .any L.toArray listed := mem_ready.2 ⟨hl, o, by simpa using ho, hall⟩
      rw [he] at this
      cases this
    · simp only [Classical.not_forall] at hall
      obtain ⟨e, he, hb, hn⟩ := hall
      have hlt := tailB_back h ho e he hb
      refine ih e.on hlt (by omega) ?_
      have hsz : e.on < listed.size := by omega
      simp [hsz] at hn ⊢
      exact hn
/-- who has come up has waited for whom it waits -/
def Down (L : List Oper) (listed : Array Bool) : Prop := ∀ i o, L[i]? = some o → listed.getD i false = true → ∀ e ∈ o.after, Region.binds .any e = true → listed.getD e.on false = true
theorem Down.set {listed : Array Bool} (h : Down L listed) {i : Nat} (hi : i ∈ Region.ready .any L.toArray listed) : Down L (listed.setIfInBounds i true) := by
  intro k o ho hk e he hb
  by_cases hki : i = k
  · subst hki
    obtain ⟨_, o', ho', hall⟩ := mem_ready.1 hi
    have : o' = o := by simp only [List.getElem?_toArray, ho, Option.some.injEq] at ho'; exact ho'.symm
    subst this
    exact getD_set_true (hall e he hb)
  · rw [getD_set_ne false hki] at hk
    exact getD_set_true (h k o ho hk e he hb)
/-- one of the last ones comes up: all before it have -/
theorem ready_tail (h : tailB L n = true) {listed : Array Bool} (hdn : Down L listed) {i : Nat} (hi : i ∈ Region.ready .any L.toArray listed) (hn : n ≤ i) : ∀ j, j < i → listed.getD j false = true := by
  obtain ⟨_, o, ho, hall⟩ := mem_ready.1 hi
  have ho' : L[i]? = some o := by simpa using ho
  have hil := (List.getElem?_eq_some_iff.1 ho').1
  have key : ∀ d j, j < i → i - j ≤ d → listed.getD j false = true := by
    intro d
    induction d with
    | zero => intro j hj hd; omega
    | succ d ih =>
      intro j hj hd
      obtain ⟨k, ok, hjk, hki, hok, e, he, hb, hej⟩ := tailB_all h hil hn hj
      subst hej
      by_cases hk : k = i
      · subst hk
        have : ok = o := by rw [ho'] at hok; cases hok; rfl
        subst this
        exact hall e he hb
      · exact hdn k ok hok (ih k (by omega) (by omega)) e he hb
  exact fun j hj => key i j hj (by omega)

/-- So far the first k have come up, and no other. -/
def First (listed : Array Bool) (k len : Nat) : Prop := listed.size = len ∧ (∀ j, j < k → listed.getD j false = true) ∧ ∀ j, k ≤ j → j < len → listed.getD j true = false
theorem First.set {listed : Array Bool} {k len : Nat} (h : First listed k len) (hk : k < len) : First (listed.setIfInBounds k true) (k + 1) len := by
  refine ⟨by simp [h.1], fun j hj => ?_, fun j hj hl => ?_⟩
  · by_cases e : k = j
    · subst e; simp [h.1, hk]
    · exact getD_set_true (h.2.1 j (by omega))
  · rw [getD_set_ne true (by omega)]; exact h.2.2 j (by omega) hl
theorem First.down (h : tailB L n = true) {listed : Array Bool} {k : Nat} (hf : First listed k L.length) : Down L listed := by
  intro i o ho hi e he hb
  have hlt := tailB_back h ho e he hb
  have hil := (List.getElem?_eq_some_iff.1 ho).1
  have hik : i < k := by
    rcases Nat.lt_or_ge i k with h1 | h1
    · exact h1
    · have h2 := hf.2.2 i h1 hil
      have hsz : i < listed.size := by rw [hf.1]; exact hil
      simp [hsz] at hi h2
      rw [hi] at h2; cases h2
  exact hf.2.1 _ (by omega)
theorem First.ready (h : tailB L n = true) {listed : Array Bool} {k : Nat} (hf : First listed k L.length) (hn : n ≤ k) {i : Nat} (hi : i ∈ Region.ready .any L.toArray listed) : i = k := by
  obtain ⟨h0, o, ho, _⟩ := mem_ready.1 hi
  have ho' : L[i]? = some o := by simpa using ho
  have hlt := (List.getElem?_eq_some_iff.1 ho').1
  rcases Nat.lt_trichotomy i k with h1 | h1 | h1
  · have h2 := hf.2.1 i h1
    have hsz : i < listed.size := by rw [hf.1]; exact hlt
    simp [hsz] at h0 h2
    rw [h0] at h2; cases h2
  · exact h1
  · have h2 := ready_tail h (hf.down h) hi (by omega) k h1
    have h3 := hf.2.2 k (Nat.le_refl _) (by omega)
    have hsz : k < listed.size := by rw [hf.1]; omega
    simp [hsz] at h2 h3
    rw [h2] at h3; cases h3
theorem First.over (h : tailB L n = true) {listed : Array Bool} (hf : First listed L.length L.length) : Region.ready .any L.toArray listed = [] := by
  rw [List.eq_nil_iff_forall_not_mem]
  intro i hi
  obtain ⟨_, o, ho, _⟩ := mem_ready.1 hi
  have h1 := First.ready h hf (Nat.le_of_lt (tailB_lt h)) hi
  subst h1
  have h2 : L.toArray[L.length]? = none := by simp
  rw [h2] at ho; cases ho
theorem wpAny_tail (h : tailB L n = true) : ∀ (m k f : Nat) (listed : Array Bool) (a : Act) (w : World), k + m = L.length → n ≤ k → m ≤ f → First listed k L.length → wpOps P L.toArray Q (List.range' k m) a w → wpAny P .any L.toArray Q f listed a w
  | 0, k, f, listed, a, w, hk, hn, hf, hl, hw => by
    have hr : Region.ready .any L.toArray listed = [] := by
      obtain rfl : k = L.length := by omega
      exact First.over h hl
    have hq : Q .normal a w := by simpa [wpOps] using hw
    cases f with
    | zero => exact ⟨hr, hq⟩
    | succ f => exact ⟨fun _ => hq, by rw [hr]; simp⟩
  | m + 1, k, 0, listed, a, w, hk, hn, hf, hl, hw => by omega
  | m + 1, k, f + 1, listed, a, w, hk, hn, hf, hl, hw => by
    rw [List.range'_succ, wpOps_cons] at hw
    refine ⟨fun h0 => absurd h0 (ready_live h hl.1 k (by omega) (hl.2.2 k (Nat.le_refl _) (by omega))), fun i hi => ?_⟩
    obtain rfl := hl.ready h hn hi
    exact wpOp_mono (fun a' w' h' => wpAny_tail h m (i + 1) f _ a' w' (by omega) (by omega) (by omega) (hl.set (by omega)) h') hw
theorem nops_run {QT : Act → Prop} (h : tailB L n = true) {w0 : World} (hw0 : C w0) : ∀ (m k f : Nat) (listed : Array Bool) (a : Act), k + m = L.length → n ≤ k → First listed k L.length → wpAnyQ P .any (nopTail n L).toArray C QT f listed a → m ≤ f ∧ QT a
  | 0, k, f, listed, a, hk, hn, hl, hq => by
    have hr : Region.ready .any (nopTail n L).toArray listed = [] := by
      obtain rfl : k = L.length := by omega
      rw [ready_nop]
      exact First.over h hl
    cases f with
    | zero => exact ⟨Nat.le_refl _, hq.2⟩
    | succ f => exact ⟨Nat.zero_le _, hq.1 hr⟩
  | m + 1, k, f, listed, a, hk, hn, hl, hq => by
    have hne := ready_live h hl.1 k (by omega) (hl.2.2 k (Nat.le_refl _) (by omega))
    cases f with
    | zero => exact absurd (by rw [← ready_nop (n := n)]; exact hq.1) hne
    | succ f =>
      have hk' : k ∈ Region.ready .any L.toArray listed := by
        obtain ⟨x, hx⟩ := List.exists_mem_of_ne_nil _ hne
        rwa [hl.ready h hn hx] at hx
      have h1 := hq.2 k (by rw [ready_nop]; exact hk')
      obtain ⟨o, ho⟩ : ∃ o, L[k]? = some o := ⟨_, List.getElem?_eq_getElem (by omega)⟩
      have ho' : (nopTail n L).toArray[k]? = some (nopOf o) := by
        simp only [List.getElem?_toArray, nopTail_get, ho, if_neg (show ¬ k < n by omega), Option.map_some]
      obtain ⟨v, hy, hK⟩ := yieldsIn_of_qOp ho' h1
      have := nops_run h hw0 m (k + 1) f _ _ (by omega) (by omega) (hl.set (by omega)) hK
      exact ⟨by omega, this.2⟩
theorem wpAny_split (h : tailB L n = true) (hg : guardsB L n = true) {QT : Act → Prop} (hQT : ∀ a w, C w → QT a → wpOps P L.toArray Q (List.range' n (L.length - n)) a w) : ∀ (f : Nat) (listed : Array Bool) (a : Act) (w : World), listed.size = L.length → Down L listed → (∀ j, n ≤ j → j < L.length → listed.getD j true = false) → C w →
    wpAnyQ P .any (nopTail n L).toArray C QT f listed a → wpAny P .any L.toArray Q f listed a w
  | 0, listed, a, w, hs, hdn, hl, hw, hq => by
    have hn := tailB_lt h
    exact absurd (by rw [← ready_nop (n := n)]; exact hq.1) (ready_live h hs n hn (hl n (Nat.le_refl _) hn))
  | f + 1, listed, a, w, hs, hdn, hl, hw, hq => by
    have hn := tailB_lt h
    refine ⟨fun h0 => absurd h0 (ready_live h hs n hn (hl n (Nat.le_refl _) hn)), fun i hi => ?_⟩
    by_cases hin : i < n
    · obtain ⟨_, o, ho, _⟩ := mem_ready.1 hi
      have ho1 : L[i]? = some o := by simpa using ho
      have ho' : (nopTail n L).toArray[i]? = some o := by
        simp only [List.getElem?_toArray, nopTail_get, if_pos hin, ho1]
      have h1 := hq.2 i (by rw [ready_nop]; exact hi)
      have h2 : qOp P L.toArray C i (wpAnyQ P .any (nopTail n L).toArray C QT f (listed.setIfInBounds i true)) a := by
        unfold qOp at h1 ⊢
        simp only [ho', ho] at h1 ⊢
        rw [wanted_nop hg hin ho1] at h1
        exact h1
      refine wpOp_of_qOp hw (fun a' w' hw' hK => ?_) h2
      exact wpAny_split h hg hQT f _ a' w' (by simp [hs]) (hdn.set hi) (fun j hj hlt => by rw [getD_set_ne true (by omega)]; exact hl j hj hlt) hw' hK
    · have hall := ready_tail h hdn hi (by omega)
      have hin2 : i = n := by
        rcases Nat.lt_or_ge n i with h3 | h3
        · have h4 := hall n h3
          have h5 := hl n (Nat.le_refl _) hn
          have hsz : n < listed.size := by omega
          simp [hsz] at h4 h5
          rw [h4] at h5; cases h5
        · omega
      subst hin2
      have hf : First listed i L.length := ⟨hs, hall, hl⟩
      obtain ⟨hm, hQ⟩ := nops_run h hw (L.length - i) i (f + 1) listed a (by omega) (Nat.le_refl _) hf hq
      exact (wpAny_tail h (L.length - i) i (f + 1) listed a w (by omega) (Nat.le_refl _) hm hf (hQT a w hw hQ)).2 i hi
end

section rules
variable {P : Program} {B : Nat} {w0 : Base} {N : Nat} {D : List Deferred} {env : Env} {H : Hp} {Q : Exit → Act → World → Prop}
def QL (P : Program) (ops : Array Oper) (l : List Oper) (Q : Exit → Act → World → Prop) (e : Exit) (a : Act) (w : World) : Prop := e = .normal ∧ wpList P ops Q l a w
theorem S_tail {id : Nat} {L : List Oper} (n : Nat) (hm0 : P.follows .mixedOrders = true) (hB : Region.lexB .any (nopTail n L).toArray = true) (hD : tailB L n = true) (hG : guardsB L n = true)
    (h : Qx P B w0 N D (nopTail n L).toArray (nopTail n L) env H (QL P L.toArray (L.drop n) Q)) : Sx P B w0 N D (.region id L.toArray true) env H Q := by
  intro a w hf hm
  simp only [Region.lexB, Bool.and_eq_true] at hB
  refine wp_region_any hm0 ?_
  have h1 := wpAnyQ_lex (P := P) (C := Mem B w0 H) (md := .any) hB.1 (nopTail n L) 0 (Array.replicate L.length false) a (by simp) (by have := hB.2; simp only [List.size_toArray, nopTail_length] at this ⊢; exact this) (h a hf)
  rw [nopTail_length] at h1
  have h2 := wpAny_split (Q := Q) hD hG (fun a w hw hq => by
    have hn := tailB_lt hD
    have h3 := (hq w hw).2
    have h4 := wpOps_eq_wpList (P := P) (Q := Q) (ops := L.toArray) (L.drop n) n (fun j => by simp)
    rw [List.length_drop] at h4
    rw [h4]
    exact h3) L.length (Array.replicate L.length false) a w.drew (by simp) (fun i o ho hi => by have hil := (List.getElem?_eq_some_iff.1 ho).1; simp [hil] at hi) (fun j _ hj => by simp [hj]) hm.drew h1
  simpa using h2
theorem Q_nop {ops : Array Oper} {o : Oper} {rest : List Oper} (h : Qx P B w0 N D ops rest env H Q) : Qx P B w0 N D ops (nopOf o :: rest) env H Q := fun a hf => wpQuiet_step fun K hK => by
  rw [if_pos (by simp [Region.wanted, nopOf])]
  refine ⟨.bool true, fun w _ => ?_, hK _ (h _ hf)⟩
  unfold Oper.quietAt
  simp [nopOf, execOp, Act.eval, Oper.quietUpon]
theorem E_tail {ops : Array Oper} {l : List Oper} (h : Rx P B w0 N D ops l env H Q) : Ex B w0 N D env H (QL P ops l Q .normal) := fun a w hf hm => ⟨rfl, h a w hf hm⟩
end rules
end Go.K
