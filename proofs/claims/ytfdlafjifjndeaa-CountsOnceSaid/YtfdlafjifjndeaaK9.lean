/-
  A row of bytes that grows by append: nil, or a block of the call's own with room behind.
-/
import Derived.Test.YtfdlafjifjndeaaK8
namespace Go.K
open Go Go.RowKit

abbrev Buf := Option (Nat × List Value)
def Buf.addr : Buf → Option Addr
  | none => none
  | some p => some ⟨p.1, 0, none⟩
def Buf.cap (u : Buf) (xs : List UInt8) : Nat := match u with
  | none => 0
  | some p => xs.length + p.2.length
def Buf.hp (u : Buf) (e : TypeId) (xs : List UInt8) : Hp := match u with
  | none => []
  | some p => [(p.1, .cells (bytesV xs ++ p.2).toArray e (0, 0))]
def Buf.ok (u : Buf) (xs : List UInt8) : Prop := match u with
  | none => xs = []
  | some p => xs.length + p.2.length ≤ maxLen
abbrev Buf.val (u : Buf) (xs : List UInt8) : Value := .slice u.addr xs.length (u.cap xs)
theorem Buf.none_ok : Buf.ok none [] := rfl
theorem Buf.len_cap {u : Buf} {xs : List UInt8} (h : u.ok xs) : xs.length ≤ u.cap xs := by
  cases u with
  | none => have h : xs = [] := h; subst h; exact Nat.le_refl _
  | some p => exact Nat.le_add_right _ _
theorem Buf.cap_max {u : Buf} {xs : List UInt8} (h : u.ok xs) : u.cap xs ≤ maxLen := by
  cases u with
  | none => exact Nat.zero_le _
  | some p => exact h

/-- The list without a buffer. -/
inductive DelB (u : Buf) (e : TypeId) (xs : List UInt8) : Hp → Hp → Prop where
  | tail : DelB u e xs (u.hp e xs) []
  | at_ {H Hr : Hp} {b : Nat} {sp : List Value} (hu : u = some (b, sp)) (h : Del H b (.cells (bytesV xs ++ sp).toArray e (0, 0)) Hr) : DelB u e xs H Hr
  | there {H Hr : Hp} {x : Nat × Obj} (h : DelB u e xs H Hr) : DelB u e xs (x :: H) (x :: Hr)
  | no {H : Hp} (hu : u = none) : DelB u e xs H H
  | mid {K : Hp} : DelB u e xs (u.hp e xs ++ K) K
  | left {H Hr K : Hp} (h : DelB u e xs H Hr) : DelB u e xs (H ++ K) (Hr ++ K)
  | right {H Hr K : Hp} (h : DelB u e xs H Hr) : DelB u e xs (K ++ H) (K ++ Hr)
theorem Del.left {H Hr : Hp} {b : Nat} {o : Obj} (h : Del H b o Hr) (K : Hp) : Del (H ++ K) b o (Hr ++ K) := by
  induction h with
  | here => exact .here
  | there _ ih => exact .there ih
theorem Del.right {H Hr : Hp} {b : Nat} {o : Obj} (h : Del H b o Hr) : ∀ K : Hp, Del (K ++ H) b o (K ++ Hr)
  | [] => h
  | _ :: K => .there (Del.right h K)
theorem DelB.some {e : TypeId} {xs : List UInt8} {H Hr : Hp} {b : Nat} {sp : List Value} (h : DelB (some (b, sp)) e xs H Hr) : Del H b (.cells (bytesV xs ++ sp).toArray e (0, 0)) Hr := by
  induction h with
  | tail => exact .here
  | at_ hu h => cases hu; exact h
  | there _ ih => exact .there ih
  | no hu => cases hu
  | mid => exact .here
  | left _ ih => exact ih.left _
  | right _ ih => exact ih.right _
theorem DelB.none {e : TypeId} {xs : List UInt8} {H Hr : Hp} (h : DelB none e xs H Hr) : H = Hr := by
  induction h with
  | tail => rfl
  | at_ hu _ => cases hu
  | there _ ih => rw [ih]
  | no _ => rfl
  | mid => rfl
  | left _ ih => rw [ih]
  | right _ ih => rw [ih]
section
variable {P : Program} {B : Nat} {w0 : Base} {N : Nat} {D : List Deferred} {env : Env} {H : Hp} {T : Env → Hp → Prop} {ty : TypeId} {pos : String} {after : Array Edge} {g : Option (Nat × Bool)}
theorem Op1.perm {o : Oper} (h : Op1 P B w0 N D o env H (fun env' H' => ∃ H'', H'.Perm H'' ∧ T env' H'')) : Op1 P B w0 N D o env H T := fun K Q hT a w hf hm =>
  h K Q (fun env' H' ⟨H'', hp, ht⟩ => fun a' w' hf' hm' => hT env' H'' ht a' w' hf' (by
    exact ⟨hm'.room, hm'.chg, fun p hp' => hm'.own p (hp.mem_iff.2 hp'), (hp.pairwise_iff (fun h => Ne.symm h)).1 hm'.apart⟩)) a w hf hm
theorem Mem.readsBuf {w : World} {u : Buf} {e : TypeId} {xs : List UInt8} {Hr : Hp} (hm : Mem B w0 H w) (hd : DelB u e xs H Hr) (hok : u.ok xs) : Reads w u.addr xs.length (bytesV xs) := by
  cases u with
  | none =>
    have hok : xs = [] := hok
    subst hok
    exact Reads.nil w
  | some p => exact hm.reads (b := p.1) (off := 0) (cs := bytesV xs ++ p.2) (t := e) (fr := (0, 0)) hd.some.mem (by rw [List.drop_zero, ← bytesV_length xs, List.take_left]) (by simp [bytesV_length])
theorem op_appendBuf {d : Nat} {t e : TypeId} {x y : Operand} {u : Buf} {xs ys : List UInt8} {A : Option Addr} {m c : Nat} {Hr : Hp} (hx : look env x = some (u.val xs)) (hy : look env y = some (.slice A m c))
    (ht : P.underlying t = some (.slice e)) (he : El P e (.int .u8 0) 1) (hdel : DelB u e xs H Hr) (hok : u.ok xs) (hsrc : ∀ w, Mem B w0 H w → Reads w A m (bytesV ys)) (h63 : xs.length + ys.length ≤ 140737488355328) (hd : Nat.blt d N = true) (hB : B ≤ w0.w.heap.size)
    (h : ∀ u' : Buf, u'.ok (xs ++ ys) → ((xs ≠ [] ∨ ys ≠ []) → u' ≠ none) → T ((d, u'.val (xs ++ ys)) :: env) (Hr ++ u'.hp e (xs ++ ys))) :
    Op1 P B w0 N D ⟨some d, .call { callee := .builtin .append, args := #[x, y], argTypes := #[t, t] }, ty, pos, after, g⟩ env H T := fun K Q hT a w hf hm => by
  have hml : m = ys.length := by have := (hsrc w hm).1; rw [bytesV_length] at this; exact this.symm
  have hmax : xs.length + ys.length ≤ maxLen := by unfold maxLen; omega
  cases u with
  | none =>
    have hok : xs = [] := hok
    subst hok
    have hH := hdel.none
    refine Op1.perm (op_appendNil hx hy ht he hsrc (bytesV_one _) (by simp at hmax; omega) (by simp at h63; omega) hd hB ?_ ?_) K Q hT a w hf hm
    · intro h0
      have hy0 : ys = [] := List.eq_nil_of_length_eq_zero (by omega)
      have := h none (by show [] ++ ys = []; rw [hy0]; rfl) (by rintro (h | h) <;> simp [hy0] at h)
      rw [hy0] at this
      exact ⟨_, by rw [hH]; simp [Buf.hp], this⟩
    · intro b' cap' sp' hm0 hlen hcm
      have h1 := h (some (b', sp')) (by show ([] ++ ys).length + sp'.length ≤ maxLen; simp [bytesV_length] at hlen ⊢; omega) (fun _ => by simp)
      have hc : Buf.cap (some (b', sp')) ([] ++ ys) = cap' := by show ([] ++ ys).length + sp'.length = cap'; simp [bytesV_length] at hlen ⊢; omega
      have hv : Buf.val (some (b', sp')) ([] ++ ys) = .slice (some ⟨b', 0, none⟩) m cap' := by unfold Buf.val; rw [hc, hml]; rfl
      rw [hv] at h1
      refine ⟨_, ?_, h1⟩
      rw [hH]
      simp [Buf.hp]
      exact (List.perm_append_comm (l₁ := [_]) (l₂ := Hr))
  | some p =>
    obtain ⟨b, sp⟩ := p
    have hok : xs.length + sp.length ≤ maxLen := hok
    have hx' : look env x = some (.slice (some ⟨b, 0, none⟩) xs.length (xs.length + sp.length)) := hx
    refine Op1.perm (op_append hx' hy ht he (xs := bytesV xs) (sp := sp) (H' := Hr) hdel.some (bytesV_length xs) (by simp [bytesV_length]) hok hsrc (bytesV_one _) (by omega) (by omega) hd hB ?_) K Q hT a w hf hm
    intro b' cap' sp' hlen hcm
    have h1 := h (some (b', sp')) (by show (xs ++ ys).length + sp'.length ≤ maxLen; simp [bytesV_length] at hlen ⊢; omega) (fun _ => by simp)
    have hc : Buf.cap (some (b', sp')) (xs ++ ys) = cap' := by show (xs ++ ys).length + sp'.length = cap'; simp [bytesV_length] at hlen ⊢; omega
    have hv : Buf.val (some (b', sp')) (xs ++ ys) = .slice (some ⟨b', 0, none⟩) (xs.length + m) cap' := by unfold Buf.val; rw [hc, List.length_append, hml]; rfl
    rw [hv] at h1
    refine ⟨_, ?_, h1⟩
    simp only [Buf.hp, bytesV_append]
    exact (List.perm_append_comm (l₁ := [_]) (l₂ := Hr))
end
theorem Buf.some_of {u : Buf} {xs : List UInt8} (h : u.ok xs) (hx : xs.length ≠ 0) : ∃ g sp, u = some (g, sp) := by
  cases u with
  | none => have h : xs = [] := h; subst h; exact absurd rfl hx
  | some p => exact ⟨p.1, p.2, rfl⟩
end Go.K
