/-
  Rows of rows: taking, dropping, setting one of them; a made slice of rows. Plain theorems, over any program.
-/
import Derived.Test.YtfdlafjifjndeaaK21
namespace Go.K
open Go Go.RowKit
theorem flat_take {α : Type} (f : α → List Value) (s : Nat) : ∀ (l : List α), (∀ a ∈ l, (f a).length = s) → ∀ i, i ≤ l.length → (l.flatMap f).take (i * s) = (l.take i).flatMap f
  | [], _, i, hi => by simp
  | x :: l, hs, 0, _ => by simp
  | x :: l, hs, i + 1, hi => by
    have hx := hs x (by simp)
    have ih := flat_take f s l (fun b hb => hs b (by simp [hb])) i (by simpa using hi)
    rw [List.take_succ_cons, List.flatMap_cons, List.flatMap_cons, ← ih, List.take_append, hx, List.take_of_length_le (by rw [hx, Nat.add_mul]; omega), show (i + 1) * s - s = i * s by rw [Nat.add_mul]; omega]
theorem flat_drop {α : Type} (f : α → List Value) (s : Nat) : ∀ (l : List α), (∀ a ∈ l, (f a).length = s) → ∀ i, i ≤ l.length → (l.flatMap f).drop (i * s) = (l.drop i).flatMap f
  | [], _, i, hi => by simp
  | x :: l, hs, 0, _ => by simp
  | x :: l, hs, i + 1, hi => by
    have hx := hs x (by simp)
    have ih := flat_drop f s l (fun b hb => hs b (by simp [hb])) i (by simpa using hi)
    rw [List.drop_succ_cons, List.flatMap_cons, ← ih, List.drop_append, hx, List.drop_eq_nil_of_le (by rw [hx, Nat.add_mul]; omega), List.nil_append, show (i + 1) * s - s = i * s by rw [Nat.add_mul]; omega]
theorem lay_row {α : Type} (f : α → List Value) (s : Nat) (l : List α) (hs : ∀ a ∈ l, (f a).length = s) (i : Nat) (hi : i < l.length) (x : α) (hx : (f x).length = s) : lay (l.flatMap f) (i * s) (f x) = (l.set i x).flatMap f := by
  have hl := flat_length f s l hs
  have h1 : i * s + s ≤ l.length * s := by rw [← Nat.succ_mul]; exact Nat.mul_le_mul_right s hi
  rw [lay_eq _ _ _ (by omega), hx, show i * s + s = (i + 1) * s by rw [Nat.succ_mul], flat_take f s l hs i (by omega), flat_drop f s l hs (i + 1) (by omega), List.set_eq_take_append_cons_drop, if_pos hi]
  simp
theorem sumsV_flat (l : List (List UInt8)) : sumsV l = l.flatMap bytesV := by
  unfold sumsV bytesV
  rw [List.map_flatten, List.flatMap_def]
theorem lay_sum {l : List (List UInt8)} (h : Sums l) {i : Nat} (hi : i < l.length) {x : List UInt8} (hx : x.length = 32) : lay (sumsV l) (i * 32) (bytesV x) = sumsV (l.set i x) := by
  rw [sumsV_flat, sumsV_flat]
  exact lay_row bytesV 32 l (fun a ha => by rw [bytesV_length, h a ha]) i hi x (by rw [bytesV_length, hx])
theorem Sums.set {l : List (List UInt8)} (h : Sums l) (i : Nat) {x : List UInt8} (hx : x.length = 32) : Sums (l.set i x) := fun y hy => by
  rcases List.mem_or_eq_of_mem_set hy with h1 | h1
  · exact h y h1
  · rw [h1]; exact hx
theorem madeCells_rows (zs : List Value) (s c : Nat) (hs : zs.length = s) (h0 : 0 < s) : madeCells zs.toArray (c * s) = ((List.replicate c zs).flatMap id).toArray := by
  have hl := flat_length id s (List.replicate c zs) (fun a ha => by rw [List.eq_of_mem_replicate ha]; exact hs)
  rw [List.length_replicate] at hl
  apply Array.ext_getElem?
  intro i
  simp only [madeCells, List.size_toArray, List.getElem?_toArray]
  rcases Nat.lt_or_ge i (c * s) with hi | hi
  · have hq : i / s < c := (Nat.div_lt_iff_lt_mul h0).2 hi
    have hm := Nat.mod_lt i h0
    have h1 := flat_cell id s (List.replicate c zs) (fun a ha => by rw [List.eq_of_mem_replicate ha]; exact hs) (i / s) (i % s) zs (by simp [hq]) hm
    rw [Nat.mul_comm, Nat.div_add_mod] at h1
    rw [h1]
    simp [hi, hs, List.getElem?_eq_getElem (show i % s < zs.length by omega)]
  · rw [List.getElem?_eq_none (by omega)]
    simp [hi]
theorem Fewer.inl : ∀ (H K : Hp), Fewer H (H ++ K)
  | [], _ => .nil
  | (_, _) :: H, K => .keep rfl (Fewer.inl H K)
theorem Fewer.assoc (a b c : Hp) : Fewer (a ++ (b ++ c)) ((a ++ b) ++ c) := by rw [List.append_assoc]; exact Fewer.refl _
section ops
variable {P : Program} {B : Nat} {w0 : Base} {N : Nat} {D : List Deferred} {env : Env} {H : Hp} {T : Env → Hp → Prop}
variable {dst : Option Tmp} {ty : TypeId} {pos : String} {after : Array Edge} {g : Option (Nat × Bool)}
/-- make of rows: all of them zero -/
theorem op_makeSliceR {d : Nat} {t e : TypeId} {x y : Operand} {kl kc : IntKind} {l c s bytes : Nat} {m n : Int} {z : Value} {zs : List Value} (hx : look env x = some (.int kl m)) (hy : look env y = some (.int kc n)) (hm : m = (l : Int)) (hn : n = (c : Int)) (ht : P.underlying t = some (.slice e)) (he : ElR P e z s bytes) (hzc : z.cells = zs.toArray) (h0 : 0 < s)
    (hlc : l ≤ c) (hby : bytes * c ≤ 281474976710656) (h63 : c ≤ 9223372036854775807) (hd : Nat.blt d N = true) (hB : B ≤ w0.w.heap.size)
    (h : ∀ b, T ((d, .slice (some ⟨b, 0, none⟩) l c) :: env) ((b, .cells ((List.replicate c zs).flatMap id).toArray e (0, 0)) :: H)) : Op1 P B w0 N D ⟨some d, .makeSlice t x y, ty, pos, after, g⟩ env H T := fun K Q hT a w hf hm' => by
  subst hm hn
  obtain ⟨i, hi, hz, hs, hb, hzl⟩ := he
  have hbi : (i.bytes : Int) * (c : Int) ≤ 281474976710656 := by
    have h2 : ((i.bytes * c : Nat) : Int) ≤ 281474976710656 := by rw [hb]; omega
    rwa [Int.natCast_mul] at h2
  have hr := run_make (P := P) w t e i z ht hi hz kl kc (l : Int) (c : Int) (by omega) (by omega) hbi (by omega)
  simp only [Int.toNat_natCast, hs] at hr
  have hzl' : zs.length = s := by rw [hzc] at hzl; simpa using hzl
  have h1 : (execOp a.eval ⟨some d, .makeSlice t x y, ty, pos, after, g⟩).run P w = .ok (.value (.slice (some ⟨w.heap.size, 0, none⟩) l c)) (w.alloc (.cells ((List.replicate c zs).flatMap id).toArray e)) := by
    rw [hzc, madeCells_rows zs s c hzl' h0] at hr
    simp [execOp, hf.eval hx, hf.eval hy, hr]
  unfold Oper.wp
  rw [h1]
  exact hT _ _ (h w.heap.size) _ _ (hf.put hd _) (hm'.alloc hB _)
end ops
end Go.K
