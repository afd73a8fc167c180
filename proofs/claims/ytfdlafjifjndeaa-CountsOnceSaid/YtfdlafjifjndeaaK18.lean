/-
  Slices of sums: append. Plain theorems, over any program.
-/
import Derived.Test.YtfdlafjifjndeaaK17
namespace Go.K
open Go Go.RowKit
theorem sumsV_append (a b : List (List UInt8)) : sumsV (a ++ b) = sumsV a ++ sumsV b := by simp [sumsV, bytesV]
theorem sumsV_length {l : List (List UInt8)} (h : Sums l) : (sumsV l).length = l.length * 32 := by unfold sumsV; rw [bytesV_length, h.flat]
theorem sumsV_one (l : List (List UInt8)) : ∀ u ∈ sumsV l, u.oneCell' = true := bytesV_one _
theorem Sums.append {a b : List (List UInt8)} (ha : Sums a) (hb : Sums b) : Sums (a ++ b) := fun x hx => by
  rcases List.mem_append.1 hx with h | h
  · exact ha x h
  · exact hb x h
section ops
variable {P : Program} {B : Nat} {w0 : Base} {N : Nat} {D : List Deferred} {env : Env} {H : Hp} {T : Env → Hp → Prop}
variable {dst : Option Tmp} {ty : TypeId} {pos : String} {after : Array Edge} {g : Option (Nat × Bool)}
/-- append to a row of sums of the call's own: it may move. -/
theorem op_appendS {d : Nat} {t e : TypeId} {x y : Operand} {z : Value} {b n cap m c : Nat} {xs ys : List (List UInt8)} {sp : List Value} {A : Option Addr} {H' : Hp} (hx : look env x = some (.slice (some ⟨b, 0, none⟩) n cap)) (hy : look env y = some (.slice A m c))
    (ht : P.underlying t = some (.slice e)) (he : ElR P e z 32 32) (hdel : Del H b (.cells (sumsV xs ++ sp).toArray e (0, 0)) H') (hxs : Sums xs) (hn : xs.length = n) (hcap : (sumsV xs ++ sp).length = cap * 32) (hcm : cap ≤ maxLen)
    (hsrc : ∀ w, Mem B w0 H w → ReadsS w A ys) (hm' : ys.length = m) (hm0 : 0 < m) (h63 : n + m ≤ 1000000) (hd : Nat.blt d N = true) (hB : B ≤ w0.w.heap.size)
    (h : ∀ b' cap' sp', (sumsV (xs ++ ys) ++ sp').length = cap' * 32 → n + m ≤ cap' → cap' ≤ maxLen → T ((d, .slice (some ⟨b', 0, none⟩) (n + m) cap') :: env) ((b', .cells (sumsV (xs ++ ys) ++ sp').toArray e (0, 0)) :: H')) :
    Op1 P B w0 N D ⟨some d, .call { callee := .builtin .append, args := #[x, y], argTypes := #[t, t] }, ty, pos, after, g⟩ env H T := fun K Q hT a w hf hm => by
  obtain ⟨i, hi, hz, hs, hb, hzc⟩ := he
  have hbB := (hm.own _ hdel.mem).1
  have hxl := sumsV_length hxs
  have hrd := (hsrc w hm).2
  have hys := (hsrc w hm).1
  have hown : w.ownsRow 0 e 32 (.slice (some ⟨b, 0, none⟩) n cap) n (sumsV xs) := by
    refine ⟨by rw [hxl, hn], .inr ⟨b, cap, _, rfl, Nat.zero_le _, (hm.own _ hdel.mem).2, ?_, hcm, by simpa using hcap, ?_⟩⟩
    · rw [List.length_append, hxl, hn] at hcap; omega
    · rw [← hn, ← hxl]; simp
  have hex : ∃ v' w', (Builtin.append_ #[t, t] ty #[.slice (some ⟨b, 0, none⟩) n cap, .slice A m c]).run P w = .ok v' w' ∧ w'.ownsRow 0 e 32 v' (n + m) (sumsV xs ++ sumsV ys) ∧ w.grownBy w' (some b) ∧ v' ≠ .slice none 0 0 ∧ (v'.ownBlock = some b ∨ v'.ownBlock = some w.heap.size) := by
    obtain ⟨b2, off2, rfl, _, hc2⟩ := hrd.2 (by omega)
    obtain ⟨v', w', hrun, h2, h3, h4, h5⟩ := run_append_own_at (P := P) w 0 t ty e i z 32 32 ht hi hz hs hb hzc (by omega) _ n (sumsV xs) hown ⟨b2, off2, none⟩ m c (sumsV ys) (by rw [sumsV_length hys, hm']) (fun j u hu => by rw [Addr.add_mid]; exact hc2 j u hu) (sumsV_one _) (by unfold maxLen; omega) (by omega) (Nat.zero_le _)
    exact ⟨v', w', hrun, h2, h3, fun e => by have := (h4.1 e).1; simp at this, h5⟩
  obtain ⟨v', w', hrun, h2, h3, h4, h5⟩ := hex
  have hrun2 : (execOp a.eval ⟨some d, .call { callee := .builtin .append, args := #[x, y], argTypes := #[t, t] }, ty, pos, after, g⟩).run P w = .ok (.value v') w' := by
    simp [execOp, resolve, hf.eval hx, hf.eval hy, invoke, builtin, hrun]
  unfold Oper.wp
  rw [hrun2]
  obtain ⟨hlen, hform⟩ := h2
  rcases hform with ⟨hv, _⟩ | ⟨g', cap', cur, rfl, hg', hh, hnc', hcm', hcs, htk⟩
  · exact absurd hv h4
  · have hg2 : g' = b ∨ g' = w.heap.size := by simpa [Value.ownBlock] using h5
    have hsp : cur = (sumsV (xs ++ ys) ++ cur.toList.drop ((n + m) * 32)).toArray := by
      rw [sumsV_append, ← htk]
      simp
    have hm1 := hm.del hdel
    have hbelow : Chg B w0.bs w0.w w' := hm.chg.step hB h3.os h3.tape h3.output h3.size (fun k hk hn => h3.block k (by have := hm.chg.size; omega) (fun e => by
      simp only [Option.some.injEq] at e
      subst e
      rcases hbB with h | h
      · simp only at h; omega
      · exact hn h))
    refine hT _ _ (h g' cap' (cur.toList.drop ((n + m) * 32)) (by have := congrArg Array.size hsp; rw [hcs] at this; simpa using this.symm) hnc' hcm') _ _ (hf.put hd _) ⟨hm.room, hbelow, fun p hp => ?_, List.pairwise_cons.2 ⟨fun p hp => ?_, hm1.apart⟩⟩
    · rcases List.mem_cons.1 hp with rfl | hp
      · refine ⟨?_, by rw [← hsp]; exact hh⟩
        rcases hg2 with e | e
        · show B ≤ g' ∨ g' ∈ w0.bs
          rw [e]; exact hbB
        · exact .inl (by have := hm.chg.size; simp only; omega)
      · exact ⟨(hm1.own p hp).1, (h3.block p.1 (hm1.lt hp) (fun e => by simp only [Option.some.injEq] at e; exact hdel.ne hm.apart p hp e)).trans (hm1.own p hp).2⟩
    · have h6 := hdel.ne hm.apart p hp
      have h7 := hm1.lt hp
      show g' ≠ p.1
      omega
/-- append of sums to a slice that is nil. -/
theorem op_appendNilS {d : Nat} {t e : TypeId} {x y : Operand} {z : Value} {m c : Nat} {ys : List (List UInt8)} {A : Option Addr} (hx : look env x = some (.slice none 0 0)) (hy : look env y = some (.slice A m c))
    (ht : P.underlying t = some (.slice e)) (he : ElR P e z 32 32) (hsrc : ∀ w, Mem B w0 H w → ReadsS w A ys) (hm' : ys.length = m) (hm0 : 0 < m) (h63 : m ≤ 1000000) (hd : Nat.blt d N = true) (hB : B ≤ w0.w.heap.size)
    (h : ∀ b' cap' sp', (sumsV ys ++ sp').length = cap' * 32 → m ≤ cap' → cap' ≤ maxLen → T ((d, .slice (some ⟨b', 0, none⟩) m cap') :: env) ((b', .cells (sumsV ys ++ sp').toArray e (0, 0)) :: H)) :
    Op1 P B w0 N D ⟨some d, .call { callee := .builtin .append, args := #[x, y], argTypes := #[t, t] }, ty, pos, after, g⟩ env H T := fun K Q hT a w hf hm => by
  obtain ⟨i, hi, hz, hs, hb, hzc⟩ := he
  have hrd := (hsrc w hm).2
  have hys := (hsrc w hm).1
  obtain ⟨b2, off2, rfl, _, hc2⟩ := hrd.2 (by omega)
  obtain ⟨v', w', hrun, h2, h3, h4, h5⟩ := run_append_own_at (P := P) w 0 t ty e i z 32 32 ht hi hz hs hb hzc (by omega) (.slice none 0 0) 0 [] ⟨rfl, .inl ⟨rfl, rfl⟩⟩ ⟨b2, off2, none⟩ m c (sumsV ys) (by rw [sumsV_length hys, hm']) (fun j u hu => by rw [Addr.add_mid]; exact hc2 j u hu) (sumsV_one _) (by unfold maxLen; omega) (by omega) (Nat.zero_le _)
  have hrun2 : (execOp a.eval ⟨some d, .call { callee := .builtin .append, args := #[x, y], argTypes := #[t, t] }, ty, pos, after, g⟩).run P w = .ok (.value v') w' := by
    simp [execOp, resolve, hf.eval hx, hf.eval hy, invoke, builtin, hrun]
  unfold Oper.wp
  rw [hrun2]
  obtain ⟨hlen, hform⟩ := h2
  rcases hform with ⟨hv, _⟩ | ⟨g', cap', cur, rfl, hg', hh, hnc', hcm', hcs, htk⟩
  · exact absurd (h4.1 hv).2 (by omega)
  · have hg2 : g' = w.heap.size := by simpa [Value.ownBlock] using h5
    simp only [Nat.zero_add, List.nil_append] at htk hh hnc' ⊢
    have hsp : cur = (sumsV ys ++ cur.toList.drop (m * 32)).toArray := by
      rw [← htk]
      simp
    have hbelow : Chg B w0.bs w0.w w' := hm.chg.step hB h3.os h3.tape h3.output h3.size (fun k hk _ => h3.block k (by have := hm.chg.size; omega) (fun e => by simp [Value.ownBlock] at e))
    refine hT _ _ (h g' cap' (cur.toList.drop (m * 32)) (by have := congrArg Array.size hsp; rw [hcs] at this; simpa using this.symm) hnc' hcm') _ _ (hf.put hd _) ⟨hm.room, hbelow, fun p hp => ?_, List.pairwise_cons.2 ⟨fun p hp => ?_, hm.apart⟩⟩
    · rcases List.mem_cons.1 hp with rfl | hp
      · exact ⟨.inl (by have := hm.chg.size; simp only; omega), by rw [← hsp]; exact hh⟩
      · exact ⟨(hm.own p hp).1, (h3.block p.1 (hm.lt hp) (fun e => by simp [Value.ownBlock] at e)).trans (hm.own p hp).2⟩
    · have h7 := hm.lt hp
      show g' ≠ p.1
      omega
end ops
theorem Mem.readsSp {B : Nat} {w0 : Base} {w : World} {H : Hp} (hm : Mem B w0 H w) {b : Nat} {l : List (List UInt8)} {sp : List Value} {t : TypeId} {fr : Nat × Nat} (hs : Sums l) (hH : (b, Obj.cells (sumsV l ++ sp).toArray t fr) ∈ H) : ReadsS w (some ⟨b, 0, none⟩) l :=
  ⟨hs, hm.reads hH (by rw [List.drop_zero, ← sumsV_length hs, List.take_left]) (by rw [List.length_append, sumsV_length hs]; omega)⟩
end Go.K
