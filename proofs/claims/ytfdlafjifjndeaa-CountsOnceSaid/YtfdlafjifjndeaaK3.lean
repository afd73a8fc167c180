/-
  What an argument is, out of its reading: bytes, numbers, rows of bytes, slices of bytes. Plain theorems, over any program.
-/
import Derived.Test.YtfdlafjifjndeaaK2
import Derived.ProofKit
import Derived.OpenShut
import Derived.ChangeOld
namespace Go.K
open Go.RowKit Go.ChangeShapes Go.WideShapes Go.ChangeAt

/-- A slice of n cells that reads as xs. -/
def Reads (w : World) (A : Option Addr) (n : Nat) (xs : List Value) : Prop :=
  xs.length = n ∧ (n ≠ 0 → ∃ b off, A = some ⟨b, off, none⟩ ∧ b < w.heap.size ∧ ∀ j u, xs[j]? = some u → w.cell? ⟨b, off + j, none⟩ = some u)
theorem Reads.nil (w : World) : Reads w none 0 [] := ⟨rfl, fun h => absurd rfl h⟩
theorem Reads.keep {w w' : World} {A : Option Addr} {n : Nat} {xs : List Value} (h : Reads w A n xs) (hs : w.heap.size ≤ w'.heap.size) (hk : ∀ k, k < w.heap.size → w'.heap[k]? = w.heap[k]?) : Reads w' A n xs :=
  ⟨h.1, fun hn => by
    obtain ⟨b, off, e, hb, hc⟩ := h.2 hn
    exact ⟨b, off, e, by omega, fun j u hu => (World.cell?_of_block (w := w) (w' := w') (a := ⟨b, off + j, none⟩) (hk b hb)).trans (hc j u hu)⟩⟩
theorem Reads.below {w w' : World} {A : Option Addr} {n : Nat} {xs : List Value} (h : Reads w A n xs) (hb : Below w.heap.size w w') : Reads w' A n xs := h.keep hb.size hb.block
theorem Reads.base {w0 w : World} {H : Hp} {A : Option Addr} {n : Nat} {xs : List Value} (h : Reads w0 A n xs) (hm : Mem w0.heap.size ⟨w0, []⟩ H w) : Reads w A n xs := h.below hm.below

section opens
variable {HT : Type} {enc : TypeId × Value → HT} {P : Program} {w : World} {base b0 : Nat} {spare : Nat → Bool} {held : Bool} {r : Reach} {t e : TypeId} {v : Value} {d : DataW HT} {ps : List MemPlace}

theorem wf_u8 {n : Int} (h : (Lit.int .u8 n).wf = true) : ∃ b : UInt8, n = (b.toNat : Int) := by
  simp [Lit.wf, IntKind.min, IntKind.max, IntKind.bits, IntKind.signed] at h
  exact ⟨UInt8.ofNat n.toNat, by rw [UInt8.toNat_ofNat']; omega⟩
theorem wf_u16 {n : Int} (h : (Lit.int .u16 n).wf = true) : ∃ b : UInt16, n = (b.toNat : Int) := by
  simp [Lit.wf, IntKind.min, IntKind.max, IntKind.bits, IntKind.signed] at h
  exact ⟨UInt16.ofNat n.toNat, by rw [UInt16.toNat_ofNat']; omega⟩
theorem wf_u32 {n : Int} (h : (Lit.int .u32 n).wf = true) : ∃ b : UInt32, n = (b.toNat : Int) := by
  simp [Lit.wf, IntKind.min, IntKind.max, IntKind.bits, IntKind.signed] at h
  exact ⟨UInt32.ofNat n.toNat, by rw [UInt32.toNat_ofNat']; omega⟩
theorem wf_u64 {n : Int} (h : (Lit.int .u64 n).wf = true) : ∃ b : UInt64, n = (b.toNat : Int) := by
  simp [Lit.wf, IntKind.min, IntKind.max, IntKind.bits, IntKind.signed] at h
  exact ⟨UInt64.ofNat n.toNat, by rw [UInt64.toNat_ofNat']; omega⟩
theorem wf_i64 {n : Int} (h : (Lit.int .i64 n).wf = true) : -9223372036854775808 ≤ n ∧ n ≤ 9223372036854775807 := by
  simp [Lit.wf, IntKind.min, IntKind.max, IntKind.bits, IntKind.signed] at h
  exact h
theorem arg_u8 (ht : P.underlying t = some (.int .u8)) (hv : Value.okWide P w r b0 t v) (h : DataW.Trod enc P w base spare held t v d ps) : ∃ b : UInt8, v = .int .u8 (b.toNat : Int) := by
  obtain ⟨n, rfl, _, _, hw⟩ := open_int ht hv h; obtain ⟨b, rfl⟩ := wf_u8 hw; exact ⟨b, rfl⟩
theorem arg_u16 (ht : P.underlying t = some (.int .u16)) (hv : Value.okWide P w r b0 t v) (h : DataW.Trod enc P w base spare held t v d ps) : ∃ b : UInt16, v = .int .u16 (b.toNat : Int) := by
  obtain ⟨n, rfl, _, _, hw⟩ := open_int ht hv h; obtain ⟨b, rfl⟩ := wf_u16 hw; exact ⟨b, rfl⟩
theorem arg_u32 (ht : P.underlying t = some (.int .u32)) (hv : Value.okWide P w r b0 t v) (h : DataW.Trod enc P w base spare held t v d ps) : ∃ b : UInt32, v = .int .u32 (b.toNat : Int) := by
  obtain ⟨n, rfl, _, _, hw⟩ := open_int ht hv h; obtain ⟨b, rfl⟩ := wf_u32 hw; exact ⟨b, rfl⟩
theorem arg_u64 (ht : P.underlying t = some (.int .u64)) (hv : Value.okWide P w r b0 t v) (h : DataW.Trod enc P w base spare held t v d ps) : ∃ b : UInt64, v = .int .u64 (b.toNat : Int) := by
  obtain ⟨n, rfl, _, _, hw⟩ := open_int ht hv h; obtain ⟨b, rfl⟩ := wf_u64 hw; exact ⟨b, rfl⟩
theorem arg_int (ht : P.underlying t = some (.int .i64)) (hv : Value.okWide P w r b0 t v) (h : DataW.Trod enc P w base spare held t v d ps) : ∃ n : Int, v = .int .i64 n ∧ -9223372036854775808 ≤ n ∧ n ≤ 9223372036854775807 := by
  obtain ⟨n, rfl, _, _, hw⟩ := open_int ht hv h; exact ⟨n, rfl, wf_i64 hw⟩
theorem bytes_of_ints (zs : List Int) (h : ∀ n ∈ zs, (Lit.int .u8 n).wf = true) : ∃ xs : List UInt8, zs.map (fun n => Value.int .u8 n) = bytesV xs ∧ xs.length = zs.length := by
  induction zs with
  | nil => exact ⟨[], rfl, rfl⟩
  | cons z zs ih =>
    obtain ⟨xs, h1, h2⟩ := ih fun n hn => h n (by simp [hn])
    obtain ⟨b, hb⟩ := wf_u8 (h z (by simp))
    exact ⟨b :: xs, by rw [List.map_cons, h1, hb]; rfl, by simp [h2]⟩
/-- A row of bytes by value. -/
theorem arg_bytes {n : Nat} (ht : P.underlying t = some (.array n e)) (he : P.underlying e = some (.int .u8)) (hce : P.cellsOf e = 1) (hct : P.cellsOf t = n) (hv : Value.okWide P w r b0 t v) (h : DataW.Trod enc P w base spare held t v d ps) :
    ∃ xs : List UInt8, v = .agg (bytesV xs).toArray ∧ xs.length = n := by
  simp only [Value.okWide, ht] at hv
  obtain ⟨⟨cs⟩, rfl, hsz, _⟩ := hv
  rw [hct] at hsz
  simp only [List.size_toArray] at hsz
  obtain ⟨fuel, hf⟩ := h
  obtain ⟨ys, m, _, _, _, hyl, hget⟩ := DataW.trod_array ht hf
  simp only [Value.cells, hce, Nat.mul_one] at hget
  have key : ∀ i, i < n → ∃ b : UInt8, cs[i]? = some (.int .u8 (b.toNat : Int)) := by
    intro i hi
    have h1 := hget i hi
    rw [List.getElem?_eq_getElem (by omega)] at h1
    obtain ⟨z, hz, _, hw⟩ := DataW.trod_int he h1
    obtain ⟨b, rfl⟩ := wf_u8 hw
    refine ⟨b, ?_⟩
    have h2 : ((cs.drop i).take 1)[0]? = some (.int .u8 (b.toNat : Int)) := by rw [hz]; rfl
    rw [List.getElem?_take_of_lt (by omega), List.getElem?_drop] at h2
    exact h2
  have all : ∀ (cs : List Value), (∀ i, i < cs.length → ∃ b : UInt8, cs[i]? = some (.int .u8 (b.toNat : Int))) → ∃ xs : List UInt8, cs = bytesV xs := by
    intro cs
    induction cs with
    | nil => exact fun _ => ⟨[], rfl⟩
    | cons c cs ih =>
      intro h
      obtain ⟨b, hb⟩ := h 0 (by simp)
      obtain ⟨xs, hxs⟩ := ih fun i hi => by obtain ⟨b, hb⟩ := h (i + 1) (by simpa using hi); exact ⟨b, by simpa using hb⟩
      simp only [List.getElem?_cons_zero, Option.some.injEq] at hb
      exact ⟨b :: xs, by rw [hb, hxs]; rfl⟩
  obtain ⟨xs, rfl⟩ := all cs (fun i hi => key i (by omega))
  exact ⟨xs, rfl, by rw [bytesV_length] at hsz; exact hsz⟩
/-- A slice of bytes. -/
theorem arg_slice (ht : P.underlying t = some (.slice e)) (he : P.underlying e = some (.int .u8)) (hce : P.cellsOf e = 1) (hv : Value.okWide P w r b0 t v) (h : DataW.Trod enc P w base spare held t v d ps) (hlt : ∀ x ∈ ps, x.block < w.heap.size) :
    ∃ (A : Option Addr) (c : Nat) (xs : List UInt8), v = .slice A xs.length c ∧ Reads w A xs.length (bytesV xs) ∧ xs.length ≤ c ∧ c ≤ maxLen := by
  obtain ⟨A, n, c, rfl⟩ := okWide_slice ht hv
  obtain ⟨fuel, hf⟩ := h
  rcases open_ints ht he hce hf with ⟨hcs, _⟩ | ⟨a, len, cap, zs, hcs, _, hl, hm, hz, hx, hcell, hwz⟩
  · simp [Value.cells] at hcs
    obtain ⟨rfl, rfl, rfl⟩ := hcs
    exact ⟨none, 0, [], rfl, Reads.nil w, Nat.le_refl _, by unfold maxLen; omega⟩
  · simp [Value.cells] at hcs
    obtain ⟨rfl, rfl, rfl⟩ := hcs
    have hzl : n ≤ zs.length := by rw [hz]; split <;> omega
    obtain ⟨xs, h1, h2⟩ := bytes_of_ints (zs.take n) (fun z hz => hwz z (List.mem_of_mem_take hz))
    have hxl : xs.length = n := by rw [h2, List.length_take]; omega
    refine ⟨some a, c, xs, by rw [hxl], ⟨by rw [bytesV_length], fun hn => ?_⟩, by omega, hm⟩
    obtain ⟨b, off, spot⟩ := a
    have hc0 := hcell 0 (by omega)
    have hspot : spot = none := by simpa [Addr.add] using World.cell?_spot hc0
    subst hspot
    refine ⟨b, off, rfl, World.block_lt_of_cell? w (⟨b, off, none⟩ : Addr) (by simpa [Addr.add] using hc0), fun j u hu => ?_⟩
    rw [← h1] at hu
    have hj : j < n := by
      rcases Nat.lt_or_ge j n with h | h
      · exact h
      · rw [List.getElem?_eq_none (by simp; omega)] at hu; cases hu
    have hcj := hcell j (by omega)
    rw [Addr.add_mid] at hcj
    rw [hcj]
    have hz : (zs.take n)[j]? = some (zs.getD j 0) := by
      rw [List.getElem?_take_of_lt hj, List.getElem?_eq_getElem (by omega)]
      simp [List.getElem?_eq_getElem (show j < zs.length by omega)]
    rw [List.getElem?_map, hz] at hu
    simpa using hu
end opens
end Go.K
