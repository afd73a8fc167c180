/-
  Put, where there is at least one byte: handed back in a row of the call's own.
-/
import Derived.Test.YtfdlafjifjndeaaPut3
namespace Go.Sha
open Go.K
/-- a number's own 64 bits; its lowest byte -/
def zN (z : Int) : Nat := (z % 18446744073709551616).toNat
def byteZ (z : Int) : UInt8 := UInt8.ofNat (z % 256).toNat
end Go.Sha
namespace Go.Proofs.Ytfdlafjifjndeaa
open Go.Sha
open Go.RowKit Go.K
attribute [local irreducible] Exit.then Exit.inBlock Exit.noGoto bodyPost Code.wp QL Sx Rx Qx Ex Dx Op1 Pure1 Still1 K.Sub Calm Code.wpIn
attribute [local irreducible] Buf.hp Buf.cap Buf.addr
set_option linter.unusedVariables false

theorem MadeB.buf {e : TypeId} {xs : List UInt8} {w w' : World} {r : Ending} (hx : xs.length ≠ 0) (h : MadeB e xs w r w') : MadeBuf e xs w r w' := by
  obtain ⟨u, hr, hok, hp, hb⟩ := h
  obtain ⟨g, sp, rfl⟩ := Buf.some_of hok hx
  have h1 := hp (g, .cells (bytesV xs ++ sp).toArray e (0, 0)) (by unfold Buf.hp; exact List.Mem.head _)
  exact ⟨g, sp, hr, hok, h1.1, h1.2, hb⟩
theorem clamp_nat (m : Nat) (h : m ≤ 8) : clampB (m : Int) = m := by unfold clampB; omega
theorem putBuf (A : Option Addr) (n c : Nat) (xs : List UInt8) (v m : Nat) (w : World) (hl : xs.length = n) (hrd : Reads w A n (bytesV xs)) (hn : n ≤ 1000000000) (hv : v ≤ 18446744073709551615) (hm : m ≤ 8) (h0 : m ≠ 0) :
    Calls Try.prog 47 [.slice A n c, .int .u64 (v : Int), .int .i64 (m : Int)].toArray w (MadeBuf 5 (xs ++ digitsB v m) w) :=
  (put_any A n c xs v m w hl hrd hn hv).mono fun _ _ h => by
    rw [clamp_nat m hm] at h
    exact h.buf (by rw [List.length_append, digitsB_length]; omega)
theorem refPutBuf (A : Option Addr) (n c : Nat) (xs : List UInt8) (v m : Nat) (w : World) (hl : xs.length = n) (hrd : Reads w A n (bytesV xs)) (hn : n ≤ 1000000000) (hv : v ≤ 18446744073709551615) (hm : m ≤ 8) (h0 : m ≠ 0) :
    Calls Try.prog 88 [.slice A n c, .int .u64 (v : Int), .int .i64 (m : Int)].toArray w (MadeBuf 5 (xs ++ digitsB v m) w) :=
  (refPut_any A n c xs v m w hl hrd hn hv).mono fun _ _ h => by
    rw [clamp_nat m hm] at h
    exact h.buf (by rw [List.length_append, digitsB_length]; omega)
theorem zN_lt (z : Int) : zN z ≤ 18446744073709551615 := by unfold zN; omega
theorem wrap_zN (z : Int) : IntKind.u64.wrap z = ((zN z : Nat) : Int) := by
  rw [IntKind.wrap_u64]; unfold zN; omega
theorem digits_one (z : Int) : digitsB (zN z) 1 = [byteZ z] := by
  unfold digitsB digitsB byteZ zN
  congr 2
  simp only [Nat.pow_zero, Nat.div_one]
  omega
theorem wrap_byteZ (z : Int) : IntKind.u8.wrap z = ((byteZ z).toNat : Int) := by
  rw [IntKind.wrap_u8]; unfold byteZ; rw [UInt8.toNat_ofNat']; omega
end Go.Proofs.Ytfdlafjifjndeaa
