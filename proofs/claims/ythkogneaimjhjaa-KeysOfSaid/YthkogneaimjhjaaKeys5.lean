/-
  The layer keys: what the statements are asked, as cells.
-/
import Derived.Test.YthkogneaimjhjaaKeys4
namespace Go.Sha
open Go.K
def askedV (t : UInt32) (z d : Int) (l r : List UInt8) (v : Value) : List Value := [.int .u32 (t.toNat : Int)] ++ ([.int .i64 z] ++ ([.int .i64 d] ++ (bytesV l ++ (bytesV r ++ [v]))))
theorem asked_0 (t : UInt32) (z d : Int) (l r : List UInt8) (v : Value) : (askedV t z d l r v)[0]? = some (.int .u32 (t.toNat : Int)) := rfl
theorem asked_1 (t : UInt32) (z d : Int) (l r : List UInt8) (v : Value) : (askedV t z d l r v)[1]? = some (.int .i64 z) := rfl
theorem asked_2 (t : UInt32) (z d : Int) (l r : List UInt8) (v : Value) : (askedV t z d l r v)[2]? = some (.int .i64 d) := rfl
theorem asked_len (t : UInt32) (z d : Int) (l r : List UInt8) (v : Value) (hl : l.length = 32) (hr : r.length = 32) : (askedV t z d l r v).length = 68 := by
  unfold askedV; simp [bytesV_length, hl, hr]
theorem asked_5 (t : UInt32) (z d : Int) (l r : List UInt8) (v : Value) (hl : l.length = 32) (hr : r.length = 32) : (askedV t z d l r v)[67]? = some v := by
  have h1 : (askedV t z d l r v)[67]? = (bytesV l ++ (bytesV r ++ [v]))[64]? := rfl
  rw [h1, List.getElem?_append_right (by rw [bytesV_length]; omega), List.getElem?_append_right (by rw [bytesV_length, bytesV_length]; omega), bytesV_length, bytesV_length, hl, hr]
  rfl
theorem asked_3 (t : UInt32) (z d : Int) (l r : List UInt8) (v : Value) (hl : l.length = 32) : ((askedV t z d l r v).drop 3).take 32 = bytesV l := by
  have h1 : (askedV t z d l r v).drop 3 = bytesV l ++ (bytesV r ++ [v]) := rfl
  rw [h1, List.take_append_of_le_length (by rw [bytesV_length]; omega), List.take_of_length_le (by rw [bytesV_length]; omega)]
theorem asked_4 (t : UInt32) (z d : Int) (l r : List UInt8) (v : Value) (hl : l.length = 32) (hr : r.length = 32) : ((askedV t z d l r v).drop 35).take 32 = bytesV r := by
  have h1 : (askedV t z d l r v).drop 35 = (bytesV l ++ (bytesV r ++ [v])).drop 32 := rfl
  rw [h1, List.drop_append, List.drop_eq_nil_of_le (by rw [bytesV_length]; omega), bytesV_length, hl, List.nil_append, Nat.sub_self, List.drop_zero, List.take_append_of_le_length (by rw [bytesV_length]; omega), List.take_of_length_le (by rw [bytesV_length]; omega)]
end Go.Sha
namespace Go.Proofs.Ythkogneaimjhjaa
open Go.Sha
open Go.RowKit Go.K
attribute [local irreducible] Exit.then Exit.inBlock Exit.noGoto bodyPost Code.wp QL Sx Rx Qx Ex Dx Op1 Pure1 Still1 K.Sub Calm Code.wpIn
theorem row_Asked : Row Try.prog 34 68 := ⟨_, Try.underlying34, rfl, by kernel_rfl⟩
theorem zero_Asked : Zr Try.prog 34 (([Value.int .u32 0] ++ ([Value.int .i64 0] ++ ([Value.int .i64 0] ++ (bytesV (List.replicate 32 0) ++ (bytesV (List.replicate 32 0) ++ ([Value.slice none 0 0]))))))) := by unfold Zr; kernel_rfl
theorem elr_Asked : ElR Try.prog 34 (.agg (([Value.int .u32 0] ++ ([Value.int .i64 0] ++ ([Value.int .i64 0] ++ (bytesV (List.replicate 32 0) ++ (bytesV (List.replicate 32 0) ++ ([Value.slice none 0 0]))))))).toArray) 68 112 := by
  obtain ⟨i, h1, h2, h3, h4⟩ := info_parts (show (Try.prog.info? 34).map (fun i => (i.zero, i.size, i.bytes)) = some (some (.agg (([Value.int .u32 0] ++ ([Value.int .i64 0] ++ ([Value.int .i64 0] ++ (bytesV (List.replicate 32 0) ++ (bytesV (List.replicate 32 0) ++ ([Value.slice none 0 0]))))))).toArray), 68, 112) from by kernel_rfl)
  exact ⟨i, h1, h2, h3, h4, rfl⟩
theorem fd_Asked_0 : FldAt Try.prog 34 0 0 := ⟨_, _, 0, Try.underlying34, rfl, rfl, by kernel_rfl⟩
theorem fd_Asked_1 : FldAt Try.prog 34 1 1 := ⟨_, _, 0, Try.underlying34, rfl, rfl, by kernel_rfl⟩
theorem fd_Asked_2 : FldAt Try.prog 34 2 2 := ⟨_, _, 0, Try.underlying34, rfl, rfl, by kernel_rfl⟩
theorem fd_Asked_3 : FldAt Try.prog 34 3 3 := ⟨_, _, 31, Try.underlying34, rfl, rfl, by kernel_rfl⟩
theorem fd_Asked_4 : FldAt Try.prog 34 4 35 := ⟨_, _, 31, Try.underlying34, rfl, rfl, by kernel_rfl⟩
theorem fd_Asked_5 : FldAt Try.prog 34 5 67 := ⟨_, _, 0, Try.underlying34, rfl, rfl, by kernel_rfl⟩
end Go.Proofs.Ythkogneaimjhjaa
