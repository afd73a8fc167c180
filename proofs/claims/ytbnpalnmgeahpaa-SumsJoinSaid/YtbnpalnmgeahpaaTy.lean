/-
  What the types of this translation are, as the laws of the calculus ask it.
-/
import Derived.Test.YtbnpalnmgeahpaaRows
import Derived.Test.YtbnpalnmgeahpaaK6
import Derived.KernelRfl
namespace Go.Proofs.Ytbnpalnmgeahpaa
open Go.K
theorem sc_u8 : Sc Try.prog 5 := ⟨_, Try.underlying5, rfl, by kernel_rfl⟩
theorem sc_int : Sc Try.prog 3 := ⟨_, Try.underlying3, rfl, by kernel_rfl⟩
theorem sc_bool : Sc Try.prog 4 := ⟨_, Try.underlying4, rfl, by kernel_rfl⟩
theorem sc_u32 : Sc Try.prog 28 := ⟨_, Try.underlying28, rfl, by kernel_rfl⟩
theorem sc_u64 : Sc Try.prog 35 := ⟨_, Try.underlying35, rfl, by kernel_rfl⟩
theorem sc_u16 : Sc Try.prog 37 := ⟨_, Try.underlying37, rfl, by kernel_rfl⟩
theorem ik_int : Ik Try.prog 3 .i64 := Try.underlying3
theorem ik_u8 : Ik Try.prog 5 .u8 := Try.underlying5
theorem ik_u32 : Ik Try.prog 28 .u32 := Try.underlying28
theorem ik_u64 : Ik Try.prog 35 .u64 := Try.underlying35
theorem ik_u16 : Ik Try.prog 37 .u16 := Try.underlying37
theorem slc_u8s : Slc Try.prog 27 5 := ⟨Try.underlying27, sc_u8⟩
theorem arr_Sum : Arr Try.prog 23 32 5 := ⟨Try.underlying23, sc_u8⟩
theorem row_Sum : Row Try.prog 23 32 := ⟨_, Try.underlying23, rfl, by kernel_rfl⟩
theorem arr_b3 : Arr Try.prog 24 3 5 := ⟨Try.underlying24, sc_u8⟩
theorem row_b3 : Row Try.prog 24 3 := ⟨_, Try.underlying24, rfl, by kernel_rfl⟩
theorem arr_both : Arr Try.prog 42 2 35 := ⟨Try.underlying42, sc_u64⟩
theorem row_both : Row Try.prog 42 2 := ⟨_, Try.underlying42, rfl, by kernel_rfl⟩
theorem el_u8 : El Try.prog 5 (.int .u8 0) 1 := by
  obtain ⟨i, h1, h2, h3, h4⟩ := info_parts (show (Try.prog.info? 5).map (fun i => (i.zero, i.size, i.bytes)) = some (some (.int .u8 0), 1, 1) from by kernel_rfl)
  exact ⟨i, h1, h2, h3, h4, rfl⟩
theorem zero_both : Zr Try.prog 42 [.int .u64 0, .int .u64 0] := by unfold Zr; kernel_rfl
theorem zero_Sum : Zr Try.prog 23 (bytesV (List.replicate 32 0)) := by unfold Zr; kernel_rfl
theorem ut_bool : Try.prog.underlying 4 = some .bool := Try.underlying4
theorem sc_u8s : Sc Try.prog 27 := ⟨_, Try.underlying27, rfl, by kernel_rfl⟩
end Go.Proofs.Ytbnpalnmgeahpaa
