/-
  What the types of this translation are, as the laws of the calculus ask it.
-/
import Derived.Test.YthkogneaimjhjaaRows
import Derived.Test.YthkogneaimjhjaaK13
import Derived.KernelRfl
namespace Go.Proofs.Ythkogneaimjhjaa
open Go.K
theorem sc_u8 : Sc Try.prog 5 := ⟨_, Try.underlying5, rfl, by kernel_rfl⟩
theorem sc_int : Sc Try.prog 3 := ⟨_, Try.underlying3, rfl, by kernel_rfl⟩
theorem sc_bool : Sc Try.prog 4 := ⟨_, Try.underlying4, rfl, by kernel_rfl⟩
theorem sc_u32 : Sc Try.prog 31 := ⟨_, Try.underlying31, rfl, by kernel_rfl⟩
theorem sc_u64 : Sc Try.prog 41 := ⟨_, Try.underlying41, rfl, by kernel_rfl⟩
theorem ik_int : Ik Try.prog 3 .i64 := Try.underlying3
theorem ik_u8 : Ik Try.prog 5 .u8 := Try.underlying5
theorem ik_u32 : Ik Try.prog 31 .u32 := Try.underlying31
theorem ik_u64 : Ik Try.prog 41 .u64 := Try.underlying41
theorem slc_u8s : Slc Try.prog 32 5 := ⟨Try.underlying32, sc_u8⟩
theorem arr_Sum : Arr Try.prog 23 32 5 := ⟨Try.underlying23, sc_u8⟩
theorem row_Sum : Row Try.prog 23 32 := ⟨_, Try.underlying23, rfl, by kernel_rfl⟩
theorem el_u8 : El Try.prog 5 (.int .u8 0) 1 := by
  obtain ⟨i, h1, h2, h3, h4⟩ := info_parts (show (Try.prog.info? 5).map (fun i => (i.zero, i.size, i.bytes)) = some (some (.int .u8 0), 1, 1) from by kernel_rfl)
  exact ⟨i, h1, h2, h3, h4, rfl⟩
theorem zero_Sum : Zr Try.prog 23 (bytesV (List.replicate 32 0)) := by unfold Zr; kernel_rfl
theorem ut_bool : Try.prog.underlying 4 = some .bool := Try.underlying4
theorem sc_u8s : Sc Try.prog 32 := ⟨_, Try.underlying32, rfl, by kernel_rfl⟩
theorem fd_Run_0 : FldAt Try.prog 94 0 0 := ⟨_, _, 0, Try.underlying94, rfl, rfl, by kernel_rfl⟩
theorem fd_Run_1 : FldAt Try.prog 94 1 1 := ⟨_, _, 7, Try.underlying94, rfl, rfl, by kernel_rfl⟩
theorem fd_Run_2 : FldAt Try.prog 94 2 9 := ⟨_, _, 63, Try.underlying94, rfl, rfl, by kernel_rfl⟩
theorem fd_Run_3 : FldAt Try.prog 94 3 73 := ⟨_, _, 0, Try.underlying94, rfl, rfl, by kernel_rfl⟩
theorem row_Run : Row Try.prog 94 74 := ⟨_, Try.underlying94, rfl, by kernel_rfl⟩
theorem ptr_pRun : Try.prog.underlying 66 = some (.pointer (Try.prog.pointee 66)) := by kernel_rfl
theorem zero_Run : Zr Try.prog 94 (.bool false :: (wordsV (List.replicate 8 0) ++ bytesV (List.replicate 64 0) ++ [.int .u64 0])) := by unfold Zr; kernel_rfl
theorem sc_uint : Sc Try.prog 25 := ⟨_, Try.underlying25, rfl, by kernel_rfl⟩
theorem ik_uint : Ik Try.prog 25 .u64 := Try.underlying25
theorem arr_w16 : Arr Try.prog 105 16 31 := ⟨Try.underlying105, sc_u32⟩
theorem zero_w16 : Zr Try.prog 105 (wordsV (List.replicate 16 0)) := by unfold Zr; kernel_rfl
theorem arr_w64 : Arr Try.prog 101 64 31 := ⟨Try.underlying101, sc_u32⟩
theorem row_w64 : Row Try.prog 101 64 := ⟨_, Try.underlying101, rfl, by kernel_rfl⟩
theorem zero_w64 : Zr Try.prog 101 (wordsV (List.replicate 64 0)) := by unfold Zr; kernel_rfl
theorem arr_w8 : Arr Try.prog 90 8 31 := ⟨Try.underlying90, sc_u32⟩
theorem zero_w8 : Zr Try.prog 90 (wordsV (List.replicate 8 0)) := by unfold Zr; kernel_rfl
theorem arr_b64 : Arr Try.prog 73 64 5 := ⟨Try.underlying73, sc_u8⟩
theorem row_b64 : Row Try.prog 73 64 := ⟨_, Try.underlying73, rfl, by kernel_rfl⟩
theorem arr_eight : Arr Try.prog 91 8 31 := ⟨Try.underlying91, sc_u32⟩
theorem row_eight : Row Try.prog 91 8 := ⟨_, Try.underlying91, rfl, by kernel_rfl⟩
theorem zero_eight : Zr Try.prog 91 (wordsV (List.replicate 8 0)) := by unfold Zr; kernel_rfl
theorem row_refEight : Row Try.prog 85 8 := ⟨_, Try.underlying85, rfl, by kernel_rfl⟩
theorem zero_refEight : Zr Try.prog 85 (wordsV (List.replicate 8 0)) := by unfold Zr; kernel_rfl
theorem fd_refEight_0 : FldAt Try.prog 85 0 0 := ⟨_, _, 0, Try.underlying85, rfl, rfl, by kernel_rfl⟩
theorem fd_refEight_1 : FldAt Try.prog 85 1 1 := ⟨_, _, 0, Try.underlying85, rfl, rfl, by kernel_rfl⟩
theorem fd_refEight_2 : FldAt Try.prog 85 2 2 := ⟨_, _, 0, Try.underlying85, rfl, rfl, by kernel_rfl⟩
theorem fd_refEight_3 : FldAt Try.prog 85 3 3 := ⟨_, _, 0, Try.underlying85, rfl, rfl, by kernel_rfl⟩
theorem fd_refEight_4 : FldAt Try.prog 85 4 4 := ⟨_, _, 0, Try.underlying85, rfl, rfl, by kernel_rfl⟩
theorem fd_refEight_5 : FldAt Try.prog 85 5 5 := ⟨_, _, 0, Try.underlying85, rfl, rfl, by kernel_rfl⟩
theorem fd_refEight_6 : FldAt Try.prog 85 6 6 := ⟨_, _, 0, Try.underlying85, rfl, rfl, by kernel_rfl⟩
theorem fd_refEight_7 : FldAt Try.prog 85 7 7 := ⟨_, _, 0, Try.underlying85, rfl, rfl, by kernel_rfl⟩
theorem slc_u32s : Slc Try.prog 104 31 := ⟨Try.underlying104, sc_u32⟩
theorem el_u32 : El Try.prog 31 (.int .u32 0) 4 := by
  obtain ⟨i, h1, h2, h3, h4⟩ := info_parts (show (Try.prog.info? 31).map (fun i => (i.zero, i.size, i.bytes)) = some (some (.int .u32 0), 1, 4) from by kernel_rfl)
  exact ⟨i, h1, h2, h3, h4, rfl⟩
theorem ut_string : Try.prog.underlying 9 = some .string := Try.underlying9
theorem arr_block : Arr Try.prog 74 64 5 := ⟨Try.underlying74, sc_u8⟩
theorem row_block : Row Try.prog 74 64 := ⟨_, Try.underlying74, rfl, by kernel_rfl⟩
theorem zero_block : Zr Try.prog 74 (bytesV (List.replicate 64 0)) := by unfold Zr; kernel_rfl
theorem slc_u8ss : Slc Try.prog 72 32 := ⟨Try.underlying72, sc_u8s⟩
theorem el_u8s : El Try.prog 32 (.slice none 0 0) 24 := by
  obtain ⟨i, h1, h2, h3, h4⟩ := info_parts (show (Try.prog.info? 32).map (fun i => (i.zero, i.size, i.bytes)) = some (some (.slice none 0 0), 1, 24) from by kernel_rfl)
  exact ⟨i, h1, h2, h3, h4, rfl⟩
theorem utSums : Try.prog.underlying 51 = some (.slice 23) := Try.underlying51
end Go.Proofs.Ythkogneaimjhjaa
