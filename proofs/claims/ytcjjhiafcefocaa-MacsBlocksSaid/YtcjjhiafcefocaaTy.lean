/-
  What the types of this translation are, as the laws of the calculus ask it.
-/
import Derived.Test.YtcjjhiafcefocaaRows
import Derived.Test.YtcjjhiafcefocaaK9
import Derived.KernelRfl
namespace Go.Proofs.Ytcjjhiafcefocaa
open Go.K
theorem sc_u8 : Sc Try.prog 5 := ⟨_, Try.underlying5, rfl, by kernel_rfl⟩
theorem sc_int : Sc Try.prog 3 := ⟨_, Try.underlying3, rfl, by kernel_rfl⟩
theorem sc_bool : Sc Try.prog 4 := ⟨_, Try.underlying4, rfl, by kernel_rfl⟩
theorem sc_u32 : Sc Try.prog 30 := ⟨_, Try.underlying30, rfl, by kernel_rfl⟩
theorem sc_u64 : Sc Try.prog 40 := ⟨_, Try.underlying40, rfl, by kernel_rfl⟩
theorem ik_int : Ik Try.prog 3 .i64 := Try.underlying3
theorem ik_u8 : Ik Try.prog 5 .u8 := Try.underlying5
theorem ik_u32 : Ik Try.prog 30 .u32 := Try.underlying30
theorem ik_u64 : Ik Try.prog 40 .u64 := Try.underlying40
theorem slc_u8s : Slc Try.prog 22 5 := ⟨Try.underlying22, sc_u8⟩
theorem arr_Sum : Arr Try.prog 25 32 5 := ⟨Try.underlying25, sc_u8⟩
theorem row_Sum : Row Try.prog 25 32 := ⟨_, Try.underlying25, rfl, by kernel_rfl⟩
theorem el_u8 : El Try.prog 5 (.int .u8 0) 1 := by
  obtain ⟨i, h1, h2, h3, h4⟩ := info_parts (show (Try.prog.info? 5).map (fun i => (i.zero, i.size, i.bytes)) = some (some (.int .u8 0), 1, 1) from by kernel_rfl)
  exact ⟨i, h1, h2, h3, h4, rfl⟩
theorem zero_Sum : Zr Try.prog 25 (bytesV (List.replicate 32 0)) := by unfold Zr; kernel_rfl
theorem ut_bool : Try.prog.underlying 4 = some .bool := Try.underlying4
theorem sc_u8s : Sc Try.prog 22 := ⟨_, Try.underlying22, rfl, by kernel_rfl⟩
theorem fd_Run_0 : FldAt Try.prog 42 0 0 := ⟨_, _, 0, Try.underlying42, rfl, rfl, by kernel_rfl⟩
theorem fd_Run_1 : FldAt Try.prog 42 1 1 := ⟨_, _, 7, Try.underlying42, rfl, rfl, by kernel_rfl⟩
theorem fd_Run_2 : FldAt Try.prog 42 2 9 := ⟨_, _, 63, Try.underlying42, rfl, rfl, by kernel_rfl⟩
theorem fd_Run_3 : FldAt Try.prog 42 3 73 := ⟨_, _, 0, Try.underlying42, rfl, rfl, by kernel_rfl⟩
theorem row_Run : Row Try.prog 42 74 := ⟨_, Try.underlying42, rfl, by kernel_rfl⟩
theorem ptr_pRun : Try.prog.underlying 36 = some (.pointer (Try.prog.pointee 36)) := by kernel_rfl
theorem zero_Run : Zr Try.prog 42 (.bool false :: (wordsV (List.replicate 8 0) ++ bytesV (List.replicate 64 0) ++ [.int .u64 0])) := by unfold Zr; kernel_rfl
theorem sc_uint : Sc Try.prog 60 := ⟨_, Try.underlying60, rfl, by kernel_rfl⟩
theorem ik_uint : Ik Try.prog 60 .u64 := Try.underlying60
theorem arr_w16 : Arr Try.prog 74 16 30 := ⟨Try.underlying74, sc_u32⟩
theorem zero_w16 : Zr Try.prog 74 (wordsV (List.replicate 16 0)) := by unfold Zr; kernel_rfl
theorem arr_w64 : Arr Try.prog 61 64 30 := ⟨Try.underlying61, sc_u32⟩
theorem row_w64 : Row Try.prog 61 64 := ⟨_, Try.underlying61, rfl, by kernel_rfl⟩
theorem zero_w64 : Zr Try.prog 61 (wordsV (List.replicate 64 0)) := by unfold Zr; kernel_rfl
theorem arr_w8 : Arr Try.prog 37 8 30 := ⟨Try.underlying37, sc_u32⟩
theorem zero_w8 : Zr Try.prog 37 (wordsV (List.replicate 8 0)) := by unfold Zr; kernel_rfl
theorem arr_b64 : Arr Try.prog 39 64 5 := ⟨Try.underlying39, sc_u8⟩
theorem row_b64 : Row Try.prog 39 64 := ⟨_, Try.underlying39, rfl, by kernel_rfl⟩
theorem arr_eight : Arr Try.prog 38 8 30 := ⟨Try.underlying38, sc_u32⟩
theorem row_eight : Row Try.prog 38 8 := ⟨_, Try.underlying38, rfl, by kernel_rfl⟩
theorem zero_eight : Zr Try.prog 38 (wordsV (List.replicate 8 0)) := by unfold Zr; kernel_rfl
theorem row_refEight : Row Try.prog 32 8 := ⟨_, Try.underlying32, rfl, by kernel_rfl⟩
theorem zero_refEight : Zr Try.prog 32 (wordsV (List.replicate 8 0)) := by unfold Zr; kernel_rfl
theorem fd_refEight_0 : FldAt Try.prog 32 0 0 := ⟨_, _, 0, Try.underlying32, rfl, rfl, by kernel_rfl⟩
theorem fd_refEight_1 : FldAt Try.prog 32 1 1 := ⟨_, _, 0, Try.underlying32, rfl, rfl, by kernel_rfl⟩
theorem fd_refEight_2 : FldAt Try.prog 32 2 2 := ⟨_, _, 0, Try.underlying32, rfl, rfl, by kernel_rfl⟩
theorem fd_refEight_3 : FldAt Try.prog 32 3 3 := ⟨_, _, 0, Try.underlying32, rfl, rfl, by kernel_rfl⟩
theorem fd_refEight_4 : FldAt Try.prog 32 4 4 := ⟨_, _, 0, Try.underlying32, rfl, rfl, by kernel_rfl⟩
theorem fd_refEight_5 : FldAt Try.prog 32 5 5 := ⟨_, _, 0, Try.underlying32, rfl, rfl, by kernel_rfl⟩
theorem fd_refEight_6 : FldAt Try.prog 32 6 6 := ⟨_, _, 0, Try.underlying32, rfl, rfl, by kernel_rfl⟩
theorem fd_refEight_7 : FldAt Try.prog 32 7 7 := ⟨_, _, 0, Try.underlying32, rfl, rfl, by kernel_rfl⟩
theorem slc_u32s : Slc Try.prog 64 30 := ⟨Try.underlying64, sc_u32⟩
theorem el_u32 : El Try.prog 30 (.int .u32 0) 4 := by
  obtain ⟨i, h1, h2, h3, h4⟩ := info_parts (show (Try.prog.info? 30).map (fun i => (i.zero, i.size, i.bytes)) = some (some (.int .u32 0), 1, 4) from by kernel_rfl)
  exact ⟨i, h1, h2, h3, h4, rfl⟩
theorem ut_string : Try.prog.underlying 9 = some .string := Try.underlying9
theorem arr_block : Arr Try.prog 67 64 5 := ⟨Try.underlying67, sc_u8⟩
theorem row_block : Row Try.prog 67 64 := ⟨_, Try.underlying67, rfl, by kernel_rfl⟩
theorem zero_block : Zr Try.prog 67 (bytesV (List.replicate 64 0)) := by unfold Zr; kernel_rfl
theorem slc_u8ss : Slc Try.prog 46 22 := ⟨Try.underlying46, sc_u8s⟩
theorem el_u8s : El Try.prog 22 (.slice none 0 0) 24 := by
  obtain ⟨i, h1, h2, h3, h4⟩ := info_parts (show (Try.prog.info? 22).map (fun i => (i.zero, i.size, i.bytes)) = some (some (.slice none 0 0), 1, 24) from by kernel_rfl)
  exact ⟨i, h1, h2, h3, h4, rfl⟩
end Go.Proofs.Ytcjjhiafcefocaa
