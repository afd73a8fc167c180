/-
  What the types of this translation are, as the laws of the calculus ask it.
-/
import Derived.Test.YtfdlafjifjndeaaRows
import Derived.Test.YtfdlafjifjndeaaK13
import Derived.KernelRfl
namespace Go.Proofs.Ytfdlafjifjndeaa
open Go.K
theorem sc_u8 : Sc Try.prog 5 := ⟨_, Try.underlying5, rfl, by kernel_rfl⟩
theorem sc_int : Sc Try.prog 3 := ⟨_, Try.underlying3, rfl, by kernel_rfl⟩
theorem sc_bool : Sc Try.prog 4 := ⟨_, Try.underlying4, rfl, by kernel_rfl⟩
theorem sc_u32 : Sc Try.prog 30 := ⟨_, Try.underlying30, rfl, by kernel_rfl⟩
theorem sc_u64 : Sc Try.prog 90 := ⟨_, Try.underlying90, rfl, by kernel_rfl⟩
theorem ik_int : Ik Try.prog 3 .i64 := Try.underlying3
theorem ik_u8 : Ik Try.prog 5 .u8 := Try.underlying5
theorem ik_u32 : Ik Try.prog 30 .u32 := Try.underlying30
theorem ik_u64 : Ik Try.prog 90 .u64 := Try.underlying90
theorem slc_u8s : Slc Try.prog 40 5 := ⟨Try.underlying40, sc_u8⟩
theorem arr_Sum : Arr Try.prog 23 32 5 := ⟨Try.underlying23, sc_u8⟩
theorem row_Sum : Row Try.prog 23 32 := ⟨_, Try.underlying23, rfl, by kernel_rfl⟩
theorem arr_both : Arr Try.prog 165 2 90 := ⟨Try.underlying165, sc_u64⟩
theorem row_both : Row Try.prog 165 2 := ⟨_, Try.underlying165, rfl, by kernel_rfl⟩
theorem el_u8 : El Try.prog 5 (.int .u8 0) 1 := by
  obtain ⟨i, h1, h2, h3, h4⟩ := info_parts (show (Try.prog.info? 5).map (fun i => (i.zero, i.size, i.bytes)) = some (some (.int .u8 0), 1, 1) from by kernel_rfl)
  exact ⟨i, h1, h2, h3, h4, rfl⟩
theorem zero_both : Zr Try.prog 165 [.int .u64 0, .int .u64 0] := by unfold Zr; kernel_rfl
theorem zero_Sum : Zr Try.prog 23 (bytesV (List.replicate 32 0)) := by unfold Zr; kernel_rfl
theorem ut_bool : Try.prog.underlying 4 = some .bool := Try.underlying4
theorem sc_u8s : Sc Try.prog 40 := ⟨_, Try.underlying40, rfl, by kernel_rfl⟩
theorem fd_Run_0 : FldAt Try.prog 149 0 0 := ⟨_, _, 0, Try.underlying149, rfl, rfl, by kernel_rfl⟩
theorem fd_Run_1 : FldAt Try.prog 149 1 1 := ⟨_, _, 7, Try.underlying149, rfl, rfl, by kernel_rfl⟩
theorem fd_Run_2 : FldAt Try.prog 149 2 9 := ⟨_, _, 63, Try.underlying149, rfl, rfl, by kernel_rfl⟩
theorem fd_Run_3 : FldAt Try.prog 149 3 73 := ⟨_, _, 0, Try.underlying149, rfl, rfl, by kernel_rfl⟩
theorem row_Run : Row Try.prog 149 74 := ⟨_, Try.underlying149, rfl, by kernel_rfl⟩
theorem ptr_pRun : Try.prog.underlying 91 = some (.pointer (Try.prog.pointee 91)) := by kernel_rfl
theorem zero_Run : Zr Try.prog 149 (.bool false :: (wordsV (List.replicate 8 0) ++ bytesV (List.replicate 64 0) ++ [.int .u64 0])) := by unfold Zr; kernel_rfl
theorem sc_uint : Sc Try.prog 154 := ⟨_, Try.underlying154, rfl, by kernel_rfl⟩
theorem ik_uint : Ik Try.prog 154 .u64 := Try.underlying154
theorem arr_w16 : Arr Try.prog 159 16 30 := ⟨Try.underlying159, sc_u32⟩
theorem zero_w16 : Zr Try.prog 159 (wordsV (List.replicate 16 0)) := by unfold Zr; kernel_rfl
theorem arr_w64 : Arr Try.prog 155 64 30 := ⟨Try.underlying155, sc_u32⟩
theorem row_w64 : Row Try.prog 155 64 := ⟨_, Try.underlying155, rfl, by kernel_rfl⟩
theorem zero_w64 : Zr Try.prog 155 (wordsV (List.replicate 64 0)) := by unfold Zr; kernel_rfl
theorem arr_w8 : Arr Try.prog 145 8 30 := ⟨Try.underlying145, sc_u32⟩
theorem zero_w8 : Zr Try.prog 145 (wordsV (List.replicate 8 0)) := by unfold Zr; kernel_rfl
theorem arr_b64 : Arr Try.prog 114 64 5 := ⟨Try.underlying114, sc_u8⟩
theorem row_b64 : Row Try.prog 114 64 := ⟨_, Try.underlying114, rfl, by kernel_rfl⟩
theorem arr_eight : Arr Try.prog 146 8 30 := ⟨Try.underlying146, sc_u32⟩
theorem row_eight : Row Try.prog 146 8 := ⟨_, Try.underlying146, rfl, by kernel_rfl⟩
theorem zero_eight : Zr Try.prog 146 (wordsV (List.replicate 8 0)) := by unfold Zr; kernel_rfl
theorem row_refEight : Row Try.prog 133 8 := ⟨_, Try.underlying133, rfl, by kernel_rfl⟩
theorem zero_refEight : Zr Try.prog 133 (wordsV (List.replicate 8 0)) := by unfold Zr; kernel_rfl
theorem fd_refEight_0 : FldAt Try.prog 133 0 0 := ⟨_, _, 0, Try.underlying133, rfl, rfl, by kernel_rfl⟩
theorem fd_refEight_1 : FldAt Try.prog 133 1 1 := ⟨_, _, 0, Try.underlying133, rfl, rfl, by kernel_rfl⟩
theorem fd_refEight_2 : FldAt Try.prog 133 2 2 := ⟨_, _, 0, Try.underlying133, rfl, rfl, by kernel_rfl⟩
theorem fd_refEight_3 : FldAt Try.prog 133 3 3 := ⟨_, _, 0, Try.underlying133, rfl, rfl, by kernel_rfl⟩
theorem fd_refEight_4 : FldAt Try.prog 133 4 4 := ⟨_, _, 0, Try.underlying133, rfl, rfl, by kernel_rfl⟩
theorem fd_refEight_5 : FldAt Try.prog 133 5 5 := ⟨_, _, 0, Try.underlying133, rfl, rfl, by kernel_rfl⟩
theorem fd_refEight_6 : FldAt Try.prog 133 6 6 := ⟨_, _, 0, Try.underlying133, rfl, rfl, by kernel_rfl⟩
theorem fd_refEight_7 : FldAt Try.prog 133 7 7 := ⟨_, _, 0, Try.underlying133, rfl, rfl, by kernel_rfl⟩
theorem slc_u32s : Slc Try.prog 158 30 := ⟨Try.underlying158, sc_u32⟩
theorem el_u32 : El Try.prog 30 (.int .u32 0) 4 := by
  obtain ⟨i, h1, h2, h3, h4⟩ := info_parts (show (Try.prog.info? 30).map (fun i => (i.zero, i.size, i.bytes)) = some (some (.int .u32 0), 1, 4) from by kernel_rfl)
  exact ⟨i, h1, h2, h3, h4, rfl⟩
theorem ut_string : Try.prog.underlying 9 = some .string := Try.underlying9
theorem arr_block : Arr Try.prog 138 64 5 := ⟨Try.underlying138, sc_u8⟩
theorem row_block : Row Try.prog 138 64 := ⟨_, Try.underlying138, rfl, by kernel_rfl⟩
theorem zero_block : Zr Try.prog 138 (bytesV (List.replicate 64 0)) := by unfold Zr; kernel_rfl
theorem slc_u8ss : Slc Try.prog 121 40 := ⟨Try.underlying121, sc_u8s⟩
theorem el_u8s : El Try.prog 40 (.slice none 0 0) 24 := by
  obtain ⟨i, h1, h2, h3, h4⟩ := info_parts (show (Try.prog.info? 40).map (fun i => (i.zero, i.size, i.bytes)) = some (some (.slice none 0 0), 1, 24) from by kernel_rfl)
  exact ⟨i, h1, h2, h3, h4, rfl⟩
end Go.Proofs.Ytfdlafjifjndeaa
