import Derived.Test.YtknkfimpflodeaaProg
import Derived.Below
import Derived.WalkKit
import Derived.KernelRfl
import Derived.RowKit3
import Derived.Laws.Rows
import Derived.Handy
namespace Go.Proofs.Ytknkfimpflodeaa.P
open Go.RowKit
set_option maxRecDepth 100000
set_option maxHeartbeats 4000000
theorem row1 (w : World) : Calls Try.prog 22 #[.int .i64 1] w fun e w' => e = .returned (.agg #[.string ⟨#[108, 117, 105]⟩, .int .u32 127, .int .u32 55, .int .u8 85]) ∧ Below w.heap.size w w' := by
  have hu := Try.underlying61
  go_enter Try.func22, Try.ntmps22
  go_wp2
  refine bodyPost_ret (v := .agg #[.string ⟨#[108, 117, 105]⟩, .int .u32 127, .int .u32 55, .int .u8 85]) (by simp [results, Try.results22, go_sem]) rfl ⟨rfl, ?_⟩
  go_grown
theorem row2 (w : World) : Calls Try.prog 22 #[.int .i64 2] w fun e w' => e = .returned (.agg #[.string ⟨#[97, 117, 105, 112, 99]⟩, .int .u32 127, .int .u32 23, .int .u8 85]) ∧ Below w.heap.size w w' := by
  have hu := Try.underlying61
  go_enter Try.func22, Try.ntmps22
  go_wp2
  refine bodyPost_ret (v := .agg #[.string ⟨#[97, 117, 105, 112, 99]⟩, .int .u32 127, .int .u32 23, .int .u8 85]) (by simp [results, Try.results22, go_sem]) rfl ⟨rfl, ?_⟩
  go_grown
theorem row3 (w : World) : Calls Try.prog 22 #[.int .i64 3] w fun e w' => e = .returned (.agg #[.string ⟨#[106, 97, 108]⟩, .int .u32 127, .int .u32 111, .int .u8 74]) ∧ Below w.heap.size w w' := by
  have hu := Try.underlying61
  go_enter Try.func22, Try.ntmps22
  go_wp2
  refine bodyPost_ret (v := .agg #[.string ⟨#[106, 97, 108]⟩, .int .u32 127, .int .u32 111, .int .u8 74]) (by simp [results, Try.results22, go_sem]) rfl ⟨rfl, ?_⟩
  go_grown
theorem row4 (w : World) : Calls Try.prog 22 #[.int .i64 4] w fun e w' => e = .returned (.agg #[.string ⟨#[106, 97, 108, 114]⟩, .int .u32 28799, .int .u32 103, .int .u8 73]) ∧ Below w.heap.size w w' := by
  have hu := Try.underlying61
  go_enter Try.func22, Try.ntmps22
  go_wp2
  refine bodyPost_ret (v := .agg #[.string ⟨#[106, 97, 108, 114]⟩, .int .u32 28799, .int .u32 103, .int .u8 73]) (by simp [results, Try.results22, go_sem]) rfl ⟨rfl, ?_⟩
  go_grown
theorem row5 (w : World) : Calls Try.prog 22 #[.int .i64 5] w fun e w' => e = .returned (.agg #[.string ⟨#[98, 101, 113]⟩, .int .u32 28799, .int .u32 99, .int .u8 66]) ∧ Below w.heap.size w w' := by
  have hu := Try.underlying61
  go_enter Try.func22, Try.ntmps22
  go_wp2
  refine bodyPost_ret (v := .agg #[.string ⟨#[98, 101, 113]⟩, .int .u32 28799, .int .u32 99, .int .u8 66]) (by simp [results, Try.results22, go_sem]) rfl ⟨rfl, ?_⟩
  go_grown
theorem row6 (w : World) : Calls Try.prog 22 #[.int .i64 6] w fun e w' => e = .returned (.agg #[.string ⟨#[98, 110, 101]⟩, .int .u32 28799, .int .u32 4195, .int .u8 66]) ∧ Below w.heap.size w w' := by
  have hu := Try.underlying61
  go_enter Try.func22, Try.ntmps22
  go_wp2
  refine bodyPost_ret (v := .agg #[.string ⟨#[98, 110, 101]⟩, .int .u32 28799, .int .u32 4195, .int .u8 66]) (by simp [results, Try.results22, go_sem]) rfl ⟨rfl, ?_⟩
  go_grown
theorem row7 (w : World) : Calls Try.prog 22 #[.int .i64 7] w fun e w' => e = .returned (.agg #[.string ⟨#[98, 108, 116]⟩, .int .u32 28799, .int .u32 16483, .int .u8 66]) ∧ Below w.heap.size w w' := by
  have hu := Try.underlying61
  go_enter Try.func22, Try.ntmps22
  go_wp2
  refine bodyPost_ret (v := .agg #[.string ⟨#[98, 108, 116]⟩, .int .u32 28799, .int .u32 16483, .int .u8 66]) (by simp [results, Try.results22, go_sem]) rfl ⟨rfl, ?_⟩
  go_grown
theorem row8 (w : World) : Calls Try.prog 22 #[.int .i64 8] w fun e w' => e = .returned (.agg #[.string ⟨#[98, 103, 101]⟩, .int .u32 28799, .int .u32 20579, .int .u8 66]) ∧ Below w.heap.size w w' := by
  have hu := Try.underlying61
  go_enter Try.func22, Try.ntmps22
  go_wp2
  refine bodyPost_ret (v := .agg #[.string ⟨#[98, 103, 101]⟩, .int .u32 28799, .int .u32 20579, .int .u8 66]) (by simp [results, Try.results22, go_sem]) rfl ⟨rfl, ?_⟩
  go_grown
theorem row9 (w : World) : Calls Try.prog 22 #[.int .i64 9] w fun e w' => e = .returned (.agg #[.string ⟨#[98, 108, 116, 117]⟩, .int .u32 28799, .int .u32 24675, .int .u8 66]) ∧ Below w.heap.size w w' := by
  have hu := Try.underlying61
  go_enter Try.func22, Try.ntmps22
  go_wp2
  refine bodyPost_ret (v := .agg #[.string ⟨#[98, 108, 116, 117]⟩, .int .u32 28799, .int .u32 24675, .int .u8 66]) (by simp [results, Try.results22, go_sem]) rfl ⟨rfl, ?_⟩
  go_grown
theorem row10 (w : World) : Calls Try.prog 22 #[.int .i64 10] w fun e w' => e = .returned (.agg #[.string ⟨#[98, 103, 101, 117]⟩, .int .u32 28799, .int .u32 28771, .int .u8 66]) ∧ Below w.heap.size w w' := by
  have hu := Try.underlying61
  go_enter Try.func22, Try.ntmps22
  go_wp2
  refine bodyPost_ret (v := .agg #[.string ⟨#[98, 103, 101, 117]⟩, .int .u32 28799, .int .u32 28771, .int .u8 66]) (by simp [results, Try.results22, go_sem]) rfl ⟨rfl, ?_⟩
  go_grown
theorem row11 (w : World) : Calls Try.prog 22 #[.int .i64 11] w fun e w' => e = .returned (.agg #[.string ⟨#[108, 98]⟩, .int .u32 28799, .int .u32 3, .int .u8 73]) ∧ Below w.heap.size w w' := by
  have hu := Try.underlying61
  go_enter Try.func22, Try.ntmps22
  go_wp2
  refine bodyPost_ret (v := .agg #[.string ⟨#[108, 98]⟩, .int .u32 28799, .int .u32 3, .int .u8 73]) (by simp [results, Try.results22, go_sem]) rfl ⟨rfl, ?_⟩
  go_grown
theorem row12 (w : World) : Calls Try.prog 22 #[.int .i64 12] w fun e w' => e = .returned (.agg #[.string ⟨#[108, 104]⟩, .int .u32 28799, .int .u32 4099, .int .u8 73]) ∧ Below w.heap.size w w' := by
  have hu := Try.underlying61
  go_enter Try.func22, Try.ntmps22
  go_wp2
  refine bodyPost_ret (v := .agg #[.string ⟨#[108, 104]⟩, .int .u32 28799, .int .u32 4099, .int .u8 73]) (by simp [results, Try.results22, go_sem]) rfl ⟨rfl, ?_⟩
  go_grown
theorem row13 (w : World) : Calls Try.prog 22 #[.int .i64 13] w fun e w' => e = .returned (.agg #[.string ⟨#[108, 119]⟩, .int .u32 28799, .int .u32 8195, .int .u8 73]) ∧ Below w.heap.size w w' := by
  have hu := Try.underlying61
  go_enter Try.func22, Try.ntmps22
  go_wp2
  refine bodyPost_ret (v := .agg #[.string ⟨#[108, 119]⟩, .int .u32 28799, .int .u32 8195, .int .u8 73]) (by simp [results, Try.results22, go_sem]) rfl ⟨rfl, ?_⟩
  go_grown
theorem row14 (w : World) : Calls Try.prog 22 #[.int .i64 14] w fun e w' => e = .returned (.agg #[.string ⟨#[108, 100]⟩, .int .u32 28799, .int .u32 12291, .int .u8 73]) ∧ Below w.heap.size w w' := by
  have hu := Try.underlying61
  go_enter Try.func22, Try.ntmps22
  go_wp2
  refine bodyPost_ret (v := .agg #[.string ⟨#[108, 100]⟩, .int .u32 28799, .int .u32 12291, .int .u8 73]) (by simp [results, Try.results22, go_sem]) rfl ⟨rfl, ?_⟩
  go_grown
theorem row15 (w : World) : Calls Try.prog 22 #[.int .i64 15] w fun e w' => e = .returned (.agg #[.string ⟨#[108, 98, 117]⟩, .int .u32 28799, .int .u32 16387, .int .u8 73]) ∧ Below w.heap.size w w' := by
  have hu := Try.underlying61
  go_enter Try.func22, Try.ntmps22
  go_wp2
  refine bodyPost_ret (v := .agg #[.string ⟨#[108, 98, 117]⟩, .int .u32 28799, .int .u32 16387, .int .u8 73]) (by simp [results, Try.results22, go_sem]) rfl ⟨rfl, ?_⟩
  go_grown
theorem row16 (w : World) : Calls Try.prog 22 #[.int .i64 16] w fun e w' => e = .returned (.agg #[.string ⟨#[108, 104, 117]⟩, .int .u32 28799, .int .u32 20483, .int .u8 73]) ∧ Below w.heap.size w w' := by
  have hu := Try.underlying61
  go_enter Try.func22, Try.ntmps22
  go_wp2
  refine bodyPost_ret (v := .agg #[.string ⟨#[108, 104, 117]⟩, .int .u32 28799, .int .u32 20483, .int .u8 73]) (by simp [results, Try.results22, go_sem]) rfl ⟨rfl, ?_⟩
  go_grown
theorem row17 (w : World) : Calls Try.prog 22 #[.int .i64 17] w fun e w' => e = .returned (.agg #[.string ⟨#[108, 119, 117]⟩, .int .u32 28799, .int .u32 24579, .int .u8 73]) ∧ Below w.heap.size w w' := by
  have hu := Try.underlying61
  go_enter Try.func22, Try.ntmps22
  go_wp2
  refine bodyPost_ret (v := .agg #[.string ⟨#[108, 119, 117]⟩, .int .u32 28799, .int .u32 24579, .int .u8 73]) (by simp [results, Try.results22, go_sem]) rfl ⟨rfl, ?_⟩
  go_grown
theorem row18 (w : World) : Calls Try.prog 22 #[.int .i64 18] w fun e w' => e = .returned (.agg #[.string ⟨#[115, 98]⟩, .int .u32 28799, .int .u32 35, .int .u8 83]) ∧ Below w.heap.size w w' := by
  have hu := Try.underlying61
  go_enter Try.func22, Try.ntmps22
  go_wp2
  refine bodyPost_ret (v := .agg #[.string ⟨#[115, 98]⟩, .int .u32 28799, .int .u32 35, .int .u8 83]) (by simp [results, Try.results22, go_sem]) rfl ⟨rfl, ?_⟩
  go_grown
theorem row19 (w : World) : Calls Try.prog 22 #[.int .i64 19] w fun e w' => e = .returned (.agg #[.string ⟨#[115, 104]⟩, .int .u32 28799, .int .u32 4131, .int .u8 83]) ∧ Below w.heap.size w w' := by
  have hu := Try.underlying61
  go_enter Try.func22, Try.ntmps22
  go_wp2
  refine bodyPost_ret (v := .agg #[.string ⟨#[115, 104]⟩, .int .u32 28799, .int .u32 4131, .int .u8 83]) (by simp [results, Try.results22, go_sem]) rfl ⟨rfl, ?_⟩
  go_grown
theorem row20 (w : World) : Calls Try.prog 22 #[.int .i64 20] w fun e w' => e = .returned (.agg #[.string ⟨#[115, 119]⟩, .int .u32 28799, .int .u32 8227, .int .u8 83]) ∧ Below w.heap.size w w' := by
  have hu := Try.underlying61
  go_enter Try.func22, Try.ntmps22
  go_wp2
  refine bodyPost_ret (v := .agg #[.string ⟨#[115, 119]⟩, .int .u32 28799, .int .u32 8227, .int .u8 83]) (by simp [results, Try.results22, go_sem]) rfl ⟨rfl, ?_⟩
  go_grown
theorem row21 (w : World) : Calls Try.prog 22 #[.int .i64 21] w fun e w' => e = .returned (.agg #[.string ⟨#[115, 100]⟩, .int .u32 28799, .int .u32 12323, .int .u8 83]) ∧ Below w.heap.size w w' := by
  have hu := Try.underlying61
  go_enter Try.func22, Try.ntmps22
  go_wp2
  refine bodyPost_ret (v := .agg #[.string ⟨#[115, 100]⟩, .int .u32 28799, .int .u32 12323, .int .u8 83]) (by simp [results, Try.results22, go_sem]) rfl ⟨rfl, ?_⟩
  go_grown
theorem row22 (w : World) : Calls Try.prog 22 #[.int .i64 22] w fun e w' => e = .returned (.agg #[.string ⟨#[97, 100, 100, 105]⟩, .int .u32 28799, .int .u32 19, .int .u8 73]) ∧ Below w.heap.size w w' := by
  have hu := Try.underlying61
  go_enter Try.func22, Try.ntmps22
  go_wp2
  refine bodyPost_ret (v := .agg #[.string ⟨#[97, 100, 100, 105]⟩, .int .u32 28799, .int .u32 19, .int .u8 73]) (by simp [results, Try.results22, go_sem]) rfl ⟨rfl, ?_⟩
  go_grown
theorem row23 (w : World) : Calls Try.prog 22 #[.int .i64 23] w fun e w' => e = .returned (.agg #[.string ⟨#[115, 108, 116, 105]⟩, .int .u32 28799, .int .u32 8211, .int .u8 73]) ∧ Below w.heap.size w w' := by
  have hu := Try.underlying61
  go_enter Try.func22, Try.ntmps22
  go_wp2
  refine bodyPost_ret (v := .agg #[.string ⟨#[115, 108, 116, 105]⟩, .int .u32 28799, .int .u32 8211, .int .u8 73]) (by simp [results, Try.results22, go_sem]) rfl ⟨rfl, ?_⟩
  go_grown
theorem row24 (w : World) : Calls Try.prog 22 #[.int .i64 24] w fun e w' => e = .returned (.agg #[.string ⟨#[115, 108, 116, 105, 117]⟩, .int .u32 28799, .int .u32 12307, .int .u8 73]) ∧ Below w.heap.size w w' := by
  have hu := Try.underlying61
  go_enter Try.func22, Try.ntmps22
  go_wp2
  refine bodyPost_ret (v := .agg #[.string ⟨#[115, 108, 116, 105, 117]⟩, .int .u32 28799, .int .u32 12307, .int .u8 73]) (by simp [results, Try.results22, go_sem]) rfl ⟨rfl, ?_⟩
  go_grown
theorem row25 (w : World) : Calls Try.prog 22 #[.int .i64 25] w fun e w' => e = .returned (.agg #[.string ⟨#[120, 111, 114, 105]⟩, .int .u32 28799, .int .u32 16403, .int .u8 73]) ∧ Below w.heap.size w w' := by
  have hu := Try.underlying61
  go_enter Try.func22, Try.ntmps22
  go_wp2
  refine bodyPost_ret (v := .agg #[.string ⟨#[120, 111, 114, 105]⟩, .int .u32 28799, .int .u32 16403, .int .u8 73]) (by simp [results, Try.results22, go_sem]) rfl ⟨rfl, ?_⟩
  go_grown
theorem row26 (w : World) : Calls Try.prog 22 #[.int .i64 26] w fun e w' => e = .returned (.agg #[.string ⟨#[111, 114, 105]⟩, .int .u32 28799, .int .u32 24595, .int .u8 73]) ∧ Below w.heap.size w w' := by
  have hu := Try.underlying61
  go_enter Try.func22, Try.ntmps22
  go_wp2
  refine bodyPost_ret (v := .agg #[.string ⟨#[111, 114, 105]⟩, .int .u32 28799, .int .u32 24595, .int .u8 73]) (by simp [results, Try.results22, go_sem]) rfl ⟨rfl, ?_⟩
  go_grown
theorem row27 (w : World) : Calls Try.prog 22 #[.int .i64 27] w fun e w' => e = .returned (.agg #[.string ⟨#[97, 110, 100, 105]⟩, .int .u32 28799, .int .u32 28691, .int .u8 73]) ∧ Below w.heap.size w w' := by
  have hu := Try.underlying61
  go_enter Try.func22, Try.ntmps22
  go_wp2
  refine bodyPost_ret (v := .agg #[.string ⟨#[97, 110, 100, 105]⟩, .int .u32 28799, .int .u32 28691, .int .u8 73]) (by simp [results, Try.results22, go_sem]) rfl ⟨rfl, ?_⟩
  go_grown
theorem row28 (w : World) : Calls Try.prog 22 #[.int .i64 28] w fun e w' => e = .returned (.agg #[.string ⟨#[115, 108, 108, 105]⟩, .int .u32 4227887231, .int .u32 4115, .int .u8 72]) ∧ Below w.heap.size w w' := by
  have hu := Try.underlying61
  go_enter Try.func22, Try.ntmps22
  go_wp2
  refine bodyPost_ret (v := .agg #[.string ⟨#[115, 108, 108, 105]⟩, .int .u32 4227887231, .int .u32 4115, .int .u8 72]) (by simp [results, Try.results22, go_sem]) rfl ⟨rfl, ?_⟩
  go_grown
theorem row29 (w : World) : Calls Try.prog 22 #[.int .i64 29] w fun e w' => e = .returned (.agg #[.string ⟨#[115, 114, 108, 105]⟩, .int .u32 4227887231, .int .u32 20499, .int .u8 72]) ∧ Below w.heap.size w w' := by
  have hu := Try.underlying61
  go_enter Try.func22, Try.ntmps22
  go_wp2
  refine bodyPost_ret (v := .agg #[.string ⟨#[115, 114, 108, 105]⟩, .int .u32 4227887231, .int .u32 20499, .int .u8 72]) (by simp [results, Try.results22, go_sem]) rfl ⟨rfl, ?_⟩
  go_grown
theorem row30 (w : World) : Calls Try.prog 22 #[.int .i64 30] w fun e w' => e = .returned (.agg #[.string ⟨#[115, 114, 97, 105]⟩, .int .u32 4227887231, .int .u32 1073762323, .int .u8 72]) ∧ Below w.heap.size w w' := by
  have hu := Try.underlying61
  go_enter Try.func22, Try.ntmps22
  go_wp2
  refine bodyPost_ret (v := .agg #[.string ⟨#[115, 114, 97, 105]⟩, .int .u32 4227887231, .int .u32 1073762323, .int .u8 72]) (by simp [results, Try.results22, go_sem]) rfl ⟨rfl, ?_⟩
  go_grown
theorem row31 (w : World) : Calls Try.prog 22 #[.int .i64 31] w fun e w' => e = .returned (.agg #[.string ⟨#[97, 100, 100, 105, 119]⟩, .int .u32 28799, .int .u32 27, .int .u8 73]) ∧ Below w.heap.size w w' := by
  have hu := Try.underlying61
  go_enter Try.func22, Try.ntmps22
  go_wp2
  refine bodyPost_ret (v := .agg #[.string ⟨#[97, 100, 100, 105, 119]⟩, .int .u32 28799, .int .u32 27, .int .u8 73]) (by simp [results, Try.results22, go_sem]) rfl ⟨rfl, ?_⟩
  go_grown
theorem row32 (w : World) : Calls Try.prog 22 #[.int .i64 32] w fun e w' => e = .returned (.agg #[.string ⟨#[115, 108, 108, 105, 119]⟩, .int .u32 4261441663, .int .u32 4123, .int .u8 87]) ∧ Below w.heap.size w w' := by
  have hu := Try.underlying61
  go_enter Try.func22, Try.ntmps22
  go_wp2
  refine bodyPost_ret (v := .agg #[.string ⟨#[115, 108, 108, 105, 119]⟩, .int .u32 4261441663, .int .u32 4123, .int .u8 87]) (by simp [results, Try.results22, go_sem]) rfl ⟨rfl, ?_⟩
  go_grown
theorem row33 (w : World) : Calls Try.prog 22 #[.int .i64 33] w fun e w' => e = .returned (.agg #[.string ⟨#[115, 114, 108, 105, 119]⟩, .int .u32 4261441663, .int .u32 20507, .int .u8 87]) ∧ Below w.heap.size w w' := by
  have hu := Try.underlying61
  go_enter Try.func22, Try.ntmps22
  go_wp2
  refine bodyPost_ret (v := .agg #[.string ⟨#[115, 114, 108, 105, 119]⟩, .int .u32 4261441663, .int .u32 20507, .int .u8 87]) (by simp [results, Try.results22, go_sem]) rfl ⟨rfl, ?_⟩
  go_grown
theorem row34 (w : World) : Calls Try.prog 22 #[.int .i64 34] w fun e w' => e = .returned (.agg #[.string ⟨#[115, 114, 97, 105, 119]⟩, .int .u32 4261441663, .int .u32 1073762331, .int .u8 87]) ∧ Below w.heap.size w w' := by
  have hu := Try.underlying61
  go_enter Try.func22, Try.ntmps22
  go_wp2
  refine bodyPost_ret (v := .agg #[.string ⟨#[115, 114, 97, 105, 119]⟩, .int .u32 4261441663, .int .u32 1073762331, .int .u8 87]) (by simp [results, Try.results22, go_sem]) rfl ⟨rfl, ?_⟩
  go_grown
theorem row35 (w : World) : Calls Try.prog 22 #[.int .i64 35] w fun e w' => e = .returned (.agg #[.string ⟨#[97, 100, 100]⟩, .int .u32 4261441663, .int .u32 51, .int .u8 82]) ∧ Below w.heap.size w w' := by
  have hu := Try.underlying61
  go_enter Try.func22, Try.ntmps22
  go_wp2
  refine bodyPost_ret (v := .agg #[.string ⟨#[97, 100, 100]⟩, .int .u32 4261441663, .int .u32 51, .int .u8 82]) (by simp [results, Try.results22, go_sem]) rfl ⟨rfl, ?_⟩
  go_grown
theorem row36 (w : World) : Calls Try.prog 22 #[.int .i64 36] w fun e w' => e = .returned (.agg #[.string ⟨#[115, 117, 98]⟩, .int .u32 4261441663, .int .u32 1073741875, .int .u8 82]) ∧ Below w.heap.size w w' := by
  have hu := Try.underlying61
  go_enter Try.func22, Try.ntmps22
  go_wp2
  refine bodyPost_ret (v := .agg #[.string ⟨#[115, 117, 98]⟩, .int .u32 4261441663, .int .u32 1073741875, .int .u8 82]) (by simp [results, Try.results22, go_sem]) rfl ⟨rfl, ?_⟩
  go_grown
theorem row37 (w : World) : Calls Try.prog 22 #[.int .i64 37] w fun e w' => e = .returned (.agg #[.string ⟨#[115, 108, 108]⟩, .int .u32 4261441663, .int .u32 4147, .int .u8 82]) ∧ Below w.heap.size w w' := by
  have hu := Try.underlying61
  go_enter Try.func22, Try.ntmps22
  go_wp2
  refine bodyPost_ret (v := .agg #[.string ⟨#[115, 108, 108]⟩, .int .u32 4261441663, .int .u32 4147, .int .u8 82]) (by simp [results, Try.results22, go_sem]) rfl ⟨rfl, ?_⟩
  go_grown
theorem row38 (w : World) : Calls Try.prog 22 #[.int .i64 38] w fun e w' => e = .returned (.agg #[.string ⟨#[115, 108, 116]⟩, .int .u32 4261441663, .int .u32 8243, .int .u8 82]) ∧ Below w.heap.size w w' := by
  have hu := Try.underlying61
  go_enter Try.func22, Try.ntmps22
  go_wp2
  refine bodyPost_ret (v := .agg #[.string ⟨#[115, 108, 116]⟩, .int .u32 4261441663, .int .u32 8243, .int .u8 82]) (by simp [results, Try.results22, go_sem]) rfl ⟨rfl, ?_⟩
  go_grown
theorem row39 (w : World) : Calls Try.prog 22 #[.int .i64 39] w fun e w' => e = .returned (.agg #[.string ⟨#[115, 108, 116, 117]⟩, .int .u32 4261441663, .int .u32 12339, .int .u8 82]) ∧ Below w.heap.size w w' := by
  have hu := Try.underlying61
  go_enter Try.func22, Try.ntmps22
  go_wp2
  refine bodyPost_ret (v := .agg #[.string ⟨#[115, 108, 116, 117]⟩, .int .u32 4261441663, .int .u32 12339, .int .u8 82]) (by simp [results, Try.results22, go_sem]) rfl ⟨rfl, ?_⟩
  go_grown
theorem row40 (w : World) : Calls Try.prog 22 #[.int .i64 40] w fun e w' => e = .returned (.agg #[.string ⟨#[120, 111, 114]⟩, .int .u32 4261441663, .int .u32 16435, .int .u8 82]) ∧ Below w.heap.size w w' := by
  have hu := Try.underlying61
  go_enter Try.func22, Try.ntmps22
  go_wp2
  refine bodyPost_ret (v := .agg #[.string ⟨#[120, 111, 114]⟩, .int .u32 4261441663, .int .u32 16435, .int .u8 82]) (by simp [results, Try.results22, go_sem]) rfl ⟨rfl, ?_⟩
  go_grown
theorem row41 (w : World) : Calls Try.prog 22 #[.int .i64 41] w fun e w' => e = .returned (.agg #[.string ⟨#[115, 114, 108]⟩, .int .u32 4261441663, .int .u32 20531, .int .u8 82]) ∧ Below w.heap.size w w' := by
  have hu := Try.underlying61
  go_enter Try.func22, Try.ntmps22
  go_wp2
  refine bodyPost_ret (v := .agg #[.string ⟨#[115, 114, 108]⟩, .int .u32 4261441663, .int .u32 20531, .int .u8 82]) (by simp [results, Try.results22, go_sem]) rfl ⟨rfl, ?_⟩
  go_grown
theorem row42 (w : World) : Calls Try.prog 22 #[.int .i64 42] w fun e w' => e = .returned (.agg #[.string ⟨#[115, 114, 97]⟩, .int .u32 4261441663, .int .u32 1073762355, .int .u8 82]) ∧ Below w.heap.size w w' := by
  have hu := Try.underlying61
  go_enter Try.func22, Try.ntmps22
  go_wp2
  refine bodyPost_ret (v := .agg #[.string ⟨#[115, 114, 97]⟩, .int .u32 4261441663, .int .u32 1073762355, .int .u8 82]) (by simp [results, Try.results22, go_sem]) rfl ⟨rfl, ?_⟩
  go_grown
theorem row43 (w : World) : Calls Try.prog 22 #[.int .i64 43] w fun e w' => e = .returned (.agg #[.string ⟨#[111, 114]⟩, .int .u32 4261441663, .int .u32 24627, .int .u8 82]) ∧ Below w.heap.size w w' := by
  have hu := Try.underlying61
  go_enter Try.func22, Try.ntmps22
  go_wp2
  refine bodyPost_ret (v := .agg #[.string ⟨#[111, 114]⟩, .int .u32 4261441663, .int .u32 24627, .int .u8 82]) (by simp [results, Try.results22, go_sem]) rfl ⟨rfl, ?_⟩
  go_grown
theorem row44 (w : World) : Calls Try.prog 22 #[.int .i64 44] w fun e w' => e = .returned (.agg #[.string ⟨#[97, 110, 100]⟩, .int .u32 4261441663, .int .u32 28723, .int .u8 82]) ∧ Below w.heap.size w w' := by
  have hu := Try.underlying61
  go_enter Try.func22, Try.ntmps22
  go_wp2
  refine bodyPost_ret (v := .agg #[.string ⟨#[97, 110, 100]⟩, .int .u32 4261441663, .int .u32 28723, .int .u8 82]) (by simp [results, Try.results22, go_sem]) rfl ⟨rfl, ?_⟩
  go_grown
theorem row45 (w : World) : Calls Try.prog 22 #[.int .i64 45] w fun e w' => e = .returned (.agg #[.string ⟨#[97, 100, 100, 119]⟩, .int .u32 4261441663, .int .u32 59, .int .u8 82]) ∧ Below w.heap.size w w' := by
  have hu := Try.underlying61
  go_enter Try.func22, Try.ntmps22
  go_wp2
  refine bodyPost_ret (v := .agg #[.string ⟨#[97, 100, 100, 119]⟩, .int .u32 4261441663, .int .u32 59, .int .u8 82]) (by simp [results, Try.results22, go_sem]) rfl ⟨rfl, ?_⟩
  go_grown
theorem row46 (w : World) : Calls Try.prog 22 #[.int .i64 46] w fun e w' => e = .returned (.agg #[.string ⟨#[115, 117, 98, 119]⟩, .int .u32 4261441663, .int .u32 1073741883, .int .u8 82]) ∧ Below w.heap.size w w' := by
  have hu := Try.underlying61
  go_enter Try.func22, Try.ntmps22
  go_wp2
  refine bodyPost_ret (v := .agg #[.string ⟨#[115, 117, 98, 119]⟩, .int .u32 4261441663, .int .u32 1073741883, .int .u8 82]) (by simp [results, Try.results22, go_sem]) rfl ⟨rfl, ?_⟩
  go_grown
theorem row47 (w : World) : Calls Try.prog 22 #[.int .i64 47] w fun e w' => e = .returned (.agg #[.string ⟨#[115, 108, 108, 119]⟩, .int .u32 4261441663, .int .u32 4155, .int .u8 82]) ∧ Below w.heap.size w w' := by
  have hu := Try.underlying61
  go_enter Try.func22, Try.ntmps22
  go_wp2
  refine bodyPost_ret (v := .agg #[.string ⟨#[115, 108, 108, 119]⟩, .int .u32 4261441663, .int .u32 4155, .int .u8 82]) (by simp [results, Try.results22, go_sem]) rfl ⟨rfl, ?_⟩
  go_grown
theorem row48 (w : World) : Calls Try.prog 22 #[.int .i64 48] w fun e w' => e = .returned (.agg #[.string ⟨#[115, 114, 108, 119]⟩, .int .u32 4261441663, .int .u32 20539, .int .u8 82]) ∧ Below w.heap.size w w' := by
  have hu := Try.underlying61
  go_enter Try.func22, Try.ntmps22
  go_wp2
  refine bodyPost_ret (v := .agg #[.string ⟨#[115, 114, 108, 119]⟩, .int .u32 4261441663, .int .u32 20539, .int .u8 82]) (by simp [results, Try.results22, go_sem]) rfl ⟨rfl, ?_⟩
  go_grown
theorem row49 (w : World) : Calls Try.prog 22 #[.int .i64 49] w fun e w' => e = .returned (.agg #[.string ⟨#[115, 114, 97, 119]⟩, .int .u32 4261441663, .int .u32 1073762363, .int .u8 82]) ∧ Below w.heap.size w w' := by
  have hu := Try.underlying61
  go_enter Try.func22, Try.ntmps22
  go_wp2
  refine bodyPost_ret (v := .agg #[.string ⟨#[115, 114, 97, 119]⟩, .int .u32 4261441663, .int .u32 1073762363, .int .u8 82]) (by simp [results, Try.results22, go_sem]) rfl ⟨rfl, ?_⟩
  go_grown
theorem row50 (w : World) : Calls Try.prog 22 #[.int .i64 50] w fun e w' => e = .returned (.agg #[.string ⟨#[109, 117, 108]⟩, .int .u32 4261441663, .int .u32 33554483, .int .u8 82]) ∧ Below w.heap.size w w' := by
  have hu := Try.underlying61
  go_enter Try.func22, Try.ntmps22
  go_wp2
  refine bodyPost_ret (v := .agg #[.string ⟨#[109, 117, 108]⟩, .int .u32 4261441663, .int .u32 33554483, .int .u8 82]) (by simp [results, Try.results22, go_sem]) rfl ⟨rfl, ?_⟩
  go_grown
end Go.Proofs.Ytknkfimpflodeaa.P
