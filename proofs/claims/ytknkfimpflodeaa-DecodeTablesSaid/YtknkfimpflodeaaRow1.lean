import Derived.Test.YtknkfimpflodeaaProg
import Derived.Below
import Derived.WalkKit
import Derived.KernelRfl
import Derived.RowKit3
import Derived.Laws.Rows
import Derived.Handy
namespace Go.Proofs.Ytknkfimpflodeaa.P
open Go.RowKit
set_option maxRecDepth 100000
set_option maxHeartbeats 4000000
theorem row51 (w : World) : Calls Try.prog 22 #[.int .i64 51] w fun e w' => e = .returned (.agg #[.string ⟨#[109, 117, 108, 104]⟩, .int .u32 4261441663, .int .u32 33558579, .int .u8 82]) ∧ Below w.heap.size w w' := by
  have hu := Try.underlying61
  go_enter Try.func22, Try.ntmps22
  go_wp2
  refine bodyPost_ret (v := .agg #[.string ⟨#[109, 117, 108, 104]⟩, .int .u32 4261441663, .int .u32 33558579, .int .u8 82]) (by simp [results, Try.results22, go_sem]) rfl ⟨rfl, ?_⟩
  go_grown
theorem row52 (w : World) : Calls Try.prog 22 #[.int .i64 52] w fun e w' => e = .returned (.agg #[.string ⟨#[109, 117, 108, 104, 115, 117]⟩, .int .u32 4261441663, .int .u32 33562675, .int .u8 82]) ∧ Below w.heap.size w w' := by
  have hu := Try.underlying61
  go_enter Try.func22, Try.ntmps22
  go_wp2
  refine bodyPost_ret (v := .agg #[.string ⟨#[109, 117, 108, 104, 115, 117]⟩, .int .u32 4261441663, .int .u32 33562675, .int .u8 82]) (by simp [results, Try.results22, go_sem]) rfl ⟨rfl, ?_⟩
  go_grown
theorem row53 (w : World) : Calls Try.prog 22 #[.int .i64 53] w fun e w' => e = .returned (.agg #[.string ⟨#[109, 117, 108, 104, 117]⟩, .int .u32 4261441663, .int .u32 33566771, .int .u8 82]) ∧ Below w.heap.size w w' := by
  have hu := Try.underlying61
  go_enter Try.func22, Try.ntmps22
  go_wp2
  refine bodyPost_ret (v := .agg #[.string ⟨#[109, 117, 108, 104, 117]⟩, .int .u32 4261441663, .int .u32 33566771, .int .u8 82]) (by simp [results, Try.results22, go_sem]) rfl ⟨rfl, ?_⟩
  go_grown
theorem row54 (w : World) : Calls Try.prog 22 #[.int .i64 54] w fun e w' => e = .returned (.agg #[.string ⟨#[100, 105, 118]⟩, .int .u32 4261441663, .int .u32 33570867, .int .u8 82]) ∧ Below w.heap.size w w' := by
  have hu := Try.underlying61
  go_enter Try.func22, Try.ntmps22
  go_wp2
  refine bodyPost_ret (v := .agg #[.string ⟨#[100, 105, 118]⟩, .int .u32 4261441663, .int .u32 33570867, .int .u8 82]) (by simp [results, Try.results22, go_sem]) rfl ⟨rfl, ?_⟩
  go_grown
theorem row55 (w : World) : Calls Try.prog 22 #[.int .i64 55] w fun e w' => e = .returned (.agg #[.string ⟨#[100, 105, 118, 117]⟩, .int .u32 4261441663, .int .u32 33574963, .int .u8 82]) ∧ Below w.heap.size w w' := by
  have hu := Try.underlying61
  go_enter Try.func22, Try.ntmps22
  go_wp2
  refine bodyPost_ret (v := .agg #[.string ⟨#[100, 105, 118, 117]⟩, .int .u32 4261441663, .int .u32 33574963, .int .u8 82]) (by simp [results, Try.results22, go_sem]) rfl ⟨rfl, ?_⟩
  go_grown
theorem row56 (w : World) : Calls Try.prog 22 #[.int .i64 56] w fun e w' => e = .returned (.agg #[.string ⟨#[114, 101, 109]⟩, .int .u32 4261441663, .int .u32 33579059, .int .u8 82]) ∧ Below w.heap.size w w' := by
  have hu := Try.underlying61
  go_enter Try.func22, Try.ntmps22
  go_wp2
  refine bodyPost_ret (v := .agg #[.string ⟨#[114, 101, 109]⟩, .int .u32 4261441663, .int .u32 33579059, .int .u8 82]) (by simp [results, Try.results22, go_sem]) rfl ⟨rfl, ?_⟩
  go_grown
theorem row57 (w : World) : Calls Try.prog 22 #[.int .i64 57] w fun e w' => e = .returned (.agg #[.string ⟨#[114, 101, 109, 117]⟩, .int .u32 4261441663, .int .u32 33583155, .int .u8 82]) ∧ Below w.heap.size w w' := by
  have hu := Try.underlying61
  go_enter Try.func22, Try.ntmps22
  go_wp2
  refine bodyPost_ret (v := .agg #[.string ⟨#[114, 101, 109, 117]⟩, .int .u32 4261441663, .int .u32 33583155, .int .u8 82]) (by simp [results, Try.results22, go_sem]) rfl ⟨rfl, ?_⟩
  go_grown
theorem row58 (w : World) : Calls Try.prog 22 #[.int .i64 58] w fun e w' => e = .returned (.agg #[.string ⟨#[109, 117, 108, 119]⟩, .int .u32 4261441663, .int .u32 33554491, .int .u8 82]) ∧ Below w.heap.size w w' := by
  have hu := Try.underlying61
  go_enter Try.func22, Try.ntmps22
  go_wp2
  refine bodyPost_ret (v := .agg #[.string ⟨#[109, 117, 108, 119]⟩, .int .u32 4261441663, .int .u32 33554491, .int .u8 82]) (by simp [results, Try.results22, go_sem]) rfl ⟨rfl, ?_⟩
  go_grown
theorem row59 (w : World) : Calls Try.prog 22 #[.int .i64 59] w fun e w' => e = .returned (.agg #[.string ⟨#[100, 105, 118, 119]⟩, .int .u32 4261441663, .int .u32 33570875, .int .u8 82]) ∧ Below w.heap.size w w' := by
  have hu := Try.underlying61
  go_enter Try.func22, Try.ntmps22
  go_wp2
  refine bodyPost_ret (v := .agg #[.string ⟨#[100, 105, 118, 119]⟩, .int .u32 4261441663, .int .u32 33570875, .int .u8 82]) (by simp [results, Try.results22, go_sem]) rfl ⟨rfl, ?_⟩
  go_grown
theorem row60 (w : World) : Calls Try.prog 22 #[.int .i64 60] w fun e w' => e = .returned (.agg #[.string ⟨#[100, 105, 118, 117, 119]⟩, .int .u32 4261441663, .int .u32 33574971, .int .u8 82]) ∧ Below w.heap.size w w' := by
  have hu := Try.underlying61
  go_enter Try.func22, Try.ntmps22
  go_wp2
  refine bodyPost_ret (v := .agg #[.string ⟨#[100, 105, 118, 117, 119]⟩, .int .u32 4261441663, .int .u32 33574971, .int .u8 82]) (by simp [results, Try.results22, go_sem]) rfl ⟨rfl, ?_⟩
  go_grown
theorem row61 (w : World) : Calls Try.prog 22 #[.int .i64 61] w fun e w' => e = .returned (.agg #[.string ⟨#[114, 101, 109, 119]⟩, .int .u32 4261441663, .int .u32 33579067, .int .u8 82]) ∧ Below w.heap.size w w' := by
  have hu := Try.underlying61
  go_enter Try.func22, Try.ntmps22
  go_wp2
  refine bodyPost_ret (v := .agg #[.string ⟨#[114, 101, 109, 119]⟩, .int .u32 4261441663, .int .u32 33579067, .int .u8 82]) (by simp [results, Try.results22, go_sem]) rfl ⟨rfl, ?_⟩
  go_grown
theorem row62 (w : World) : Calls Try.prog 22 #[.int .i64 62] w fun e w' => e = .returned (.agg #[.string ⟨#[114, 101, 109, 117, 119]⟩, .int .u32 4261441663, .int .u32 33583163, .int .u8 82]) ∧ Below w.heap.size w w' := by
  have hu := Try.underlying61
  go_enter Try.func22, Try.ntmps22
  go_wp2
  refine bodyPost_ret (v := .agg #[.string ⟨#[114, 101, 109, 117, 119]⟩, .int .u32 4261441663, .int .u32 33583163, .int .u8 82]) (by simp [results, Try.results22, go_sem]) rfl ⟨rfl, ?_⟩
  go_grown
theorem row63 (w : World) : Calls Try.prog 22 #[.int .i64 63] w fun e w' => e = .returned (.agg #[.string ⟨#[108, 114, 46, 119]⟩, .int .u32 4193284223, .int .u32 268443695, .int .u8 76]) ∧ Below w.heap.size w w' := by
  have hu := Try.underlying61
  go_enter Try.func22, Try.ntmps22
  go_wp2
  refine bodyPost_ret (v := .agg #[.string ⟨#[108, 114, 46, 119]⟩, .int .u32 4193284223, .int .u32 268443695, .int .u8 76]) (by simp [results, Try.results22, go_sem]) rfl ⟨rfl, ?_⟩
  go_grown
theorem row64 (w : World) : Calls Try.prog 22 #[.int .i64 64] w fun e w' => e = .returned (.agg #[.string ⟨#[115, 99, 46, 119]⟩, .int .u32 4160778367, .int .u32 402661423, .int .u8 65]) ∧ Below w.heap.size w w' := by
  have hu := Try.underlying61
  go_enter Try.func22, Try.ntmps22
  go_wp2
  refine bodyPost_ret (v := .agg #[.string ⟨#[115, 99, 46, 119]⟩, .int .u32 4160778367, .int .u32 402661423, .int .u8 65]) (by simp [results, Try.results22, go_sem]) rfl ⟨rfl, ?_⟩
  go_grown
theorem row65 (w : World) : Calls Try.prog 22 #[.int .i64 65] w fun e w' => e = .returned (.agg #[.string ⟨#[97, 109, 111, 115, 119, 97, 112, 46, 119]⟩, .int .u32 4160778367, .int .u32 134225967, .int .u8 65]) ∧ Below w.heap.size w w' := by
  have hu := Try.underlying61
  go_enter Try.func22, Try.ntmps22
  go_wp2
  refine bodyPost_ret (v := .agg #[.string ⟨#[97, 109, 111, 115, 119, 97, 112, 46, 119]⟩, .int .u32 4160778367, .int .u32 134225967, .int .u8 65]) (by simp [results, Try.results22, go_sem]) rfl ⟨rfl, ?_⟩
  go_grown
theorem row66 (w : World) : Calls Try.prog 22 #[.int .i64 66] w fun e w' => e = .returned (.agg #[.string ⟨#[97, 109, 111, 97, 100, 100, 46, 119]⟩, .int .u32 4160778367, .int .u32 8239, .int .u8 65]) ∧ Below w.heap.size w w' := by
  have hu := Try.underlying61
  go_enter Try.func22, Try.ntmps22
  go_wp2
  refine bodyPost_ret (v := .agg #[.string ⟨#[97, 109, 111, 97, 100, 100, 46, 119]⟩, .int .u32 4160778367, .int .u32 8239, .int .u8 65]) (by simp [results, Try.results22, go_sem]) rfl ⟨rfl, ?_⟩
  go_grown
theorem row67 (w : World) : Calls Try.prog 22 #[.int .i64 67] w fun e w' => e = .returned (.agg #[.string ⟨#[97, 109, 111, 120, 111, 114, 46, 119]⟩, .int .u32 4160778367, .int .u32 536879151, .int .u8 65]) ∧ Below w.heap.size w w' := by
  have hu := Try.underlying61
  go_enter Try.func22, Try.ntmps22
  go_wp2
  refine bodyPost_ret (v := .agg #[.string ⟨#[97, 109, 111, 120, 111, 114, 46, 119]⟩, .int .u32 4160778367, .int .u32 536879151, .int .u8 65]) (by simp [results, Try.results22, go_sem]) rfl ⟨rfl, ?_⟩
  go_grown
theorem row68 (w : World) : Calls Try.prog 22 #[.int .i64 68] w fun e w' => e = .returned (.agg #[.string ⟨#[97, 109, 111, 97, 110, 100, 46, 119]⟩, .int .u32 4160778367, .int .u32 1610620975, .int .u8 65]) ∧ Below w.heap.size w w' := by
  have hu := Try.underlying61
  go_enter Try.func22, Try.ntmps22
  go_wp2
  refine bodyPost_ret (v := .agg #[.string ⟨#[97, 109, 111, 97, 110, 100, 46, 119]⟩, .int .u32 4160778367, .int .u32 1610620975, .int .u8 65]) (by simp [results, Try.results22, go_sem]) rfl ⟨rfl, ?_⟩
  go_grown
theorem row69 (w : World) : Calls Try.prog 22 #[.int .i64 69] w fun e w' => e = .returned (.agg #[.string ⟨#[97, 109, 111, 111, 114, 46, 119]⟩, .int .u32 4160778367, .int .u32 1073750063, .int .u8 65]) ∧ Below w.heap.size w w' := by
  have hu := Try.underlying61
  go_enter Try.func22, Try.ntmps22
  go_wp2
  refine bodyPost_ret (v := .agg #[.string ⟨#[97, 109, 111, 111, 114, 46, 119]⟩, .int .u32 4160778367, .int .u32 1073750063, .int .u8 65]) (by simp [results, Try.results22, go_sem]) rfl ⟨rfl, ?_⟩
  go_grown
theorem row70 (w : World) : Calls Try.prog 22 #[.int .i64 70] w fun e w' => e = .returned (.agg #[.string ⟨#[97, 109, 111, 109, 105, 110, 46, 119]⟩, .int .u32 4160778367, .int .u32 2147491887, .int .u8 65]) ∧ Below w.heap.size w w' := by
  have hu := Try.underlying61
  go_enter Try.func22, Try.ntmps22
  go_wp2
  refine bodyPost_ret (v := .agg #[.string ⟨#[97, 109, 111, 109, 105, 110, 46, 119]⟩, .int .u32 4160778367, .int .u32 2147491887, .int .u8 65]) (by simp [results, Try.results22, go_sem]) rfl ⟨rfl, ?_⟩
  go_grown
theorem row71 (w : World) : Calls Try.prog 22 #[.int .i64 71] w fun e w' => e = .returned (.agg #[.string ⟨#[97, 109, 111, 109, 97, 120, 46, 119]⟩, .int .u32 4160778367, .int .u32 2684362799, .int .u8 65]) ∧ Below w.heap.size w w' := by
  have hu := Try.underlying61
  go_enter Try.func22, Try.ntmps22
  go_wp2
  refine bodyPost_ret (v := .agg #[.string ⟨#[97, 109, 111, 109, 97, 120, 46, 119]⟩, .int .u32 4160778367, .int .u32 2684362799, .int .u8 65]) (by simp [results, Try.results22, go_sem]) rfl ⟨rfl, ?_⟩
  go_grown
theorem row72 (w : World) : Calls Try.prog 22 #[.int .i64 72] w fun e w' => e = .returned (.agg #[.string ⟨#[97, 109, 111, 109, 105, 110, 117, 46, 119]⟩, .int .u32 4160778367, .int .u32 3221233711, .int .u8 65]) ∧ Below w.heap.size w w' := by
  have hu := Try.underlying61
  go_enter Try.func22, Try.ntmps22
  go_wp2
  refine bodyPost_ret (v := .agg #[.string ⟨#[97, 109, 111, 109, 105, 110, 117, 46, 119]⟩, .int .u32 4160778367, .int .u32 3221233711, .int .u8 65]) (by simp [results, Try.results22, go_sem]) rfl ⟨rfl, ?_⟩
  go_grown
theorem row73 (w : World) : Calls Try.prog 22 #[.int .i64 73] w fun e w' => e = .returned (.agg #[.string ⟨#[97, 109, 111, 109, 97, 120, 117, 46, 119]⟩, .int .u32 4160778367, .int .u32 3758104623, .int .u8 65]) ∧ Below w.heap.size w w' := by
  have hu := Try.underlying61
  go_enter Try.func22, Try.ntmps22
  go_wp2
  refine bodyPost_ret (v := .agg #[.string ⟨#[97, 109, 111, 109, 97, 120, 117, 46, 119]⟩, .int .u32 4160778367, .int .u32 3758104623, .int .u8 65]) (by simp [results, Try.results22, go_sem]) rfl ⟨rfl, ?_⟩
  go_grown
theorem row74 (w : World) : Calls Try.prog 22 #[.int .i64 74] w fun e w' => e = .returned (.agg #[.string ⟨#[108, 114, 46, 100]⟩, .int .u32 4193284223, .int .u32 268447791, .int .u8 76]) ∧ Below w.heap.size w w' := by
  have hu := Try.underlying61
  go_enter Try.func22, Try.ntmps22
  go_wp2
  refine bodyPost_ret (v := .agg #[.string ⟨#[108, 114, 46, 100]⟩, .int .u32 4193284223, .int .u32 268447791, .int .u8 76]) (by simp [results, Try.results22, go_sem]) rfl ⟨rfl, ?_⟩
  go_grown
theorem row75 (w : World) : Calls Try.prog 22 #[.int .i64 75] w fun e w' => e = .returned (.agg #[.string ⟨#[115, 99, 46, 100]⟩, .int .u32 4160778367, .int .u32 402665519, .int .u8 65]) ∧ Below w.heap.size w w' := by
  have hu := Try.underlying61
  go_enter Try.func22, Try.ntmps22
  go_wp2
  refine bodyPost_ret (v := .agg #[.string ⟨#[115, 99, 46, 100]⟩, .int .u32 4160778367, .int .u32 402665519, .int .u8 65]) (by simp [results, Try.results22, go_sem]) rfl ⟨rfl, ?_⟩
  go_grown
theorem row76 (w : World) : Calls Try.prog 22 #[.int .i64 76] w fun e w' => e = .returned (.agg #[.string ⟨#[97, 109, 111, 115, 119, 97, 112, 46, 100]⟩, .int .u32 4160778367, .int .u32 134230063, .int .u8 65]) ∧ Below w.heap.size w w' := by
  have hu := Try.underlying61
  go_enter Try.func22, Try.ntmps22
  go_wp2
  refine bodyPost_ret (v := .agg #[.string ⟨#[97, 109, 111, 115, 119, 97, 112, 46, 100]⟩, .int .u32 4160778367, .int .u32 134230063, .int .u8 65]) (by simp [results, Try.results22, go_sem]) rfl ⟨rfl, ?_⟩
  go_grown
theorem row77 (w : World) : Calls Try.prog 22 #[.int .i64 77] w fun e w' => e = .returned (.agg #[.string ⟨#[97, 109, 111, 97, 100, 100, 46, 100]⟩, .int .u32 4160778367, .int .u32 12335, .int .u8 65]) ∧ Below w.heap.size w w' := by
  have hu := Try.underlying61
  go_enter Try.func22, Try.ntmps22
  go_wp2
  refine bodyPost_ret (v := .agg #[.string ⟨#[97, 109, 111, 97, 100, 100, 46, 100]⟩, .int .u32 4160778367, .int .u32 12335, .int .u8 65]) (by simp [results, Try.results22, go_sem]) rfl ⟨rfl, ?_⟩
  go_grown
theorem row78 (w : World) : Calls Try.prog 22 #[.int .i64 78] w fun e w' => e = .returned (.agg #[.string ⟨#[97, 109, 111, 120, 111, 114, 46, 100]⟩, .int .u32 4160778367, .int .u32 536883247, .int .u8 65]) ∧ Below w.heap.size w w' := by
  have hu := Try.underlying61
  go_enter Try.func22, Try.ntmps22
  go_wp2
  refine bodyPost_ret (v := .agg #[.string ⟨#[97, 109, 111, 120, 111, 114, 46, 100]⟩, .int .u32 4160778367, .int .u32 536883247, .int .u8 65]) (by simp [results, Try.results22, go_sem]) rfl ⟨rfl, ?_⟩
  go_grown
theorem row79 (w : World) : Calls Try.prog 22 #[.int .i64 79] w fun e w' => e = .returned (.agg #[.string ⟨#[97, 109, 111, 97, 110, 100, 46, 100]⟩, .int .u32 4160778367, .int .u32 1610625071, .int .u8 65]) ∧ Below w.heap.size w w' := by
  have hu := Try.underlying61
  go_enter Try.func22, Try.ntmps22
  go_wp2
  refine bodyPost_ret (v := .agg #[.string ⟨#[97, 109, 111, 97, 110, 100, 46, 100]⟩, .int .u32 4160778367, .int .u32 1610625071, .int .u8 65]) (by simp [results, Try.results22, go_sem]) rfl ⟨rfl, ?_⟩
  go_grown
theorem row80 (w : World) : Calls Try.prog 22 #[.int .i64 80] w fun e w' => e = .returned (.agg #[.string ⟨#[97, 109, 111, 111, 114, 46, 100]⟩, .int .u32 4160778367, .int .u32 1073754159, .int .u8 65]) ∧ Below w.heap.size w w' := by
  have hu := Try.underlying61
  go_enter Try.func22, Try.ntmps22
  go_wp2
  refine bodyPost_ret (v := .agg #[.string ⟨#[97, 109, 111, 111, 114, 46, 100]⟩, .int .u32 4160778367, .int .u32 1073754159, .int .u8 65]) (by simp [results, Try.results22, go_sem]) rfl ⟨rfl, ?_⟩
  go_grown
end Go.Proofs.Ytknkfimpflodeaa.P
