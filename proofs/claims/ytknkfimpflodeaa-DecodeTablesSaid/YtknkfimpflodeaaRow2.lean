import Derived.Test.YtknkfimpflodeaaProg
import Derived.Below
import Derived.WalkKit
import Derived.KernelRfl
import Derived.RowKit3
import Derived.Laws.Rows
import Derived.Handy
namespace Go.Proofs.Ytknkfimpflodeaa.P
open Go.RowKit
set_option maxRecDepth 100000
set_option maxHeartbeats 4000000
theorem row81 (w : World) : Calls Try.prog 22 #[.int .i64 81] w fun e w' => e = .returned (.agg #[.string ⟨#[97, 109, 111, 109, 105, 110, 46, 100]⟩, .int .u32 4160778367, .int .u32 2147495983, .int .u8 65]) ∧ Below w.heap.size w w' := by
  have hu := Try.underlying61
  go_enter Try.func22, Try.ntmps22
  go_wp2
  refine bodyPost_ret (v := .agg #[.string ⟨#[97, 109, 111, 109, 105, 110, 46, 100]⟩, .int .u32 4160778367, .int .u32 2147495983, .int .u8 65]) (by simp [results, Try.results22, go_sem]) rfl ⟨rfl, ?_⟩
  go_grown
theorem row82 (w : World) : Calls Try.prog 22 #[.int .i64 82] w fun e w' => e = .returned (.agg #[.string ⟨#[97, 109, 111, 109, 97, 120, 46, 100]⟩, .int .u32 4160778367, .int .u32 2684366895, .int .u8 65]) ∧ Below w.heap.size w w' := by
  have hu := Try.underlying61
  go_enter Try.func22, Try.ntmps22
  go_wp2
  refine bodyPost_ret (v := .agg #[.string ⟨#[97, 109, 111, 109, 97, 120, 46, 100]⟩, .int .u32 4160778367, .int .u32 2684366895, .int .u8 65]) (by simp [results, Try.results22, go_sem]) rfl ⟨rfl, ?_⟩
  go_grown
theorem row83 (w : World) : Calls Try.prog 22 #[.int .i64 83] w fun e w' => e = .returned (.agg #[.string ⟨#[97, 109, 111, 109, 105, 110, 117, 46, 100]⟩, .int .u32 4160778367, .int .u32 3221237807, .int .u8 65]) ∧ Below w.heap.size w w' := by
  have hu := Try.underlying61
  go_enter Try.func22, Try.ntmps22
  go_wp2
  refine bodyPost_ret (v := .agg #[.string ⟨#[97, 109, 111, 109, 105, 110, 117, 46, 100]⟩, .int .u32 4160778367, .int .u32 3221237807, .int .u8 65]) (by simp [results, Try.results22, go_sem]) rfl ⟨rfl, ?_⟩
  go_grown
theorem row84 (w : World) : Calls Try.prog 22 #[.int .i64 84] w fun e w' => e = .returned (.agg #[.string ⟨#[97, 109, 111, 109, 97, 120, 117, 46, 100]⟩, .int .u32 4160778367, .int .u32 3758108719, .int .u8 65]) ∧ Below w.heap.size w w' := by
  have hu := Try.underlying61
  go_enter Try.func22, Try.ntmps22
  go_wp2
  refine bodyPost_ret (v := .agg #[.string ⟨#[97, 109, 111, 109, 97, 120, 117, 46, 100]⟩, .int .u32 4160778367, .int .u32 3758108719, .int .u8 65]) (by simp [results, Try.results22, go_sem]) rfl ⟨rfl, ?_⟩
  go_grown
theorem row85 (w : World) : Calls Try.prog 22 #[.int .i64 85] w fun e w' => e = .returned (.agg #[.string ⟨#[102, 101, 110, 99, 101]⟩, .int .u32 28799, .int .u32 15, .int .u8 73]) ∧ Below w.heap.size w w' := by
  have hu := Try.underlying61
  go_enter Try.func22, Try.ntmps22
  go_wp2
  refine bodyPost_ret (v := .agg #[.string ⟨#[102, 101, 110, 99, 101]⟩, .int .u32 28799, .int .u32 15, .int .u8 73]) (by simp [results, Try.results22, go_sem]) rfl ⟨rfl, ?_⟩
  go_grown
theorem row86 (w : World) : Calls Try.prog 22 #[.int .i64 86] w fun e w' => e = .returned (.agg #[.string ⟨#[102, 101, 110, 99, 101, 46, 105]⟩, .int .u32 28799, .int .u32 4111, .int .u8 73]) ∧ Below w.heap.size w w' := by
  have hu := Try.underlying61
  go_enter Try.func22, Try.ntmps22
  go_wp2
  refine bodyPost_ret (v := .agg #[.string ⟨#[102, 101, 110, 99, 101, 46, 105]⟩, .int .u32 28799, .int .u32 4111, .int .u8 73]) (by simp [results, Try.results22, go_sem]) rfl ⟨rfl, ?_⟩
  go_grown
theorem row87 (w : World) : Calls Try.prog 22 #[.int .i64 87] w fun e w' => e = .returned (.agg #[.string ⟨#[101, 99, 97, 108, 108]⟩, .int .u32 4294967295, .int .u32 115, .int .u8 78]) ∧ Below w.heap.size w w' := by
  have hu := Try.underlying61
  go_enter Try.func22, Try.ntmps22
  go_wp2
  refine bodyPost_ret (v := .agg #[.string ⟨#[101, 99, 97, 108, 108]⟩, .int .u32 4294967295, .int .u32 115, .int .u8 78]) (by simp [results, Try.results22, go_sem]) rfl ⟨rfl, ?_⟩
  go_grown
theorem row88 (w : World) : Calls Try.prog 22 #[.int .i64 88] w fun e w' => e = .returned (.agg #[.string ⟨#[101, 98, 114, 101, 97, 107]⟩, .int .u32 4294967295, .int .u32 1048691, .int .u8 78]) ∧ Below w.heap.size w w' := by
  have hu := Try.underlying61
  go_enter Try.func22, Try.ntmps22
  go_wp2
  refine bodyPost_ret (v := .agg #[.string ⟨#[101, 98, 114, 101, 97, 107]⟩, .int .u32 4294967295, .int .u32 1048691, .int .u8 78]) (by simp [results, Try.results22, go_sem]) rfl ⟨rfl, ?_⟩
  go_grown
theorem row89 (w : World) : Calls Try.prog 22 #[.int .i64 89] w fun e w' => e = .returned (.agg #[.string ⟨#[115, 114, 101, 116]⟩, .int .u32 4294967295, .int .u32 270532723, .int .u8 78]) ∧ Below w.heap.size w w' := by
  have hu := Try.underlying61
  go_enter Try.func22, Try.ntmps22
  go_wp2
  refine bodyPost_ret (v := .agg #[.string ⟨#[115, 114, 101, 116]⟩, .int .u32 4294967295, .int .u32 270532723, .int .u8 78]) (by simp [results, Try.results22, go_sem]) rfl ⟨rfl, ?_⟩
  go_grown
theorem row90 (w : World) : Calls Try.prog 22 #[.int .i64 90] w fun e w' => e = .returned (.agg #[.string ⟨#[109, 114, 101, 116]⟩, .int .u32 4294967295, .int .u32 807403635, .int .u8 78]) ∧ Below w.heap.size w w' := by
  have hu := Try.underlying61
  go_enter Try.func22, Try.ntmps22
  go_wp2
  refine bodyPost_ret (v := .agg #[.string ⟨#[109, 114, 101, 116]⟩, .int .u32 4294967295, .int .u32 807403635, .int .u8 78]) (by simp [results, Try.results22, go_sem]) rfl ⟨rfl, ?_⟩
  go_grown
theorem row91 (w : World) : Calls Try.prog 22 #[.int .i64 91] w fun e w' => e = .returned (.agg #[.string ⟨#[119, 102, 105]⟩, .int .u32 4294967295, .int .u32 273678451, .int .u8 78]) ∧ Below w.heap.size w w' := by
  have hu := Try.underlying61
  go_enter Try.func22, Try.ntmps22
  go_wp2
  refine bodyPost_ret (v := .agg #[.string ⟨#[119, 102, 105]⟩, .int .u32 4294967295, .int .u32 273678451, .int .u8 78]) (by simp [results, Try.results22, go_sem]) rfl ⟨rfl, ?_⟩
  go_grown
theorem row92 (w : World) : Calls Try.prog 22 #[.int .i64 92] w fun e w' => e = .returned (.agg #[.string ⟨#[115, 102, 101, 110, 99, 101, 46, 118, 109, 97]⟩, .int .u32 4261445631, .int .u32 301990003, .int .u8 70]) ∧ Below w.heap.size w w' := by
  have hu := Try.underlying61
  go_enter Try.func22, Try.ntmps22
  go_wp2
  refine bodyPost_ret (v := .agg #[.string ⟨#[115, 102, 101, 110, 99, 101, 46, 118, 109, 97]⟩, .int .u32 4261445631, .int .u32 301990003, .int .u8 70]) (by simp [results, Try.results22, go_sem]) rfl ⟨rfl, ?_⟩
  go_grown
theorem row93 (w : World) : Calls Try.prog 22 #[.int .i64 93] w fun e w' => e = .returned (.agg #[.string ⟨#[104, 102, 101, 110, 99, 101, 46, 118, 118, 109, 97]⟩, .int .u32 4261445631, .int .u32 570425459, .int .u8 70]) ∧ Below w.heap.size w w' := by
  have hu := Try.underlying61
  go_enter Try.func22, Try.ntmps22
  go_wp2
  refine bodyPost_ret (v := .agg #[.string ⟨#[104, 102, 101, 110, 99, 101, 46, 118, 118, 109, 97]⟩, .int .u32 4261445631, .int .u32 570425459, .int .u8 70]) (by simp [results, Try.results22, go_sem]) rfl ⟨rfl, ?_⟩
  go_grown
theorem row94 (w : World) : Calls Try.prog 22 #[.int .i64 94] w fun e w' => e = .returned (.agg #[.string ⟨#[104, 102, 101, 110, 99, 101, 46, 103, 118, 109, 97]⟩, .int .u32 4261445631, .int .u32 1644167283, .int .u8 70]) ∧ Below w.heap.size w w' := by
  have hu := Try.underlying61
  go_enter Try.func22, Try.ntmps22
  go_wp2
  refine bodyPost_ret (v := .agg #[.string ⟨#[104, 102, 101, 110, 99, 101, 46, 103, 118, 109, 97]⟩, .int .u32 4261445631, .int .u32 1644167283, .int .u8 70]) (by simp [results, Try.results22, go_sem]) rfl ⟨rfl, ?_⟩
  go_grown
theorem row95 (w : World) : Calls Try.prog 22 #[.int .i64 95] w fun e w' => e = .returned (.agg #[.string ⟨#[99, 115, 114, 114, 119]⟩, .int .u32 28799, .int .u32 4211, .int .u8 67]) ∧ Below w.heap.size w w' := by
  have hu := Try.underlying61
  go_enter Try.func22, Try.ntmps22
  go_wp2
  refine bodyPost_ret (v := .agg #[.string ⟨#[99, 115, 114, 114, 119]⟩, .int .u32 28799, .int .u32 4211, .int .u8 67]) (by simp [results, Try.results22, go_sem]) rfl ⟨rfl, ?_⟩
  go_grown
theorem row96 (w : World) : Calls Try.prog 22 #[.int .i64 96] w fun e w' => e = .returned (.agg #[.string ⟨#[99, 115, 114, 114, 115]⟩, .int .u32 28799, .int .u32 8307, .int .u8 67]) ∧ Below w.heap.size w w' := by
  have hu := Try.underlying61
  go_enter Try.func22, Try.ntmps22
  go_wp2
  refine bodyPost_ret (v := .agg #[.string ⟨#[99, 115, 114, 114, 115]⟩, .int .u32 28799, .int .u32 8307, .int .u8 67]) (by simp [results, Try.results22, go_sem]) rfl ⟨rfl, ?_⟩
  go_grown
theorem row97 (w : World) : Calls Try.prog 22 #[.int .i64 97] w fun e w' => e = .returned (.agg #[.string ⟨#[99, 115, 114, 114, 99]⟩, .int .u32 28799, .int .u32 12403, .int .u8 67]) ∧ Below w.heap.size w w' := by
  have hu := Try.underlying61
  go_enter Try.func22, Try.ntmps22
  go_wp2
  refine bodyPost_ret (v := .agg #[.string ⟨#[99, 115, 114, 114, 99]⟩, .int .u32 28799, .int .u32 12403, .int .u8 67]) (by simp [results, Try.results22, go_sem]) rfl ⟨rfl, ?_⟩
  go_grown
theorem row98 (w : World) : Calls Try.prog 22 #[.int .i64 98] w fun e w' => e = .returned (.agg #[.string ⟨#[99, 115, 114, 114, 119, 105]⟩, .int .u32 28799, .int .u32 20595, .int .u8 90]) ∧ Below w.heap.size w w' := by
  have hu := Try.underlying61
  go_enter Try.func22, Try.ntmps22
  go_wp2
  refine bodyPost_ret (v := .agg #[.string ⟨#[99, 115, 114, 114, 119, 105]⟩, .int .u32 28799, .int .u32 20595, .int .u8 90]) (by simp [results, Try.results22, go_sem]) rfl ⟨rfl, ?_⟩
  go_grown
theorem row99 (w : World) : Calls Try.prog 22 #[.int .i64 99] w fun e w' => e = .returned (.agg #[.string ⟨#[99, 115, 114, 114, 115, 105]⟩, .int .u32 28799, .int .u32 24691, .int .u8 90]) ∧ Below w.heap.size w w' := by
  have hu := Try.underlying61
  go_enter Try.func22, Try.ntmps22
  go_wp2
  refine bodyPost_ret (v := .agg #[.string ⟨#[99, 115, 114, 114, 115, 105]⟩, .int .u32 28799, .int .u32 24691, .int .u8 90]) (by simp [results, Try.results22, go_sem]) rfl ⟨rfl, ?_⟩
  go_grown
theorem row100 (w : World) : Calls Try.prog 22 #[.int .i64 100] w fun e w' => e = .returned (.agg #[.string ⟨#[99, 115, 114, 114, 99, 105]⟩, .int .u32 28799, .int .u32 28787, .int .u8 90]) ∧ Below w.heap.size w w' := by
  have hu := Try.underlying61
  go_enter Try.func22, Try.ntmps22
  go_wp2
  refine bodyPost_ret (v := .agg #[.string ⟨#[99, 115, 114, 114, 99, 105]⟩, .int .u32 28799, .int .u32 28787, .int .u8 90]) (by simp [results, Try.results22, go_sem]) rfl ⟨rfl, ?_⟩
  go_grown
end Go.Proofs.Ytknkfimpflodeaa.P
