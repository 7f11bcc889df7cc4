import Derived.Test.YtknkfimpflodeaaProg
import Derived.Below
import Derived.WalkKit
import Derived.KernelRfl
import Derived.RowKit3
import Derived.Laws.Rows
import Derived.Handy
namespace Go.Proofs.Ytknkfimpflodeaa.P
open Go.RowKit
set_option maxRecDepth 100000
set_option maxHeartbeats 4000000
theorem row101 (w : World) : Calls Try.prog 22 #[.int .i64 101] w fun e w' => e = .returned (.agg #[.string ⟨#[104, 108, 118, 46, 98]⟩, .int .u32 4293947519, .int .u32 1610629235, .int .u8 86]) ∧ Below w.heap.size w w' := by
  have hu := Try.underlying61
  go_enter Try.func22, Try.ntmps22
  go_wp2
  refine bodyPost_ret (v := .agg #[.string ⟨#[104, 108, 118, 46, 98]⟩, .int .u32 4293947519, .int .u32 1610629235, .int .u8 86]) (by simp [results, Try.results22, go_sem]) rfl ⟨rfl, ?_⟩
  go_grown
theorem row102 (w : World) : Calls Try.prog 22 #[.int .i64 102] w fun e w' => e = .returned (.agg #[.string ⟨#[104, 108, 118, 46, 98, 117]⟩, .int .u32 4293947519, .int .u32 1611677811, .int .u8 86]) ∧ Below w.heap.size w w' := by
  have hu := Try.underlying61
  go_enter Try.func22, Try.ntmps22
  go_wp2
  refine bodyPost_ret (v := .agg #[.string ⟨#[104, 108, 118, 46, 98, 117]⟩, .int .u32 4293947519, .int .u32 1611677811, .int .u8 86]) (by simp [results, Try.results22, go_sem]) rfl ⟨rfl, ?_⟩
  go_grown
theorem row103 (w : World) : Calls Try.prog 22 #[.int .i64 103] w fun e w' => e = .returned (.agg #[.string ⟨#[104, 108, 118, 46, 104]⟩, .int .u32 4293947519, .int .u32 1677738099, .int .u8 86]) ∧ Below w.heap.size w w' := by
  have hu := Try.underlying61
  go_enter Try.func22, Try.ntmps22
  go_wp2
  refine bodyPost_ret (v := .agg #[.string ⟨#[104, 108, 118, 46, 104]⟩, .int .u32 4293947519, .int .u32 1677738099, .int .u8 86]) (by simp [results, Try.results22, go_sem]) rfl ⟨rfl, ?_⟩
  go_grown
theorem row104 (w : World) : Calls Try.prog 22 #[.int .i64 104] w fun e w' => e = .returned (.agg #[.string ⟨#[104, 108, 118, 46, 104, 117]⟩, .int .u32 4293947519, .int .u32 1678786675, .int .u8 86]) ∧ Below w.heap.size w w' := by
  have hu := Try.underlying61
  go_enter Try.func22, Try.ntmps22
  go_wp2
  refine bodyPost_ret (v := .agg #[.string ⟨#[104, 108, 118, 46, 104, 117]⟩, .int .u32 4293947519, .int .u32 1678786675, .int .u8 86]) (by simp [results, Try.results22, go_sem]) rfl ⟨rfl, ?_⟩
  go_grown
theorem row105 (w : World) : Calls Try.prog 22 #[.int .i64 105] w fun e w' => e = .returned (.agg #[.string ⟨#[104, 108, 118, 120, 46, 104, 117]⟩, .int .u32 4293947519, .int .u32 1680883827, .int .u8 86]) ∧ Below w.heap.size w w' := by
  have hu := Try.underlying61
  go_enter Try.func22, Try.ntmps22
  go_wp2
  refine bodyPost_ret (v := .agg #[.string ⟨#[104, 108, 118, 120, 46, 104, 117]⟩, .int .u32 4293947519, .int .u32 1680883827, .int .u8 86]) (by simp [results, Try.results22, go_sem]) rfl ⟨rfl, ?_⟩
  go_grown
theorem row106 (w : World) : Calls Try.prog 22 #[.int .i64 106] w fun e w' => e = .returned (.agg #[.string ⟨#[104, 108, 118, 46, 119]⟩, .int .u32 4293947519, .int .u32 1744846963, .int .u8 86]) ∧ Below w.heap.size w w' := by
  have hu := Try.underlying61
  go_enter Try.func22, Try.ntmps22
  go_wp2
  refine bodyPost_ret (v := .agg #[.string ⟨#[104, 108, 118, 46, 119]⟩, .int .u32 4293947519, .int .u32 1744846963, .int .u8 86]) (by simp [results, Try.results22, go_sem]) rfl ⟨rfl, ?_⟩
  go_grown
theorem row107 (w : World) : Calls Try.prog 22 #[.int .i64 107] w fun e w' => e = .returned (.agg #[.string ⟨#[104, 108, 118, 46, 119, 117]⟩, .int .u32 4293947519, .int .u32 1745895539, .int .u8 86]) ∧ Below w.heap.size w w' := by
  have hu := Try.underlying61
  go_enter Try.func22, Try.ntmps22
  go_wp2
  refine bodyPost_ret (v := .agg #[.string ⟨#[104, 108, 118, 46, 119, 117]⟩, .int .u32 4293947519, .int .u32 1745895539, .int .u8 86]) (by simp [results, Try.results22, go_sem]) rfl ⟨rfl, ?_⟩
  go_grown
theorem row108 (w : World) : Calls Try.prog 22 #[.int .i64 108] w fun e w' => e = .returned (.agg #[.string ⟨#[104, 108, 118, 120, 46, 119, 117]⟩, .int .u32 4293947519, .int .u32 1747992691, .int .u8 86]) ∧ Below w.heap.size w w' := by
  have hu := Try.underlying61
  go_enter Try.func22, Try.ntmps22
  go_wp2
  refine bodyPost_ret (v := .agg #[.string ⟨#[104, 108, 118, 120, 46, 119, 117]⟩, .int .u32 4293947519, .int .u32 1747992691, .int .u8 86]) (by simp [results, Try.results22, go_sem]) rfl ⟨rfl, ?_⟩
  go_grown
theorem row109 (w : World) : Calls Try.prog 22 #[.int .i64 109] w fun e w' => e = .returned (.agg #[.string ⟨#[104, 108, 118, 46, 100]⟩, .int .u32 4293947519, .int .u32 1811955827, .int .u8 86]) ∧ Below w.heap.size w w' := by
  have hu := Try.underlying61
  go_enter Try.func22, Try.ntmps22
  go_wp2
  refine bodyPost_ret (v := .agg #[.string ⟨#[104, 108, 118, 46, 100]⟩, .int .u32 4293947519, .int .u32 1811955827, .int .u8 86]) (by simp [results, Try.results22, go_sem]) rfl ⟨rfl, ?_⟩
  go_grown
theorem row110 (w : World) : Calls Try.prog 22 #[.int .i64 110] w fun e w' => e = .returned (.agg #[.string ⟨#[104, 115, 118, 46, 98]⟩, .int .u32 4261445631, .int .u32 1644183667, .int .u8 70]) ∧ Below w.heap.size w w' := by
  have hu := Try.underlying61
  go_enter Try.func22, Try.ntmps22
  go_wp2
  refine bodyPost_ret (v := .agg #[.string ⟨#[104, 115, 118, 46, 98]⟩, .int .u32 4261445631, .int .u32 1644183667, .int .u8 70]) (by simp [results, Try.results22, go_sem]) rfl ⟨rfl, ?_⟩
  go_grown
theorem row111 (w : World) : Calls Try.prog 22 #[.int .i64 111] w fun e w' => e = .returned (.agg #[.string ⟨#[104, 115, 118, 46, 104]⟩, .int .u32 4261445631, .int .u32 1711292531, .int .u8 70]) ∧ Below w.heap.size w w' := by
  have hu := Try.underlying61
  go_enter Try.func22, Try.ntmps22
  go_wp2
  refine bodyPost_ret (v := .agg #[.string ⟨#[104, 115, 118, 46, 104]⟩, .int .u32 4261445631, .int .u32 1711292531, .int .u8 70]) (by simp [results, Try.results22, go_sem]) rfl ⟨rfl, ?_⟩
  go_grown
theorem row112 (w : World) : Calls Try.prog 22 #[.int .i64 112] w fun e w' => e = .returned (.agg #[.string ⟨#[104, 115, 118, 46, 119]⟩, .int .u32 4261445631, .int .u32 1778401395, .int .u8 70]) ∧ Below w.heap.size w w' := by
  have hu := Try.underlying61
  go_enter Try.func22, Try.ntmps22
  go_wp2
  refine bodyPost_ret (v := .agg #[.string ⟨#[104, 115, 118, 46, 119]⟩, .int .u32 4261445631, .int .u32 1778401395, .int .u8 70]) (by simp [results, Try.results22, go_sem]) rfl ⟨rfl, ?_⟩
  go_grown
theorem row113 (w : World) : Calls Try.prog 22 #[.int .i64 113] w fun e w' => e = .returned (.agg #[.string ⟨#[104, 115, 118, 46, 100]⟩, .int .u32 4261445631, .int .u32 1845510259, .int .u8 70]) ∧ Below w.heap.size w w' := by
  have hu := Try.underlying61
  go_enter Try.func22, Try.ntmps22
  go_wp2
  refine bodyPost_ret (v := .agg #[.string ⟨#[104, 115, 118, 46, 100]⟩, .int .u32 4261445631, .int .u32 1845510259, .int .u8 70]) (by simp [results, Try.results22, go_sem]) rfl ⟨rfl, ?_⟩
  go_grown
end Go.Proofs.Ytknkfimpflodeaa.P
