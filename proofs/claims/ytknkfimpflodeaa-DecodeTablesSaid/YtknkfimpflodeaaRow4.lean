import Derived.Test.YtknkfimpflodeaaProg
import Derived.Below
import Derived.WalkKit
import Derived.KernelRfl
import Derived.RowKit3
import Derived.Laws.Rows
import Derived.Handy
namespace Go.Proofs.Ytknkfimpflodeaa.P
open Go.RowKit
set_option maxRecDepth 100000
set_option maxHeartbeats 4000000
theorem row_low (a0 : Int) (h : a0 < 1) (w : World) : Calls Try.prog 22 #[.int .i64 a0] w fun e w' => e = .returned (.agg #[.string ⟨#[]⟩, .int .u32 0, .int .u32 0, .int .u8 0]) ∧ Below w.heap.size w w' := by
  have hu := Try.underlying61
  go_enter Try.func22, Try.ntmps22
  go_wp2
  refine bodyPost_ret (v := .agg #[.string ⟨#[]⟩, .int .u32 0, .int .u32 0, .int .u8 0]) (by simp [results, Try.results22, go_sem]) rfl ⟨rfl, ?_⟩
  go_grown
end Go.Proofs.Ytknkfimpflodeaa.P
