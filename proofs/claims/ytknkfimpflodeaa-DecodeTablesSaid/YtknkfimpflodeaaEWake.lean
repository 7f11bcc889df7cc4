/- The wake of the statements of layer 9 is true. No program. -/
import Derived.Test.YtknkfimpflodeaaEPureD
import Derived.Test.YtknkfimpflodeaaFA0
import Derived.OpenShut
namespace Go.Proofs.Ytknkfimpflodeaa.P
open Go.RowKit Go.Proofs.YtknkfimpflodeaaW.PrintWords Go.Proofs.YtknkfimpflodeaaW.PrintLast Go.Proofs.YtknkfimpflodeaaW.PrintMore
set_option synthInstance.maxSize 100000 in
set_option synthInstance.maxHeartbeats 0 in
theorem wake_word : decL tabP 1 5243027 = (22, 1, 0, 0, 5, 0, false, false, true) := by decide +kernel
theorem wake_encode : decode_Encode.f 100 6 0 1 2 (-4) 0 false false = some (4263550691, 0) := by decide +kernel
theorem wakes_ok (k : Nat) (hk : 300 ≤ k) : mezzaninelaw09_wakes.f k = some true := by
  refine at_rounds (fun k => mezzaninelaw09_wakes.mono k) hk ?_
  unfold mezzaninelaw09_wakes.f
  rw [decode_at 5243027 (by decide) (by decide) 300 (by decide), wake_word, at_rounds (fun k => decode_Encode.mono 6 0 1 2 (-4) 0 false false k) (show 100 ≤ 300 by decide) wake_encode]
  rfl
end Go.Proofs.Ytknkfimpflodeaa.P
