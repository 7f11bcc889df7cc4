/- DecodeEncodes, in numbers: the word of any instruction is the document's. -/
import Derived.Test.YtknkfimpflodeaaEREnc
import Derived.Test.YtknkfimpflodeaaEWake
namespace Go.Proofs.Ytknkfimpflodeaa.Pure
open Go.RowKit Go.Proofs.Ytknkfimpflodeaa.P Go.Proofs.YtknkfimpflodeaaW.PrintWords Go.Proofs.YtknkfimpflodeaaW.PrintLast
theorem DecodeEncodes (op rd a b imm csr : Int) (aq rl : Bool) : mezzaninelaw09_DecodeEncodes.f 300 op rd a b imm csr aq rl = some true := by
  unfold mezzaninelaw09_DecodeEncodes.f
  rw [encode_at op rd a b imm csr aq rl 300 (by decide), rencode_at op rd a b imm csr aq rl 300 (by decide)]
  simp [wakes_ok 300 (by decide)]
end Go.Proofs.Ytknkfimpflodeaa.Pure
