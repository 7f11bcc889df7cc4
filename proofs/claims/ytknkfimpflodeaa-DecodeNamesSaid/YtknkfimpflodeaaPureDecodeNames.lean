/- DecodeNames, in numbers: of any number, any text, names and numbers are the document's. -/
import Derived.Test.YtknkfimpflodeaaNames
namespace Go.Proofs.Ytknkfimpflodeaa.Pure
open Go.RowKit Go.Proofs.Ytknkfimpflodeaa.P Go.Proofs.YtknkfimpflodeaaW.PrintWords Go.Proofs.YtknkfimpflodeaaW.PrintLast
theorem DecodeNames : mezzaninelaw09_DecodeNames.Pure := by
  intro a0 a1 h _
  obtain ⟨h0, h1⟩ := bounds_i64 h
  refine ⟨300, ?_⟩
  unfold mezzaninelaw09_DecodeNames.f
  rw [name_at a0 h0 h1, rname_at, op_at a1 300 (by decide), rop_at a1 300 (by decide), wakes_ok 300 (by decide)]
  simp
end Go.Proofs.Ytknkfimpflodeaa.Pure
