/- DecodeWords, in numbers: of any word the program says what the document says. -/
import Derived.Test.YtknkfimpflodeaaWake
namespace Go.Proofs.Ytknkfimpflodeaa.Pure
open Go.RowKit Go.Proofs.Ytknkfimpflodeaa.P Go.Proofs.YtknkfimpflodeaaW.PrintWords Go.Proofs.YtknkfimpflodeaaW.PrintLast
theorem DecodeWords : mezzaninelaw09_DecodeWords.Pure := by
  intro a0 h
  obtain ⟨h0, h1⟩ := bounds_u32 h
  refine ⟨300, ?_⟩
  unfold mezzaninelaw09_DecodeWords.f
  rw [decode_at a0 h0 (by omega) 300 (by decide), rdecode_at a0 h0 (by omega) 300 (by decide), wakes_ok 300 (by decide)]
  simp
end Go.Proofs.Ytknkfimpflodeaa.Pure
