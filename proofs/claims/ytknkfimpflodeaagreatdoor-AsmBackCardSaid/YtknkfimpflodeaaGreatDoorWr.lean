/- asm's read at the two lines of the wake. -/
import Derived.Test.YtknkfimpflodeaaGreatDoorA13
import Derived.Test.YtknkfimpflodeaaGreatDoorZk0
import Derived.Test.YtknkfimpflodeaaGreatDoorZk2
namespace Go.Proofs.YtknkfimpflodeaaGreatDoor.P
open Go.RowKit Go.Proofs.YtknkfimpflodeaaGreatDoorW.PrintWords Go.Proofs.YtknkfimpflodeaaGreatDoorW.PrintLast Go.Proofs.YtknkfimpflodeaaGreatDoorW.PrintMore
theorem wake_ops : opS (Lib.cut wakeQ [32]).1 = (5, false, false) ∧ opS (Lib.cut wakeJ [32]).1 = (3, false, false) ∧ ofS 5 = (false, true, true, true, false) ∧ ofS 3 = (true, false, false, true, false) := by
 refine ⟨by kernel_rfl, by kernel_rfl, by kernel_rfl, by kernel_rfl⟩
theorem wake_reads (l : BL) (h : l = wakeQ ∨ l = wakeJ) (w : World) (hE : Env w) :
  Calls Tryz.prog 72 #[sv l] w fun e w' => e = .returned (readV l) ∧ Below w.heap.size w w' := by
 obtain ⟨h1, h2, h3, h4⟩ := wake_ops
 rcases h with rfl | rfl
 ·exact read_k2 wakeQ (by decide) (by rw [h1]; decide) (by rw [h1]; exact h3) w hE
 ·exact read_k0 wakeJ (by decide) (by rw [h2]; decide) (by rw [h2]; exact h4) w hE
end Go.Proofs.YtknkfimpflodeaaGreatDoor.P
