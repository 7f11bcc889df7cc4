/- Says answers what a word says as an instruction of the table. -/
import Derived.Test.YtknkfimpflodeaaSays0
import Derived.Test.YtknkfimpflodeaaSays1
import Derived.Test.YtknkfimpflodeaaSays2
import Derived.Test.YtknkfimpflodeaaPureR
import Derived.Test.YtknkfimpflodeaaRowOf
import Derived.Handy
namespace Go.Proofs.Ytknkfimpflodeaa.P
open Go.RowKit Go.Proofs.YtknkfimpflodeaaW.PrintWords Go.Proofs.YtknkfimpflodeaaW.PrintLast Go.Proofs.YtknkfimpflodeaaW.PrintMore
set_option linter.unusedVariables false
set_option linter.unusedSimpArgs false
def mezzanineref09_Says.f (a0 a1 : Int) : Option (Int × Int × Int × Int × Int × Int × Bool × Bool) := if 1 ≤ a0 ∧ a0 ≤ 113 ∧ 0 ≤ a1 ∧ a1 < 4294967296 then some (sayS (tabP.getD (a0.toNat - 1) rowZ).2.2.2 a0 a1) else none
theorem mezzanineref09_Says.calls (a0 a1 r1 r2 r3 r4 r5 r6 : Int) (r7 r8 : Bool) (w : World) (h : mezzanineref09_Says.f a0 a1 = some (r1, r2, r3, r4, r5, r6, r7, r8)) :
    Calls Try.prog 23 #[.int .i64 a0, .int .u32 a1] w fun e w' => e = .returned (.agg #[.int .i64 r1, .int .i64 r2, .int .i64 r3, .int .i64 r4, .int .i64 r5, .int .i64 r6, .bool r7, .bool r8]) ∧ Below w.heap.size w w' := by
  unfold mezzanineref09_Says.f at h
  split at h
  · rename_i hc
    obtain ⟨h1, h2, w0, w1⟩ := hc
    have H := Option.some.inj h
    obtain ⟨j, rfl⟩ : ∃ j : Nat, a0 = (j : Int) + 1 := ⟨(a0 - 1).toNat, by omega⟩
    have hj : j < 113 := by omega
    rw [show ((j : Int) + 1).toNat - 1 = j by omega] at H
    obtain ⟨f1, f2, _⟩ := row_ok j hj
    have hr : mezzanineref09_RowOf.f ((j : Int) + 1) = some ((tabP.getD j rowZ).1, (tabP.getD j rowZ).2.1, (tabP.getD j rowZ).2.2.1, ltr (tabP.getD j rowZ).2.2.2) := congrArg some (rowR_at j hj)
    generalize tabP.getD j rowZ = R at H hr f1 f2
    obtain ⟨n, mk, mt, fm⟩ := R
    dsimp only at H hr f1 f2
    rcases forms fm f1 f2 with rfl | rfl | rfl | rfl | rfl | rfl | rfl | rfl | rfl | rfl | rfl | rfl | rfl | rfl | rfl
    · simp [sayS, rdB, aB, bB, cB, oB, nF, numS_zero] at H
      obtain ⟨rfl, rfl, rfl, rfl, rfl, rfl, rfl, rfl⟩ := H
      exact says_1 _ a1 w n mk mt w0 w1 hr
    · simp [sayS, rdB, aB, bB, cB, oB, nF, numS_zero] at H
      obtain ⟨rfl, rfl, rfl, rfl, rfl, rfl, rfl, rfl⟩ := H
      exact says_2 _ a1 w n mk mt w0 w1 hr
    · simp [sayS, rdB, aB, bB, cB, oB, nF, numS_zero] at H
      obtain ⟨rfl, rfl, rfl, rfl, rfl, rfl, rfl, rfl⟩ := H
      exact says_3 _ a1 w n mk mt w0 w1 hr
    · simp [sayS, rdB, aB, bB, cB, oB, nF, numS_zero] at H
      obtain ⟨rfl, rfl, rfl, rfl, rfl, rfl, rfl, rfl⟩ := H
      exact says_4 _ a1 w n mk mt w0 w1 hr
    · simp [sayS, rdB, aB, bB, cB, oB, nF, numS_zero] at H
      obtain ⟨rfl, rfl, rfl, rfl, rfl, rfl, rfl, rfl⟩ := H
      exact says_5 _ a1 w n mk mt w0 w1 hr
    · simp [sayS, rdB, aB, bB, cB, oB, nF, numS_zero] at H
      obtain ⟨rfl, rfl, rfl, rfl, rfl, rfl, rfl, rfl⟩ := H
      exact says_6 _ a1 w n mk mt w0 w1 hr
    · simp [sayS, rdB, aB, bB, cB, oB, nF, numS_zero] at H
      obtain ⟨rfl, rfl, rfl, rfl, rfl, rfl, rfl, rfl⟩ := H
      exact says_7 _ a1 w n mk mt w0 w1 hr
    · simp [sayS, rdB, aB, bB, cB, oB, nF, numS_zero] at H
      obtain ⟨rfl, rfl, rfl, rfl, rfl, rfl, rfl, rfl⟩ := H
      exact says_8 _ a1 w n mk mt w0 w1 hr
    · simp [sayS, rdB, aB, bB, cB, oB, nF, numS_zero] at H
      obtain ⟨rfl, rfl, rfl, rfl, rfl, rfl, rfl, rfl⟩ := H
      exact says_9 _ a1 w n mk mt w0 w1 hr
    · simp [sayS, rdB, aB, bB, cB, oB, nF, numS_zero] at H
      obtain ⟨rfl, rfl, rfl, rfl, rfl, rfl, rfl, rfl⟩ := H
      exact says_10 _ a1 w n mk mt w0 w1 hr
    · simp [sayS, rdB, aB, bB, cB, oB, nF, numS_zero] at H
      obtain ⟨rfl, rfl, rfl, rfl, rfl, rfl, rfl, rfl⟩ := H
      exact says_11 _ a1 w n mk mt w0 w1 hr
    · simp [sayS, rdB, aB, bB, cB, oB, nF, numS_zero] at H
      obtain ⟨rfl, rfl, rfl, rfl, rfl, rfl, rfl, rfl⟩ := H
      exact says_12 _ a1 w n mk mt w0 w1 hr
    · simp [sayS, rdB, aB, bB, cB, oB, nF, numS_zero] at H
      obtain ⟨rfl, rfl, rfl, rfl, rfl, rfl, rfl, rfl⟩ := H
      exact says_13 _ a1 w n mk mt w0 w1 hr
    · simp [sayS, rdB, aB, bB, cB, oB, nF, numS_zero] at H
      obtain ⟨rfl, rfl, rfl, rfl, rfl, rfl, rfl, rfl⟩ := H
      exact says_14 _ a1 w n mk mt w0 w1 hr
    · simp [sayS, rdB, aB, bB, cB, oB, nF, numS_zero] at H
      obtain ⟨rfl, rfl, rfl, rfl, rfl, rfl, rfl, rfl⟩ := H
      exact says_15 _ a1 w n mk mt w0 w1 hr
  · cases h
end Go.Proofs.Ytknkfimpflodeaa.P
