/- DecodeKeeps, in numbers: an instruction with other registers is the same instruction still, or it is none. -/
import Derived.Test.YtknkfimpflodeaaBack
import Derived.Test.YtknkfimpflodeaaEWake
import Derived.Test.YtknkfimpflodeaaFK
namespace Go.Proofs.Ytknkfimpflodeaa.Pure
open Go.RowKit Go.Proofs.Ytknkfimpflodeaa.P Go.Proofs.YtknkfimpflodeaaW.PrintWords Go.Proofs.YtknkfimpflodeaaW.PrintLast
theorem DecodeKeeps : mezzaninelaw09_DecodeKeeps.Pure := by
  intro w a1 a2 a3 h h1 h2 h3
  obtain ⟨w0, w1⟩ := bounds_u32 h
  refine ⟨301, ?_⟩
  unfold mezzaninelaw09_DecodeKeeps.f
  generalize wrap64 (Int.tmod a1 32) = b1
  generalize wrap64 (Int.tmod a2 32) = b2
  generalize wrap64 (Int.tmod a3 32) = b3
  rw [decode_at w w0 (by omega) 301 (by decide), Option.bind_some, wakes_ok 301 (by decide)]
  by_cases ok : (decL tabP 1 w).2.2.2.2.2.2.2.2 = true
  · obtain ⟨j, hj, ej, -, -⟩ := encode_said w w0 (by omega) ok
    rw [if_pos ok]
    generalize decL tabP 1 w = D at ej ok
    obtain ⟨d0, d1, d2, d3, d4, d5, d6, d7, d8⟩ := D
    dsimp only at ej ok ⊢
    subst ej
    rw [encode_at _ _ _ _ _ _ _ _ 301 (by decide), Option.bind_some]
    unfold encS
    have g : 1 ≤ (j : Int) + 1 ∧ (j : Int) + 1 ≤ 113 := by omega
    rw [if_pos g, show (j : Int) + 1 - 1 = (j : Int) by omega, rowAt_nat]
    by_cases hr : rightS (tabP.getD j rowZ).2.2.2 b1 b2 b3 d4 d5 d6 d7 = true
    · rw [if_pos hr]
      obtain ⟨t0, t1, t2⟩ := decode_word j hj b1 b2 b3 d4 d5 d6 d7 hr
      dsimp only
      rw [if_pos rfl, decode_at _ t0 t1 301 (by decide), Option.bind_some, t2]
      simp
    · rw [if_neg hr]
      simp
  · rw [if_neg ok]
    simp
end Go.Proofs.Ytknkfimpflodeaa.Pure
