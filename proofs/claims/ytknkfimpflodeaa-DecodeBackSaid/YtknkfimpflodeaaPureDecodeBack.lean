/- DecodeBack, in numbers: what a word says is that word again, and an instruction's word says it. -/
import Derived.Test.YtknkfimpflodeaaBack
import Derived.Test.YtknkfimpflodeaaEWake
import Derived.Test.YtknkfimpflodeaaENames
import Derived.Test.YtknkfimpflodeaaFE
namespace Go.Proofs.Ytknkfimpflodeaa.P
open Go.RowKit Go.Proofs.YtknkfimpflodeaaW.PrintWords Go.Proofs.YtknkfimpflodeaaW.PrintLast Go.Proofs.YtknkfimpflodeaaW.PrintMore
theorem names_all : (List.range 113).all (fun j => decide (opL tabP 1 (tabP.getD j rowZ).1 = (j : Int) + 1)) = true := by decide +kernel
theorem op_name (j : Nat) (hj : j < 113) (k : Nat) (hk : 120 ≤ k) : ((decode_Name.f ((j : Int) + 1)).bind fun t => decode_Op.f k t) = some ((j : Int) + 1) := by
  rw [name_at _ (by omega) (by omega), Option.bind_some, op_at _ k hk, rowR_at j hj]
  exact congrArg some (of_decide_eq_true (List.all_eq_true.1 names_all j (List.mem_range.2 hj)))
theorem back_j0 (op rd a b imm csr : Int) (aq rl : Bool) (k : Nat) (hk : 300 ≤ k) : mezzaninelaw09_DecodeBack.j0 (k + 1) op rd a b imm csr aq rl = some true := by
  simp only [mezzaninelaw09_DecodeBack.j0]
  rw [encode_at op rd a b imm csr aq rl k (by omega), Option.bind_some, wakes_ok k hk]
  unfold encS
  by_cases g : 1 ≤ op ∧ op ≤ 113
  · rw [if_pos g]
    obtain ⟨j, rfl⟩ : ∃ j : Nat, op = (j : Int) + 1 := ⟨(op - 1).toNat, by omega⟩
    have hj : j < 113 := by omega
    rw [show (j : Int) + 1 - 1 = (j : Int) by omega, rowAt_nat]
    by_cases hr : rightS (tabP.getD j rowZ).2.2.2 rd a b imm csr aq rl = true
    · rw [if_pos hr]
      obtain ⟨t0, t1, t2⟩ := decode_word j hj rd a b imm csr aq rl hr
      dsimp only
      rw [if_pos rfl, decode_at _ t0 t1 k (by omega), Option.bind_some, t2]
      simp
    · rw [if_neg hr]
      simp
  · rw [if_neg g]
    simp
end Go.Proofs.Ytknkfimpflodeaa.P
namespace Go.Proofs.Ytknkfimpflodeaa.Pure
open Go.RowKit Go.Proofs.Ytknkfimpflodeaa.P Go.Proofs.YtknkfimpflodeaaW.PrintWords Go.Proofs.YtknkfimpflodeaaW.PrintLast
theorem DecodeBack (w op rd a b imm csr : Int) (aq rl : Bool) (w0 : 0 ≤ w) (w1 : w < 4294967296) : mezzaninelaw09_DecodeBack.f 301 w op rd a b imm csr aq rl = some true := by
  have hj0 := back_j0 op rd a b imm csr aq rl 300 (by decide)
  unfold mezzaninelaw09_DecodeBack.f
  rw [decode_at w w0 w1 301 (by decide), Option.bind_some]
  by_cases h : (decL tabP 1 w).2.2.2.2.2.2.2.2 = true
  · obtain ⟨j, hj, ej, e, -⟩ := encode_said w w0 w1 h
    rw [if_pos h, encode_at _ _ _ _ _ _ _ _ 301 (by decide), e, Option.bind_some]
    dsimp only
    have hn := op_name j hj 301 (by decide)
    obtain ⟨nm, hn1, hn2⟩ := Option.bind_eq_some_iff.mp hn
    rw [if_pos rfl, if_pos rfl, ej, hn1, Option.bind_some, hn2, Option.bind_some, if_pos rfl]
    exact hj0
  · have h' : (decL tabP 1 w).2.2.2.2.2.2.2.2 = false := by simpa using h
    rw [if_neg h, decL_none w tabP 1 h', if_neg (by decide)]
    exact hj0
end Go.Proofs.Ytknkfimpflodeaa.Pure
