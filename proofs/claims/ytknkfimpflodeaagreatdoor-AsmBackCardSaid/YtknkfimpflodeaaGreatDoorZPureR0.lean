/- Plain facts on powers, and which forms have a number. No program. -/
import Derived.Test.YtknkfimpflodeaaGreatDoorEPureN
namespace Go.Proofs.YtknkfimpflodeaaGreatDoor.P
open Go.RowKit Go.Proofs.YtknkfimpflodeaaGreatDoorW.PrintWords Go.Proofs.YtknkfimpflodeaaGreatDoorW.PrintLast Go.Proofs.YtknkfimpflodeaaGreatDoorW.PrintMore
set_option linter.unusedVariables false
theorem two_pos (n : Nat) : (0 : Int) < 2 ^ n := by exact_mod_cast Nat.two_pow_pos n
theorem mod_succ (x : Int) (n : Nat) : x % 2 ^ (n + 1) = x / 2 ^ n % 2 * 2 ^ n + x % 2 ^ n := by
 have hM := two_pos n
 have h1 := Int.mul_ediv_add_emod x (2 ^ n)
 have h2 := Int.mul_ediv_add_emod (x / 2 ^ n) 2
 have h3 := Int.emod_nonneg x (show (2 : Int) ^ n ≠ 0 by omega)
 have h4 := Int.emod_lt_of_pos x hM
 rw [Int.pow_succ]
 generalize (2 : Int) ^ n = M at *
 have e : x = (x / M % 2 * M + x % M) + M * 2 * (x / M / 2) := by
  have : M * (x / M) = M * (2 * (x / M / 2) + x / M % 2) := by rw [h2]
  rw [Int.mul_add] at this
  rw [Int.mul_assoc, Int.mul_comm (x / M % 2) M]
  omega
 have hb : x / M % 2 = 0 ∨ x / M % 2 = 1 := by omega
 have hlt : x / M % 2 * M + x % M < M * 2 := by rcases hb with h | h <;> rw [h] <;> omega
 have hge : 0 ≤ x / M % 2 * M + x % M := by rcases hb with h | h <;> rw [h] <;> omega
 calc x % (M * 2) = ((x / M % 2 * M + x % M) + M * 2 * (x / M / 2)) % (M * 2) := by rw [← e]
  _ = (x / M % 2 * M + x % M) % (M * 2) := Int.add_mul_emod_self_left _ _ _
  _ = _ := Int.emod_eq_of_lt hge hlt
theorem div_pow (w : Int) (p n : Nat) : w / 2 ^ (p + n) = w / 2 ^ p / 2 ^ n := by
 rw [Int.pow_add, Int.ediv_ediv_of_nonneg (Int.le_of_lt (two_pos p))]
def run (p : Nat) : Nat → List Int
 | 0 => []
 | n + 1 => ((p + n : Nat) : Int) :: run p n
theorem nF_range (fm : Int) : 0 ≤ nF fm ∧ nF fm ≤ 9 := by
 unfold nF
 (repeat' split) <;> omega
theorem numS_zero (w : Int) : numS 0 w = 0 := by simp [numS]
end Go.Proofs.YtknkfimpflodeaaGreatDoor.P
