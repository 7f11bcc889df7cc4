/- Numbers put into a register, in numbers: each round of Li has a smaller number before it. No program. -/
import Derived.Test.YtknkfimpflodeaaGreatDoorAsm
import Derived.Lib.TrailingZeros
namespace Go.Proofs.YtknkfimpflodeaaGreatDoor.P
open Go.RowKit
set_option linter.unusedVariables false
/-- a number of so many bits -/
def fitP (k : Nat) (n : Int) : Prop := (-9223372036854775808 ≤ n ∧ n ≤ 9223372036854775807) ∧ -(2 ^ (12 * k + 19) : Int) ≤ n ∧ n < 2 ^ (12 * k + 19)
theorem low_range (n : Int) : -2048 ≤ lowS n ∧ lowS n ≤ 2047 ∧ (n - lowS n) % 4096 = 0 := by unfold lowS; omega
theorem i32_iff (n : Int) : n = i32S n ↔ (-2147483648 ≤ n ∧ n ≤ 2147483647) := by unfold i32S; omega
theorem two_pow_even (k : Nat) (hk : 1 ≤ k) : ∃ e : Int, (2 : Int) ^ k = 2 * e ∧ 1 ≤ e := by
 obtain ⟨j, rfl⟩ : ∃ j, k = j + 1 := ⟨k - 1, by omega⟩
 refine ⟨2 ^ j, by rw [Int.pow_succ, Int.mul_comm], ?_⟩
 have : (0 : Int) < 2 ^ j := by exact_mod_cast Nat.two_pow_pos j
 omega
theorem ctz_odd (m : Int) (h0 : -9223372036854775808 ≤ m) (h1 : m ≤ 9223372036854775807) (hm : m ≠ 0) :
  ∃ t : Int, m = 2 ^ Lib.ctz 64 (m % 18446744073709551616).toNat * (2 * t + 1) ∧ Lib.ctz 64 (m % 18446744073709551616).toNat ≤ 63 := by
 have hx0 : 0 < (m % 18446744073709551616).toNat := by omega
 obtain ⟨r, hr, hz⟩ := Lib.ctzFrom_spec 64 (m % 18446744073709551616).toNat hx0 (by omega)
 have hc : Lib.ctz 64 (m % 18446744073709551616).toNat = Lib.ctzFrom 64 (m % 18446744073709551616).toNat := by
  unfold Lib.ctz
  rw [if_neg (by omega)]
 rw [hc]
 generalize Lib.ctzFrom 64 (m % 18446744073709551616).toNat = z at hr hz ⊢
 have hX : m % 18446744073709551616 = 2 ^ z * (2 * (r : Int) + 1) := by
  have e : ((m % 18446744073709551616).toNat : Int) = ((2 ^ z * (2 * r + 1) : Nat) : Int) := by rw [← hr]
  rw [Int.toNat_of_nonneg (by omega)] at e
  rw [e]
  push_cast
  rfl
 by_cases hn : 0 ≤ m
 ·exact ⟨r, by rw [← hX]; omega, by omega⟩
 ·have e64 : (18446744073709551616 : Int) = 2 ^ z * (2 * 2 ^ (63 - z)) := by
   rw [show (2 : Int) * 2 ^ (63 - z) = 2 ^ (64 - z) by rw [← Int.pow_succ', show 63 - z + 1 = 64 - z by omega], ← Int.pow_add, show z + (64 - z) = 64 by omega]
   rfl
  refine ⟨(r : Int) - 2 ^ (63 - z), ?_, by omega⟩
  have hmm : m = m % 18446744073709551616 - 18446744073709551616 := by omega
  rw [hmm, hX]
  conv => lhs; rw [e64]
  rw [← Int.mul_sub]
  congr 1
  omega
theorem li_step (k : Nat) (n : Int) (hP : fitP (k + 1) n) (h32 : ¬ (-2147483648 ≤ n ∧ n ≤ 2147483647)) :
  12 ≤ Lib.ctz 64 (wrap64 (n - lowS n) % 18446744073709551616).toNat ∧ Lib.ctz 64 (wrap64 (n - lowS n) % 18446744073709551616).toNat ≤ 63 ∧ fitP k (wrap64 (n - lowS n) / 2 ^ Lib.ctz 64 (wrap64 (n - lowS n) % 18446744073709551616).toNat) := by
 obtain ⟨⟨n0, n1⟩, b0, b1⟩ := hP
 obtain ⟨l0, l1, l2⟩ := low_range n
 rw [show 12 * (k + 1) + 19 = 12 + (12 * k + 19) by omega, Int.pow_add, show (2 : Int) ^ 12 = 4096 from rfl] at b0 b1
 obtain ⟨e, he, he1⟩ := two_pow_even (12 * k + 19) (by omega)
 generalize lowS n = l at l0 l1 l2 ⊢
 have m0 : -9223372036854775808 ≤ wrap64 (n - l) := by unfold wrap64; omega
 have m1 : wrap64 (n - l) ≤ 9223372036854775807 := by unfold wrap64; omega
 have m2 : wrap64 (n - l) % 4096 = 0 := by unfold wrap64; omega
 have m3 : wrap64 (n - l) ≠ 0 := by unfold wrap64; omega
 have m4 : -(4096 * 2 ^ (12 * k + 19)) ≤ wrap64 (n - l) ∧ wrap64 (n - l) ≤ 4096 * 2 ^ (12 * k + 19) := by
  rw [he] at b0 b1 ⊢
  unfold wrap64; omega
 generalize wrap64 (n - l) = m at m0 m1 m2 m3 m4 ⊢
 obtain ⟨t, ht, hz⟩ := ctz_odd m m0 m1 m3
 generalize Lib.ctz 64 (m % 18446744073709551616).toNat = z at ht hz ⊢
 have hz12 : 12 ≤ z := by
  rcases Nat.lt_or_ge z 12 with h | h
  ·have hh : z = 0 ∨ z = 1 ∨ z = 2 ∨ z = 3 ∨ z = 4 ∨ z = 5 ∨ z = 6 ∨ z = 7 ∨ z = 8 ∨ z = 9 ∨ z = 10 ∨ z = 11 := by omega
   rcases hh with rfl | rfl | rfl | rfl | rfl | rfl | rfl | rfl | rfl | rfl | rfl | rfl <;> omega
  ·exact h
 refine ⟨hz12, hz, ?_⟩
 have hZ : (0 : Int) < 2 ^ z := by exact_mod_cast Nat.two_pow_pos z
 have hq : m / 2 ^ z = 2 * t + 1 := by
  conv => lhs; rw [ht]
  exact Int.mul_ediv_cancel_left _ (by omega)
 rw [hq]
 obtain ⟨y, hy⟩ : ∃ y, z = 12 + y := ⟨z - 12, by omega⟩
 have hY : (1 : Int) ≤ 2 ^ y := by
  have : (0 : Int) < 2 ^ y := by exact_mod_cast Nat.two_pow_pos y
  omega
 rw [hy, Int.pow_add, show (2 : Int) ^ 12 = 4096 from rfl, Int.mul_assoc] at ht
 generalize (2 : Int) ^ y = Y at ht hY
 have hb : -(2 ^ (12 * k + 19)) ≤ Y * (2 * t + 1) ∧ Y * (2 * t + 1) ≤ 2 ^ (12 * k + 19) := by omega
 have hb2 : -2251799813685248 ≤ Y * (2 * t + 1) ∧ Y * (2 * t + 1) ≤ 2251799813685248 := by omega
 have hmul : Y * (2 * t + 1) = (2 * t + 1) + (Y - 1) * (2 * t + 1) := by rw [Int.sub_mul]; omega
 unfold fitP
 rw [he] at hb ⊢
 by_cases ht0 : 0 ≤ t
 ·have := Int.mul_nonneg (show 0 ≤ Y - 1 by omega) (show 0 ≤ 2 * t + 1 by omega)
  omega
 ·have h5 := Int.mul_nonneg (show 0 ≤ Y - 1 by omega) (show 0 ≤ -(2 * t + 1) by omega)
  rw [Int.mul_neg] at h5
  omega
theorem li_len : ∀ (k : Nat) (rd n : Int), (liS k rd n).length ≤ 2 * k
 | 0, _, _ => by simp [liS]
 | k + 1, rd, n => by
  unfold liS
  split
  ·simp
  ·split
   ·simp
    omega
   ·split
    ·split <;> simp <;> omega
    ·have := li_len k rd (wrap64 (n - lowS n) / 2 ^ Lib.ctz 64 (wrap64 (n - lowS n) % 18446744073709551616).toNat)
     split <;> simp <;> omega
end Go.Proofs.YtknkfimpflodeaaGreatDoor.P
