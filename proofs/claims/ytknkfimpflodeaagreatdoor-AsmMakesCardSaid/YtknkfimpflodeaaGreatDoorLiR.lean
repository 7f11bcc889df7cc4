/- The document's Li comes to the same instructions; instructions that are the same. No walk. -/
import Derived.Test.YtknkfimpflodeaaGreatDoorLiP
import Derived.Test.YtknkfimpflodeaaGreatDoorGI
import Derived.Test.YtknkfimpflodeaaGreatDoorGX
namespace Go.Proofs.YtknkfimpflodeaaGreatDoor.P
open Go.RowKit Go.Proofs.YtknkfimpflodeaaGreatDoorW.PrintWords Go.Proofs.YtknkfimpflodeaaGreatDoorW.PrintLast Go.Proofs.YtknkfimpflodeaaGreatDoorW.PrintMore
set_option linter.unusedVariables false
/-- an instruction as the printed functions have it -/
def toS (i : Ins) : S23 := ⟨i.1, i.2.1, i.2.2.1, i.2.2.2.1, i.2.2.2.2.1, i.2.2.2.2.2.1, i.2.2.2.2.2.2.1, i.2.2.2.2.2.2.2⟩
theorem rlow_at (n : Int) (h0 : -9223372036854775808 ≤ n) (h1 : n ≤ 9223372036854775807) : mezzanineref10_Low.f n = some (lowS n) := by
 unfold mezzanineref10_Low.f
 have e : Go.bits .and .i64 n 4095 = n % 4096 := and_i64 12 (by decide) n
 rw [e]
 unfold lowS wrap64
 by_cases h : n % 4096 ≥ 2048
 ·rw [if_pos h]; congr 1; omega
 ·rw [if_neg h]; congr 1; omega
/-- the noughts are counted off -/
theorem rli_noughts (rd low : Int) (l : List S23) (K : Nat) (t : Int) : ∀ (z : Nat) (m c : Int), m = 2 ^ z * (2 * t + 1) → 0 ≤ c → c + z ≤ 1000 →
  mezzanineref10_Li.l0 (z + (K + 1)) rd l low m c = mezzanineref10_Li.l0 (K + 1) rd l low (2 * t + 1) (c + z)
 | 0, m, c, hm, h0, h1 => by
  rw [show (0 : Nat) + (K + 1) = K + 1 by omega, hm]
  simp
 | z + 1, m, c, hm, h0, h1 => by
  have e : Go.bits .and .i64 m 1 = m % 2 := by
   have := and_i64 1 (by decide) m
   simpa using this
  have hm2 : m = 2 * (2 ^ z * (2 * t + 1)) := by rw [hm, Int.pow_succ']; rw [Int.mul_assoc]
  rw [show z + 1 + (K + 1) = (z + (K + 1)) + 1 by omega, mezzanineref10_Li.l0, e, if_pos (by omega), show m / 2 = 2 ^ z * (2 * t + 1) by omega, show wrap64 (c + 1) = c + 1 by unfold wrap64; omega]
  rw [rli_noughts rd low l K t z _ (c + 1) rfl (by omega) (by omega)]
  congr 1
  omega
theorem rli_at : ∀ (k : Nat) (rd n : Int), fitP k n → 1 ≤ k → k ≤ 1000 → mezzanineref10_Li.f (100 * k) rd n = some ((liS k rd n).map toS)
 | 0, rd, n, hP, hk, _ => by omega
 | k + 1, rd, n, hP, hk, hkk => by
  obtain ⟨⟨n0, n1⟩, -, -⟩ := id hP
  obtain ⟨l0, l1, l2⟩ := low_range n
  rw [show 100 * (k + 1) = (100 * k + 96) + 1 + 1 + 1 + 1 by omega, mezzanineref10_Li.f]
  unfold liS
  by_cases h1 : rd < 0
  ·rw [if_pos h1, if_pos (.inl h1), mezzanineref10_Li.j0, if_pos rfl]
   rfl
  rw [if_neg h1, mezzanineref10_Li.j0]
  by_cases h2 : rd > 31
  ·rw [if_pos (decide_eq_true h2), if_pos (.inr h2)]
   rfl
  rw [if_neg (show ¬ decide (rd > 31) = true by simpa using h2), if_neg (show ¬ (rd < 0 ∨ rd > 31) by omega)]
  by_cases h3 : -2048 ≤ n ∧ n ≤ 2047
  ·rw [if_pos h3.1, if_pos h3, mezzanineref10_Li.j1, if_pos (decide_eq_true h3.2), if_pos (by simp)]
   rfl
  rw [if_neg h3]
  have e1 : (if n ≥ -2048 then mezzanineref10_Li.j1 (100 * k + 96 + 1 + 1) rd n [] (decide (n ≤ 2047)) else mezzanineref10_Li.j1 (100 * k + 96 + 1 + 1) rd n [] false) = mezzanineref10_Li.j1 (100 * k + 96 + 1 + 1) rd n [] false := by
   by_cases h : n ≥ -2048
   ·rw [if_pos h, decide_eq_false (by omega)]
   ·rw [if_neg h]
  rw [e1, mezzanineref10_Li.j1, if_neg (by decide), rlow_at n n0 n1, Option.bind_some]
  by_cases h4 : n = i32S n
  ·have hb := (i32_iff n).1 h4
   rw [if_pos hb.1, if_pos h4, decide_eq_true (by omega), mezzanineref10_Li.j2, if_pos rfl]
   by_cases h5 : wrap64 (n - lowS n) = 2147483648
   ·have h6 : i32S (n - lowS n) = -2147483648 := by unfold wrap64 at h5; unfold i32S; omega
    rw [if_pos h5, if_pos (by simp), Option.bind_some, h6]
    by_cases h7 : lowS n = 0
    ·rw [if_pos h7, if_pos h7]; rfl
    ·rw [if_neg h7, if_neg h7, if_pos (by simp)]; rfl
   ·have h6 : i32S (n - lowS n) = wrap64 (n - lowS n) := by unfold wrap64 at h5 ⊢; unfold i32S; omega
    rw [if_neg h5, if_pos (by simp), Option.bind_some, h6]
    by_cases h7 : lowS n = 0
    ·rw [if_pos h7, if_pos h7]; rfl
    ·rw [if_neg h7, if_neg h7, if_pos (by simp)]; rfl
  ·have hb : ¬ (-2147483648 ≤ n ∧ n ≤ 2147483647) := fun h => h4 ((i32_iff n).2 h)
   obtain ⟨z1, z2, hq⟩ := li_step k n hP hb
   have hk1 : 1 ≤ k := by
    rcases Nat.eq_zero_or_pos k with h | h
    ·subst h
     obtain ⟨-, b0, b1⟩ := hP
     rw [show 12 * (0 + 1) + 19 = 31 by omega, show (2 : Int) ^ 31 = 2147483648 from rfl] at b0 b1
     omega
    ·exact h
   have m0 : -9223372036854775808 ≤ wrap64 (n - lowS n) := by unfold wrap64; omega
   have m1 : wrap64 (n - lowS n) ≤ 9223372036854775807 := by unfold wrap64; omega
   have m3 : wrap64 (n - lowS n) ≠ 0 := by unfold wrap64; omega
   have e2 : (if n ≥ -2147483648 then mezzanineref10_Li.j2 (100 * k + 96 + 1) rd [] (lowS n) (wrap64 (n - lowS n)) (decide (n < 2147483648)) else mezzanineref10_Li.j2 (100 * k + 96 + 1) rd [] (lowS n) (wrap64 (n - lowS n)) false) = mezzanineref10_Li.j2 (100 * k + 96 + 1) rd [] (lowS n) (wrap64 (n - lowS n)) false := by
    by_cases h : n ≥ -2147483648
    ·rw [if_pos h, decide_eq_false (by omega)]
    ·rw [if_neg h]
   rw [e2, if_neg h4, mezzanineref10_Li.j2, if_neg (by decide)]
   generalize wrap64 (n - lowS n) = m at z1 z2 hq m0 m1 m3 ⊢
   obtain ⟨t, ht, -⟩ := ctz_odd m m0 m1 m3
   generalize Lib.ctz 64 (m % 18446744073709551616).toNat = z at z1 z2 hq ht ⊢
   have hZ : (0 : Int) < 2 ^ z := by exact_mod_cast Nat.two_pow_pos z
   have hqe : m / 2 ^ z = 2 * t + 1 := by
    conv => lhs; rw [ht]
    exact Int.mul_ediv_cancel_left _ (by omega)
   rw [hqe] at hq ⊢
   have ih := rli_at k rd (2 * t + 1) hq hk1 (by omega)
   have ihL := at_rounds (fun k => mezzanineref10_Li.mono rd (2 * t + 1) k) (show 100 * k ≤ 100 * k + 95 - z by omega) ih
   rw [show 100 * k + 96 = z + ((100 * k + 95 - z) + 1) by omega, rli_noughts rd (lowS n) [] (100 * k + 95 - z) t z m 0 ht (by omega) (by omega), mezzanineref10_Li.l0]
   have e3 : Go.bits .and .i64 (2 * t + 1) 1 = (2 * t + 1) % 2 := by
    have := and_i64 1 (by decide) (2 * t + 1)
    simpa using this
   have hlen := li_len k rd (2 * t + 1)
   have hl2 : ((liS k rd (2 * t + 1)).map toS).length < 2513169434916 - 10 := by
    rw [List.length_map]
    omega
   rw [e3, if_neg (by omega), ihL, Option.bind_some, if_pos (by simp only [List.length_nil]; omega), Option.bind_some, List.nil_append, if_pos (by omega), Option.bind_some, show (0 : Int) + (z : Int) = (z : Int) by omega]
   by_cases h7 : lowS n = 0
   ·rw [if_pos h7, if_pos h7, List.map_append]; rfl
   ·rw [if_neg h7, if_neg h7, if_pos (by rw [List.length_append]; simp only [List.length_singleton]; omega), List.map_append, List.append_assoc]; rfl
end Go.Proofs.YtknkfimpflodeaaGreatDoor.P
