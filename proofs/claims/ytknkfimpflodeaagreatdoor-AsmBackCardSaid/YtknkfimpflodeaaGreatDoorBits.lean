/- Plain facts on bits: and with a run of ones, or of what lies apart, the masks of the table. No program. -/
import Derived.Laws.BitsLemmas
import Derived.Laws.BitsAllLaws
import Derived.RowKit
import Derived.IntWalk
namespace Go.Proofs.YtknkfimpflodeaaGreatDoor.P
open Go.RowKit
theorem nat_and_split (p x m M : Nat) (hm : m < 2 ^ p) : x &&& (2 ^ p * M + m) = 2 ^ p * ((x / 2 ^ p) &&& M) + ((x % 2 ^ p) &&& m) := by
 have h1 := Nat.and_div_two_pow (a := x) (b := 2 ^ p * M + m) (n := p)
 have h2 := Nat.and_mod_two_pow (a := x) (b := 2 ^ p * M + m) (n := p)
 have e1 : (2 ^ p * M + m) / 2 ^ p = M := by rw [Nat.mul_add_div (Nat.two_pow_pos p), Nat.div_eq_of_lt hm, Nat.add_zero]
 have e2 : (2 ^ p * M + m) % 2 ^ p = m := by rw [Nat.mul_add_mod, Nat.mod_eq_of_lt hm]
 rw [e1] at h1
 rw [e2] at h2
 rw [← Nat.div_add_mod (x &&& (2 ^ p * M + m)) (2 ^ p), h1, h2]
theorem nat_or_field (a b p n : Nat) (h : a / 2 ^ p % 2 ^ n = 0) (hb : b < 2 ^ n) : a ||| (b * 2 ^ p) = a + b * 2 ^ p := by
 obtain ⟨q, hq⟩ : ∃ q, a / 2 ^ p = 2 ^ n * q := ⟨a / 2 ^ p / 2 ^ n, by have := Nat.div_add_mod (a / 2 ^ p) (2 ^ n); omega⟩
 have hr : a % 2 ^ p < 2 ^ p := Nat.mod_lt _ (Nat.two_pow_pos p)
 have ha : a = 2 ^ p * (2 ^ n * q) + a % 2 ^ p := by rw [← hq, Nat.div_add_mod]
 have hb2 : 2 ^ p * b + a % 2 ^ p < 2 ^ (p + n) := by
  rw [Nat.pow_add]
  calc 2 ^ p * b + a % 2 ^ p < 2 ^ p * b + 2 ^ p := by omega
   _ = 2 ^ p * (b + 1) := by rw [Nat.mul_add, Nat.mul_one]
   _ ≤ 2 ^ p * 2 ^ n := Nat.mul_le_mul_left _ hb
 have hr2 : a % 2 ^ p < 2 ^ (p + n) := by omega
 have e1 : 2 ^ (p + n) * q + a % 2 ^ p = 2 ^ (p + n) * q ||| a % 2 ^ p := Nat.two_pow_add_eq_or_of_lt hr2 q
 have e2 : 2 ^ p * b + a % 2 ^ p = 2 ^ p * b ||| a % 2 ^ p := Nat.two_pow_add_eq_or_of_lt hr b
 have e3 : 2 ^ (p + n) * q + (2 ^ p * b + a % 2 ^ p) = 2 ^ (p + n) * q ||| (2 ^ p * b + a % 2 ^ p) := Nat.two_pow_add_eq_or_of_lt hb2 q
 have ea : a = 2 ^ (p + n) * q + a % 2 ^ p := by rw [Nat.pow_add, Nat.mul_assoc]; exact ha
 rw [Nat.mul_comm b]
 calc a ||| 2 ^ p * b = (2 ^ (p + n) * q ||| a % 2 ^ p) ||| 2 ^ p * b := by rw [← e1, ← ea]
  _ = 2 ^ (p + n) * q ||| (2 ^ p * b ||| a % 2 ^ p) := by rw [Nat.or_assoc, Nat.or_comm (a % 2 ^ p)]
  _ = 2 ^ (p + n) * q + (2 ^ p * b + a % 2 ^ p) := by rw [← e2, ← e3]
  _ = a + 2 ^ p * b := by omega
theorem and_u32 (i : Nat) (hi : i ≤ 32) (x : Int) (h0 : 0 ≤ x) (h1 : x < 4294967296) : Go.bits .and .u32 x (2 ^ i - 1) = x % 2 ^ i :=
 bits_mask .u32 32 (by decide) (fun n h0 h1 => by rw [IntKind.wrap_u32]; omega) i hi x h0 (by omega)
theorem and_u64 (i : Nat) (hi : i ≤ 64) (x : Int) (h0 : 0 ≤ x) (h1 : x < 18446744073709551616) : Go.bits .and .u64 x (2 ^ i - 1) = x % 2 ^ i :=
 bits_mask .u64 64 (by decide) (fun n h0 h1 => by rw [IntKind.wrap_u64]; omega) i hi x h0 (by omega)
theorem or_u32 (p n : Nat) (x y : Int) (h0 : 0 ≤ x) (h1 : x < 4294967296) (hpn : p + n ≤ 32) (hy0 : 0 ≤ y) (hy : y < 2 ^ n) (hx : x / 2 ^ p % 2 ^ n = 0) : Go.bits .or .u32 x (y * 2 ^ p) = x + y * 2 ^ p := by
 obtain ⟨a, rfl⟩ := Int.eq_ofNat_of_zero_le h0
 obtain ⟨b, rfl⟩ := Int.eq_ofNat_of_zero_le hy0
 have hb : b < 2 ^ n := by exact_mod_cast hy
 have hq : b * 2 ^ p < 4294967296 := by
  calc b * 2 ^ p < 2 ^ n * 2 ^ p := Nat.mul_lt_mul_of_pos_right hb (Nat.two_pow_pos p)
   _ = 2 ^ (p + n) := by rw [← Nat.pow_add, Nat.add_comm]
   _ ≤ 2 ^ 32 := Nat.pow_le_pow_right (by decide) hpn
 have e : ((b : Int) * 2 ^ p) = ((b * 2 ^ p : Nat) : Int) := by simp
 rw [e, u32_or_nat a (b * 2 ^ p) (by omega) hq, nat_or_field a b p n (by exact_mod_cast hx) hb]
 simp
/-- the masks of the forms -/
def maskF (fm : Int) : Int := if fm = 1 ∨ fm = 2 then 127 else if fm = 3 ∨ fm = 4 ∨ fm = 5 ∨ fm = 13 ∨ fm = 14 then 28799 else if fm = 6 then 4227887231 else if fm = 7 ∨ fm = 8 then 4261441663 else if fm = 9 then 4193284223 else if fm = 10 then 4160778367 else if fm = 12 then 4261445631 else if fm = 15 then 4293947519 else 4294967295
/-- what a mask leaves of a word -/
def andF (fm x : Int) : Int := if fm = 1 ∨ fm = 2 then x % 128 else if fm = 3 ∨ fm = 4 ∨ fm = 5 ∨ fm = 13 ∨ fm = 14 then x % 128 + x / 4096 % 8 * 4096 else if fm = 6 then x % 128 + x / 4096 % 8 * 4096 + x / 67108864 * 67108864 else if fm = 7 ∨ fm = 8 then x % 128 + x / 4096 % 8 * 4096 + x / 33554432 * 33554432 else if fm = 9 then x % 128 + x / 4096 % 8 * 4096 + x / 1048576 % 32 * 1048576 + x / 134217728 * 134217728 else if fm = 10 then x % 128 + x / 4096 % 8 * 4096 + x / 134217728 * 134217728 else if fm = 12 then x % 32768 + x / 33554432 * 33554432 else if fm = 15 then x % 128 + x / 4096 % 8 * 4096 + x / 1048576 * 1048576 else x
theorem nat_ones (x k : Nat) (h : x < 2 ^ k) : x &&& (2 ^ k - 1) = x := by rw [Nat.and_two_pow_sub_one_eq_mod, Nat.mod_eq_of_lt h]
theorem nat_127 (x : Nat) : x &&& 127 = x % 128 := Nat.and_two_pow_sub_one_eq_mod x 7
theorem nat_7 (x : Nat) : x &&& 7 = x % 8 := Nat.and_two_pow_sub_one_eq_mod x 3
theorem nat_31 (x : Nat) : x &&& 31 = x % 32 := Nat.and_two_pow_sub_one_eq_mod x 5
theorem nat_28799 (x : Nat) : x &&& 28799 = x % 128 + x / 4096 % 8 * 4096 := by
 have h := nat_and_split 12 x 127 7 (by decide)
 rw [nat_7, nat_127] at h
 simp only [Nat.reducePow, Nat.reduceMul, Nat.reduceAdd] at h
 omega
theorem and_maskF (fm x : Int) (h0 : 0 ≤ x) (h1 : x < 4294967296) : Go.bits .and .u32 x (maskF fm) = andF fm x := by
 obtain ⟨a, rfl⟩ := Int.eq_ofNat_of_zero_le h0
 have ha : a < 4294967296 := by omega
 unfold maskF andF
 split
 ·have := u32_and_nat a 127 ha (by decide)
  rw [nat_127] at this
  exact this
 split
 ·have := u32_and_nat a 28799 ha (by decide)
  rw [nat_28799] at this
  refine this.trans ?_
  omega
 split
 ·have := u32_and_nat a 4227887231 ha (by decide)
  have h := nat_and_split 26 a 28799 63 (by decide)
  rw [nat_28799, show (63 : Nat) = 2 ^ 6 - 1 from rfl, nat_ones _ _ (by omega)] at h
  refine this.trans ?_
  simp only [Nat.reducePow, Nat.reduceMul, Nat.reduceAdd, Nat.reduceSub] at h
  omega
 split
 ·have := u32_and_nat a 4261441663 ha (by decide)
  have h := nat_and_split 25 a 28799 127 (by decide)
  rw [nat_28799, show (127 : Nat) = 2 ^ 7 - 1 from rfl, nat_ones _ _ (by omega)] at h
  refine this.trans ?_
  simp only [Nat.reducePow, Nat.reduceMul, Nat.reduceAdd, Nat.reduceSub] at h
  omega
 split
 ·have := u32_and_nat a 4193284223 ha (by decide)
  have h := nat_and_split 27 a 32534655 31 (by decide)
  have h2 := nat_and_split 20 (a % 2 ^ 27) 28799 31 (by decide)
  rw [nat_28799, nat_31] at h2
  rw [show (31 : Nat) = 2 ^ 5 - 1 from rfl, nat_ones _ _ (by omega)] at h
  refine this.trans ?_
  simp only [Nat.reducePow, Nat.reduceMul, Nat.reduceAdd, Nat.reduceSub] at h h2
  omega
 split
 ·have := u32_and_nat a 4160778367 ha (by decide)
  have h := nat_and_split 27 a 28799 31 (by decide)
  rw [nat_28799, show (31 : Nat) = 2 ^ 5 - 1 from rfl, nat_ones _ _ (by omega)] at h
  refine this.trans ?_
  simp only [Nat.reducePow, Nat.reduceMul, Nat.reduceAdd, Nat.reduceSub] at h
  omega
 split
 ·have := u32_and_nat a 4261445631 ha (by decide)
  have h := nat_and_split 25 a 32767 127 (by decide)
  rw [show (32767 : Nat) = 2 ^ 15 - 1 from rfl, Nat.and_two_pow_sub_one_eq_mod, show (127 : Nat) = 2 ^ 7 - 1 from rfl, nat_ones _ _ (by omega)] at h
  refine this.trans ?_
  simp only [Nat.reducePow, Nat.reduceMul, Nat.reduceAdd, Nat.reduceSub] at h
  omega
 split
 ·have := u32_and_nat a 4293947519 ha (by decide)
  have h := nat_and_split 20 a 28799 4095 (by decide)
  rw [nat_28799, show (4095 : Nat) = 2 ^ 12 - 1 from rfl, nat_ones _ _ (by omega)] at h
  refine this.trans ?_
  simp only [Nat.reducePow, Nat.reduceMul, Nat.reduceAdd, Nat.reduceSub] at h
  omega
 ·have := u32_and_nat a 4294967295 ha (by decide)
  have h := nat_ones a 32 (by omega)
  simp only [Nat.reducePow, Nat.reduceSub] at h
  rw [h] at this
  exact this
end Go.Proofs.YtknkfimpflodeaaGreatDoor.P
