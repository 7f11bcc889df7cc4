/- The bits of an instruction, one after the other: their sum is its word. No program. -/
import Derived.Test.YtknkfimpflodeaaGreatDoorThere
namespace Go.Proofs.YtknkfimpflodeaaGreatDoor.P
open Go.RowKit
theorem or_range (x y : Int) (x0 : 0 ≤ x) (x1 : x < 4294967296) (y0 : 0 ≤ y) (y1 : y < 4294967296) : 0 ≤ Go.bits .or .u32 x y ∧ Go.bits .or .u32 x y < 4294967296 := by
 obtain ⟨a, rfl⟩ := Int.eq_ofNat_of_zero_le x0
 obtain ⟨b, rfl⟩ := Int.eq_ofNat_of_zero_le y0
 rw [u32_or_nat a b (by omega) (by omega)]
 have : a ||| b < 2 ^ 32 := Nat.or_lt_two_pow (by omega) (by omega)
 omega
theorem or_at (p n : Nat) (x y P : Int) (hc : P = 2 ^ p) (hpn : p + n ≤ 32) (x0 : 0 ≤ x) (x1 : x < 4294967296) (y0 : 0 ≤ y) (y1 : y < 2 ^ n) (hx : x / 2 ^ p % 2 ^ n = 0) : Go.bits .or .u32 x (y * P) = x + y * P := by
 subst hc; exact or_u32 p n x y x0 x1 hpn y0 y1 hx
theorem or_nought (x : Int) (x0 : 0 ≤ x) (x1 : x < 4294967296) : Go.bits .or .u32 x 0 = x := by
 have := or_at 0 0 x 0 1 (by decide) (by decide) x0 x1 (by decide) (by decide) (by simp [Int.emod_one])
 simpa using this
theorem nil0 (x P : Int) (x0 : 0 ≤ x) (x1 : x < 4294967296) : Go.bits .or .u32 x (0 * P) = x + 0 * P := by
 rw [Int.zero_mul, Int.add_zero]; exact or_nought x x0 x1
theorem or_more (p n : Nat) (x z y P : Int) (hc : P = 2 ^ p) (hz : Go.bits .or .u32 x z = x + z) (hpn : p + n ≤ 32) (x0 : 0 ≤ x) (z0 : 0 ≤ z) (x1 : x + z < 4294967296) (y0 : 0 ≤ y) (y1 : y < 2 ^ n) (hc1 : z + y * P < 4294967296)
  (h1 : z / 2 ^ p % 2 ^ n = 0) (h2 : (x + z) / 2 ^ p % 2 ^ n = 0) : Go.bits .or .u32 x (z + y * P) = x + (z + y * P) := by
 have e1 := or_at p n z y P hc hpn z0 (by omega) y0 y1 h1
 have e2 := or_at p n (x + z) y P hc hpn (by omega) x1 y0 y1 h2
 have c0 : 0 ≤ y * P := by rw [hc]; exact Int.mul_nonneg y0 (Int.le_of_lt (by exact_mod_cast Nat.two_pow_pos p))
 generalize y * P = c at *
 rw [show x + (z + c) = x + z + c by omega, ← e2, ← hz, ← e1]
 obtain ⟨X, rfl⟩ := Int.eq_ofNat_of_zero_le x0
 obtain ⟨Z, rfl⟩ := Int.eq_ofNat_of_zero_le z0
 obtain ⟨C, rfl⟩ := Int.eq_ofNat_of_zero_le c0
 have q1 : X ||| Z < 2 ^ 32 := Nat.or_lt_two_pow (by omega) (by omega)
 have q2 : Z ||| C < 2 ^ 32 := Nat.or_lt_two_pow (by omega) (by omega)
 rw [u32_or_nat Z C (by omega) (by omega), u32_or_nat X Z (by omega) (by omega), u32_or_nat X (Z ||| C) (by omega) (by omega), u32_or_nat (X ||| Z) C (by omega) (by omega), Nat.or_assoc]
/-- the parts of a word, and the bits that each adds -/
def chainS (fm m rd a b imm csr : Int) (aq rl : Bool) : Prop :=
 Go.bits .or .u32 m (rd * 128) = m + rd * 128 ∧ Go.bits .or .u32 (m + rd * 128) (a * 32768) = m + rd * 128 + a * 32768 ∧
 Go.bits .or .u32 (m + rd * 128 + a * 32768) (b * 1048576) = m + rd * 128 + a * 32768 + b * 1048576 ∧
 Go.bits .or .u32 (m + rd * 128 + a * 32768 + b * 1048576) (csr * 1048576) = m + rd * 128 + a * 32768 + b * 1048576 + csr * 1048576 ∧
 Go.bits .or .u32 (m + rd * 128 + a * 32768 + b * 1048576 + csr * 1048576) (b01 aq * 67108864) = m + rd * 128 + a * 32768 + b * 1048576 + csr * 1048576 + b01 aq * 67108864 ∧
 Go.bits .or .u32 (m + rd * 128 + a * 32768 + b * 1048576 + csr * 1048576 + b01 aq * 67108864) (b01 rl * 33554432) = m + rd * 128 + a * 32768 + b * 1048576 + csr * 1048576 + b01 aq * 67108864 + b01 rl * 33554432 ∧
 Go.bits .or .u32 (m + rd * 128 + a * 32768 + b * 1048576 + csr * 1048576 + b01 aq * 67108864 + b01 rl * 33554432) (putS (nF fm) imm) = wordS fm m rd a b imm csr aq rl
theorem put_pos (f n : Int) : 0 ≤ putS f n := by
 unfold putS
 repeat' split
 all_goals omega
theorem put_lt (f n : Int) : putS f n < 4294967296 := by
 unfold putS
 repeat' split
 all_goals omega
theorem chain_bound (fm m rd a b imm csr : Int) (aq rl : Bool) (h1 : 1 ≤ fm) (h2 : fm ≤ 15) (m0 : 0 ≤ m) (m1 : m < 4294967296) (hm : andF fm m = m) (hr : rightS fm rd a b imm csr aq rl = true) :
  m + rd * 128 + a * 32768 + b * 1048576 + csr * 1048576 + b01 aq * 67108864 + b01 rl * 33554432 + putS (nF fm) imm < 4294967296 := (word_there fm m 1 rd a b imm csr aq rl h1 h2 m0 m1 hm hr).2.1
set_option maxHeartbeats 4000000 in
set_option maxRecDepth 100000 in
theorem chain_1 (m rd a b imm csr : Int) (aq rl : Bool) (m0 : 0 ≤ m) (m1 : m < 4294967296) (hm : andF 1 m = m) (hr : rightS 1 rd a b imm csr aq rl = true) : chainS 1 m rd a b imm csr aq rl := by
 have hlt := chain_bound 1 m rd a b imm csr aq rl (by decide) (by decide) m0 m1 hm hr
 have hp0 := put_pos (nF 1) imm
 obtain ⟨hb, hd, ha, hbb, hc, ho, hi⟩ := rightS_parts hr
 clear hr; have q1 := b01_range aq
 have q2 := b01_range rl
 obtain rfl := ha rfl
 obtain rfl := hbb rfl
 obtain rfl := hc rfl
 obtain ⟨rfl, rfl⟩ := ho rfl
 obtain ⟨p, p0, p1, hp, -⟩ := fit_four imm (by simpa [immB, nF] using hi)
 unfold chainS wordS
 simp only [show b01 false = 0 from rfl, show nF 1 = 4 from rfl, hp] at hlt hp0 ⊢
 clear hi hd ha hbb hc ho; simp only [andF] at hm
 simp at hm
 exact ⟨or_at 7 5 _ _ _ (by decide) (by decide) (by omega) (by omega) (by omega) (by omega) (by omega), nil0 _ _ (by omega) (by omega), nil0 _ _ (by omega) (by omega), nil0 _ _ (by omega) (by omega), nil0 _ _ (by omega) (by omega), nil0 _ _ (by omega) (by omega), or_at 12 20 _ _ _ (by decide) (by decide) (by omega) (by omega) (by omega) (by omega) (by omega)⟩
set_option maxHeartbeats 4000000 in
set_option maxRecDepth 100000 in
theorem chain_2 (m rd a b imm csr : Int) (aq rl : Bool) (m0 : 0 ≤ m) (m1 : m < 4294967296) (hm : andF 2 m = m) (hr : rightS 2 rd a b imm csr aq rl = true) : chainS 2 m rd a b imm csr aq rl := by
 have hlt := chain_bound 2 m rd a b imm csr aq rl (by decide) (by decide) m0 m1 hm hr
 have hp0 := put_pos (nF 2) imm
 obtain ⟨hb, hd, ha, hbb, hc, ho, hi⟩ := rightS_parts hr
 clear hr; have q1 := b01_range aq
 have q2 := b01_range rl
 obtain rfl := ha rfl
 obtain rfl := hbb rfl
 obtain rfl := hc rfl
 obtain ⟨rfl, rfl⟩ := ho rfl
 obtain ⟨p, q, r, s, p0, p1, q0, q1', r0, r1, s0, s1, hp, -⟩ := fit_five imm (by simpa [immB, nF] using hi)
 unfold chainS wordS
 simp only [show b01 false = 0 from rfl, show nF 2 = 5 from rfl, hp] at hlt hp0 ⊢
 clear hi hd ha hbb hc ho; simp only [andF] at hm
 simp at hm
 exact ⟨or_at 7 5 _ _ _ (by decide) (by decide) (by omega) (by omega) (by omega) (by omega) (by omega), nil0 _ _ (by omega) (by omega), nil0 _ _ (by omega) (by omega), nil0 _ _ (by omega) (by omega), nil0 _ _ (by omega) (by omega), nil0 _ _ (by omega) (by omega), or_more 31 1 _ _ _ _ (by decide) (or_more 12 8 _ _ _ _ (by decide) (or_more 20 1 _ _ _ _ (by decide) (or_at 21 10 _ _ _ (by decide) (by decide) (by omega) (by omega) (by omega) (by omega) (by omega)) (by decide) (by omega) (by omega) (by omega) (by omega) (by omega) (by omega) (by omega) (by omega)) (by decide) (by omega) (by omega) (by omega) (by omega) (by omega) (by omega) (by omega) (by omega)) (by decide) (by omega) (by omega) (by omega) (by omega) (by omega) (by omega) (by omega) (by omega)⟩
set_option maxHeartbeats 4000000 in
set_option maxRecDepth 100000 in
theorem chain_3 (m rd a b imm csr : Int) (aq rl : Bool) (m0 : 0 ≤ m) (m1 : m < 4294967296) (hm : andF 3 m = m) (hr : rightS 3 rd a b imm csr aq rl = true) : chainS 3 m rd a b imm csr aq rl := by
 have hlt := chain_bound 3 m rd a b imm csr aq rl (by decide) (by decide) m0 m1 hm hr
 have hp0 := put_pos (nF 3) imm
 obtain ⟨hb, hd, ha, hbb, hc, ho, hi⟩ := rightS_parts hr
 clear hr; have q1 := b01_range aq
 have q2 := b01_range rl
 obtain rfl := hbb rfl
 obtain rfl := hc rfl
 obtain ⟨rfl, rfl⟩ := ho rfl
 obtain ⟨p, p0, p1, hp, -⟩ := fit_one imm (by simpa [immB, nF] using hi)
 unfold chainS wordS
 simp only [show b01 false = 0 from rfl, show nF 3 = 1 from rfl, hp] at hlt hp0 ⊢
 clear hi hd ha hbb hc ho; simp only [andF] at hm
 simp at hm
 exact ⟨or_at 7 5 _ _ _ (by decide) (by decide) (by omega) (by omega) (by omega) (by omega) (by omega), or_at 15 5 _ _ _ (by decide) (by decide) (by omega) (by omega) (by omega) (by omega) (by omega), nil0 _ _ (by omega) (by omega), nil0 _ _ (by omega) (by omega), nil0 _ _ (by omega) (by omega), nil0 _ _ (by omega) (by omega), or_at 20 12 _ _ _ (by decide) (by decide) (by omega) (by omega) (by omega) (by omega) (by omega)⟩
set_option maxHeartbeats 4000000 in
set_option maxRecDepth 100000 in
theorem chain_4 (m rd a b imm csr : Int) (aq rl : Bool) (m0 : 0 ≤ m) (m1 : m < 4294967296) (hm : andF 4 m = m) (hr : rightS 4 rd a b imm csr aq rl = true) : chainS 4 m rd a b imm csr aq rl := by
 have hlt := chain_bound 4 m rd a b imm csr aq rl (by decide) (by decide) m0 m1 hm hr
 have hp0 := put_pos (nF 4) imm
 obtain ⟨hb, hd, ha, hbb, hc, ho, hi⟩ := rightS_parts hr
 clear hr; have q1 := b01_range aq
 have q2 := b01_range rl
 obtain rfl := hd rfl
 obtain rfl := hc rfl
 obtain ⟨rfl, rfl⟩ := ho rfl
 obtain ⟨p, q, r, s, p0, p1, q0, q1', r0, r1, s0, s1, hp, -⟩ := fit_three imm (by simpa [immB, nF] using hi)
 unfold chainS wordS
 simp only [show b01 false = 0 from rfl, show nF 4 = 3 from rfl, hp] at hlt hp0 ⊢
 clear hi hd ha hbb hc ho; simp only [andF] at hm
 simp at hm
 exact ⟨nil0 _ _ (by omega) (by omega), or_at 15 5 _ _ _ (by decide) (by decide) (by omega) (by omega) (by omega) (by omega) (by omega), or_at 20 5 _ _ _ (by decide) (by decide) (by omega) (by omega) (by omega) (by omega) (by omega), nil0 _ _ (by omega) (by omega), nil0 _ _ (by omega) (by omega), nil0 _ _ (by omega) (by omega), or_more 31 1 _ _ _ _ (by decide) (or_more 7 1 _ _ _ _ (by decide) (or_more 25 6 _ _ _ _ (by decide) (or_at 8 4 _ _ _ (by decide) (by decide) (by omega) (by omega) (by omega) (by omega) (by omega)) (by decide) (by omega) (by omega) (by omega) (by omega) (by omega) (by omega) (by omega) (by omega)) (by decide) (by omega) (by omega) (by omega) (by omega) (by omega) (by omega) (by omega) (by omega)) (by decide) (by omega) (by omega) (by omega) (by omega) (by omega) (by omega) (by omega) (by omega)⟩
set_option maxHeartbeats 4000000 in
set_option maxRecDepth 100000 in
theorem chain_5 (m rd a b imm csr : Int) (aq rl : Bool) (m0 : 0 ≤ m) (m1 : m < 4294967296) (hm : andF 5 m = m) (hr : rightS 5 rd a b imm csr aq rl = true) : chainS 5 m rd a b imm csr aq rl := by
 have hlt := chain_bound 5 m rd a b imm csr aq rl (by decide) (by decide) m0 m1 hm hr
 have hp0 := put_pos (nF 5) imm
 obtain ⟨hb, hd, ha, hbb, hc, ho, hi⟩ := rightS_parts hr
 clear hr; have q1 := b01_range aq
 have q2 := b01_range rl
 obtain rfl := hd rfl
 obtain rfl := hc rfl
 obtain ⟨rfl, rfl⟩ := ho rfl
 obtain ⟨p, q, p0, p1, q0, q1', hp, -⟩ := fit_two imm (by simpa [immB, nF] using hi)
 unfold chainS wordS
 simp only [show b01 false = 0 from rfl, show nF 5 = 2 from rfl, hp] at hlt hp0 ⊢
 clear hi hd ha hbb hc ho; simp only [andF] at hm
 simp at hm
 exact ⟨nil0 _ _ (by omega) (by omega), or_at 15 5 _ _ _ (by decide) (by decide) (by omega) (by omega) (by omega) (by omega) (by omega), or_at 20 5 _ _ _ (by decide) (by decide) (by omega) (by omega) (by omega) (by omega) (by omega), nil0 _ _ (by omega) (by omega), nil0 _ _ (by omega) (by omega), nil0 _ _ (by omega) (by omega), or_more 25 7 _ _ _ _ (by decide) (or_at 7 5 _ _ _ (by decide) (by decide) (by omega) (by omega) (by omega) (by omega) (by omega)) (by decide) (by omega) (by omega) (by omega) (by omega) (by omega) (by omega) (by omega) (by omega)⟩
set_option maxHeartbeats 4000000 in
set_option maxRecDepth 100000 in
theorem chain_6 (m rd a b imm csr : Int) (aq rl : Bool) (m0 : 0 ≤ m) (m1 : m < 4294967296) (hm : andF 6 m = m) (hr : rightS 6 rd a b imm csr aq rl = true) : chainS 6 m rd a b imm csr aq rl := by
 have hlt := chain_bound 6 m rd a b imm csr aq rl (by decide) (by decide) m0 m1 hm hr
 have hp0 := put_pos (nF 6) imm
 obtain ⟨hb, hd, ha, hbb, hc, ho, hi⟩ := rightS_parts hr
 clear hr; have q1 := b01_range aq
 have q2 := b01_range rl
 obtain rfl := hbb rfl
 obtain rfl := hc rfl
 obtain ⟨rfl, rfl⟩ := ho rfl
 obtain ⟨p, p0, p1, hp⟩ : ∃ p, 0 ≤ p ∧ p < 64 ∧ putS 6 imm = p * 1048576 := ⟨imm % 64, by omega, by omega, by simp [putS]⟩
 unfold chainS wordS
 simp only [show b01 false = 0 from rfl, show nF 6 = 6 from rfl, hp] at hlt hp0 ⊢
 clear hi hd ha hbb hc ho; simp only [andF] at hm
 simp at hm
 exact ⟨or_at 7 5 _ _ _ (by decide) (by decide) (by omega) (by omega) (by omega) (by omega) (by omega), or_at 15 5 _ _ _ (by decide) (by decide) (by omega) (by omega) (by omega) (by omega) (by omega), nil0 _ _ (by omega) (by omega), nil0 _ _ (by omega) (by omega), nil0 _ _ (by omega) (by omega), nil0 _ _ (by omega) (by omega), or_at 20 6 _ _ _ (by decide) (by decide) (by omega) (by omega) (by omega) (by omega) (by omega)⟩
set_option maxHeartbeats 4000000 in
set_option maxRecDepth 100000 in
theorem chain_7 (m rd a b imm csr : Int) (aq rl : Bool) (m0 : 0 ≤ m) (m1 : m < 4294967296) (hm : andF 7 m = m) (hr : rightS 7 rd a b imm csr aq rl = true) : chainS 7 m rd a b imm csr aq rl := by
 have hlt := chain_bound 7 m rd a b imm csr aq rl (by decide) (by decide) m0 m1 hm hr
 have hp0 := put_pos (nF 7) imm
 obtain ⟨hb, hd, ha, hbb, hc, ho, hi⟩ := rightS_parts hr
 clear hr; have q1 := b01_range aq
 have q2 := b01_range rl
 obtain rfl := hbb rfl
 obtain rfl := hc rfl
 obtain ⟨rfl, rfl⟩ := ho rfl
 obtain ⟨p, p0, p1, hp⟩ : ∃ p, 0 ≤ p ∧ p < 32 ∧ putS 7 imm = p * 1048576 := ⟨imm % 32, by omega, by omega, by simp [putS]⟩
 unfold chainS wordS
 simp only [show b01 false = 0 from rfl, show nF 7 = 7 from rfl, hp] at hlt hp0 ⊢
 clear hi hd ha hbb hc ho; simp only [andF] at hm
 simp at hm
 exact ⟨or_at 7 5 _ _ _ (by decide) (by decide) (by omega) (by omega) (by omega) (by omega) (by omega), or_at 15 5 _ _ _ (by decide) (by decide) (by omega) (by omega) (by omega) (by omega) (by omega), nil0 _ _ (by omega) (by omega), nil0 _ _ (by omega) (by omega), nil0 _ _ (by omega) (by omega), nil0 _ _ (by omega) (by omega), or_at 20 5 _ _ _ (by decide) (by decide) (by omega) (by omega) (by omega) (by omega) (by omega)⟩
set_option maxHeartbeats 4000000 in
set_option maxRecDepth 100000 in
theorem chain_8 (m rd a b imm csr : Int) (aq rl : Bool) (m0 : 0 ≤ m) (m1 : m < 4294967296) (hm : andF 8 m = m) (hr : rightS 8 rd a b imm csr aq rl = true) : chainS 8 m rd a b imm csr aq rl := by
 have hlt := chain_bound 8 m rd a b imm csr aq rl (by decide) (by decide) m0 m1 hm hr
 have hp0 := put_pos (nF 8) imm
 obtain ⟨hb, hd, ha, hbb, hc, ho, hi⟩ := rightS_parts hr
 clear hr; have q1 := b01_range aq
 have q2 := b01_range rl
 obtain rfl := hc rfl
 obtain ⟨rfl, rfl⟩ := ho rfl
 obtain rfl : imm = 0 := by simpa [immB, nF] using hi
 unfold chainS wordS
 simp only [show b01 false = 0 from rfl, show nF 8 = 0 from rfl, show putS 0 0 = 0 from rfl] at hlt hp0 ⊢
 clear hi hd ha hbb hc ho; simp only [andF] at hm
 simp at hm
 exact ⟨or_at 7 5 _ _ _ (by decide) (by decide) (by omega) (by omega) (by omega) (by omega) (by omega), or_at 15 5 _ _ _ (by decide) (by decide) (by omega) (by omega) (by omega) (by omega) (by omega), or_at 20 5 _ _ _ (by decide) (by decide) (by omega) (by omega) (by omega) (by omega) (by omega), nil0 _ _ (by omega) (by omega), nil0 _ _ (by omega) (by omega), nil0 _ _ (by omega) (by omega), by (simp only [Int.zero_mul, Int.add_zero]; exact or_nought _ (by omega) (by omega))⟩
set_option maxHeartbeats 4000000 in
set_option maxRecDepth 100000 in
theorem chain_9 (m rd a b imm csr : Int) (aq rl : Bool) (m0 : 0 ≤ m) (m1 : m < 4294967296) (hm : andF 9 m = m) (hr : rightS 9 rd a b imm csr aq rl = true) : chainS 9 m rd a b imm csr aq rl := by
 have hlt := chain_bound 9 m rd a b imm csr aq rl (by decide) (by decide) m0 m1 hm hr
 have hp0 := put_pos (nF 9) imm
 obtain ⟨hb, hd, ha, hbb, hc, ho, hi⟩ := rightS_parts hr
 clear hr; have q1 := b01_range aq
 have q2 := b01_range rl
 obtain rfl := hbb rfl
 obtain rfl := hc rfl
 obtain rfl : imm = 0 := by simpa [immB, nF] using hi
 unfold chainS wordS
 simp only [show nF 9 = 0 from rfl, show putS 0 0 = 0 from rfl] at hlt hp0 ⊢
 clear hi hd ha hbb hc ho; simp only [andF] at hm
 simp at hm
 generalize b01 aq = u at *
 generalize b01 rl = v at *
 exact ⟨or_at 7 5 _ _ _ (by decide) (by decide) (by omega) (by omega) (by omega) (by omega) (by omega), or_at 15 5 _ _ _ (by decide) (by decide) (by omega) (by omega) (by omega) (by omega) (by omega), nil0 _ _ (by omega) (by omega), nil0 _ _ (by omega) (by omega), or_at 26 1 _ _ _ (by decide) (by decide) (by omega) (by omega) (by omega) (by omega) (by omega), or_at 25 1 _ _ _ (by decide) (by decide) (by omega) (by omega) (by omega) (by omega) (by omega), by (simp only [Int.zero_mul, Int.add_zero]; exact or_nought _ (by omega) (by omega))⟩
set_option maxHeartbeats 4000000 in
set_option maxRecDepth 100000 in
theorem chain_10 (m rd a b imm csr : Int) (aq rl : Bool) (m0 : 0 ≤ m) (m1 : m < 4294967296) (hm : andF 10 m = m) (hr : rightS 10 rd a b imm csr aq rl = true) : chainS 10 m rd a b imm csr aq rl := by
 have hlt := chain_bound 10 m rd a b imm csr aq rl (by decide) (by decide) m0 m1 hm hr
 have hp0 := put_pos (nF 10) imm
 obtain ⟨hb, hd, ha, hbb, hc, ho, hi⟩ := rightS_parts hr
 clear hr; have q1 := b01_range aq
 have q2 := b01_range rl
 obtain rfl := hc rfl
 obtain rfl : imm = 0 := by simpa [immB, nF] using hi
 unfold chainS wordS
 simp only [show nF 10 = 0 from rfl, show putS 0 0 = 0 from rfl] at hlt hp0 ⊢
 clear hi hd ha hbb hc ho; simp only [andF] at hm
 simp at hm
 generalize b01 aq = u at *
 generalize b01 rl = v at *
 exact ⟨or_at 7 5 _ _ _ (by decide) (by decide) (by omega) (by omega) (by omega) (by omega) (by omega), or_at 15 5 _ _ _ (by decide) (by decide) (by omega) (by omega) (by omega) (by omega) (by omega), or_at 20 5 _ _ _ (by decide) (by decide) (by omega) (by omega) (by omega) (by omega) (by omega), nil0 _ _ (by omega) (by omega), or_at 26 1 _ _ _ (by decide) (by decide) (by omega) (by omega) (by omega) (by omega) (by omega), or_at 25 1 _ _ _ (by decide) (by decide) (by omega) (by omega) (by omega) (by omega) (by omega), by (simp only [Int.zero_mul, Int.add_zero]; exact or_nought _ (by omega) (by omega))⟩
set_option maxHeartbeats 4000000 in
set_option maxRecDepth 100000 in
theorem chain_11 (m rd a b imm csr : Int) (aq rl : Bool) (m0 : 0 ≤ m) (m1 : m < 4294967296) (hm : andF 11 m = m) (hr : rightS 11 rd a b imm csr aq rl = true) : chainS 11 m rd a b imm csr aq rl := by
 have hlt := chain_bound 11 m rd a b imm csr aq rl (by decide) (by decide) m0 m1 hm hr
 have hp0 := put_pos (nF 11) imm
 obtain ⟨hb, hd, ha, hbb, hc, ho, hi⟩ := rightS_parts hr
 clear hr; have q1 := b01_range aq
 have q2 := b01_range rl
 obtain rfl := hd rfl
 obtain rfl := ha rfl
 obtain rfl := hbb rfl
 obtain rfl := hc rfl
 obtain ⟨rfl, rfl⟩ := ho rfl
 obtain rfl : imm = 0 := by simpa [immB, nF] using hi
 unfold chainS wordS
 simp only [show b01 false = 0 from rfl, show nF 11 = 0 from rfl, show putS 0 0 = 0 from rfl] at hlt hp0 ⊢
 clear hi hd ha hbb hc ho; simp only [andF] at hm
 simp at hm
 exact ⟨nil0 _ _ (by omega) (by omega), nil0 _ _ (by omega) (by omega), nil0 _ _ (by omega) (by omega), nil0 _ _ (by omega) (by omega), nil0 _ _ (by omega) (by omega), nil0 _ _ (by omega) (by omega), by (simp only [Int.zero_mul, Int.add_zero]; exact or_nought _ (by omega) (by omega))⟩
set_option maxHeartbeats 4000000 in
set_option maxRecDepth 100000 in
theorem chain_12 (m rd a b imm csr : Int) (aq rl : Bool) (m0 : 0 ≤ m) (m1 : m < 4294967296) (hm : andF 12 m = m) (hr : rightS 12 rd a b imm csr aq rl = true) : chainS 12 m rd a b imm csr aq rl := by
 have hlt := chain_bound 12 m rd a b imm csr aq rl (by decide) (by decide) m0 m1 hm hr
 have hp0 := put_pos (nF 12) imm
 obtain ⟨hb, hd, ha, hbb, hc, ho, hi⟩ := rightS_parts hr
 clear hr; have q1 := b01_range aq
 have q2 := b01_range rl
 obtain rfl := hd rfl
 obtain rfl := hc rfl
 obtain ⟨rfl, rfl⟩ := ho rfl
 obtain rfl : imm = 0 := by simpa [immB, nF] using hi
 unfold chainS wordS
 simp only [show b01 false = 0 from rfl, show nF 12 = 0 from rfl, show putS 0 0 = 0 from rfl] at hlt hp0 ⊢
 clear hi hd ha hbb hc ho; simp only [andF] at hm
 simp at hm
 exact ⟨nil0 _ _ (by omega) (by omega), or_at 15 5 _ _ _ (by decide) (by decide) (by omega) (by omega) (by omega) (by omega) (by omega), or_at 20 5 _ _ _ (by decide) (by decide) (by omega) (by omega) (by omega) (by omega) (by omega), nil0 _ _ (by omega) (by omega), nil0 _ _ (by omega) (by omega), nil0 _ _ (by omega) (by omega), by (simp only [Int.zero_mul, Int.add_zero]; exact or_nought _ (by omega) (by omega))⟩
set_option maxHeartbeats 4000000 in
set_option maxRecDepth 100000 in
theorem chain_13 (m rd a b imm csr : Int) (aq rl : Bool) (m0 : 0 ≤ m) (m1 : m < 4294967296) (hm : andF 13 m = m) (hr : rightS 13 rd a b imm csr aq rl = true) : chainS 13 m rd a b imm csr aq rl := by
 have hlt := chain_bound 13 m rd a b imm csr aq rl (by decide) (by decide) m0 m1 hm hr
 have hp0 := put_pos (nF 13) imm
 obtain ⟨hb, hd, ha, hbb, hc, ho, hi⟩ := rightS_parts hr
 clear hr; have q1 := b01_range aq
 have q2 := b01_range rl
 obtain rfl := hbb rfl
 obtain ⟨rfl, rfl⟩ := ho rfl
 obtain rfl : imm = 0 := by simpa [immB, nF] using hi
 unfold chainS wordS
 simp only [show b01 false = 0 from rfl, show nF 13 = 0 from rfl, show putS 0 0 = 0 from rfl] at hlt hp0 ⊢
 clear hi hd ha hbb hc ho; simp only [andF] at hm
 simp at hm
 exact ⟨or_at 7 5 _ _ _ (by decide) (by decide) (by omega) (by omega) (by omega) (by omega) (by omega), or_at 15 5 _ _ _ (by decide) (by decide) (by omega) (by omega) (by omega) (by omega) (by omega), nil0 _ _ (by omega) (by omega), or_at 20 12 _ _ _ (by decide) (by decide) (by omega) (by omega) (by omega) (by omega) (by omega), nil0 _ _ (by omega) (by omega), nil0 _ _ (by omega) (by omega), by (simp only [Int.zero_mul, Int.add_zero]; exact or_nought _ (by omega) (by omega))⟩
set_option maxHeartbeats 4000000 in
set_option maxRecDepth 100000 in
theorem chain_14 (m rd a b imm csr : Int) (aq rl : Bool) (m0 : 0 ≤ m) (m1 : m < 4294967296) (hm : andF 14 m = m) (hr : rightS 14 rd a b imm csr aq rl = true) : chainS 14 m rd a b imm csr aq rl := by
 have hlt := chain_bound 14 m rd a b imm csr aq rl (by decide) (by decide) m0 m1 hm hr
 have hp0 := put_pos (nF 14) imm
 obtain ⟨hb, hd, ha, hbb, hc, ho, hi⟩ := rightS_parts hr
 clear hr; have q1 := b01_range aq
 have q2 := b01_range rl
 obtain rfl := ha rfl
 obtain rfl := hbb rfl
 obtain ⟨rfl, rfl⟩ := ho rfl
 obtain ⟨p, p0, p1, hp⟩ : ∃ p, 0 ≤ p ∧ p < 32 ∧ putS 9 imm = p * 32768 := ⟨imm % 32, by omega, by omega, by simp [putS]⟩
 unfold chainS wordS
 simp only [show b01 false = 0 from rfl, show nF 14 = 9 from rfl, hp] at hlt hp0 ⊢
 clear hi hd ha hbb hc ho; simp only [andF] at hm
 simp at hm
 exact ⟨or_at 7 5 _ _ _ (by decide) (by decide) (by omega) (by omega) (by omega) (by omega) (by omega), nil0 _ _ (by omega) (by omega), nil0 _ _ (by omega) (by omega), or_at 20 12 _ _ _ (by decide) (by decide) (by omega) (by omega) (by omega) (by omega) (by omega), nil0 _ _ (by omega) (by omega), nil0 _ _ (by omega) (by omega), or_at 15 5 _ _ _ (by decide) (by decide) (by omega) (by omega) (by omega) (by omega) (by omega)⟩
set_option maxHeartbeats 4000000 in
set_option maxRecDepth 100000 in
theorem chain_15 (m rd a b imm csr : Int) (aq rl : Bool) (m0 : 0 ≤ m) (m1 : m < 4294967296) (hm : andF 15 m = m) (hr : rightS 15 rd a b imm csr aq rl = true) : chainS 15 m rd a b imm csr aq rl := by
 have hlt := chain_bound 15 m rd a b imm csr aq rl (by decide) (by decide) m0 m1 hm hr
 have hp0 := put_pos (nF 15) imm
 obtain ⟨hb, hd, ha, hbb, hc, ho, hi⟩ := rightS_parts hr
 clear hr; have q1 := b01_range aq
 have q2 := b01_range rl
 obtain rfl := hbb rfl
 obtain rfl := hc rfl
 obtain ⟨rfl, rfl⟩ := ho rfl
 obtain rfl : imm = 0 := by simpa [immB, nF] using hi
 unfold chainS wordS
 simp only [show b01 false = 0 from rfl, show nF 15 = 0 from rfl, show putS 0 0 = 0 from rfl] at hlt hp0 ⊢
 clear hi hd ha hbb hc ho; simp only [andF] at hm
 simp at hm
 exact ⟨or_at 7 5 _ _ _ (by decide) (by decide) (by omega) (by omega) (by omega) (by omega) (by omega), or_at 15 5 _ _ _ (by decide) (by decide) (by omega) (by omega) (by omega) (by omega) (by omega), nil0 _ _ (by omega) (by omega), nil0 _ _ (by omega) (by omega), nil0 _ _ (by omega) (by omega), nil0 _ _ (by omega) (by omega), by (simp only [Int.zero_mul, Int.add_zero]; exact or_nought _ (by omega) (by omega))⟩
theorem chain_at (fm m rd a b imm csr : Int) (aq rl : Bool) (h1 : 1 ≤ fm) (h2 : fm ≤ 15) (m0 : 0 ≤ m) (m1 : m < 4294967296) (hm : andF fm m = m) (hr : rightS fm rd a b imm csr aq rl = true) : chainS fm m rd a b imm csr aq rl := by
 rcases forms fm h1 h2 with rfl | rfl | rfl | rfl | rfl | rfl | rfl | rfl | rfl | rfl | rfl | rfl | rfl | rfl | rfl
 ·exact chain_1 m rd a b imm csr aq rl m0 m1 hm hr
 ·exact chain_2 m rd a b imm csr aq rl m0 m1 hm hr
 ·exact chain_3 m rd a b imm csr aq rl m0 m1 hm hr
 ·exact chain_4 m rd a b imm csr aq rl m0 m1 hm hr
 ·exact chain_5 m rd a b imm csr aq rl m0 m1 hm hr
 ·exact chain_6 m rd a b imm csr aq rl m0 m1 hm hr
 ·exact chain_7 m rd a b imm csr aq rl m0 m1 hm hr
 ·exact chain_8 m rd a b imm csr aq rl m0 m1 hm hr
 ·exact chain_9 m rd a b imm csr aq rl m0 m1 hm hr
 ·exact chain_10 m rd a b imm csr aq rl m0 m1 hm hr
 ·exact chain_11 m rd a b imm csr aq rl m0 m1 hm hr
 ·exact chain_12 m rd a b imm csr aq rl m0 m1 hm hr
 ·exact chain_13 m rd a b imm csr aq rl m0 m1 hm hr
 ·exact chain_14 m rd a b imm csr aq rl m0 m1 hm hr
 ·exact chain_15 m rd a b imm csr aq rl m0 m1 hm hr
end Go.Proofs.YtknkfimpflodeaaGreatDoor.P
