/- The word of a right instruction says that instruction. No program. -/
import Derived.Test.YtknkfimpflodeaaGreatDoorSpec
namespace Go.Proofs.YtknkfimpflodeaaGreatDoor.P
open Go.RowKit
set_option linter.unusedVariables false
theorem fit_one (n : Int) (h : fitsS 1 n = true) : ∃ p, 0 ≤ p ∧ p < 4096 ∧ putS 1 n = p * 1048576 ∧ n = sx 2048 p := by
 simp [fitsS] at h
 exact ⟨n % 4096, by omega, by omega, rfl, by unfold sx; split <;> omega⟩
theorem fit_two (n : Int) (h : fitsS 2 n = true) : ∃ p q, 0 ≤ p ∧ p < 128 ∧ 0 ≤ q ∧ q < 32 ∧ putS 2 n = q * 128 + p * 33554432 ∧ n = sx 2048 (p * 32 + q) := by
 simp [fitsS] at h
 exact ⟨n / 32 % 128, n % 32, by omega, by omega, by omega, by omega, rfl, by unfold sx; split <;> omega⟩
theorem fit_three (n : Int) (h : fitsS 3 n = true) : ∃ p q r s, 0 ≤ p ∧ p < 2 ∧ 0 ≤ q ∧ q < 2 ∧ 0 ≤ r ∧ r < 64 ∧ 0 ≤ s ∧ s < 16 ∧ putS 3 n = s * 256 + r * 33554432 + q * 128 + p * 2147483648 ∧ n = sx 4096 ((((p * 2 + q) * 64 + r) * 16 + s) * 2) := by
 simp [fitsS] at h
 exact ⟨n / 4096 % 2, n / 2048 % 2, n / 32 % 64, n / 2 % 16, by omega, by omega, by omega, by omega, by omega, by omega, by omega, by omega, rfl, by unfold sx; split <;> omega⟩
theorem fit_four (n : Int) (h : fitsS 4 n = true) : ∃ p, 0 ≤ p ∧ p < 1048576 ∧ putS 4 n = p * 4096 ∧ n = sx 2147483648 (p * 4096) := by
 simp [fitsS] at h
 exact ⟨n / 4096 % 1048576, by omega, by omega, rfl, by unfold sx; split <;> omega⟩
theorem fit_five (n : Int) (h : fitsS 5 n = true) : ∃ p q r s, 0 ≤ p ∧ p < 2 ∧ 0 ≤ q ∧ q < 256 ∧ 0 ≤ r ∧ r < 2 ∧ 0 ≤ s ∧ s < 1024 ∧ putS 5 n = s * 2097152 + r * 1048576 + q * 4096 + p * 2147483648 ∧ n = sx 1048576 ((((p * 256 + q) * 2 + r) * 1024 + s) * 2) := by
 simp [fitsS] at h
 exact ⟨n / 1048576 % 2, n / 4096 % 256, n / 2048 % 2, n / 2 % 1024, by omega, by omega, by omega, by omega, by omega, by omega, by omega, by omega, rfl, by unfold sx; split <;> omega⟩
theorem sx_eq {m x y : Int} (h : x = y) : sx m x = sx m y := by rw [h]
theorem rightS_parts {fm rd a b imm csr : Int} {aq rl : Bool} (h : rightS fm rd a b imm csr aq rl = true) :
  (0 ≤ rd ∧ rd ≤ 31 ∧ 0 ≤ a ∧ a ≤ 31 ∧ 0 ≤ b ∧ b ≤ 31 ∧ 0 ≤ csr ∧ csr ≤ 4095) ∧ (rdB fm = false → rd = 0) ∧ (aB fm = false → a = 0) ∧ (bB fm = false → b = 0) ∧ (cB fm = false → csr = 0) ∧ (oB fm = false → aq = false ∧ rl = false) ∧ immB fm imm = true := by
 unfold rightS at h
 simp only [Bool.and_eq_true, Bool.or_eq_true, decide_eq_true_eq, Bool.not_eq_true'] at h
 obtain ⟨⟨⟨⟨⟨⟨h1, h2⟩, h3⟩, h4⟩, h5⟩, h6⟩, h7⟩ := h
 refine ⟨h1, ?_, ?_, ?_, ?_, ?_, h7⟩
 ·intro hh; rw [hh] at h2; simpa using h2
 ·intro hh; rw [hh] at h3; simpa using h3
 ·intro hh; rw [hh] at h4; simpa using h4
 ·intro hh; rw [hh] at h5; simpa using h5
 ·intro hh; rw [hh] at h6; simpa using h6
theorem b01_range (b : Bool) : 0 ≤ b01 b ∧ b01 b ≤ 1 := by cases b <;> decide
theorem b01_is (b : Bool) (x : Int) (h : x = b01 b) : decide (x = 1) = b := by subst h; cases b <;> rfl
set_option maxRecDepth 100000 in
set_option maxHeartbeats 4000000 in
theorem there_1 (m op rd a b imm csr : Int) (aq rl : Bool) (m0 : 0 ≤ m) (m1 : m < 4294967296) (hm : andF 1 m = m) (hr : rightS 1 rd a b imm csr aq rl = true) :
  0 ≤ wordS 1 m rd a b imm csr aq rl ∧ wordS 1 m rd a b imm csr aq rl < 4294967296 ∧ andF 1 (wordS 1 m rd a b imm csr aq rl) = m ∧ sayS 1 op (wordS 1 m rd a b imm csr aq rl) = (op, rd, a, b, imm, csr, aq, rl) := by
 obtain ⟨hb, hd, ha, hbb, hc, ho, hi⟩ := rightS_parts hr
 clear hr; have q1 := b01_range aq
 have q2 := b01_range rl
 obtain ⟨p, p0, p1, hp, rfl⟩ := fit_four imm (by simpa [immB, nF] using hi)
 obtain rfl := ha rfl
 obtain rfl := hbb rfl
 obtain rfl := hc rfl
 obtain ⟨rfl, rfl⟩ := ho rfl
 have hw : wordS 1 m rd 0 0 (sx 2147483648 (p * 4096)) 0 false false = m + rd * 128 + p * 4096 := by
  simp only [wordS, show nF 1 = 4 from rfl, hp, show b01 false = 0 from rfl]; omega
 rw [hw]
 simp only [andF, sayS, rdB, aB, bB, cB, oB, nF, numS] at hm ⊢
 simp at hm ⊢
 refine ⟨by omega, by omega, by omega, by omega, sx_eq (by omega)⟩
set_option maxRecDepth 100000 in
set_option maxHeartbeats 4000000 in
theorem there_2 (m op rd a b imm csr : Int) (aq rl : Bool) (m0 : 0 ≤ m) (m1 : m < 4294967296) (hm : andF 2 m = m) (hr : rightS 2 rd a b imm csr aq rl = true) :
  0 ≤ wordS 2 m rd a b imm csr aq rl ∧ wordS 2 m rd a b imm csr aq rl < 4294967296 ∧ andF 2 (wordS 2 m rd a b imm csr aq rl) = m ∧ sayS 2 op (wordS 2 m rd a b imm csr aq rl) = (op, rd, a, b, imm, csr, aq, rl) := by
 obtain ⟨hb, hd, ha, hbb, hc, ho, hi⟩ := rightS_parts hr
 clear hr; have q1 := b01_range aq
 have q2 := b01_range rl
 obtain ⟨p, q, r, s, p0, p1, q0, q1, r0, r1, s0, s1, hp, rfl⟩ := fit_five imm (by simpa [immB, nF] using hi)
 obtain rfl := ha rfl
 obtain rfl := hbb rfl
 obtain rfl := hc rfl
 obtain ⟨rfl, rfl⟩ := ho rfl
 have hw : wordS 2 m rd 0 0 (sx 1048576 ((((p * 256 + q) * 2 + r) * 1024 + s) * 2)) 0 false false = m + rd * 128 + s * 2097152 + r * 1048576 + q * 4096 + p * 2147483648 := by
  simp only [wordS, show nF 2 = 5 from rfl, hp, show b01 false = 0 from rfl]; omega
 rw [hw]
 simp only [andF, sayS, rdB, aB, bB, cB, oB, nF, numS] at hm ⊢
 simp at hm ⊢
 refine ⟨by omega, by omega, by omega, by omega, sx_eq (by omega)⟩
set_option maxRecDepth 100000 in
set_option maxHeartbeats 4000000 in
theorem there_3 (m op rd a b imm csr : Int) (aq rl : Bool) (m0 : 0 ≤ m) (m1 : m < 4294967296) (hm : andF 3 m = m) (hr : rightS 3 rd a b imm csr aq rl = true) :
  0 ≤ wordS 3 m rd a b imm csr aq rl ∧ wordS 3 m rd a b imm csr aq rl < 4294967296 ∧ andF 3 (wordS 3 m rd a b imm csr aq rl) = m ∧ sayS 3 op (wordS 3 m rd a b imm csr aq rl) = (op, rd, a, b, imm, csr, aq, rl) := by
 obtain ⟨hb, hd, ha, hbb, hc, ho, hi⟩ := rightS_parts hr
 clear hr; have q1 := b01_range aq
 have q2 := b01_range rl
 obtain ⟨p, p0, p1, hp, rfl⟩ := fit_one imm (by simpa [immB, nF] using hi)
 obtain rfl := hbb rfl
 obtain rfl := hc rfl
 obtain ⟨rfl, rfl⟩ := ho rfl
 have hw : wordS 3 m rd a 0 (sx 2048 p) 0 false false = m + rd * 128 + a * 32768 + p * 1048576 := by
  simp only [wordS, show nF 3 = 1 from rfl, hp, show b01 false = 0 from rfl]; omega
 rw [hw]
 simp only [andF, sayS, rdB, aB, bB, cB, oB, nF, numS] at hm ⊢
 simp at hm ⊢
 refine ⟨by omega, by omega, by omega, by omega, by omega, sx_eq (by omega)⟩
set_option maxRecDepth 100000 in
set_option maxHeartbeats 4000000 in
theorem there_4 (m op rd a b imm csr : Int) (aq rl : Bool) (m0 : 0 ≤ m) (m1 : m < 4294967296) (hm : andF 4 m = m) (hr : rightS 4 rd a b imm csr aq rl = true) :
  0 ≤ wordS 4 m rd a b imm csr aq rl ∧ wordS 4 m rd a b imm csr aq rl < 4294967296 ∧ andF 4 (wordS 4 m rd a b imm csr aq rl) = m ∧ sayS 4 op (wordS 4 m rd a b imm csr aq rl) = (op, rd, a, b, imm, csr, aq, rl) := by
 obtain ⟨hb, hd, ha, hbb, hc, ho, hi⟩ := rightS_parts hr
 clear hr; have q1 := b01_range aq
 have q2 := b01_range rl
 obtain ⟨p, q, r, s, p0, p1, q0, q1, r0, r1, s0, s1, hp, rfl⟩ := fit_three imm (by simpa [immB, nF] using hi)
 obtain rfl := hd rfl
 obtain rfl := hc rfl
 obtain ⟨rfl, rfl⟩ := ho rfl
 have hw : wordS 4 m 0 a b (sx 4096 ((((p * 2 + q) * 64 + r) * 16 + s) * 2)) 0 false false = m + a * 32768 + b * 1048576 + s * 256 + r * 33554432 + q * 128 + p * 2147483648 := by
  simp only [wordS, show nF 4 = 3 from rfl, hp, show b01 false = 0 from rfl]; omega
 rw [hw]
 simp only [andF, sayS, rdB, aB, bB, cB, oB, nF, numS] at hm ⊢
 simp at hm ⊢
 refine ⟨by omega, by omega, by omega, by omega, by omega, sx_eq (by omega)⟩
set_option maxRecDepth 100000 in
set_option maxHeartbeats 4000000 in
theorem there_5 (m op rd a b imm csr : Int) (aq rl : Bool) (m0 : 0 ≤ m) (m1 : m < 4294967296) (hm : andF 5 m = m) (hr : rightS 5 rd a b imm csr aq rl = true) :
  0 ≤ wordS 5 m rd a b imm csr aq rl ∧ wordS 5 m rd a b imm csr aq rl < 4294967296 ∧ andF 5 (wordS 5 m rd a b imm csr aq rl) = m ∧ sayS 5 op (wordS 5 m rd a b imm csr aq rl) = (op, rd, a, b, imm, csr, aq, rl) := by
 obtain ⟨hb, hd, ha, hbb, hc, ho, hi⟩ := rightS_parts hr
 clear hr; have q1 := b01_range aq
 have q2 := b01_range rl
 obtain ⟨p, q, p0, p1, q0, q1, hp, rfl⟩ := fit_two imm (by simpa [immB, nF] using hi)
 obtain rfl := hd rfl
 obtain rfl := hc rfl
 obtain ⟨rfl, rfl⟩ := ho rfl
 have hw : wordS 5 m 0 a b (sx 2048 (p * 32 + q)) 0 false false = m + a * 32768 + b * 1048576 + q * 128 + p * 33554432 := by
  simp only [wordS, show nF 5 = 2 from rfl, hp, show b01 false = 0 from rfl]; omega
 rw [hw]
 simp only [andF, sayS, rdB, aB, bB, cB, oB, nF, numS] at hm ⊢
 simp at hm ⊢
 refine ⟨by omega, by omega, by omega, by omega, by omega, sx_eq (by omega)⟩
set_option maxRecDepth 100000 in
set_option maxHeartbeats 4000000 in
theorem there_6 (m op rd a b imm csr : Int) (aq rl : Bool) (m0 : 0 ≤ m) (m1 : m < 4294967296) (hm : andF 6 m = m) (hr : rightS 6 rd a b imm csr aq rl = true) :
  0 ≤ wordS 6 m rd a b imm csr aq rl ∧ wordS 6 m rd a b imm csr aq rl < 4294967296 ∧ andF 6 (wordS 6 m rd a b imm csr aq rl) = m ∧ sayS 6 op (wordS 6 m rd a b imm csr aq rl) = (op, rd, a, b, imm, csr, aq, rl) := by
 obtain ⟨hb, hd, ha, hbb, hc, ho, hi⟩ := rightS_parts hr
 clear hr; have q1 := b01_range aq
 have q2 := b01_range rl
 have hi : fitsS 6 imm = true := by simpa [immB, nF] using hi
 obtain rfl := hbb rfl
 obtain rfl := hc rfl
 obtain ⟨rfl, rfl⟩ := ho rfl
 have hw : wordS 6 m rd a 0 imm 0 false false = m + rd * 128 + a * 32768 + imm * 1048576 := by
  simp [fitsS] at hi
  simp [wordS, putS, show nF 6 = 6 from rfl, show b01 false = 0 from rfl]; omega
 rw [hw]
 simp [fitsS] at hi
 simp [andF, sayS, rdB, aB, bB, cB, oB, nF, numS] at hm ⊢
 omega
set_option maxRecDepth 100000 in
set_option maxHeartbeats 4000000 in
theorem there_7 (m op rd a b imm csr : Int) (aq rl : Bool) (m0 : 0 ≤ m) (m1 : m < 4294967296) (hm : andF 7 m = m) (hr : rightS 7 rd a b imm csr aq rl = true) :
  0 ≤ wordS 7 m rd a b imm csr aq rl ∧ wordS 7 m rd a b imm csr aq rl < 4294967296 ∧ andF 7 (wordS 7 m rd a b imm csr aq rl) = m ∧ sayS 7 op (wordS 7 m rd a b imm csr aq rl) = (op, rd, a, b, imm, csr, aq, rl) := by
 obtain ⟨hb, hd, ha, hbb, hc, ho, hi⟩ := rightS_parts hr
 clear hr; have q1 := b01_range aq
 have q2 := b01_range rl
 have hi : fitsS 7 imm = true := by simpa [immB, nF] using hi
 obtain rfl := hbb rfl
 obtain rfl := hc rfl
 obtain ⟨rfl, rfl⟩ := ho rfl
 have hw : wordS 7 m rd a 0 imm 0 false false = m + rd * 128 + a * 32768 + imm * 1048576 := by
  simp [fitsS] at hi
  simp [wordS, putS, show nF 7 = 7 from rfl, show b01 false = 0 from rfl]; omega
 rw [hw]
 simp [fitsS] at hi
 simp [andF, sayS, rdB, aB, bB, cB, oB, nF, numS] at hm ⊢
 omega
set_option maxRecDepth 100000 in
set_option maxHeartbeats 4000000 in
theorem there_8 (m op rd a b imm csr : Int) (aq rl : Bool) (m0 : 0 ≤ m) (m1 : m < 4294967296) (hm : andF 8 m = m) (hr : rightS 8 rd a b imm csr aq rl = true) :
  0 ≤ wordS 8 m rd a b imm csr aq rl ∧ wordS 8 m rd a b imm csr aq rl < 4294967296 ∧ andF 8 (wordS 8 m rd a b imm csr aq rl) = m ∧ sayS 8 op (wordS 8 m rd a b imm csr aq rl) = (op, rd, a, b, imm, csr, aq, rl) := by
 obtain ⟨hb, hd, ha, hbb, hc, ho, hi⟩ := rightS_parts hr
 clear hr; have q1 := b01_range aq
 have q2 := b01_range rl
 obtain rfl : imm = 0 := by simpa [immB, nF] using hi
 obtain rfl := hc rfl
 obtain ⟨rfl, rfl⟩ := ho rfl
 have hw : wordS 8 m rd a b 0 0 false false = m + rd * 128 + a * 32768 + b * 1048576 := by
  simp [wordS, putS, show nF 8 = 0 from rfl, show b01 false = 0 from rfl]
 rw [hw]
 simp [andF, sayS, rdB, aB, bB, cB, oB, nF, numS] at hm ⊢
 omega
theorem parts_nine (W y0 rd y1 a y2 v u y3 : Int) (a0 : 0 ≤ y0 ∧ y0 < 128) (a1 : 0 ≤ rd ∧ rd < 32) (a2 : 0 ≤ y1 ∧ y1 < 8) (a3 : 0 ≤ a ∧ a < 32) (a4 : 0 ≤ y2 ∧ y2 < 32) (a5 : 0 ≤ v ∧ v < 2) (a6 : 0 ≤ u ∧ u < 2)
  (hW : W = y0 + 128 * (rd + 32 * (y1 + 8 * (a + 32 * (y2 + 32 * (v + 2 * (u + 2 * y3))))))) :
  W % 128 = y0 ∧ W / 128 % 32 = rd ∧ W / 4096 % 8 = y1 ∧ W / 32768 % 32 = a ∧ W / 1048576 % 32 = y2 ∧ W / 33554432 % 2 = v ∧ W / 67108864 % 2 = u ∧ W / 134217728 = y3 := by
 obtain ⟨q6, h6⟩ : ∃ q, q = u + 2 * y3 := ⟨_, rfl⟩
 rw [← h6] at hW
 obtain ⟨q5, h5⟩ : ∃ q, q = v + 2 * q6 := ⟨_, rfl⟩
 rw [← h5] at hW
 obtain ⟨q4, h4⟩ : ∃ q, q = y2 + 32 * q5 := ⟨_, rfl⟩
 rw [← h4] at hW
 obtain ⟨q3, h3⟩ : ∃ q, q = a + 32 * q4 := ⟨_, rfl⟩
 rw [← h3] at hW
 obtain ⟨q2, h2⟩ : ∃ q, q = y1 + 8 * q3 := ⟨_, rfl⟩
 rw [← h2] at hW
 obtain ⟨q1, h1⟩ : ∃ q, q = rd + 32 * q2 := ⟨_, rfl⟩
 rw [← h1] at hW
 have e1 : W / 128 = q1 := by omega
 have e2 : W / 4096 = q2 := by
  have : W / 4096 = W / 128 / 32 := by omega
  rw [this, e1]; omega
 have e3 : W / 32768 = q3 := by
  have : W / 32768 = W / 4096 / 8 := by omega
  rw [this, e2]; omega
 have e4 : W / 1048576 = q4 := by
  have : W / 1048576 = W / 32768 / 32 := by omega
  rw [this, e3]; omega
 have e5 : W / 33554432 = q5 := by
  have : W / 33554432 = W / 1048576 / 32 := by omega
  rw [this, e4]; omega
 have e6 : W / 67108864 = q6 := by
  have : W / 67108864 = W / 33554432 / 2 := by omega
  rw [this, e5]; omega
 have e7 : W / 134217728 = y3 := by
  have : W / 134217728 = W / 67108864 / 2 := by omega
  rw [this, e6]; omega
 rw [e1, e2, e3, e4, e5, e6, e7]
 exact ⟨by omega, by omega, by omega, by omega, by omega, by omega, by omega, rfl⟩
set_option maxRecDepth 100000 in
set_option maxHeartbeats 4000000 in
theorem there_9 (m op rd a b imm csr : Int) (aq rl : Bool) (m0 : 0 ≤ m) (m1 : m < 4294967296) (hm : andF 9 m = m) (hr : rightS 9 rd a b imm csr aq rl = true) :
  0 ≤ wordS 9 m rd a b imm csr aq rl ∧ wordS 9 m rd a b imm csr aq rl < 4294967296 ∧ andF 9 (wordS 9 m rd a b imm csr aq rl) = m ∧ sayS 9 op (wordS 9 m rd a b imm csr aq rl) = (op, rd, a, b, imm, csr, aq, rl) := by
 obtain ⟨hb, hd, ha, hbb, hc, ho, hi⟩ := rightS_parts hr
 clear hr; have q1 := b01_range aq
 have q2 := b01_range rl
 obtain rfl : imm = 0 := by simpa [immB, nF] using hi
 obtain rfl := hbb rfl
 obtain rfl := hc rfl
 have hw : wordS 9 m rd a 0 0 0 aq rl = m + rd * 128 + a * 32768 + b01 aq * 67108864 + b01 rl * 33554432 := by
  simp [wordS, putS, show nF 9 = 0 from rfl]
 rw [hw]
 have ea : ∀ x : Int, x = b01 aq → decide (x = 1) = aq := fun x => b01_is aq x
 have el : ∀ x : Int, x = b01 rl → decide (x = 1) = rl := fun x => b01_is rl x
 simp only [andF, sayS, rdB, aB, bB, cB, oB, nF, numS] at hm ⊢
 generalize b01 aq = u at *
 generalize b01 rl = v at *
 simp at hm
 have z0 : 0 ≤ m % 128 ∧ m % 128 < 128 := by omega
 have z1 : 0 ≤ m / 4096 % 8 ∧ m / 4096 % 8 < 8 := by omega
 have z2 : 0 ≤ m / 1048576 % 32 ∧ m / 1048576 % 32 < 32 := by omega
 have z3 : 0 ≤ m / 134217728 ∧ m / 134217728 < 32 := by omega
 generalize m % 128 = y0 at *
 generalize m / 4096 % 8 = y1 at *
 generalize m / 1048576 % 32 = y2 at *
 generalize m / 134217728 = y3 at *
 subst hm; clear hw; obtain ⟨e0, e1, e2, e3, e4, e5, e6, e7⟩ := parts_nine (y0 + y1 * 4096 + y2 * 1048576 + y3 * 134217728 + rd * 128 + a * 32768 + u * 67108864 + v * 33554432) y0 rd y1 a y2 v u y3 z0 (by omega) z1 (by omega) z2 (by omega) (by omega) (by omega)
 refine ⟨by omega, by omega, by simp [e0, e2, e4, e7], ?_⟩
 rw [e1, e3, ea _ e6, el _ e5]
 simp
set_option maxRecDepth 100000 in
set_option maxHeartbeats 4000000 in
theorem there_10 (m op rd a b imm csr : Int) (aq rl : Bool) (m0 : 0 ≤ m) (m1 : m < 4294967296) (hm : andF 10 m = m) (hr : rightS 10 rd a b imm csr aq rl = true) :
  0 ≤ wordS 10 m rd a b imm csr aq rl ∧ wordS 10 m rd a b imm csr aq rl < 4294967296 ∧ andF 10 (wordS 10 m rd a b imm csr aq rl) = m ∧ sayS 10 op (wordS 10 m rd a b imm csr aq rl) = (op, rd, a, b, imm, csr, aq, rl) := by
 obtain ⟨hb, hd, ha, hbb, hc, ho, hi⟩ := rightS_parts hr
 clear hr; have q1 := b01_range aq
 have q2 := b01_range rl
 obtain rfl : imm = 0 := by simpa [immB, nF] using hi
 obtain rfl := hc rfl
 have hw : wordS 10 m rd a b 0 0 aq rl = m + rd * 128 + a * 32768 + b * 1048576 + b01 aq * 67108864 + b01 rl * 33554432 := by
  simp [wordS, putS, show nF 10 = 0 from rfl]
 rw [hw]
 have ea : ∀ x : Int, x = b01 aq → decide (x = 1) = aq := fun x => b01_is aq x
 have el : ∀ x : Int, x = b01 rl → decide (x = 1) = rl := fun x => b01_is rl x
 simp only [andF, sayS, rdB, aB, bB, cB, oB, nF, numS] at hm ⊢
 generalize b01 aq = u at *
 generalize b01 rl = v at *
 simp at hm
 refine ⟨by omega, by omega, by simp; omega, ?_⟩
 rw [ea _ (by omega), el _ (by omega)]
 simp
 omega
set_option maxRecDepth 100000 in
set_option maxHeartbeats 4000000 in
theorem there_11 (m op rd a b imm csr : Int) (aq rl : Bool) (m0 : 0 ≤ m) (m1 : m < 4294967296) (hm : andF 11 m = m) (hr : rightS 11 rd a b imm csr aq rl = true) :
  0 ≤ wordS 11 m rd a b imm csr aq rl ∧ wordS 11 m rd a b imm csr aq rl < 4294967296 ∧ andF 11 (wordS 11 m rd a b imm csr aq rl) = m ∧ sayS 11 op (wordS 11 m rd a b imm csr aq rl) = (op, rd, a, b, imm, csr, aq, rl) := by
 obtain ⟨hb, hd, ha, hbb, hc, ho, hi⟩ := rightS_parts hr
 clear hr; have q1 := b01_range aq
 have q2 := b01_range rl
 obtain rfl : imm = 0 := by simpa [immB, nF] using hi
 obtain rfl := hd rfl
 obtain rfl := ha rfl
 obtain rfl := hbb rfl
 obtain rfl := hc rfl
 obtain ⟨rfl, rfl⟩ := ho rfl
 have hw : wordS 11 m 0 0 0 0 0 false false = m := by
  simp [wordS, putS, show nF 11 = 0 from rfl, show b01 false = 0 from rfl]
 rw [hw]
 simp [andF, sayS, rdB, aB, bB, cB, oB, nF, numS]
 omega
set_option maxRecDepth 100000 in
set_option maxHeartbeats 4000000 in
theorem there_12 (m op rd a b imm csr : Int) (aq rl : Bool) (m0 : 0 ≤ m) (m1 : m < 4294967296) (hm : andF 12 m = m) (hr : rightS 12 rd a b imm csr aq rl = true) :
  0 ≤ wordS 12 m rd a b imm csr aq rl ∧ wordS 12 m rd a b imm csr aq rl < 4294967296 ∧ andF 12 (wordS 12 m rd a b imm csr aq rl) = m ∧ sayS 12 op (wordS 12 m rd a b imm csr aq rl) = (op, rd, a, b, imm, csr, aq, rl) := by
 obtain ⟨hb, hd, ha, hbb, hc, ho, hi⟩ := rightS_parts hr
 clear hr; have q1 := b01_range aq
 have q2 := b01_range rl
 obtain rfl : imm = 0 := by simpa [immB, nF] using hi
 obtain rfl := hd rfl
 obtain rfl := hc rfl
 obtain ⟨rfl, rfl⟩ := ho rfl
 have hw : wordS 12 m 0 a b 0 0 false false = m + a * 32768 + b * 1048576 := by
  simp [wordS, putS, show nF 12 = 0 from rfl, show b01 false = 0 from rfl]
 rw [hw]
 simp [andF, sayS, rdB, aB, bB, cB, oB, nF, numS] at hm ⊢
 omega
set_option maxRecDepth 100000 in
set_option maxHeartbeats 4000000 in
theorem there_13 (m op rd a b imm csr : Int) (aq rl : Bool) (m0 : 0 ≤ m) (m1 : m < 4294967296) (hm : andF 13 m = m) (hr : rightS 13 rd a b imm csr aq rl = true) :
  0 ≤ wordS 13 m rd a b imm csr aq rl ∧ wordS 13 m rd a b imm csr aq rl < 4294967296 ∧ andF 13 (wordS 13 m rd a b imm csr aq rl) = m ∧ sayS 13 op (wordS 13 m rd a b imm csr aq rl) = (op, rd, a, b, imm, csr, aq, rl) := by
 obtain ⟨hb, hd, ha, hbb, hc, ho, hi⟩ := rightS_parts hr
 clear hr; have q1 := b01_range aq
 have q2 := b01_range rl
 obtain rfl : imm = 0 := by simpa [immB, nF] using hi
 obtain rfl := hbb rfl
 obtain ⟨rfl, rfl⟩ := ho rfl
 have hw : wordS 13 m rd a 0 0 csr false false = m + rd * 128 + a * 32768 + csr * 1048576 := by
  simp [wordS, putS, show nF 13 = 0 from rfl, show b01 false = 0 from rfl]
 rw [hw]
 simp [andF, sayS, rdB, aB, bB, cB, oB, nF, numS] at hm ⊢
 omega
set_option maxRecDepth 100000 in
set_option maxHeartbeats 4000000 in
theorem there_14 (m op rd a b imm csr : Int) (aq rl : Bool) (m0 : 0 ≤ m) (m1 : m < 4294967296) (hm : andF 14 m = m) (hr : rightS 14 rd a b imm csr aq rl = true) :
  0 ≤ wordS 14 m rd a b imm csr aq rl ∧ wordS 14 m rd a b imm csr aq rl < 4294967296 ∧ andF 14 (wordS 14 m rd a b imm csr aq rl) = m ∧ sayS 14 op (wordS 14 m rd a b imm csr aq rl) = (op, rd, a, b, imm, csr, aq, rl) := by
 obtain ⟨hb, hd, ha, hbb, hc, ho, hi⟩ := rightS_parts hr
 clear hr; have q1 := b01_range aq
 have q2 := b01_range rl
 have hi : fitsS 9 imm = true := by simpa [immB, nF] using hi
 obtain rfl := ha rfl
 obtain rfl := hbb rfl
 obtain ⟨rfl, rfl⟩ := ho rfl
 have hw : wordS 14 m rd 0 0 imm csr false false = m + rd * 128 + csr * 1048576 + imm * 32768 := by
  simp [fitsS] at hi
  simp [wordS, putS, show nF 14 = 9 from rfl, show b01 false = 0 from rfl]; omega
 rw [hw]
 simp [fitsS] at hi
 simp [andF, sayS, rdB, aB, bB, cB, oB, nF, numS] at hm ⊢
 omega
set_option maxRecDepth 100000 in
set_option maxHeartbeats 4000000 in
theorem there_15 (m op rd a b imm csr : Int) (aq rl : Bool) (m0 : 0 ≤ m) (m1 : m < 4294967296) (hm : andF 15 m = m) (hr : rightS 15 rd a b imm csr aq rl = true) :
  0 ≤ wordS 15 m rd a b imm csr aq rl ∧ wordS 15 m rd a b imm csr aq rl < 4294967296 ∧ andF 15 (wordS 15 m rd a b imm csr aq rl) = m ∧ sayS 15 op (wordS 15 m rd a b imm csr aq rl) = (op, rd, a, b, imm, csr, aq, rl) := by
 obtain ⟨hb, hd, ha, hbb, hc, ho, hi⟩ := rightS_parts hr
 clear hr; have q1 := b01_range aq
 have q2 := b01_range rl
 obtain rfl : imm = 0 := by simpa [immB, nF] using hi
 obtain rfl := hbb rfl
 obtain rfl := hc rfl
 obtain ⟨rfl, rfl⟩ := ho rfl
 have hw : wordS 15 m rd a 0 0 0 false false = m + rd * 128 + a * 32768 := by
  simp [wordS, putS, show nF 15 = 0 from rfl, show b01 false = 0 from rfl]
 rw [hw]
 simp [andF, sayS, rdB, aB, bB, cB, oB, nF, numS] at hm ⊢
 omega
theorem word_there (fm m op rd a b imm csr : Int) (aq rl : Bool) (h1 : 1 ≤ fm) (h2 : fm ≤ 15) (m0 : 0 ≤ m) (m1 : m < 4294967296) (hm : andF fm m = m) (hr : rightS fm rd a b imm csr aq rl = true) :
  0 ≤ wordS fm m rd a b imm csr aq rl ∧ wordS fm m rd a b imm csr aq rl < 4294967296 ∧ andF fm (wordS fm m rd a b imm csr aq rl) = m ∧ sayS fm op (wordS fm m rd a b imm csr aq rl) = (op, rd, a, b, imm, csr, aq, rl) := by
 rcases forms fm h1 h2 with rfl | rfl | rfl | rfl | rfl | rfl | rfl | rfl | rfl | rfl | rfl | rfl | rfl | rfl | rfl
 ·exact there_1 m op rd a b imm csr aq rl m0 m1 hm hr
 ·exact there_2 m op rd a b imm csr aq rl m0 m1 hm hr
 ·exact there_3 m op rd a b imm csr aq rl m0 m1 hm hr
 ·exact there_4 m op rd a b imm csr aq rl m0 m1 hm hr
 ·exact there_5 m op rd a b imm csr aq rl m0 m1 hm hr
 ·exact there_6 m op rd a b imm csr aq rl m0 m1 hm hr
 ·exact there_7 m op rd a b imm csr aq rl m0 m1 hm hr
 ·exact there_8 m op rd a b imm csr aq rl m0 m1 hm hr
 ·exact there_9 m op rd a b imm csr aq rl m0 m1 hm hr
 ·exact there_10 m op rd a b imm csr aq rl m0 m1 hm hr
 ·exact there_11 m op rd a b imm csr aq rl m0 m1 hm hr
 ·exact there_12 m op rd a b imm csr aq rl m0 m1 hm hr
 ·exact there_13 m op rd a b imm csr aq rl m0 m1 hm hr
 ·exact there_14 m op rd a b imm csr aq rl m0 m1 hm hr
 ·exact there_15 m op rd a b imm csr aq rl m0 m1 hm hr
end Go.Proofs.YtknkfimpflodeaaGreatDoor.P
