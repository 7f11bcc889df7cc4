/- What words and instructions are, in numbers: forms, their numbers, the word of an instruction and back. No program. -/
import Derived.Test.YtknkfimpflodeaaGreatDoorTab
import Derived.Test.YtknkfimpflodeaaGreatDoorBits
namespace Go.Proofs.YtknkfimpflodeaaGreatDoor.P
open Go.RowKit
/-- a form's letter in the document's table -/
def ltr (fm : Int) : Int := if fm = 1 then 85 else if fm = 2 then 74 else if fm = 3 then 73 else if fm = 4 then 66 else if fm = 5 then 83 else if fm = 6 then 72 else if fm = 7 then 87 else if fm = 8 then 82 else if fm = 9 then 76 else if fm = 10 then 65 else if fm = 11 then 78 else if fm = 12 then 70 else if fm = 13 then 67 else if fm = 14 then 90 else 86
theorem tab_eq : tabR = tabP.map (fun r => (r.1, r.2.1, r.2.2.1, ltr r.2.2.2)) := by rfl
theorem tab_forms : tabP.all (fun r => decide (1 ≤ r.2.2.2 ∧ r.2.2.2 ≤ 15 ∧ r.2.1 = maskF r.2.2.2 ∧ andF r.2.2.2 r.2.2.1 = r.2.2.1 ∧ 0 ≤ r.2.2.1 ∧ r.2.2.1 < 4294967296)) = true := by decide +kernel
theorem tab_len : tabP.length = 113 := by decide +kernel
theorem row_ok (j : Nat) (h : j < 113) : 1 ≤ (tabP.getD j rowZ).2.2.2 ∧ (tabP.getD j rowZ).2.2.2 ≤ 15 ∧ (tabP.getD j rowZ).2.1 = maskF (tabP.getD j rowZ).2.2.2 ∧ andF (tabP.getD j rowZ).2.2.2 (tabP.getD j rowZ).2.2.1 = (tabP.getD j rowZ).2.2.1 ∧ 0 ≤ (tabP.getD j rowZ).2.2.1 ∧ (tabP.getD j rowZ).2.2.1 < 4294967296 := by
 have hj : j < tabP.length := by rw [tab_len]; exact h
 have := List.all_eq_true.1 tab_forms _ (List.getElem_mem hj)
 rw [List.getD_eq_getElem?_getD, List.getElem?_eq_getElem hj]
 simpa using this
theorem rowR_at (j : Nat) (h : j < 113) : rowR ((j : Int) + 1) = ((tabP.getD j rowZ).1, (tabP.getD j rowZ).2.1, (tabP.getD j rowZ).2.2.1, ltr (tabP.getD j rowZ).2.2.2) := by
 have hj : j < tabP.length := by rw [tab_len]; exact h
 unfold rowR
 rw [if_pos (by omega), tab_eq, show ((j : Int) + 1).toNat - 1 = j by omega, List.getD_eq_getElem?_getD, List.getElem?_map, List.getD_eq_getElem?_getD, List.getElem?_eq_getElem hj]
 rfl
/-- which parts a form says -/
def rdB (fm : Int) : Bool := decide (fm = 1 ∨ fm = 2 ∨ fm = 3 ∨ fm = 6 ∨ fm = 7 ∨ fm = 8 ∨ fm = 9 ∨ fm = 10 ∨ fm = 13 ∨ fm = 14 ∨ fm = 15)
def aB (fm : Int) : Bool := decide (fm = 3 ∨ fm = 6 ∨ fm = 7 ∨ fm = 15 ∨ fm = 4 ∨ fm = 5 ∨ fm = 12 ∨ fm = 8 ∨ fm = 9 ∨ fm = 10 ∨ fm = 13)
def bB (fm : Int) : Bool := decide (fm = 4 ∨ fm = 5 ∨ fm = 12 ∨ fm = 8 ∨ fm = 10)
def cB (fm : Int) : Bool := decide (fm = 13 ∨ fm = 14)
def oB (fm : Int) : Bool := decide (fm = 9 ∨ fm = 10)
/-- the form of a form's number; 0: it has none -/
def nF (fm : Int) : Int := if fm = 1 then 4 else if fm = 2 then 5 else if fm = 3 then 1 else if fm = 4 then 3 else if fm = 5 then 2 else if fm = 6 then 6 else if fm = 7 then 7 else if fm = 14 then 9 else 0
/-- with its sign -/
def sx (m x : Int) : Int := if x < m then x else x - 2 * m
/-- the number of a form that a word says -/
def numS (f w : Int) : Int :=
 if f = 1 then sx 2048 (w / 1048576 % 4096)
 else if f = 2 then sx 2048 (w / 33554432 % 128 * 32 + w / 128 % 32)
 else if f = 3 then sx 4096 ((((w / 2147483648 % 2 * 2 + w / 128 % 2) * 64 + w / 33554432 % 64) * 16 + w / 256 % 16) * 2)
 else if f = 4 then sx 2147483648 (w / 4096 % 1048576 * 4096)
 else if f = 5 then sx 1048576 ((((w / 2147483648 % 2 * 256 + w / 4096 % 256) * 2 + w / 1048576 % 2) * 1024 + w / 2097152 % 1024) * 2)
 else if f = 6 then w / 1048576 % 64
 else if f = 7 then w / 1048576 % 32
 else if f = 8 then w / 1048576 % 4096
 else if f = 9 then w / 32768 % 32
 else 0
/-- may a form say it? -/
def fitsS (f n : Int) : Bool :=
 if f = 1 ∨ f = 2 then decide (-2048 ≤ n ∧ n < 2048)
 else if f = 3 then decide (-4096 ≤ n ∧ n < 4096 ∧ n % 2 = 0)
 else if f = 4 then decide (-2147483648 ≤ n ∧ n < 2147483648 ∧ n % 4096 = 0)
 else if f = 5 then decide (-1048576 ≤ n ∧ n < 1048576 ∧ n % 2 = 0)
 else if f = 6 then decide (0 ≤ n ∧ n < 64)
 else if f = 7 then decide (0 ≤ n ∧ n < 32)
 else if f = 8 then decide (0 ≤ n ∧ n < 4096)
 else if f = 9 then decide (0 ≤ n ∧ n < 32)
 else false
/-- the bits by which a form says it -/
def putS (f n : Int) : Int :=
 if f = 1 then n % 4096 * 1048576
 else if f = 2 then n % 32 * 128 + n / 32 % 128 * 33554432
 else if f = 3 then n / 2 % 16 * 256 + n / 32 % 64 * 33554432 + n / 2048 % 2 * 128 + n / 4096 % 2 * 2147483648
 else if f = 4 then n / 4096 % 1048576 * 4096
 else if f = 5 then n / 2 % 1024 * 2097152 + n / 2048 % 2 * 1048576 + n / 4096 % 256 * 4096 + n / 1048576 % 2 * 2147483648
 else if f = 6 then n % 64 * 1048576
 else if f = 7 then n % 32 * 1048576
 else if f = 8 then n % 4096 * 1048576
 else if f = 9 then n % 32 * 32768
 else 0
/-- what a word says as an instruction of a form -/
def sayS (fm op w : Int) : Int × Int × Int × Int × Int × Int × Bool × Bool :=
 (op, if rdB fm then w / 128 % 32 else 0, if aB fm then w / 32768 % 32 else 0, if bB fm then w / 1048576 % 32 else 0, numS (nF fm) w, if cB fm then w / 1048576 % 4096 else 0,
  oB fm && decide (w / 67108864 % 2 = 1), oB fm && decide (w / 33554432 % 2 = 1))
def immB (fm imm : Int) : Bool := if nF fm = 0 then decide (imm = 0) else fitsS (nF fm) imm
/-- is it right? (the parts of an instruction of that form) -/
def rightS (fm rd a b imm csr : Int) (aq rl : Bool) : Bool :=
 decide (0 ≤ rd ∧ rd ≤ 31 ∧ 0 ≤ a ∧ a ≤ 31 ∧ 0 ≤ b ∧ b ≤ 31 ∧ 0 ≤ csr ∧ csr ≤ 4095) && (rdB fm || decide (rd = 0)) && (aB fm || decide (a = 0)) && (bB fm || decide (b = 0)) && (cB fm || decide (csr = 0)) && (oB fm || (!aq && !rl)) && immB fm imm
def b01 (b : Bool) : Int := if b then 1 else 0
/-- the word of a right one -/
def wordS (fm m rd a b imm csr : Int) (aq rl : Bool) : Int := m + rd * 128 + a * 32768 + b * 1048576 + csr * 1048576 + b01 aq * 67108864 + b01 rl * 33554432 + putS (nF fm) imm
/-- a form is one of fifteen -/
theorem forms (fm : Int) (h1 : 1 ≤ fm) (h2 : fm ≤ 15) : fm = 1 ∨ fm = 2 ∨ fm = 3 ∨ fm = 4 ∨ fm = 5 ∨ fm = 6 ∨ fm = 7 ∨ fm = 8 ∨ fm = 9 ∨ fm = 10 ∨ fm = 11 ∨ fm = 12 ∨ fm = 13 ∨ fm = 14 ∨ fm = 15 := by omega
/-- the bits of a word that a form's number takes -/
def bitsF (f w : Int) : Int :=
 if f = 1 then w / 1048576 % 4096 * 1048576
 else if f = 2 then w / 128 % 32 * 128 + w / 33554432 % 128 * 33554432
 else if f = 3 then w / 256 % 16 * 256 + w / 33554432 % 64 * 33554432 + w / 128 % 2 * 128 + w / 2147483648 % 2 * 2147483648
 else if f = 4 then w / 4096 % 1048576 * 4096
 else if f = 5 then w / 2097152 % 1024 * 2097152 + w / 1048576 % 2 * 1048576 + w / 4096 % 256 * 4096 + w / 2147483648 % 2 * 2147483648
 else if f = 6 then w / 1048576 % 64 * 1048576
 else if f = 7 then w / 1048576 % 32 * 1048576
 else if f = 8 then w / 1048576 % 4096 * 1048576
 else if f = 9 then w / 32768 % 32 * 32768
 else 0
theorem put_two (p q : Int) (hp : 0 ≤ p ∧ p < 128) (hq : 0 ≤ q ∧ q < 32) : putS 2 (sx 2048 (p * 32 + q)) = q * 128 + p * 33554432 ∧ fitsS 2 (sx 2048 (p * 32 + q)) = true := by
 simp only [putS, fitsS, sx]
 simp
 split <;> omega
theorem put_three (p q r s : Int) (hp : 0 ≤ p ∧ p < 2) (hq : 0 ≤ q ∧ q < 2) (hr : 0 ≤ r ∧ r < 64) (hs : 0 ≤ s ∧ s < 16) :
  putS 3 (sx 4096 ((((p * 2 + q) * 64 + r) * 16 + s) * 2)) = s * 256 + r * 33554432 + q * 128 + p * 2147483648 ∧ fitsS 3 (sx 4096 ((((p * 2 + q) * 64 + r) * 16 + s) * 2)) = true := by
 simp only [putS, fitsS, sx]
 simp
 split <;> omega
theorem put_five (p q r s : Int) (hp : 0 ≤ p ∧ p < 2) (hq : 0 ≤ q ∧ q < 256) (hr : 0 ≤ r ∧ r < 2) (hs : 0 ≤ s ∧ s < 1024) :
  putS 5 (sx 1048576 ((((p * 256 + q) * 2 + r) * 1024 + s) * 2)) = s * 2097152 + r * 1048576 + q * 4096 + p * 2147483648 ∧ fitsS 5 (sx 1048576 ((((p * 256 + q) * 2 + r) * 1024 + s) * 2)) = true := by
 simp only [putS, fitsS, sx]
 simp
 split <;> omega
theorem num_put (f w : Int) (h1 : 1 ≤ f) (h2 : f ≤ 9) : putS f (numS f w) = bitsF f w ∧ fitsS f (numS f w) = true := by
 have hf : f = 1 ∨ f = 2 ∨ f = 3 ∨ f = 4 ∨ f = 5 ∨ f = 6 ∨ f = 7 ∨ f = 8 ∨ f = 9 := by omega
 rcases hf with rfl | rfl | rfl | rfl | rfl | rfl | rfl | rfl | rfl
 ·simp [putS, fitsS, numS, bitsF, sx]; split <;> omega
 ·exact put_two _ _ (by omega) (by omega)
 ·exact put_three _ _ _ _ (by omega) (by omega) (by omega) (by omega)
 ·simp [putS, fitsS, numS, bitsF, sx]; split <;> omega
 ·exact put_five _ _ _ _ (by omega) (by omega) (by omega) (by omega)
 ·simp [putS, fitsS, numS, bitsF]; omega
 ·simp [putS, fitsS, numS, bitsF]; omega
 ·simp [putS, fitsS, numS, bitsF]; omega
 ·simp [putS, fitsS, numS, bitsF]; omega
theorem num_put_at (fm w : Int) (h1 : 1 ≤ fm) (h2 : fm ≤ 15) : putS (nF fm) (numS (nF fm) w) = bitsF (nF fm) w ∧ (nF fm ≠ 0 → fitsS (nF fm) (numS (nF fm) w) = true) ∧ (nF fm = 0 → numS (nF fm) w = 0) := by
 rcases forms fm h1 h2 with rfl | rfl | rfl | rfl | rfl | rfl | rfl | rfl | rfl | rfl | rfl | rfl | rfl | rfl | rfl <;>
  first
  | exact ⟨(num_put _ w (by decide) (by decide)).1, fun _ => (num_put _ w (by decide) (by decide)).2, fun h => absurd h (by decide)⟩
  | exact ⟨rfl, fun h => absurd rfl h, fun _ => rfl⟩
/-- THERE AND BACK: a word that has the bits of an instruction is the word of what it says. -/
theorem word_back (fm m op w : Int) (h1 : 1 ≤ fm) (h2 : fm ≤ 15) (w0 : 0 ≤ w) (w1 : w < 4294967296) (hm : andF fm w = m) :
  wordS fm m (sayS fm op w).2.1 (sayS fm op w).2.2.1 (sayS fm op w).2.2.2.1 (sayS fm op w).2.2.2.2.1 (sayS fm op w).2.2.2.2.2.1 (sayS fm op w).2.2.2.2.2.2.1 (sayS fm op w).2.2.2.2.2.2.2 = w ∧
  rightS fm (sayS fm op w).2.1 (sayS fm op w).2.2.1 (sayS fm op w).2.2.2.1 (sayS fm op w).2.2.2.2.1 (sayS fm op w).2.2.2.2.2.1 (sayS fm op w).2.2.2.2.2.2.1 (sayS fm op w).2.2.2.2.2.2.2 = true := by
 obtain ⟨hp, hf, hz⟩ := num_put_at fm w h1 h2
 have hfit : immB fm (numS (nF fm) w) = true := by
  unfold immB
  split
  ·rename_i h0; rw [hz h0]; rfl
  ·rename_i h0; exact hf h0
 simp only [wordS, rightS, sayS, hp, hfit]
 clear hfit hp hf hz; rcases forms fm h1 h2 with rfl | rfl | rfl | rfl | rfl | rfl | rfl | rfl | rfl | rfl | rfl | rfl | rfl | rfl | rfl <;>
  (simp [andF] at hm; refine ⟨?_, ?_⟩ <;> simp [rdB, aB, bB, cB, oB, nF, bitsF, b01] <;> (try (repeat' split)) <;> omega)
end Go.Proofs.YtknkfimpflodeaaGreatDoor.P
