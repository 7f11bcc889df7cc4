/- What the program's Fits and Put come to, in numbers. No program. -/
import Derived.Test.YtknkfimpflodeaaGreatDoorEPureN
import Derived.Test.YtknkfimpflodeaaGreatDoorGA
namespace Go.Proofs.YtknkfimpflodeaaGreatDoor.P
open Go.RowKit Go.Proofs.YtknkfimpflodeaaGreatDoorW.PrintWords Go.Proofs.YtknkfimpflodeaaGreatDoorW.PrintLast Go.Proofs.YtknkfimpflodeaaGreatDoorW.PrintMore
set_option linter.unusedVariables false
theorem and_i64 (i : Nat) (hi : i ≤ 62) (x : Int) : Go.bits .and .i64 x (2 ^ i - 1) = x % 2 ^ i := by
 have hM : (2 : Int) ^ i ≤ 2 ^ 62 := by exact_mod_cast Nat.pow_le_pow_right (by decide) hi
 have hM0 : (0 : Int) < 2 ^ i := by exact_mod_cast Nat.two_pow_pos i
 have hMn : 2 ^ i ≤ 2 ^ 62 := Nat.pow_le_pow_right (by decide) hi
 have hMn0 : 0 < 2 ^ i := Nat.two_pow_pos i
 have e1 : (BitVec.ofInt 64 x).toNat = (x % 18446744073709551616).toNat := by simp [BitVec.toNat_ofInt]
 have e2 : (BitVec.ofInt 64 ((2 : Int) ^ i - 1)).toNat = 2 ^ i - 1 := by
  rw [BitVec.toNat_ofInt]
  have : ((2 : Int) ^ i - 1) = ((2 ^ i - 1 : Nat) : Int) := by rw [Int.natCast_sub hMn0]; simp
  rw [this]
  omega
 unfold Go.bits
 show IntKind.i64.wrap (((BitVec.ofInt 64 x &&& BitVec.ofInt 64 ((2 : Int) ^ i - 1)).toNat : Nat) : Int) = _
 rw [BitVec.toNat_and, e1, e2, Nat.and_two_pow_sub_one_eq_mod]
 have hd : (18446744073709551616 : Int) = 2 ^ i * 2 ^ (64 - i) := by rw [← Int.pow_add, show i + (64 - i) = 64 by omega]; rfl
 have h3 : (((x % 18446744073709551616).toNat % 2 ^ i : Nat) : Int) = x % 2 ^ i := by
  have h4 : (((x % 18446744073709551616).toNat : Nat) : Int) = x % 18446744073709551616 := by omega
  rw [Int.natCast_emod, h4, hd]
  have : ((2 ^ i : Nat) : Int) = (2 : Int) ^ i := by simp
  rw [this]
  exact Int.emod_emod_of_dvd x ⟨2 ^ (64 - i), rfl⟩
 rw [h3]
 have h5 := Int.emod_nonneg x (show (2 : Int) ^ i ≠ 0 by omega)
 have h6 := Int.emod_lt_of_pos x hM0
 rw [IntKind.wrap_i64]
 omega
/-- Fits of a form with a sign -/
theorem fits_signed (k : Nat) (f n : Int) (ps : List S160) (sh t : Nat) (m : Int) (hs : fields_shapeOf.f f = some (ps, (sh : Int), true)) (hl : (ps.length : Int) ≠ 0) (ht : fields_shape_size.f k ps sh true = some (t : Int)) (t1 : 1 ≤ t) (t2 : t ≤ 62)
  (hm : wrap64 (shl .i64 1 (sh : Int) - 1) = 2 ^ sh - 1) (hlo : shl .i64 (-1) ((t : Int) - 1) = -m) (hhi : shl .i64 1 ((t : Int) - 1) = m) (hsh : sh ≤ 62) :
  fields_Fits.f (k + 1) f n = some (decide (-m ≤ n ∧ n < m ∧ n % 2 ^ sh = 0)) := by
 have e : wrap64 ((t : Int) - 1) = (t : Int) - 1 := by unfold wrap64; omega
 unfold fields_Fits.f
 rw [hs]
 simp only [Option.bind_some]
 rw [if_neg hl, if_pos (by omega), hm, and_i64 sh hsh]
 simp only [fields_Fits.j0]
 by_cases h0 : n % 2 ^ sh = 0
 ·rw [h0, if_neg (by decide), if_pos trivial, ht]
  simp only [Option.bind_some]
  rw [e, if_pos (by omega), hlo, hhi]
  by_cases h1 : n ≥ -m
  ·rw [if_pos h1]
   congr 1
   by_cases h2 : n < m
   ·simp [h2, show -m ≤ n from h1]
   ·simp [h2]
  ·have h3 : ¬ -m ≤ n := h1
   rw [if_neg h1]
   simp [h3]
 ·rw [if_pos (by simpa using h0), decide_eq_false (fun h => h0 h.2.2)]
theorem fits_plain (k : Nat) (f n : Int) (ps : List S160) (t : Nat) (m : Int) (hs : fields_shapeOf.f f = some (ps, 0, false)) (hl : (ps.length : Int) ≠ 0) (ht : fields_shape_size.f k ps 0 false = some (t : Int)) (hhi : shl .i64 1 (t : Int) = m) :
  fields_Fits.f (k + 1) f n = some (decide (0 ≤ n ∧ n < m)) := by
 unfold fields_Fits.f
 rw [hs]
 simp only [Option.bind_some]
 have hz : wrap64 (shl .i64 1 0 - 1) = 2 ^ 0 - 1 := by decide +kernel
 rw [if_neg hl, if_pos (by decide), hz, and_i64 0 (by decide)]
 simp only [fields_Fits.j0]
 rw [show n % 2 ^ 0 = 0 by simp [Int.emod_one], if_neg (by decide), if_neg (by decide)]
 by_cases h1 : n ≥ 0
 ·rw [if_pos h1, ht]
  simp only [Option.bind_some]
  rw [if_pos (by omega), hhi]
  congr 1
  by_cases h2 : n < m
  ·rw [decide_eq_true h2, decide_eq_true ⟨h1, h2⟩]
  ·rw [decide_eq_false h2, decide_eq_false (fun h => h2 h.2)]
 ·rw [if_neg h1, decide_eq_false (fun h => h1 h.1)]
theorem fits_at (f n : Int) (f1 : 1 ≤ f) (f2 : f ≤ 9) (k : Nat) (hk : 20 ≤ k) : fields_Fits.f k f n = some (fitsS f n) := by
 refine at_rounds (fun k => fields_Fits.mono f n k) hk ?_
 have hf : f = 1 ∨ f = 2 ∨ f = 3 ∨ f = 4 ∨ f = 5 ∨ f = 6 ∨ f = 7 ∨ f = 8 ∨ f = 9 := by omega
 rcases hf with rfl | rfl | rfl | rfl | rfl | rfl | rfl | rfl | rfl
 ·rw [fits_signed 19 1 n [⟨31, 20⟩] 0 12 2048 rfl (by decide) (by decide +kernel) (by decide) (by decide) (by decide +kernel) (by decide +kernel) (by decide +kernel) (by decide)]
  simp [fitsS, Int.emod_one]
 ·rw [fits_signed 19 2 n [⟨31, 25⟩, ⟨11, 7⟩] 0 12 2048 rfl (by decide) (by decide +kernel) (by decide) (by decide) (by decide +kernel) (by decide +kernel) (by decide +kernel) (by decide)]
  simp [fitsS, Int.emod_one]
 ·rw [fits_signed 19 3 n [⟨31, 31⟩, ⟨7, 7⟩, ⟨30, 25⟩, ⟨11, 8⟩] 1 13 4096 rfl (by decide) (by decide +kernel) (by decide) (by decide) (by decide +kernel) (by decide +kernel) (by decide +kernel) (by decide)]
  simp [fitsS]
 ·rw [fits_signed 19 4 n [⟨31, 12⟩] 12 32 2147483648 rfl (by decide) (by decide +kernel) (by decide) (by decide) (by decide +kernel) (by decide +kernel) (by decide +kernel) (by decide)]
  simp [fitsS]
 ·rw [fits_signed 19 5 n [⟨31, 31⟩, ⟨19, 12⟩, ⟨20, 20⟩, ⟨30, 21⟩] 1 21 1048576 rfl (by decide) (by decide +kernel) (by decide) (by decide) (by decide +kernel) (by decide +kernel) (by decide +kernel) (by decide)]
  simp [fitsS]
 ·rw [fits_plain 19 6 n [⟨25, 20⟩] 6 64 rfl (by decide) (by decide +kernel) (by decide +kernel)]
  simp [fitsS]
 ·rw [fits_plain 19 7 n [⟨24, 20⟩] 5 32 rfl (by decide) (by decide +kernel) (by decide +kernel)]
  simp [fitsS]
 ·rw [fits_plain 19 8 n [⟨31, 20⟩] 12 4096 rfl (by decide) (by decide +kernel) (by decide +kernel)]
  simp [fitsS]
 ·rw [fits_plain 19 9 n [⟨19, 15⟩] 5 32 rfl (by decide) (by decide +kernel) (by decide +kernel)]
  simp [fitsS]
/-- one piece put -/
theorem put_step (k : Nat) (acc x : Int) (a0 : 0 ≤ acc) (a1 : acc < 4294967296) (x0 : 0 ≤ x) (x1 : x < 18446744073709551616) (ps : List S160) (sh i j : Int) (sg : Bool) (p n : Nat) (hr : rd_T160 ps i = ⟨(p : Int) + n - 1, p⟩) (hn : 1 ≤ n) (hn2 : n ≤ 31) (hpn : p + n ≤ 32)
  (h0 : 0 ≤ i) (h2 : i < (ps.length : Int)) (hj : wrap64 (i - 1) = j) (hd : acc / 2 ^ p % 2 ^ n = 0) :
  fields_Put.l0 (k + 1) acc x i ps sh sg = fields_Put.l0 k (acc + x % 2 ^ n * 2 ^ p) (x / 2 ^ n) j ps sh sg := by
 have hp0 : (0 : Int) < 2 ^ n := by exact_mod_cast Nat.two_pow_pos n
 have hp1 : (2 : Int) ^ n ≤ 2 ^ 31 := by exact_mod_cast Nat.pow_le_pow_right (by decide) hn2
 have e : wrap64 (wrap64 ((rd_T160 ps i).f0 - (rd_T160 ps i).f1) + 1) = n := by rw [hr]; unfold wrap64; dsimp only; omega
 have m0 := Int.emod_nonneg x (show (2 : Int) ^ n ≠ 0 by omega)
 have m1 := Int.emod_lt_of_pos x hp0
 have e1 : shl .u64 1 (n : Int) = 2 ^ n := by
  unfold shl
  rw [show min (n : Int).toNat IntKind.u64.bits = n by rw [show IntKind.u64.bits = 64 from rfl]; omega, Int.one_mul, IntKind.wrap_u64]
  omega
 have e2 : IntKind.u64.wrap ((2 : Int) ^ n - 1) = 2 ^ n - 1 := by rw [IntKind.wrap_u64]; omega
 have e3 : shr .u64 x (n : Int) = x / 2 ^ n := by
  unfold shr
  rw [show min (n : Int).toNat IntKind.u64.bits = n by rw [show IntKind.u64.bits = 64 from rfl]; omega]
 have e4 : ∀ y : Int, 0 ≤ y → y < 2 ^ n → shl .u32 y (p : Int) = y * 2 ^ p := by
  intro y y0 y1
  have hq : y * 2 ^ p < 2 ^ n * 2 ^ p := Int.mul_lt_mul_of_pos_right y1 (by exact_mod_cast Nat.two_pow_pos p)
  have hq2 : (2 : Int) ^ n * 2 ^ p ≤ 2 ^ 32 := by rw [← Int.pow_add]; exact_mod_cast Nat.pow_le_pow_right (by decide) (by omega)
  have hq3 : 0 ≤ y * 2 ^ p := Int.mul_nonneg y0 (by exact_mod_cast Nat.le_of_lt (Nat.two_pow_pos p))
  unfold shl
  rw [show min (p : Int).toNat IntKind.u32.bits = p by rw [show IntKind.u32.bits = 32 from rfl]; omega, IntKind.wrap_u32]
  omega
 simp only [fields_Put.l0]
 rw [if_pos (by omega), if_pos h0, if_pos h2, if_pos (by omega), e, hr]
 dsimp only; rw [if_pos (by omega), e1, e2, and_u64 n (by omega) x x0 x1, Int.emod_eq_of_lt m0 (by omega), e4 _ m0 m1, or_u32 p n acc _ a0 a1 hpn m0 m1 hd, e3, hj]
theorem small_div {x : Int} {p n : Nat} (h0 : 0 ≤ x) (h1 : x < 2 ^ p) : x / 2 ^ p % 2 ^ n = 0 := by rw [Int.ediv_eq_zero_of_lt h0 h1]; simp
theorem put_end (k : Nat) (acc x : Int) (ps : List S160) (sh : Int) (sg : Bool) : fields_Put.l0 (k + 1) acc x (-1) ps sh sg = some (acc, true) := by
 simp only [fields_Put.l0]
 rw [if_neg (by decide)]
theorem put_f (k : Nat) (f n : Int) (ps : List S160) (sh : Nat) (i : Int) (sg : Bool) (h : fields_shapeOf.f f = some (ps, (sh : Int), sg)) (hf : fields_Fits.f k f n = some true) (hi : wrap64 ((ps.length : Int) - 1) = i) (hs : sh ≤ 63) :
  fields_Put.f k f n = fields_Put.l0 k 0 (n % 18446744073709551616 / 2 ^ sh) i ps sh sg := by
 unfold fields_Put.f
 rw [hf]
 simp only [Option.bind_some]
 rw [if_pos trivial, h]
 simp only [Option.bind_some]
 have e : shr .u64 (IntKind.u64.wrap n) (sh : Int) = n % 18446744073709551616 / 2 ^ sh := by
  unfold shr
  rw [show min (sh : Int).toNat IntKind.u64.bits = sh by rw [show IntKind.u64.bits = 64 from rfl]; omega, IntKind.wrap_u64]
 rw [if_pos (by omega), hi, e]
theorem put_at (f n : Int) (f1 : 1 ≤ f) (f2 : f ≤ 9) (k : Nat) (hk : 20 ≤ k) : fields_Put.f k f n = some (if fitsS f n = true then (putS f n, true) else (0, false)) := by
 refine at_rounds (fun k => fields_Put.mono f n k) hk ?_
 have hfit := fits_at f n f1 f2 20 (by decide)
 by_cases h : fitsS f n = true
 ·rw [if_pos h]
  rw [h] at hfit
  have hf : f = 1 ∨ f = 2 ∨ f = 3 ∨ f = 4 ∨ f = 5 ∨ f = 6 ∨ f = 7 ∨ f = 8 ∨ f = 9 := by omega
  rcases hf with rfl | rfl | rfl | rfl | rfl | rfl | rfl | rfl | rfl
  ·rw [put_f 20 1 n [⟨31, 20⟩] 0 0 true rfl hfit (by decide +kernel) (by decide), put_step 19 0 _ (by decide) (by decide) (by omega) (by omega) _ _ _ (-1) _ 20 12 rfl (by decide) (by decide) (by decide) (by decide) (by decide) (by decide +kernel) (by decide), put_end]
   first | (simp [putS]; done) | (simp [putS]; omega)
  ·rw [put_f 20 2 n [⟨31, 25⟩, ⟨11, 7⟩] 0 1 true rfl hfit (by decide +kernel) (by decide), put_step 19 0 _ (by decide) (by decide) (by omega) (by omega) _ _ _ 0 _ 7 5 rfl (by decide) (by decide) (by decide) (by decide) (by decide) (by decide +kernel) (by decide),
    put_step 18 _ _ (by omega) (by omega) (by omega) (by omega) _ _ _ (-1) _ 25 7 rfl (by decide) (by decide) (by decide) (by decide) (by decide) (by decide +kernel) (by omega), put_end]
   first | (simp [putS]; done) | (simp [putS]; omega)
  ·rw [put_f 20 3 n [⟨31, 31⟩, ⟨7, 7⟩, ⟨30, 25⟩, ⟨11, 8⟩] 1 3 true rfl hfit (by decide +kernel) (by decide), put_step 19 0 _ (by decide) (by decide) (by omega) (by omega) _ _ _ 2 _ 8 4 rfl (by decide) (by decide) (by decide) (by decide) (by decide) (by decide +kernel) (by decide),
    put_step 18 _ _ (by omega) (by omega) (by omega) (by omega) _ _ _ 1 _ 25 6 rfl (by decide) (by decide) (by decide) (by decide) (by decide) (by decide +kernel) (by omega),
    put_step 17 _ _ (by omega) (by omega) (by omega) (by omega) _ _ _ 0 _ 7 1 rfl (by decide) (by decide) (by decide) (by decide) (by decide) (by decide +kernel) (by omega),
    put_step 16 _ _ (by omega) (by omega) (by omega) (by omega) _ _ _ (-1) _ 31 1 rfl (by decide) (by decide) (by decide) (by decide) (by decide) (by decide +kernel) (small_div (by omega) (by omega)), put_end]
   first | (simp [putS]; done) | (simp [putS]; omega)
  ·rw [put_f 20 4 n [⟨31, 12⟩] 12 0 true rfl hfit (by decide +kernel) (by decide), put_step 19 0 _ (by decide) (by decide) (by omega) (by omega) _ _ _ (-1) _ 12 20 rfl (by decide) (by decide) (by decide) (by decide) (by decide) (by decide +kernel) (by decide), put_end]
   first | (simp [putS]; done) | (simp [putS]; omega)
  ·rw [put_f 20 5 n [⟨31, 31⟩, ⟨19, 12⟩, ⟨20, 20⟩, ⟨30, 21⟩] 1 3 true rfl hfit (by decide +kernel) (by decide), put_step 19 0 _ (by decide) (by decide) (by omega) (by omega) _ _ _ 2 _ 21 10 rfl (by decide) (by decide) (by decide) (by decide) (by decide) (by decide +kernel) (by decide),
    put_step 18 _ _ (by omega) (by omega) (by omega) (by omega) _ _ _ 1 _ 20 1 rfl (by decide) (by decide) (by decide) (by decide) (by decide) (by decide +kernel) (by omega),
    put_step 17 _ _ (by omega) (by omega) (by omega) (by omega) _ _ _ 0 _ 12 8 rfl (by decide) (by decide) (by decide) (by decide) (by decide) (by decide +kernel) (by omega),
    put_step 16 _ _ (by omega) (by omega) (by omega) (by omega) _ _ _ (-1) _ 31 1 rfl (by decide) (by decide) (by decide) (by decide) (by decide) (by decide +kernel) (small_div (by omega) (by omega)), put_end]
   first | (simp [putS]; done) | (simp [putS]; omega)
  ·rw [put_f 20 6 n [⟨25, 20⟩] 0 0 false rfl hfit (by decide +kernel) (by decide), put_step 19 0 _ (by decide) (by decide) (by omega) (by omega) _ _ _ (-1) _ 20 6 rfl (by decide) (by decide) (by decide) (by decide) (by decide) (by decide +kernel) (by decide), put_end]
   first | (simp [putS]; done) | (simp [putS]; omega)
  ·rw [put_f 20 7 n [⟨24, 20⟩] 0 0 false rfl hfit (by decide +kernel) (by decide), put_step 19 0 _ (by decide) (by decide) (by omega) (by omega) _ _ _ (-1) _ 20 5 rfl (by decide) (by decide) (by decide) (by decide) (by decide) (by decide +kernel) (by decide), put_end]
   first | (simp [putS]; done) | (simp [putS]; omega)
  ·rw [put_f 20 8 n [⟨31, 20⟩] 0 0 false rfl hfit (by decide +kernel) (by decide), put_step 19 0 _ (by decide) (by decide) (by omega) (by omega) _ _ _ (-1) _ 20 12 rfl (by decide) (by decide) (by decide) (by decide) (by decide) (by decide +kernel) (by decide), put_end]
   first | (simp [putS]; done) | (simp [putS]; omega)
  ·rw [put_f 20 9 n [⟨19, 15⟩] 0 0 false rfl hfit (by decide +kernel) (by decide), put_step 19 0 _ (by decide) (by decide) (by omega) (by omega) _ _ _ (-1) _ 15 5 rfl (by decide) (by decide) (by decide) (by decide) (by decide) (by decide +kernel) (by decide), put_end]
   first | (simp [putS]; done) | (simp [putS]; omega)
 ·rw [if_neg h]
  have hb : fitsS f n = false := by simpa using h
  rw [hb] at hfit
  unfold fields_Put.f
  rw [hfit]
  rfl
end Go.Proofs.YtknkfimpflodeaaGreatDoor.P
