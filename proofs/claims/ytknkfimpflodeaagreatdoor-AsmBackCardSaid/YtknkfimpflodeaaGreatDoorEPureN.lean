/- What the printed functions of fields and of its reference come to, in numbers. No program. -/
import Derived.Test.YtknkfimpflodeaaGreatDoorThere
import Derived.Test.YtknkfimpflodeaaGreatDoorGA
namespace Go.Proofs.YtknkfimpflodeaaGreatDoor.P
open Go.RowKit Go.Proofs.YtknkfimpflodeaaGreatDoorW.PrintWords Go.Proofs.YtknkfimpflodeaaGreatDoorW.PrintLast Go.Proofs.YtknkfimpflodeaaGreatDoorW.PrintMore
set_option linter.unusedVariables false
theorem shl_u32_one (n : Nat) (hn : n ≤ 31) (y : Int) (hy : y = n) : (shl .u32 1 y - 1) % 4294967296 = 2 ^ n - 1 := by
 have hp : (2 : Int) ^ n ≤ 2 ^ 31 := by exact_mod_cast Nat.pow_le_pow_right (by decide) hn
 have hp0 : (0 : Int) < 2 ^ n := by exact_mod_cast Nat.two_pow_pos n
 have e : min y.toNat 32 = n := by omega
 unfold shl
 rw [show IntKind.u32.bits = 32 from rfl, e, IntKind.wrap_u32]
 omega
theorem shr_u32_at (w : Int) (p : Nat) (hp : p ≤ 31) (y : Int) (hy : y = p) : shr .u32 w y = w / 2 ^ p := by
 have e : min y.toNat 32 = p := by omega
 unfold shr
 rw [show IntKind.u32.bits = 32 from rfl, e]
theorem field_at (w : Int) (w0 : 0 ≤ w) (w1 : w < 4294967296) (hi lo : Int) (p n : Nat) (hlo : lo = p) (hhi : hi = p + n - 1) (hn : 1 ≤ n) (hn2 : n ≤ 31) (hpn : p + n ≤ 32) : fields_Field.f w hi lo = some (w / 2 ^ p % 2 ^ n) := by
 have e : wrap64 (wrap64 (hi - lo) + 1) = n := by unfold wrap64; omega
 unfold fields_Field.f
 rw [if_neg (by omega), if_neg (by omega), if_neg (by omega), if_pos (by omega), if_pos (by omega), shr_u32_at w p (by omega) lo hlo, shl_u32_one n hn2 _ e]
 have hd0 : 0 ≤ w / 2 ^ p := Int.ediv_nonneg w0 (by exact_mod_cast Nat.le_of_lt (Nat.two_pow_pos p))
 have hd1 : w / 2 ^ p ≤ w := Int.ediv_le_self _ w0
 rw [and_u32 n (by omega) _ hd0 (by omega)]
/-! the program's number -/
theorem or_u64 (x y : Int) (n : Nat) (hn : n ≤ 31) (x0 : 0 ≤ x) (x1 : x < 4294967296) (y0 : 0 ≤ y) (y1 : y < 2 ^ n) (s : Int) (hs : s = n) : Go.bits .or .u64 (shl .u64 x s) (IntKind.u64.wrap y) = x * 2 ^ n + y := by
 have hp : (2 : Int) ^ n ≤ 2 ^ 31 := by exact_mod_cast Nat.pow_le_pow_right (by decide) hn
 have hp0 : (0 : Int) < 2 ^ n := by exact_mod_cast Nat.two_pow_pos n
 have e : min s.toNat 64 = n := by omega
 have hx : x * 2 ^ n ≤ 4294967296 * 2 ^ 31 := by
  calc x * 2 ^ n ≤ 4294967296 * 2 ^ n := Int.mul_le_mul_of_nonneg_right (by omega) (by omega)
   _ ≤ 4294967296 * 2 ^ 31 := Int.mul_le_mul_of_nonneg_left hp (by decide)
 have hx0 : 0 ≤ x * 2 ^ n := Int.mul_nonneg x0 (by omega)
 unfold shl
 rw [show IntKind.u64.bits = 64 from rfl, e, IntKind.wrap_u64, IntKind.wrap_u64, Int.emod_eq_of_lt hx0 (by omega), Int.emod_eq_of_lt y0 (by omega)]
 exact bits_join .u64 64 (by decide) (fun n h0 h1 => by rw [IntKind.wrap_u64]; omega) n _ _ hx0 (Int.mul_emod_left _ _) (by omega) y0 y1 (by omega)
theorem num_step (k : Nat) (w x : Int) (w0 : 0 ≤ w) (w1 : w < 4294967296) (x0 : 0 ≤ x) (x1 : x < 4294967296) (ps q : List S160) (sh len i j : Int) (sg : Bool) (p n : Nat) (hr : rd_T160 ps i = ⟨(p : Int) + n - 1, p⟩)
  (hn : 1 ≤ n) (hn2 : n ≤ 31) (hpn : p + n ≤ 32) (h0 : 0 ≤ i) (h1 : i < len) (h2 : i < (ps.length : Int)) (hj : wrap64 (i + 1) = j) :
  fields_Number.l0 (k + 1) w x ps len i q sh sg = fields_Number.l0 k w (x * 2 ^ n + w / 2 ^ p % 2 ^ n) ps len j q sh sg := by
 have hp0 : (0 : Int) < 2 ^ n := by exact_mod_cast Nat.two_pow_pos n
 have e : wrap64 (wrap64 ((rd_T160 ps i).f0 - (rd_T160 ps i).f1) + 1) = n := by rw [hr]; unfold wrap64; dsimp only; omega
 simp only [fields_Number.l0]
 rw [if_pos h1, if_pos h0, if_pos h2, if_pos (by omega), e, hr]
 dsimp only; rw [field_at w w0 w1 _ _ p n rfl rfl hn hn2 hpn]
 simp only [Option.bind_some]
 rw [or_u64 x _ n hn2 x0 x1 (Int.emod_nonneg _ (by omega)) (Int.emod_lt_of_pos _ hp0) _ rfl, hj]
theorem num_end (k : Nat) (w x : Int) (x0 : 0 ≤ x) (ps q : List S160) (len : Int) (sh t : Nat) (ht : fields_shape_size.f k q sh true = some (t : Int)) (h1 : x * 2 ^ sh < 2 ^ t) (hs : sh ≤ 31) (t1 : 1 ≤ t) (t2 : t ≤ 32) :
  fields_Number.l0 (k + 1) w x ps len len q sh true = some (sx (2 ^ (t - 1)) (x * 2 ^ sh), true) := by
 have hp : (2 : Int) ^ t ≤ 2 ^ 32 := by exact_mod_cast Nat.pow_le_pow_right (by decide) t2
 have hy0 : 0 ≤ x * 2 ^ sh := Int.mul_nonneg x0 (by exact_mod_cast Nat.le_of_lt (Nat.two_pow_pos sh))
 have e1 : shl .u64 x (sh : Int) = x * 2 ^ sh := by
  unfold shl
  rw [show min (sh : Int).toNat IntKind.u64.bits = sh by rw [show IntKind.u64.bits = 64 from rfl]; omega, IntKind.wrap_u64]
  omega
 have e2 : wrap64 (64 - (t : Int)) = ((64 - t : Nat) : Int) := by unfold wrap64; omega
 simp only [fields_Number.l0]
 rw [if_neg (by omega), if_pos (by omega), if_pos trivial, ht]
 simp only [Option.bind_some]
 rw [e2, if_pos (by omega), e1]
 generalize x * 2 ^ sh = y at *
 have e3 : shl .u64 y ((64 - t : Nat) : Int) = y * 2 ^ (64 - t) := by
  have hq : (2 : Int) ^ t * 2 ^ (64 - t) = 2 ^ 64 := by rw [← Int.pow_add, show t + (64 - t) = 64 by omega]
  have hq0 : (0 : Int) < 2 ^ (64 - t) := by exact_mod_cast Nat.two_pow_pos (64 - t)
  have hy : y * 2 ^ (64 - t) < 2 ^ t * 2 ^ (64 - t) := Int.mul_lt_mul_of_pos_right h1 hq0
  have hyn : 0 ≤ y * 2 ^ (64 - t) := Int.mul_nonneg hy0 (by omega)
  unfold shl
  rw [show min ((64 - t : Nat) : Int).toNat IntKind.u64.bits = 64 - t by rw [show IntKind.u64.bits = 64 from rfl]; omega, IntKind.wrap_u64]
  omega
 have e4 : shr .i64 (wrap64 (y * 2 ^ (64 - t))) ((64 - t : Nat) : Int) = sx (2 ^ (t - 1)) y := by
  have hq : (2 : Int) ^ (t - 1) * 2 ^ (64 - t) = 2 ^ 63 := by rw [← Int.pow_add, show t - 1 + (64 - t) = 63 by omega]
  have hd : (2 : Int) ^ t = 2 * 2 ^ (t - 1) := by
   rw [show t = (t - 1) + 1 by omega, Int.pow_succ, Nat.add_sub_cancel, Int.mul_comm]
  have hq0 : (0 : Int) < 2 ^ (64 - t) := by exact_mod_cast Nat.two_pow_pos (64 - t)
  have hm0 : (0 : Int) < 2 ^ (t - 1) := by exact_mod_cast Nat.two_pow_pos (t - 1)
  unfold shr sx
  rw [show min ((64 - t : Nat) : Int).toNat IntKind.i64.bits = 64 - t by rw [show IntKind.i64.bits = 64 from rfl]; omega]
  generalize (2 : Int) ^ (64 - t) = Q at *
  generalize (2 : Int) ^ (t - 1) = M at *
  have hQ : Q ≠ 0 := by omega
  split
  ·rename_i hlt
   have : y * Q < M * Q := Int.mul_lt_mul_of_pos_right hlt hq0
   have hyn : 0 ≤ y * Q := Int.mul_nonneg hy0 (by omega)
   have ew : wrap64 (y * Q) = y * Q := by unfold wrap64; omega
   rw [ew, Int.mul_ediv_cancel _ hQ]
  ·rename_i hge
   have h2 : M * Q ≤ y * Q := Int.mul_le_mul_of_nonneg_right (by omega) (by omega)
   have h3 : y * Q < 2 * M * Q := by
    rw [← hd]
    exact Int.mul_lt_mul_of_pos_right h1 hq0
   have h4 : 2 * M * Q = 2 * (M * Q) := by rw [Int.mul_assoc]
   have ew : wrap64 (y * Q) = (y - 2 * M) * Q := by
    rw [Int.sub_mul, h4]; unfold wrap64; omega
   rw [ew, Int.mul_ediv_cancel _ hQ]
 rw [e3, e4]
theorem num_plain (k : Nat) (w x : Int) (x0 : 0 ≤ x) (x1 : x < 4294967296) (ps q : List S160) (len : Int) : fields_Number.l0 (k + 1) w x ps len len q 0 false = some (x, true) := by
 simp only [fields_Number.l0]
 rw [if_neg (by omega), if_pos (by omega), if_neg (by decide)]
 have e1 : shl .u64 x 0 = x := by
  unfold shl
  rw [show min (0 : Int).toNat IntKind.u64.bits = 0 from rfl, IntKind.wrap_u64]
  omega
 rw [e1]
 congr 2
 unfold wrap64; omega
theorem number_f (k : Nat) (f w : Int) (ps : List S160) (sh len : Int) (sg : Bool) (h : fields_shapeOf.f f = some (ps, sh, sg)) (hl : (ps.length : Int) = len) (hne : len ≠ 0) : fields_Number.f k f w = fields_Number.l0 k w 0 ps len 0 ps sh sg := by
 unfold fields_Number.f
 rw [h]
 simp only [Option.bind_some]
 rw [hl, if_neg hne]
theorem number_at (f w : Int) (w0 : 0 ≤ w) (w1 : w < 4294967296) (f1 : 1 ≤ f) (f2 : f ≤ 9) : fields_Number.f 20 f w = some (numS f w, true) := by
 have hf : f = 1 ∨ f = 2 ∨ f = 3 ∨ f = 4 ∨ f = 5 ∨ f = 6 ∨ f = 7 ∨ f = 8 ∨ f = 9 := by omega
 rcases hf with rfl | rfl | rfl | rfl | rfl | rfl | rfl | rfl | rfl
 ·rw [number_f 20 1 w [⟨31, 20⟩] 0 1 true rfl rfl (by decide)]
  rw [num_step 19 w 0 w0 w1 (by decide) (by decide) _ _ _ _ _ 1 _ 20 12 rfl (by decide) (by decide) (by decide) (by decide) (by decide) (by decide) (by decide +kernel)]
  have := num_end 18 w (0 * 2 ^ 12 + w / 2 ^ 20 % 2 ^ 12) (by omega) [⟨31, 20⟩] [⟨31, 20⟩] 1 0 12 (by decide +kernel) (by omega) (by decide) (by decide) (by decide)
  refine this.trans ?_
  simp [numS]
 ·rw [number_f 20 2 w [⟨31, 25⟩, ⟨11, 7⟩] 0 2 true rfl rfl (by decide)]
  rw [num_step 19 w 0 w0 w1 (by decide) (by decide) _ _ _ _ _ 1 _ 25 7 rfl (by decide) (by decide) (by decide) (by decide) (by decide) (by decide) (by decide +kernel)]
  rw [num_step 18 w _ w0 w1 (by omega) (by omega) _ _ _ _ _ 2 _ 7 5 rfl (by decide) (by decide) (by decide) (by decide) (by decide) (by decide) (by decide +kernel)]
  have := num_end 17 w ((0 * 2 ^ 7 + w / 2 ^ 25 % 2 ^ 7) * 2 ^ 5 + w / 2 ^ 7 % 2 ^ 5) (by omega) [⟨31, 25⟩, ⟨11, 7⟩] [⟨31, 25⟩, ⟨11, 7⟩] 2 0 12 (by decide +kernel) (by omega) (by decide) (by decide) (by decide)
  refine this.trans ?_
  simp [numS]
 ·rw [number_f 20 3 w [⟨31, 31⟩, ⟨7, 7⟩, ⟨30, 25⟩, ⟨11, 8⟩] 1 4 true rfl rfl (by decide)]
  rw [num_step 19 w 0 w0 w1 (by decide) (by decide) _ _ _ _ _ 1 _ 31 1 rfl (by decide) (by decide) (by decide) (by decide) (by decide) (by decide) (by decide +kernel)]
  rw [num_step 18 w _ w0 w1 (by omega) (by omega) _ _ _ _ _ 2 _ 7 1 rfl (by decide) (by decide) (by decide) (by decide) (by decide) (by decide) (by decide +kernel)]
  rw [num_step 17 w _ w0 w1 (by omega) (by omega) _ _ _ _ _ 3 _ 25 6 rfl (by decide) (by decide) (by decide) (by decide) (by decide) (by decide) (by decide +kernel)]
  rw [num_step 16 w _ w0 w1 (by omega) (by omega) _ _ _ _ _ 4 _ 8 4 rfl (by decide) (by decide) (by decide) (by decide) (by decide) (by decide) (by decide +kernel)]
  have := num_end 15 w ((((0 * 2 ^ 1 + w / 2 ^ 31 % 2 ^ 1) * 2 ^ 1 + w / 2 ^ 7 % 2 ^ 1) * 2 ^ 6 + w / 2 ^ 25 % 2 ^ 6) * 2 ^ 4 + w / 2 ^ 8 % 2 ^ 4) (by omega) [⟨31, 31⟩, ⟨7, 7⟩, ⟨30, 25⟩, ⟨11, 8⟩] [⟨31, 31⟩, ⟨7, 7⟩, ⟨30, 25⟩, ⟨11, 8⟩] 4 1 13 (by decide +kernel) (by omega) (by decide) (by decide) (by decide)
  refine this.trans ?_
  simp [numS]
 ·rw [number_f 20 4 w [⟨31, 12⟩] 12 1 true rfl rfl (by decide)]
  rw [num_step 19 w 0 w0 w1 (by decide) (by decide) _ _ _ _ _ 1 _ 12 20 rfl (by decide) (by decide) (by decide) (by decide) (by decide) (by decide) (by decide +kernel)]
  have := num_end 18 w (0 * 2 ^ 20 + w / 2 ^ 12 % 2 ^ 20) (by omega) [⟨31, 12⟩] [⟨31, 12⟩] 1 12 32 (by decide +kernel) (by omega) (by decide) (by decide) (by decide)
  refine this.trans ?_
  simp [numS]
 ·rw [number_f 20 5 w [⟨31, 31⟩, ⟨19, 12⟩, ⟨20, 20⟩, ⟨30, 21⟩] 1 4 true rfl rfl (by decide)]
  rw [num_step 19 w 0 w0 w1 (by decide) (by decide) _ _ _ _ _ 1 _ 31 1 rfl (by decide) (by decide) (by decide) (by decide) (by decide) (by decide) (by decide +kernel)]
  rw [num_step 18 w _ w0 w1 (by omega) (by omega) _ _ _ _ _ 2 _ 12 8 rfl (by decide) (by decide) (by decide) (by decide) (by decide) (by decide) (by decide +kernel)]
  rw [num_step 17 w _ w0 w1 (by omega) (by omega) _ _ _ _ _ 3 _ 20 1 rfl (by decide) (by decide) (by decide) (by decide) (by decide) (by decide) (by decide +kernel)]
  rw [num_step 16 w _ w0 w1 (by omega) (by omega) _ _ _ _ _ 4 _ 21 10 rfl (by decide) (by decide) (by decide) (by decide) (by decide) (by decide) (by decide +kernel)]
  have := num_end 15 w ((((0 * 2 ^ 1 + w / 2 ^ 31 % 2 ^ 1) * 2 ^ 8 + w / 2 ^ 12 % 2 ^ 8) * 2 ^ 1 + w / 2 ^ 20 % 2 ^ 1) * 2 ^ 10 + w / 2 ^ 21 % 2 ^ 10) (by omega) [⟨31, 31⟩, ⟨19, 12⟩, ⟨20, 20⟩, ⟨30, 21⟩] [⟨31, 31⟩, ⟨19, 12⟩, ⟨20, 20⟩, ⟨30, 21⟩] 4 1 21 (by decide +kernel) (by omega) (by decide) (by decide) (by decide)
  refine this.trans ?_
  simp [numS]
 ·rw [number_f 20 6 w [⟨25, 20⟩] 0 1 false rfl rfl (by decide)]
  rw [num_step 19 w 0 w0 w1 (by decide) (by decide) _ _ _ _ _ 1 _ 20 6 rfl (by decide) (by decide) (by decide) (by decide) (by decide) (by decide) (by decide +kernel), num_plain 18 w _ (by omega) (by omega)]
  simp [numS]
 ·rw [number_f 20 7 w [⟨24, 20⟩] 0 1 false rfl rfl (by decide)]
  rw [num_step 19 w 0 w0 w1 (by decide) (by decide) _ _ _ _ _ 1 _ 20 5 rfl (by decide) (by decide) (by decide) (by decide) (by decide) (by decide) (by decide +kernel), num_plain 18 w _ (by omega) (by omega)]
  simp [numS]
 ·rw [number_f 20 8 w [⟨31, 20⟩] 0 1 false rfl rfl (by decide)]
  rw [num_step 19 w 0 w0 w1 (by decide) (by decide) _ _ _ _ _ 1 _ 20 12 rfl (by decide) (by decide) (by decide) (by decide) (by decide) (by decide) (by decide +kernel), num_plain 18 w _ (by omega) (by omega)]
  simp [numS]
 ·rw [number_f 20 9 w [⟨19, 15⟩] 0 1 false rfl rfl (by decide)]
  rw [num_step 19 w 0 w0 w1 (by decide) (by decide) _ _ _ _ _ 1 _ 15 5 rfl (by decide) (by decide) (by decide) (by decide) (by decide) (by decide) (by decide +kernel), num_plain 18 w _ (by omega) (by omega)]
  simp [numS]
end Go.Proofs.YtknkfimpflodeaaGreatDoor.P
