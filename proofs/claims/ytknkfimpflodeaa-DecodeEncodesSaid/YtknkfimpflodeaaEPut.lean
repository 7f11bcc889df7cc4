/- What the document's Put comes to, in numbers. No program. -/
import Derived.Test.YtknkfimpflodeaaEPureQ
import Derived.Test.YtknkfimpflodeaaChain
namespace Go.Proofs.Ytknkfimpflodeaa.P
open Go.RowKit Go.Proofs.YtknkfimpflodeaaW.PrintWords Go.Proofs.YtknkfimpflodeaaW.PrintLast Go.Proofs.YtknkfimpflodeaaW.PrintMore
set_option linter.unusedVariables false
def putL (n : Int) : List Int → Int → Int
  | [], acc => acc
  | p :: t, acc => putL n t (if 0 ≤ p ∧ n / 2 ^ t.length % 2 = 1 then Go.bits .or .u32 acc (2 ^ p.toNat) else acc)
theorem shl_u32_bit (p : Int) (h0 : 0 ≤ p) (h1 : p ≤ 31) : shl .u32 1 (IntKind.u64.wrap p) = 2 ^ p.toNat := by
  obtain ⟨n, rfl⟩ := Int.eq_ofNat_of_zero_le h0
  have hn : n ≤ 31 := by omega
  rw [show IntKind.u64.wrap (n : Int) = (n : Int) by rw [IntKind.wrap_u64]; omega]
  have hp : 2 ^ n < 4294967296 := Nat.pow_lt_pow_right (by decide) (show n < 32 by omega)
  unfold shl
  rw [show min (n : Int).toNat IntKind.u32.bits = n by rw [show IntKind.u32.bits = 32 from rfl]; omega, Int.one_mul, IntKind.wrap_u32, Int.toNat_natCast]
  have : ((2 : Int) ^ n) = ((2 ^ n : Nat) : Int) := by simp
  rw [this]
  clear this
  generalize 2 ^ n = q at hp ⊢
  omega
theorem rput_loop (n : Int) (l : List Int) (hl : l.length ≤ 40) (hp : ∀ p ∈ l, p ≤ 31) : ∀ (d i k : Nat) (acc : Int), i + d = l.length → d < k → mezzanineref08_Put.l0 k n l acc (i : Int) = some (putL n (l.drop i) acc, true)
  | 0, i, k, acc, hi, hk => by
    obtain ⟨m, rfl⟩ : ∃ m, k = m + 1 := ⟨k - 1, by omega⟩
    have : l.drop i = [] := List.drop_eq_nil_of_le (by omega)
    rw [this]
    simp only [mezzanineref08_Put.l0]
    rw [if_neg (by omega)]
    rfl
  | d + 1, i, k, acc, hi, hk => by
    obtain ⟨m, rfl⟩ : ∃ m, k = m + 1 := ⟨k - 1, by omega⟩
    have hlt : i < l.length := by omega
    have hd : l.drop i = l[i] :: l.drop (i + 1) := List.drop_eq_getElem_cons hlt
    have hrd : rd l (i : Int) = l[i] := by simp [rd, hlt]
    have hlen : (l.drop (i + 1)).length = d := by simp; omega
    have ih := fun acc => rput_loop n l hl hp d (i + 1) m acc (by omega) (by omega)
    have hw : wrap64 ((i : Int) + 1) = ((i + 1 : Nat) : Int) := by unfold wrap64; omega
    have hle := hp _ (List.getElem_mem hlt)
    have hs : IntKind.u64.wrap (wrap64 (wrap64 ((l.length : Int) - 1) - (i : Int))) = (d : Int) := by
      rw [show wrap64 (wrap64 ((l.length : Int) - 1) - (i : Int)) = (d : Int) by unfold wrap64; omega, IntKind.wrap_u64]; omega
    rw [hd]
    simp only [mezzanineref08_Put.l0, putL]
    rw [if_pos (by omega), if_pos (by omega), hrd, hw, ih, ih, hs, hlen]
    by_cases hneg : l[i] ≥ 0
    · rw [if_pos hneg, if_pos (by omega), shr_i64_at n d (by omega) _ rfl]
      have ha := and_i64 1 (by decide) (n / 2 ^ d)
      simp only [Int.pow_one] at ha
      rw [show Go.bits .and .i64 (n / 2 ^ d) 1 = n / 2 ^ d % 2 from ha, shl_u32_bit _ hneg hle, if_pos (show 0 ≤ IntKind.u64.wrap l[i] by rw [IntKind.wrap_u64]; omega)]
      by_cases h : n / 2 ^ d % 2 = 1
      · rw [if_pos h, if_pos ⟨hneg, h⟩]
      · rw [if_neg h, if_neg (fun q => h q.2)]
    · rw [if_neg hneg, if_neg (fun q => hneg q.1)]
theorem putL_run (n : Int) (p : Nat) (rest : List Int) : ∀ (m : Nat) (acc : Int), p + m ≤ 32 → 0 ≤ acc → acc < 4294967296 → acc / 2 ^ p % 2 ^ m = 0 → putL n (run p m ++ rest) acc = putL n rest (acc + n / 2 ^ rest.length % 2 ^ m * 2 ^ p)
  | 0, acc, _, _, _, _ => by simp [run, Int.emod_one]
  | m + 1, acc, hpm, a0, a1, ha => by
    show putL n (run p m ++ rest) (if 0 ≤ ((p + m : Nat) : Int) ∧ n / 2 ^ (run p m ++ rest).length % 2 = 1 then Go.bits .or .u32 acc (2 ^ ((p + m : Nat) : Int).toNat) else acc) = _
    have hlen : (run p m).length = m := by clear ha hpm; induction m with | zero => rfl | succ m ih => show (run p m).length + 1 = _; rw [ih]
    rw [List.length_append, hlen, Nat.add_comm m, div_pow, Int.toNat_natCast, mod_succ]
    rw [mod_succ] at ha
    have hM := two_pos m
    have hP := two_pos p
    have r0 := Int.emod_nonneg (acc / 2 ^ p) (show (2 : Int) ^ m ≠ 0 by omega)
    have hb : acc / 2 ^ p / 2 ^ m % 2 = 0 ∨ acc / 2 ^ p / 2 ^ m % 2 = 1 := by omega
    have hb0 : acc / 2 ^ p / 2 ^ m % 2 = 0 := by
      rcases hb with h | h
      · exact h
      · rw [h] at ha; omega
    have hr : acc / 2 ^ p % 2 ^ m = 0 := by rw [hb0] at ha; omega
    have hq : n / 2 ^ rest.length / 2 ^ m % 2 = 0 ∨ n / 2 ^ rest.length / 2 ^ m % 2 = 1 := by omega
    rcases hq with h | h
    · rw [h, if_neg (by omega), putL_run n p rest m acc (by omega) a0 a1 hr, Int.zero_mul, Int.zero_add]
    · have e := or_at (p + m) 1 acc 1 (2 ^ (p + m)) rfl (by omega) a0 a1 (by decide) (by decide) (by rw [div_pow]; exact hb0)
      rw [Int.one_mul] at e
      have hlt : (2 : Int) ^ (p + m) < 4294967296 := by
        have h32 : 2 ^ (p + m) < 4294967296 := Nat.pow_lt_pow_right (by decide) (show p + m < 32 by omega)
        have h33 : ((2 : Int) ^ (p + m)) = ((2 ^ (p + m) : Nat) : Int) := by simp
        rw [h33]
        clear h33
        generalize 2 ^ (p + m) = q at h32 ⊢
        omega
      obtain ⟨g0, g1⟩ := or_range acc (2 ^ (p + m)) a0 a1 (Int.le_of_lt (two_pos _)) hlt
      rw [h, if_pos ⟨by omega, rfl⟩]
      rw [e] at g0 g1 ⊢
      have hx : (2 : Int) ^ (p + m) = 2 ^ m * 2 ^ p := by rw [Nat.add_comm, Int.pow_add]
      have hz : (acc + 2 ^ (p + m)) / 2 ^ p % 2 ^ m = 0 := by
        rw [hx, Int.add_mul_ediv_right _ _ (by omega)]
        have := Int.add_mul_emod_self_left (acc / 2 ^ p) (2 ^ m) 1
        rw [Int.mul_one] at this
        rw [this]; exact hr
      rw [putL_run n p rest m _ (by omega) g0 g1 hz, hx, Int.one_mul, Int.add_mul, Int.add_assoc]
theorem putL_at (n : Int) (p m : Nat) (P M Q : Int) (rest : List Int) (acc : Int) (hP : P = 2 ^ p) (hM : M = 2 ^ m) (h : p + m ≤ 32) (a0 : 0 ≤ acc) (a1 : acc < 4294967296) (ha : acc / P % M = 0) (hL : Q = 2 ^ rest.length) : putL n (run p m ++ rest) acc = putL n rest (acc + n / Q % M * P) := by
  subst hL; subst hP; subst hM; exact putL_run n p rest m acc h a0 a1 ha
theorem nil_three (p q r : Int) (q0 : 0 ≤ q) (q1 : q < 2) : (0 + p * 2147483648 + q * 128 + r * 33554432) / 256 % 16 = 0 := by
  have : 0 + p * 2147483648 + q * 128 + r * 33554432 = q * 128 + 4096 * (p * 524288 + r * 8192) := by omega
  rw [this]
  generalize p * 524288 + r * 8192 = h
  omega
theorem nil_five (p q r : Int) (q0 : 0 ≤ q) (q1 : q < 256) (r0 : 0 ≤ r) (r1 : r < 2) : (0 + p * 2147483648 + q * 4096 + r * 1048576) / 2097152 % 1024 = 0 := by
  have : 0 + p * 2147483648 + q * 4096 + r * 1048576 = (q * 4096 + r * 1048576) + 2147483648 * p := by omega
  rw [this]
  have h0 : 0 ≤ q * 4096 + r * 1048576 := by omega
  have h1 : q * 4096 + r * 1048576 < 2097152 := by omega
  generalize q * 4096 + r * 1048576 = h at *
  omega
theorem putL_noughts (n : Int) (acc : Int) : ∀ m, putL n (List.replicate m (-1)) acc = acc
  | 0 => rfl
  | m + 1 => by
    show putL n (List.replicate m (-1)) (if (0 : Int) ≤ -1 ∧ _ then _ else acc) = _
    rw [if_neg (by omega), putL_noughts n acc m]
theorem rput_of (f n : Int) (l : List Int) (hpl : mezzanineref08_Places.f 120 f = some l) (hl : l.length ≤ 40) (hp : ∀ p ∈ l, p ≤ 31) (hf : mezzanineref08_Fits.f 120 f n = some true) : mezzanineref08_Put.f 120 f n = some (putL n l 0, true) := by
  unfold mezzanineref08_Put.f
  rw [hf, Option.bind_some, if_pos rfl, hpl, Option.bind_some]
  exact rput_loop n l hl hp l.length 0 120 0 (by omega) (by omega)
theorem rput_at (f n : Int) (f1 : 1 ≤ f) (f2 : f ≤ 9) (hfit : fitsS f n = true) (k : Nat) (hk : 120 ≤ k) : mezzanineref08_Put.f k f n = some (putS f n, true) := by
  refine at_rounds (fun k => mezzanineref08_Put.mono f n k) hk ?_
  have hft := rfits_at f n f1 f2 120 (by decide)
  rw [hfit] at hft
  have hf : f = 1 ∨ f = 2 ∨ f = 3 ∨ f = 4 ∨ f = 5 ∨ f = 6 ∨ f = 7 ∨ f = 8 ∨ f = 9 := by omega
  rcases hf with rfl | rfl | rfl | rfl | rfl | rfl | rfl | rfl | rfl
  · rw [rput_of 1 n (run 20 12 ++ []) (by decide +kernel) (by decide) (by decide) hft, putL_at n 20 12 1048576 4096 1 [] 0 (by decide) (by decide) (by decide) (by decide) (by decide) (by decide) (by decide)]
    simp [putL, putS]
  · rw [rput_of 2 n (run 25 7 ++ (run 7 5 ++ [])) (by decide +kernel) (by decide) (by decide) hft, putL_at n 25 7 33554432 128 32 _ 0 (by decide) (by decide) (by decide) (by decide) (by decide) (by decide) (by decide),
      putL_at n 7 5 128 32 1 [] _ (by decide) (by decide) (by decide) (by omega) (by omega) (by omega) (by decide)]
    simp [putL, putS]; omega
  · rw [rput_of 3 n (run 31 1 ++ (run 7 1 ++ (run 25 6 ++ (run 8 4 ++ List.replicate 1 (-1))))) (by decide +kernel) (by decide) (by decide) hft, putL_at n 31 1 2147483648 2 4096 _ 0 (by decide) (by decide) (by decide) (by decide) (by decide) (by decide) (by decide),
      putL_at n 7 1 128 2 2048 _ _ (by decide) (by decide) (by decide) (by omega) (by omega) (by omega) (by decide), putL_at n 25 6 33554432 64 32 _ _ (by decide) (by decide) (by decide) (by omega) (by omega) (by omega) (by decide), putL_at n 8 4 256 16 2 _ _ (by decide) (by decide) (by decide) (by omega) (by omega) (nil_three _ _ _ (by omega) (by omega)) (by decide), putL_noughts]
    simp [putS]; omega
  · rw [rput_of 4 n (run 12 20 ++ List.replicate 12 (-1)) (by decide +kernel) (by decide) (by decide) hft, putL_at n 12 20 4096 1048576 4096 _ 0 (by decide) (by decide) (by decide) (by decide) (by decide) (by decide) (by decide), putL_noughts]
    simp [putS]
  · rw [rput_of 5 n (run 31 1 ++ (run 12 8 ++ (run 20 1 ++ (run 21 10 ++ List.replicate 1 (-1))))) (by decide +kernel) (by decide) (by decide) hft, putL_at n 31 1 2147483648 2 1048576 _ 0 (by decide) (by decide) (by decide) (by decide) (by decide) (by decide) (by decide),
      putL_at n 12 8 4096 256 4096 _ _ (by decide) (by decide) (by decide) (by omega) (by omega) (by omega) (by decide), putL_at n 20 1 1048576 2 2048 _ _ (by decide) (by decide) (by decide) (by omega) (by omega) (by omega) (by decide), putL_at n 21 10 2097152 1024 2 _ _ (by decide) (by decide) (by decide) (by omega) (by omega) (nil_five _ _ _ (by omega) (by omega) (by omega) (by omega)) (by decide), putL_noughts]
    simp [putS]; omega
  · rw [rput_of 6 n (run 20 6 ++ []) (by decide +kernel) (by decide) (by decide) hft, putL_at n 20 6 1048576 64 1 [] 0 (by decide) (by decide) (by decide) (by decide) (by decide) (by decide) (by decide)]
    simp [putL, putS]
  · rw [rput_of 7 n (run 20 5 ++ []) (by decide +kernel) (by decide) (by decide) hft, putL_at n 20 5 1048576 32 1 [] 0 (by decide) (by decide) (by decide) (by decide) (by decide) (by decide) (by decide)]
    simp [putL, putS]
  · rw [rput_of 8 n (run 20 12 ++ []) (by decide +kernel) (by decide) (by decide) hft, putL_at n 20 12 1048576 4096 1 [] 0 (by decide) (by decide) (by decide) (by decide) (by decide) (by decide) (by decide)]
    simp [putL, putS]
  · rw [rput_of 9 n (run 15 5 ++ []) (by decide +kernel) (by decide) (by decide) hft, putL_at n 15 5 32768 32 1 [] 0 (by decide) (by decide) (by decide) (by decide) (by decide) (by decide) (by decide)]
    simp [putL, putS]
end Go.Proofs.Ytknkfimpflodeaa.P
