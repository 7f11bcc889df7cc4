/- What the document's Fits and Put come to, in numbers. No program. -/
import Derived.Test.YtknkfimpflodeaaEPureR
import Derived.Test.YtknkfimpflodeaaEPureF
import Derived.Test.YtknkfimpflodeaaFA
import Derived.Test.YtknkfimpflodeaaFC
namespace Go.Proofs.Ytknkfimpflodeaa.P
open Go.RowKit Go.Proofs.YtknkfimpflodeaaW.PrintWords Go.Proofs.YtknkfimpflodeaaW.PrintLast Go.Proofs.YtknkfimpflodeaaW.PrintMore
set_option linter.unusedVariables false
/-- no nought is 1 -/
def nouL (n : Int) : List Int → Bool
  | [] => true
  | p :: t => (if p < 0 then decide (n / 2 ^ t.length % 2 = 0) else true) && nouL n t
theorem shr_i64_at (n : Int) (m : Nat) (hm : m ≤ 63) (y : Int) (hy : y = m) : shr .i64 n y = n / 2 ^ m := by
  unfold shr
  rw [show min y.toNat IntKind.i64.bits = m by rw [show IntKind.i64.bits = 64 from rfl]; omega]
theorem nou_loop (n : Int) (l : List Int) (hl : l.length ≤ 40) : ∀ (d i k : Nat), i + d = l.length → d < k → mezzanineref08_Fits.l0 k n l (i : Int) = some (nouL n (l.drop i))
  | 0, i, k, hi, hk => by
    obtain ⟨m, rfl⟩ : ∃ m, k = m + 1 := ⟨k - 1, by omega⟩
    have : l.drop i = [] := List.drop_eq_nil_of_le (by omega)
    rw [this]
    simp only [mezzanineref08_Fits.l0]
    rw [if_neg (by omega)]
    rfl
  | d + 1, i, k, hi, hk => by
    obtain ⟨m, rfl⟩ : ∃ m, k = m + 1 := ⟨k - 1, by omega⟩
    have hlt : i < l.length := by omega
    have hd : l.drop i = l[i] :: l.drop (i + 1) := List.drop_eq_getElem_cons hlt
    have hrd : rd l (i : Int) = l[i] := by simp [rd, hlt]
    have hlen : (l.drop (i + 1)).length = d := by simp; omega
    have ih := nou_loop n l hl d (i + 1) m (by omega) (by omega)
    have hw : wrap64 ((i : Int) + 1) = ((i + 1 : Nat) : Int) := by unfold wrap64; omega
    have hs : IntKind.u64.wrap (wrap64 (wrap64 ((l.length : Int) - 1) - (i : Int))) = (d : Int) := by
      rw [show wrap64 (wrap64 ((l.length : Int) - 1) - (i : Int)) = (d : Int) by unfold wrap64; omega, IntKind.wrap_u64]; omega
    rw [hd]
    simp only [mezzanineref08_Fits.l0, nouL]
    rw [if_pos (by omega), if_pos (by omega), hrd, hw, ih, hs, hlen]
    by_cases hneg : l[i] < 0
    · rw [if_pos hneg, if_pos hneg, if_pos (by omega), shr_i64_at n d (by omega) _ rfl]
      have ha := and_i64 1 (by decide) (n / 2 ^ d)
      simp only [Int.pow_one] at ha
      rw [show (1 : Int) = 2 - 1 from rfl, ha]
      have hb : n / 2 ^ d % 2 = 0 ∨ n / 2 ^ d % 2 = 1 := by omega
      rcases hb with h | h <;> rw [h] <;> simp
    · rw [if_neg hneg, if_neg hneg, Bool.true_and]
theorem nou_run (n : Int) (p : Nat) (rest : List Int) : ∀ m, nouL n (run p m ++ rest) = nouL n rest
  | 0 => rfl
  | m + 1 => by
    show ((if ((p + m : Nat) : Int) < 0 then _ else true) && nouL n (run p m ++ rest)) = _
    rw [if_neg (by omega), nou_run n p rest m, Bool.true_and]
theorem nou_noughts (n : Int) : ∀ m, nouL n (List.replicate m (-1)) = decide (n % 2 ^ m = 0)
  | 0 => by simp [nouL, Int.emod_one]
  | m + 1 => by
    show ((if (-1 : Int) < 0 then decide (n / 2 ^ (List.replicate m (-1 : Int)).length % 2 = 0) else true) && nouL n (List.replicate m (-1))) = _
    have hM := two_pos m
    have h3 := Int.emod_nonneg n (show (2 : Int) ^ m ≠ 0 by omega)
    rw [if_pos (by decide), nou_noughts n m, List.length_replicate, mod_succ]
    have hb : n / 2 ^ m % 2 = 0 ∨ n / 2 ^ m % 2 = 1 := by omega
    rcases hb with h | h
    · rw [h]; simp
    · rw [h]
      have : ¬ (1 * 2 ^ m + n % 2 ^ m = 0) := by omega
      simp
      omega
theorem rfits_signed (f n : Int) (l : List Int) (m : Int) (z : Nat) (hpl : mezzanineref08_Places.f 120 f = some l) (hl : l.length ≤ 40) (hne : (l.length : Int) ≠ 0) (hs : mezzanineref08_Signed.f f = some true)
    (h1 : 0 ≤ IntKind.u64.wrap (l.length : Int)) (h2 : 0 ≤ IntKind.u64.wrap (wrap64 ((l.length : Int) - 1))) (hlo : wrap64 (-(shl .i64 1 (IntKind.u64.wrap (wrap64 ((l.length : Int) - 1))))) = -m) (hhi : wrap64 (shl .i64 1 (IntKind.u64.wrap (wrap64 ((l.length : Int) - 1))) - 1) = m - 1)
    (hz : nouL n l = decide (n % 2 ^ z = 0)) : mezzanineref08_Fits.f 120 f n = some (decide (-m ≤ n ∧ n < m ∧ n % 2 ^ z = 0)) := by
  unfold mezzanineref08_Fits.f
  rw [hpl]
  simp only [Option.bind_some]
  rw [if_neg hne, if_pos h1, hs]
  simp only [Option.bind_some]
  rw [if_pos trivial, if_pos h2, hlo, hhi]
  simp only [mezzanineref08_Fits.j0, mezzanineref08_Fits.j1]
  have hn := nou_loop n l hl l.length 0 118 (by omega) (by omega)
  rw [List.drop_zero, hz] at hn
  by_cases q1 : n < -m
  · rw [if_pos q1, if_pos trivial, decide_eq_false (by omega)]
  · rw [if_neg q1]
    by_cases q2 : n > m - 1
    · rw [if_pos (by simpa using q2), decide_eq_false (by omega)]
    · rw [if_neg (by simpa using q2)]
      refine hn.trans ?_
      have : (-m ≤ n ∧ n < m) := by omega
      simp [this]
theorem rfits_plain (f n : Int) (l : List Int) (m : Int) (hpl : mezzanineref08_Places.f 120 f = some l) (hl : l.length ≤ 40) (hne : (l.length : Int) ≠ 0) (hs : mezzanineref08_Signed.f f = some false)
    (h1 : 0 ≤ IntKind.u64.wrap (l.length : Int)) (hhi : wrap64 (shl .i64 1 (IntKind.u64.wrap (l.length : Int)) - 1) = m - 1) (hz : nouL n l = true) : mezzanineref08_Fits.f 120 f n = some (decide (0 ≤ n ∧ n < m)) := by
  unfold mezzanineref08_Fits.f
  rw [hpl]
  simp only [Option.bind_some]
  rw [if_neg hne, if_pos h1, hs]
  simp only [Option.bind_some]
  rw [if_neg (by decide), hhi]
  simp only [mezzanineref08_Fits.j0, mezzanineref08_Fits.j1]
  have hn := nou_loop n l hl l.length 0 118 (by omega) (by omega)
  rw [List.drop_zero, hz] at hn
  by_cases q1 : n < 0
  · rw [if_pos q1, if_pos trivial, decide_eq_false (by omega)]
  · rw [if_neg q1]
    by_cases q2 : n > m - 1
    · rw [if_pos (by simpa using q2), decide_eq_false (by omega)]
    · rw [if_neg (by simpa using q2)]
      refine hn.trans ?_
      have : (0 ≤ n ∧ n < m) := by omega
      simp [this]
theorem rfits_at (f n : Int) (f1 : 1 ≤ f) (f2 : f ≤ 9) (k : Nat) (hk : 120 ≤ k) : mezzanineref08_Fits.f k f n = some (fitsS f n) := by
  refine at_rounds (fun k => mezzanineref08_Fits.mono f n k) hk ?_
  have hf : f = 1 ∨ f = 2 ∨ f = 3 ∨ f = 4 ∨ f = 5 ∨ f = 6 ∨ f = 7 ∨ f = 8 ∨ f = 9 := by omega
  rcases hf with rfl | rfl | rfl | rfl | rfl | rfl | rfl | rfl | rfl
  · rw [rfits_signed 1 n (run 20 12 ++ []) 2048 0 (by decide +kernel) (by decide) (by decide) (by decide +kernel) (by decide +kernel) (by decide +kernel) (by decide +kernel) (by decide +kernel) (by rw [nou_run]; simp [nouL, Int.emod_one])]
    simp [fitsS, Int.emod_one]
  · rw [rfits_signed 2 n (run 25 7 ++ (run 7 5 ++ [])) 2048 0 (by decide +kernel) (by decide) (by decide) (by decide +kernel) (by decide +kernel) (by decide +kernel) (by decide +kernel) (by decide +kernel) (by rw [nou_run, nou_run]; simp [nouL, Int.emod_one])]
    simp [fitsS, Int.emod_one]
  · rw [rfits_signed 3 n (run 31 1 ++ (run 7 1 ++ (run 25 6 ++ (run 8 4 ++ List.replicate 1 (-1))))) 4096 1 (by decide +kernel) (by decide) (by decide) (by decide +kernel) (by decide +kernel) (by decide +kernel) (by decide +kernel) (by decide +kernel) (by rw [nou_run, nou_run, nou_run, nou_run, nou_noughts])]
    simp [fitsS]
  · rw [rfits_signed 4 n (run 12 20 ++ List.replicate 12 (-1)) 2147483648 12 (by decide +kernel) (by decide) (by decide) (by decide +kernel) (by decide +kernel) (by decide +kernel) (by decide +kernel) (by decide +kernel) (by rw [nou_run, nou_noughts])]
    simp [fitsS]
  · rw [rfits_signed 5 n (run 31 1 ++ (run 12 8 ++ (run 20 1 ++ (run 21 10 ++ List.replicate 1 (-1))))) 1048576 1 (by decide +kernel) (by decide) (by decide) (by decide +kernel) (by decide +kernel) (by decide +kernel) (by decide +kernel) (by decide +kernel) (by rw [nou_run, nou_run, nou_run, nou_run, nou_noughts])]
    simp [fitsS]
  · rw [rfits_plain 6 n (run 20 6 ++ []) 64 (by decide +kernel) (by decide) (by decide) (by decide +kernel) (by decide +kernel) (by decide +kernel) (by rw [nou_run]; rfl)]
    simp [fitsS]
  · rw [rfits_plain 7 n (run 20 5 ++ []) 32 (by decide +kernel) (by decide) (by decide) (by decide +kernel) (by decide +kernel) (by decide +kernel) (by rw [nou_run]; rfl)]
    simp [fitsS]
  · rw [rfits_plain 8 n (run 20 12 ++ []) 4096 (by decide +kernel) (by decide) (by decide) (by decide +kernel) (by decide +kernel) (by decide +kernel) (by rw [nou_run]; rfl)]
    simp [fitsS]
  · rw [rfits_plain 9 n (run 15 5 ++ []) 32 (by decide +kernel) (by decide) (by decide) (by decide +kernel) (by decide +kernel) (by decide +kernel) (by rw [nou_run]; rfl)]
    simp [fitsS]
end Go.Proofs.Ytknkfimpflodeaa.P
