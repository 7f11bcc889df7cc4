/- The decoder's table: the least row with a word's lowest seven bits; from there on the same row is found. No program. -/
import Derived.Test.YtknkfimpflodeaaBack
namespace Go.Proofs.Ytknkfimpflodeaa.P
open Go.RowKit Go.Proofs.YtknkfimpflodeaaW.PrintWords Go.Proofs.YtknkfimpflodeaaW.PrintLast Go.Proofs.YtknkfimpflodeaaW.PrintMore
set_option linter.unusedVariables false
/-- the least instruction of a piece of the table whose lowest seven bits are m; 0: there is none -/
def firstL : List (ByteArray × Int × Int × Int) → Int → Int → Int
  | [], _, _ => 0
  | r :: t, op, m => if r.2.2.1 % 128 = m then op else firstL t (op + 1) m
theorem low_masks : (List.range 113).all (fun j => decide ((maskF (tabP.getD j rowZ).2.2.2).toNat % 128 = 127)) = true := by decide +kernel
theorem low_mask (j : Nat) (hj : j < 113) : (maskF (tabP.getD j rowZ).2.2.2).toNat % 128 = 127 := of_decide_eq_true (List.all_eq_true.1 low_masks j (List.mem_range.2 hj))
theorem and_127 (n : Nat) (h : n < 128) : n &&& 127 = n := by
  have := Nat.and_two_pow_sub_one_eq_mod n 7
  rw [show (2 : Nat) ^ 7 - 1 = 127 from rfl] at this
  rw [this]; exact Nat.mod_eq_of_lt h
/-- a row that fits has the word's lowest seven bits -/
theorem low_fit (w : Int) (w0 : 0 ≤ w) (w1 : w < 4294967296) (j : Nat) (hj : j < 113) (h : andF (tabP.getD j rowZ).2.2.2 w = (tabP.getD j rowZ).2.2.1) : (tabP.getD j rowZ).2.2.1 % 128 = w % 128 := by
  obtain ⟨f1, f2, hm, hmm, m0, m1⟩ := row_ok j hj
  have e := and_nat_of _ w _ w0 w1 h
  have e2 := congrArg (· % 2 ^ 7) e
  simp only [Nat.and_mod_two_pow] at e2
  rw [show (2 : Nat) ^ 7 = 128 from rfl, low_mask j hj, and_127 _ (Nat.mod_lt _ (by decide))] at e2
  omega
theorem first_zero (w : Int) (w0 : 0 ≤ w) (w1 : w < 4294967296) : ∀ (d j : Nat), j + d = 113 → firstL (tabP.drop j) ((j : Int) + 1) (w % 128) = 0 → decL (tabP.drop j) ((j : Int) + 1) w = (0, 0, 0, 0, 0, 0, false, false, false)
  | 0, j, hj, h => by
    have : tabP.drop j = [] := List.drop_eq_nil_of_le (by rw [tab_len]; omega)
    rw [this]; rfl
  | d + 1, j, hj, h => by
    have hlt : j < 113 := by omega
    rw [drop_tab j hlt] at h ⊢
    unfold firstL at h
    unfold decL
    by_cases hc : (tabP.getD j rowZ).2.2.1 % 128 = w % 128
    · rw [if_pos hc] at h; omega
    · rw [if_neg hc] at h
      rw [if_neg (fun g => hc (low_fit w w0 w1 j hlt g))]
      rw [show (j : Int) + 1 + 1 = ((j + 1 : Nat) : Int) + 1 by omega] at h ⊢
      exact first_zero w w0 w1 d (j + 1) (by omega) h
theorem first_some (w : Int) (w0 : 0 ≤ w) (w1 : w < 4294967296) : ∀ (d j : Nat), j + d = 113 → firstL (tabP.drop j) ((j : Int) + 1) (w % 128) ≠ 0 →
    ∃ i : Nat, j ≤ i ∧ i < 113 ∧ firstL (tabP.drop j) ((j : Int) + 1) (w % 128) = (i : Int) + 1 ∧ decL (tabP.drop j) ((j : Int) + 1) w = decL (tabP.drop i) ((i : Int) + 1) w
  | 0, j, hj, h => by
    have : tabP.drop j = [] := List.drop_eq_nil_of_le (by rw [tab_len]; omega)
    rw [this] at h
    exact absurd rfl h
  | d + 1, j, hj, h => by
    have hlt : j < 113 := by omega
    rw [drop_tab j hlt] at h ⊢
    by_cases hc : (tabP.getD j rowZ).2.2.1 % 128 = w % 128
    · refine ⟨j, Nat.le_refl _, hlt, ?_, by rw [drop_tab j hlt]⟩
      unfold firstL
      rw [if_pos hc]
    · unfold firstL at h ⊢
      rw [if_neg hc] at h ⊢
      rw [show (j : Int) + 1 + 1 = ((j + 1 : Nat) : Int) + 1 by omega] at h ⊢
      obtain ⟨i, h1, h2, h3, h4⟩ := first_some w w0 w1 d (j + 1) (by omega) h
      refine ⟨i, by omega, h2, h3, ?_⟩
      rw [← h4, decL, if_neg (fun g => hc (low_fit w w0 w1 j hlt g))]
      rw [show (j : Int) + 1 + 1 = ((j + 1 : Nat) : Int) + 1 by omega]
theorem firstL_range (m : Int) : ∀ (d j : Nat), j + d = 113 → 0 ≤ firstL (tabP.drop j) ((j : Int) + 1) m ∧ firstL (tabP.drop j) ((j : Int) + 1) m ≤ 113
  | 0, j, hj => by
    have : tabP.drop j = [] := List.drop_eq_nil_of_le (by rw [tab_len]; omega)
    rw [this]; exact ⟨Int.le_refl _, by show (0 : Int) ≤ 113; decide⟩
  | d + 1, j, hj => by
    rw [drop_tab j (by omega)]
    unfold firstL
    split
    · omega
    · have := firstL_range m d (j + 1) (by omega)
      rw [show (j : Int) + 1 + 1 = ((j + 1 : Nat) : Int) + 1 by omega]
      exact this
/-- the table when the rows from j on are entered -/
theorem first_step (m : Int) (j : Nat) (hj : j < 113) : firstL (tabP.drop j) ((j : Int) + 1) m = if (tabP.getD j rowZ).2.2.1 % 128 = m then (j : Int) + 1 else firstL (tabP.drop (j + 1)) (((j + 1 : Nat) : Int) + 1) m := by
  rw [drop_tab j hj, firstL]
  congr 1
theorem first_end (m : Int) : firstL (tabP.drop 113) 114 m = 0 := by
  have : tabP.drop 113 = [] := List.drop_eq_nil_of_le (by rw [tab_len]; omega)
  rw [this]; rfl
end Go.Proofs.Ytknkfimpflodeaa.P
