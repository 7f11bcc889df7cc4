/- There and back: an instruction's word says it; the first row that fits is its own. No program. -/
import Derived.Test.YtknkfimpflodeaaEEnc
import Derived.Test.YtknkfimpflodeaaEPureD
namespace Go.Proofs.Ytknkfimpflodeaa.P
open Go.RowKit Go.Proofs.YtknkfimpflodeaaW.PrintWords Go.Proofs.YtknkfimpflodeaaW.PrintLast Go.Proofs.YtknkfimpflodeaaW.PrintMore
set_option linter.unusedVariables false
theorem decL_none (w : Int) : ∀ (l : List (ByteArray × Int × Int × Int)) (op : Int), (decL l op w).2.2.2.2.2.2.2.2 = false → decL l op w = (0, 0, 0, 0, 0, 0, false, false, false)
  | [], op, _ => rfl
  | r :: t, op, h => by
    unfold decL at h ⊢
    by_cases hc : andF r.2.2.2 w = r.2.2.1
    · rw [if_pos hc] at h; cases h
    · rw [if_neg hc] at h ⊢; exact decL_none w t _ h
/-- no word fits two rows -/
theorem apart_all : (List.range 113).all (fun j => (List.range j).all (fun q => decide ((tabP.getD q rowZ).2.2.1.toNat &&& (tabP.getD j rowZ).2.1.toNat ≠ (tabP.getD j rowZ).2.2.1.toNat &&& (tabP.getD q rowZ).2.1.toNat))) = true := by decide +kernel
theorem apart_at (q j : Nat) (hq : q < j) (hj : j < 113) : (tabP.getD q rowZ).2.2.1.toNat &&& (tabP.getD j rowZ).2.1.toNat ≠ (tabP.getD j rowZ).2.2.1.toNat &&& (tabP.getD q rowZ).2.1.toNat := by
  have h1 := List.all_eq_true.1 apart_all j (List.mem_range.2 hj)
  have h2 := List.all_eq_true.1 h1 q (List.mem_range.2 hq)
  exact of_decide_eq_true h2
theorem mask_pos (fm : Int) : 0 ≤ maskF fm ∧ maskF fm < 4294967296 := by
  unfold maskF
  repeat' split
  all_goals omega
theorem and_nat_of (fm w m : Int) (w0 : 0 ≤ w) (w1 : w < 4294967296) (h : andF fm w = m) : w.toNat &&& (maskF fm).toNat = m.toNat := by
  obtain ⟨p0, p1⟩ := mask_pos fm
  rw [← and_maskF fm w w0 w1] at h
  obtain ⟨a, rfl⟩ := Int.eq_ofNat_of_zero_le w0
  obtain ⟨b, hb⟩ := Int.eq_ofNat_of_zero_le p0
  rw [hb] at h p1 ⊢
  rw [u32_and_nat a b (by omega) (by omega)] at h
  rw [← h, Int.toNat_natCast, Int.toNat_natCast, Int.toNat_natCast]
theorem apart_row (q j : Nat) (hq : q < j) (hj : j < 113) (w : Int) (w0 : 0 ≤ w) (w1 : w < 4294967296) (h : andF (tabP.getD j rowZ).2.2.2 w = (tabP.getD j rowZ).2.2.1) : andF (tabP.getD q rowZ).2.2.2 w ≠ (tabP.getD q rowZ).2.2.1 := by
  intro g
  obtain ⟨-, -, mj, -⟩ := row_ok j hj
  obtain ⟨-, -, mq, -⟩ := row_ok q (by omega)
  have a := and_nat_of _ w _ w0 w1 h
  have b := and_nat_of _ w _ w0 w1 g
  refine apart_at q j hq hj ?_
  rw [mj, mq, ← a, ← b, Nat.and_assoc, Nat.and_assoc, Nat.and_comm (maskF (tabP.getD q rowZ).2.2.2).toNat]
/-- an instruction's word says it -/
theorem decode_word (j : Nat) (hj : j < 113) (rd a b imm csr : Int) (aq rl : Bool) (hr : rightS (tabP.getD j rowZ).2.2.2 rd a b imm csr aq rl = true) :
    0 ≤ wordS (tabP.getD j rowZ).2.2.2 (tabP.getD j rowZ).2.2.1 rd a b imm csr aq rl ∧ wordS (tabP.getD j rowZ).2.2.2 (tabP.getD j rowZ).2.2.1 rd a b imm csr aq rl < 4294967296 ∧
    decL tabP 1 (wordS (tabP.getD j rowZ).2.2.2 (tabP.getD j rowZ).2.2.1 rd a b imm csr aq rl) = ((j : Int) + 1, rd, a, b, imm, csr, aq, rl, true) := by
  obtain ⟨f1, f2, hm, hmm, m0, m1⟩ := row_ok j hj
  obtain ⟨t0, t1, t2, t3⟩ := word_there (tabP.getD j rowZ).2.2.2 (tabP.getD j rowZ).2.2.1 ((j : Int) + 1) rd a b imm csr aq rl f1 f2 m0 m1 hmm hr
  refine ⟨t0, t1, ?_⟩
  have e := decL_at _ j hj t2 j 0 (by omega) (fun q _ h => apart_row q j h hj _ t0 t1 t2)
  rw [List.drop_zero] at e
  refine Eq.trans e ?_
  rw [t3]
/-- what a word says is that word again -/
theorem encode_said (w : Int) (w0 : 0 ≤ w) (w1 : w < 4294967296) (h : (decL tabP 1 w).2.2.2.2.2.2.2.2 = true) :
    ∃ j : Nat, j < 113 ∧ (decL tabP 1 w).1 = (j : Int) + 1 ∧ encS (decL tabP 1 w).1 (decL tabP 1 w).2.1 (decL tabP 1 w).2.2.1 (decL tabP 1 w).2.2.2.1 (decL tabP 1 w).2.2.2.2.1 (decL tabP 1 w).2.2.2.2.2.1 (decL tabP 1 w).2.2.2.2.2.2.1 (decL tabP 1 w).2.2.2.2.2.2.2.1 = (w, 0) ∧
      rightS (tabP.getD j rowZ).2.2.2 (decL tabP 1 w).2.1 (decL tabP 1 w).2.2.1 (decL tabP 1 w).2.2.2.1 (decL tabP 1 w).2.2.2.2.1 (decL tabP 1 w).2.2.2.2.2.1 (decL tabP 1 w).2.2.2.2.2.2.1 (decL tabP 1 w).2.2.2.2.2.2.2.1 = true := by
  obtain ⟨j, -, hj, hc, -, e⟩ := decL_some w 113 0 (by decide) h
  rw [List.drop_zero] at e
  have e' : decL tabP 1 w = _ := e
  obtain ⟨f1, f2, hm, hmm, m0, m1⟩ := row_ok j hj
  obtain ⟨b1, b2⟩ := word_back (tabP.getD j rowZ).2.2.2 _ ((j : Int) + 1) w f1 f2 w0 w1 hc
  rw [e']
  refine ⟨j, hj, rfl, ?_, b2⟩
  unfold encS
  rw [if_pos (by omega), show (j : Int) + 1 - 1 = (j : Int) by omega, rowAt_nat, if_pos b2, b1]
end Go.Proofs.Ytknkfimpflodeaa.P
