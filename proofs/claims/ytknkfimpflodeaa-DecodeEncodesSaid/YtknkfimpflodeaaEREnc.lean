/- The word of an instruction: the document's Encode comes to the same. No program. -/
import Derived.Test.YtknkfimpflodeaaEEnc
import Derived.Test.YtknkfimpflodeaaEPut
import Derived.Test.YtknkfimpflodeaaFB
import Derived.Test.YtknkfimpflodeaaFC
namespace Go.Proofs.Ytknkfimpflodeaa.P
open Go.RowKit Go.Proofs.YtknkfimpflodeaaW.PrintWords Go.Proofs.YtknkfimpflodeaaW.PrintLast Go.Proofs.YtknkfimpflodeaaW.PrintMore
set_option linter.unusedVariables false
theorem rr_j0 (k : Nat) (op rd a b imm csr : Int) (aq rl : Bool) (r : ByteArray × Int × Int × Int) (hr : mezzanineref09_RowOf.f op = some r) :
    mezzanineref09_Right.j0 (k + 2) false op rd a b imm csr aq rl = mezzanineref09_Right.j1 (k + 1) (!inR rd a b csr) op rd a b imm csr aq rl r.1 r.2.1 r.2.2.1 r.2.2.2 := by
  simp only [mezzanineref09_Right.j0]
  rw [if_neg (by decide), hr, Option.bind_some]
  by_cases h : inR rd a b csr = true
  · rw [h]
    simp only [inR, decide_eq_true_eq] at h
    rw [if_neg (by omega), if_neg (by omega), if_neg (by omega), if_neg (by omega), if_neg (by omega), if_neg (by omega), if_neg (by omega), decide_eq_false (by omega)]
    rfl
  · have h' : inR rd a b csr = false := by simpa using h
    rw [h']
    simp only [inR, decide_eq_true_eq] at h
    show _ = mezzanineref09_Right.j1 (k + 1) true op rd a b imm csr aq rl r.1 r.2.1 r.2.2.1 r.2.2.2
    repeat' (split; rfl)
    rw [decide_eq_true (by omega)]
theorem rr_j3 (k : Nat) (hk : 120 ≤ k) (op rd a b imm csr : Int) (aq rl : Bool) (nm : ByteArray) (mk m fm : Int) (h1 : 1 ≤ fm) (h2 : fm ≤ 15) :
    mezzanineref09_Right.j3 (k + 1) false op rd a b imm csr aq rl nm mk m (ltr fm) = some (immB fm imm) := by
  simp only [mezzanineref09_Right.j3]
  rw [if_neg (by decide), form_at fm h1 h2, Option.bind_some]
  have hn := nF_range fm
  unfold immB
  by_cases h : nF fm = 0
  · rw [if_pos h, if_pos h]
    rfl
  · rw [if_neg h, if_neg h, Option.bind_some, rfits_at _ imm (by omega) hn.2 k hk, Option.bind_some]
theorem rr_j2 (k : Nat) (hk : 120 ≤ k) (op rd a b imm csr : Int) (aq rl : Bool) (nm : ByteArray) (mk m fm : Int) (h1 : 1 ≤ fm) (h2 : fm ≤ 15) :
    mezzanineref09_Right.j2 (k + 2) false op rd a b imm csr aq rl nm mk m (ltr fm) = some ((cB fm || decide (csr = 0)) && (oB fm || (!aq && !rl)) && immB fm imm) := by
  simp only [mezzanineref09_Right.j2]
  rw [if_neg (by decide), has_c fm h1 h2 _ (by omega), has_o fm h1 h2 _ (by omega)]
  simp only [Option.bind_some]
  have e3 := rr_j3 k hk op rd a b imm csr aq rl nm mk m fm h1 h2
  have et : mezzanineref09_Right.j3 (k + 1) true op rd a b imm csr aq rl nm mk m (ltr fm) = some false := rfl
  cases cB fm <;> cases oB fm <;> cases aq <;> cases rl <;> by_cases h : csr = 0 <;> simp [h, e3, et] <;> simp_all
theorem rr_j1 (k : Nat) (hk : 120 ≤ k) (op rd a b imm csr : Int) (aq rl : Bool) (nm : ByteArray) (mk m fm : Int) (h1 : 1 ≤ fm) (h2 : fm ≤ 15) :
    mezzanineref09_Right.j1 (k + 3) false op rd a b imm csr aq rl nm mk m (ltr fm) = some ((rdB fm || decide (rd = 0)) && (aB fm || decide (a = 0)) && (bB fm || decide (b = 0)) && ((cB fm || decide (csr = 0)) && (oB fm || (!aq && !rl)) && immB fm imm)) := by
  simp only [mezzanineref09_Right.j1]
  rw [if_neg (by decide), has_rd fm h1 h2 _ (by omega), has_a fm h1 h2 _ (by omega), has_b fm h1 h2 _ (by omega)]
  simp only [Option.bind_some]
  have e3 := fun rd a b => rr_j2 k hk op rd a b imm csr aq rl nm mk m fm h1 h2
  have et : ∀ rd a b, mezzanineref09_Right.j2 (k + 2) true op rd a b imm csr aq rl nm mk m (ltr fm) = some false := fun _ _ _ => rfl
  generalize ((cB fm || decide (csr = 0)) && (oB fm || (!aq && !rl)) && immB fm imm) = z at e3 ⊢
  by_cases h1 : rd = 0 <;> by_cases h2 : a = 0 <;> by_cases h3 : b = 0 <;> cases rdB fm <;> cases aB fm <;> cases bB fm <;> simp [h1, h2, h3, e3, et] <;> (try (rw [show (b != 0) = true by simpa using h3]; exact et _ _ _))
theorem rright_at (op rd a b imm csr : Int) (aq rl : Bool) (k : Nat) (hk : 150 ≤ k) : mezzanineref09_Right.f k op rd a b imm csr aq rl = some (if 1 ≤ op ∧ op ≤ 113 then rightS (rowAt (op - 1)).2.2.2 rd a b imm csr aq rl else false) := by
  obtain ⟨k, rfl⟩ : ∃ n, k = n + 5 := ⟨k - 5, by omega⟩
  unfold mezzanineref09_Right.f
  by_cases h : op < 1
  · rw [if_pos h, if_neg (by omega)]
    rfl
  rw [if_neg h]
  by_cases g : op > 113
  · rw [decide_eq_true g, if_neg (by omega)]
    rfl
  rw [decide_eq_false g, if_pos (by omega)]
  obtain ⟨j, rfl⟩ : ∃ j : Nat, op = (j : Int) + 1 := ⟨(op - 1).toNat, by omega⟩
  have hj : j < 113 := by omega
  obtain ⟨f1, f2, hm, hmm, m0, m1⟩ := row_ok j hj
  rw [show (j : Int) + 1 - 1 = (j : Int) by omega, rowAt_nat, rr_j0 (k + 3) _ rd a b imm csr aq rl (rowR ((j : Int) + 1)) rfl, rowR_at j hj]
  dsimp only
  unfold rightS
  by_cases hR : inR rd a b csr = true
  · rw [hR]
    show mezzanineref09_Right.j1 (k + 1 + 3) false _ rd a b imm csr aq rl _ _ _ _ = _
    rw [rr_j1 (k + 1) (by omega) _ rd a b imm csr aq rl _ _ _ _ f1 f2]
    unfold inR at hR
    rw [hR]
    simp only [Bool.true_and, Bool.and_assoc]
  · have h' : inR rd a b csr = false := by simpa using hR
    rw [h']
    unfold inR at h'
    rw [h']
    rfl
theorem renc_j0 (k : Nat) (hk : 150 ≤ k) (x op rd a b imm csr : Int) (aq rl : Bool) (nm : ByteArray) (mk m fm : Int) (h1 : 1 ≤ fm) (h2 : fm ≤ 15) (hf : immB fm imm = true)
    (h6 : Go.bits .or .u32 x (b01 rl * 33554432) = x + b01 rl * 33554432) (x0 : 0 ≤ x) (x1 : x + b01 rl * 33554432 < 4294967296) (h7 : Go.bits .or .u32 (x + b01 rl * 33554432) (putS (nF fm) imm) = x + b01 rl * 33554432 + putS (nF fm) imm) :
    mezzanineref09_Encode.j0 (k + 2) x op rd a b imm csr aq rl nm mk m (ltr fm) = some (x + b01 rl * 33554432 + putS (nF fm) imm, 0) := by
  have hj1 : ∀ y, mezzanineref09_Encode.j1 (k + 1) y op rd a b imm csr aq rl nm mk m (ltr fm) = some (if nF fm > 0 then Go.bits .or .u32 y (putS (nF fm) imm) else y, 0) := by
    intro y
    simp only [mezzanineref09_Encode.j1]
    rw [form_at fm h1 h2, Option.bind_some]
    have hn := nF_range fm
    by_cases h : nF fm > 0
    · unfold immB at hf
      rw [if_neg (by omega)] at hf
      rw [if_pos h, if_pos h, Option.bind_some, rput_at _ imm (by omega) hn.2 hf k (by omega), Option.bind_some]
    · rw [if_neg h, if_neg h]
  simp only [mezzanineref09_Encode.j0]
  rw [hj1, hj1]
  have q2 := b01_range rl
  have e : (if rl = true then Go.bits .or .u32 x 33554432 else x) = x + b01 rl * 33554432 := or01_is x rl 33554432 x0 (by omega) h6
  have key : (if nF fm > 0 then Go.bits .or .u32 (x + b01 rl * 33554432) (putS (nF fm) imm) else x + b01 rl * 33554432) = x + b01 rl * 33554432 + putS (nF fm) imm := by
    by_cases h : nF fm > 0
    · rw [if_pos h, h7]
    · have hn := nF_range fm
      rw [if_neg h, show nF fm = 0 by omega, show putS 0 imm = 0 from rfl]; omega
  rw [← key, ← e]
  cases rl <;> rfl
theorem renc_or (k : Nat) (x op rd a b imm csr : Int) (aq rl : Bool) (nm : ByteArray) (mk m fm : Int) :
    (if aq = true then mezzanineref09_Encode.j0 k (Go.bits .or .u32 x 67108864) op rd a b imm csr aq rl nm mk m fm else mezzanineref09_Encode.j0 k x op rd a b imm csr aq rl nm mk m fm) = mezzanineref09_Encode.j0 k (or01 x aq 67108864) op rd a b imm csr aq rl nm mk m fm := by
  cases aq <;> rfl
theorem rencode_at (op rd a b imm csr : Int) (aq rl : Bool) (k : Nat) (hk : 200 ≤ k) : mezzanineref09_Encode.f k op rd a b imm csr aq rl = some (encS op rd a b imm csr aq rl) := by
  obtain ⟨k, rfl⟩ : ∃ n, k = n + 2 := ⟨k - 2, by omega⟩
  unfold mezzanineref09_Encode.f encS
  rw [rright_at op rd a b imm csr aq rl _ (by omega), Option.bind_some]
  by_cases g : 1 ≤ op ∧ op ≤ 113
  · rw [if_pos g, if_pos g]
    by_cases hr : rightS (rowAt (op - 1)).2.2.2 rd a b imm csr aq rl = true
    · rw [if_pos hr, if_pos hr]
      obtain ⟨j, rfl⟩ : ∃ j : Nat, op = (j : Int) + 1 := ⟨(op - 1).toNat, by omega⟩
      have hj : j < 113 := by omega
      obtain ⟨f1, f2, hm, hmm, m0, m1⟩ := row_ok j hj
      rw [show (j : Int) + 1 - 1 = (j : Int) by omega, rowAt_nat] at hr ⊢
      obtain ⟨c1, c2, c3, c4, c5, c6, c7⟩ := chain_at _ _ rd a b imm csr aq rl f1 f2 m0 m1 hmm hr
      have hlt := chain_bound _ _ rd a b imm csr aq rl f1 f2 m0 m1 hmm hr
      have hp := put_pos (nF (tabP.getD j rowZ).2.2.2) imm
      have q1 := b01_range aq
      have q2 := b01_range rl
      obtain ⟨hb, -, -, -, -, -, hi⟩ := rightS_parts hr
      rw [show mezzanineref09_RowOf.f ((j : Int) + 1) = some (rowR ((j : Int) + 1)) from rfl, Option.bind_some, rowR_at j hj]
      dsimp only
      rw [reg_at rd 128 (by omega) (by omega) (by decide), reg_at a 32768 (by omega) (by omega) (by decide), reg_at b 1048576 (by omega) (by omega) (by decide), reg_at csr 1048576 (by omega) (by omega) (by decide), c1, c2, c3, c4]
      rw [renc_or, or01_is _ aq _ (by omega) (by omega) c5, renc_j0 k (by omega) _ _ rd a b imm csr aq rl _ _ _ _ f1 f2 hi c6 (by omega) (by omega) c7]
      rfl
    · rw [if_neg hr, if_neg hr]
  · rw [if_neg g, if_neg g]
    rfl
end Go.Proofs.Ytknkfimpflodeaa.P
