/- The word of an instruction: the program's Encode, in numbers. No program. -/
import Derived.Test.YtknkfimpflodeaaGreatDoorZPureD0
import Derived.Test.YtknkfimpflodeaaGreatDoorEPureF
import Derived.Test.YtknkfimpflodeaaGreatDoorChain
import Derived.Test.YtknkfimpflodeaaGreatDoorGE
namespace Go.Proofs.YtknkfimpflodeaaGreatDoor.P
open Go.RowKit Go.Proofs.YtknkfimpflodeaaGreatDoorW.PrintWords Go.Proofs.YtknkfimpflodeaaGreatDoorW.PrintLast Go.Proofs.YtknkfimpflodeaaGreatDoorW.PrintMore
set_option linter.unusedVariables false
/-- what Encode answers -/
def encS (op rd a b imm csr : Int) (aq rl : Bool) : Int × Int :=
 if 1 ≤ op ∧ op ≤ 113 then
  (if rightS (rowAt (op - 1)).2.2.2 rd a b imm csr aq rl = true then (wordS (rowAt (op - 1)).2.2.2 (rowAt (op - 1)).2.2.1 rd a b imm csr aq rl, 0) else (0, 80))
 else (0, 80)
def inR (rd a b csr : Int) : Bool := decide (0 ≤ rd ∧ rd ≤ 31 ∧ 0 ≤ a ∧ a ≤ 31 ∧ 0 ≤ b ∧ b ≤ 31 ∧ 0 ≤ csr ∧ csr ≤ 4095)
theorem enc_j0 (k : Nat) (op rd a b imm csr : Int) (aq rl : Bool) : decode_Encode.j0 (k + 2) false op rd a b imm csr aq rl = decode_Encode.j1 (k + 1) (!inR rd a b csr) op rd a b imm csr aq rl := by
 simp only [decode_Encode.j0]
 rw [if_neg (by decide)]
 by_cases h : inR rd a b csr = true
 ·rw [h]
  simp only [inR, decide_eq_true_eq] at h
  rw [if_neg (by omega), if_neg (by omega), if_neg (by omega), if_neg (by omega), if_neg (by omega), if_neg (by omega), if_neg (by omega), decide_eq_false (by omega)]
  rfl
 ·have h' : inR rd a b csr = false := by simpa using h
  rw [h']
  simp only [inR, decide_eq_true_eq] at h
  show _ = decode_Encode.j1 (k + 1) true op rd a b imm csr aq rl
  repeat' (split; rfl)
  rw [decide_eq_true (by omega)]
theorem reg_at (x P : Int) (h0 : 0 ≤ x) (h1 : x * P < 4294967296) (P1 : 1 ≤ P) : x % 4294967296 * P % 4294967296 = x * P := by
 have : x ≤ x * P := by
  have := Int.mul_le_mul_of_nonneg_left P1 h0
  omega
 have h2 : x % 4294967296 = x := by omega
 rw [h2]
 have h3 : 0 ≤ x * P := by omega
 omega
def or01 (x : Int) (b : Bool) (c : Int) : Int := if b = true then Go.bits .or .u32 x c else x
theorem enc_j2 (k : Nat) (x : Int) (o : Bool) (op rd a b imm csr : Int) (aq rl : Bool) (nm : ByteArray) (mk m fm : Int) :
  decode_Encode.j2 (k + 4) x o op rd a b imm csr aq rl nm mk m fm = decode_Encode.j6 k (or01 (or01 x (o && aq) 67108864) (o && rl) 33554432) op rd a b imm csr aq rl nm mk m fm := by
 cases o <;> cases aq <;> cases rl <;> simp [decode_Encode.j2, decode_Encode.j3, decode_Encode.j4, decode_Encode.j5, or01]
/-- the last look at a word -/
theorem enc_look (k : Nat) (hk : 40 ≤ k) (j : Nat) (hj : j < 113) (w : Int) (w0 : 0 ≤ w) (w1 : w < 4294967296) (rd a b imm csr : Int) (aq rl : Bool) (hx : rightS (tabP.getD j rowZ).2.2.2 rd a b imm csr aq rl = true → wordS (tabP.getD j rowZ).2.2.2 (tabP.getD j rowZ).2.2.1 rd a b imm csr aq rl = w) :
  (if Go.bits .and .u32 w (tabP.getD j rowZ).2.1 = (tabP.getD j rowZ).2.2.1 then ((decode_said.f k ((j : Int) + 1) w).bind fun bt313 => (if (!(bt313.1 == ((j : Int) + 1)) || (!(bt313.2.1 == rd) || (!(bt313.2.2.1 == a) || (!(bt313.2.2.2.1 == b) || (!(bt313.2.2.2.2.1 == imm) || (!(bt313.2.2.2.2.2.1 == csr) || (!(bt313.2.2.2.2.2.2.1 == aq) || (!(bt313.2.2.2.2.2.2.2 == rl))))))))) = true then (some ((0 : Int), (80 : Int))) else (some (w, 0)))) else (some (0, 80))) =
  some (if rightS (tabP.getD j rowZ).2.2.2 rd a b imm csr aq rl = true then (wordS (tabP.getD j rowZ).2.2.2 (tabP.getD j rowZ).2.2.1 rd a b imm csr aq rl, 0) else (0, 80)) := by
 obtain ⟨f1, f2, hm, hmm, m0, m1⟩ := row_ok j hj
 rw [hm, and_maskF _ w w0 w1, said_at j hj w w0 w1 k hk]
 by_cases hr : rightS (tabP.getD j rowZ).2.2.2 rd a b imm csr aq rl = true
 ·obtain ⟨t0, t1, t2, t3⟩ := word_there (tabP.getD j rowZ).2.2.2 (tabP.getD j rowZ).2.2.1 ((j : Int) + 1) rd a b imm csr aq rl f1 f2 m0 m1 hmm hr
  have he := hx hr
  rw [if_pos hr, he]
  rw [he] at t2 t3
  rw [if_pos t2, t3]
  simp
 ·rw [if_neg hr]
  by_cases hc : andF (tabP.getD j rowZ).2.2.2 w = (tabP.getD j rowZ).2.2.1
  ·rw [if_pos hc, Option.bind_some, if_pos]
   obtain ⟨-, b2⟩ := word_back (tabP.getD j rowZ).2.2.2 _ ((j : Int) + 1) w f1 f2 w0 w1 hc
   generalize sayS (tabP.getD j rowZ).2.2.2 ((j : Int) + 1) w = S at b2
   by_cases hs : ((!(S.1 == ((j : Int) + 1)) || (!(S.2.1 == rd) || (!(S.2.2.1 == a) || (!(S.2.2.2.1 == b) || (!(S.2.2.2.2.1 == imm) || (!(S.2.2.2.2.2.1 == csr) || (!(S.2.2.2.2.2.2.1 == aq) || (!(S.2.2.2.2.2.2.2 == rl))))))))) = true)
   ·exact hs
   ·exfalso
    simp at hs
    obtain ⟨-, e1, e2, e3, e4, e5, e6, e7⟩ := hs
    rw [e1, e2, e3, e4, e5, e6, e7] at b2
    exact hr b2
  ·rw [if_neg hc]
theorem or01_range (x : Int) (b : Bool) (c : Int) (x0 : 0 ≤ x) (x1 : x < 4294967296) (c0 : 0 ≤ c) (c1 : c < 4294967296) : 0 ≤ or01 x b c ∧ or01 x b c < 4294967296 := by
 cases b
 ·exact ⟨x0, x1⟩
 ·exact or_range x c x0 x1 c0 c1
theorem or01_is (x : Int) (b : Bool) (P : Int) (x0 : 0 ≤ x) (x1 : x < 4294967296) (h : Go.bits .or .u32 x (b01 b * P) = x + b01 b * P) : or01 x b P = x + b01 b * P := by
 cases b
 ·simp [or01, b01]
 ·simpa [or01, b01] using h
/-- the bits of the parts, one after the other -/
def baseS (fm m rd a b csr : Int) (aq rl : Bool) : Int :=
 or01 (or01 (if cB fm = true then Go.bits .or .u32 (Go.bits .or .u32 (Go.bits .or .u32 (Go.bits .or .u32 m (rd * 128)) (a * 32768)) (b * 1048576)) (csr * 1048576) else Go.bits .or .u32 (Go.bits .or .u32 (Go.bits .or .u32 m (rd * 128)) (a * 32768)) (b * 1048576)) (oB fm && aq) 67108864) (oB fm && rl) 33554432
theorem base_range (fm m rd a b csr : Int) (aq rl : Bool) (m0 : 0 ≤ m) (m1 : m < 4294967296) (h : inR rd a b csr = true) : 0 ≤ baseS fm m rd a b csr aq rl ∧ baseS fm m rd a b csr aq rl < 4294967296 := by
 simp only [inR, decide_eq_true_eq] at h
 unfold baseS
 obtain ⟨a0, a1⟩ := or_range m (rd * 128) m0 m1 (by omega) (by omega)
 obtain ⟨b0, b1⟩ := or_range _ (a * 32768) a0 a1 (by omega) (by omega)
 obtain ⟨c0, c1⟩ := or_range _ (b * 1048576) b0 b1 (by omega) (by omega)
 obtain ⟨d0, d1⟩ := or_range _ (csr * 1048576) c0 c1 (by omega) (by omega)
 split
 ·obtain ⟨e0, e1⟩ := or01_range _ (oB fm && aq) 67108864 d0 d1 (by decide) (by decide)
  exact or01_range _ (oB fm && rl) 33554432 e0 e1 (by decide) (by decide)
 ·obtain ⟨e0, e1⟩ := or01_range _ (oB fm && aq) 67108864 c0 c1 (by decide) (by decide)
  exact or01_range _ (oB fm && rl) 33554432 e0 e1 (by decide) (by decide)
theorem base_is (fm m rd a b imm csr : Int) (aq rl : Bool) (h1 : 1 ≤ fm) (h2 : fm ≤ 15) (m0 : 0 ≤ m) (m1 : m < 4294967296) (hm : andF fm m = m) (hr : rightS fm rd a b imm csr aq rl = true) :
  baseS fm m rd a b csr aq rl = m + rd * 128 + a * 32768 + b * 1048576 + csr * 1048576 + b01 aq * 67108864 + b01 rl * 33554432 := by
 obtain ⟨c1, c2, c3, c4, c5, c6, -⟩ := chain_at fm m rd a b imm csr aq rl h1 h2 m0 m1 hm hr
 have hlt := chain_bound fm m rd a b imm csr aq rl h1 h2 m0 m1 hm hr
 have hp := put_pos (nF fm) imm
 obtain ⟨hb, -, -, -, hc, ho, -⟩ := rightS_parts hr
 have q1 := b01_range aq
 have q2 := b01_range rl
 have ea : (oB fm && aq) = aq := by
  by_cases h : oB fm = true
  ·rw [h, Bool.true_and]
  ·have h' : oB fm = false := by simpa using h
   rw [h', (ho h').1]; rfl
 have el : (oB fm && rl) = rl := by
  by_cases h : oB fm = true
  ·rw [h, Bool.true_and]
  ·have h' : oB fm = false := by simpa using h
   rw [h', (ho h').2]; rfl
 have ec : (if cB fm = true then Go.bits .or .u32 (Go.bits .or .u32 (Go.bits .or .u32 (Go.bits .or .u32 m (rd * 128)) (a * 32768)) (b * 1048576)) (csr * 1048576) else Go.bits .or .u32 (Go.bits .or .u32 (Go.bits .or .u32 m (rd * 128)) (a * 32768)) (b * 1048576)) = m + rd * 128 + a * 32768 + b * 1048576 + csr * 1048576 := by
  rw [c1, c2, c3, c4]
  split
  ·rfl
  ·rename_i h
   rw [hc (by simpa using h)]; omega
 unfold baseS
 rw [ea, el, ec, or01_is _ aq _ (by omega) (by omega) c5, or01_is _ rl _ (by omega) (by omega) c6]
theorem enc_j6 (k : Nat) (hk : 60 ≤ k) (j : Nat) (hj : j < 113) (x rd a b imm csr : Int) (aq rl : Bool) (x0 : 0 ≤ x) (x1 : x < 4294967296)
  (hx : rightS (tabP.getD j rowZ).2.2.2 rd a b imm csr aq rl = true → x = (tabP.getD j rowZ).2.2.1 + rd * 128 + a * 32768 + b * 1048576 + csr * 1048576 + b01 aq * 67108864 + b01 rl * 33554432) :
  decode_Encode.j6 k x ((j : Int) + 1) rd a b imm csr aq rl (tabP.getD j rowZ).1 (tabP.getD j rowZ).2.1 (tabP.getD j rowZ).2.2.1 (tabP.getD j rowZ).2.2.2 =
  some (if rightS (tabP.getD j rowZ).2.2.2 rd a b imm csr aq rl = true then (wordS (tabP.getD j rowZ).2.2.2 (tabP.getD j rowZ).2.2.1 rd a b imm csr aq rl, 0) else (0, 80)) := by
 obtain ⟨f1, f2, hm, hmm, m0, m1⟩ := row_ok j hj
 obtain ⟨k, rfl⟩ : ∃ n, k = n + 1 := ⟨k - 1, by omega⟩
 simp only [decode_Encode.j6]
 rw [nform_at _ f1 f2, Option.bind_some]
 have hn := nF_range (tabP.getD j rowZ).2.2.2
 by_cases hz : nF (tabP.getD j rowZ).2.2.2 = 0
 ·rw [if_pos hz]
  refine enc_look k (by omega) j hj x x0 x1 rd a b imm csr aq rl (fun hr => ?_)
  rw [hx hr]
  unfold wordS
  rw [hz, show putS 0 imm = 0 from rfl]
  omega
 ·rw [if_neg hz, put_at _ imm (by omega) hn.2 k (by omega), Option.bind_some]
  by_cases hf : fitsS (nF (tabP.getD j rowZ).2.2.2) imm = true
  ·rw [if_pos hf]
   dsimp only; rw [if_pos rfl]
   by_cases hr : rightS (tabP.getD j rowZ).2.2.2 rd a b imm csr aq rl = true
   ·obtain ⟨-, -, -, -, -, -, c7⟩ := chain_at _ _ rd a b imm csr aq rl f1 f2 m0 m1 hmm hr
    have hlt := chain_bound _ _ rd a b imm csr aq rl f1 f2 m0 m1 hmm hr
    have hw : wordS (tabP.getD j rowZ).2.2.2 (tabP.getD j rowZ).2.2.1 rd a b imm csr aq rl = Go.bits .or .u32 x (putS (nF (tabP.getD j rowZ).2.2.2) imm) := by rw [hx hr]; exact c7.symm
    obtain ⟨t0, t1, -, -⟩ := word_there (tabP.getD j rowZ).2.2.2 (tabP.getD j rowZ).2.2.1 ((j : Int) + 1) rd a b imm csr aq rl f1 f2 m0 m1 hmm hr
    exact enc_look k (by omega) j hj _ (by rw [← hw]; exact t0) (by rw [← hw]; exact t1) rd a b imm csr aq rl (fun _ => hw)
   ·have hp := put_pos (nF (tabP.getD j rowZ).2.2.2) imm
    have hp2 := put_lt (nF (tabP.getD j rowZ).2.2.2) imm
    obtain ⟨g0, g1⟩ := or_range x _ x0 x1 hp hp2
    exact enc_look k (by omega) j hj _ g0 g1 rd a b imm csr aq rl (fun h => absurd h hr)
  ·rw [if_neg hf]
   dsimp only; rw [if_neg (by decide), if_neg]
   intro hr
   obtain ⟨-, -, -, -, -, -, hi⟩ := rightS_parts hr
   unfold immB at hi
   rw [if_neg hz] at hi
   exact hf hi
theorem encode_at (op rd a b imm csr : Int) (aq rl : Bool) (k : Nat) (hk : 100 ≤ k) : decode_Encode.f k op rd a b imm csr aq rl = some (encS op rd a b imm csr aq rl) := by
 obtain ⟨k, rfl⟩ : ∃ n, k = n + 6 := ⟨k - 6, by omega⟩
 unfold decode_Encode.f encS
 by_cases h : op < 1
 ·rw [if_pos h, if_neg (by omega)]
  rfl
 rw [if_neg h]
 unfold decode_rows.f
 rw [Option.bind_some]
 by_cases g : op > 113
 ·rw [decide_eq_true g, if_neg (by omega)]
  rfl
 rw [decide_eq_false g, if_pos (by omega), enc_j0]
 obtain ⟨j, rfl⟩ : ∃ j : Nat, op = (j : Int) + 1 := ⟨(op - 1).toNat, by omega⟩
 have hj : j < 113 := by omega
 obtain ⟨f1, f2, hm, hmm, m0, m1⟩ := row_ok j hj
 rw [show (j : Int) + 1 - 1 = (j : Int) by omega, rowAt_nat]
 by_cases hR : inR rd a b csr = true
 ·rw [hR]
  have hR' := hR; simp only [inR, decide_eq_true_eq] at hR'
  simp only [decode_Encode.j1]
  rw [if_neg (by decide)]
  unfold decode_rows.f
  rw [Option.bind_some, show wrap64 ((j : Int) + 1 - 1) = (j : Int) by unfold wrap64; omega, if_pos (by omega), if_pos (by omega), rowAt_nat, parts_at _ f1 f2 _ (by omega), Option.bind_some]
  dsimp only; rw [reg_at rd 128 (by omega) (by omega) (by decide), reg_at a 32768 (by omega) (by omega) (by decide), reg_at b 1048576 (by omega) (by omega) (by decide), reg_at csr 1048576 (by omega) (by omega) (by decide)]
  obtain ⟨r0, r1⟩ := base_range (tabP.getD j rowZ).2.2.2 (tabP.getD j rowZ).2.2.1 rd a b csr aq rl m0 m1 hR
  have main := enc_j6 k (by omega) j hj _ rd a b imm csr aq rl r0 r1 (fun hr => base_is _ _ rd a b imm csr aq rl f1 f2 m0 m1 hmm hr)
  rw [← main]
  unfold baseS
  split
  ·rw [enc_j2]
  ·rw [enc_j2]
 ·have h' : inR rd a b csr = false := by simpa using hR
  rw [h', if_neg]
  ·rfl
  ·intro hr
   obtain ⟨hb, -⟩ := rightS_parts hr
   exact hR (by simp only [inR, decide_eq_true_eq]; exact hb)
end Go.Proofs.YtknkfimpflodeaaGreatDoor.P
