/- Whoever does Li's instructions has the number in the register; each is right. No walk. -/
import Derived.Test.YtknkfimpflodeaaGreatDoorLiR
import Derived.Test.YtknkfimpflodeaaGreatDoorRead
import Derived.Test.YtknkfimpflodeaaGreatDoorGM
namespace Go.Proofs.YtknkfimpflodeaaGreatDoor.P
open Go.RowKit Go.Proofs.YtknkfimpflodeaaGreatDoorW.PrintWords Go.Proofs.YtknkfimpflodeaaGreatDoorW.PrintLast Go.Proofs.YtknkfimpflodeaaGreatDoorW.PrintMore
set_option linter.unusedVariables false
theorem form22 : (tabP.getD 21 rowZ).2.2.2 = 3 ∧ (tabP.getD 0 rowZ).2.2.2 = 1 ∧ (tabP.getD 30 rowZ).2.2.2 = 3 ∧ (tabP.getD 27 rowZ).2.2.2 = 6 := by decide +kernel
theorem right_addi (rd a n : Int) (h : 0 ≤ rd ∧ rd ≤ 31 ∧ 0 ≤ a ∧ a ≤ 31) (hn : -2048 ≤ n ∧ n ≤ 2047) : rightI (22, rd, a, 0, n, 0, false, false) = true := by
 have e := encI_at 21 (by decide) rd a 0 n 0 false false
 rw [form22.1] at e
 refine e.trans ?_
 unfold rightS
 simp [rdB, aB, bB, cB, oB, immB, nF, fitsS]
 omega
theorem right_addiw (rd a n : Int) (h : 0 ≤ rd ∧ rd ≤ 31 ∧ 0 ≤ a ∧ a ≤ 31) (hn : -2048 ≤ n ∧ n ≤ 2047) : rightI (31, rd, a, 0, n, 0, false, false) = true := by
 have e := encI_at 30 (by decide) rd a 0 n 0 false false
 rw [form22.2.2.1] at e
 refine e.trans ?_
 unfold rightS
 simp [rdB, aB, bB, cB, oB, immB, nF, fitsS]
 omega
theorem right_lui (rd n : Int) (h : 0 ≤ rd ∧ rd ≤ 31) (hn : -2147483648 ≤ n ∧ n < 2147483648 ∧ n % 4096 = 0) : rightI (1, rd, 0, 0, n, 0, false, false) = true := by
 have e := encI_at 0 (by decide) rd 0 0 n 0 false false
 rw [form22.2.1] at e
 refine e.trans ?_
 unfold rightS
 simp [rdB, aB, bB, cB, oB, immB, nF, fitsS]
 omega
theorem right_slli (rd a n : Int) (h : 0 ≤ rd ∧ rd ≤ 31 ∧ 0 ≤ a ∧ a ≤ 31) (hn : 0 ≤ n ∧ n < 64) : rightI (28, rd, a, 0, n, 0, false, false) = true := by
 have e := encI_at 27 (by decide) rd a 0 n 0 false false
 rw [form22.2.2.2] at e
 refine e.trans ?_
 unfold rightS
 simp [rdB, aB, bB, cB, oB, immB, nF, fitsS]
 omega
/-- what one instruction makes of the register -/
def stepS (x : Int) (i : Ins) : Int :=
 if i.1 = 22 then (if i.2.2.1 = 0 then wrap64 (0 + i.2.2.2.2.1) else wrap64 (x + i.2.2.2.2.1)) else if i.1 = 1 then i.2.2.2.2.1
 else if i.1 = 31 then wrap64 (wrap32 (wrap64 (x + i.2.2.2.2.1))) else shl .i64 x (IntKind.u64.wrap (Go.bits .and .i64 i.2.2.2.2.1 63))
def okS (rd : Int) (first : Bool) (i : Ins) : Prop :=
 i.2.1 = rd ∧ ((i.2.2.1 = 0 ∧ first = true) ∨ i.2.2.1 = rd) ∧ (i.1 = 22 ∨ i.1 = 1 ∨ i.1 = 31 ∨ i.1 = 28)
def okL (rd : Int) (l : List Ins) : Prop := ∃ h t, l = h :: t ∧ okS rd true h ∧ ∀ i ∈ t, okS rd false i
theorem okL_app {rd : Int} {l m : List Ins} (h : okL rd l) (hm : ∀ i ∈ m, okS rd false i) : okL rd (l ++ m) := by
 obtain ⟨a, t, rfl, h1, h2⟩ := h
 refine ⟨a, t ++ m, rfl, h1, fun i hi => ?_⟩
 rcases List.mem_append.1 hi with h | h
 ·exact h2 i h
 ·exact hm i h
theorem okL_at {rd : Int} {l : List Ins} (h : okL rd l) (j : Nat) (hj : j < l.length) : okS rd (decide (j = 0)) l[j] := by
 obtain ⟨a, t, rfl, h1, h2⟩ := h
 cases j with
 | zero => exact h1
 | succ j => exact h2 _ (List.getElem_mem _)
theorem and63_range (n : Int) : 0 ≤ IntKind.u64.wrap (Go.bits .and .i64 n 63) := by
 rw [IntKind.wrap_u64]; omega
theorem done_loop (rd : Int) (hrd : rd ≠ 0) (l : List Ins) (hl : l.length ≤ 1000) (h : okL rd l) : ∀ (d j : Nat) (x : Int), j + d = l.length →
  mezzaninelaw10_done.l0 (2 * d + 2) rd (l.map toS) x (j : Int) = some ((l.drop j).foldl stepS x, true)
 | 0, j, x, hj => by
  rw [mezzaninelaw10_done.l0, if_neg (by rw [List.length_map]; omega), List.drop_eq_nil_of_le (by omega)]
  rfl
 | d + 1, j, x, hj => by
  have hlt : j < l.length := by omega
  have hd : l.drop j = l[j] :: l.drop (j + 1) := List.drop_eq_getElem_cons hlt
  have hrdj : rd_T23 (l.map toS) (j : Int) = toS l[j] := by
   unfold rd_T23
   rw [Int.toNat_natCast, List.getD_eq_getElem?_getD, List.getElem?_map, List.getElem?_eq_getElem hlt]
   rfl
  have ih := fun y => done_loop rd hrd l hl h d (j + 1) y (by omega)
  have hw : wrap64 ((j : Int) + 1) = ((j + 1 : Nat) : Int) := by unfold wrap64; omega
  obtain ⟨o1, o2, o3⟩ := okL_at h j hlt
  rw [hd, List.foldl_cons, show 2 * (d + 1) + 2 = (2 * d + 2 + 1) + 1 by omega, mezzaninelaw10_done.l0, if_pos (by rw [List.length_map]; omega), if_pos (by omega), hrdj]
  generalize l[j] = i at o1 o2 o3 ⊢
  have hj1 : mezzaninelaw10_done.j1 (2 * d + 2 + 1) rd (l.map toS) x (j : Int) false (toS i).f0 (toS i).f1 (toS i).f2 (toS i).f3 (toS i).f4 (toS i).f5 (toS i).f6 (toS i).f7 = some (List.foldl stepS (stepS x i) (l.drop (j + 1)), true) := by
   obtain ⟨op, r, a, b, imm, csr, aq, rl⟩ := i
   show mezzaninelaw10_done.j1 (2 * d + 2 + 1) rd (l.map toS) x (j : Int) false op r a b imm csr aq rl = _
   have o4 : op = 22 ∨ op = 1 ∨ op = 31 ∨ op = 28 := o3
   clear o1 o2 o3; rw [mezzaninelaw10_done.j1, if_neg (by decide), hw]
   rcases o4 with rfl | rfl | rfl | rfl
   ·rw [if_pos rfl]
    by_cases g : a = 0
    ·have e : stepS x (22, r, a, b, imm, csr, aq, rl) = wrap64 (0 + imm) := by
      show (if a = 0 then _ else _) = _
      rw [if_pos g]
     rw [if_pos g, ih, e]
    ·have e : stepS x (22, r, a, b, imm, csr, aq, rl) = wrap64 (x + imm) := by
      show (if a = 0 then _ else _) = _
      rw [if_neg g]
     rw [if_neg g, ih, e]
   ·rw [if_neg (by decide), if_pos rfl, ih]; rfl
   ·rw [if_neg (by decide), if_neg (by decide), if_pos rfl, ih]; rfl
   ·rw [if_neg (by decide), if_neg (by decide), if_neg (by decide), if_pos rfl, if_pos (and63_range _), ih]; rfl
  rw [if_pos (show (toS i).f1 = rd from o1)]
  by_cases g : (toS i).f2 = 0
  ·have hz : j = 0 := by
    rcases o2 with ⟨-, h⟩ | h
    ·exact of_decide_eq_true h
    ·exact absurd (h.symm.trans g) hrd
   rw [if_pos g, decide_eq_false (by omega), hj1]
  ·have hr : (toS i).f2 = rd := by
    rcases o2 with ⟨h, -⟩ | h
    ·exact absurd h g
    ·exact h
   rw [if_neg g, if_pos hr, hj1]
theorem slli_and (z : Nat) (hz : z ≤ 63) : IntKind.u64.wrap (Go.bits .and .i64 (z : Int) 63) = (z : Int) := by
 have e := and_i64 6 (by decide) (z : Int)
 have e' : Go.bits .and .i64 (z : Int) 63 = (z : Int) % 64 := by simpa using e
 rw [e', IntKind.wrap_u64]; omega
/-- all that is said of Li's instructions -/
theorem li_does : ∀ (k : Nat) (rd n : Int), fitP k n → 1 ≤ k → 1 ≤ rd → rd ≤ 31 → okL rd (liS k rd n) ∧ (liS k rd n).foldl stepS 0 = n
 | 0, rd, n, hP, hk, _, _ => by omega
 | k + 1, rd, n, hP, hk, r0, r1 => by
  obtain ⟨⟨n0, n1⟩, -, -⟩ := id hP
  obtain ⟨l0, l1, l2⟩ := low_range n
  unfold liS
  rw [if_neg (by omega)]
  by_cases h3 : -2048 ≤ n ∧ n ≤ 2047
  ·rw [if_pos h3]
   refine ⟨⟨_, [], rfl, ⟨rfl, .inl ⟨rfl, rfl⟩, .inl rfl⟩, by simp⟩, ?_⟩
   simp [stepS]
   unfold wrap64; omega
  rw [if_neg h3]
  by_cases h4 : n = i32S n
  ·have hb := (i32_iff n).1 h4
   rw [if_pos h4]
   by_cases h7 : lowS n = 0
   ·rw [if_pos h7, h7]
    refine ⟨⟨_, [], rfl, ⟨rfl, .inl ⟨rfl, rfl⟩, .inr (.inl rfl)⟩, by simp⟩, ?_⟩
    simp [stepS]
    exact h4.symm
   ·rw [if_neg h7]
    refine ⟨⟨_, _, rfl, ⟨rfl, .inl ⟨rfl, rfl⟩, .inr (.inl rfl)⟩, ?_⟩, ?_⟩
    ·intro i hi
     rw [List.mem_singleton.1 hi]
     exact ⟨rfl, .inr rfl, .inr (.inr (.inl rfl))⟩
    ·simp [stepS]
     unfold i32S wrap32 wrap64; omega
  ·have hb : ¬ (-2147483648 ≤ n ∧ n ≤ 2147483647) := fun h => h4 ((i32_iff n).2 h)
   obtain ⟨z1, z2, hq⟩ := li_step k n hP hb
   have hk1 : 1 ≤ k := by
    rcases Nat.eq_zero_or_pos k with h | h
    ·subst h
     obtain ⟨-, b0, b1⟩ := hP
     rw [show 12 * (0 + 1) + 19 = 31 by omega, show (2 : Int) ^ 31 = 2147483648 from rfl] at b0 b1
     omega
    ·exact h
   have m0 : -9223372036854775808 ≤ wrap64 (n - lowS n) := by unfold wrap64; omega
   have m1 : wrap64 (n - lowS n) ≤ 9223372036854775807 := by unfold wrap64; omega
   have m3 : wrap64 (n - lowS n) ≠ 0 := by unfold wrap64; omega
   have hback : wrap64 (wrap64 (n - lowS n) + lowS n) = n := by unfold wrap64; omega
   have hmm : lowS n = 0 → wrap64 (n - lowS n) = n := by intro h; rw [h]; unfold wrap64; omega
   rw [if_neg h4]
   generalize wrap64 (n - lowS n) = m at z1 z2 hq m0 m1 m3 hback hmm ⊢
   obtain ⟨t, ht, -⟩ := ctz_odd m m0 m1 m3
   generalize Lib.ctz 64 (m % 18446744073709551616).toNat = z at z1 z2 hq ht ⊢
   have hZ : (0 : Int) < 2 ^ z := by exact_mod_cast Nat.two_pow_pos z
   have hqe : m / 2 ^ z = 2 * t + 1 := by
    conv => lhs; rw [ht]
    exact Int.mul_ediv_cancel_left _ (by omega)
   rw [hqe] at hq ⊢
   obtain ⟨i1, i2⟩ := li_does k rd (2 * t + 1) hq hk1 r0 r1
   have hsh : stepS (2 * t + 1) (28, rd, rd, 0, (z : Int), 0, false, false) = m := by
    show shl .i64 (2 * t + 1) (IntKind.u64.wrap (Go.bits .and .i64 (z : Int) 63)) = m
    rw [slli_and z z2]
    unfold shl
    rw [show min (z : Int).toNat IntKind.i64.bits = z by rw [show IntKind.i64.bits = 64 from rfl]; omega, Int.mul_comm, ← ht, IntKind.wrap_i64]
    omega
   refine ⟨okL_app i1 ?_, ?_⟩
   ·intro i hi
    rcases List.mem_cons.1 hi with rfl | hi
    ·exact ⟨rfl, .inr rfl, .inr (.inr (.inr rfl))⟩
    ·by_cases h7 : lowS n = 0
     ·rw [if_pos h7] at hi; cases hi
     ·rw [if_neg h7] at hi
      rw [List.mem_singleton.1 hi]
      exact ⟨rfl, .inr rfl, .inl rfl⟩
   ·rw [List.foldl_append, i2, List.foldl_cons, hsh]
    by_cases h7 : lowS n = 0
    ·rw [if_pos h7]; exact hmm h7
    ·rw [if_neg h7]
     show stepS m (22, rd, rd, 0, lowS n, 0, false, false) = n
     unfold stepS
     rw [if_pos rfl, if_neg (by show ¬ rd = 0; omega)]
     exact hback
theorem li_right : ∀ (k : Nat) (rd n : Int), fitP k n → 1 ≤ k → 0 ≤ rd → rd ≤ 31 → ∀ i ∈ liS k rd n, rightI i = true
 | 0, rd, n, hP, hk, _, _ => by omega
 | k + 1, rd, n, hP, hk, r0, r1 => by
  obtain ⟨⟨n0, n1⟩, -, -⟩ := id hP
  obtain ⟨l0, l1, l2⟩ := low_range n
  unfold liS
  rw [if_neg (by omega)]
  by_cases h3 : -2048 ≤ n ∧ n ≤ 2047
  ·rw [if_pos h3]
   intro i hi
   rw [List.mem_singleton.1 hi]
   exact right_addi rd 0 n (by omega) h3
  rw [if_neg h3]
  by_cases h4 : n = i32S n
  ·have hb := (i32_iff n).1 h4
   rw [if_pos h4]
   intro i hi
   rcases List.mem_cons.1 hi with rfl | hi
   ·exact right_lui rd _ ⟨r0, r1⟩ (by unfold i32S; omega)
   ·by_cases h7 : lowS n = 0
    ·rw [if_pos h7] at hi; cases hi
    ·rw [if_neg h7] at hi
     rw [List.mem_singleton.1 hi]
     exact right_addiw rd rd _ (by omega) ⟨l0, l1⟩
  ·have hb : ¬ (-2147483648 ≤ n ∧ n ≤ 2147483647) := fun h => h4 ((i32_iff n).2 h)
   obtain ⟨z1, z2, hq⟩ := li_step k n hP hb
   have hk1 : 1 ≤ k := by
    rcases Nat.eq_zero_or_pos k with h | h
    ·subst h
     obtain ⟨-, b0, b1⟩ := hP
     rw [show 12 * (0 + 1) + 19 = 31 by omega, show (2 : Int) ^ 31 = 2147483648 from rfl] at b0 b1
     omega
    ·exact h
   rw [if_neg h4]
   intro i hi
   rcases List.mem_append.1 hi with hi | hi
   ·exact li_right k rd _ hq hk1 r0 r1 i hi
   ·rcases List.mem_cons.1 hi with rfl | hi
    ·exact right_slli rd rd _ (by omega) (by omega)
    ·by_cases h7 : lowS n = 0
     ·rw [if_pos h7] at hi; cases hi
     ·rw [if_neg h7] at hi
      rw [List.mem_singleton.1 hi]
      exact right_addi rd rd _ (by omega) ⟨l0, l1⟩
end Go.Proofs.YtknkfimpflodeaaGreatDoor.P
