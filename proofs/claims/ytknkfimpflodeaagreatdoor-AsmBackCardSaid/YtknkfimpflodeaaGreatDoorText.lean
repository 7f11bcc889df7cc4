/- Texts: cutting at a piece, numerals read back. Plain laws on lists of bytes; no program. -/
import Derived.Lib.ParseIntB
import Derived.Lib.ItoaNum
import Derived.Lib.IndexMore
import Derived.Lib.Split
import Derived.Lib.Strings
import Derived.Lib.Join
namespace Go.Proofs.YtknkfimpflodeaaGreatDoor.P
set_option linter.unusedVariables false
open Go
theorem prefix_no {c b : UInt8} (t l : List UInt8) (h : ¬ b = c) : List.isPrefixOf (c :: t) (b :: l) = false := by
 have e : ¬ c = b := fun e => h e.symm
 simp [List.isPrefixOf, e]
theorem prefix_app (s l : List UInt8) : List.isPrefixOf s (s ++ l) = true := by
 rw [List.isPrefixOf_iff_prefix]; exact List.prefix_append s l
theorem index_hit (c : UInt8) (t r : List UInt8) : ∀ p : List UInt8, c ∉ p → Lib.index (p ++ (c :: t ++ r)) (c :: t) = p.length
 | [], _ => by
  show Lib.index (c :: (t ++ r)) (c :: t) = 0
  unfold Lib.index
  rw [show List.isPrefixOf (c :: t) (c :: (t ++ r)) = true from prefix_app (c :: t) r]
  rfl
 | b :: p, h => by
  have h1 : ¬ b = c := fun e => h (by rw [e]; exact List.mem_cons_self)
  have h2 : c ∉ p := fun e => h (List.mem_cons_of_mem _ e)
  have ih := index_hit c t r p h2
  show Lib.index (b :: (p ++ (c :: t ++ r))) (c :: t) = _
  unfold Lib.index
  rw [prefix_no _ _ h1, ih]
  have : (((p.length : Nat) : Int) == -1) = false := by rw [beq_eq_false_iff_ne]; omega
  simp [this]
theorem index_miss (c : UInt8) (t : List UInt8) : ∀ p : List UInt8, c ∉ p → Lib.index p (c :: t) = -1
 | [], _ => rfl
 | b :: p, h => by
  have h1 : ¬ b = c := fun e => h (by rw [e]; exact List.mem_cons_self)
  have h2 : c ∉ p := fun e => h (List.mem_cons_of_mem _ e)
  have ih := index_miss c t p h2
  unfold Lib.index
  rw [prefix_no _ _ h1, ih]
  rfl
theorem cut_hit (c : UInt8) (t p r : List UInt8) (h : c ∉ p) : Lib.cut (p ++ (c :: t ++ r)) (c :: t) = (p, r, true) := by
 unfold Lib.cut
 rw [index_hit c t r p h, if_pos (by omega)]
 simp only [Int.toNat_natCast]
 refine Prod.ext ?_ (Prod.ext ?_ rfl)
 ·simp
 ·show List.drop (p.length + (c :: t).length) (p ++ (c :: t ++ r)) = r
  rw [← List.append_assoc, List.drop_append_of_le_length (by simp), List.drop_eq_nil_of_le (by simp)]
  rfl
theorem cut_miss (c : UInt8) (t p : List UInt8) (h : c ∉ p) : Lib.cut p (c :: t) = (p, [], false) := by
 unfold Lib.cut
 rw [index_miss c t p h, if_neg (by decide)]
/-- what a cut says: found, or not -/
theorem cut_spec (s sep : List UInt8) : (((Lib.cut s sep).2.2 = true ∧ s = (Lib.cut s sep).1 ++ (sep ++ (Lib.cut s sep).2.1)) ∨ Lib.cut s sep = (s, [], false)) := by
 rcases Lib.index_spec s sep with ⟨h, _⟩ | ⟨i, h, h2, h3, h4⟩
 ·right
  unfold Lib.cut
  rw [h, if_neg (by decide)]
 ·left
  unfold Lib.cut
  rw [h, if_pos (by omega)]
  refine ⟨rfl, ?_⟩
  show s = List.take (i : Int).toNat s ++ (sep ++ List.drop ((i : Int).toNat + sep.length) s)
  rw [Int.toNat_natCast]
  have hp : sep <+: s.drop i := by rw [← List.isPrefixOf_iff_prefix]; exact h3
  have e : s.drop i = sep ++ (s.drop i).drop sep.length := by
   obtain ⟨r, hr⟩ := hp
   rw [← hr]; simp
  rw [List.drop_drop] at e
  conv => lhs; rw [← List.take_append_drop i s, e]
/-! numerals -/
def isDigitB (c : UInt8) : Prop := 48 ≤ c.toNat ∧ c.toNat ≤ 57
theorem ofNat_digit (d : Nat) (h : d < 10) : (UInt8.ofNat (48 + d)).toNat = 48 + d := by
 rw [UInt8.toNat_ofNat']; omega
theorem digits_are : ∀ (u : Nat), ∀ c ∈ Lib.decDigits u, isDigitB c := by
 intro u
 induction u using Nat.strongRecOn with
 | _ u ih =>
  intro c hc
  rw [Lib.decDigits] at hc
  split at hc
  ·rw [List.mem_singleton] at hc
   subst hc; unfold isDigitB
   rw [ofNat_digit u (by omega)]
   omega
  ·rcases List.mem_append.1 hc with h | h
   ·exact ih (u / 10) (by omega) c h
   ·rw [List.mem_singleton] at h
    subst h; unfold isDigitB
    rw [ofNat_digit _ (Nat.mod_lt _ (by decide))]
    omega
theorem digits_some (u : Nat) : ∃ c t, Lib.decDigits u = c :: t ∧ isDigitB c := by
 cases e : Lib.decDigits u with
 | nil =>
  have h1 := Lib.decDigits_length u
  have h2 := Lib.nDigits_pos u
  rw [e] at h1
  simp at h1
  omega
 | cons c t => exact ⟨c, t, rfl, digits_are u c (by rw [e]; exact List.mem_cons_self)⟩
theorem parseU_app (M : Nat) : ∀ (l : List UInt8) (acc a : Nat) (c : UInt8), Lib.parseUintM M acc l = .ok a → Lib.parseUintM M acc (l ++ [c]) = Lib.parseUintM M a [c]
 | [], acc, a, c, h => by
  obtain rfl : acc = a := by simpa [Lib.parseUintM] using h
  rfl
 | b :: l, acc, a, c, h => by
  show Lib.parseUintM M acc (b :: (l ++ [c])) = _
  unfold Lib.parseUintM at h
  conv => lhs; unfold Lib.parseUintM
  split at h
  ·rename_i hd
   rw [if_pos hd]
   split at h
   ·cases h
   ·rename_i h1
    rw [if_neg h1]
    split at h
    ·cases h
    ·rename_i h2
     rw [if_neg h2]
     exact parseU_app M l _ a c h
  ·cases h
theorem parse_digits (M : Nat) (hM : M ≤ 18446744073709551615) : ∀ (u : Nat), u ≤ M → Lib.parseUintM M 0 (Lib.decDigits u) = .ok u := by
 intro u
 induction u using Nat.strongRecOn with
 | _ u ih =>
  intro hu
  rw [Lib.decDigits]
  split
  ·rename_i h
   have e := ofNat_digit u h
   simp only [Lib.parseUintM, e]
   rw [if_pos (by omega), if_neg (by omega), if_neg (by omega)]
   congr 1; omega
  ·rename_i h
   have e := ofNat_digit (u % 10) (Nat.mod_lt _ (by decide))
   rw [parseU_app M _ 0 (u / 10) _ (ih (u / 10) (by omega) (by omega))]
   simp only [Lib.parseUintM, e]
   rw [if_pos (by omega), if_neg (by omega), if_neg (by omega)]
   congr 1; omega
theorem parse_itoa (n : Int) (h0 : -9223372036854775808 ≤ n) (h1 : n ≤ 9223372036854775807) : Lib.parseIntB 64 (Lib.itoa n) = .ok n := by
 unfold Lib.itoa
 split
 ·rename_i h
  obtain ⟨c, t, e, hc⟩ := digits_some n.natAbs
  have hp := parse_digits 18446744073709551615 (Nat.le_refl _) n.natAbs (by omega)
  unfold Lib.parseIntB
  have e1 : (45 : UInt8).toNat = 45 := rfl
  simp only [e1]
  rw [if_pos (show (45 : Nat) = 43 ∨ True from Or.inr trivial)]
  unfold Lib.parseUintB
  rw [if_neg (by rw [e]; exact List.cons_ne_nil _ _), show (2 : Nat) ^ 64 - 1 = 18446744073709551615 from rfl, hp]
  simp only [show (2 : Nat) ^ (64 - 1) = 9223372036854775808 from rfl]
  rw [if_neg (by simp), if_neg (by omega), if_pos trivial]
  congr 1; omega
 ·rename_i h
  obtain ⟨c, t, e, hc⟩ := digits_some n.toNat
  have hp := parse_digits 18446744073709551615 (Nat.le_refl _) n.toNat (by omega)
  rw [e] at hp ⊢
  unfold isDigitB at hc
  unfold Lib.parseIntB
  have h43 : ¬ c.toNat = 43 := by omega
  have h45 : ¬ c.toNat = 45 := by omega
  simp only [h43, h45, or_self, if_false]
  unfold Lib.parseUintB
  rw [if_neg (List.cons_ne_nil _ _), show (2 : Nat) ^ 64 - 1 = 18446744073709551615 from rfl, hp]
  simp only [show (2 : Nat) ^ (64 - 1) = 9223372036854775808 from rfl]
  rw [if_neg (by omega), if_neg (by simp)]
  congr 1; omega
theorem itoa_chars (n : Int) : ∀ c ∈ Lib.itoa n, c = 45 ∨ isDigitB c := by
 intro c hc
 unfold Lib.itoa at hc
 split at hc
 ·rcases List.mem_cons.1 hc with h | h
  ·exact Or.inl h
  ·exact Or.inr (digits_are _ c h)
 ·exact Or.inr (digits_are _ c hc)
theorem itoa_no (n : Int) (c : UInt8) (h : c.toNat < 45 ∨ c.toNat = 46 ∨ c.toNat = 47 ∨ 57 < c.toNat) : c ∉ Lib.itoa n := by
 intro hc
 rcases itoa_chars n c hc with rfl | hd
 ·have : (45 : UInt8).toNat = 45 := rfl
  omega
 ·unfold isDigitB at hd
  omega
theorem itoa_ne (n : Int) : Lib.itoa n ≠ [] := by
 unfold Lib.itoa
 split
 ·exact List.cons_ne_nil _ _
 ·obtain ⟨c, t, e, -⟩ := digits_some n.toNat
  rw [e]; exact List.cons_ne_nil _ _
theorem itoa_inj (n m : Int) (h0 : -9223372036854775808 ≤ n) (h1 : n ≤ 9223372036854775807) (g0 : -9223372036854775808 ≤ m) (g1 : m ≤ 9223372036854775807) (h : Lib.itoa n = Lib.itoa m) : n = m := by
 have a := parse_itoa n h0 h1
 have b := parse_itoa m g0 g1
 rw [h, b] at a
 injection a with e
 exact e.symm
end Go.Proofs.YtknkfimpflodeaaGreatDoor.P
