/- A line is read as it was written, and what is read is written as it stands (plain Lean; no program). -/
import Derived.Test.YtknkfimpflodeaaGreatDoorAsm
import Derived.Test.YtknkfimpflodeaaGreatDoorText
namespace Go.Proofs.YtknkfimpflodeaaGreatDoor.P
set_option linter.unusedVariables false
/-! ### which operands -/
theorem encI_at (j : Nat) (hj : j < 113) (rd a b imm csr : Int) (aq rl : Bool) : rightI ((j : Int) + 1, rd, a, b, imm, csr, aq, rl) = rightS (tabP.getD j rowZ).2.2.2 rd a b imm csr aq rl := by
 unfold rightI encI encS
 dsimp only; rw [if_pos (by omega), show (j : Int) + 1 - 1 = (j : Int) by omega, show rowAt (j : Int) = tabP.getD j rowZ by unfold rowAt; rw [Int.toNat_natCast]]
 by_cases h : rightS (tabP.getD j rowZ).2.2.2 rd a b imm csr aq rl = true
 ·rw [if_pos h, h]; rfl
 ·rw [if_neg h, Bool.eq_false_iff.2 h]; rfl
theorem right_op (i : Ins) (h : rightI i = true) : ∃ j : Nat, j < 113 ∧ i.1 = (j : Int) + 1 := by
 unfold rightI encI encS at h
 by_cases g : 1 ≤ i.1 ∧ i.1 ≤ 113
 ·exact ⟨(i.1 - 1).toNat, by omega, by omega⟩
 ·rw [if_neg g] at h
  exact absurd h (by decide)
theorem right_enc (i : Ins) (h : rightI i = true) : (encI i).2 = 0 := of_decide_eq_true h
/-- the form of an instruction -/
def fmOf (op : Int) : Int := (rowAt (op - 1)).2.2.2
theorem fmOf_at (j : Nat) : fmOf ((j : Int) + 1) = (tabP.getD j rowZ).2.2.2 := by
 unfold fmOf rowAt
 rw [show (j : Int) + 1 - 1 = (j : Int) by omega, Int.toNat_natCast]
theorem of_form (fm : Int) (h1 : 1 ≤ fm) (h2 : fm ≤ 15) :
  (rightS fm 1 0 0 0 0 false false, rightS fm 0 1 0 0 0 false false, rightS fm 0 0 1 0 0 false false, rightS fm 0 0 0 4 0 false false || rightS fm 0 0 0 4096 0 false false, rightS fm 0 0 0 0 1 false false) =
  (rdB fm, aB fm, bB fm, decide (nF fm ≠ 0), cB fm) := by
 rcases forms fm h1 h2 with rfl | rfl | rfl | rfl | rfl | rfl | rfl | rfl | rfl | rfl | rfl | rfl | rfl | rfl | rfl <;> decide +kernel
theorem ofS_at (j : Nat) (hj : j < 113) : ofS ((j : Int) + 1) = (rdB (fmOf ((j : Int) + 1)), aB (fmOf ((j : Int) + 1)), bB (fmOf ((j : Int) + 1)), decide (nF (fmOf ((j : Int) + 1)) ≠ 0), cB (fmOf ((j : Int) + 1))) := by
 obtain ⟨f1, f2, -⟩ := row_ok j hj
 unfold ofS
 rw [encI_at j hj, encI_at j hj, encI_at j hj, encI_at j hj, encI_at j hj, encI_at j hj, fmOf_at]
 exact of_form _ f1 f2
/-- what a right instruction's parts are -/
theorem right_parts (i : Ins) (h : rightI i = true) :
  (0 ≤ i.2.1 ∧ i.2.1 ≤ 31 ∧ 0 ≤ i.2.2.1 ∧ i.2.2.1 ≤ 31 ∧ 0 ≤ i.2.2.2.1 ∧ i.2.2.2.1 ≤ 31 ∧ 0 ≤ i.2.2.2.2.2.1 ∧ i.2.2.2.2.2.1 ≤ 4095) ∧
  ((ofS i.1).1 = false → i.2.1 = 0) ∧ ((ofS i.1).2.1 = false → i.2.2.1 = 0) ∧ ((ofS i.1).2.2.1 = false → i.2.2.2.1 = 0) ∧ ((ofS i.1).2.2.2.1 = false → i.2.2.2.2.1 = 0) ∧ ((ofS i.1).2.2.2.2 = false → i.2.2.2.2.2.1 = 0) ∧
  (-2147483648 ≤ i.2.2.2.2.1 ∧ i.2.2.2.2.1 < 2147483648) := by
 obtain ⟨op, rd, a, b, imm, csr, aq, rl⟩ := i
 obtain ⟨j, hj, e⟩ := right_op _ h
 dsimp only at e
 subst e; rw [encI_at j hj] at h
 rw [ofS_at j hj, fmOf_at]
 dsimp only; generalize (tabP.getD j rowZ).2.2.2 = fm at h ⊢
 unfold rightS at h
 simp only [Bool.and_eq_true, decide_eq_true_eq] at h
 obtain ⟨⟨⟨⟨⟨⟨hr, h1⟩, h2⟩, h3⟩, h4⟩, h5⟩, h6⟩ := h
 refine ⟨hr, ?_, ?_, ?_, ?_, ?_, ?_⟩
 ·intro g; rw [g] at h1; simpa using h1
 ·intro g; rw [g] at h2; simpa using h2
 ·intro g; rw [g] at h3; simpa using h3
 ·intro g
  have g' : nF fm = 0 := by simpa using g
  unfold immB at h6
  rw [if_pos g'] at h6
  simpa using h6
 ·intro g; rw [g] at h4; simpa using h4
 ·unfold immB fitsS at h6
  repeat' split at h6
  all_goals first | (simp only [decide_eq_true_eq] at h6; omega) | cases h6
/-! ### names -/
theorem names_all : (List.range 113).all (fun j => [(false, false), (false, true), (true, false), (true, true)].all fun q =>
  decide (opS (nameS ((j : Int) + 1) ++ sufS q.1 q.2) = ((j : Int) + 1, q.1, q.2)) && decide ((32 : UInt8) ∉ nameS ((j : Int) + 1) ++ sufS q.1 q.2)) = true := by decide +kernel
theorem names_at (j : Nat) (hj : j < 113) (aq rl : Bool) : opS (nameS ((j : Int) + 1) ++ sufS aq rl) = ((j : Int) + 1, aq, rl) ∧ (32 : UInt8) ∉ nameS ((j : Int) + 1) ++ sufS aq rl := by
 have h1 := List.all_eq_true.1 names_all j (List.mem_range.2 hj)
 have h2 := List.all_eq_true.1 h1 (aq, rl) (by cases aq <;> cases rl <;> simp)
 simpa using h2
theorem opB_inv : ∀ (l : List (ByteArray × Int × Int × Int)) (op : Int) (s : BL), opOf.opB l op s ≠ 0 → ∃ k : Nat, k < l.length ∧ opOf.opB l op s = op + k ∧ (l.getD k rowZ).1.data.toList = s
 | [], op, s, h => absurd rfl h
 | r :: t, op, s, h => by
  unfold opOf.opB at h ⊢
  by_cases c : r.1.data.toList = s
  ·rw [if_pos c]
   exact ⟨0, by simp, by simp, by simpa using c⟩
  ·rw [if_neg c] at h ⊢
   obtain ⟨k, h1, h2, h3⟩ := opB_inv t (op + 1) s h
   exact ⟨k + 1, by simp; omega, by omega, by simpa using h3⟩
theorem opOf_inv (s : BL) (h : opOf s ≠ 0) : ∃ j : Nat, j < 113 ∧ opOf s = (j : Int) + 1 ∧ nameS ((j : Int) + 1) = s := by
 obtain ⟨k, h1, h2, h3⟩ := opB_inv tabP 1 s h
 rw [tab_len] at h1
 refine ⟨k, h1, by unfold opOf; omega, ?_⟩
 unfold nameS rowAt
 rw [if_pos (by omega), show (k : Int) + 1 - 1 = (k : Int) by omega, Int.toNat_natCast, h3]
theorem suffix_split (s p : BL) (h : Lib.hasSuffix s p = true) : Lib.trimSuffix s p ++ p = s := by
 unfold Lib.trimSuffix
 rw [if_pos h]
 unfold Lib.hasSuffix at h
 rw [List.isSuffixOf_iff_suffix] at h
 obtain ⟨r, rfl⟩ := h
 simp
theorem prefix_split (s p : BL) (h : Lib.hasPrefix s p = true) : s = p ++ s.drop p.length := by
 unfold Lib.hasPrefix at h
 rw [List.isPrefixOf_iff_prefix] at h
 obtain ⟨r, rfl⟩ := h
 simp
/-- an instruction's name and its order, read: that is what stands there -/
theorem opS_inv (s : BL) (h : (opS s).1 ≠ 0) : ∃ j : Nat, j < 113 ∧ (opS s).1 = (j : Int) + 1 ∧ nameS ((j : Int) + 1) ++ sufS (opS s).2.1 (opS s).2.2 = s := by
 by_cases g0 : opOf s = 0
 rotate_left
 ·obtain ⟨j, h1, h2, h3⟩ := opOf_inv s g0
  have kp : ∀ (x : BL × Bool × Bool) (st : Int × Bool × Bool), st.1 ≠ 0 → sufStep s x st = st := by
   intro x st hs
   unfold sufStep
   rw [if_neg (fun c => hs c.1)]
  have e : opS s = (opOf s, false, false) := by
   unfold opS
   have k1 := kp ([46, 97, 113, 114, 108], true, true) (opOf s, false, false) g0
   rw [k1, kp ([46, 97, 113], true, false) _ g0, kp _ _ g0]
  rw [e]
  exact ⟨j, h1, h2, by rw [h3]; simp [sufS]⟩
 have key : ∀ (p : BL) (aq rl : Bool) (st : Int × Bool × Bool), sufS aq rl = p → (sufStep s (p, aq, rl) st).1 ≠ 0 → st.1 ≠ 0 ∨ ∃ j : Nat, j < 113 ∧ (sufStep s (p, aq, rl) st).1 = (j : Int) + 1 ∧ nameS ((j : Int) + 1) ++ sufS (sufStep s (p, aq, rl) st).2.1 (sufStep s (p, aq, rl) st).2.2 = s := by
  intro p aq rl st hp hn
  by_cases c : st.1 = 0 ∧ Lib.hasSuffix s p = true
  ·right
   unfold sufStep at hn ⊢
   rw [if_pos c] at hn ⊢
   obtain ⟨j, h1, h2, h3⟩ := opOf_inv _ hn
   exact ⟨j, h1, h2, by dsimp only; rw [h3, hp]; exact suffix_split s p c.2⟩
  ·left
   unfold sufStep at hn
   rw [if_neg c] at hn
   exact hn
 have keep : ∀ (x : BL × Bool × Bool) (st : Int × Bool × Bool), st.1 ≠ 0 → sufStep s x st = st := by
  intro x st hs
  unfold sufStep
  rw [if_neg (fun c => hs c.1)]
 unfold opS at h ⊢
 rcases key [46, 114, 108] false true _ rfl h with h | h
 rotate_left
 ·exact h
 rw [keep _ _ h]
 rcases key [46, 97, 113] true false _ rfl h with h | h
 rotate_left
 ·exact h
 rw [keep _ _ h]
 rcases key [46, 97, 113, 114, 108] true true _ rfl h with h | h
 rotate_left
 ·exact h
 exact absurd g0 h
/-! ### operands -/
def leadS (f : Bool) : BL := if f = true then [] else [44, 32]
def joinF : Bool → List BL → BL
 | _, [] => []
 | f, o :: t => leadS f ++ (o ++ joinF false t)
def one (said : Bool) (t : BL) : List BL := if said = true then [t] else []
theorem joinF_join : ∀ L : List BL, joinF true L = Lib.join L [44, 32]
 | [] => by simp [joinF, Lib.join]
 | [o] => by simp [joinF, Lib.join, leadS]
 | o :: p :: t => by
  have ih := joinF_join (p :: t)
  unfold Lib.join at ih ⊢
  rw [List.intercalate_cons_cons, ← ih]
  simp [joinF, leadS]
theorem join_ne (o : BL) (t : List BL) (h : o ≠ []) : joinF true (o :: t) ≠ [] := by
 simp only [joinF, leadS]
 intro e
 simp at e
 exact h e.1
/-- the operands' texts; the number's may be a label -/
def immT (imm : Int) (lbl : BL) : BL := if lbl = [] then Lib.itoa imm else 64 :: lbl
def opsL (x : Bool × Bool × Bool × Bool × Bool) (rd a b imm csr : Int) (lbl : BL) : List BL :=
 one x.1 (120 :: Lib.itoa rd) ++ (one x.2.1 (120 :: Lib.itoa a) ++ (one x.2.2.1 (120 :: Lib.itoa b) ++ (one x.2.2.2.1 (immT imm lbl) ++ (one x.2.2.2.2 (Lib.itoa csr) ++ []))))
/-- a line with the number's text in question -/
def lineOf (i : Ins) (lbl : BL) : BL :=
 nameS i.1 ++ sufS i.2.2.2.2.2.2.1 i.2.2.2.2.2.2.2 ++ (if anyS (ofS i.1) = true then 32 :: joinF true (opsL (ofS i.1) i.2.1 i.2.2.1 i.2.2.2.1 i.2.2.2.2.1 i.2.2.2.2.2.1 lbl) else [])
theorem one_nil (x : Bool) (t : BL) (h : t ≠ []) : List.filter (fun s => decide (s ≠ [])) [if x = true then t else []] = one x t := by
 cases x <;> simp [one, h]
theorem filter_five (p : BL → Bool) (a b c d e : BL) : List.filter p [a, b, c, d, e] = List.filter p [a] ++ (List.filter p [b] ++ (List.filter p [c] ++ (List.filter p [d] ++ (List.filter p [e] ++ [])))) := by
 rw [show [a, b, c, d, e] = [a] ++ ([b] ++ ([c] ++ ([d] ++ [e]))) from rfl, List.filter_append, List.filter_append, List.filter_append, List.filter_append, List.append_nil]
theorem moreS_eq (i : Ins) : moreS i = joinF true (opsL (ofS i.1) i.2.1 i.2.2.1 i.2.2.2.1 i.2.2.2.2.1 i.2.2.2.2.2.1 []) := by
 unfold moreS joinS opsL immT regS numT
 rw [joinF_join]
 congr 1
 have hx : ∀ n : Int, (120 :: Lib.itoa n) ≠ [] := fun n => List.cons_ne_nil _ _
 rw [if_pos rfl]
 rw [← one_nil (ofS i.1).1 _ (hx _), ← one_nil (ofS i.1).2.1 _ (hx _), ← one_nil (ofS i.1).2.2.1 _ (hx _), ← one_nil (ofS i.1).2.2.2.1 _ (itoa_ne _), ← one_nil (ofS i.1).2.2.2.2 _ (itoa_ne _)]
 exact filter_five _ _ _ _ _ _
theorem opsL_any (x : Bool × Bool × Bool × Bool × Bool) (rd a b imm csr : Int) (lbl : BL) : (opsL x rd a b imm csr lbl = [] ∧ anyS x = false) ∨ (joinF true (opsL x rd a b imm csr lbl) ≠ [] ∧ opsL x rd a b imm csr lbl ≠ [] ∧ anyS x = true) := by
 have hi : immT imm lbl ≠ [] := by unfold immT; split; exact itoa_ne _; exact List.cons_ne_nil _ _
 have hx : ∀ n : Int, (120 :: Lib.itoa n) ≠ [] := fun n => List.cons_ne_nil _ _
 obtain ⟨x1, x2, x3, x4, x5⟩ := x
 cases x1
 ·cases x2
  ·cases x3
   ·cases x4
    ·cases x5
     ·exact Or.inl ⟨rfl, rfl⟩
     ·exact Or.inr ⟨join_ne _ _ (itoa_ne _), List.cons_ne_nil _ _, rfl⟩
    ·exact Or.inr ⟨join_ne _ _ hi, List.cons_ne_nil _ _, rfl⟩
   ·exact Or.inr ⟨join_ne _ _ (hx _), List.cons_ne_nil _ _, rfl⟩
  ·exact Or.inr ⟨join_ne _ _ (hx _), List.cons_ne_nil _ _, rfl⟩
 ·exact Or.inr ⟨join_ne _ _ (hx _), List.cons_ne_nil _ _, rfl⟩
/-- what is printed is the instruction's line -/
theorem printS_line (i : Ins) (h : rightI i = true) : printS i = (lineOf i [], 0) := by
 unfold printS lineOf
 rw [if_pos (right_enc i h), moreS_eq]
 rcases opsL_any (ofS i.1) i.2.1 i.2.2.1 i.2.2.2.1 i.2.2.2.2.1 i.2.2.2.2.2.1 [] with ⟨h1, h2⟩ | ⟨h1, h2, h3⟩
 ·rw [h1, h2]; rfl
 ·rw [if_neg h1, if_pos h3]
theorem printS_wrong (i : Ins) (h : rightI i = false) : printS i = ([], 80) := by
 unfold printS
 have : ¬ (encI i).2 = 0 := of_decide_eq_false h
 rw [if_neg this]
 unfold encI encS at this ⊢
 by_cases g : 1 ≤ i.1 ∧ i.1 ≤ 113
 ·rw [if_pos g] at this ⊢
  by_cases g2 : rightS (rowAt (i.1 - 1)).2.2.2 i.2.1 i.2.2.1 i.2.2.2.1 i.2.2.2.2.1 i.2.2.2.2.2.1 i.2.2.2.2.2.2.1 i.2.2.2.2.2.2.2 = true
  ·rw [if_pos g2] at this; exact absurd rfl this
  ·rw [if_neg g2]
 ·rw [if_neg g]
/-! ### there: a written line is read -/
def mkSt (f : Bool) (L : List BL) : St := (f, decide (L ≠ []), true, joinF true L)
theorem next_mk (f : Bool) (o : BL) (L : List BL) (h : (44 : UInt8) ∉ o) : nextS (mkSt f (o :: L)) = (o, mkSt false L) := by
 unfold nextS mkSt
 dsimp only; cases L with
 | nil =>
  rw [show joinF true [o] = o by simp [joinF, leadS], cut_miss 44 [32] o h]
  simp [joinF]
 | cons p t =>
  rw [show joinF true (o :: p :: t) = o ++ ((44 :: [32]) ++ joinF true (p :: t)) by simp [joinF, leadS], cut_hit 44 [32] o _ h]
  simp
theorem no44 (n : Int) : (44 : UInt8) ∉ Lib.itoa n := itoa_no n 44 (Or.inl (by decide))
theorem number_itoa (n : Int) (h0 : -9223372036854775808 ≤ n) (h1 : n ≤ 9223372036854775807) : numberS (Lib.itoa n) = (n, true) := by
 unfold numberS
 rw [parse_itoa n h0 h1]
 simp
theorem register_itoa (n : Int) (h0 : 0 ≤ n) (h1 : n < 32) : registerS (120 :: Lib.itoa n) = (n, true) := by
 unfold registerS
 rw [if_pos (by simp [Lib.hasPrefix]), show (120 :: Lib.itoa n).drop 1 = Lib.itoa n from rfl, number_itoa n (by omega) (by omega)]
 simp [h0, h1]
theorem take_mk (said : Bool) (n : Int) (f : Bool) (L : List BL) (h0 : 0 ≤ n) (h1 : n ≤ 31) (hz : said = false → n = 0) :
  takeS said (mkSt f (one said (120 :: Lib.itoa n) ++ L)) = (n, mkSt (f && !said) L) := by
 cases said
 ·simp [takeS, one, hz rfl]
 ·have e := next_mk f (120 :: Lib.itoa n) L (by simp [no44])
  unfold takeS one
  rw [if_pos rfl, if_pos rfl, List.singleton_append, e]
  dsimp only; rw [register_itoa n h0 (by omega)]
  simp [wellS, mkSt]
theorem csr_mk (said : Bool) (n : Int) (f : Bool) (L : List BL) (h0 : 0 ≤ n) (h1 : n ≤ 4095) (hz : said = false → n = 0) :
  csrS said (mkSt f (one said (Lib.itoa n) ++ L)) = (n, mkSt (f && !said) L) := by
 cases said
 ·simp [csrS, one, hz rfl]
 ·have e := next_mk f (Lib.itoa n) L (no44 n)
  unfold csrS one
  rw [if_pos rfl, if_pos rfl, List.singleton_append, e]
  dsimp only; rw [number_itoa n (by omega) (by omega)]
  simp [wellS, mkSt, h0, show n < 4096 by omega]
theorem named_no44 (s : BL) (h : namedS s = true) : (44 : UInt8) ∉ s := by
 unfold namedS at h
 simp only [Bool.and_eq_true] at h
 intro g
 have := List.all_eq_true.1 h.2 44 g
 exact absurd this (by decide)
theorem named_ne (s : BL) (h : namedS s = true) : s ≠ [] := by
 intro e; subst e
 exact absurd h (by decide)
/-- a label stands only where an instruction says how far it goes; its number is then 0 -/
def okLbl (op imm : Int) (said : Bool) (lbl : BL) : Prop := lbl = [] ∨ (namedS lbl = true ∧ farS op = true ∧ imm = 0 ∧ said = true)
theorem imm_mk (said : Bool) (op n : Int) (lbl : BL) (f : Bool) (L : List BL) (h0 : -9223372036854775808 ≤ n) (h1 : n ≤ 9223372036854775807) (hz : said = false → n = 0) (hl : okLbl op n said lbl) :
  immS said op (mkSt f (one said (immT n lbl) ++ L)) = (n, lbl, mkSt (f && !said) L) := by
 cases said
 ·have : lbl = [] := by rcases hl with h | ⟨-, -, -, h⟩; exact h; cases h
  simp [immS, one, hz rfl, this]
 ·unfold immS one
  rw [if_pos rfl, if_pos rfl, List.singleton_append]
  rcases hl with rfl | ⟨g1, g2, rfl, -⟩
  ·have e := next_mk f (Lib.itoa n) L (no44 n)
   have hp : Lib.hasPrefix (Lib.itoa n) [64] = false := by
    cases e2 : Lib.itoa n with
    | nil => rfl
    | cons c t =>
     have : c ≠ 64 := by
      rintro rfl
      exact itoa_no n 64 (Or.inr (Or.inr (Or.inr (by decide)))) (by rw [e2]; exact List.mem_cons_self)
     exact prefix_no [] t this
   rw [show immT n [] = Lib.itoa n by simp [immT], e]
   dsimp only; rw [hp, if_neg (by simp), number_itoa n h0 h1]
   simp [wellS, mkSt]
  ·have e := next_mk f (64 :: lbl) L (by simp [named_no44 lbl g1])
   rw [show immT 0 lbl = 64 :: lbl by simp [immT, named_ne lbl g1], e]
   dsimp only; rw [if_pos ⟨g2, by simp [Lib.hasPrefix]⟩, show (64 :: lbl).drop 1 = lbl from rfl, g1]
   simp [wellS, mkSt]
/-- a right instruction's line, with a label or without, is read -/
theorem read_line (i : Ins) (lbl : BL) (h : rightI i = true) (hl : okLbl i.1 i.2.2.2.2.1 (ofS i.1).2.2.2.1 lbl) : readS (lineOf i lbl) = some (i, lbl) := by
 obtain ⟨hr, z1, z2, z3, z4, z5, g0, g1⟩ := right_parts i h
 have he := right_enc i h
 obtain ⟨op, rd, a, b, imm, csr, aq, rl⟩ := i
 dsimp only at hr z1 z2 z3 z4 z5 g0 g1 hl
 obtain ⟨j, hj, e⟩ := right_op _ h
 dsimp only at e
 subst e; obtain ⟨n1, n2⟩ := names_at j hj aq rl
 have hcut : Lib.cut (lineOf ((j : Int) + 1, rd, a, b, imm, csr, aq, rl) lbl) [32] = (nameS ((j : Int) + 1) ++ sufS aq rl, joinF true (opsL (ofS ((j : Int) + 1)) rd a b imm csr lbl), anyS (ofS ((j : Int) + 1))) := by
  unfold lineOf
  dsimp only; rcases opsL_any (ofS ((j : Int) + 1)) rd a b imm csr lbl with ⟨h1, h2⟩ | ⟨h1, h2, h3⟩
  ·rw [h1, h2, if_neg (by decide), List.append_nil, cut_miss 32 [] _ n2]
   rfl
  ·rw [h3, if_pos rfl]
   exact cut_hit 32 [] _ _ n2
 have hst : ((true, anyS (ofS ((j : Int) + 1)), true, joinF true (opsL (ofS ((j : Int) + 1)) rd a b imm csr lbl)) : St) = mkSt true (opsL (ofS ((j : Int) + 1)) rd a b imm csr lbl) := by
  unfold mkSt
  rcases opsL_any (ofS ((j : Int) + 1)) rd a b imm csr lbl with ⟨h1, h2⟩ | ⟨h1, h2, h3⟩
  ·rw [h1, h2]; rfl
  ·rw [h3, decide_eq_true h2]
 unfold readS
 rw [hcut]
 dsimp only; rw [n1]
 dsimp only; rw [if_neg (by omega), if_neg (by simp), hst]
 unfold opsL
 rw [take_mk _ rd true _ (by omega) (by omega) z1]
 dsimp only; rw [take_mk _ a _ _ (by omega) (by omega) z2]
 dsimp only; rw [take_mk _ b _ _ (by omega) (by omega) z3]
 dsimp only; rw [imm_mk _ _ imm lbl _ _ (by omega) (by omega) z4 hl]
 dsimp only; rw [csr_mk _ csr _ _ (by omega) (by omega) z5]
 simp [mkSt, he]
/-! ### back: a line that is read is as it was written -/
def remS (st : St) : BL := if st.2.1 = true then leadS st.1 ++ st.2.2.2 else []
theorem next_rem (st : St) (hm : st.2.1 = true) : remS st = leadS st.1 ++ ((nextS st).1 ++ remS (nextS st).2) := by
 unfold remS
 rw [if_pos hm]
 congr 1
 unfold nextS
 dsimp only; rcases cut_spec st.2.2.2 [44, 32] with ⟨h1, h2⟩ | h1
 ·rw [h1, if_pos rfl]
  conv => lhs; rw [h2]
  simp [leadS]
 ·rw [h1]
  simp
theorem number_text (s : BL) (h : (numberS s).2 = true) : s = Lib.itoa (numberS s).1 := by
 unfold numberS at h ⊢
 split at h
 ·exact (of_decide_eq_true h).symm
 ·cases h
 ·cases h
theorem register_text (s : BL) (h : (registerS s).2 = true) : s = 120 :: Lib.itoa (registerS s).1 ∧ 0 ≤ (registerS s).1 ∧ (registerS s).1 < 32 := by
 unfold registerS at h ⊢
 split at h
 ·rename_i g
  rw [if_pos g]
  simp only [Bool.and_eq_true, decide_eq_true_eq] at h
  obtain ⟨⟨h1, h2⟩, h3⟩ := h
  refine ⟨?_, h2, h3⟩
  have e := prefix_split s [120] g
  have e2 := number_text _ h1
  dsimp only; rw [← e2]
  exact e
 ·cases h
/-- how far the reading may stand: nothing was read yet, and there is something; or all that was asked was there -/
def fine (st : St) (said : Bool) : Prop := said = true → st.1 = true → st.2.1 = true
theorem take_text (said : Bool) (st : St) (hf : fine st said) (h : (takeS said st).2.2.2.1 = true) :
  st.2.2.1 = true ∧ remS st = (if said = true then leadS st.1 ++ (120 :: Lib.itoa (takeS said st).1) else []) ++ remS (takeS said st).2 ∧ (takeS said st).2.1 = (st.1 && !said) ∧ (said = false → (takeS said st).2 = st) := by
 cases said
 ·simp [takeS] at h ⊢
  exact h
 ·unfold takeS at h ⊢
  rw [if_pos rfl] at h ⊢
  have h' : (nextS st).2.2.2.1 = true ∧ (registerS (nextS st).1).2 = true := by
   have : ((nextS st).2.2.2.1 && (registerS (nextS st).1).2) = true := h
   simpa using this
  obtain ⟨h1, h2⟩ := h'
  have h3 : st.2.2.1 = true ∧ (st.1 || st.2.1) = true := by
   have : (st.2.2.1 && (st.1 || st.2.1)) = true := h1
   simpa using this
  have hm : st.2.1 = true := by
   cases e : st.1
   ·have := h3.2; rw [e] at this; simpa using this
   ·exact hf rfl e
  obtain ⟨e1, -, -⟩ := register_text _ h2
  refine ⟨h3.1, ?_, by simp [wellS, nextS], by simp⟩
  rw [next_rem st hm, if_pos rfl]
  dsimp only; conv => lhs; rw [e1]
  simp only [List.append_assoc]
  rfl
theorem csr_text (said : Bool) (st : St) (hf : fine st said) (h : (csrS said st).2.2.2.1 = true) :
  st.2.2.1 = true ∧ remS st = (if said = true then leadS st.1 ++ Lib.itoa (csrS said st).1 else []) ++ remS (csrS said st).2 ∧ (csrS said st).2.1 = (st.1 && !said) ∧ (said = false → (csrS said st).2 = st) := by
 cases said
 ·simp [csrS] at h ⊢
  exact h
 ·unfold csrS at h ⊢
  rw [if_pos rfl] at h ⊢
  have h' : (nextS st).2.2.2.1 = true ∧ (((numberS (nextS st).1).2 && decide (0 ≤ (numberS (nextS st).1).1)) && decide ((numberS (nextS st).1).1 < 4096)) = true := by
   have : ((nextS st).2.2.2.1 && (((numberS (nextS st).1).2 && decide (0 ≤ (numberS (nextS st).1).1)) && decide ((numberS (nextS st).1).1 < 4096))) = true := h
   rwa [Bool.and_eq_true] at this
  obtain ⟨h1, h2⟩ := h'
  simp only [Bool.and_eq_true] at h2
  have h3 : st.2.2.1 = true ∧ (st.1 || st.2.1) = true := by
   have : (st.2.2.1 && (st.1 || st.2.1)) = true := h1
   simpa using this
  have hm : st.2.1 = true := by
   cases e : st.1
   ·have := h3.2; rw [e] at this; simpa using this
   ·exact hf rfl e
  have e1 := number_text _ h2.1.1
  refine ⟨h3.1, ?_, by simp [wellS, nextS], by simp⟩
  rw [next_rem st hm, if_pos rfl]
  dsimp only; conv => lhs; rw [e1]
  simp only [List.append_assoc]
  rfl
theorem imm_text (said : Bool) (op : Int) (st : St) (hf : fine st said) (h : (immS said op st).2.2.2.2.1 = true) :
  st.2.2.1 = true ∧ remS st = (if said = true then leadS st.1 ++ immT (immS said op st).1 (immS said op st).2.1 else []) ++ remS (immS said op st).2.2 ∧ (immS said op st).2.2.1 = (st.1 && !said) ∧ (said = false → (immS said op st).2.2 = st) ∧
   okLbl op (immS said op st).1 said (immS said op st).2.1 := by
 cases said
 ·simp [immS] at h ⊢
  exact ⟨h, Or.inl rfl⟩
 ·have main : ∀ (good : Bool) (t : BL), (nextS st).1 = t ∨ good = false → (wellS good (nextS st).2).2.2.1 = true → st.2.2.1 = true ∧ remS st = (leadS st.1 ++ t) ++ remS (wellS good (nextS st).2) := by
   intro good t ht hg
   have h' : (nextS st).2.2.2.1 = true ∧ good = true := by
    have : ((nextS st).2.2.2.1 && good) = true := hg
    simpa using this
   obtain ⟨h1, h2⟩ := h'
   have h3 : st.2.2.1 = true ∧ (st.1 || st.2.1) = true := by
    have : (st.2.2.1 && (st.1 || st.2.1)) = true := h1
    simpa using this
   have hm : st.2.1 = true := by
    cases e : st.1
    ·have := h3.2; rw [e] at this; simpa using this
    ·exact hf rfl e
   rcases ht with e | e
   ·refine ⟨h3.1, ?_⟩
    rw [next_rem st hm, e]
    simp only [List.append_assoc]
    rfl
   ·rw [e] at h2; cases h2
  unfold immS at h ⊢
  rw [if_pos rfl] at h ⊢
  by_cases c : farS op = true ∧ Lib.hasPrefix (nextS st).1 [64] = true
  ·rw [if_pos c] at h ⊢
   dsimp only at h ⊢
   have hn : namedS ((nextS st).1.drop 1) = true := by
    have : ((nextS st).2.2.2.1 && namedS ((nextS st).1.drop 1)) = true := h
    rw [Bool.and_eq_true] at this
    exact this.2
   have e := prefix_split _ [64] c.2
   have ht : immT 0 ((nextS st).1.drop 1) = (nextS st).1 := by
    unfold immT
    rw [if_neg (named_ne _ hn)]
    exact e.symm
   obtain ⟨m1, m2⟩ := main _ (immT 0 ((nextS st).1.drop 1)) (Or.inl ht.symm) h
   exact ⟨m1, by rw [if_pos rfl]; exact m2, by simp [wellS, nextS], by simp, Or.inr ⟨hn, c.1, rfl, rfl⟩⟩
  ·rw [if_neg c] at h ⊢
   dsimp only at h ⊢
   have hn : (numberS (nextS st).1).2 = true := by
    have : ((nextS st).2.2.2.1 && (numberS (nextS st).1).2) = true := h
    rw [Bool.and_eq_true] at this
    exact this.2
   have ht : immT (numberS (nextS st).1).1 [] = (nextS st).1 := by
    unfold immT
    rw [if_pos rfl]
    exact (number_text _ hn).symm
   obtain ⟨m1, m2⟩ := main _ (immT (numberS (nextS st).1).1 []) (Or.inl ht.symm) h
   exact ⟨m1, by rw [if_pos rfl]; exact m2, by simp [wellS, nextS], by simp, Or.inl rfl⟩
theorem join_one (f said : Bool) (t : BL) (L : List BL) : joinF f (one said t ++ L) = (if said = true then leadS f ++ t else []) ++ joinF (f && !said) L := by
 cases said
 ·simp [one]
 ·simp [one, joinF]
/-- a line that is read: the instruction is right, and the line is its own -/
theorem read_back (line : BL) (i : Ins) (lbl : BL) (h : readS line = some (i, lbl)) : rightI i = true ∧ line = lineOf i lbl ∧ okLbl i.1 i.2.2.2.2.1 (ofS i.1).2.2.2.1 lbl := by
 unfold readS at h
 dsimp only at h
 split at h
 ·cases h
 rename_i hop
 split at h
 ·cases h
 rename_i hany
 split at h
 ·cases h
 rename_i hok
 split at h
 ·cases h
 rename_i hmore
 split at h
 rotate_left
 ·cases h
 rename_i henc
 injection h with h
 injection h with h1 h2
 subst h1 h2
 obtain ⟨j, hj, e1, e2⟩ := opS_inv _ hop
 have hany' : anyS (ofS (opS (Lib.cut line [32]).1).1) = (Lib.cut line [32]).2.2 := by
  rcases Decidable.em (anyS (ofS (opS (Lib.cut line [32]).1).1) = (Lib.cut line [32]).2.2) with h | h
  ·exact h
  ·exact absurd h hany
 refine ⟨decide_eq_true henc, ?_, ?_⟩
 all_goals
  try dsimp only at hok
  try dsimp only at hmore
  try dsimp only at henc
  try dsimp only
  generalize hC : Lib.cut line [32] = C at *
  obtain ⟨c1, c2, c3⟩ := C
  dsimp only at *
  generalize hO : opS c1 = O at *
  obtain ⟨op, aq, rl⟩ := O
  dsimp only at *
  generalize hX : ofS op = X at *
  obtain ⟨x1, x2, x3, x4, x5⟩ := X
  dsimp only at *
  subst hany'; generalize hs0 : ((true, anyS (x1, x2, x3, x4, x5), true, c2) : St) = s0 at *
  have f0 : s0.1 = true := by rw [← hs0]
  have m0 : s0.2.1 = anyS (x1, x2, x3, x4, x5) := by rw [← hs0]
  have hok' := Bool.of_not_eq_false hok
  clear hok; have fin0 : fine s0 x1 := fun a _ => by rw [m0]; simp [anyS, a]
  generalize hr : takeS x1 s0 = R at *
  generalize ha : takeS x2 R.2 = A at *
  generalize hb : takeS x3 A.2 = B at *
  generalize hn : immS x4 op B.2 = I at *
  generalize hq : csrS x5 I.2.2 = Q at *
  -- first: the states know whether something was read
  have r1 : R.2.1 = (s0.1 && !x1) ∧ (x1 = false → R.2 = s0) := by
   rw [← hr]; cases x1 <;> simp [takeS, wellS, nextS]
  have a1 : A.2.1 = (R.2.1 && !x2) ∧ (x2 = false → A.2 = R.2) := by
   rw [← ha]; cases x2 <;> simp [takeS, wellS, nextS]
  have b1 : B.2.1 = (A.2.1 && !x3) ∧ (x3 = false → B.2 = A.2) := by
   rw [← hb]; cases x3 <;> simp [takeS, wellS, nextS]
  have i1 : I.2.2.1 = (B.2.1 && !x4) ∧ (x4 = false → I.2.2 = B.2) := by
   rw [← hn]; cases x4
   ·simp [immS]
   ·unfold immS; rw [if_pos rfl]; split <;> simp [wellS, nextS]
  have fr : fine R.2 x2 := fun a c => by
   have : x1 = false := by have := r1.1; rw [c, f0] at this; cases x1; rfl; cases this
   rw [r1.2 this, m0]; simp [anyS, a]
  have fa : fine A.2 x3 := fun a c => by
   have e2 : x2 = false ∧ R.2.1 = true := by have := a1.1; rw [c] at this; cases x2; simpa using this.symm; simp at this
   have e1 : x1 = false := by have := r1.1; rw [e2.2, f0] at this; cases x1; rfl; cases this
   rw [a1.2 e2.1, r1.2 e1, m0]; simp [anyS, a]
  have fb : fine B.2 x4 := fun a c => by
   have e3 : x3 = false ∧ A.2.1 = true := by have := b1.1; rw [c] at this; cases x3; simpa using this.symm; simp at this
   have e2 : x2 = false ∧ R.2.1 = true := by have := a1.1; rw [e3.2] at this; cases x2; simpa using this.symm; simp at this
   have e1 : x1 = false := by have := r1.1; rw [e2.2, f0] at this; cases x1; rfl; cases this
   rw [b1.2 e3.1, a1.2 e2.1, r1.2 e1, m0]; simp [anyS, a]
  have fi : fine I.2.2 x5 := fun a c => by
   have e4 : x4 = false ∧ B.2.1 = true := by have := i1.1; rw [c] at this; cases x4; simpa using this.symm; simp at this
   have e3 : x3 = false ∧ A.2.1 = true := by have := b1.1; rw [e4.2] at this; cases x3; simpa using this.symm; simp at this
   have e2 : x2 = false ∧ R.2.1 = true := by have := a1.1; rw [e3.2] at this; cases x2; simpa using this.symm; simp at this
   have e1 : x1 = false := by have := r1.1; rw [e2.2, f0] at this; cases x1; rfl; cases this
   rw [i1.2 e4.1, b1.2 e3.1, a1.2 e2.1, r1.2 e1, m0]; simp [anyS, a]
  have q1 := csr_text x5 I.2.2 fi (by rw [hq]; exact hok')
  rw [hq] at q1
  have n1 := imm_text x4 op B.2 fb (by rw [hn]; exact q1.1)
  rw [hn] at n1
 ·have b2 := take_text x3 A.2 fa (by rw [hb]; exact n1.1)
  rw [hb] at b2
  have a2 := take_text x2 R.2 fr (by rw [ha]; exact b2.1)
  rw [ha] at a2
  have r2 := take_text x1 s0 fin0 (by rw [hr]; exact a2.1)
  rw [hr] at r2
  unfold lineOf
  dsimp only; rw [hX, show nameS op ++ sufS aq rl = c1 by rw [← e2, ← e1]]
  -- what is left at the end: nothing
  have hrem : remS Q.2 = [] := by
   unfold remS
   cases hm : Q.2.2.1
   ·rfl
   ·exfalso
    by_cases ha' : anyS (x1, x2, x3, x4, x5) = true
    ·exact hmore ⟨hm, ha'⟩
    ·have z : x1 = false ∧ x2 = false ∧ x3 = false ∧ x4 = false ∧ x5 = false := by
      revert ha'; cases x1 <;> cases x2 <;> cases x3 <;> cases x4 <;> cases x5 <;> simp [anyS]
     obtain ⟨z1, z2, z3, z4, z5⟩ := z
     rw [q1.2.2.2 z5, i1.2 z4, b1.2 z3, a1.2 z2, r1.2 z1, m0] at hm
     exact ha' hm
  have hall : remS s0 = joinF true (opsL (x1, x2, x3, x4, x5) R.1 A.1 B.1 I.1 Q.1 I.2.1) := by
   unfold opsL
   dsimp only; rw [join_one, join_one, join_one, join_one, join_one]
   rw [r2.2.1, a2.2.1, b2.2.1, n1.2.1, q1.2.1, hrem, i1.1, b1.1, a1.1, r1.1, f0]
   simp only [joinF]
  rcases cut_spec line [32] with ⟨g1, g2⟩ | g1
  ·rw [hC] at g1 g2
   dsimp only at g1 g2
   rw [if_pos g1, ← hall]
   unfold remS
   rw [m0, if_pos g1, f0, g2, ← hs0]
   rfl
  ·rw [hC] at g1
   injection g1 with g1 g2
   injection g2 with g2 g3
   rw [if_neg (by rw [g3]; decide), g1, List.append_nil]
 ·exact n1.2.2.2.2
end Go.Proofs.YtknkfimpflodeaaGreatDoor.P
