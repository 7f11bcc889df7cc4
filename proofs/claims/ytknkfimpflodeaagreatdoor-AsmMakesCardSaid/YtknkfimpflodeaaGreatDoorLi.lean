/- asm's lowOf and Li: walked. -/
import Derived.Test.YtknkfimpflodeaaGreatDoorA12
import Derived.Test.YtknkfimpflodeaaGreatDoorLiP
import Derived.Laws.OwnMore
namespace Go.Proofs.YtknkfimpflodeaaGreatDoor.P
open Go.RowKit Go.Proofs.YtknkfimpflodeaaGreatDoorW.PrintWords Go.Proofs.YtknkfimpflodeaaGreatDoorW.PrintLast Go.Proofs.YtknkfimpflodeaaGreatDoorW.PrintMore
set_option linter.unusedVariables false
set_option linter.unusedSimpArgs false
def insC (i : Ins) : List Value := [.int .i64 i.1, .int .i64 i.2.1, .int .i64 i.2.2.1, .int .i64 i.2.2.2.1, .int .i64 i.2.2.2.2.1, .int .i64 i.2.2.2.2.2.1, .bool i.2.2.2.2.2.2.1, .bool i.2.2.2.2.2.2.2]
def insR (l : List Ins) : List Value := l.flatMap insC
theorem insR_cons (i : Ins) (l : List Ins) : insR (i :: l) = insC i ++ insR l := rfl
theorem insR_app (a b : List Ins) : insR (a ++ b) = insR a ++ insR b := by simp [insR]
theorem insR_one (i : Ins) : insR [i] = insC i := by simp [insR]
theorem lowS_shift (n : Int) : wrap64 (n * 4503599627370496) / 4503599627370496 = lowS n := by
 unfold wrap64 lowS; omega
theorem lowOf_calls (n : Int) (w : World) : Calls Tryz.prog 48 #[.int .i64 n] w fun e w' => e = .returned (.int .i64 (lowS n)) ∧ w' = w := by
 have hl := lowS_shift n
 go_enter Tryz.func48, Tryz.ntmps48
 go_wp2
 go_ret
 exact ⟨by first | rfl | rw [hl], rfl⟩
theorem fits1_calls (n : Int) (w : World) : Calls Tryz.prog 47 #[.int .i64 1, .int .i64 n] w fun e w' => e = .returned (.bool (decide (-2048 ≤ n ∧ n < 2048))) ∧ Below w.heap.size w w' :=
 fields_Fits.calls 20 1 n _ w (fits_at 1 n (by decide) (by decide) 20 (Nat.le_refl _))
/-- one instruction appended to one's own -/
theorem app_ins {w0 W : World} {ops : Array Oper} {rest : List Oper} {o : Oper} {a : Act} {Q : Exit → Act → World → Prop} (base : Nat) (hgd : o.guard = none) (s x : Operand)
  (ho : o.op = .call { callee := .builtin .append, args := #[s, x], argTypes := #[30, 30] }) (v : Value) (l : List Ins) (i : Ins) (hs : a.eval s = v) (hx : a.eval x = .slice (some ⟨W.heap.size, 0, none⟩) 1 1)
  (HO : W.ownsRow base 23 8 v l.length (insR l)) (HB : Below base w0 W) (hbase : base ≤ W.heap.size) (hn : l.length ≤ 1000)
  (h : ∀ v1 w1, w1.ownsRow base 23 8 v1 (l ++ [i]).length (insR (l ++ [i])) → Below base w0 w1 → wpList Tryz.prog ops Q rest (a.put o.dst v1) w1) :
  wpList Tryz.prog ops Q (o :: rest) a (W.alloc (.cells (insC i).toArray 23)) := by
 refine print_append_cells (w0 := w0) base hgd s x 30 23 (.agg #[.int .i64 0, .int .i64 0, .int .i64 0, .int .i64 0, .int .i64 0, .int .i64 0, .bool false, .bool false]) 8 56 ho Tryz.underlying30 (by kernel_rfl) rfl (by decide) (by decide) v l.length _ (insC i) hs hx rfl (by simp [insC, Value.oneCell']) HO HB hbase (by omega) ?_
 intro v1 w1 h1 h2 _ _
 refine h v1 w1 ?_ h2
 rw [insR_app, insR_one, List.length_append]
 exact h1
theorem lit_ins (w : World) (base : Nat) (hb : base ≤ w.heap.size) (i : Ins) : (w.alloc (.cells (insC i).toArray 23)).ownsRow base 23 8 (.slice (some ⟨w.heap.size, 0, none⟩) 1 1) [i].length (insR [i]) := by
 have h := World.ownsRow_lit (base := base) (e := 23) (size := 8) w (insC i).toArray 1 hb (by decide) rfl
 rw [insR_one]
 exact h
def LiSays (k : Nat) : Prop := ∀ (rd n : Int), fitP k n → ∀ (w : World), Env w →
 Calls Tryz.prog 18 #[.int .i64 rd, .int .i64 n] w fun e w' => ∃ v, e = .returned v ∧ w'.ownsRow w.heap.size 23 8 v (liS k rd n).length (insR (liS k rd n)) ∧ Below w.heap.size w w'
set_option maxHeartbeats 8000000 in
set_option maxRecDepth 100000 in
theorem li_bad (k : Nat) (rd n : Int) (h : rd < 0 ∨ rd > 31) (w : World) :
  Calls Tryz.prog 18 #[.int .i64 rd, .int .i64 n] w fun e w' => ∃ v, e = .returned v ∧ w'.ownsRow w.heap.size 23 8 v (liS (k + 1) rd n).length (insR (liS (k + 1) rd n)) ∧ Below w.heap.size w w' := by
 have e : liS (k + 1) rd n = [] := by unfold liS; rw [if_pos h]
 rw [e]
 by_cases h1 : rd < 0
 ·have c1 : decide (rd < 0) = true := decide_eq_true h1
  clear h h1 e; go_enter Tryz.func18, Tryz.ntmps18
  go_wp2
  go_ret
  exact ⟨_, rfl, World.ownsRow_nil _ _ _ _, Below.refl _ _⟩
 ·have c1 : decide (rd < 0) = false := decide_eq_false h1
  have c2 : decide (rd > 31) = true := decide_eq_true (by omega)
  clear h h1 e; go_enter Tryz.func18, Tryz.ntmps18
  go_wp2
  go_ret
  exact ⟨_, rfl, World.ownsRow_nil _ _ _ _, Below.refl _ _⟩
set_option maxHeartbeats 8000000 in
set_option maxRecDepth 100000 in
theorem li_small (k : Nat) (rd n : Int) (h : ¬ (rd < 0 ∨ rd > 31)) (hn : -2048 ≤ n ∧ n ≤ 2047) (w : World) :
  Calls Tryz.prog 18 #[.int .i64 rd, .int .i64 n] w fun e w' => ∃ v, e = .returned v ∧ w'.ownsRow w.heap.size 23 8 v (liS (k + 1) rd n).length (insR (liS (k + 1) rd n)) ∧ Below w.heap.size w w' := by
 have e : liS (k + 1) rd n = [(22, rd, 0, 0, n, 0, false, false)] := by unfold liS; rw [if_neg h, if_pos hn]
 rw [e]
 have c1 : decide (rd < 0) = false := decide_eq_false (by omega)
 have c2 : decide (rd > 31) = false := decide_eq_false (by omega)
 have c3 : decide (-2048 ≤ n ∧ n < 2048) = true := decide_eq_true (by omega)
 have hf := fits1_calls n
 rw [c3] at hf
 have hf' := Aside0.mk hf
 clear h hn e hf c3; go_enter Tryz.func18, Tryz.ntmps18
 go_wp2_with (fail)
 refine (hf'.out _).mono ?_
 rintro _ w1 ⟨rfl, hb⟩
 have B1 := Aside0.mk hb
 clear hb; go_wp2_with (fail)
 go_ret
 exact ⟨_, rfl, lit_ins w1 w.heap.size B1.out.size (22, rd, 0, 0, n, 0, false, false), below_alloc B1.out _⟩
set_option maxHeartbeats 8000000 in
set_option maxRecDepth 100000 in
theorem li_word (k : Nat) (rd n : Int) (h : ¬ (rd < 0 ∨ rd > 31)) (hn : ¬ (-2048 ≤ n ∧ n ≤ 2047)) (h32 : n = i32S n) (w : World) :
  Calls Tryz.prog 18 #[.int .i64 rd, .int .i64 n] w fun e w' => ∃ v, e = .returned v ∧ w'.ownsRow w.heap.size 23 8 v (liS (k + 1) rd n).length (insR (liS (k + 1) rd n)) ∧ Below w.heap.size w w' := by
 have e : liS (k + 1) rd n = (1, rd, 0, 0, i32S (n - lowS n), 0, false, false) :: (if lowS n = 0 then [] else [(31, rd, rd, 0, lowS n, 0, false, false)]) := by
  conv => lhs; unfold liS
  rw [if_neg h, if_neg hn, if_pos h32]
 rw [e]
 have c1 : decide (rd < 0) = false := decide_eq_false (by omega)
 have c2 : decide (rd > 31) = false := decide_eq_false (by omega)
 have c3 : decide (-2048 ≤ n ∧ n < 2048) = false := decide_eq_false (by omega)
 have hf := fits1_calls n
 rw [c3] at hf
 have hf' := Aside0.mk hf
 have h32b := (i32_iff n).1 h32
 have c5 : (n == wrap64 (wrap32 n)) = true := by
  rw [beq_iff_eq]
  unfold wrap64 wrap32; omega
 have w2 : wrap64 (wrap32 (wrap64 (n - lowS n))) = i32S (n - lowS n) := by
  unfold wrap64 wrap32 i32S; omega
 have hl := lowOf_calls n
 generalize i32S (n - lowS n) = im at w2 ⊢
 generalize lowS n = low at w2 hl ⊢
 have hl' := Aside0.mk hl
 clear h hn e hf c3 hl h32b h32; by_cases hz : low = 0
 ·have c6 : (low != 0) = false := by simpa using hz
  rw [if_pos hz]
  clear hz; go_enter Tryz.func18, Tryz.ntmps18
  go_wp2_with (fail)
  refine (hf'.out _).mono ?_
  rintro _ w1 ⟨rfl, hb⟩
  have B1 := Aside0.mk hb
  clear hb; go_wp2_with (fail)
  refine (hl'.out _).mono ?_
  rintro _ w1' ⟨rfl, rfl⟩
  go_wp2_with (fail)
  go_ret
  exact ⟨_, rfl, lit_ins w1' w.heap.size B1.out.size (1, rd, 0, 0, im, 0, false, false), below_alloc B1.out _⟩
 ·have c6 : (low != 0) = true := by simpa using hz
  rw [if_neg hz]
  clear hz; go_enter Tryz.func18, Tryz.ntmps18
  go_wp2_with (fail)
  refine (hf'.out _).mono ?_
  rintro _ w1 ⟨rfl, hb⟩
  have B1 := Aside0.mk hb
  clear hb; go_wp2_with (fail)
  refine (hl'.out _).mono ?_
  rintro _ w1' ⟨rfl, rfl⟩
  go_wp2_with ((with_reducible refine gate_builtin (b := .append) (xs := #[.tmp 56, .tmp 62]) rfl ?_); at_builtin; refine Aside0.out ?_)
  refine ⟨?_⟩
  have O1 := lit_ins w1' w.heap.size B1.out.size (1, rd, 0, 0, im, 0, false, false)
  have B2 := below_alloc B1.out (.cells (insC (1, rd, 0, 0, im, 0, false, false)).toArray 23)
  refine app_ins (w0 := w) w.heap.size rfl (.tmp 56) (.tmp 62) rfl _ [(1, rd, 0, 0, im, 0, false, false)] (31, rd, rd, 0, low, 0, false, false) rfl (by rw [show ∀ o, (w1'.alloc o).heap.size = w1'.heap.size + 1 from fun o => by simp]; rfl) O1 B2 B2.size (by simp) ?_
  intro v1 w2 hown hb2
  have O2 := Aside0.mk hown
  have B3 := Aside0.mk hb2
  clear hown hb2 O1 B2; go_wp2_with (fail)
  go_ret
  exact ⟨_, rfl, O2.out, B3.out⟩
set_option maxHeartbeats 8000000 in
set_option maxRecDepth 100000 in
theorem li_deep (k : Nat) (IH : LiSays k) (rd n : Int) (hP : fitP (k + 1) n) (hk : k ≤ 100) (h : ¬ (rd < 0 ∨ rd > 31)) (hn : ¬ (-2048 ≤ n ∧ n ≤ 2047)) (h32 : ¬ n = i32S n) (w : World) (hE : Env w) :
  Calls Tryz.prog 18 #[.int .i64 rd, .int .i64 n] w fun e w' => ∃ v, e = .returned v ∧ w'.ownsRow w.heap.size 23 8 v (liS (k + 1) rd n).length (insR (liS (k + 1) rd n)) ∧ Below w.heap.size w w' := by
 have hb32 : ¬ (-2147483648 ≤ n ∧ n ≤ 2147483647) := fun g => h32 ((i32_iff n).2 g)
 obtain ⟨z1, z2, hq⟩ := li_step k n hP hb32
 have m0 : -9223372036854775808 ≤ wrap64 (n - lowS n) := by unfold wrap64; omega
 have m1 : wrap64 (n - lowS n) ≤ 9223372036854775807 := by unfold wrap64; omega
 have m3 : wrap64 (n - lowS n) ≠ 0 := by
  obtain ⟨⟨n0, n1⟩, -, -⟩ := hP
  obtain ⟨l0, l1, l2⟩ := low_range n
  unfold wrap64; omega
 have e : liS (k + 1) rd n = liS k rd (wrap64 (n - lowS n) / 2 ^ Lib.ctz 64 (wrap64 (n - lowS n) % 18446744073709551616).toNat) ++
   ((28, rd, rd, 0, (Lib.ctz 64 (wrap64 (n - lowS n) % 18446744073709551616).toNat : Int), 0, false, false) :: (if lowS n = 0 then [] else [(22, rd, rd, 0, lowS n, 0, false, false)])) := by
  conv => lhs; unfold liS
  rw [if_neg h, if_neg hn, if_neg h32]
 rw [e]
 have c1 : decide (rd < 0) = false := decide_eq_false (by omega)
 have c2 : decide (rd > 31) = false := decide_eq_false (by omega)
 have c3 : decide (-2048 ≤ n ∧ n < 2048) = false := decide_eq_false (by omega)
 have hf := fits1_calls n
 rw [c3] at hf
 have hf' := Aside0.mk hf
 have c5 : (n == wrap64 (wrap32 n)) = false := by
  rw [beq_eq_false_iff_ne]
  obtain ⟨⟨n0, n1⟩, -, -⟩ := hP
  unfold wrap64 wrap32; omega
 have hl := lowOf_calls n
 have hlen := li_len k rd (wrap64 (n - lowS n) / 2 ^ Lib.ctz 64 (wrap64 (n - lowS n) % 18446744073709551616).toNat)
 have hli := fun W hW => IH rd _ hq W hW
 have hIH := Aside0.mk hli
 obtain ⟨m, hm⟩ : ∃ m, wrap64 (n - lowS n) = m := ⟨_, rfl⟩
 rw [hm] at z1 z2 hq m0 m1 m3 hlen hIH ⊢
 clear hli; generalize lowS n = low at hm hl ⊢
 have hl' := Aside0.mk hl
 have htz := fun W (hW : Env W) => Tryz.bits_TrailingZeros64 (m % 18446744073709551616).toNat (by omega) W (fun _ => hW.db)
 have hu : IntKind.u64.wrap m = (((m % 18446744073709551616).toNat : Nat) : Int) := by rw [IntKind.wrap_u64]; omega
 rw [← hu] at htz
 generalize Lib.ctz 64 (m % 18446744073709551616).toNat = z at z1 z2 hq hlen hIH htz ⊢
 generalize hQ : m / 2 ^ z = q at hq hlen hIH ⊢
 have hsh := Aside0.mk (show m / 2 ^ min z 64 = q by rw [show min z 64 = z by omega]; exact hQ)
 have hz0 : ¬ ((z : Int) < 0) := by omega
 have htz' := Aside0.mk htz
 have hE' := Aside0.mk hE
 have hK := Aside0.mk (And.intro hk hlen)
 clear h hn e hf c3 hl h32 hb32 z1 z2 hq m0 m1 m3 htz hu hQ hE hk hlen IH hP; generalize liS k rd q = L at hIH hK ⊢
 by_cases hz : low = 0
 ·have c6 : (low != 0) = false := by simpa using hz
  rw [if_pos hz]
  clear hz; go_enter Tryz.func18, Tryz.ntmps18
  go_wp2_with (fail)
  refine (hf'.out _).mono ?_
  rintro _ w1 ⟨rfl, hb⟩
  have B1 := Aside0.mk hb
  clear hb; go_wp2_with (fail)
  refine (hl'.out _).mono ?_
  rintro _ w1' ⟨rfl, rfl⟩
  go_wp2_with (fail)
  refine (htz'.out _ (hE'.out.below B1.out)).mono ?_
  rintro _ w2 ⟨rfl, rfl⟩
  go_wp2_with (fail)
  rw [hsh.out]
  refine (hIH.out _ (hE'.out.below B1.out)).mono ?_
  rintro _ w3 ⟨v, rfl, hown, hb⟩
  have O3 := Aside0.mk (own_weaken hown B1.out.size)
  have B3 := Aside0.mk (below_step B1.out hb)
  clear hown hb B1; go_wp2_with ((with_reducible refine gate_builtin (b := .append) (xs := #[.tmp 47, .tmp 52]) rfl ?_); at_builtin; refine Aside0.out ?_)
  refine ⟨?_⟩
  refine app_ins (w0 := w) w.heap.size rfl (.tmp 47) (.tmp 52) rfl _ L (28, rd, rd, 0, (z : Int), 0, false, false) rfl rfl O3.out B3.out B3.out.size (by have := hK.out.2; have := hK.out.1; omega) ?_
  intro v1 w4 hown hb2
  have O4 := Aside0.mk hown
  have B4 := Aside0.mk hb2
  clear hown hb2 O3 B3; go_wp2_with (fail)
  go_ret
  exact ⟨_, rfl, O4.out, B4.out⟩
 ·have c6 : (low != 0) = true := by simpa using hz
  rw [if_neg hz]
  clear hz; go_enter Tryz.func18, Tryz.ntmps18
  go_wp2_with (fail)
  refine (hf'.out _).mono ?_
  rintro _ w1 ⟨rfl, hb⟩
  have B1 := Aside0.mk hb
  clear hb; go_wp2_with (fail)
  refine (hl'.out _).mono ?_
  rintro _ w1' ⟨rfl, rfl⟩
  go_wp2_with (fail)
  refine (htz'.out _ (hE'.out.below B1.out)).mono ?_
  rintro _ w2 ⟨rfl, rfl⟩
  go_wp2_with (fail)
  rw [hsh.out]
  refine (hIH.out _ (hE'.out.below B1.out)).mono ?_
  rintro _ w3 ⟨v, rfl, hown, hb⟩
  have O3 := Aside0.mk (own_weaken hown B1.out.size)
  have B3 := Aside0.mk (below_step B1.out hb)
  clear hown hb B1; go_wp2_with ((with_reducible refine gate_builtin (b := .append) (xs := #[.tmp 47, .tmp 52]) rfl ?_); at_builtin; refine Aside0.out ?_)
  refine ⟨?_⟩
  refine app_ins (w0 := w) w.heap.size rfl (.tmp 47) (.tmp 52) rfl _ L (28, rd, rd, 0, (z : Int), 0, false, false) rfl rfl O3.out B3.out B3.out.size (by have := hK.out.2; have := hK.out.1; omega) ?_
  intro v1 w4 hown hb2
  have O4 := Aside0.mk hown
  have B4 := Aside0.mk hb2
  clear hown hb2 O3 B3; go_wp2_with ((with_reducible refine gate_builtin (b := .append) (xs := #[.tmp 56, .tmp 62]) rfl ?_); at_builtin; refine Aside0.out ?_)
  refine ⟨?_⟩
  refine app_ins (w0 := w) w.heap.size rfl (.tmp 56) (.tmp 62) rfl _ (L ++ [(28, rd, rd, 0, (z : Int), 0, false, false)]) (22, rd, rd, 0, low, 0, false, false) rfl rfl O4.out B4.out B4.out.size (by have := hK.out.2; have := hK.out.1; rw [List.length_append, List.length_singleton]; omega) ?_
  intro v2 w5 hown hb2
  rw [List.append_assoc] at hown
  have O5 := Aside0.mk hown
  have B5 := Aside0.mk hb2
  clear hown hb2 O4 B4; go_wp2_with (fail)
  go_ret
  exact ⟨_, rfl, O5.out, B5.out⟩
theorem li_calls : ∀ (k : Nat), 1 ≤ k → k ≤ 100 → LiSays k
 | 0, h, _ => by omega
 | k + 1, _, hk => by
  intro rd n hP w hE
  by_cases h : rd < 0 ∨ rd > 31
  ·exact li_bad k rd n h w
  by_cases hn : -2048 ≤ n ∧ n ≤ 2047
  ·exact li_small k rd n h hn w
  by_cases h32 : n = i32S n
  ·exact li_word k rd n h hn h32 w
  have hk1 : 1 ≤ k := by
   rcases Nat.eq_zero_or_pos k with h0 | h0
   ·subst h0
    obtain ⟨-, b0, b1⟩ := hP
    rw [show 12 * (0 + 1) + 19 = 31 by omega, show (2 : Int) ^ 31 = 2147483648 from rfl] at b0 b1
    exact absurd ((i32_iff n).2 (by omega)) h32
   ·exact h0
  exact li_deep k (li_calls k hk1 (by omega)) rd n hP (by omega) h hn h32 w hE
end Go.Proofs.YtknkfimpflodeaaGreatDoor.P
