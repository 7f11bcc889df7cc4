/- AsmMakes: walked. -/
import Derived.Test.YtknkfimpflodeaaGreatDoorLLis
import Derived.Test.YtknkfimpflodeaaGreatDoorLiM
namespace Go.Proofs.YtknkfimpflodeaaGreatDoor.P
open Go.RowKit Go.Proofs.YtknkfimpflodeaaGreatDoorW.PrintWords Go.Proofs.YtknkfimpflodeaaGreatDoorW.PrintLast Go.Proofs.YtknkfimpflodeaaGreatDoorW.PrintMore
set_option linter.unusedVariables false
set_option linter.unusedSimpArgs false
theorem insR_get : ∀ (l : List Ins) (i c : Nat) (x : Ins), l[i]? = some x → c < 8 → (insR l)[i * 8 + c]? = (insC x)[c]?
 | [], i, c, x, h, _ => by simp at h
 | a :: l, 0, c, x, h, hc => by
  obtain rfl : a = x := by simpa using h
  rw [insR_cons, Nat.zero_mul, Nat.zero_add, List.getElem?_append_left (by simpa [insC] using hc)]
 | a :: l, i + 1, c, x, h, hc => by
  have ih := insR_get l i c x (by simpa using h) hc
  rw [insR_cons, List.getElem?_append_right (by simp [insC]; omega), ← ih]
  congr 1
  simp [insC]
  omega
theorem ins_at {w : World} {base g cap : Nat} {l : List Ins} (h : w.ownsRow base 23 8 (.slice (some ⟨g, 0, none⟩) l.length cap) l.length (insR l)) (i : Nat) (x : Ins) (hx : l[i]? = some x) :
  w.cell? ⟨g, i * 8, none⟩ = some (.int .i64 x.1) ∧ w.cell? ⟨g, i * 8 + 1, none⟩ = some (.int .i64 x.2.1) ∧ w.cell? ⟨g, i * 8 + 2, none⟩ = some (.int .i64 x.2.2.1) ∧ w.cell? ⟨g, i * 8 + 3, none⟩ = some (.int .i64 x.2.2.2.1) ∧
  w.cell? ⟨g, i * 8 + 4, none⟩ = some (.int .i64 x.2.2.2.2.1) ∧ w.cell? ⟨g, i * 8 + 5, none⟩ = some (.int .i64 x.2.2.2.2.2.1) ∧ w.cell? ⟨g, i * 8 + 6, none⟩ = some (.bool x.2.2.2.2.2.2.1) ∧ w.cell? ⟨g, i * 8 + 7, none⟩ = some (.bool x.2.2.2.2.2.2.2) := by
 have hl : i < l.length := (List.getElem?_eq_some_iff.1 hx).1
 have k := fun c (hc : c < 8) => (h.cellAt (i * 8 + c) (by omega)).trans (insR_get l i c x hx hc)
 exact ⟨(k 0 (by decide)).trans rfl, (k 1 (by decide)).trans rfl, (k 2 (by decide)).trans rfl, (k 3 (by decide)).trans rfl, (k 4 (by decide)).trans rfl, (k 5 (by decide)).trans rfl, (k 6 (by decide)).trans rfl, (k 7 (by decide)).trans rfl⟩
theorem own_below {w w' : World} {base : Nat} {e : TypeId} {size : Nat} {v : Value} {n : Nat} {xs : List Value} (h : w.ownsRow base e size v n xs) (hb : Below w.heap.size w w') : w'.ownsRow base e size v n xs := by
 refine ⟨h.1, ?_⟩
 rcases h.2 with h2 | ⟨g, cap, cur, rfl, h3, hh, h4⟩
 ·exact .inl h2
 ·exact .inr ⟨g, cap, cur, rfl, h3, blk_below hh hb, h4⟩
set_option maxHeartbeats 8000000 in
set_option maxRecDepth 100000 in
theorem makes_none (rd n : Int) (hr : rd < 0 ∨ rd > 31) (w : World) (hE : Env w) (q1 : ∀ W, Env W → Calls Tryz.prog 18 #[.int .i64 rd, .int .i64 n] W fun e w' => ∃ v, e = .returned v ∧ w'.ownsRow W.heap.size 23 8 v 0 [] ∧ Below W.heap.size W w') :
  Calls Tryz.prog 6 #[.int .i64 rd, .int .i64 n] w fun e w' => e = .returned (.bool true) ∧ Below w.heap.size w w' := by
 have q1' := Aside0.mk q1
 have hE' := Aside0.mk hE
 clear hE q1; by_cases h1 : rd < 0
 ·have c1 : decide (rd < 0) = true := decide_eq_true h1
  clear hr h1; go_enter Tryz.func6, Tryz.ntmps6
  go_wp2_with (fail)
  refine (q1'.out _ hE'.out).mono ?_
  rintro _ w1 ⟨v1, rfl, hown, hb⟩
  have B1 := Aside0.mk hb
  obtain ⟨A1, k1, rfl⟩ : ∃ A k, v1 = .slice A 0 k := by
   rcases hown.2 with ⟨h, -⟩ | ⟨g, cap, cur, h, -⟩
   ·exact ⟨_, _, h⟩
   ·exact ⟨_, _, h⟩
  clear hb hown; go_wp2_with (fail)
  refine (wakes_calls _ (hE'.out.below B1.out)).mono ?_
  rintro _ w4 ⟨rfl, hb⟩
  have B4 := Aside0.mk (below_step B1.out hb)
  clear hb; go_wp2_with (fail)
  go_ret
  exact ⟨rfl, B4.out⟩
 ·have c1 : decide (rd < 0) = false := decide_eq_false h1
  have c2 : decide (rd > 31) = true := decide_eq_true (by omega)
  clear hr h1; go_enter Tryz.func6, Tryz.ntmps6
  go_wp2_with (fail)
  refine (q1'.out _ hE'.out).mono ?_
  rintro _ w1 ⟨v1, rfl, hown, hb⟩
  have B1 := Aside0.mk hb
  obtain ⟨A1, k1, rfl⟩ : ∃ A k, v1 = .slice A 0 k := by
   rcases hown.2 with ⟨h, -⟩ | ⟨g, cap, cur, h, -⟩
   ·exact ⟨_, _, h⟩
   ·exact ⟨_, _, h⟩
  clear hb hown; go_wp2_with (fail)
  refine (wakes_calls _ (hE'.out.below B1.out)).mono ?_
  rintro _ w4 ⟨rfl, hb⟩
  have B4 := Aside0.mk (below_step B1.out hb)
  clear hb; go_wp2_with (fail)
  go_ret
  exact ⟨rfl, B4.out⟩
set_option maxHeartbeats 8000000 in
set_option maxRecDepth 100000 in
theorem makes_some (rd n : Int) (hr : 0 ≤ rd ∧ rd ≤ 31) (L : List Ins) (h0 : 0 < L.length) (h8 : L.length ≤ 8) (hR : ∀ i ∈ L, rightI i = true) (hD : rd ≠ 0 → ∃ k, mezzaninelaw10_done.f k rd (L.map toS) = some (n, true)) (w : World) (hE : Env w)
  (q1 : ∀ W, Env W → Calls Tryz.prog 18 #[.int .i64 rd, .int .i64 n] W fun e w' => ∃ v, e = .returned v ∧ w'.ownsRow W.heap.size 23 8 v L.length (insR L) ∧ Below W.heap.size W w') :
  Calls Tryz.prog 6 #[.int .i64 rd, .int .i64 n] w fun e w' => e = .returned (.bool true) ∧ Below w.heap.size w w' := by
 have q1' := Aside0.mk q1
 have hE' := Aside0.mk hE
 have hR' := Aside0.mk hR
 have hD' := Aside0.mk hD
 have c1 : decide (rd < 0) = false := decide_eq_false (by omega)
 have c2 : decide (rd > 31) = false := decide_eq_false (by omega)
 have c3 : ((L.length : Int) == 0) = false := beq_eq_false_iff_ne.2 (by omega)
 have c4 : decide ((L.length : Int) > 8) = false := decide_eq_false (by omega)
 have c5 : ¬ L.length = 0 := by omega
 have h8' := Aside0.mk (And.intro h0 (And.intro h8 hr))
 clear hE q1 hR hD hr h0 h8; go_enter Tryz.func6, Tryz.ntmps6
 go_wp2_with (fail)
 refine (q1'.out _ hE'.out).mono ?_
 rintro _ w1 ⟨v1, rfl, hown, hb⟩
 have B1 := Aside0.mk hb
 obtain ⟨g, cap, cur, rfl, -⟩ := rows_open hown h8'.out.1
 have O1 := Aside0.mk hown
 clear hb hown; go_wp2_with (fail)
 go_loopg [6] L.length (fun kq v6 wr => ∃ (j : Nat), j + kq = L.length ∧ v6 = .int .i64 (j : Int) ∧ Aside0 (wr.ownsRow w.heap.size 23 8 (.slice (some ⟨g, 0, none⟩) L.length cap) L.length (insR L)) ∧ Aside0 (Below w.heap.size w wr))
 case atStart => exact ⟨0, by omega, rfl, O1, B1⟩
 case round =>
  clear O1 B1; obtain ⟨j, hj, rfl, O2, B2⟩ := hrel
  cases gk with
  | zero =>
   obtain rfl : j = L.length := by omega
   clear hj; by_cases hz : rd = 0
   ·have cz : (rd == 0) = true := by simpa using hz
    clear hz; go_wp2_with (fail)
    refine (wakes_calls _ (hE'.out.below B2.out)).mono ?_
    rintro _ w4 ⟨rfl, hb⟩
    have B4 := Aside0.mk (below_step B2.out hb)
    clear hb; go_wp2_with (fail)
    go_ret
    exact ⟨rfl, B4.out⟩
   ·have cz : (rd == 0) = false := by simpa using hz
    obtain ⟨kk, hkk⟩ := hD'.out hz
    have HK := Aside0.mk hkk
    clear hz hkk; obtain ⟨A1, k1, hv, hc1, hC1⟩ := Kd.R_reads (R_ins O2.out)
    obtain ⟨rfl, hk1⟩ : A1 = some ⟨g, 0, none⟩ ∧ k1 = cap := by
     injection hv with h1 h2 h3
     exact ⟨h1.symm, h3.symm⟩
    subst hk1; have C1 := Aside0.mk hC1
    have D1 := Aside0.mk hc1
    clear hv hC1 hc1; have hml : (L.map toS).length = L.length := List.length_map _
    have hdc := mezzaninelaw10_done.calls kk rd (some ⟨g, 0, none⟩) k1 (L.map toS) n true wr C1.out D1.out HK.out
    rw [hml] at hdc
    have hdc' := Aside0.mk hdc
    clear hdc hml; go_wp2_with (fail)
    refine hdc'.out.mono ?_
    rintro _ w3 ⟨rfl, hb⟩
    have B3 := Aside0.mk (below_step B2.out hb)
    clear hb; go_wp2_with (fail)
    refine (wakes_calls _ (hE'.out.below B3.out)).mono ?_
    rintro _ w4 ⟨rfl, hb⟩
    have B4 := Aside0.mk (below_step B3.out hb)
    clear hb; go_wp2_with (fail)
    go_ret
    exact ⟨rfl, B4.out⟩
  | succ gk =>
   have hlt : j < L.length := by omega
   obtain ⟨⟨s1, d1, d2, d3, d4, d5, s2, s3⟩, hx⟩ : ∃ x, L[j]? = some x := ⟨_, List.getElem?_eq_getElem hlt⟩
   obtain ⟨ci0, ci1, ci2, ci3, ci4, ci5, ci6, ci7⟩ := ins_at O2.out j _ hx
   have hri := right_enc _ (hR'.out _ (List.mem_of_getElem? hx))
   have he := encode_says (s1, d1, d2, d3, d4, d5, s2, s3)
   unfold insV at he
   dsimp only at he ci0 ci1 ci2 ci3 ci4 ci5 ci6 ci7
   rw [hri] at he
   have he' := Aside0.mk he
   have hj' := Aside0.mk hj
   have hlt' : (j : Int) < (L.length : Int) := by omega
   clear he hri hx hj; go_wp2_with (fail)
   refine (he'.out _).mono ?_
   rintro _ w2 ⟨rfl, hb⟩
   have B3 := Aside0.mk (below_step B2.out hb)
   have O3 := Aside0.mk (own_below O2.out hb)
   clear hb ci0 ci1 ci2 ci3 ci4 ci5 ci6 ci7; go_wp2_with (fail)
   have h9 := h8'.out.2.1; go_roundg gk
   case measure => omega
   case rel => exact ⟨j + 1, by have := hj'.out; omega, by have := hj'.out; simp; unfold wrap64; omega, O3, B3⟩
theorem asmMakes_calls (rd : Int) (hrd : (Lit.int .i64 rd).wf = true) (n : Int) (hn : (Lit.int .i64 n).wf = true) (w : World) (hE : Env w) :
  Calls Tryz.prog 6 #[.int .i64 rd, .int .i64 n] w fun e w' => e = .returned (.bool true) ∧ Below w.heap.size w w' := by
 have hf := fit_all n hn
 have q1 := fun W h => li_calls 4 (by decide) (by decide) rd n hf W h
 by_cases hr : rd < 0 ∨ rd > 31
 ·refine makes_none rd n hr w hE ?_
  have e : liS 4 rd n = [] := by unfold liS; rw [if_pos hr]
  rw [e] at q1
  exact q1
 ·have hlen := li_len 4 rd n
  have hR := li_right 4 rd n hf (by decide) (by omega) (by omega)
  have h0 : 0 < (liS 4 rd n).length := by
   unfold liS
   rw [if_neg hr]
   split
   ·simp
   ·split
    ·simp
    ·rw [List.length_append, List.length_cons]; omega
  refine makes_some rd n (by omega) (liS 4 rd n) h0 (by omega) hR (fun hz => ?_) w hE q1
  obtain ⟨h1, h2⟩ := li_does 4 rd n hf (by decide) (by omega) (by omega)
  refine ⟨2 * (liS 4 rd n).length + 2, ?_⟩
  have h3 := done_loop rd hz (liS 4 rd n) (by omega) h1 (liS 4 rd n).length 0 0 (by omega)
  unfold mezzaninelaw10_done.f
  rw [show ((0 : Nat) : Int) = 0 from rfl] at h3
  rw [h3, List.drop_zero, h2]
end Go.Proofs.YtknkfimpflodeaaGreatDoor.P
