/- AsmLis: walked. -/
import Derived.Test.YtknkfimpflodeaaGreatDoorWk
import Derived.Test.YtknkfimpflodeaaGreatDoorLi
import Derived.Test.YtknkfimpflodeaaGreatDoorLiR
namespace Go.Proofs.YtknkfimpflodeaaGreatDoor.P
open Go.RowKit Go.Proofs.YtknkfimpflodeaaGreatDoorW.PrintWords Go.Proofs.YtknkfimpflodeaaGreatDoorW.PrintLast Go.Proofs.YtknkfimpflodeaaGreatDoorW.PrintMore
set_option linter.unusedVariables false
set_option linter.unusedSimpArgs false
theorem insR_len : ∀ l : List Ins, (insR l).length = l.length * 8
 | [] => rfl
 | a :: l => by rw [insR_cons, List.length_append, insR_len l, List.length_cons]; simp [insC]; omega
theorem insR_drop : ∀ (l : List Ins) (j : Nat) (x : Ins), l[j]? = some x → ((insR l).drop (j * 8)).take 8 = insC x
 | [], j, x, h => by simp at h
 | a :: l, 0, x, h => by
  obtain rfl : a = x := by simpa using h
  rw [insR_cons, Nat.zero_mul, List.drop_zero]
  exact List.take_left' rfl
 | a :: l, j + 1, x, h => by
  have ih := insR_drop l j x (by simpa using h)
  rw [insR_cons, show (j + 1) * 8 = 8 + j * 8 by omega, ← List.drop_drop, List.drop_left' (show (insC a).length = 8 from rfl)]
  exact ih
theorem reps_ins (w : World) (base : Nat) (ok : Nat → Prop) (l : List Ins) : Reps (k23.M w base ok) 8 (l.map toS) (insR l) := by
 refine ⟨by rw [insR_len, List.length_map], fun j p hp => ?_⟩
 rw [List.getElem?_map] at hp
 obtain ⟨x, hx, rfl⟩ := Option.map_eq_some_iff.1 hp
 rw [insR_drop l j x hx]
 exact k23_mkM w base ok (toS x)
theorem R_ins {w : World} {base : Nat} {v : Value} {l : List Ins} (h : w.ownsRow base 23 8 v l.length (insR l)) : Kd.R k23 23 w base (fun _ => True) v (l.map toS) :=
 ⟨fun _ _ => trivial, insR l, by rw [List.length_map]; exact h, reps_ins _ _ _ l⟩
theorem same_loop (l : List S23) (hl : l.length ≤ 1000) : ∀ (d j : Nat), j + d = l.length → mezzaninelaw10_SameInstrs.l0 (d + 1) l l (j : Int) = some true
 | 0, j, hj => by
  rw [mezzaninelaw10_SameInstrs.l0, if_neg (by omega)]
 | d + 1, j, hj => by
  have ih := same_loop l hl d (j + 1) (by omega)
  have hw : wrap64 ((j : Int) + 1) = ((j + 1 : Nat) : Int) := by unfold wrap64; omega
  rw [mezzaninelaw10_SameInstrs.l0, if_pos (by omega), if_pos (by omega), if_pos (by omega), hw, ih]
  simp
theorem same_at (l : List S23) (hl : l.length ≤ 1000) : mezzaninelaw10_SameInstrs.f (l.length + 1) l l = some true := by
 unfold mezzaninelaw10_SameInstrs.f
 rw [if_pos rfl]
 exact same_loop l hl l.length 0 (by omega)
theorem fit_all (n : Int) (h : (Lit.int .i64 n).wf = true) : fitP 4 n := by
 obtain ⟨h1, h2⟩ := bounds_i64 h
 refine ⟨⟨by omega, by omega⟩, ?_, ?_⟩ <;> rw [show 12 * 4 + 19 = 67 by omega, show (2 : Int) ^ 67 = 147573952589676412928 from rfl] <;> omega
set_option maxHeartbeats 8000000 in
set_option maxRecDepth 100000 in
theorem asmLis_calls (rd : Int) (hrd : (Lit.int .i64 rd).wf = true) (n : Int) (hn : (Lit.int .i64 n).wf = true) (w : World) (hE : Env w) :
  Calls Tryz.prog 4 #[.int .i64 rd, .int .i64 n] w fun e w' => e = .returned (.bool true) ∧ Below w.heap.size w w' := by
 have hf := fit_all n hn
 have q1 : ∀ W, Env W → Calls Tryz.prog 18 #[.int .i64 rd, .int .i64 n] W fun e w' => ∃ v, e = .returned v ∧ Kd.R k23 23 w' W.heap.size (fun _ => True) v ((liS 4 rd n).map toS) ∧ Below W.heap.size W w' :=
  fun W h => (li_calls 4 (by decide) (by decide) rd n hf W h).mono (fun e w' ⟨v, he, ho, hb⟩ => ⟨v, he, R_ins ho, hb⟩)
 have q2 := fun W => mezzanineref10_Li.calls (100 * 4) rd n _ W (rli_at 4 rd n hf (by decide) (by decide))
 have hlen : ((liS 4 rd n).map toS).length ≤ 8 := by
  have := li_len 4 rd n
  rw [List.length_map]; omega
 generalize (liS 4 rd n).map toS = L at q1 q2 hlen
 have hq := same_at L (by omega)
 have q1' := Aside0.mk q1
 have q2' := Aside0.mk q2
 have hq' := Aside0.mk hq
 have hE' := Aside0.mk hE
 clear hE q1 q2 hq hf hn hlen; go_enter Tryz.func4, Tryz.ntmps4
 go_wp2_with (fail)
 refine (q1'.out _ hE'.out).mono ?_
 rintro _ w1 ⟨v1, rfl, hown, hb⟩
 have B1 := Aside0.mk hb
 have R1 := Aside0.mk hown
 clear hown hb; go_wp2_with (fail)
 refine (q2'.out _).mono ?_
 rintro _ w2 ⟨v2, rfl, hR2, hb⟩
 have B2 := Aside0.mk (below_step B1.out hb)
 obtain ⟨A1, c1, rfl, hc1, hC1⟩ := Kd.R_reads (Kd.R_below R1.out hb)
 obtain ⟨A2, c2, rfl, hc2, hC2⟩ := Kd.R_reads hR2
 have C1 := Aside0.mk hC1
 have C2 := Aside0.mk hC2
 have D1 := Aside0.mk hc1
 have D2 := Aside0.mk hc2
 clear hb hR2 hC1 hC2 hc1 hc2 R1 B1; go_wp2_with (fail)
 refine (mezzaninelaw10_SameInstrs.calls _ A1 c1 L A2 c2 L true w2 C1.out D1.out C2.out D2.out hq'.out).mono ?_
 rintro _ w3 ⟨rfl, hd⟩
 have B3 := Aside0.mk (below_step B2.out hd.below)
 clear hd; go_wp2_with (fail)
 refine (wakes_calls _ (hE'.out.below B3.out)).mono ?_
 rintro _ w4 ⟨rfl, hb⟩
 have B4 := Aside0.mk (below_step B3.out hb)
 clear hb; go_wp2_with (fail)
 go_ret
 exact ⟨rfl, B4.out⟩
end Go.Proofs.YtknkfimpflodeaaGreatDoor.P
