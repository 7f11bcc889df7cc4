-- written by a program of this place (wip/lay.sh, wip/print2.py over the kit's print; wip/regroup.py); Lean checks it
import Derived.Test.YtknkfimpflodeaaGreatDoorG0
namespace Go.Proofs.YtknkfimpflodeaaGreatDoor.P
open Go.RowKit Go.Proofs.YtknkfimpflodeaaGreatDoorW.PrintWords Go.Proofs.YtknkfimpflodeaaGreatDoorW.PrintLast Go.Proofs.YtknkfimpflodeaaGreatDoorW.PrintMore
attribute [local go_sem] max2_int min2_int max_two min_two max_three min_three max_four min_four
set_option linter.unusedVariables false
set_option linter.unusedSimpArgs false
attribute [local go_sem] run_f0 run_f1 run_f2 run_f3 run_g0 run_g1 run_g2 run_g3
attribute [local go_sem high] eqA23
/-! ### mezzaninelaw10_SameInstrs: function 17 -/
def mezzaninelaw10_SameInstrs.l0 : Nat → List (S23) → List (S23) → Int → Option (Bool)
 | 0, _, _, _ => none
 | k + 1, x0, x1, x5 => if x5 < (x0.length : Int) then (if 0 ≤ x5 then (if x5 < (x1.length : Int) then (if (!(((rd_T23 x0 x5).f0) == ((rd_T23 x1 x5).f0)) || (!(((rd_T23 x0 x5).f1) == ((rd_T23 x1 x5).f1)) || (!(((rd_T23 x0 x5).f2) == ((rd_T23 x1 x5).f2)) || (!(((rd_T23 x0 x5).f3) == ((rd_T23 x1 x5).f3)) || (!(((rd_T23 x0 x5).f4) == ((rd_T23 x1 x5).f4)) || (!(((rd_T23 x0 x5).f5) == ((rd_T23 x1 x5).f5)) || (!(((rd_T23 x0 x5).f6) == ((rd_T23 x1 x5).f6)) || (!(((rd_T23 x0 x5).f7) == ((rd_T23 x1 x5).f7)))))))))) = true then (some false) else (mezzaninelaw10_SameInstrs.l0 k x0 x1 (wrap64 (x5 + 1)))) else (none)) else (none)) else (some true)
def mezzaninelaw10_SameInstrs.f (k : Nat) (l0 : List (S23)) (l1 : List (S23)) : Option (Bool) := if (l0.length : Int) = (l1.length : Int) then (mezzaninelaw10_SameInstrs.l0 k l0 l1 0) else (some false)
theorem mezzaninelaw10_SameInstrs.mono_l : ∀ k, (∀ y0 y1 y2, LeO (mezzaninelaw10_SameInstrs.l0 k y0 y1 y2) (mezzaninelaw10_SameInstrs.l0 (k + 1) y0 y1 y2))
 | 0 => fun _ _ _ r h => by simp [mezzaninelaw10_SameInstrs.l0] at h
 | k + 1 => by
  have ih0 := mezzaninelaw10_SameInstrs.mono_l k
  ·intro y0 y1 y2
   unfold mezzaninelaw10_SameInstrs.l0
   repeat' first
   | (with_reducible exact ih0 _ _ _)
   | (with_reducible exact LeO.refl _)
   | (with_reducible exact LeO.none _)
   | (with_reducible refine LeO.ite ?_ ?_)
   | (with_reducible refine LeO.bind ?_ (fun _ => ?_))
   | exact ih0 _ _ _
   | exact LeO.none _
   | refine LeO.ite ?_ ?_
   | refine LeO.bind ?_ (fun _ => ?_)
theorem mezzaninelaw10_SameInstrs.mono : ∀ a0 a1 k, LeO (mezzaninelaw10_SameInstrs.f k a0 a1) (mezzaninelaw10_SameInstrs.f (k + 1) a0 a1) := by
 intro a0 a1 k
 have ih0 := mezzaninelaw10_SameInstrs.mono_l k
 unfold mezzaninelaw10_SameInstrs.f
 repeat' first
   | (with_reducible exact ih0 _ _ _)
   | (with_reducible exact LeO.refl _)
   | (with_reducible exact LeO.none _)
   | (with_reducible refine LeO.ite ?_ ?_)
   | (with_reducible refine LeO.bind ?_ (fun _ => ?_))
   | exact ih0 _ _ _
   | exact LeO.none _
   | refine LeO.ite ?_ ?_
   | refine LeO.bind ?_ (fun _ => ?_)
set_option maxHeartbeats 8000000 in
set_option maxRecDepth 100000 in
theorem mezzaninelaw10_SameInstrs.calls (k : Nat) (A0 : Option Addr) (c0 : Nat) (l0 : List (S23)) (A1 : Option Addr) (c1 : Nat) (l1 : List (S23)) (r : Bool) (w : World) (hr0 : Kd.C k23 w A0 l0.length l0) (hc0 : l0.length ≤ c0) (hr1 : Kd.C k23 w A1 l1.length l1) (hc1 : l1.length ≤ c1) (h : mezzaninelaw10_SameInstrs.f k l0 l1 = some r) :
  Calls Tryz.prog 17 #[.slice A0 l0.length c0, .slice A1 l1.length c1] w fun e w' => e = .returned (.bool r) ∧ Drawn0 w w' := by
 have hu23 := Tryz.underlying23; have HR0 := Aside0.mk hr0
 have HC0 := Aside0.mk hc0
 clear hr0 hc0; have HR1 := Aside0.mk hr1
 have HC1 := Aside0.mk hc1
 clear hr1 hc1; have H : (if (l0.length : Int) = (l1.length : Int) then (mezzaninelaw10_SameInstrs.l0 k l0 l1 0) else (some false)) = some r := h
 clear h; by_cases c3 : (l0.length : Int) = (l1.length : Int)
 ·rw [if_pos c3] at H
  have c3b0 : ((l0.length : Int) == (l1.length : Int)) = true := beq_iff_eq.mpr c3
  have c3b1 : ((l0.length : Int) != (l1.length : Int)) = false := bne_eq_false_iff_eq.mpr c3
  have c3b2 : (l0.length == l1.length) = true := by first | simpa using c3 | (simp at c3 ⊢; omega)
  clear c3; have H' := Aside0.mk H
  clear H; go_enter Tryz.func17, Tryz.ntmps17
  go_wp2
  repeat (go_quiet (fail); try go_wp2)
  go_loopg [5] k (fun kq v5 w' => ∃ (x5_1 : Int), v5 = .int .i64 x5_1 ∧ Aside0 (mezzaninelaw10_SameInstrs.l0 kq l0 l1 x5_1 = some r) ∧ Aside0 (kq ≤ k) ∧ Drawn0 w w')
  case atStart => exact ⟨(0), (by first | rfl | (simp; done) | (simp [*]; done)), H', ⟨Nat.le_refl _⟩, by repeat (first | exact Drawn0.refl _ | apply Drawn0.step)⟩
  case round =>
   clear H'; (try clear c1); (try clear p2); (try clear c3); (try clear c3b0); (try clear c3b1); (try clear c3b2); obtain ⟨x5_1, rfl, HA, HK1, ⟨m1, rfl⟩⟩ := hrel
   cases gk with
   | zero => exact absurd HA.out (by simp [mezzaninelaw10_SameInstrs.l0])
   | succ k1 =>
    have H := HA.out; clear HA; simp only [mezzaninelaw10_SameInstrs.l0] at H
    by_cases c4 : x5_1 < (l0.length : Int)
    ·rw [if_pos c4] at H
     have c4b0 : decide (x5_1 < (l0.length : Int)) = true := decide_eq_true c4
     clear c4; by_cases c5 : 0 ≤ x5_1
     ·rw [if_pos c5] at H
      have c5b0 : decide (0 ≤ x5_1) = true := decide_eq_true c5
      clear c5; by_cases c6 : x5_1 < (l1.length : Int)
      ·rw [if_pos c6] at H
       have c6b0 : decide (x5_1 < (l1.length : Int)) = true := decide_eq_true c6
       clear c6; by_cases c7 : (!(((rd_T23 l0 x5_1).f0) == ((rd_T23 l1 x5_1).f0)) || (!(((rd_T23 l0 x5_1).f1) == ((rd_T23 l1 x5_1).f1)) || (!(((rd_T23 l0 x5_1).f2) == ((rd_T23 l1 x5_1).f2)) || (!(((rd_T23 l0 x5_1).f3) == ((rd_T23 l1 x5_1).f3)) || (!(((rd_T23 l0 x5_1).f4) == ((rd_T23 l1 x5_1).f4)) || (!(((rd_T23 l0 x5_1).f5) == ((rd_T23 l1 x5_1).f5)) || (!(((rd_T23 l0 x5_1).f6) == ((rd_T23 l1 x5_1).f6)) || (!(((rd_T23 l0 x5_1).f7) == ((rd_T23 l1 x5_1).f7)))))))))) = true
       ·rw [if_pos c7] at H
        have c7b0 : (!(((rd_T23 l0 x5_1).f0) == ((rd_T23 l1 x5_1).f0)) || (!(((rd_T23 l0 x5_1).f1) == ((rd_T23 l1 x5_1).f1)) || (!(((rd_T23 l0 x5_1).f2) == ((rd_T23 l1 x5_1).f2)) || (!(((rd_T23 l0 x5_1).f3) == ((rd_T23 l1 x5_1).f3)) || (!(((rd_T23 l0 x5_1).f4) == ((rd_T23 l1 x5_1).f4)) || (!(((rd_T23 l0 x5_1).f5) == ((rd_T23 l1 x5_1).f5)) || (!(((rd_T23 l0 x5_1).f6) == ((rd_T23 l1 x5_1).f6)) || (!(((rd_T23 l0 x5_1).f7) == ((rd_T23 l1 x5_1).f7)))))))))) = true := c7
        clear c7; obtain rfl := Option.some.inj H
        have p502 : 0 ≤ (x5_1 : Int) := of_decide_eq_true (by first | (with_reducible assumption) | assumption)
        have q502 : x5_1 < (l0.length : Int) := of_decide_eq_true (by first | (with_reducible assumption) | assumption)
        obtain ⟨ad502, e502, hx502_0, hx502_1, hx502_2, hx502_3, hx502_4, hx502_5, hx502_6, hx502_7⟩ := at_T23 HR0.out x5_1 p502 q502
        cases e502
        replace p502 := eq_true p502
        replace q502 := eq_true q502
        have p503 : 0 ≤ (x5_1 : Int) := of_decide_eq_true (by first | (with_reducible assumption) | assumption)
        have q503 : x5_1 < (l1.length : Int) := of_decide_eq_true (by first | (with_reducible assumption) | assumption)
        obtain ⟨ad503, e503, hx503_0, hx503_1, hx503_2, hx503_3, hx503_4, hx503_5, hx503_6, hx503_7⟩ := at_T23 HR1.out x5_1 p503 q503
        cases e503
        replace p503 := eq_true p503
        replace q503 := eq_true q503
        go_wp2
        repeat (go_quiet (fail); try go_wp2)
        go_ret
        exact ⟨by first | rfl | (simp; done) | (simp [*]; done), by repeat (first | exact Drawn0.refl _ | apply Drawn0.step)⟩
       ·rw [if_neg c7] at H
        have c7b0 : (!(((rd_T23 l0 x5_1).f0) == ((rd_T23 l1 x5_1).f0)) || (!(((rd_T23 l0 x5_1).f1) == ((rd_T23 l1 x5_1).f1)) || (!(((rd_T23 l0 x5_1).f2) == ((rd_T23 l1 x5_1).f2)) || (!(((rd_T23 l0 x5_1).f3) == ((rd_T23 l1 x5_1).f3)) || (!(((rd_T23 l0 x5_1).f4) == ((rd_T23 l1 x5_1).f4)) || (!(((rd_T23 l0 x5_1).f5) == ((rd_T23 l1 x5_1).f5)) || (!(((rd_T23 l0 x5_1).f6) == ((rd_T23 l1 x5_1).f6)) || (!(((rd_T23 l0 x5_1).f7) == ((rd_T23 l1 x5_1).f7)))))))))) = false := by simpa using c7
        clear c7; have H' := Aside0.mk H
        clear H; have p502 : 0 ≤ (x5_1 : Int) := of_decide_eq_true (by first | (with_reducible assumption) | assumption)
        have q502 : x5_1 < (l0.length : Int) := of_decide_eq_true (by first | (with_reducible assumption) | assumption)
        obtain ⟨ad502, e502, hx502_0, hx502_1, hx502_2, hx502_3, hx502_4, hx502_5, hx502_6, hx502_7⟩ := at_T23 HR0.out x5_1 p502 q502
        cases e502
        replace p502 := eq_true p502
        replace q502 := eq_true q502
        have p503 : 0 ≤ (x5_1 : Int) := of_decide_eq_true (by first | (with_reducible assumption) | assumption)
        have q503 : x5_1 < (l1.length : Int) := of_decide_eq_true (by first | (with_reducible assumption) | assumption)
        obtain ⟨ad503, e503, hx503_0, hx503_1, hx503_2, hx503_3, hx503_4, hx503_5, hx503_6, hx503_7⟩ := at_T23 HR1.out x5_1 p503 q503
        cases e503
        replace p503 := eq_true p503
        replace q503 := eq_true q503
        go_wp2
        repeat (go_quiet (fail); try go_wp2)
        go_roundg k1
        case measure => have := HK1.out; omega
        case rel => exact ⟨(wrap64 (x5_1 + 1)), (by first | rfl | (simp; done) | (simp [*]; done)), H', ⟨by have := HK1.out; omega⟩, by repeat (first | exact Drawn0.refl _ | apply Drawn0.step)⟩
      ·rw [if_neg c6] at H
       exact absurd H (by simp)
     ·rw [if_neg c5] at H
      exact absurd H (by simp)
    ·rw [if_neg c4] at H
     have c4b0 : decide (x5_1 < (l0.length : Int)) = false := decide_eq_false c4
     clear c4; obtain rfl := Option.some.inj H
     go_wp2
     repeat (go_quiet (fail); try go_wp2)
     go_ret
     exact ⟨by first | rfl | (simp; done) | (simp [*]; done), by repeat (first | exact Drawn0.refl _ | apply Drawn0.step)⟩
 ·rw [if_neg c3] at H
  have c3b0 : ((l0.length : Int) == (l1.length : Int)) = false := beq_eq_false_iff_ne.mpr c3
  have c3b1 : ((l0.length : Int) != (l1.length : Int)) = true := bne_iff_ne.mpr c3
  have c3b2 : (l0.length == l1.length) = false := by first | simpa using c3 | (simp at c3 ⊢; omega)
  obtain rfl := Option.some.inj H
  go_enter Tryz.func17, Tryz.ntmps17
  go_wp2
  repeat (go_quiet (fail); try go_wp2)
  go_ret
  exact ⟨by first | rfl | (simp; done) | (simp [*]; done), by repeat (first | exact Drawn0.refl _ | apply Drawn0.step)⟩
end Go.Proofs.YtknkfimpflodeaaGreatDoor.P
