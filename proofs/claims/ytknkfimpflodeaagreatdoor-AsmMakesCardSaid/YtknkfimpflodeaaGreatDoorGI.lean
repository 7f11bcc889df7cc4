-- written by a program of this place (wip/lay.sh, wip/print2.py over the kit's print; wip/regroup.py); Lean checks it
import Derived.Test.YtknkfimpflodeaaGreatDoorG0
namespace Go.Proofs.YtknkfimpflodeaaGreatDoor.P
open Go.RowKit Go.Proofs.YtknkfimpflodeaaGreatDoorW.PrintWords Go.Proofs.YtknkfimpflodeaaGreatDoorW.PrintLast Go.Proofs.YtknkfimpflodeaaGreatDoorW.PrintMore
attribute [local go_sem] max2_int min2_int max_two min_two max_three min_three max_four min_four
set_option linter.unusedVariables false
set_option linter.unusedSimpArgs false
attribute [local go_sem] run_f0 run_f1 run_f2 run_f3 run_g0 run_g1 run_g2 run_g3
/-! ### mezzanineref10_Low: function 50 -/
def mezzanineref10_Low.f (a0 : Int) : Option (Int) := if (Go.bits .and .i64 a0 4095) ≥ 2048 then (some (wrap64 ((Go.bits .and .i64 a0 4095) - 4096))) else (some (Go.bits .and .i64 a0 4095))
set_option maxHeartbeats 8000000 in
set_option maxRecDepth 100000 in
theorem mezzanineref10_Low.calls (a0 : Int) (r : Int) (w : World) (h : mezzanineref10_Low.f a0 = some r) :
  Calls Tryz.prog 50 #[.int .i64 a0] w fun e w' => e = .returned (.int .i64 r) ∧ Drawn0 w w' := by
 have H : (if (Go.bits .and .i64 a0 4095) ≥ 2048 then (some (wrap64 ((Go.bits .and .i64 a0 4095) - 4096))) else (some (Go.bits .and .i64 a0 4095))) = some r := h
 clear h; by_cases c2 : (Go.bits .and .i64 a0 4095) ≥ 2048
 ·rw [if_pos c2] at H
  have c2b0 : decide (2048 ≤ (Go.bits .and .i64 a0 4095)) = true := decide_eq_true c2
  clear c2; obtain rfl := Option.some.inj H
  go_enter Tryz.func50, Tryz.ntmps50
  go_wp2
  go_ret
  exact ⟨by first | rfl | (simp; done) | (simp [*]; done), by repeat (first | exact Drawn0.refl _ | apply Drawn0.step)⟩
 ·rw [if_neg c2] at H
  have c2b0 : decide (2048 ≤ (Go.bits .and .i64 a0 4095)) = false := decide_eq_false c2
  clear c2; obtain rfl := Option.some.inj H
  go_enter Tryz.func50, Tryz.ntmps50
  go_wp2
  go_ret
  exact ⟨by first | rfl | (simp; done) | (simp [*]; done), by repeat (first | exact Drawn0.refl _ | apply Drawn0.step)⟩
/-! ### mezzanineref10_Li: function 19 -/
mutual
def mezzanineref10_Li.j0 : Nat → Int → Int → List (S23) → Bool → Option ((List (S23)))
 | 0, _, _, _, _ => none
 | k + 1, x0, x1, x5, x14 => if x14 = true then (some x5) else (if x1 ≥ (-2048) then (mezzanineref10_Li.j1 k x0 x1 x5 (decide (x1 ≤ 2047))) else (mezzanineref10_Li.j1 k x0 x1 x5 false))
def mezzanineref10_Li.j1 : Nat → Int → Int → List (S23) → Bool → Option ((List (S23)))
 | 0, _, _, _, _ => none
 | k + 1, x0, x1, x5, x21 => if x21 = true then (if x5.length < 2513169434916 then (some (x5 ++ [(⟨22, x0, 0, 0, x1, 0, false, false⟩ : S23)])) else (none)) else ((mezzanineref10_Low.f x1).bind fun t414 => (if x1 ≥ (-2147483648) then (mezzanineref10_Li.j2 k x0 x5 t414 (wrap64 (x1 - t414)) (decide (x1 < 2147483648))) else (mezzanineref10_Li.j2 k x0 x5 t414 (wrap64 (x1 - t414)) false)))
def mezzanineref10_Li.j2 : Nat → Int → List (S23) → Int → Int → Bool → Option ((List (S23)))
 | 0, _, _, _, _, _ => none
 | k + 1, x0, x5, x6, x7, x38 => if x38 = true then (if x7 = 2147483648 then (if x5.length < 2513169434916 then ((some (x5 ++ [(⟨1, x0, 0, 0, (-2147483648), 0, false, false⟩ : S23)] : List (S23))).bind fun y415 => (if x6 = 0 then (some y415) else (if y415.length < 2513169434916 then (some (y415 ++ [(⟨31, x0, x0, 0, x6, 0, false, false⟩ : S23)])) else (none)))) else (none)) else (if x5.length < 2513169434916 then ((some (x5 ++ [(⟨1, x0, 0, 0, x7, 0, false, false⟩ : S23)] : List (S23))).bind fun y421 => (if x6 = 0 then (some y421) else (if y421.length < 2513169434916 then (some (y421 ++ [(⟨31, x0, x0, 0, x6, 0, false, false⟩ : S23)])) else (none)))) else (none))) else (mezzanineref10_Li.l0 k x0 x5 x6 x7 0)
def mezzanineref10_Li.l0 : Nat → Int → List (S23) → Int → Int → Int → Option ((List (S23)))
 | 0, _, _, _, _, _ => none
 | k + 1, x0, x5, x6, x7, x8 => if (Go.bits .and .i64 x7 1) = 0 then (mezzanineref10_Li.l0 k x0 x5 x6 (x7 / 2) (wrap64 (x8 + 1))) else ((mezzanineref10_Li.f k x0 x7).bind fun t427 => (if x5.length + t427.length < 2513169434916 then ((some (x5 ++ t427 : List (S23))).bind fun y430 => (if y430.length < 2513169434916 then ((some (y430 ++ [(⟨28, x0, x0, 0, x8, 0, false, false⟩ : S23)] : List (S23))).bind fun y433 => (if x6 = 0 then (some y433) else (if y433.length < 2513169434916 then (some (y433 ++ [(⟨22, x0, x0, 0, x6, 0, false, false⟩ : S23)])) else (none)))) else (none))) else (none)))
def mezzanineref10_Li.f : Nat → Int → Int → Option ((List (S23)))
 | 0, _, _ => none
 | k + 1, a0, a1 => if a0 < 0 then (mezzanineref10_Li.j0 k a0 a1 ([] : List (S23)) true) else (mezzanineref10_Li.j0 k a0 a1 ([] : List (S23)) (decide (a0 > 31)))
end
theorem mezzanineref10_Li.mono_l : ∀ k, (∀ y0 y1, LeO (mezzanineref10_Li.f k y0 y1) (mezzanineref10_Li.f (k + 1) y0 y1)) ∧ (∀ y0 y1 y2 y3, LeO (mezzanineref10_Li.j0 k y0 y1 y2 y3) (mezzanineref10_Li.j0 (k + 1) y0 y1 y2 y3)) ∧ (∀ y0 y1 y2 y3, LeO (mezzanineref10_Li.j1 k y0 y1 y2 y3) (mezzanineref10_Li.j1 (k + 1) y0 y1 y2 y3)) ∧ (∀ y0 y1 y2 y3 y4, LeO (mezzanineref10_Li.j2 k y0 y1 y2 y3 y4) (mezzanineref10_Li.j2 (k + 1) y0 y1 y2 y3 y4)) ∧ (∀ y0 y1 y2 y3 y4, LeO (mezzanineref10_Li.l0 k y0 y1 y2 y3 y4) (mezzanineref10_Li.l0 (k + 1) y0 y1 y2 y3 y4))
 | 0 => ⟨fun _ _ r h => by simp [mezzanineref10_Li.f] at h, fun _ _ _ _ r h => by simp [mezzanineref10_Li.j0] at h, fun _ _ _ _ r h => by simp [mezzanineref10_Li.j1] at h, fun _ _ _ _ _ r h => by simp [mezzanineref10_Li.j2] at h, fun _ _ _ _ _ r h => by simp [mezzanineref10_Li.l0] at h⟩
 | k + 1 => by
  obtain ⟨ih0, ih1, ih2, ih3, ih4⟩ := mezzanineref10_Li.mono_l k
  refine ⟨?_, ?_, ?_, ?_, ?_⟩
  all_goals intros
  all_goals first | unfold mezzanineref10_Li.f | unfold mezzanineref10_Li.j0 | unfold mezzanineref10_Li.j1 | unfold mezzanineref10_Li.j2 | unfold mezzanineref10_Li.l0
  all_goals (repeat' first
   | (with_reducible exact ih0 _ _)
   | (with_reducible exact ih1 _ _ _ _)
   | (with_reducible exact ih2 _ _ _ _)
   | (with_reducible exact ih3 _ _ _ _ _)
   | (with_reducible exact ih4 _ _ _ _ _)
   | (with_reducible exact LeO.refl _)
   | (with_reducible exact LeO.none _)
   | (with_reducible refine LeO.ite ?_ ?_)
   | (with_reducible refine LeO.bind ?_ (fun _ => ?_))
   | exact ih0 _ _
   | exact ih1 _ _ _ _
   | exact ih2 _ _ _ _
   | exact ih3 _ _ _ _ _
   | exact ih4 _ _ _ _ _
   | exact LeO.none _
   | refine LeO.ite ?_ ?_
   | refine LeO.bind ?_ (fun _ => ?_))
theorem mezzanineref10_Li.mono : ∀ a0 a1 k, LeO (mezzanineref10_Li.f k a0 a1) (mezzanineref10_Li.f (k + 1) a0 a1) := by
 intro a0 a1 k
 obtain ⟨ih0, ih1, ih2, ih3, ih4⟩ := mezzanineref10_Li.mono_l k
 exact ih0 a0 a1
set_option maxHeartbeats 8000000 in
set_option maxRecDepth 100000 in
theorem mezzanineref10_Li.calls (k : Nat) : ∀ (a0 : Int) (a1 : Int) (r : List (S23)) (w : World) (h : mezzanineref10_Li.f k a0 a1 = some r),
  Calls Tryz.prog 19 #[.int .i64 a0, .int .i64 a1] w fun e w' => ∃ v0_ : Value, e = .returned (v0_) ∧ Kd.R k23 23 w' w.heap.size (fun _ => True) v0_ r ∧ Below w.heap.size w w' := by
 induction k using Nat.strongRecOn with
 | _ k ih =>
 intro a0 a1 r w h
 cases k with
 | zero => exact absurd h (by simp [mezzanineref10_Li.f])
 | succ k =>
 simp only [mezzanineref10_Li.f] at h
 have hu23 := Tryz.underlying23; have HB := Aside0.mk (Below.refl w.heap.size w)
 have H : (if a0 < 0 then (mezzanineref10_Li.j0 k a0 a1 ([] : List (S23)) true) else (mezzanineref10_Li.j0 k a0 a1 ([] : List (S23)) (decide (a0 > 31)))) = some r := h
 clear h; have HC3 := Aside0.mk H
 clear H; go_enter Tryz.func19, Tryz.ntmps19
 go_upto_region 2 with (fail)
 go_cut [14] (fun v14 wc => ∃ (kq : Nat) (x14_2 : Bool), v14 = .bool x14_2 ∧ Aside0 (mezzanineref10_Li.j0 kq a0 a1 ([] : List (S23)) x14_2 = some r) ∧ Aside0 (kq ≤ k) ∧ Aside0 (Kd.R k23 23 wc w.heap.size (fun _ => True) (.slice none 0 0) ([] : List (S23))) ∧ Aside0 (Below w.heap.size w wc))
 case first =>
  have H := HC3.out; clear HC3; by_cases c4 : a0 < 0
  ·rw [if_pos c4] at H
   have c4b0 : decide (a0 < 0) = true := decide_eq_true c4
   clear c4; (first | rw [c4b0] | (simp only [i64_w, i32_w]; rw [c4b0]) | skip)
   have H' := Aside0.mk H
   clear H; go_wp2
   go_meet
   case rel => exact ⟨_, (true), (by first | rfl | (simp; done) | (simp [*]; done)), H', ⟨by first | omega | exact Nat.le_refl _⟩, ⟨by first | exact Kd.R_nil _ _ _ _ _ | exact Kd.N_nil _ _ _ _ _ | exact Kd.V_nil _ _ _ _ _ | exact Kd.Q_nil _ _ _ _ _ | exact Kd.S_nil _ _ _ _ _⟩, ⟨by repeat (first | (with_reducible first | exact HB.out | apply below_alloc | apply pw_below_drewN | apply below_drew1) | exact HB.out)⟩⟩
  ·rw [if_neg c4] at H
   have c4b0 : decide (a0 < 0) = false := decide_eq_false c4
   clear c4; (first | rw [c4b0] | (simp only [i64_w, i32_w]; rw [c4b0]) | skip)
   have H' := Aside0.mk H
   clear H; go_wp2
   go_meet
   case rel => exact ⟨_, (decide (a0 > 31)), (by first | rfl | (simp; done) | (simp [*]; done)), H', ⟨by first | omega | exact Nat.le_refl _⟩, ⟨by first | exact Kd.R_nil _ _ _ _ _ | exact Kd.N_nil _ _ _ _ _ | exact Kd.V_nil _ _ _ _ _ | exact Kd.Q_nil _ _ _ _ _ | exact Kd.S_nil _ _ _ _ _⟩, ⟨by repeat (first | (with_reducible first | exact HB.out | apply below_alloc | apply pw_below_drewN | apply below_drew1) | exact HB.out)⟩⟩
 case rest =>
  clear HC3; (try clear c1); (try clear p2); (try clear c4); (try clear c4b0); obtain ⟨kq, x14_2, rfl, HA, HJ2, HO_5, HB⟩ := hcut
  cases kq with
  | zero => exact absurd HA.out (by simp [mezzanineref10_Li.j0])
  | succ kj2 =>
   have H := HA.out; clear HA; simp only [mezzanineref10_Li.j0] at H
   by_cases c5 : x14_2 = true
   ·subst c5
    have H1 : (some ([] : List (S23))) = some r := by rw [if_pos rfl] at H; exact H
    clear H; have H := H1; clear H1; obtain rfl := Option.some.inj H
    go_wp2
    go_ret
    exact ⟨_, by first | rfl | (simp [errW_none, errW_some] <;> rfl) | (simp [*, errW_none, errW_some] <;> rfl), by (with_reducible repeat (first | apply Kd.R_alloc | apply Kd.R_drewN | apply Kd.R_drew)); exact HO_5.out, by repeat (first | (with_reducible first | exact HB.out | apply below_alloc | apply pw_below_drewN | apply below_drew1) | exact HB.out)⟩
   ·replace c5 := Bool.eq_false_iff.mpr c5
    subst c5; have H1 : (if a1 ≥ (-2048) then (mezzanineref10_Li.j1 kj2 a0 a1 ([] : List (S23)) (decide (a1 ≤ 2047))) else (mezzanineref10_Li.j1 kj2 a0 a1 ([] : List (S23)) false)) = some r := by rw [if_neg (show ¬ (false = true) by decide)] at H; exact H
    clear H; have H := H1; clear H1; have HC6 := Aside0.mk H
    clear H; go_upto_region 4 with (fail)
    go_cut [21] (fun v21 wc => ∃ (kq : Nat) (x21_5 : Bool), v21 = .bool x21_5 ∧ Aside0 (mezzanineref10_Li.j1 kq a0 a1 ([] : List (S23)) x21_5 = some r) ∧ Aside0 (kq ≤ kj2) ∧ Aside0 (Kd.R k23 23 wc w.heap.size (fun _ => True) (.slice none 0 0) ([] : List (S23))) ∧ Aside0 (Below w.heap.size w wc))
    case first =>
     have H := HC6.out; clear HC6; by_cases c7 : a1 ≥ (-2048)
     ·rw [if_pos c7] at H
      have c7b0 : decide ((-2048) ≤ a1) = true := decide_eq_true c7
      clear c7; (first | rw [c7b0] | (simp only [i64_w, i32_w]; rw [c7b0]) | skip)
      have H' := Aside0.mk H
      clear H; go_wp2
      go_meet
      case rel => exact ⟨_, (decide (a1 ≤ 2047)), (by first | rfl | (simp; done) | (simp [*]; done)), H', ⟨by have := HJ2.out; first | omega | exact Nat.le_refl _⟩, ⟨by (with_reducible repeat (first | apply Kd.R_alloc | apply Kd.R_drewN | apply Kd.R_drew)); exact HO_5.out⟩, ⟨by repeat (first | (with_reducible first | exact HB.out | apply below_alloc | apply pw_below_drewN | apply below_drew1) | exact HB.out)⟩⟩
     ·rw [if_neg c7] at H
      have c7b0 : decide ((-2048) ≤ a1) = false := decide_eq_false c7
      clear c7; (first | rw [c7b0] | (simp only [i64_w, i32_w]; rw [c7b0]) | skip)
      have H' := Aside0.mk H
      clear H; go_wp2
      go_meet
      case rel => exact ⟨_, (false), (by first | rfl | (simp; done) | (simp [*]; done)), H', ⟨by have := HJ2.out; first | omega | exact Nat.le_refl _⟩, ⟨by (with_reducible repeat (first | apply Kd.R_alloc | apply Kd.R_drewN | apply Kd.R_drew)); exact HO_5.out⟩, ⟨by repeat (first | (with_reducible first | exact HB.out | apply below_alloc | apply pw_below_drewN | apply below_drew1) | exact HB.out)⟩⟩
    case rest =>
     clear HC6; (try clear c1); (try clear p2); (try clear c4); (try clear c4b0); (try clear c5); (try clear c7); (try clear c7b0); (try clear p2); obtain ⟨kq, x21_5, rfl, HA, HJ5, HO_5, HB⟩ := hcut
     cases kq with
     | zero => exact absurd HA.out (by simp [mezzanineref10_Li.j1])
     | succ kj5 =>
      have H := HA.out; clear HA; simp only [mezzanineref10_Li.j1] at H
      by_cases c8 : x21_5 = true
      ·subst c8
       have H1 : (if ([] : List (S23)).length < 2513169434916 then (some (([] : List (S23)) ++ [(⟨22, a0, 0, 0, a1, 0, false, false⟩ : S23)])) else (none)) = some r := by rw [if_pos rfl] at H; exact H
       clear H; have H := H1; clear H1; by_cases c9 : ([] : List (S23)).length < 2513169434916
       ·rw [if_pos c9] at H
        have LMc9 := Aside0.mk c9
        clear c9; obtain ⟨y411, hy411⟩ : ∃ y_ : List (S23), y_ = (([] : List (S23)) ++ [(⟨22, a0, 0, 0, a1, 0, false, false⟩ : S23)]) := ⟨_, rfl⟩
        replace H : (some y411) = some r := by first | (rw [hy411]; with_reducible exact H) | (have H2_ := (Option.bind_some _ _).symm.trans H; rw [hy411]; with_reducible exact H2_) | (have H2_ := (Option.bind_some _ _).symm.trans H; with_reducible exact H2_) | with_reducible exact H | (rw [hy411]; exact H) | exact H
        have Ny411 := Aside0.mk hy411
        clear hy411; obtain rfl := Option.some.inj H
        go_wp2_with (first | ((with_reducible refine gate_builtin (b := .append) (xs := #[.tmp 22, .tmp 26]) rfl ?_); at_builtin; refine Kd.R_append k23 (w0 := w) w.heap.size rfl (.tmp 22) (.tmp 26) 30 23 (.agg #[(.int .i64 0), (.int .i64 0), (.int .i64 0), (.int .i64 0), (.int .i64 0), (.int .i64 0), (.bool false), (.bool false)]) 56 rfl Tryz.underlying30 info23 rfl (by decide) (by omega) (.slice none 0 0) ([] : List (S23)) (⟨22, a0, 0, 0, a1, 0, false, false⟩ : S23) [.int .i64 22, .int .i64 a0, .int .i64 0, .int .i64 0, .int .i64 a1, .int .i64 0, .bool false, .bool false] (fun _ => True) (fun _ => False) rfl rfl ?aP (fun _ hk => hk.elim) ?aF ?aO ?aB ?aS ?aL ?_; (case aP => exact k23_mkM _ _ _ (⟨22, a0, 0, 0, a1, 0, false, false⟩ : S23)); (case aB => exact (by repeat (first | (with_reducible first | exact HB.out | apply below_alloc | apply pw_below_drewN | apply below_drew1) | exact HB.out))); (case aF => exact (fun _ _ => trivial)); (case aO => exact (by (with_reducible repeat (first | apply Kd.R_alloc | apply Kd.R_drewN | apply Kd.R_drew)); exact HO_5.out)); (case aS => exact (below_size (by repeat (first | (with_reducible first | exact HB.out | apply below_alloc | apply pw_below_drewN | apply below_drew1) | exact HB.out)))); (case aL => have := LMc9.out; omega); intro v412 w10 ho hb hg hat; rw [← Ny411.out] at ho; have n0_ := Aside0.mk (hb); have n1_ := Aside0.mk (ho); clear HB; clear HO_5; have HB := n0_; have HO413 := n1_; clear n0_ n1_; clear ho hb hg hat))
        go_ret
        exact ⟨_, by first | rfl | (simp [errW_none, errW_some] <;> rfl) | (simp [*, errW_none, errW_some] <;> rfl), by (with_reducible repeat (first | apply Kd.R_alloc | apply Kd.R_drewN | apply Kd.R_drew)); exact HO413.out, by repeat (first | (with_reducible first | exact HB.out | apply below_alloc | apply pw_below_drewN | apply below_drew1) | exact HB.out)⟩
       ·rw [if_neg c9] at H
        exact absurd H (by simp)
      ·replace c8 := Bool.eq_false_iff.mpr c8
       subst c8; have H1 : ((mezzanineref10_Low.f a1).bind fun t414 => (if a1 ≥ (-2147483648) then (mezzanineref10_Li.j2 kj5 a0 ([] : List (S23)) t414 (wrap64 (a1 - t414)) (decide (a1 < 2147483648))) else (mezzanineref10_Li.j2 kj5 a0 ([] : List (S23)) t414 (wrap64 (a1 - t414)) false))) = some r := by rw [if_neg (show ¬ (false = true) by decide)] at H; exact H
       clear H; have H := H1; clear H1; replace H := Option.bind_eq_some_iff.mp H
       obtain ⟨t414, A110, H⟩ := H
       replace H : (if a1 ≥ (-2147483648) then (mezzanineref10_Li.j2 kj5 a0 ([] : List (S23)) t414 (wrap64 (a1 - t414)) (decide (a1 < 2147483648))) else (mezzanineref10_Li.j2 kj5 a0 ([] : List (S23)) t414 (wrap64 (a1 - t414)) false)) = some r := H
       have A11 := Aside0.mk A110
       clear A110; have HC12 := Aside0.mk H
       clear H; go_upto_region 8 with (first | ((with_reducible refine gate_callee (f := 50) rfl ?_); refine goesL_ (some 29) rfl rfl Tryz.func50 (by kernel_rfl) rfl #[.int .i64 a1] rfl (by (try simp only [List.map_toArray, List.map_cons, List.map_nil]); first | done | rfl | (simp only [List.length_drop, List.length_take]; rfl)) ?_; (with_reducible refine (mezzanineref10_Low.calls a1 t414 _ A11.out).mono ?_); rintro e w' ⟨rfl, ⟨nd, rfl⟩⟩; refine ⟨_, rfl, ?_⟩))
       (try simp only [Act.put, List.setIfInBounds_toArray, List.set_cons_zero, List.set_cons_succ])
       go_cut [38] (fun v38 wc => ∃ (kq : Nat) (x38_11 : Bool), v38 = .bool x38_11 ∧ Aside0 (mezzanineref10_Li.j2 kq a0 ([] : List (S23)) t414 (wrap64 (a1 - t414)) x38_11 = some r) ∧ Aside0 (kq ≤ kj5) ∧ Aside0 (Kd.R k23 23 wc w.heap.size (fun _ => True) (.slice none 0 0) ([] : List (S23))) ∧ Aside0 (Below w.heap.size w wc))
       case first =>
        have H := HC12.out; clear HC12; by_cases c13 : a1 ≥ (-2147483648)
        ·rw [if_pos c13] at H
         have c13b0 : decide ((-2147483648) ≤ a1) = true := decide_eq_true c13
         clear c13; (first | rw [c13b0] | (simp only [i64_w, i32_w]; rw [c13b0]) | skip)
         have H' := Aside0.mk H
         clear H; go_wp2
         go_meet
         case rel => exact ⟨_, (decide (a1 < 2147483648)), (by first | rfl | (simp; done) | (simp [*]; done)), H', ⟨by have := HJ2.out; have := HJ5.out; first | omega | exact Nat.le_refl _⟩, ⟨by (with_reducible repeat (first | apply Kd.R_alloc | apply Kd.R_drewN | apply Kd.R_drew)); exact HO_5.out⟩, ⟨by repeat (first | (with_reducible first | exact HB.out | apply below_alloc | apply pw_below_drewN | apply below_drew1) | exact HB.out)⟩⟩
        ·rw [if_neg c13] at H
         have c13b0 : decide ((-2147483648) ≤ a1) = false := decide_eq_false c13
         clear c13; (first | rw [c13b0] | (simp only [i64_w, i32_w]; rw [c13b0]) | skip)
         have H' := Aside0.mk H
         clear H; go_wp2
         go_meet
         case rel => exact ⟨_, (false), (by first | rfl | (simp; done) | (simp [*]; done)), H', ⟨by have := HJ2.out; have := HJ5.out; first | omega | exact Nat.le_refl _⟩, ⟨by (with_reducible repeat (first | apply Kd.R_alloc | apply Kd.R_drewN | apply Kd.R_drew)); exact HO_5.out⟩, ⟨by repeat (first | (with_reducible first | exact HB.out | apply below_alloc | apply pw_below_drewN | apply below_drew1) | exact HB.out)⟩⟩
       case rest =>
        clear HC12; (try clear c1); (try clear p2); (try clear c4); (try clear c4b0); (try clear c5); (try clear p6); (try clear c7); (try clear c7b0); (try clear c8); (try clear c9); (try clear c13); (try clear c13b0); (try clear p2); obtain ⟨kq, x38_11, rfl, HA, HJ11, HO_5, HB⟩ := hcut
        cases kq with
        | zero => exact absurd HA.out (by simp [mezzanineref10_Li.j2])
        | succ kj11 =>
         have H := HA.out; clear HA; simp only [mezzanineref10_Li.j2] at H
         by_cases c14 : x38_11 = true
         ·subst c14
          have H1 : (if (wrap64 (a1 - t414)) = 2147483648 then (if ([] : List (S23)).length < 2513169434916 then ((some (([] : List (S23)) ++ [(⟨1, a0, 0, 0, (-2147483648), 0, false, false⟩ : S23)] : List (S23))).bind fun y415 => (if t414 = 0 then (some y415) else (if y415.length < 2513169434916 then (some (y415 ++ [(⟨31, a0, a0, 0, t414, 0, false, false⟩ : S23)])) else (none)))) else (none)) else (if ([] : List (S23)).length < 2513169434916 then ((some (([] : List (S23)) ++ [(⟨1, a0, 0, 0, (wrap64 (a1 - t414)), 0, false, false⟩ : S23)] : List (S23))).bind fun y421 => (if t414 = 0 then (some y421) else (if y421.length < 2513169434916 then (some (y421 ++ [(⟨31, a0, a0, 0, t414, 0, false, false⟩ : S23)])) else (none)))) else (none))) = some r := by rw [if_pos rfl] at H; exact H
          clear H; have H := H1; clear H1; by_cases c15 : (wrap64 (a1 - t414)) = 2147483648
          ·rw [if_pos c15] at H
           have c15b0 : ((wrap64 (a1 - t414)) == 2147483648) = true := beq_iff_eq.mpr c15
           have c15b1 : ((wrap64 (a1 - t414)) != 2147483648) = false := bne_eq_false_iff_eq.mpr c15
           clear c15; by_cases c16 : ([] : List (S23)).length < 2513169434916
           ·rw [if_pos c16] at H
            have LMc16 := Aside0.mk c16
            clear c16; obtain ⟨y415, hy415⟩ : ∃ y_ : List (S23), y_ = (([] : List (S23)) ++ [(⟨1, a0, 0, 0, (-2147483648), 0, false, false⟩ : S23)]) := ⟨_, rfl⟩
            replace H : (if t414 = 0 then (some y415) else (if y415.length < 2513169434916 then (some (y415 ++ [(⟨31, a0, a0, 0, t414, 0, false, false⟩ : S23)])) else (none))) = some r := by first | (rw [hy415]; with_reducible exact H) | (have H2_ := (Option.bind_some _ _).symm.trans H; rw [hy415]; with_reducible exact H2_) | (have H2_ := (Option.bind_some _ _).symm.trans H; with_reducible exact H2_) | with_reducible exact H | (rw [hy415]; exact H) | exact H
            have Ny415 := Aside0.mk hy415
            clear hy415; by_cases c17 : t414 = 0
            ·rw [if_pos c17] at H
             have c17b0 : (t414 == 0) = true := beq_iff_eq.mpr c17
             have c17b1 : (t414 != 0) = false := bne_eq_false_iff_eq.mpr c17
             clear c17; obtain rfl := Option.some.inj H
             go_wp2_with (first | ((with_reducible refine gate_builtin (b := .append) (xs := #[.tmp 41, .tmp 45]) rfl ?_); at_builtin; refine Kd.R_append k23 (w0 := w) w.heap.size rfl (.tmp 41) (.tmp 45) 30 23 (.agg #[(.int .i64 0), (.int .i64 0), (.int .i64 0), (.int .i64 0), (.int .i64 0), (.int .i64 0), (.bool false), (.bool false)]) 56 rfl Tryz.underlying30 info23 rfl (by decide) (by omega) (.slice none 0 0) ([] : List (S23)) (⟨1, a0, 0, 0, (-2147483648), 0, false, false⟩ : S23) [.int .i64 1, .int .i64 a0, .int .i64 0, .int .i64 0, .int .i64 (-2147483648), .int .i64 0, .bool false, .bool false] (fun _ => True) (fun _ => False) rfl rfl ?aP (fun _ hk => hk.elim) ?aF ?aO ?aB ?aS ?aL ?_; (case aP => exact k23_mkM _ _ _ (⟨1, a0, 0, 0, (-2147483648), 0, false, false⟩ : S23)); (case aB => exact (by repeat (first | (with_reducible first | exact HB.out | apply below_alloc | apply pw_below_drewN | apply below_drew1) | exact HB.out))); (case aF => exact (fun _ _ => trivial)); (case aO => exact (by (with_reducible repeat (first | apply Kd.R_alloc | apply Kd.R_drewN | apply Kd.R_drew)); exact HO_5.out)); (case aS => exact (below_size (by repeat (first | (with_reducible first | exact HB.out | apply below_alloc | apply pw_below_drewN | apply below_drew1) | exact HB.out)))); (case aL => have := LMc16.out; omega); intro v416 w18 ho hb hg hat; rw [← Ny415.out] at ho; have n0_ := Aside0.mk (hb); have n1_ := Aside0.mk (ho); clear HB; clear HO_5; have HB := n0_; have HO417 := n1_; clear n0_ n1_; clear ho hb hg hat))
             go_ret
             exact ⟨_, by first | rfl | (simp [errW_none, errW_some] <;> rfl) | (simp [*, errW_none, errW_some] <;> rfl), by (with_reducible repeat (first | apply Kd.R_alloc | apply Kd.R_drewN | apply Kd.R_drew)); exact HO417.out, by repeat (first | (with_reducible first | exact HB.out | apply below_alloc | apply pw_below_drewN | apply below_drew1) | exact HB.out)⟩
            ·rw [if_neg c17] at H
             have c17b0 : (t414 == 0) = false := beq_eq_false_iff_ne.mpr c17
             have c17b1 : (t414 != 0) = true := bne_iff_ne.mpr c17
             by_cases c19 : y415.length < 2513169434916
             ·rw [if_pos c19] at H
              have LMc19 := Aside0.mk c19
              clear c19; obtain ⟨y418, hy418⟩ : ∃ y_ : List (S23), y_ = (y415 ++ [(⟨31, a0, a0, 0, t414, 0, false, false⟩ : S23)]) := ⟨_, rfl⟩
              replace H : (some y418) = some r := by first | (rw [hy418]; with_reducible exact H) | (have H2_ := (Option.bind_some _ _).symm.trans H; rw [hy418]; with_reducible exact H2_) | (have H2_ := (Option.bind_some _ _).symm.trans H; with_reducible exact H2_) | with_reducible exact H | (rw [hy418]; exact H) | exact H
              have Ny418 := Aside0.mk hy418
              clear hy418; obtain rfl := Option.some.inj H
              go_wp2_with (first | ((with_reducible refine gate_builtin (b := .append) (xs := #[.tmp 41, .tmp 45]) rfl ?_); at_builtin; refine Kd.R_append k23 (w0 := w) w.heap.size rfl (.tmp 41) (.tmp 45) 30 23 (.agg #[(.int .i64 0), (.int .i64 0), (.int .i64 0), (.int .i64 0), (.int .i64 0), (.int .i64 0), (.bool false), (.bool false)]) 56 rfl Tryz.underlying30 info23 rfl (by decide) (by omega) (.slice none 0 0) ([] : List (S23)) (⟨1, a0, 0, 0, (-2147483648), 0, false, false⟩ : S23) [.int .i64 1, .int .i64 a0, .int .i64 0, .int .i64 0, .int .i64 (-2147483648), .int .i64 0, .bool false, .bool false] (fun _ => True) (fun _ => False) rfl rfl ?aP (fun _ hk => hk.elim) ?aF ?aO ?aB ?aS ?aL ?_; (case aP => exact k23_mkM _ _ _ (⟨1, a0, 0, 0, (-2147483648), 0, false, false⟩ : S23)); (case aB => exact (by repeat (first | (with_reducible first | exact HB.out | apply below_alloc | apply pw_below_drewN | apply below_drew1) | exact HB.out))); (case aF => exact (fun _ _ => trivial)); (case aO => exact (by (with_reducible repeat (first | apply Kd.R_alloc | apply Kd.R_drewN | apply Kd.R_drew)); exact HO_5.out)); (case aS => exact (below_size (by repeat (first | (with_reducible first | exact HB.out | apply below_alloc | apply pw_below_drewN | apply below_drew1) | exact HB.out)))); (case aL => have := LMc16.out; omega); intro v416 w20 ho hb hg hat; rw [← Ny415.out] at ho; have n0_ := Aside0.mk (hb); have n1_ := Aside0.mk (ho); clear HB; clear HO_5; have HB := n0_; have HO417 := n1_; clear n0_ n1_; clear ho hb hg hat) | ((with_reducible refine gate_builtin (b := .append) (xs := #[.tmp 49, .tmp 54]) rfl ?_); at_builtin; refine Kd.R_append k23 (w0 := w) w.heap.size rfl (.tmp 49) (.tmp 54) 30 23 (.agg #[(.int .i64 0), (.int .i64 0), (.int .i64 0), (.int .i64 0), (.int .i64 0), (.int .i64 0), (.bool false), (.bool false)]) 56 rfl Tryz.underlying30 info23 rfl (by decide) (by omega) v416 y415 (⟨31, a0, a0, 0, t414, 0, false, false⟩ : S23) [.int .i64 31, .int .i64 a0, .int .i64 a0, .int .i64 0, .int .i64 t414, .int .i64 0, .bool false, .bool false] (fun _ => True) (fun _ => False) rfl rfl ?aP (fun _ hk => hk.elim) ?aF ?aO ?aB ?aS ?aL ?_; (case aP => exact k23_mkM _ _ _ (⟨31, a0, a0, 0, t414, 0, false, false⟩ : S23)); (case aB => exact (by repeat (first | (with_reducible first | exact HB.out | apply below_alloc | apply pw_below_drewN | apply below_drew1) | exact HB.out))); (case aF => exact (fun _ _ => trivial)); (case aO => exact (by (with_reducible repeat (first | apply Kd.R_alloc | apply Kd.R_drewN | apply Kd.R_drew)); exact HO417.out)); (case aS => exact (below_size (by repeat (first | (with_reducible first | exact HB.out | apply below_alloc | apply pw_below_drewN | apply below_drew1) | exact HB.out)))); (case aL => have := LMc19.out; omega); intro v419 w21 ho hb hg hat; rw [← Ny418.out] at ho; have n0_ := Aside0.mk (hb); have n1_ := Aside0.mk (ho); clear HB; clear HO417; have HB := n0_; have HO420 := n1_; clear n0_ n1_; clear ho hb hg hat))
              go_ret
              exact ⟨_, by first | rfl | (simp [errW_none, errW_some] <;> rfl) | (simp [*, errW_none, errW_some] <;> rfl), by (with_reducible repeat (first | apply Kd.R_alloc | apply Kd.R_drewN | apply Kd.R_drew)); exact HO420.out, by repeat (first | (with_reducible first | exact HB.out | apply below_alloc | apply pw_below_drewN | apply below_drew1) | exact HB.out)⟩
             ·rw [if_neg c19] at H
              exact absurd H (by simp)
           ·rw [if_neg c16] at H
            exact absurd H (by simp)
          ·rw [if_neg c15] at H
           have c15b0 : ((wrap64 (a1 - t414)) == 2147483648) = false := beq_eq_false_iff_ne.mpr c15
           have c15b1 : ((wrap64 (a1 - t414)) != 2147483648) = true := bne_iff_ne.mpr c15
           by_cases c22 : ([] : List (S23)).length < 2513169434916
           ·rw [if_pos c22] at H
            have LMc22 := Aside0.mk c22
            clear c22; obtain ⟨y421, hy421⟩ : ∃ y_ : List (S23), y_ = (([] : List (S23)) ++ [(⟨1, a0, 0, 0, (wrap64 (a1 - t414)), 0, false, false⟩ : S23)]) := ⟨_, rfl⟩
            replace H : (if t414 = 0 then (some y421) else (if y421.length < 2513169434916 then (some (y421 ++ [(⟨31, a0, a0, 0, t414, 0, false, false⟩ : S23)])) else (none))) = some r := by first | (rw [hy421]; with_reducible exact H) | (have H2_ := (Option.bind_some _ _).symm.trans H; rw [hy421]; with_reducible exact H2_) | (have H2_ := (Option.bind_some _ _).symm.trans H; with_reducible exact H2_) | with_reducible exact H | (rw [hy421]; exact H) | exact H
            have Ny421 := Aside0.mk hy421
            clear hy421; by_cases c23 : t414 = 0
            ·rw [if_pos c23] at H
             have c23b0 : (t414 == 0) = true := beq_iff_eq.mpr c23
             have c23b1 : (t414 != 0) = false := bne_eq_false_iff_eq.mpr c23
             clear c23; obtain rfl := Option.some.inj H
             go_wp2_with (first | ((with_reducible refine gate_builtin (b := .append) (xs := #[.tmp 41, .tmp 45]) rfl ?_); at_builtin; refine Kd.R_append k23 (w0 := w) w.heap.size rfl (.tmp 41) (.tmp 45) 30 23 (.agg #[(.int .i64 0), (.int .i64 0), (.int .i64 0), (.int .i64 0), (.int .i64 0), (.int .i64 0), (.bool false), (.bool false)]) 56 rfl Tryz.underlying30 info23 rfl (by decide) (by omega) (.slice none 0 0) ([] : List (S23)) (⟨1, a0, 0, 0, (wrap64 (a1 - t414)), 0, false, false⟩ : S23) [.int .i64 1, .int .i64 a0, .int .i64 0, .int .i64 0, .int .i64 (wrap64 (a1 - t414)), .int .i64 0, .bool false, .bool false] (fun _ => True) (fun _ => False) rfl rfl ?aP (fun _ hk => hk.elim) ?aF ?aO ?aB ?aS ?aL ?_; (case aP => exact k23_mkM _ _ _ (⟨1, a0, 0, 0, (wrap64 (a1 - t414)), 0, false, false⟩ : S23)); (case aB => exact (by repeat (first | (with_reducible first | exact HB.out | apply below_alloc | apply pw_below_drewN | apply below_drew1) | exact HB.out))); (case aF => exact (fun _ _ => trivial)); (case aO => exact (by (with_reducible repeat (first | apply Kd.R_alloc | apply Kd.R_drewN | apply Kd.R_drew)); exact HO_5.out)); (case aS => exact (below_size (by repeat (first | (with_reducible first | exact HB.out | apply below_alloc | apply pw_below_drewN | apply below_drew1) | exact HB.out)))); (case aL => have := LMc22.out; omega); intro v422 w24 ho hb hg hat; rw [← Ny421.out] at ho; have n0_ := Aside0.mk (hb); have n1_ := Aside0.mk (ho); clear HB; clear HO_5; have HB := n0_; have HO423 := n1_; clear n0_ n1_; clear ho hb hg hat))
             go_ret
             exact ⟨_, by first | rfl | (simp [errW_none, errW_some] <;> rfl) | (simp [*, errW_none, errW_some] <;> rfl), by (with_reducible repeat (first | apply Kd.R_alloc | apply Kd.R_drewN | apply Kd.R_drew)); exact HO423.out, by repeat (first | (with_reducible first | exact HB.out | apply below_alloc | apply pw_below_drewN | apply below_drew1) | exact HB.out)⟩
            ·rw [if_neg c23] at H
             have c23b0 : (t414 == 0) = false := beq_eq_false_iff_ne.mpr c23
             have c23b1 : (t414 != 0) = true := bne_iff_ne.mpr c23
             by_cases c25 : y421.length < 2513169434916
             ·rw [if_pos c25] at H
              have LMc25 := Aside0.mk c25
              clear c25; obtain ⟨y424, hy424⟩ : ∃ y_ : List (S23), y_ = (y421 ++ [(⟨31, a0, a0, 0, t414, 0, false, false⟩ : S23)]) := ⟨_, rfl⟩
              replace H : (some y424) = some r := by first | (rw [hy424]; with_reducible exact H) | (have H2_ := (Option.bind_some _ _).symm.trans H; rw [hy424]; with_reducible exact H2_) | (have H2_ := (Option.bind_some _ _).symm.trans H; with_reducible exact H2_) | with_reducible exact H | (rw [hy424]; exact H) | exact H
              have Ny424 := Aside0.mk hy424
              clear hy424; obtain rfl := Option.some.inj H
              go_wp2_with (first | ((with_reducible refine gate_builtin (b := .append) (xs := #[.tmp 41, .tmp 45]) rfl ?_); at_builtin; refine Kd.R_append k23 (w0 := w) w.heap.size rfl (.tmp 41) (.tmp 45) 30 23 (.agg #[(.int .i64 0), (.int .i64 0), (.int .i64 0), (.int .i64 0), (.int .i64 0), (.int .i64 0), (.bool false), (.bool false)]) 56 rfl Tryz.underlying30 info23 rfl (by decide) (by omega) (.slice none 0 0) ([] : List (S23)) (⟨1, a0, 0, 0, (wrap64 (a1 - t414)), 0, false, false⟩ : S23) [.int .i64 1, .int .i64 a0, .int .i64 0, .int .i64 0, .int .i64 (wrap64 (a1 - t414)), .int .i64 0, .bool false, .bool false] (fun _ => True) (fun _ => False) rfl rfl ?aP (fun _ hk => hk.elim) ?aF ?aO ?aB ?aS ?aL ?_; (case aP => exact k23_mkM _ _ _ (⟨1, a0, 0, 0, (wrap64 (a1 - t414)), 0, false, false⟩ : S23)); (case aB => exact (by repeat (first | (with_reducible first | exact HB.out | apply below_alloc | apply pw_below_drewN | apply below_drew1) | exact HB.out))); (case aF => exact (fun _ _ => trivial)); (case aO => exact (by (with_reducible repeat (first | apply Kd.R_alloc | apply Kd.R_drewN | apply Kd.R_drew)); exact HO_5.out)); (case aS => exact (below_size (by repeat (first | (with_reducible first | exact HB.out | apply below_alloc | apply pw_below_drewN | apply below_drew1) | exact HB.out)))); (case aL => have := LMc22.out; omega); intro v422 w26 ho hb hg hat; rw [← Ny421.out] at ho; have n0_ := Aside0.mk (hb); have n1_ := Aside0.mk (ho); clear HB; clear HO_5; have HB := n0_; have HO423 := n1_; clear n0_ n1_; clear ho hb hg hat) | ((with_reducible refine gate_builtin (b := .append) (xs := #[.tmp 49, .tmp 54]) rfl ?_); at_builtin; refine Kd.R_append k23 (w0 := w) w.heap.size rfl (.tmp 49) (.tmp 54) 30 23 (.agg #[(.int .i64 0), (.int .i64 0), (.int .i64 0), (.int .i64 0), (.int .i64 0), (.int .i64 0), (.bool false), (.bool false)]) 56 rfl Tryz.underlying30 info23 rfl (by decide) (by omega) v422 y421 (⟨31, a0, a0, 0, t414, 0, false, false⟩ : S23) [.int .i64 31, .int .i64 a0, .int .i64 a0, .int .i64 0, .int .i64 t414, .int .i64 0, .bool false, .bool false] (fun _ => True) (fun _ => False) rfl rfl ?aP (fun _ hk => hk.elim) ?aF ?aO ?aB ?aS ?aL ?_; (case aP => exact k23_mkM _ _ _ (⟨31, a0, a0, 0, t414, 0, false, false⟩ : S23)); (case aB => exact (by repeat (first | (with_reducible first | exact HB.out | apply below_alloc | apply pw_below_drewN | apply below_drew1) | exact HB.out))); (case aF => exact (fun _ _ => trivial)); (case aO => exact (by (with_reducible repeat (first | apply Kd.R_alloc | apply Kd.R_drewN | apply Kd.R_drew)); exact HO423.out)); (case aS => exact (below_size (by repeat (first | (with_reducible first | exact HB.out | apply below_alloc | apply pw_below_drewN | apply below_drew1) | exact HB.out)))); (case aL => have := LMc25.out; omega); intro v425 w27 ho hb hg hat; rw [← Ny424.out] at ho; have n0_ := Aside0.mk (hb); have n1_ := Aside0.mk (ho); clear HB; clear HO423; have HB := n0_; have HO426 := n1_; clear n0_ n1_; clear ho hb hg hat))
              go_ret
              exact ⟨_, by first | rfl | (simp [errW_none, errW_some] <;> rfl) | (simp [*, errW_none, errW_some] <;> rfl), by (with_reducible repeat (first | apply Kd.R_alloc | apply Kd.R_drewN | apply Kd.R_drew)); exact HO426.out, by repeat (first | (with_reducible first | exact HB.out | apply below_alloc | apply pw_below_drewN | apply below_drew1) | exact HB.out)⟩
             ·rw [if_neg c25] at H
              exact absurd H (by simp)
           ·rw [if_neg c22] at H
            exact absurd H (by simp)
         ·replace c14 := Bool.eq_false_iff.mpr c14
          subst c14; have H1 : (mezzanineref10_Li.l0 kj11 a0 ([] : List (S23)) t414 (wrap64 (a1 - t414)) 0) = some r := by rw [if_neg (show ¬ (false = true) by decide)] at H; exact H
          clear H; have H := H1; clear H1; have H' := Aside0.mk H
          clear H; go_wp2
          go_loopg [7, 8] kj11 (fun kq v7 v8 w' => ∃ (x7_4 : Int) (x8_4 : Int), v7 = .int .i64 x7_4 ∧ v8 = .int .i64 x8_4 ∧ Aside0 (mezzanineref10_Li.l0 kq a0 ([] : List (S23)) t414 x7_4 x8_4 = some r) ∧ Aside0 (kq ≤ kj11) ∧ Aside0 (Kd.R k23 23 w' w.heap.size (fun _ => True) (.slice none 0 0) ([] : List (S23))) ∧ Aside0 (Below w.heap.size w w'))
          case atStart => exact ⟨((wrap64 (a1 - t414))), (0), (by first | rfl | (simp; done) | (simp [*]; done)), (by first | rfl | (simp; done) | (simp [*]; done)), H', ⟨Nat.le_refl _⟩, ⟨by (with_reducible repeat (first | apply Kd.R_alloc | apply Kd.R_drewN | apply Kd.R_drew)); exact HO_5.out⟩, ⟨by repeat (first | (with_reducible first | exact HB.out | apply below_alloc | apply pw_below_drewN | apply below_drew1) | exact HB.out)⟩⟩
          case round =>
           clear H'; (try clear c1); (try clear c2); (try clear p2); (try clear c4); (try clear c4b0); (try clear c5); (try clear p6); (try clear c7); (try clear c7b0); (try clear c8); (try clear c9); (try clear c13); (try clear c13b0); (try clear c14); (try clear c15); (try clear c15b0); (try clear c15b1); (try clear c16); (try clear c17); (try clear c17b0); (try clear c17b1); (try clear c19); (try clear c22); (try clear c23); (try clear c23b0); (try clear c23b1); (try clear c25); (try clear p2); (try clear p6); obtain ⟨x7_4, x8_4, rfl, rfl, HA, HK4, HO_5, HB⟩ := hrel
           cases gk with
           | zero => exact absurd HA.out (by simp [mezzanineref10_Li.l0])
           | succ k4 =>
            have H := HA.out; clear HA; simp only [mezzanineref10_Li.l0] at H
            by_cases c28 : (Go.bits .and .i64 x7_4 1) = 0
            ·rw [if_pos c28] at H
             have c28b0 : ((Go.bits .and .i64 x7_4 1) == 0) = true := beq_iff_eq.mpr c28
             have c28b1 : ((Go.bits .and .i64 x7_4 1) != 0) = false := bne_eq_false_iff_eq.mpr c28
             clear c28; have H' := Aside0.mk H
             clear H; go_wp2
             go_roundg k4
             case measure => have := HJ2.out; have := HJ5.out; have := HJ11.out; have := HK4.out; omega
             case rel => exact ⟨(x7_4 / 2), (wrap64 (x8_4 + 1)), (by first | rfl | (simp; done) | (simp [*]; done)), (by first | rfl | (simp; done) | (simp [*]; done)), H', ⟨by have := HJ2.out; have := HJ5.out; have := HJ11.out; have := HK4.out; omega⟩, ⟨by (with_reducible repeat (first | apply Kd.R_alloc | apply Kd.R_drewN | apply Kd.R_drew)); exact HO_5.out⟩, ⟨by repeat (first | (with_reducible first | exact HB.out | apply below_alloc | apply pw_below_drewN | apply below_drew1) | exact HB.out)⟩⟩
            ·rw [if_neg c28] at H
             have c28b0 : ((Go.bits .and .i64 x7_4 1) == 0) = false := beq_eq_false_iff_ne.mpr c28
             have c28b1 : ((Go.bits .and .i64 x7_4 1) != 0) = true := bne_iff_ne.mpr c28
             replace H := Option.bind_eq_some_iff.mp H
             obtain ⟨t427, A290, H⟩ := H
             replace H : (if ([] : List (S23)).length + t427.length < 2513169434916 then ((some (([] : List (S23)) ++ t427 : List (S23))).bind fun y430 => (if y430.length < 2513169434916 then ((some (y430 ++ [(⟨28, a0, a0, 0, x8_4, 0, false, false⟩ : S23)] : List (S23))).bind fun y433 => (if t414 = 0 then (some y433) else (if y433.length < 2513169434916 then (some (y433 ++ [(⟨22, a0, a0, 0, t414, 0, false, false⟩ : S23)])) else (none)))) else (none))) else (none)) = some r := H
             have A29 := Aside0.mk A290
             clear A290; by_cases c30 : ([] : List (S23)).length + t427.length < 2513169434916
             ·rw [if_pos c30] at H
              have LMc30 := Aside0.mk c30
              clear c30; obtain ⟨y430, hy430⟩ : ∃ y_ : List (S23), y_ = (([] : List (S23)) ++ t427) := ⟨_, rfl⟩
              replace H : (if y430.length < 2513169434916 then ((some (y430 ++ [(⟨28, a0, a0, 0, x8_4, 0, false, false⟩ : S23)] : List (S23))).bind fun y433 => (if t414 = 0 then (some y433) else (if y433.length < 2513169434916 then (some (y433 ++ [(⟨22, a0, a0, 0, t414, 0, false, false⟩ : S23)])) else (none)))) else (none)) = some r := by first | (rw [hy430]; with_reducible exact H) | (have H2_ := (Option.bind_some _ _).symm.trans H; rw [hy430]; with_reducible exact H2_) | (have H2_ := (Option.bind_some _ _).symm.trans H; with_reducible exact H2_) | with_reducible exact H | (rw [hy430]; exact H) | exact H
              have Ny430 := Aside0.mk hy430
              clear hy430; by_cases c31 : y430.length < 2513169434916
              ·rw [if_pos c31] at H
               have LMc31 := Aside0.mk c31
               clear c31; obtain ⟨y433, hy433⟩ : ∃ y_ : List (S23), y_ = (y430 ++ [(⟨28, a0, a0, 0, x8_4, 0, false, false⟩ : S23)]) := ⟨_, rfl⟩
               replace H : (if t414 = 0 then (some y433) else (if y433.length < 2513169434916 then (some (y433 ++ [(⟨22, a0, a0, 0, t414, 0, false, false⟩ : S23)])) else (none))) = some r := by first | (rw [hy433]; with_reducible exact H) | (have H2_ := (Option.bind_some _ _).symm.trans H; rw [hy433]; with_reducible exact H2_) | (have H2_ := (Option.bind_some _ _).symm.trans H; with_reducible exact H2_) | with_reducible exact H | (rw [hy433]; exact H) | exact H
               have Ny433 := Aside0.mk hy433
               clear hy433; by_cases c32 : t414 = 0
               ·rw [if_pos c32] at H
                have c32b0 : (t414 == 0) = true := beq_iff_eq.mpr c32
                have c32b1 : (t414 != 0) = false := bne_eq_false_iff_eq.mpr c32
                clear c32; obtain rfl := Option.some.inj H
                go_wp2_with (first | ((with_reducible refine gate_callee (f := 19) rfl ?_); refine goesL_ (some 67) rfl rfl Tryz.func19 (by kernel_rfl) rfl #[.int .i64 a0, .int .i64 x7_4] rfl (by (try simp only [List.map_toArray, List.map_cons, List.map_nil]); first | done | rfl | (simp only [List.length_drop, List.length_take]; rfl)) ?_; (with_reducible refine (ih k4 (by have := HJ2.out; have := HJ5.out; have := HJ11.out; have := HK4.out; omega) a0 x7_4 t427 _ A29.out).mono ?_); rintro e w33 ⟨v428, rfl, ho0, hb⟩; refine ⟨_, rfl, ?_⟩; have n0_ := Aside0.mk (Kd.R_elder' (by (with_reducible repeat (first | apply Kd.R_alloc | apply Kd.R_drewN | apply Kd.R_drew)); exact HO_5.out) (Kd.R_base ho0) hb); have n1_ := Aside0.mk (Kd.R_lower (Kd.R_new' ho0 (Kd.R_lt (by (with_reducible repeat (first | apply Kd.R_alloc | apply Kd.R_drewN | apply Kd.R_drew)); exact HO_5.out))) (below_size (by repeat (first | (with_reducible first | exact HB.out | apply below_alloc | apply pw_below_drewN | apply below_drew1) | exact HB.out)))); have n2_ := Aside0.mk (below_step (by repeat (first | (with_reducible first | exact HB.out | apply below_alloc | apply pw_below_drewN | apply below_drew1) | exact HB.out)) hb); clear HO_5; clear HB; have HO_5 := n0_; have HO429 := n1_; have HB := n2_; clear n0_ n1_ n2_; (try clear hb); (try clear hb2); (try clear hk); (try clear hi); (try clear ho0); obtain ⟨Ao35, co35, eo35⟩ := Kd.R_slice HO429.out; subst eo35) | ((with_reducible refine gate_builtin (b := .append) (xs := #[.tmp 64, .tmp 67]) rfl ?_); at_builtin; refine Kd.R_append_rows k23 (w0 := w) w.heap.size rfl (.tmp 64) (.tmp 67) 30 23 (.agg #[(.int .i64 0), (.int .i64 0), (.int .i64 0), (.int .i64 0), (.int .i64 0), (.int .i64 0), (.bool false), (.bool false)]) 56 rfl Tryz.underlying30 info23 rfl (by decide) (by omega) (.slice none 0 0) ([] : List (S23)) t427 _ _ _ (fun k_ => some k_ ≠ (.slice Ao35 t427.length co35 : Value).ownBlock) (fun _ => False) rfl rfl ?aO ?aR (fun _ _ h => h) (fun _ h => h.elim) ?aF ?aB ?aS ?aL ?_; (case aR => repeat (first | exact (Kd.R_reads' HO429.out).2.2 | (with_reducible refine Kd.C_alloc ?_ _) | (with_reducible refine Kd.C_drewN ?_ _) | (with_reducible refine Kd.C_drew ?_))); (case aB => exact (by repeat (first | (with_reducible first | exact HB.out | apply below_alloc | apply pw_below_drewN | apply below_drew1) | exact HB.out))); (case aF => exact (fun k_ hk => Kd.fresh' (Kd.R_lt (by (with_reducible repeat (first | apply Kd.R_alloc | apply Kd.R_drewN | apply Kd.R_drew)); exact HO429.out)) k_ hk)); (case aO => exact (by (with_reducible repeat (first | apply Kd.R_alloc | apply Kd.R_drewN | apply Kd.R_drew)); exact Kd.R_mono HO_5.out (fun _ hk => hk.2))); (case aS => exact (below_size (by repeat (first | (with_reducible first | exact HB.out | apply below_alloc | apply pw_below_drewN | apply below_drew1) | exact HB.out)))); (case aL => have := LMc30.out; omega); intro v431 w34 ho hb hg hat; rw [← Ny430.out] at ho; have n0_ := Aside0.mk (Kd.R_after (ok := (fun _ => True)) (by (with_reducible repeat (first | apply Kd.R_alloc | apply Kd.R_drewN | apply Kd.R_drew)); exact HO429.out) hg hat); have n1_ := Aside0.mk (hb); have n2_ := Aside0.mk (ho); clear HO429; clear HB; clear HO_5; have HO429 := n0_; have HB := n1_; have HO432 := n2_; clear n0_ n1_ n2_; clear ho hb hg hat) | ((with_reducible refine gate_builtin (b := .append) (xs := #[.tmp 69, .tmp 74]) rfl ?_); at_builtin; refine Kd.R_append k23 (w0 := w) w.heap.size rfl (.tmp 69) (.tmp 74) 30 23 (.agg #[(.int .i64 0), (.int .i64 0), (.int .i64 0), (.int .i64 0), (.int .i64 0), (.int .i64 0), (.bool false), (.bool false)]) 56 rfl Tryz.underlying30 info23 rfl (by decide) (by omega) v431 y430 (⟨28, a0, a0, 0, x8_4, 0, false, false⟩ : S23) [.int .i64 28, .int .i64 a0, .int .i64 a0, .int .i64 0, .int .i64 x8_4, .int .i64 0, .bool false, .bool false] (fun k_ => some k_ ≠ (.slice Ao35 t427.length co35 : Value).ownBlock) (fun _ => False) rfl rfl ?aP (fun _ hk => hk.elim) ?aF ?aO ?aB ?aS ?aL ?_; (case aP => exact k23_mkM _ _ _ (⟨28, a0, a0, 0, x8_4, 0, false, false⟩ : S23)); (case aB => exact (by repeat (first | (with_reducible first | exact HB.out | apply below_alloc | apply pw_below_drewN | apply below_drew1) | exact HB.out))); (case aF => exact (fun k_ hk => Kd.fresh' (Kd.R_lt (by (with_reducible repeat (first | apply Kd.R_alloc | apply Kd.R_drewN | apply Kd.R_drew)); exact HO429.out)) k_ hk)); (case aO => exact (by (with_reducible repeat (first | apply Kd.R_alloc | apply Kd.R_drewN | apply Kd.R_drew)); exact HO432.out)); (case aS => exact (below_size (by repeat (first | (with_reducible first | exact HB.out | apply below_alloc | apply pw_below_drewN | apply below_drew1) | exact HB.out)))); (case aL => have := LMc31.out; omega); intro v434 w36 ho hb hg hat; rw [← Ny433.out] at ho; have n0_ := Aside0.mk (Kd.R_after (ok := (fun _ => True)) (by (with_reducible repeat (first | apply Kd.R_alloc | apply Kd.R_drewN | apply Kd.R_drew)); exact HO429.out) hg hat); have n1_ := Aside0.mk (hb); have n2_ := Aside0.mk (ho); clear HO429; clear HB; clear HO432; have HO429 := n0_; have HB := n1_; have HO435 := n2_; clear n0_ n1_ n2_; clear ho hb hg hat))
                go_ret
                exact ⟨_, by first | rfl | (simp [errW_none, errW_some] <;> rfl) | (simp [*, errW_none, errW_some] <;> rfl), by (with_reducible repeat (first | apply Kd.R_alloc | apply Kd.R_drewN | apply Kd.R_drew)); exact Kd.R_mono HO435.out (fun _ hk => trivial), by repeat (first | (with_reducible first | exact HB.out | apply below_alloc | apply pw_below_drewN | apply below_drew1) | exact HB.out)⟩
               ·rw [if_neg c32] at H
                have c32b0 : (t414 == 0) = false := beq_eq_false_iff_ne.mpr c32
                have c32b1 : (t414 != 0) = true := bne_iff_ne.mpr c32
                by_cases c37 : y433.length < 2513169434916
                ·rw [if_pos c37] at H
                 have LMc37 := Aside0.mk c37
                 clear c37; obtain ⟨y436, hy436⟩ : ∃ y_ : List (S23), y_ = (y433 ++ [(⟨22, a0, a0, 0, t414, 0, false, false⟩ : S23)]) := ⟨_, rfl⟩
                 replace H : (some y436) = some r := by first | (rw [hy436]; with_reducible exact H) | (have H2_ := (Option.bind_some _ _).symm.trans H; rw [hy436]; with_reducible exact H2_) | (have H2_ := (Option.bind_some _ _).symm.trans H; with_reducible exact H2_) | with_reducible exact H | (rw [hy436]; exact H) | exact H
                 have Ny436 := Aside0.mk hy436
                 clear hy436; obtain rfl := Option.some.inj H
                 go_wp2_with (first | ((with_reducible refine gate_callee (f := 19) rfl ?_); refine goesL_ (some 67) rfl rfl Tryz.func19 (by kernel_rfl) rfl #[.int .i64 a0, .int .i64 x7_4] rfl (by (try simp only [List.map_toArray, List.map_cons, List.map_nil]); first | done | rfl | (simp only [List.length_drop, List.length_take]; rfl)) ?_; (with_reducible refine (ih k4 (by have := HJ2.out; have := HJ5.out; have := HJ11.out; have := HK4.out; omega) a0 x7_4 t427 _ A29.out).mono ?_); rintro e w38 ⟨v428, rfl, ho0, hb⟩; refine ⟨_, rfl, ?_⟩; have n0_ := Aside0.mk (Kd.R_elder' (by (with_reducible repeat (first | apply Kd.R_alloc | apply Kd.R_drewN | apply Kd.R_drew)); exact HO_5.out) (Kd.R_base ho0) hb); have n1_ := Aside0.mk (Kd.R_lower (Kd.R_new' ho0 (Kd.R_lt (by (with_reducible repeat (first | apply Kd.R_alloc | apply Kd.R_drewN | apply Kd.R_drew)); exact HO_5.out))) (below_size (by repeat (first | (with_reducible first | exact HB.out | apply below_alloc | apply pw_below_drewN | apply below_drew1) | exact HB.out)))); have n2_ := Aside0.mk (below_step (by repeat (first | (with_reducible first | exact HB.out | apply below_alloc | apply pw_below_drewN | apply below_drew1) | exact HB.out)) hb); clear HO_5; clear HB; have HO_5 := n0_; have HO429 := n1_; have HB := n2_; clear n0_ n1_ n2_; (try clear hb); (try clear hb2); (try clear hk); (try clear hi); (try clear ho0); obtain ⟨Ao40, co40, eo40⟩ := Kd.R_slice HO429.out; subst eo40) | ((with_reducible refine gate_builtin (b := .append) (xs := #[.tmp 64, .tmp 67]) rfl ?_); at_builtin; refine Kd.R_append_rows k23 (w0 := w) w.heap.size rfl (.tmp 64) (.tmp 67) 30 23 (.agg #[(.int .i64 0), (.int .i64 0), (.int .i64 0), (.int .i64 0), (.int .i64 0), (.int .i64 0), (.bool false), (.bool false)]) 56 rfl Tryz.underlying30 info23 rfl (by decide) (by omega) (.slice none 0 0) ([] : List (S23)) t427 _ _ _ (fun k_ => some k_ ≠ (.slice Ao40 t427.length co40 : Value).ownBlock) (fun _ => False) rfl rfl ?aO ?aR (fun _ _ h => h) (fun _ h => h.elim) ?aF ?aB ?aS ?aL ?_; (case aR => repeat (first | exact (Kd.R_reads' HO429.out).2.2 | (with_reducible refine Kd.C_alloc ?_ _) | (with_reducible refine Kd.C_drewN ?_ _) | (with_reducible refine Kd.C_drew ?_))); (case aB => exact (by repeat (first | (with_reducible first | exact HB.out | apply below_alloc | apply pw_below_drewN | apply below_drew1) | exact HB.out))); (case aF => exact (fun k_ hk => Kd.fresh' (Kd.R_lt (by (with_reducible repeat (first | apply Kd.R_alloc | apply Kd.R_drewN | apply Kd.R_drew)); exact HO429.out)) k_ hk)); (case aO => exact (by (with_reducible repeat (first | apply Kd.R_alloc | apply Kd.R_drewN | apply Kd.R_drew)); exact Kd.R_mono HO_5.out (fun _ hk => hk.2))); (case aS => exact (below_size (by repeat (first | (with_reducible first | exact HB.out | apply below_alloc | apply pw_below_drewN | apply below_drew1) | exact HB.out)))); (case aL => have := LMc30.out; omega); intro v431 w39 ho hb hg hat; rw [← Ny430.out] at ho; have n0_ := Aside0.mk (Kd.R_after (ok := (fun _ => True)) (by (with_reducible repeat (first | apply Kd.R_alloc | apply Kd.R_drewN | apply Kd.R_drew)); exact HO429.out) hg hat); have n1_ := Aside0.mk (hb); have n2_ := Aside0.mk (ho); clear HO429; clear HB; clear HO_5; have HO429 := n0_; have HB := n1_; have HO432 := n2_; clear n0_ n1_ n2_; clear ho hb hg hat) | ((with_reducible refine gate_builtin (b := .append) (xs := #[.tmp 69, .tmp 74]) rfl ?_); at_builtin; refine Kd.R_append k23 (w0 := w) w.heap.size rfl (.tmp 69) (.tmp 74) 30 23 (.agg #[(.int .i64 0), (.int .i64 0), (.int .i64 0), (.int .i64 0), (.int .i64 0), (.int .i64 0), (.bool false), (.bool false)]) 56 rfl Tryz.underlying30 info23 rfl (by decide) (by omega) v431 y430 (⟨28, a0, a0, 0, x8_4, 0, false, false⟩ : S23) [.int .i64 28, .int .i64 a0, .int .i64 a0, .int .i64 0, .int .i64 x8_4, .int .i64 0, .bool false, .bool false] (fun k_ => some k_ ≠ (.slice Ao40 t427.length co40 : Value).ownBlock) (fun _ => False) rfl rfl ?aP (fun _ hk => hk.elim) ?aF ?aO ?aB ?aS ?aL ?_; (case aP => exact k23_mkM _ _ _ (⟨28, a0, a0, 0, x8_4, 0, false, false⟩ : S23)); (case aB => exact (by repeat (first | (with_reducible first | exact HB.out | apply below_alloc | apply pw_below_drewN | apply below_drew1) | exact HB.out))); (case aF => exact (fun k_ hk => Kd.fresh' (Kd.R_lt (by (with_reducible repeat (first | apply Kd.R_alloc | apply Kd.R_drewN | apply Kd.R_drew)); exact HO429.out)) k_ hk)); (case aO => exact (by (with_reducible repeat (first | apply Kd.R_alloc | apply Kd.R_drewN | apply Kd.R_drew)); exact HO432.out)); (case aS => exact (below_size (by repeat (first | (with_reducible first | exact HB.out | apply below_alloc | apply pw_below_drewN | apply below_drew1) | exact HB.out)))); (case aL => have := LMc31.out; omega); intro v434 w41 ho hb hg hat; rw [← Ny433.out] at ho; have n0_ := Aside0.mk (Kd.R_after (ok := (fun _ => True)) (by (with_reducible repeat (first | apply Kd.R_alloc | apply Kd.R_drewN | apply Kd.R_drew)); exact HO429.out) hg hat); have n1_ := Aside0.mk (hb); have n2_ := Aside0.mk (ho); clear HO429; clear HB; clear HO432; have HO429 := n0_; have HB := n1_; have HO435 := n2_; clear n0_ n1_ n2_; clear ho hb hg hat) | ((with_reducible refine gate_builtin (b := .append) (xs := #[.tmp 78, .tmp 83]) rfl ?_); at_builtin; refine Kd.R_append k23 (w0 := w) w.heap.size rfl (.tmp 78) (.tmp 83) 30 23 (.agg #[(.int .i64 0), (.int .i64 0), (.int .i64 0), (.int .i64 0), (.int .i64 0), (.int .i64 0), (.bool false), (.bool false)]) 56 rfl Tryz.underlying30 info23 rfl (by decide) (by omega) v434 y433 (⟨22, a0, a0, 0, t414, 0, false, false⟩ : S23) [.int .i64 22, .int .i64 a0, .int .i64 a0, .int .i64 0, .int .i64 t414, .int .i64 0, .bool false, .bool false] (fun k_ => some k_ ≠ (.slice Ao40 t427.length co40 : Value).ownBlock) (fun _ => False) rfl rfl ?aP (fun _ hk => hk.elim) ?aF ?aO ?aB ?aS ?aL ?_; (case aP => exact k23_mkM _ _ _ (⟨22, a0, a0, 0, t414, 0, false, false⟩ : S23)); (case aB => exact (by repeat (first | (with_reducible first | exact HB.out | apply below_alloc | apply pw_below_drewN | apply below_drew1) | exact HB.out))); (case aF => exact (fun k_ hk => Kd.fresh' (Kd.R_lt (by (with_reducible repeat (first | apply Kd.R_alloc | apply Kd.R_drewN | apply Kd.R_drew)); exact HO429.out)) k_ hk)); (case aO => exact (by (with_reducible repeat (first | apply Kd.R_alloc | apply Kd.R_drewN | apply Kd.R_drew)); exact HO435.out)); (case aS => exact (below_size (by repeat (first | (with_reducible first | exact HB.out | apply below_alloc | apply pw_below_drewN | apply below_drew1) | exact HB.out)))); (case aL => have := LMc37.out; omega); intro v437 w42 ho hb hg hat; rw [← Ny436.out] at ho; have n0_ := Aside0.mk (Kd.R_after (ok := (fun _ => True)) (by (with_reducible repeat (first | apply Kd.R_alloc | apply Kd.R_drewN | apply Kd.R_drew)); exact HO429.out) hg hat); have n1_ := Aside0.mk (hb); have n2_ := Aside0.mk (ho); clear HO429; clear HB; clear HO435; have HO429 := n0_; have HB := n1_; have HO438 := n2_; clear n0_ n1_ n2_; clear ho hb hg hat))
                 go_ret
                 exact ⟨_, by first | rfl | (simp [errW_none, errW_some] <;> rfl) | (simp [*, errW_none, errW_some] <;> rfl), by (with_reducible repeat (first | apply Kd.R_alloc | apply Kd.R_drewN | apply Kd.R_drew)); exact Kd.R_mono HO438.out (fun _ hk => trivial), by repeat (first | (with_reducible first | exact HB.out | apply below_alloc | apply pw_below_drewN | apply below_drew1) | exact HB.out)⟩
                ·rw [if_neg c37] at H
                 exact absurd H (by simp)
              ·rw [if_neg c31] at H
               exact absurd H (by simp)
             ·rw [if_neg c30] at H
              exact absurd H (by simp)
/-! ### asm_lowOf: function 48 -/
def asm_lowOf.f (a0 : Int) : Option (Int) := some ((wrap64 (a0 * 4503599627370496)) / 4503599627370496)
set_option maxHeartbeats 8000000 in
set_option maxRecDepth 100000 in
theorem asm_lowOf.calls (a0 : Int) (r : Int) (w : World) (h : asm_lowOf.f a0 = some r) :
  Calls Tryz.prog 48 #[.int .i64 a0] w fun e w' => e = .returned (.int .i64 r) ∧ Drawn0 w w' := by
 have H : (some ((wrap64 (a0 * 4503599627370496)) / 4503599627370496)) = some r := h
 clear h; obtain rfl := Option.some.inj H
 go_enter Tryz.func48, Tryz.ntmps48
 go_wp2
 go_ret
 exact ⟨by first | rfl | (simp; done) | (simp [*]; done), by repeat (first | exact Drawn0.refl _ | apply Drawn0.step)⟩

-- NOT PRINTED: function 55 (asm_named)
end Go.Proofs.YtknkfimpflodeaaGreatDoor.P
