-- written by a program of this place (wip/lay.sh, wip/print2.py over the kit's print); Lean checks it
import Derived.Test.YtknkfimpflodeaaF0
import Derived.Test.YtknkfimpflodeaaF1
import Derived.Test.YtknkfimpflodeaaF5
import Derived.Test.YtknkfimpflodeaaF6
import Derived.Test.YtknkfimpflodeaaF10
namespace Go.Proofs.Ytknkfimpflodeaa.P
open Go.RowKit Go.Proofs.YtknkfimpflodeaaW.PrintWords Go.Proofs.YtknkfimpflodeaaW.PrintLast Go.Proofs.YtknkfimpflodeaaW.PrintMore
attribute [local go_sem] max2_int min2_int max_two min_two max_three min_three max_four min_four   -- for this text's walks alone
set_option linter.unusedVariables false
set_option linter.unusedSimpArgs false
attribute [local go_sem] run_f0 run_f1 run_f2 run_f3 run_g0 run_g1 run_g2 run_g3

attribute [local go_sem high] eqA24
/-! ### mezzanineref08_Fits: function 39 -/
mutual
def mezzanineref08_Fits.j0 : Nat → Int → List Int → Int → Int → Option (Bool)
 | 0, _, _, _, _ => none
 | k + 1, x1, x5, x6, x7 => if x1 < x6 then (mezzanineref08_Fits.j1 k x1 x5 true) else (mezzanineref08_Fits.j1 k x1 x5 (decide (x1 > x7)))
def mezzanineref08_Fits.j1 : Nat → Int → List Int → Bool → Option (Bool)
 | 0, _, _, _ => none
 | k + 1, x1, x5, x40 => if x40 = true then (some false) else (mezzanineref08_Fits.l0 k x1 x5 0)
def mezzanineref08_Fits.l0 : Nat → Int → List Int → Int → Option (Bool)
 | 0, _, _, _ => none
 | k + 1, x1, x5, x8 => if x8 < (x5.length : Int) then (if 0 ≤ x8 then (if (rd x5 x8) < 0 then (if 0 ≤ (IntKind.u64.wrap (wrap64 ((wrap64 ((x5.length : Int) - 1)) - x8))) then (if (Go.bits .and .i64 (shr .i64 x1 (IntKind.u64.wrap (wrap64 ((wrap64 ((x5.length : Int) - 1)) - x8)))) 1) = 1 then (some false) else (mezzanineref08_Fits.l0 k x1 x5 (wrap64 (x8 + 1)))) else (none)) else (mezzanineref08_Fits.l0 k x1 x5 (wrap64 (x8 + 1)))) else (none)) else (some true)
end
def mezzanineref08_Fits.f (k : Nat) (a0 : Int) (a1 : Int) : Option (Bool) := (mezzanineref08_Places.f k a0).bind fun t364 => (if (t364.length : Int) = 0 then (some false) else (if 0 ≤ (IntKind.u64.wrap ((t364.length : Int))) then ((mezzanineref08_Signed.f a0).bind fun t367 => (if t367 = true then (if 0 ≤ (IntKind.u64.wrap (wrap64 ((t364.length : Int) - 1))) then (mezzanineref08_Fits.j0 k a1 t364 (wrap64 (-(shl .i64 1 (IntKind.u64.wrap (wrap64 ((t364.length : Int) - 1)))))) (wrap64 ((shl .i64 1 (IntKind.u64.wrap (wrap64 ((t364.length : Int) - 1)))) - 1))) else (none)) else (mezzanineref08_Fits.j0 k a1 t364 0 (wrap64 ((shl .i64 1 (IntKind.u64.wrap ((t364.length : Int)))) - 1))))) else (none)))
theorem mezzanineref08_Fits.mono_l : ∀ k, (∀ y0 y1 y2 y3, LeO (mezzanineref08_Fits.j0 k y0 y1 y2 y3) (mezzanineref08_Fits.j0 (k + 1) y0 y1 y2 y3)) ∧ (∀ y0 y1 y2, LeO (mezzanineref08_Fits.j1 k y0 y1 y2) (mezzanineref08_Fits.j1 (k + 1) y0 y1 y2)) ∧ (∀ y0 y1 y2, LeO (mezzanineref08_Fits.l0 k y0 y1 y2) (mezzanineref08_Fits.l0 (k + 1) y0 y1 y2))
 | 0 => ⟨fun _ _ _ _ r h => by simp [mezzanineref08_Fits.j0] at h, fun _ _ _ r h => by simp [mezzanineref08_Fits.j1] at h, fun _ _ _ r h => by simp [mezzanineref08_Fits.l0] at h⟩
 | k + 1 => by
  obtain ⟨ih0, ih1, ih2⟩ := mezzanineref08_Fits.mono_l k
  refine ⟨?_, ?_, ?_⟩
  ·intro y0 y1 y2 y3
   unfold mezzanineref08_Fits.j0
   repeat' first
   | (with_reducible exact ih0 _ _ _ _)
   | (with_reducible exact ih1 _ _ _)
   | (with_reducible exact ih2 _ _ _)
   | (with_reducible exact mezzanineref08_Places.mono _ _)
   | (with_reducible exact LeO.refl _)
   | (with_reducible exact LeO.none _)
   | (with_reducible refine LeO.ite ?_ ?_)
   | (with_reducible refine LeO.bind ?_ (fun _ => ?_))
   | exact ih0 _ _ _ _
   | exact ih1 _ _ _
   | exact ih2 _ _ _
   | exact mezzanineref08_Places.mono _ _
   | exact LeO.none _
   | refine LeO.ite ?_ ?_
   | refine LeO.bind ?_ (fun _ => ?_)
  ·intro y0 y1 y2
   unfold mezzanineref08_Fits.j1
   repeat' first
   | (with_reducible exact ih0 _ _ _ _)
   | (with_reducible exact ih1 _ _ _)
   | (with_reducible exact ih2 _ _ _)
   | (with_reducible exact mezzanineref08_Places.mono _ _)
   | (with_reducible exact LeO.refl _)
   | (with_reducible exact LeO.none _)
   | (with_reducible refine LeO.ite ?_ ?_)
   | (with_reducible refine LeO.bind ?_ (fun _ => ?_))
   | exact ih0 _ _ _ _
   | exact ih1 _ _ _
   | exact ih2 _ _ _
   | exact mezzanineref08_Places.mono _ _
   | exact LeO.none _
   | refine LeO.ite ?_ ?_
   | refine LeO.bind ?_ (fun _ => ?_)
  ·intro y0 y1 y2
   unfold mezzanineref08_Fits.l0
   repeat' first
   | (with_reducible exact ih0 _ _ _ _)
   | (with_reducible exact ih1 _ _ _)
   | (with_reducible exact ih2 _ _ _)
   | (with_reducible exact mezzanineref08_Places.mono _ _)
   | (with_reducible exact LeO.refl _)
   | (with_reducible exact LeO.none _)
   | (with_reducible refine LeO.ite ?_ ?_)
   | (with_reducible refine LeO.bind ?_ (fun _ => ?_))
   | exact ih0 _ _ _ _
   | exact ih1 _ _ _
   | exact ih2 _ _ _
   | exact mezzanineref08_Places.mono _ _
   | exact LeO.none _
   | refine LeO.ite ?_ ?_
   | refine LeO.bind ?_ (fun _ => ?_)
theorem mezzanineref08_Fits.mono : ∀ a0 a1 k, LeO (mezzanineref08_Fits.f k a0 a1) (mezzanineref08_Fits.f (k + 1) a0 a1) := by
 intro a0 a1 k
 obtain ⟨ih0, ih1, ih2⟩ := mezzanineref08_Fits.mono_l k
 unfold mezzanineref08_Fits.f
 repeat' first
   | (with_reducible exact ih0 _ _ _ _)
   | (with_reducible exact ih1 _ _ _)
   | (with_reducible exact ih2 _ _ _)
   | (with_reducible exact mezzanineref08_Places.mono _ _)
   | (with_reducible exact LeO.refl _)
   | (with_reducible exact LeO.none _)
   | (with_reducible refine LeO.ite ?_ ?_)
   | (with_reducible refine LeO.bind ?_ (fun _ => ?_))
   | exact ih0 _ _ _ _
   | exact ih1 _ _ _
   | exact ih2 _ _ _
   | exact mezzanineref08_Places.mono _ _
   | exact LeO.none _
   | refine LeO.ite ?_ ?_
   | refine LeO.bind ?_ (fun _ => ?_)
set_option maxHeartbeats 8000000 in
set_option maxRecDepth 100000 in
theorem mezzanineref08_Fits.calls (k : Nat) (a0 : Int) (a1 : Int) (r : Bool) (w : World) (h : mezzanineref08_Fits.f k a0 a1 = some r) :
  Calls Try.prog 39 #[.int .i64 a0, .int .i64 a1] w fun e w' => e = .returned (.bool r) ∧ Below w.heap.size w w' := by
 have HB := Aside0.mk (Below.refl w.heap.size w)
 have H : ((mezzanineref08_Places.f k a0).bind fun t364 => (if (t364.length : Int) = 0 then (some false) else (if 0 ≤ (IntKind.u64.wrap ((t364.length : Int))) then ((mezzanineref08_Signed.f a0).bind fun t367 => (if t367 = true then (if 0 ≤ (IntKind.u64.wrap (wrap64 ((t364.length : Int) - 1))) then (mezzanineref08_Fits.j0 k a1 t364 (wrap64 (-(shl .i64 1 (IntKind.u64.wrap (wrap64 ((t364.length : Int) - 1)))))) (wrap64 ((shl .i64 1 (IntKind.u64.wrap (wrap64 ((t364.length : Int) - 1)))) - 1))) else (none)) else (mezzanineref08_Fits.j0 k a1 t364 0 (wrap64 ((shl .i64 1 (IntKind.u64.wrap ((t364.length : Int)))) - 1))))) else (none)))) = some r := h
 clear h
 replace H := Option.bind_eq_some_iff.mp H
 obtain ⟨t364, A30, H⟩ := H
 replace H : (if (t364.length : Int) = 0 then (some false) else (if 0 ≤ (IntKind.u64.wrap ((t364.length : Int))) then ((mezzanineref08_Signed.f a0).bind fun t367 => (if t367 = true then (if 0 ≤ (IntKind.u64.wrap (wrap64 ((t364.length : Int) - 1))) then (mezzanineref08_Fits.j0 k a1 t364 (wrap64 (-(shl .i64 1 (IntKind.u64.wrap (wrap64 ((t364.length : Int) - 1)))))) (wrap64 ((shl .i64 1 (IntKind.u64.wrap (wrap64 ((t364.length : Int) - 1)))) - 1))) else (none)) else (mezzanineref08_Fits.j0 k a1 t364 0 (wrap64 ((shl .i64 1 (IntKind.u64.wrap ((t364.length : Int)))) - 1))))) else (none))) = some r := H
 have A3 := Aside0.mk A30
 clear A30
 by_cases c4 : (t364.length : Int) = 0
 ·rw [if_pos c4] at H
  have c4b0 : ((t364.length : Int) == 0) = true := beq_iff_eq.mpr c4
  have c4b1 : ((t364.length : Int) != 0) = false := bne_eq_false_iff_eq.mpr c4
  clear c4
  obtain rfl := Option.some.inj H
  go_enter Try.func39, Try.ntmps39
  go_wp2_with (first | ((with_reducible refine gate_callee (f := 40) rfl ?_); refine goesL_ (some 10) rfl rfl Try.func40 (by kernel_rfl) rfl #[.int .i64 a0] rfl (by (try simp only [List.map_toArray, List.map_cons, List.map_nil]); first | done | rfl | (simp only [List.length_drop, List.length_take]; rfl)) ?_; (with_reducible refine (mezzanineref08_Places.calls k a0 t364 _ A3.out).mono ?_); rintro e w5 ⟨v365, rfl, ho0, hb⟩; refine ⟨_, rfl, ?_⟩; have n0_ := Aside0.mk (Kd.R_lower ho0 (below_size (by repeat (first | (with_reducible first | exact HB.out | apply below_alloc | apply pw_below_drewN | apply below_drew1) | exact HB.out)))); have n1_ := Aside0.mk (below_step (by repeat (first | (with_reducible first | exact HB.out | apply below_alloc | apply pw_below_drewN | apply below_drew1) | exact HB.out)) hb); clear HB; have HO366 := n0_; have HB := n1_; clear n0_ n1_; (try clear hb); (try clear hb2); (try clear hk); (try clear hi); (try clear ho0); obtain ⟨Ao6, co6, eo6⟩ := Kd.R_slice HO366.out; subst eo6))
  go_ret
  exact ⟨by first | rfl | (simp [errW_none, errW_some] <;> rfl) | (simp [*, errW_none, errW_some] <;> rfl), by repeat (first | (with_reducible first | exact HB.out | apply below_alloc | apply pw_below_drewN | apply below_drew1) | exact HB.out)⟩
 ·rw [if_neg c4] at H
  have c4b0 : ((t364.length : Int) == 0) = false := beq_eq_false_iff_ne.mpr c4
  have c4b1 : ((t364.length : Int) != 0) = true := bne_iff_ne.mpr c4
  have c4b2 : ¬ (t364 = []) := fun h_ => c4 (by rw [h_]; rfl)
  obtain ⟨ji7, hji7⟩ : ∃ j_ : Int, (IntKind.u64.wrap ((t364.length : Int))) = j_ := ⟨_, rfl⟩
  replace H : (if 0 ≤ (ji7) then ((mezzanineref08_Signed.f a0).bind fun t367 => (if t367 = true then (if 0 ≤ (IntKind.u64.wrap (wrap64 ((t364.length : Int) - 1))) then (mezzanineref08_Fits.j0 k a1 t364 (wrap64 (-(shl .i64 1 (IntKind.u64.wrap (wrap64 ((t364.length : Int) - 1)))))) (wrap64 ((shl .i64 1 (IntKind.u64.wrap (wrap64 ((t364.length : Int) - 1)))) - 1))) else (none)) else (mezzanineref08_Fits.j0 k a1 t364 0 (wrap64 ((shl .i64 1 (ji7)) - 1))))) else (none)) = some r := by first | (rw [hji7] at H; exact H) | (simp only [hji7] at H ⊢; exact H)
  (try rw [hji7] at A3)
  by_cases c8 : 0 ≤ (ji7)
  ·rw [if_pos c8] at H
   have c8b0 := eq_true c8
   have c8b1 : decide (0 ≤ (ji7)) = true := decide_eq_true c8
   clear c8
   obtain ⟨ji9, hji9⟩ : ∃ j_ : Int, (shl .i64 1 (ji7)) = j_ := ⟨_, rfl⟩
   replace H : ((mezzanineref08_Signed.f a0).bind fun t367 => (if t367 = true then (if 0 ≤ (IntKind.u64.wrap (wrap64 ((t364.length : Int) - 1))) then (mezzanineref08_Fits.j0 k a1 t364 (wrap64 (-(shl .i64 1 (IntKind.u64.wrap (wrap64 ((t364.length : Int) - 1)))))) (wrap64 ((shl .i64 1 (IntKind.u64.wrap (wrap64 ((t364.length : Int) - 1)))) - 1))) else (none)) else (mezzanineref08_Fits.j0 k a1 t364 0 (wrap64 ((ji9) - 1))))) = some r := by first | (rw [hji9] at H; exact H) | (simp only [hji9] at H ⊢; exact H)
   (try rw [hji9] at A3)
   have hji9_ : (IntKind.i64.wrap (1 * 2 ^ min (ji7).toNat 64)) = ji9 := hji9
   have hji9z : (ji7) ≤ 64 → (IntKind.i64.wrap (1 * 2 ^ (ji7).toNat)) = ji9 := shl_small hji9
   have hji9u : (IntKind.i64.wrap (2 ^ min (ji7).toNat 64)) = ji9 := by have h_ := hji9_; rw [Int.one_mul] at h_; exact h_
   have hji9v : (ji7) ≤ 64 → (IntKind.i64.wrap (2 ^ (ji7).toNat)) = ji9 := fun hle_ => by have h_ := hji9z hle_; rw [Int.one_mul] at h_; exact h_
   have hji9y : (wrap64 (1 * 2 ^ min (ji7).toNat 64)) = ji9 := (i64_w _).symm.trans hji9_
   have hji9x : (ji7) ≤ 64 → (wrap64 (1 * 2 ^ (ji7).toNat)) = ji9 := fun h_ => (i64_w _).symm.trans (hji9z h_)
   replace H := Option.bind_eq_some_iff.mp H
   obtain ⟨t367, A100, H⟩ := H
   replace H : (if t367 = true then (if 0 ≤ (IntKind.u64.wrap (wrap64 ((t364.length : Int) - 1))) then (mezzanineref08_Fits.j0 k a1 t364 (wrap64 (-(shl .i64 1 (IntKind.u64.wrap (wrap64 ((t364.length : Int) - 1)))))) (wrap64 ((shl .i64 1 (IntKind.u64.wrap (wrap64 ((t364.length : Int) - 1)))) - 1))) else (none)) else (mezzanineref08_Fits.j0 k a1 t364 0 (wrap64 ((ji9) - 1)))) = some r := H
   have A10 := Aside0.mk A100
   clear A100
   have HC11 := Aside0.mk H
   clear H
   go_enter Try.func39, Try.ntmps39
   go_upto_if 20 with (first | ((with_reducible refine gate_callee (f := 40) rfl ?_); refine goesL_ (some 10) rfl rfl Try.func40 (by kernel_rfl) rfl #[.int .i64 a0] rfl (by (try simp only [List.map_toArray, List.map_cons, List.map_nil]); first | done | rfl | (simp only [List.length_drop, List.length_take]; rfl)) ?_; (with_reducible refine (mezzanineref08_Places.calls k a0 t364 _ A3.out).mono ?_); rintro e w12 ⟨v365, rfl, ho0, hb⟩; refine ⟨_, rfl, ?_⟩; have n0_ := Aside0.mk (Kd.R_lower ho0 (below_size (by repeat (first | (with_reducible first | exact HB.out | apply below_alloc | apply pw_below_drewN | apply below_drew1) | exact HB.out)))); have n1_ := Aside0.mk (below_step (by repeat (first | (with_reducible first | exact HB.out | apply below_alloc | apply pw_below_drewN | apply below_drew1) | exact HB.out)) hb); clear HB; have HO366 := n0_; have HB := n1_; clear n0_ n1_; (try clear hb); (try clear hb2); (try clear hk); (try clear hi); (try clear ho0); obtain ⟨Ao13, co13, eo13⟩ := Kd.R_slice HO366.out; subst eo13) | ((with_reducible refine gate_callee (f := 45) rfl ?_); refine goesL_ (some 20) rfl rfl Try.func45 (by kernel_rfl) rfl #[.int .i64 a0] rfl (by (try simp only [List.map_toArray, List.map_cons, List.map_nil]); first | done | rfl | (simp only [List.length_drop, List.length_take]; rfl)) ?_; (with_reducible refine (mezzanineref08_Signed.calls a0 t367 _ A10.out).mono ?_); rintro e w' ⟨rfl, ⟨nd, rfl⟩⟩; refine ⟨_, rfl, ?_⟩))
   (try simp only [Act.put, List.setIfInBounds_toArray, List.set_cons_zero, List.set_cons_succ])
   go_cut [6, 7] (fun v6 v7 wc => ∃ (kq : Nat) (x6_10 : Int) (x7_10 : Int), v6 = .int .i64 x6_10 ∧ v7 = .int .i64 x7_10 ∧ Aside0 (mezzanineref08_Fits.j0 kq a1 t364 x6_10 x7_10 = some r) ∧ Aside0 (kq ≤ k) ∧ Aside0 (Kd.R (Kd.int .i64) 3 wc w.heap.size (fun _ => True) (.slice Ao13 t364.length co13) t364) ∧ Aside0 (Below w.heap.size w wc))
   case first =>
    have H := HC11.out
    clear HC11
    by_cases c14 : t367 = true
    ·subst c14
     have H1 : (if 0 ≤ (IntKind.u64.wrap (wrap64 ((t364.length : Int) - 1))) then (mezzanineref08_Fits.j0 k a1 t364 (wrap64 (-(shl .i64 1 (IntKind.u64.wrap (wrap64 ((t364.length : Int) - 1)))))) (wrap64 ((shl .i64 1 (IntKind.u64.wrap (wrap64 ((t364.length : Int) - 1)))) - 1))) else (none)) = some r := by rw [if_pos rfl] at H; exact H
     clear H
     have H := H1
     clear H1
     obtain ⟨ji15, hji15⟩ : ∃ j_ : Int, (IntKind.u64.wrap (wrap64 ((t364.length : Int) - 1))) = j_ := ⟨_, rfl⟩
     replace H : (if 0 ≤ (ji15) then (mezzanineref08_Fits.j0 k a1 t364 (wrap64 (-(shl .i64 1 (ji15)))) (wrap64 ((shl .i64 1 (ji15)) - 1))) else (none)) = some r := by first | (rw [hji15] at H; exact H) | (simp only [hji15] at H ⊢; exact H)
     by_cases c16 : 0 ≤ (ji15)
     ·rw [if_pos c16] at H
      have c16b0 := eq_true c16
      have c16b1 : decide (0 ≤ (ji15)) = true := decide_eq_true c16
      clear c16
      obtain ⟨ji17, hji17⟩ : ∃ j_ : Int, (shl .i64 1 (ji15)) = j_ := ⟨_, rfl⟩
      replace H : (mezzanineref08_Fits.j0 k a1 t364 (wrap64 (-(ji17))) (wrap64 ((ji17) - 1))) = some r := by first | (rw [hji17] at H; exact H) | (simp only [hji17] at H ⊢; exact H)
      have hji17_ : (IntKind.i64.wrap (1 * 2 ^ min (ji15).toNat 64)) = ji17 := hji17
      have hji17z : (ji15) ≤ 64 → (IntKind.i64.wrap (1 * 2 ^ (ji15).toNat)) = ji17 := shl_small hji17
      have hji17u : (IntKind.i64.wrap (2 ^ min (ji15).toNat 64)) = ji17 := by have h_ := hji17_; rw [Int.one_mul] at h_; exact h_
      have hji17v : (ji15) ≤ 64 → (IntKind.i64.wrap (2 ^ (ji15).toNat)) = ji17 := fun hle_ => by have h_ := hji17z hle_; rw [Int.one_mul] at h_; exact h_
      have hji17y : (wrap64 (1 * 2 ^ min (ji15).toNat 64)) = ji17 := (i64_w _).symm.trans hji17_
      have hji17x : (ji15) ≤ 64 → (wrap64 (1 * 2 ^ (ji15).toNat)) = ji17 := fun h_ => (i64_w _).symm.trans (hji17z h_)
      have c18b0 := eq_true (of_decide_eq_true (by first | (with_reducible assumption) | assumption) : 0 ≤ (ji15))
      have H' := Aside0.mk H
      clear H
      go_wp2
      go_meet
      case rel => exact ⟨_, (wrap64 (-(ji17))), (wrap64 ((ji17) - 1)), (by first | rfl | (simp; done) | (simp only [← hji17] <;> (first | rfl | simp)) | (simp [*]; done)), (by first | rfl | (simp; done) | (simp only [← hji17] <;> (first | rfl | simp)) | (simp [*]; done)), H', ⟨by first | omega | exact Nat.le_refl _⟩, ⟨by (with_reducible repeat (first | apply Kd.R_alloc | apply Kd.R_drewN | apply Kd.R_drew)); exact HO366.out⟩, ⟨by repeat (first | (with_reducible first | exact HB.out | apply below_alloc | apply pw_below_drewN | apply below_drew1) | exact HB.out)⟩⟩
     ·rw [if_neg c16] at H
      exact absurd H (by simp)
    ·replace c14 := Bool.eq_false_iff.mpr c14
     subst c14
     have H1 : (mezzanineref08_Fits.j0 k a1 t364 0 (wrap64 ((ji9) - 1))) = some r := by rw [if_neg (show ¬ (false = true) by decide)] at H; exact H
     clear H
     have H := H1
     clear H1
     have H' := Aside0.mk H
     clear H
     go_wp2
     go_meet
     case rel => exact ⟨_, (0), (wrap64 ((ji9) - 1)), (by first | rfl | (simp; done) | (simp [*]; done)), (by first | rfl | (simp; done) | (simp only [← hji9] <;> (first | rfl | simp)) | (simp [*]; done)), H', ⟨by first | omega | exact Nat.le_refl _⟩, ⟨by (with_reducible repeat (first | apply Kd.R_alloc | apply Kd.R_drewN | apply Kd.R_drew)); exact HO366.out⟩, ⟨by repeat (first | (with_reducible first | exact HB.out | apply below_alloc | apply pw_below_drewN | apply below_drew1) | exact HB.out)⟩⟩
   case rest =>
    clear HC11
    try clear c1; try clear p2; try clear c3; try clear c4; try clear c4b0; try clear c4b1; try clear c4b2; try clear p6; try clear c8; try clear c8b0; try clear c8b1; try clear c14; try clear c16; try clear c16b0; try clear c16b1; try clear c18; try clear c18b0
    obtain ⟨kq, x6_10, x7_10, rfl, rfl, HA, HJ10, HO_5, HB⟩ := hcut
    cases kq with
    | zero => exact absurd HA.out (by simp [mezzanineref08_Fits.j0])
    | succ kj10 =>
     have H := HA.out
     clear HA
     simp only [mezzanineref08_Fits.j0] at H
     have HC19 := Aside0.mk H
     clear H
     go_upto_region 8 with (fail)
     go_cut [40] (fun v40 wc => ∃ (kq : Nat) (x40_18 : Bool), v40 = .bool x40_18 ∧ Aside0 (mezzanineref08_Fits.j1 kq a1 t364 x40_18 = some r) ∧ Aside0 (kq ≤ kj10) ∧ Aside0 (Kd.R (Kd.int .i64) 3 wc w.heap.size (fun _ => True) (.slice Ao13 t364.length co13) t364) ∧ Aside0 (Below w.heap.size w wc))
     case first =>
      have H := HC19.out
      clear HC19
      by_cases c20 : a1 < x6_10
      ·rw [if_pos c20] at H
       have c20b0 : decide (a1 < x6_10) = true := decide_eq_true c20
       clear c20
       (first | rw [c20b0] | (simp only [i64_w, i32_w]; rw [c20b0]) | skip)
       have H' := Aside0.mk H
       clear H
       go_wp2
       go_meet
       case rel => exact ⟨_, (true), (by first | rfl | (simp; done) | (simp [*]; done)), H', ⟨by have := HJ10.out; first | omega | exact Nat.le_refl _⟩, ⟨by (with_reducible repeat (first | apply Kd.R_alloc | apply Kd.R_drewN | apply Kd.R_drew)); exact HO_5.out⟩, ⟨by repeat (first | (with_reducible first | exact HB.out | apply below_alloc | apply pw_below_drewN | apply below_drew1) | exact HB.out)⟩⟩
      ·rw [if_neg c20] at H
       have c20b0 : decide (a1 < x6_10) = false := decide_eq_false c20
       clear c20
       (first | rw [c20b0] | (simp only [i64_w, i32_w]; rw [c20b0]) | skip)
       have H' := Aside0.mk H
       clear H
       go_wp2
       go_meet
       case rel => exact ⟨_, (decide (a1 > x7_10)), (by first | rfl | (simp; done) | (simp [*]; done)), H', ⟨by have := HJ10.out; first | omega | exact Nat.le_refl _⟩, ⟨by (with_reducible repeat (first | apply Kd.R_alloc | apply Kd.R_drewN | apply Kd.R_drew)); exact HO_5.out⟩, ⟨by repeat (first | (with_reducible first | exact HB.out | apply below_alloc | apply pw_below_drewN | apply below_drew1) | exact HB.out)⟩⟩
     case rest =>
      clear HC19
      try clear c1; try clear c2; try clear p2; try clear c3; try clear c4; try clear c4b0; try clear c4b1; try clear c4b2; try clear p6; try clear c8; try clear c8b0; try clear c8b1; try clear c14; try clear c16; try clear c16b0; try clear c16b1; try clear c18; try clear c18b0; try clear c20; try clear c20b0; try clear p2; try clear p6
      obtain ⟨kq, x40_18, rfl, HA, HJ18, HO_5, HB⟩ := hcut
      cases kq with
      | zero => exact absurd HA.out (by simp [mezzanineref08_Fits.j1])
      | succ kj18 =>
       have H := HA.out
       clear HA
       simp only [mezzanineref08_Fits.j1] at H
       by_cases c21 : x40_18 = true
       ·subst c21
        have H1 : (some false) = some r := by rw [if_pos rfl] at H; exact H
        clear H
        have H := H1
        clear H1
        obtain rfl := Option.some.inj H
        go_wp2
        go_ret
        exact ⟨by first | rfl | (simp [errW_none, errW_some] <;> rfl) | (simp only [← hji7, ← hji9]; first | rfl | (simp [errW_none, errW_some] <;> rfl)) | (simp [*, errW_none, errW_some] <;> rfl), by repeat (first | (with_reducible first | exact HB.out | apply below_alloc | apply pw_below_drewN | apply below_drew1) | exact HB.out)⟩
       ·replace c21 := Bool.eq_false_iff.mpr c21
        subst c21
        have H1 : (mezzanineref08_Fits.l0 kj18 a1 t364 0) = some r := by rw [if_neg (show ¬ (false = true) by decide)] at H; exact H
        clear H
        have H := H1
        clear H1
        have H' := Aside0.mk H
        clear H
        go_wp2
        go_loopg [8] kj18 (fun kq v8 w' => ∃ (x8_3 : Int), v8 = .int .i64 x8_3 ∧ Aside0 (mezzanineref08_Fits.l0 kq a1 t364 x8_3 = some r) ∧ Aside0 (kq ≤ kj18) ∧ Aside0 (Kd.R (Kd.int .i64) 3 w' w.heap.size (fun _ => True) (.slice Ao13 t364.length co13) t364) ∧ Aside0 (Below w.heap.size w w'))
        case atStart => exact ⟨(0), (by first | rfl | (simp; done) | (simp [*]; done)), H', ⟨Nat.le_refl _⟩, ⟨by (with_reducible repeat (first | apply Kd.R_alloc | apply Kd.R_drewN | apply Kd.R_drew)); exact HO_5.out⟩, ⟨by repeat (first | (with_reducible first | exact HB.out | apply below_alloc | apply pw_below_drewN | apply below_drew1) | exact HB.out)⟩⟩
        case round =>
         clear H'
         try clear c1; try clear c2; try clear p2; try clear c3; try clear c4; try clear c4b0; try clear c4b1; try clear c4b2; try clear p6; try clear c8; try clear c8b0; try clear c8b1; try clear c14; try clear c16; try clear c16b0; try clear c16b1; try clear c18; try clear c18b0; try clear c20; try clear c20b0; try clear c21; try clear p2; try clear p6
         obtain ⟨x8_3, rfl, HA, HK3, HO_5, HB⟩ := hrel
         cases gk with
         | zero => exact absurd HA.out (by simp [mezzanineref08_Fits.l0])
         | succ k3 =>
          have H := HA.out
          clear HA
          simp only [mezzanineref08_Fits.l0] at H
          by_cases c22 : x8_3 < (t364.length : Int)
          ·rw [if_pos c22] at H
           have c22b0 : decide (x8_3 < (t364.length : Int)) = true := decide_eq_true c22
           clear c22
           by_cases c23 : 0 ≤ x8_3
           ·rw [if_pos c23] at H
            have c23b0 : decide (0 ≤ x8_3) = true := decide_eq_true c23
            clear c23
            by_cases c24 : (rd t364 x8_3) < 0
            ·rw [if_pos c24] at H
             have c24b0 : decide ((rd t364 x8_3) < 0) = true := decide_eq_true c24
             clear c24
             obtain ⟨ji25, hji25⟩ : ∃ j_ : Int, (IntKind.u64.wrap (wrap64 ((wrap64 ((t364.length : Int) - 1)) - x8_3))) = j_ := ⟨_, rfl⟩
             replace H : (if 0 ≤ (ji25) then (if (Go.bits .and .i64 (shr .i64 a1 (ji25)) 1) = 1 then (some false) else (mezzanineref08_Fits.l0 k3 a1 t364 (wrap64 (x8_3 + 1)))) else (none)) = some r := by first | (rw [hji25] at H; exact H) | (simp only [hji25] at H ⊢; exact H)
             by_cases c26 : 0 ≤ (ji25)
             ·rw [if_pos c26] at H
              have c26b0 := eq_true c26
              have c26b1 : decide (0 ≤ (ji25)) = true := decide_eq_true c26
              clear c26
              obtain ⟨ji27, hji27⟩ : ∃ j_ : Int, (shr .i64 a1 (ji25)) = j_ := ⟨_, rfl⟩
              replace H : (if (Go.bits .and .i64 (ji27) 1) = 1 then (some false) else (mezzanineref08_Fits.l0 k3 a1 t364 (wrap64 (x8_3 + 1)))) = some r := by first | (rw [hji27] at H; exact H) | (simp only [hji27] at H ⊢; exact H)
              have hji27_ : (a1 / 2 ^ min (ji25).toNat 64) = ji27 := hji27
              have hji27z : (ji25) ≤ 64 → (a1 / 2 ^ (ji25).toNat) = ji27 := shr_small hji27
              by_cases c28 : (Go.bits .and .i64 (ji27) 1) = 1
              ·rw [if_pos c28] at H
               have c28b0 : ((Go.bits .and .i64 (ji27) 1) == 1) = true := beq_iff_eq.mpr c28
               have c28b1 : ((Go.bits .and .i64 (ji27) 1) != 1) = false := bne_eq_false_iff_eq.mpr c28
               clear c28
               obtain rfl := Option.some.inj H
               have p368 : 0 ≤ (x8_3 : Int) := of_decide_eq_true (by first | (with_reducible assumption) | assumption)
               have q368 : x8_3 < (t364.length : Int) := of_decide_eq_true (by first | (with_reducible assumption) | assumption)
               obtain ⟨ad368, e368, hx368_0⟩ := Kd.at_int (Kd.R_reads' HO_5.out).2.2 x8_3 p368 q368
               cases e368
               replace p368 := eq_true p368
               replace q368 := eq_true q368
               go_wp2
               go_ret
               exact ⟨by first | rfl | (simp [errW_none, errW_some] <;> rfl) | (simp only [← hji7, ← hji9, ← hji25, ← hji27]; first | rfl | (simp [errW_none, errW_some] <;> rfl)) | (simp [*, errW_none, errW_some] <;> rfl), by repeat (first | (with_reducible first | exact HB.out | apply below_alloc | apply pw_below_drewN | apply below_drew1) | exact HB.out)⟩
              ·rw [if_neg c28] at H
               have c28b0 : ((Go.bits .and .i64 (ji27) 1) == 1) = false := beq_eq_false_iff_ne.mpr c28
               have c28b1 : ((Go.bits .and .i64 (ji27) 1) != 1) = true := bne_iff_ne.mpr c28
               have H' := Aside0.mk H
               clear H
               have p368 : 0 ≤ (x8_3 : Int) := of_decide_eq_true (by first | (with_reducible assumption) | assumption)
               have q368 : x8_3 < (t364.length : Int) := of_decide_eq_true (by first | (with_reducible assumption) | assumption)
               obtain ⟨ad368, e368, hx368_0⟩ := Kd.at_int (Kd.R_reads' HO_5.out).2.2 x8_3 p368 q368
               cases e368
               replace p368 := eq_true p368
               replace q368 := eq_true q368
               go_wp2
               go_roundg k3
               case measure => have := HJ10.out; have := HJ18.out; have := HK3.out; omega
               case rel => exact ⟨(wrap64 (x8_3 + 1)), (by first | rfl | (simp; done) | (simp [*]; done)), H', ⟨by have := HJ10.out; have := HJ18.out; have := HK3.out; omega⟩, ⟨by (with_reducible repeat (first | apply Kd.R_alloc | apply Kd.R_drewN | apply Kd.R_drew)); exact HO_5.out⟩, ⟨by repeat (first | (with_reducible first | exact HB.out | apply below_alloc | apply pw_below_drewN | apply below_drew1) | exact HB.out)⟩⟩
             ·rw [if_neg c26] at H
              exact absurd H (by simp)
            ·rw [if_neg c24] at H
             have c24b0 : decide ((rd t364 x8_3) < 0) = false := decide_eq_false c24
             clear c24
             have H' := Aside0.mk H
             clear H
             have p368 : 0 ≤ (x8_3 : Int) := of_decide_eq_true (by first | (with_reducible assumption) | assumption)
             have q368 : x8_3 < (t364.length : Int) := of_decide_eq_true (by first | (with_reducible assumption) | assumption)
             obtain ⟨ad368, e368, hx368_0⟩ := Kd.at_int (Kd.R_reads' HO_5.out).2.2 x8_3 p368 q368
             cases e368
             replace p368 := eq_true p368
             replace q368 := eq_true q368
             go_wp2
             go_roundg k3
             case measure => have := HJ10.out; have := HJ18.out; have := HK3.out; omega
             case rel => exact ⟨(wrap64 (x8_3 + 1)), (by first | rfl | (simp; done) | (simp [*]; done)), H', ⟨by have := HJ10.out; have := HJ18.out; have := HK3.out; omega⟩, ⟨by (with_reducible repeat (first | apply Kd.R_alloc | apply Kd.R_drewN | apply Kd.R_drew)); exact HO_5.out⟩, ⟨by repeat (first | (with_reducible first | exact HB.out | apply below_alloc | apply pw_below_drewN | apply below_drew1) | exact HB.out)⟩⟩
           ·rw [if_neg c23] at H
            exact absurd H (by simp)
          ·rw [if_neg c22] at H
           have c22b0 : decide (x8_3 < (t364.length : Int)) = false := decide_eq_false c22
           clear c22
           obtain rfl := Option.some.inj H
           go_wp2
           go_ret
           exact ⟨by first | rfl | (simp [errW_none, errW_some] <;> rfl) | (simp only [← hji7, ← hji9]; first | rfl | (simp [errW_none, errW_some] <;> rfl)) | (simp [*, errW_none, errW_some] <;> rfl), by repeat (first | (with_reducible first | exact HB.out | apply below_alloc | apply pw_below_drewN | apply below_drew1) | exact HB.out)⟩
  ·rw [if_neg c8] at H
   exact absurd H (by simp)

end Go.Proofs.Ytknkfimpflodeaa.P
