-- written by a program of this place (wip/lay.sh, wip/print2.py over the kit's print); Lean checks it
import Derived.Test.YtknkfimpflodeaaF0
import Derived.Test.YtknkfimpflodeaaF2
import Derived.Test.YtknkfimpflodeaaF3
namespace Go.Proofs.Ytknkfimpflodeaa.P
open Go.RowKit Go.Proofs.YtknkfimpflodeaaW.PrintWords Go.Proofs.YtknkfimpflodeaaW.PrintLast Go.Proofs.YtknkfimpflodeaaW.PrintMore
attribute [local go_sem] max2_int min2_int max_two min_two max_three min_three max_four min_four   -- for this text's walks alone
set_option linter.unusedVariables false
set_option linter.unusedSimpArgs false
attribute [local go_sem] run_f0 run_f1 run_f2 run_f3 run_g0 run_g1 run_g2 run_g3

/-! ### fields_Fits: function 37 -/
def fields_Fits.j0 : Nat → Int → Bool → List (S82) → Int → Bool → Option (Bool)
  | 0, _, _, _, _, _ => none
  | k + 1, x1, x21, x292000, x292001, x292002 => if x21 = true then (some false) else (if x292002 = true then ((fields_shape_size.f k x292000 x292001 x292002).bind fun t292 => (if 0 ≤ (wrap64 (t292 - 1)) then (if x1 ≥ (shl .i64 (-1) (wrap64 (t292 - 1))) then (some (decide (x1 < (shl .i64 1 (wrap64 (t292 - 1)))))) else (some false)) else (none))) else (if x1 ≥ 0 then ((fields_shape_size.f k x292000 x292001 x292002).bind fun t293 => (if 0 ≤ t293 then (some (decide (x1 < (shl .i64 1 t293)))) else (none))) else (some false)))
def fields_Fits.f (k : Nat) (a0 : Int) (a1 : Int) : Option (Bool) := (fields_shapeOf.f a0).bind fun bt286 => (if (bt286.1.length : Int) = 0 then (fields_Fits.j0 k a1 true bt286.1 bt286.2.1 bt286.2.2) else (if 0 ≤ bt286.2.1 then (fields_Fits.j0 k a1 ((Go.bits .and .i64 a1 (wrap64 ((shl .i64 1 bt286.2.1) - 1))) != 0) bt286.1 bt286.2.1 bt286.2.2) else (none)))
theorem fields_Fits.mono_l : ∀ k, (∀ y0 y1 y2 y3 y4, LeO (fields_Fits.j0 k y0 y1 y2 y3 y4) (fields_Fits.j0 (k + 1) y0 y1 y2 y3 y4))
  | 0 => fun _ _ _ _ _ r h => by simp [fields_Fits.j0] at h
  | k + 1 => by
    have ih0 := fields_Fits.mono_l k
    · intro y0 y1 y2 y3 y4
      unfold fields_Fits.j0
      repeat' first
      | (with_reducible exact ih0 _ _ _ _ _)
      | (with_reducible exact fields_shape_size.mono _ _ _ _)
      | (with_reducible exact LeO.refl _)
      | (with_reducible exact LeO.none _)
      | (with_reducible refine LeO.ite ?_ ?_)
      | (with_reducible refine LeO.bind ?_ (fun _ => ?_))
      | exact ih0 _ _ _ _ _
      | exact fields_shape_size.mono _ _ _ _
      | exact LeO.none _
      | refine LeO.ite ?_ ?_
      | refine LeO.bind ?_ (fun _ => ?_)
theorem fields_Fits.mono : ∀ a0 a1 k, LeO (fields_Fits.f k a0 a1) (fields_Fits.f (k + 1) a0 a1) := by
  intro a0 a1 k
  have ih0 := fields_Fits.mono_l k
  unfold fields_Fits.f
  repeat' first
      | (with_reducible exact ih0 _ _ _ _ _)
      | (with_reducible exact fields_shape_size.mono _ _ _ _)
      | (with_reducible exact LeO.refl _)
      | (with_reducible exact LeO.none _)
      | (with_reducible refine LeO.ite ?_ ?_)
      | (with_reducible refine LeO.bind ?_ (fun _ => ?_))
      | exact ih0 _ _ _ _ _
      | exact fields_shape_size.mono _ _ _ _
      | exact LeO.none _
      | refine LeO.ite ?_ ?_
      | refine LeO.bind ?_ (fun _ => ?_)
set_option maxHeartbeats 8000000 in
set_option maxRecDepth 100000 in
theorem fields_Fits.calls (k : Nat) (a0 : Int) (a1 : Int) (r : Bool) (w : World) (h : fields_Fits.f k a0 a1 = some r) :
    Calls Try.prog 37 #[.int .i64 a0, .int .i64 a1] w fun e w' => e = .returned (.bool r) ∧ Below w.heap.size w w' := by
  have hu78 := Try.underlying78
  have HB := Aside0.mk (Below.refl w.heap.size w)
  have H : ((fields_shapeOf.f a0).bind fun bt286 => (if (bt286.1.length : Int) = 0 then (fields_Fits.j0 k a1 true bt286.1 bt286.2.1 bt286.2.2) else (if 0 ≤ bt286.2.1 then (fields_Fits.j0 k a1 ((Go.bits .and .i64 a1 (wrap64 ((shl .i64 1 bt286.2.1) - 1))) != 0) bt286.1 bt286.2.1 bt286.2.2) else (none)))) = some r := h
  clear h
  replace H := Option.bind_eq_some_iff.mp H
  obtain ⟨⟨t286, t289, t290⟩, A30, H⟩ := H
  replace H : (if (t286.length : Int) = 0 then (fields_Fits.j0 k a1 true t286 t289 t290) else (if 0 ≤ t289 then (fields_Fits.j0 k a1 ((Go.bits .and .i64 a1 (wrap64 ((shl .i64 1 t289) - 1))) != 0) t286 t289 t290) else (none))) = some r := H
  have A3 := Aside0.mk A30
  clear A30
  have HC4 := Aside0.mk H
  clear H
  go_enter Try.func37, Try.ntmps37
  go_upto_region 2 with (first | ((with_reducible refine gate_callee (f := 38) rfl ?_); refine goesL_ (some 8) rfl rfl Try.func38 (by kernel_rfl) rfl #[.int .i64 a0] rfl (by (try simp only [List.map_toArray, List.map_cons, List.map_nil]); first | done | rfl | (simp only [List.length_drop, List.length_take]; rfl)) ?_; (with_reducible refine (fields_shapeOf.calls a0 t286 t289 t290 _ A3.out).mono ?_); rintro e w5 ⟨v287, rfl, ho0, hb⟩; refine ⟨_, rfl, ?_⟩; have n0_ := Aside0.mk (Kd.R_lower ho0 (below_size (by repeat (first | (with_reducible first | exact HB.out | apply below_alloc | apply pw_below_drewN | apply below_drew1) | exact HB.out)))); have n1_ := Aside0.mk (below_step (by repeat (first | (with_reducible first | exact HB.out | apply below_alloc | apply pw_below_drewN | apply below_drew1) | exact HB.out)) hb); clear HB; have HO288 := n0_; have HB := n1_; clear n0_ n1_; (try clear hb); (try clear hb2); (try clear hk); (try clear hi); (try clear ho0)) | ((with_reducible refine gate_dst (N := 5) rfl ?_); refine box_event ?hg (N := 5) ?hd (cs := #[.slice none 0 0, .int .i64 0, .bool false]) (t := 78) ?hr ?_; (case hd => rfl); (case hg => rfl); (case hr => first | (go_simp; done) | (go_simp; rfl)); intro gb291 hg w6 hbox hb; have n0_ := Aside0.mk (Kd.R_below (by (with_reducible repeat (first | apply Kd.R_alloc | apply Kd.R_drewN | apply Kd.R_drew)); exact HO288.out) hb); have n1_ := Aside0.mk (below_step (by repeat (first | (with_reducible first | exact HB.out | apply below_alloc | apply pw_below_drewN | apply below_drew1) | exact HB.out)) hb); have n2_ := Aside0.mk (hbox); have n3_ := Aside0.mk ((by rw [hg]; exact (below_size (by repeat (first | (with_reducible first | exact HB.out | apply below_alloc | apply pw_below_drewN | apply below_drew1) | exact HB.out))) : w.heap.size ≤ gb291)); have n4_ := Aside0.mk ((by rw [hg]; exact (below_size (by repeat (first | (with_reducible first | exact HB.out | apply below_alloc | apply pw_below_drewN | apply below_drew1) | exact HB.out))) : w.heap.size ≤ gb291)); clear HO288; clear HB; have HO288 := n0_; have HB := n1_; have BK291 := n2_; have GW291 := n3_; have GE291 := n4_; clear n0_ n1_ n2_ n3_ n4_; clear hb hbox hg; obtain ⟨Ao7, co7, eo7⟩ := Kd.R_slice HO288.out; subst eo7; have hcz8_0 : w6.cell? ⟨gb291, 0, none⟩ = some (.slice none 0 0) := (blk_cell BK291.out 0).trans rfl; have hcz8_1 : w6.cell? ⟨gb291, 1, none⟩ = some (.int .i64 0) := (blk_cell BK291.out 1).trans rfl; have hcz8_2 : w6.cell? ⟨gb291, 2, none⟩ = some (.bool false) := (blk_cell BK291.out 2).trans rfl; have hfz8_0 := blk_frozen BK291.out 0; have hfz8_1 := blk_frozen BK291.out 1; have hfz8_2 := blk_frozen BK291.out 2))
  (try simp only [Act.put, List.setIfInBounds_toArray, List.set_cons_zero, List.set_cons_succ])
  go_cut [21] (fun v21 wc => ∃ (kq : Nat) (x21_3 : Bool), v21 = .bool x21_3 ∧ Aside0 (fields_Fits.j0 kq a1 x21_3 t286 t289 t290 = some r) ∧ Aside0 (kq ≤ k) ∧ Aside0 (Kd.R k82 82 wc w.heap.size (fun _ => True) (.slice Ao7 t286.length co7) t286) ∧ Aside0 (wc.heap[gb291]? = some (.cells #[(.slice Ao7 t286.length co7), .int .i64 t289, .bool t290] 78 (0, 0))) ∧ Aside0 (Below w.heap.size w wc))
  case first =>
    have H := HC4.out
    clear HC4
    by_cases c9 : (t286.length : Int) = 0
    · rw [if_pos c9] at H
      have c9b0 : ((t286.length : Int) == 0) = true := beq_iff_eq.mpr c9
      have c9b1 : ((t286.length : Int) != 0) = false := bne_eq_false_iff_eq.mpr c9
      clear c9
      (first | rw [c9b0] | (simp only [i64_w, i32_w]; rw [c9b0]) | skip)
      have H' := Aside0.mk H
      clear H
      have hcz10_0 : w6.cell? ⟨gb291, 0, none⟩ = some (.slice none 0 0) := (blk_cell BK291.out 0).trans rfl
      have hcz10_1 : w6.cell? ⟨gb291, 1, none⟩ = some (.int .i64 0) := (blk_cell BK291.out 1).trans rfl
      have hcz10_2 : w6.cell? ⟨gb291, 2, none⟩ = some (.bool false) := (blk_cell BK291.out 2).trans rfl
      have hfz10_0 := blk_frozen BK291.out 0
      have hfz10_1 := blk_frozen BK291.out 1
      have hfz10_2 := blk_frozen BK291.out 2
      go_wp2
      go_meet
      case rel => exact ⟨_, (true), (by first | rfl | (simp; done) | (simp [*]; done)), H', ⟨by first | omega | exact Nat.le_refl _⟩, ⟨by (with_reducible repeat (first | apply Kd.R_alloc | apply Kd.R_drewN | apply Kd.R_drew)); exact Kd.R_mono (Kd.R_far (p := ⟨gb291, 2, none⟩) (Kd.R_far (p := ⟨gb291, 1, none⟩) (Kd.R_far (p := ⟨gb291, 0, none⟩) (Kd.R_types HO288.out BK291.out (by decide)) (fun _ hk => hk.2) (.slice Ao7 t286.length co7)) (fun _ hk => hk.2) (.int .i64 t289)) (fun _ hk => hk.2) (.bool t290)) (fun _ hk => trivial)⟩, ⟨by (with_reducible repeat (first | refine blk_drewN ?_ _ | refine blk_drew ?_ | refine blk_alloc ?_ _)); refine blk_put (cs := #[.slice Ao7 t286.length co7, .int .i64 t289, .bool false]) ?_ 2 _ rfl; (with_reducible repeat (first | refine blk_drewN ?_ _ | refine blk_drew ?_ | refine blk_alloc ?_ _)); refine blk_put (cs := #[.slice Ao7 t286.length co7, .int .i64 0, .bool false]) ?_ 1 _ rfl; (with_reducible repeat (first | refine blk_drewN ?_ _ | refine blk_drew ?_ | refine blk_alloc ?_ _)); refine blk_put (cs := #[.slice none 0 0, .int .i64 0, .bool false]) ?_ 0 _ rfl; (with_reducible repeat (first | refine blk_drewN ?_ _ | refine blk_drew ?_ | refine blk_alloc ?_ _)); exact BK291.out⟩, ⟨by repeat (first | (with_reducible first | exact HB.out | apply below_alloc | apply pw_below_drewN | apply below_drew1 | refine below_set ?_ GE291.out) | exact HB.out)⟩⟩
    · rw [if_neg c9] at H
      have c9b0 : ((t286.length : Int) == 0) = false := beq_eq_false_iff_ne.mpr c9
      have c9b1 : ((t286.length : Int) != 0) = true := bne_iff_ne.mpr c9
      have c9b2 : ¬ (t286 = []) := fun h_ => c9 (by rw [h_]; rfl)
      (first | rw [c9b0] | (simp only [i64_w, i32_w]; rw [c9b0]) | skip)
      by_cases c11 : 0 ≤ t289
      · rw [if_pos c11] at H
        have c11b0 := eq_true c11
        have c11b1 : decide (0 ≤ t289) = true := decide_eq_true c11
        clear c11
        obtain ⟨ji12, hji12⟩ : ∃ j_ : Int, (shl .i64 1 t289) = j_ := ⟨_, rfl⟩
        replace H : (fields_Fits.j0 k a1 ((Go.bits .and .i64 a1 (wrap64 ((ji12) - 1))) != 0) t286 t289 t290) = some r := by first | (rw [hji12] at H; exact H) | (simp only [hji12] at H ⊢; exact H)
        have hji12_ : (IntKind.i64.wrap (1 * 2 ^ min t289.toNat 64)) = ji12 := hji12
        have hji12z : t289 ≤ 64 → (IntKind.i64.wrap (1 * 2 ^ t289.toNat)) = ji12 := shl_small hji12
        have hji12u : (IntKind.i64.wrap (2 ^ min t289.toNat 64)) = ji12 := by have h_ := hji12_; rw [Int.one_mul] at h_; exact h_
        have hji12v : t289 ≤ 64 → (IntKind.i64.wrap (2 ^ t289.toNat)) = ji12 := fun hle_ => by have h_ := hji12z hle_; rw [Int.one_mul] at h_; exact h_
        have hji12y : (wrap64 (1 * 2 ^ min t289.toNat 64)) = ji12 := (i64_w _).symm.trans hji12_
        have hji12x : t289 ≤ 64 → (wrap64 (1 * 2 ^ t289.toNat)) = ji12 := fun h_ => (i64_w _).symm.trans (hji12z h_)
        have H' := Aside0.mk H
        clear H
        have hcz13_0 : w6.cell? ⟨gb291, 0, none⟩ = some (.slice none 0 0) := (blk_cell BK291.out 0).trans rfl
        have hcz13_1 : w6.cell? ⟨gb291, 1, none⟩ = some (.int .i64 0) := (blk_cell BK291.out 1).trans rfl
        have hcz13_2 : w6.cell? ⟨gb291, 2, none⟩ = some (.bool false) := (blk_cell BK291.out 2).trans rfl
        have hfz13_0 := blk_frozen BK291.out 0
        have hfz13_1 := blk_frozen BK291.out 1
        have hfz13_2 := blk_frozen BK291.out 2
        go_wp2
        go_meet
        case rel => exact ⟨_, (((Go.bits .and .i64 a1 (wrap64 ((ji12) - 1))) != 0)), (by first | rfl | (simp; done) | (simp only [← hji12] <;> (first | rfl | simp)) | (simp [*]; done)), H', ⟨by first | omega | exact Nat.le_refl _⟩, ⟨by (with_reducible repeat (first | apply Kd.R_alloc | apply Kd.R_drewN | apply Kd.R_drew)); exact Kd.R_mono (Kd.R_far (p := ⟨gb291, 2, none⟩) (Kd.R_far (p := ⟨gb291, 1, none⟩) (Kd.R_far (p := ⟨gb291, 0, none⟩) (Kd.R_types HO288.out BK291.out (by decide)) (fun _ hk => hk.2) (.slice Ao7 t286.length co7)) (fun _ hk => hk.2) (.int .i64 t289)) (fun _ hk => hk.2) (.bool t290)) (fun _ hk => trivial)⟩, ⟨by (with_reducible repeat (first | refine blk_drewN ?_ _ | refine blk_drew ?_ | refine blk_alloc ?_ _)); refine blk_put (cs := #[.slice Ao7 t286.length co7, .int .i64 t289, .bool false]) ?_ 2 _ rfl; (with_reducible repeat (first | refine blk_drewN ?_ _ | refine blk_drew ?_ | refine blk_alloc ?_ _)); refine blk_put (cs := #[.slice Ao7 t286.length co7, .int .i64 0, .bool false]) ?_ 1 _ rfl; (with_reducible repeat (first | refine blk_drewN ?_ _ | refine blk_drew ?_ | refine blk_alloc ?_ _)); refine blk_put (cs := #[.slice none 0 0, .int .i64 0, .bool false]) ?_ 0 _ rfl; (with_reducible repeat (first | refine blk_drewN ?_ _ | refine blk_drew ?_ | refine blk_alloc ?_ _)); exact BK291.out⟩, ⟨by repeat (first | (with_reducible first | exact HB.out | apply below_alloc | apply pw_below_drewN | apply below_drew1 | refine below_set ?_ GE291.out) | exact HB.out)⟩⟩
      · rw [if_neg c11] at H
        exact absurd H (by simp)
  case rest =>
    clear HC4
    try clear c1
    try clear p2
    try clear c3
    try clear p6
    try clear c9
    try clear c9b0
    try clear c9b1
    try clear c9b2
    try clear c11
    try clear c11b0
    try clear c11b1
    try clear hcz10_0
    try clear hcz10_1
    try clear hcz10_2
    try clear hcz13_0
    try clear hcz13_1
    try clear hcz13_2
    try clear hcz8_0
    try clear hcz8_1
    try clear hcz8_2
    try clear hfz10_0
    try clear hfz10_1
    try clear hfz10_2
    try clear hfz13_0
    try clear hfz13_1
    try clear hfz13_2
    try clear hfz8_0
    try clear hfz8_1
    try clear hfz8_2
    obtain ⟨kq, x21_3, rfl, HA, HJ3, HO_292000, BK291, HB⟩ := hcut
    cases kq with
    | zero => exact absurd HA.out (by simp [fields_Fits.j0])
    | succ kj3 =>
      have H := HA.out
      clear HA
      simp only [fields_Fits.j0] at H
      by_cases c14 : x21_3 = true
      · subst c14
        have H1 : (some false) = some r := by rw [if_pos rfl] at H; exact H
        clear H
        have H := H1
        clear H1
        obtain rfl := Option.some.inj H
        go_wp2
        go_ret
        exact ⟨by first | rfl | (simp [errW_none, errW_some] <;> rfl) | (simp [*, errW_none, errW_some] <;> rfl), by repeat (first | (with_reducible first | exact HB.out | apply below_alloc | apply pw_below_drewN | apply below_drew1 | refine below_set ?_ GE291.out) | exact HB.out)⟩
      · replace c14 := Bool.eq_false_iff.mpr c14
        subst c14
        have H1 : (if t290 = true then ((fields_shape_size.f kj3 t286 t289 t290).bind fun t292 => (if 0 ≤ (wrap64 (t292 - 1)) then (if a1 ≥ (shl .i64 (-1) (wrap64 (t292 - 1))) then (some (decide (a1 < (shl .i64 1 (wrap64 (t292 - 1)))))) else (some false)) else (none))) else (if a1 ≥ 0 then ((fields_shape_size.f kj3 t286 t289 t290).bind fun t293 => (if 0 ≤ t293 then (some (decide (a1 < (shl .i64 1 t293)))) else (none))) else (some false))) = some r := by rw [if_neg (show ¬ (false = true) by decide)] at H; exact H
        clear H
        have H := H1
        clear H1
        by_cases c15 : t290 = true
        · subst c15
          have H1 : ((fields_shape_size.f kj3 t286 t289 true).bind fun t292 => (if 0 ≤ (wrap64 (t292 - 1)) then (if a1 ≥ (shl .i64 (-1) (wrap64 (t292 - 1))) then (some (decide (a1 < (shl .i64 1 (wrap64 (t292 - 1)))))) else (some false)) else (none))) = some r := by rw [if_pos rfl] at H; exact H
          clear H
          have H := H1
          clear H1
          replace H := Option.bind_eq_some_iff.mp H
          obtain ⟨t292, A160, H⟩ := H
          replace H : (if 0 ≤ (wrap64 (t292 - 1)) then (if a1 ≥ (shl .i64 (-1) (wrap64 (t292 - 1))) then (some (decide (a1 < (shl .i64 1 (wrap64 (t292 - 1)))))) else (some false)) else (none)) = some r := H
          have A16 := Aside0.mk A160
          clear A160
          obtain ⟨ji17, hji17⟩ : ∃ j_ : Int, (wrap64 (t292 - 1)) = j_ := ⟨_, rfl⟩
          replace H : (if 0 ≤ (ji17) then (if a1 ≥ (shl .i64 (-1) (ji17)) then (some (decide (a1 < (shl .i64 1 (ji17))))) else (some false)) else (none)) = some r := by first | (rw [hji17] at H; exact H) | (simp only [hji17] at H ⊢; exact H)
          (try rw [hji17] at A16)
          have hji17w : (IntKind.i64.wrap (t292 - 1)) = ji17 := (i64_w _).trans hji17
          by_cases c18 : 0 ≤ (ji17)
          · rw [if_pos c18] at H
            have c18b0 := eq_true c18
            have c18b1 : decide (0 ≤ (ji17)) = true := decide_eq_true c18
            clear c18
            obtain ⟨ji19, hji19⟩ : ∃ j_ : Int, (shl .i64 (-1) (ji17)) = j_ := ⟨_, rfl⟩
            replace H : (if a1 ≥ (ji19) then (some (decide (a1 < (shl .i64 1 (ji17))))) else (some false)) = some r := by first | (rw [hji19] at H; exact H) | (simp only [hji19] at H ⊢; exact H)
            (try rw [hji19] at A16)
            have hji19_ : (IntKind.i64.wrap ((-1) * 2 ^ min (ji17).toNat 64)) = ji19 := hji19
            have hji19z : (ji17) ≤ 64 → (IntKind.i64.wrap ((-1) * 2 ^ (ji17).toNat)) = ji19 := shl_small hji19
            have hji19y : (wrap64 ((-1) * 2 ^ min (ji17).toNat 64)) = ji19 := (i64_w _).symm.trans hji19_
            have hji19x : (ji17) ≤ 64 → (wrap64 ((-1) * 2 ^ (ji17).toNat)) = ji19 := fun h_ => (i64_w _).symm.trans (hji19z h_)
            (try (have hji19m : (wrap64 (-2 ^ min (ji17).toNat 64)) = ji19 := by simpa using hji19y))
            (try (have hji19o : (ji17) ≤ 64 → (wrap64 (-2 ^ (ji17).toNat)) = ji19 := by simpa using hji19x))
            by_cases c20 : a1 ≥ (ji19)
            · rw [if_pos c20] at H
              have c20b0 : decide ((ji19) ≤ a1) = true := decide_eq_true c20
              clear c20
              have c21b0 := eq_true (of_decide_eq_true (by first | (with_reducible assumption) | assumption) : 0 ≤ (ji17))
              obtain ⟨ji22, hji22⟩ : ∃ j_ : Int, (shl .i64 1 (ji17)) = j_ := ⟨_, rfl⟩
              replace H : (some (decide (a1 < (ji22)))) = some r := by first | (rw [hji22] at H; exact H) | (simp only [hji22] at H ⊢; exact H)
              (try rw [hji22] at A16)
              have hji22_ : (IntKind.i64.wrap (1 * 2 ^ min (ji17).toNat 64)) = ji22 := hji22
              have hji22z : (ji17) ≤ 64 → (IntKind.i64.wrap (1 * 2 ^ (ji17).toNat)) = ji22 := shl_small hji22
              have hji22u : (IntKind.i64.wrap (2 ^ min (ji17).toNat 64)) = ji22 := by have h_ := hji22_; rw [Int.one_mul] at h_; exact h_
              have hji22v : (ji17) ≤ 64 → (IntKind.i64.wrap (2 ^ (ji17).toNat)) = ji22 := fun hle_ => by have h_ := hji22z hle_; rw [Int.one_mul] at h_; exact h_
              have hji22y : (wrap64 (1 * 2 ^ min (ji17).toNat 64)) = ji22 := (i64_w _).symm.trans hji22_
              have hji22x : (ji17) ≤ 64 → (wrap64 (1 * 2 ^ (ji17).toNat)) = ji22 := fun h_ => (i64_w _).symm.trans (hji22z h_)
              obtain rfl := Option.some.inj H
              have hcz23_0 : wc.cell? ⟨gb291, 0, none⟩ = some (.slice Ao7 t286.length co7) := (blk_cell BK291.out 0).trans rfl
              have hcz23_1 : wc.cell? ⟨gb291, 1, none⟩ = some (.int .i64 t289) := (blk_cell BK291.out 1).trans rfl
              have hcz23_2 : wc.cell? ⟨gb291, 2, none⟩ = some (.bool true) := (blk_cell BK291.out 2).trans rfl
              have hfz23_0 := blk_frozen BK291.out 0
              have hfz23_1 := blk_frozen BK291.out 1
              have hfz23_2 := blk_frozen BK291.out 2
              go_wp2_with (first | ((with_reducible refine gate_callee (f := 43) rfl ?_); refine goesL_ (some 25) rfl rfl Try.func43 (by kernel_rfl) rfl #[.agg #[.slice Ao7 t286.length co7, .int .i64 t289, .bool true]] rfl (by (try simp only [List.map_toArray, List.map_cons, List.map_nil]); first | done | rfl | (simp only [List.length_drop, List.length_take]; rfl)) ?_; (with_reducible refine (fields_shape_size.calls kj3 _ _ t286 t289 true t292 _ ?side1 ?side2 A16.out).mono ?_); (case side1 => repeat (first | exact (Kd.R_reads' HO_292000.out).2.2 | (with_reducible refine Kd.C_alloc ?_ _) | (with_reducible refine Kd.C_drewN ?_ _) | (with_reducible refine Kd.C_drew ?_))); (case side2 => exact (Kd.R_reads' HO_292000.out).2.1); rintro e w24 ⟨rfl, hb⟩; refine ⟨_, rfl, ?_⟩; have n0_ := Aside0.mk (Kd.R_below (by (with_reducible repeat (first | apply Kd.R_alloc | apply Kd.R_drewN | apply Kd.R_drew)); exact HO_292000.out) hb); have n1_ := Aside0.mk (blk_below (g := gb291) (o := .cells #[.slice Ao7 t286.length co7, .int .i64 t289, .bool true] 78 (0, 0)) (by (with_reducible repeat (first | refine blk_drewN ?_ _ | refine blk_drew ?_ | refine blk_alloc ?_ _)); exact BK291.out) hb); have n2_ := Aside0.mk (below_step (by repeat (first | (with_reducible first | exact HB.out | apply below_alloc | apply pw_below_drewN | apply below_drew1 | refine below_set ?_ GE291.out) | exact HB.out)) hb); clear HO_292000; clear BK291; clear HB; have HO_292000 := n0_; have BK291 := n1_; have HB := n2_; clear n0_ n1_ n2_; (try clear hb); (try clear hb2); (try clear hk); (try clear hi)))
              go_ret
              exact ⟨by first | rfl | (simp [errW_none, errW_some] <;> rfl) | (simp only [← hji17, ← hji19, ← hji22]; first | rfl | (simp [errW_none, errW_some] <;> rfl)) | (simp [*, errW_none, errW_some] <;> rfl), by repeat (first | (with_reducible first | exact HB.out | apply below_alloc | apply pw_below_drewN | apply below_drew1 | refine below_set ?_ GE291.out) | exact HB.out)⟩
            · rw [if_neg c20] at H
              have c20b0 : decide ((ji19) ≤ a1) = false := decide_eq_false c20
              clear c20
              obtain rfl := Option.some.inj H
              have hcz25_0 : wc.cell? ⟨gb291, 0, none⟩ = some (.slice Ao7 t286.length co7) := (blk_cell BK291.out 0).trans rfl
              have hcz25_1 : wc.cell? ⟨gb291, 1, none⟩ = some (.int .i64 t289) := (blk_cell BK291.out 1).trans rfl
              have hcz25_2 : wc.cell? ⟨gb291, 2, none⟩ = some (.bool true) := (blk_cell BK291.out 2).trans rfl
              have hfz25_0 := blk_frozen BK291.out 0
              have hfz25_1 := blk_frozen BK291.out 1
              have hfz25_2 := blk_frozen BK291.out 2
              go_wp2_with (first | ((with_reducible refine gate_callee (f := 43) rfl ?_); refine goesL_ (some 25) rfl rfl Try.func43 (by kernel_rfl) rfl #[.agg #[.slice Ao7 t286.length co7, .int .i64 t289, .bool true]] rfl (by (try simp only [List.map_toArray, List.map_cons, List.map_nil]); first | done | rfl | (simp only [List.length_drop, List.length_take]; rfl)) ?_; (with_reducible refine (fields_shape_size.calls kj3 _ _ t286 t289 true t292 _ ?side1 ?side2 A16.out).mono ?_); (case side1 => repeat (first | exact (Kd.R_reads' HO_292000.out).2.2 | (with_reducible refine Kd.C_alloc ?_ _) | (with_reducible refine Kd.C_drewN ?_ _) | (with_reducible refine Kd.C_drew ?_))); (case side2 => exact (Kd.R_reads' HO_292000.out).2.1); rintro e w26 ⟨rfl, hb⟩; refine ⟨_, rfl, ?_⟩; have n0_ := Aside0.mk (Kd.R_below (by (with_reducible repeat (first | apply Kd.R_alloc | apply Kd.R_drewN | apply Kd.R_drew)); exact HO_292000.out) hb); have n1_ := Aside0.mk (blk_below (g := gb291) (o := .cells #[.slice Ao7 t286.length co7, .int .i64 t289, .bool true] 78 (0, 0)) (by (with_reducible repeat (first | refine blk_drewN ?_ _ | refine blk_drew ?_ | refine blk_alloc ?_ _)); exact BK291.out) hb); have n2_ := Aside0.mk (below_step (by repeat (first | (with_reducible first | exact HB.out | apply below_alloc | apply pw_below_drewN | apply below_drew1 | refine below_set ?_ GE291.out) | exact HB.out)) hb); clear HO_292000; clear BK291; clear HB; have HO_292000 := n0_; have BK291 := n1_; have HB := n2_; clear n0_ n1_ n2_; (try clear hb); (try clear hb2); (try clear hk); (try clear hi)))
              go_ret
              exact ⟨by first | rfl | (simp [errW_none, errW_some] <;> rfl) | (simp only [← hji17, ← hji19]; first | rfl | (simp [errW_none, errW_some] <;> rfl)) | (simp [*, errW_none, errW_some] <;> rfl), by repeat (first | (with_reducible first | exact HB.out | apply below_alloc | apply pw_below_drewN | apply below_drew1 | refine below_set ?_ GE291.out) | exact HB.out)⟩
          · rw [if_neg c18] at H
            exact absurd H (by simp)
        · replace c15 := Bool.eq_false_iff.mpr c15
          subst c15
          have H1 : (if a1 ≥ 0 then ((fields_shape_size.f kj3 t286 t289 false).bind fun t293 => (if 0 ≤ t293 then (some (decide (a1 < (shl .i64 1 t293)))) else (none))) else (some false)) = some r := by rw [if_neg (show ¬ (false = true) by decide)] at H; exact H
          clear H
          have H := H1
          clear H1
          by_cases c27 : a1 ≥ 0
          · rw [if_pos c27] at H
            have c27b0 : decide (0 ≤ a1) = true := decide_eq_true c27
            clear c27
            replace H := Option.bind_eq_some_iff.mp H
            obtain ⟨t293, A280, H⟩ := H
            replace H : (if 0 ≤ t293 then (some (decide (a1 < (shl .i64 1 t293)))) else (none)) = some r := H
            have A28 := Aside0.mk A280
            clear A280
            by_cases c29 : 0 ≤ t293
            · rw [if_pos c29] at H
              have c29b0 := eq_true c29
              have c29b1 : decide (0 ≤ t293) = true := decide_eq_true c29
              clear c29
              obtain ⟨ji30, hji30⟩ : ∃ j_ : Int, (shl .i64 1 t293) = j_ := ⟨_, rfl⟩
              replace H : (some (decide (a1 < (ji30)))) = some r := by first | (rw [hji30] at H; exact H) | (simp only [hji30] at H ⊢; exact H)
              (try rw [hji30] at A28)
              have hji30_ : (IntKind.i64.wrap (1 * 2 ^ min t293.toNat 64)) = ji30 := hji30
              have hji30z : t293 ≤ 64 → (IntKind.i64.wrap (1 * 2 ^ t293.toNat)) = ji30 := shl_small hji30
              have hji30u : (IntKind.i64.wrap (2 ^ min t293.toNat 64)) = ji30 := by have h_ := hji30_; rw [Int.one_mul] at h_; exact h_
              have hji30v : t293 ≤ 64 → (IntKind.i64.wrap (2 ^ t293.toNat)) = ji30 := fun hle_ => by have h_ := hji30z hle_; rw [Int.one_mul] at h_; exact h_
              have hji30y : (wrap64 (1 * 2 ^ min t293.toNat 64)) = ji30 := (i64_w _).symm.trans hji30_
              have hji30x : t293 ≤ 64 → (wrap64 (1 * 2 ^ t293.toNat)) = ji30 := fun h_ => (i64_w _).symm.trans (hji30z h_)
              obtain rfl := Option.some.inj H
              have hcz31_0 : wc.cell? ⟨gb291, 0, none⟩ = some (.slice Ao7 t286.length co7) := (blk_cell BK291.out 0).trans rfl
              have hcz31_1 : wc.cell? ⟨gb291, 1, none⟩ = some (.int .i64 t289) := (blk_cell BK291.out 1).trans rfl
              have hcz31_2 : wc.cell? ⟨gb291, 2, none⟩ = some (.bool false) := (blk_cell BK291.out 2).trans rfl
              have hfz31_0 := blk_frozen BK291.out 0
              have hfz31_1 := blk_frozen BK291.out 1
              have hfz31_2 := blk_frozen BK291.out 2
              go_wp2_with (first | (go_at_call 43; (with_reducible refine (fields_shape_size.calls kj3 _ _ t286 t289 false t293 _ ?side1 ?side2 A28.out).mono ?_); (case side1 => repeat (first | exact (Kd.R_reads' HO_292000.out).2.2 | (with_reducible refine Kd.C_alloc ?_ _) | (with_reducible refine Kd.C_drewN ?_ _) | (with_reducible refine Kd.C_drew ?_))); (case side2 => exact (Kd.R_reads' HO_292000.out).2.1); rintro e w32 ⟨rfl, hb⟩; have n0_ := Aside0.mk (Kd.R_below (by (with_reducible repeat (first | apply Kd.R_alloc | apply Kd.R_drewN | apply Kd.R_drew)); exact HO_292000.out) hb); have n1_ := Aside0.mk (blk_below (g := gb291) (o := .cells #[.slice Ao7 t286.length co7, .int .i64 t289, .bool false] 78 (0, 0)) (by (with_reducible repeat (first | refine blk_drewN ?_ _ | refine blk_drew ?_ | refine blk_alloc ?_ _)); exact BK291.out) hb); have n2_ := Aside0.mk (below_step (by repeat (first | (with_reducible first | exact HB.out | apply below_alloc | apply pw_below_drewN | apply below_drew1 | refine below_set ?_ GE291.out) | exact HB.out)) hb); clear HO_292000; clear BK291; clear HB; have HO_292000 := n0_; have BK291 := n1_; have HB := n2_; clear n0_ n1_ n2_; (try clear hb); (try clear hb2); (try clear hk); (try clear hi)))
              go_ret
              exact ⟨by first | rfl | (simp [errW_none, errW_some] <;> rfl) | (simp only [← hji30]; first | rfl | (simp [errW_none, errW_some] <;> rfl)) | (simp [*, errW_none, errW_some] <;> rfl), by repeat (first | (with_reducible first | exact HB.out | apply below_alloc | apply pw_below_drewN | apply below_drew1 | refine below_set ?_ GE291.out) | exact HB.out)⟩
            · rw [if_neg c29] at H
              exact absurd H (by simp)
          · rw [if_neg c27] at H
            have c27b0 : decide (0 ≤ a1) = false := decide_eq_false c27
            clear c27
            obtain rfl := Option.some.inj H
            have hcz33_0 : wc.cell? ⟨gb291, 0, none⟩ = some (.slice Ao7 t286.length co7) := (blk_cell BK291.out 0).trans rfl
            have hcz33_1 : wc.cell? ⟨gb291, 1, none⟩ = some (.int .i64 t289) := (blk_cell BK291.out 1).trans rfl
            have hcz33_2 : wc.cell? ⟨gb291, 2, none⟩ = some (.bool false) := (blk_cell BK291.out 2).trans rfl
            have hfz33_0 := blk_frozen BK291.out 0
            have hfz33_1 := blk_frozen BK291.out 1
            have hfz33_2 := blk_frozen BK291.out 2
            go_wp2
            go_ret
            exact ⟨by first | rfl | (simp [errW_none, errW_some] <;> rfl) | (simp [*, errW_none, errW_some] <;> rfl), by repeat (first | (with_reducible first | exact HB.out | apply below_alloc | apply pw_below_drewN | apply below_drew1 | refine below_set ?_ GE291.out) | exact HB.out)⟩

/-! ### fields_Put: function 26 -/
def fields_Put.l0 : Nat → Int → Int → Int → List (S82) → Int → Bool → Option (Int × Bool)
  | 0, _, _, _, _, _, _ => none
  | k + 1, x4, x7, x8, x301000, x301001, x301002 => if x8 ≥ 0 then (if 0 ≤ x8 then (if x8 < (x301000.length : Int) then (if 0 ≤ (wrap64 ((wrap64 (((rd_T82 x301000 x8).f0) - ((rd_T82 x301000 x8).f1))) + 1)) then (if 0 ≤ ((rd_T82 x301000 x8).f1) then (fields_Put.l0 k (Go.bits .or .u32 x4 (shl .u32 ((Go.bits .and .u64 x7 (IntKind.u64.wrap ((shl .u64 1 (wrap64 ((wrap64 (((rd_T82 x301000 x8).f0) - ((rd_T82 x301000 x8).f1))) + 1))) - 1))) % 4294967296) ((rd_T82 x301000 x8).f1))) (shr .u64 x7 (wrap64 ((wrap64 (((rd_T82 x301000 x8).f0) - ((rd_T82 x301000 x8).f1))) + 1))) (wrap64 (x8 - 1)) x301000 x301001 x301002) else (none)) else (none)) else (none)) else (none)) else (some (x4, true))
def fields_Put.f (k : Nat) (a0 : Int) (a1 : Int) : Option (Int × Bool) := (fields_Fits.f k a0 a1).bind fun t294 => (if t294 = true then ((fields_shapeOf.f a0).bind fun bt295 => (if 0 ≤ bt295.2.1 then (fields_Put.l0 k 0 (shr .u64 (IntKind.u64.wrap (a1)) bt295.2.1) (wrap64 ((bt295.1.length : Int) - 1)) bt295.1 bt295.2.1 bt295.2.2) else (none))) else (some (0, false)))
theorem fields_Put.mono_l : ∀ k, (∀ y0 y1 y2 y3 y4 y5, LeO (fields_Put.l0 k y0 y1 y2 y3 y4 y5) (fields_Put.l0 (k + 1) y0 y1 y2 y3 y4 y5))
  | 0 => fun _ _ _ _ _ _ r h => by simp [fields_Put.l0] at h
  | k + 1 => by
    have ih0 := fields_Put.mono_l k
    · intro y0 y1 y2 y3 y4 y5
      unfold fields_Put.l0
      repeat' first
      | (with_reducible exact ih0 _ _ _ _ _ _)
      | (with_reducible exact fields_Fits.mono _ _ _)
      | (with_reducible exact LeO.refl _)
      | (with_reducible exact LeO.none _)
      | (with_reducible refine LeO.ite ?_ ?_)
      | (with_reducible refine LeO.bind ?_ (fun _ => ?_))
      | exact ih0 _ _ _ _ _ _
      | exact fields_Fits.mono _ _ _
      | exact LeO.none _
      | refine LeO.ite ?_ ?_
      | refine LeO.bind ?_ (fun _ => ?_)
theorem fields_Put.mono : ∀ a0 a1 k, LeO (fields_Put.f k a0 a1) (fields_Put.f (k + 1) a0 a1) := by
  intro a0 a1 k
  have ih0 := fields_Put.mono_l k
  unfold fields_Put.f
  repeat' first
      | (with_reducible exact ih0 _ _ _ _ _ _)
      | (with_reducible exact fields_Fits.mono _ _ _)
      | (with_reducible exact LeO.refl _)
      | (with_reducible exact LeO.none _)
      | (with_reducible refine LeO.ite ?_ ?_)
      | (with_reducible refine LeO.bind ?_ (fun _ => ?_))
      | exact ih0 _ _ _ _ _ _
      | exact fields_Fits.mono _ _ _
      | exact LeO.none _
      | refine LeO.ite ?_ ?_
      | refine LeO.bind ?_ (fun _ => ?_)
set_option maxHeartbeats 8000000 in
set_option maxRecDepth 100000 in
theorem fields_Put.calls (k : Nat) (a0 : Int) (a1 : Int) (r1 : Int) (r2 : Bool) (w : World) (h : fields_Put.f k a0 a1 = some (r1, r2)) :
    Calls Try.prog 26 #[.int .i64 a0, .int .i64 a1] w fun e w' => e = .returned (.tuple #[.int .u32 r1, .bool r2]) ∧ Below w.heap.size w w' := by
  have hu78 := Try.underlying78
  have hu82 := Try.underlying82
  have HB := Aside0.mk (Below.refl w.heap.size w)
  have H : ((fields_Fits.f k a0 a1).bind fun t294 => (if t294 = true then ((fields_shapeOf.f a0).bind fun bt295 => (if 0 ≤ bt295.2.1 then (fields_Put.l0 k 0 (shr .u64 (IntKind.u64.wrap (a1)) bt295.2.1) (wrap64 ((bt295.1.length : Int) - 1)) bt295.1 bt295.2.1 bt295.2.2) else (none))) else (some (0, false)))) = some (r1, r2) := h
  clear h
  replace H := Option.bind_eq_some_iff.mp H
  obtain ⟨t294, A30, H⟩ := H
  replace H : (if t294 = true then ((fields_shapeOf.f a0).bind fun bt295 => (if 0 ≤ bt295.2.1 then (fields_Put.l0 k 0 (shr .u64 (IntKind.u64.wrap (a1)) bt295.2.1) (wrap64 ((bt295.1.length : Int) - 1)) bt295.1 bt295.2.1 bt295.2.2) else (none))) else (some (0, false))) = some (r1, r2) := H
  have A3 := Aside0.mk A30
  clear A30
  by_cases c4 : t294 = true
  · subst c4
    have H1 : ((fields_shapeOf.f a0).bind fun bt295 => (if 0 ≤ bt295.2.1 then (fields_Put.l0 k 0 (shr .u64 (IntKind.u64.wrap (a1)) bt295.2.1) (wrap64 ((bt295.1.length : Int) - 1)) bt295.1 bt295.2.1 bt295.2.2) else (none))) = some (r1, r2) := by rw [if_pos rfl] at H; exact H
    clear H
    have H := H1
    clear H1
    replace H := Option.bind_eq_some_iff.mp H
    obtain ⟨⟨t295, t298, t299⟩, A50, H⟩ := H
    replace H : (if 0 ≤ t298 then (fields_Put.l0 k 0 (shr .u64 (IntKind.u64.wrap (a1)) t298) (wrap64 ((t295.length : Int) - 1)) t295 t298 t299) else (none)) = some (r1, r2) := H
    have A5 := Aside0.mk A50
    clear A50
    by_cases c6 : 0 ≤ t298
    · rw [if_pos c6] at H
      have c6b0 := eq_true c6
      have c6b1 : decide (0 ≤ t298) = true := decide_eq_true c6
      clear c6
      obtain ⟨ji7, hji7⟩ : ∃ j_ : Int, (shr .u64 (IntKind.u64.wrap (a1)) t298) = j_ := ⟨_, rfl⟩
      replace H : (fields_Put.l0 k 0 ji7 (wrap64 ((t295.length : Int) - 1)) t295 t298 t299) = some (r1, r2) := by first | (rw [hji7] at H; exact H) | (simp only [hji7] at H ⊢; exact H)
      (try rw [hji7] at A3)
      (try rw [hji7] at A5)
      have hji7_ : ((IntKind.u64.wrap (a1)) / 2 ^ min t298.toNat 64) = ji7 := hji7
      have hji7z : t298 ≤ 64 → ((IntKind.u64.wrap (a1)) / 2 ^ t298.toNat) = ji7 := shr_small hji7
      have H' := Aside0.mk H
      clear H
      go_enter Try.func26, Try.ntmps26
      go_wp2_with (first | (go_at_call 37; (with_reducible refine (fields_Fits.calls k a0 a1 true _ A3.out).mono ?_); rintro e w8 ⟨rfl, hb⟩; have n0_ := Aside0.mk (below_step (by repeat (first | (with_reducible first | exact HB.out | apply below_alloc | apply pw_below_drewN | apply below_drew1) | exact HB.out)) hb); clear HB; have HB := n0_; clear n0_; (try clear hb); (try clear hb2); (try clear hk); (try clear hi)) | (go_at_call 38; (with_reducible refine (fields_shapeOf.calls a0 t295 t298 t299 _ A5.out).mono ?_); rintro e w9 ⟨v296, rfl, ho0, hb⟩; have n0_ := Aside0.mk (Kd.R_lower ho0 (below_size (by repeat (first | (with_reducible first | exact HB.out | apply below_alloc | apply pw_below_drewN | apply below_drew1) | exact HB.out)))); have n1_ := Aside0.mk (below_step (by repeat (first | (with_reducible first | exact HB.out | apply below_alloc | apply pw_below_drewN | apply below_drew1) | exact HB.out)) hb); clear HB; have HO297 := n0_; have HB := n1_; clear n0_ n1_; (try clear hb); (try clear hb2); (try clear hk); (try clear hi); (try clear ho0)) | ((with_reducible refine gate_dst (N := 6) rfl ?_); refine box_event ?hg (N := 6) ?hd (cs := #[.slice none 0 0, .int .i64 0, .bool false]) (t := 78) ?hr ?_; (case hd => rfl); (case hg => rfl); (case hr => first | (go_simp; done) | (go_simp; rfl)); intro gb300 hg w10 hbox hb; have n0_ := Aside0.mk (Kd.R_below (by (with_reducible repeat (first | apply Kd.R_alloc | apply Kd.R_drewN | apply Kd.R_drew)); exact HO297.out) hb); have n1_ := Aside0.mk (below_step (by repeat (first | (with_reducible first | exact HB.out | apply below_alloc | apply pw_below_drewN | apply below_drew1) | exact HB.out)) hb); have n2_ := Aside0.mk (hbox); have n3_ := Aside0.mk ((by rw [hg]; exact (below_size (by repeat (first | (with_reducible first | exact HB.out | apply below_alloc | apply pw_below_drewN | apply below_drew1) | exact HB.out))) : w.heap.size ≤ gb300)); have n4_ := Aside0.mk ((by rw [hg]; exact (below_size (by repeat (first | (with_reducible first | exact HB.out | apply below_alloc | apply pw_below_drewN | apply below_drew1) | exact HB.out))) : w.heap.size ≤ gb300)); clear HO297; clear HB; have HO297 := n0_; have HB := n1_; have BK300 := n2_; have GW300 := n3_; have GE300 := n4_; clear n0_ n1_ n2_ n3_ n4_; clear hb hbox hg; obtain ⟨Ao11, co11, eo11⟩ := Kd.R_slice HO297.out; subst eo11; have hcz12_0 : w10.cell? ⟨gb300, 0, none⟩ = some (.slice none 0 0) := (blk_cell BK300.out 0).trans rfl; have hcz12_1 : w10.cell? ⟨gb300, 1, none⟩ = some (.int .i64 0) := (blk_cell BK300.out 1).trans rfl; have hcz12_2 : w10.cell? ⟨gb300, 2, none⟩ = some (.bool false) := (blk_cell BK300.out 2).trans rfl; have hfz12_0 := blk_frozen BK300.out 0; have hfz12_1 := blk_frozen BK300.out 1; have hfz12_2 := blk_frozen BK300.out 2))
      repeat (go_quiet (first | (go_at_call 37; (with_reducible refine (fields_Fits.calls k a0 a1 true _ A3.out).mono ?_); rintro e w8 ⟨rfl, hb⟩; have n0_ := Aside0.mk (below_step (by repeat (first | (with_reducible first | exact HB.out | apply below_alloc | apply pw_below_drewN | apply below_drew1) | exact HB.out)) hb); clear HB; have HB := n0_; clear n0_; (try clear hb); (try clear hb2); (try clear hk); (try clear hi)) | (go_at_call 38; (with_reducible refine (fields_shapeOf.calls a0 t295 t298 t299 _ A5.out).mono ?_); rintro e w9 ⟨v296, rfl, ho0, hb⟩; have n0_ := Aside0.mk (Kd.R_lower ho0 (below_size (by repeat (first | (with_reducible first | exact HB.out | apply below_alloc | apply pw_below_drewN | apply below_drew1) | exact HB.out)))); have n1_ := Aside0.mk (below_step (by repeat (first | (with_reducible first | exact HB.out | apply below_alloc | apply pw_below_drewN | apply below_drew1) | exact HB.out)) hb); clear HB; have HO297 := n0_; have HB := n1_; clear n0_ n1_; (try clear hb); (try clear hb2); (try clear hk); (try clear hi); (try clear ho0)) | ((with_reducible refine gate_dst (N := 6) rfl ?_); refine box_event ?hg (N := 6) ?hd (cs := #[.slice none 0 0, .int .i64 0, .bool false]) (t := 78) ?hr ?_; (case hd => rfl); (case hg => rfl); (case hr => first | (go_simp; done) | (go_simp; rfl)); intro gb300 hg w10 hbox hb; have n0_ := Aside0.mk (Kd.R_below (by (with_reducible repeat (first | apply Kd.R_alloc | apply Kd.R_drewN | apply Kd.R_drew)); exact HO297.out) hb); have n1_ := Aside0.mk (below_step (by repeat (first | (with_reducible first | exact HB.out | apply below_alloc | apply pw_below_drewN | apply below_drew1) | exact HB.out)) hb); have n2_ := Aside0.mk (hbox); have n3_ := Aside0.mk ((by rw [hg]; exact (below_size (by repeat (first | (with_reducible first | exact HB.out | apply below_alloc | apply pw_below_drewN | apply below_drew1) | exact HB.out))) : w.heap.size ≤ gb300)); have n4_ := Aside0.mk ((by rw [hg]; exact (below_size (by repeat (first | (with_reducible first | exact HB.out | apply below_alloc | apply pw_below_drewN | apply below_drew1) | exact HB.out))) : w.heap.size ≤ gb300)); clear HO297; clear HB; have HO297 := n0_; have HB := n1_; have BK300 := n2_; have GW300 := n3_; have GE300 := n4_; clear n0_ n1_ n2_ n3_ n4_; clear hb hbox hg; obtain ⟨Ao11, co11, eo11⟩ := Kd.R_slice HO297.out; subst eo11; have hcz12_0 : w10.cell? ⟨gb300, 0, none⟩ = some (.slice none 0 0) := (blk_cell BK300.out 0).trans rfl; have hcz12_1 : w10.cell? ⟨gb300, 1, none⟩ = some (.int .i64 0) := (blk_cell BK300.out 1).trans rfl; have hcz12_2 : w10.cell? ⟨gb300, 2, none⟩ = some (.bool false) := (blk_cell BK300.out 2).trans rfl; have hfz12_0 := blk_frozen BK300.out 0; have hfz12_1 := blk_frozen BK300.out 1; have hfz12_2 := blk_frozen BK300.out 2)); try go_wp2_with (first | (go_at_call 37; (with_reducible refine (fields_Fits.calls k a0 a1 true _ A3.out).mono ?_); rintro e w8 ⟨rfl, hb⟩; have n0_ := Aside0.mk (below_step (by repeat (first | (with_reducible first | exact HB.out | apply below_alloc | apply pw_below_drewN | apply below_drew1) | exact HB.out)) hb); clear HB; have HB := n0_; clear n0_; (try clear hb); (try clear hb2); (try clear hk); (try clear hi)) | (go_at_call 38; (with_reducible refine (fields_shapeOf.calls a0 t295 t298 t299 _ A5.out).mono ?_); rintro e w9 ⟨v296, rfl, ho0, hb⟩; have n0_ := Aside0.mk (Kd.R_lower ho0 (below_size (by repeat (first | (with_reducible first | exact HB.out | apply below_alloc | apply pw_below_drewN | apply below_drew1) | exact HB.out)))); have n1_ := Aside0.mk (below_step (by repeat (first | (with_reducible first | exact HB.out | apply below_alloc | apply pw_below_drewN | apply below_drew1) | exact HB.out)) hb); clear HB; have HO297 := n0_; have HB := n1_; clear n0_ n1_; (try clear hb); (try clear hb2); (try clear hk); (try clear hi); (try clear ho0)) | ((with_reducible refine gate_dst (N := 6) rfl ?_); refine box_event ?hg (N := 6) ?hd (cs := #[.slice none 0 0, .int .i64 0, .bool false]) (t := 78) ?hr ?_; (case hd => rfl); (case hg => rfl); (case hr => first | (go_simp; done) | (go_simp; rfl)); intro gb300 hg w10 hbox hb; have n0_ := Aside0.mk (Kd.R_below (by (with_reducible repeat (first | apply Kd.R_alloc | apply Kd.R_drewN | apply Kd.R_drew)); exact HO297.out) hb); have n1_ := Aside0.mk (below_step (by repeat (first | (with_reducible first | exact HB.out | apply below_alloc | apply pw_below_drewN | apply below_drew1) | exact HB.out)) hb); have n2_ := Aside0.mk (hbox); have n3_ := Aside0.mk ((by rw [hg]; exact (below_size (by repeat (first | (with_reducible first | exact HB.out | apply below_alloc | apply pw_below_drewN | apply below_drew1) | exact HB.out))) : w.heap.size ≤ gb300)); have n4_ := Aside0.mk ((by rw [hg]; exact (below_size (by repeat (first | (with_reducible first | exact HB.out | apply below_alloc | apply pw_below_drewN | apply below_drew1) | exact HB.out))) : w.heap.size ≤ gb300)); clear HO297; clear HB; have HO297 := n0_; have HB := n1_; have BK300 := n2_; have GW300 := n3_; have GE300 := n4_; clear n0_ n1_ n2_ n3_ n4_; clear hb hbox hg; obtain ⟨Ao11, co11, eo11⟩ := Kd.R_slice HO297.out; subst eo11; have hcz12_0 : w10.cell? ⟨gb300, 0, none⟩ = some (.slice none 0 0) := (blk_cell BK300.out 0).trans rfl; have hcz12_1 : w10.cell? ⟨gb300, 1, none⟩ = some (.int .i64 0) := (blk_cell BK300.out 1).trans rfl; have hcz12_2 : w10.cell? ⟨gb300, 2, none⟩ = some (.bool false) := (blk_cell BK300.out 2).trans rfl; have hfz12_0 := blk_frozen BK300.out 0; have hfz12_1 := blk_frozen BK300.out 1; have hfz12_2 := blk_frozen BK300.out 2)))
      go_loopg [4, 7, 8] k (fun kq v4 v7 v8 w' => ∃ (x4_1 : Int) (x7_1 : Int) (x8_1 : Int), v4 = .int .u32 x4_1 ∧ v7 = .int .u64 x7_1 ∧ v8 = .int .i64 x8_1 ∧ Aside0 (fields_Put.l0 kq x4_1 x7_1 x8_1 t295 t298 t299 = some (r1, r2)) ∧ Aside0 (kq ≤ k) ∧ Aside0 (Kd.R k82 82 w' w.heap.size (fun _ => True) (.slice Ao11 t295.length co11) t295) ∧ Aside0 (w'.heap[gb300]? = some (.cells #[(.slice Ao11 t295.length co11), .int .i64 t298, .bool t299] 78 (0, 0))) ∧ Aside0 (Below w.heap.size w w'))
      case atStart => exact ⟨(0), (ji7), (wrap64 ((t295.length : Int) - 1)), (by first | rfl | (simp; done) | (simp [*]; done)), (by first | rfl | (simp; done) | (simp only [← hji7] <;> (first | rfl | simp)) | (simp [*]; done)), (by first | rfl | (simp; done) | (simp [*]; done)), H', ⟨Nat.le_refl _⟩, ⟨by (with_reducible repeat (first | apply Kd.R_alloc | apply Kd.R_drewN | apply Kd.R_drew)); exact Kd.R_mono (Kd.R_far (p := ⟨gb300, 2, none⟩) (Kd.R_far (p := ⟨gb300, 1, none⟩) (Kd.R_far (p := ⟨gb300, 0, none⟩) (Kd.R_types HO297.out BK300.out (by decide)) (fun _ hk => hk.2) (.slice Ao11 t295.length co11)) (fun _ hk => hk.2) (.int .i64 t298)) (fun _ hk => hk.2) (.bool t299)) (fun _ hk => trivial)⟩, ⟨by (with_reducible repeat (first | refine blk_drewN ?_ _ | refine blk_drew ?_ | refine blk_alloc ?_ _)); refine blk_put (cs := #[.slice Ao11 t295.length co11, .int .i64 t298, .bool false]) ?_ 2 _ rfl; (with_reducible repeat (first | refine blk_drewN ?_ _ | refine blk_drew ?_ | refine blk_alloc ?_ _)); refine blk_put (cs := #[.slice Ao11 t295.length co11, .int .i64 0, .bool false]) ?_ 1 _ rfl; (with_reducible repeat (first | refine blk_drewN ?_ _ | refine blk_drew ?_ | refine blk_alloc ?_ _)); refine blk_put (cs := #[.slice none 0 0, .int .i64 0, .bool false]) ?_ 0 _ rfl; (with_reducible repeat (first | refine blk_drewN ?_ _ | refine blk_drew ?_ | refine blk_alloc ?_ _)); exact BK300.out⟩, ⟨by repeat (first | (with_reducible first | exact HB.out | apply below_alloc | apply pw_below_drewN | apply below_drew1 | refine below_set ?_ GE300.out) | exact HB.out)⟩⟩
      case round =>
        clear H'
        try clear c2
        try clear p2
        try clear c4
        try clear c6
        try clear c6b0
        try clear c6b1
        try clear p6
        try clear hcz12_0
        try clear hcz12_1
        try clear hcz12_2
        try clear hfz12_0
        try clear hfz12_1
        try clear hfz12_2
        obtain ⟨x4_1, x7_1, x8_1, rfl, rfl, rfl, HA, HK1, HO_301000, BK300, HB⟩ := hrel
        cases gk with
        | zero => exact absurd HA.out (by simp [fields_Put.l0])
        | succ k1 =>
          have H := HA.out
          clear HA
          simp only [fields_Put.l0] at H
          by_cases c13 : x8_1 ≥ 0
          · rw [if_pos c13] at H
            have c13b0 : decide (0 ≤ x8_1) = true := decide_eq_true c13
            clear c13
            by_cases c14 : 0 ≤ x8_1
            · rw [if_pos c14] at H
              have c14b0 : decide (0 ≤ x8_1) = true := decide_eq_true c14
              clear c14
              by_cases c15 : x8_1 < (t295.length : Int)
              · rw [if_pos c15] at H
                have c15b0 : decide (x8_1 < (t295.length : Int)) = true := decide_eq_true c15
                clear c15
                obtain ⟨ji16, hji16⟩ : ∃ j_ : Int, (wrap64 ((wrap64 (((rd_T82 t295 x8_1).f0) - ((rd_T82 t295 x8_1).f1))) + 1)) = j_ := ⟨_, rfl⟩
                replace H : (if 0 ≤ (ji16) then (if 0 ≤ ((rd_T82 t295 x8_1).f1) then (fields_Put.l0 k1 (Go.bits .or .u32 x4_1 (shl .u32 ((Go.bits .and .u64 x7_1 (IntKind.u64.wrap ((shl .u64 1 (ji16)) - 1))) % 4294967296) ((rd_T82 t295 x8_1).f1))) (shr .u64 x7_1 (ji16)) (wrap64 (x8_1 - 1)) t295 t298 t299) else (none)) else (none)) = some (r1, r2) := by first | (rw [hji16] at H; exact H) | (simp only [hji16] at H ⊢; exact H)
                have hji16w : (IntKind.i64.wrap ((wrap64 (((rd_T82 t295 x8_1).f0) - ((rd_T82 t295 x8_1).f1))) + 1)) = ji16 := (i64_w _).trans hji16
                by_cases c17 : 0 ≤ (ji16)
                · rw [if_pos c17] at H
                  have c17b0 := eq_true c17
                  have c17b1 : decide (0 ≤ (ji16)) = true := decide_eq_true c17
                  clear c17
                  obtain ⟨ji18, hji18⟩ : ∃ j_ : Int, (shl .u64 1 (ji16)) = j_ := ⟨_, rfl⟩
                  replace H : (if 0 ≤ ((rd_T82 t295 x8_1).f1) then (fields_Put.l0 k1 (Go.bits .or .u32 x4_1 (shl .u32 ((Go.bits .and .u64 x7_1 (IntKind.u64.wrap ((ji18) - 1))) % 4294967296) ((rd_T82 t295 x8_1).f1))) (shr .u64 x7_1 (ji16)) (wrap64 (x8_1 - 1)) t295 t298 t299) else (none)) = some (r1, r2) := by first | (rw [hji18] at H; exact H) | (simp only [hji18] at H ⊢; exact H)
                  have hji18_ : (IntKind.u64.wrap (1 * 2 ^ min (ji16).toNat 64)) = ji18 := hji18
                  have hji18z : (ji16) ≤ 64 → (IntKind.u64.wrap (1 * 2 ^ (ji16).toNat)) = ji18 := shl_small hji18
                  have hji18u : (IntKind.u64.wrap (2 ^ min (ji16).toNat 64)) = ji18 := by have h_ := hji18_; rw [Int.one_mul] at h_; exact h_
                  have hji18v : (ji16) ≤ 64 → (IntKind.u64.wrap (2 ^ (ji16).toNat)) = ji18 := fun hle_ => by have h_ := hji18z hle_; rw [Int.one_mul] at h_; exact h_
                  by_cases c19 : 0 ≤ ((rd_T82 t295 x8_1).f1)
                  · rw [if_pos c19] at H
                    have c19b0 := eq_true c19
                    have c19b1 : decide (0 ≤ ((rd_T82 t295 x8_1).f1)) = true := decide_eq_true c19
                    clear c19
                    obtain ⟨ji20, hji20⟩ : ∃ j_ : Int, (shl .u32 ((Go.bits .and .u64 x7_1 (IntKind.u64.wrap ((ji18) - 1))) % 4294967296) ((rd_T82 t295 x8_1).f1)) = j_ := ⟨_, rfl⟩
                    replace H : (fields_Put.l0 k1 (Go.bits .or .u32 x4_1 (ji20)) (shr .u64 x7_1 (ji16)) (wrap64 (x8_1 - 1)) t295 t298 t299) = some (r1, r2) := by first | (rw [hji20] at H; exact H) | (simp only [hji20] at H ⊢; exact H)
                    have hji20_ : (IntKind.u32.wrap (((Go.bits .and .u64 x7_1 (IntKind.u64.wrap ((ji18) - 1))) % 4294967296) * 2 ^ min ((rd_T82 t295 x8_1).f1).toNat 32)) = ji20 := hji20
                    have hji20z : ((rd_T82 t295 x8_1).f1) ≤ 32 → (IntKind.u32.wrap (((Go.bits .and .u64 x7_1 (IntKind.u64.wrap ((ji18) - 1))) % 4294967296) * 2 ^ ((rd_T82 t295 x8_1).f1).toNat)) = ji20 := shl_small hji20
                    have c21b0 := eq_true (of_decide_eq_true (by first | (with_reducible assumption) | assumption) : 0 ≤ (ji16))
                    obtain ⟨ji22, hji22⟩ : ∃ j_ : Int, (shr .u64 x7_1 (ji16)) = j_ := ⟨_, rfl⟩
                    replace H : (fields_Put.l0 k1 (Go.bits .or .u32 x4_1 (ji20)) ji22 (wrap64 (x8_1 - 1)) t295 t298 t299) = some (r1, r2) := by first | (rw [hji22] at H; exact H) | (simp only [hji22] at H ⊢; exact H)
                    have hji22_ : (x7_1 / 2 ^ min (ji16).toNat 64) = ji22 := hji22
                    have hji22z : (ji16) ≤ 64 → (x7_1 / 2 ^ (ji16).toNat) = ji22 := shr_small hji22
                    have H' := Aside0.mk H
                    clear H
                    have hcz23_0 : wr.cell? ⟨gb300, 0, none⟩ = some (.slice Ao11 t295.length co11) := (blk_cell BK300.out 0).trans rfl
                    have hcz23_1 : wr.cell? ⟨gb300, 1, none⟩ = some (.int .i64 t298) := (blk_cell BK300.out 1).trans rfl
                    have hcz23_2 : wr.cell? ⟨gb300, 2, none⟩ = some (.bool t299) := (blk_cell BK300.out 2).trans rfl
                    have hfz23_0 := blk_frozen BK300.out 0
                    have hfz23_1 := blk_frozen BK300.out 1
                    have hfz23_2 := blk_frozen BK300.out 2
                    have p301 : 0 ≤ (x8_1 : Int) := of_decide_eq_true (by first | (with_reducible assumption) | assumption)
                    have q301 : x8_1 < (t295.length : Int) := of_decide_eq_true (by first | (with_reducible assumption) | assumption)
                    obtain ⟨ad301, e301, hx301_0, hx301_1⟩ := at_T82 (Kd.R_reads' HO_301000.out).2.2 x8_1 p301 q301
                    cases e301
                    replace p301 := eq_true p301
                    replace q301 := eq_true q301
                    go_wp2_with (first | ((with_reducible refine gate_dst (N := 9) rfl ?_); refine box_event ?hg (N := 9) ?hd (cs := #[.int .i64 0, .int .i64 0]) (t := 82) ?hr ?_; (case hd => rfl); (case hg => rfl); (case hr => first | (go_simp; done) | (go_simp; rfl)); intro gb302 hg w24 hbox hb; have n0_ := Aside0.mk (Kd.R_below (Kd.R_elderB (by (with_reducible repeat (first | apply Kd.R_alloc | apply Kd.R_drewN | apply Kd.R_drew)); exact HO_301000.out) gb302 (Nat.le_of_eq hg.symm)) hb); have n1_ := Aside0.mk (blk_below (g := gb300) (o := .cells #[.slice (some ad301) t295.length co11, .int .i64 t298, .bool t299] 78 (0, 0)) (by (with_reducible repeat (first | refine blk_drewN ?_ _ | refine blk_drew ?_ | refine blk_alloc ?_ _)); exact BK300.out) hb); have n2_ := Aside0.mk (below_step (by repeat (first | (with_reducible first | exact HB.out | apply below_alloc | apply pw_below_drewN | apply below_drew1 | refine below_set ?_ GE300.out) | exact HB.out)) hb); have n3_ := Aside0.mk (hbox); have n4_ := Aside0.mk ((by rw [hg]; exact (below_size (by repeat (first | (with_reducible first | exact HB.out | apply below_alloc | apply pw_below_drewN | apply below_drew1 | refine below_set ?_ GE300.out) | exact HB.out))) : w.heap.size ≤ gb302)); have n5_ := Aside0.mk ((by rw [hg]; exact (below_size (by repeat (first | (with_reducible first | exact HB.out | apply below_alloc | apply pw_below_drewN | apply below_drew1 | refine below_set ?_ GE300.out) | exact HB.out))) : w.heap.size ≤ gb302)); have n6_ := Aside0.mk ((by rw [hg]; exact Nat.ne_of_lt (blk_lt (g := gb300) (o := .cells #[.slice (some ad301) t295.length co11, .int .i64 t298, .bool t299] 78 (0, 0)) (by (with_reducible repeat (first | refine blk_drewN ?_ _ | refine blk_drew ?_ | refine blk_alloc ?_ _)); exact BK300.out)) : gb300 ≠ gb302)); have n7_ := Aside0.mk ((by rw [hg]; exact Nat.ne_of_gt (blk_lt (g := gb300) (o := .cells #[.slice (some ad301) t295.length co11, .int .i64 t298, .bool t299] 78 (0, 0)) (by (with_reducible repeat (first | refine blk_drewN ?_ _ | refine blk_drew ?_ | refine blk_alloc ?_ _)); exact BK300.out)) : gb302 ≠ gb300)); clear HO_301000; clear BK300; clear HB; have HO_301000 := n0_; have BK300 := n1_; have HB := n2_; have BK302 := n3_; have GW302 := n4_; have GE302 := n5_; have NB300_302 := n6_; have NB302_300 := n7_; clear n0_ n1_ n2_ n3_ n4_ n5_ n6_ n7_; clear hb hbox hg; have hnb25 := NB302_300.out; have hnc25 := NB300_302.out; have hcz26_0 : w24.cell? ⟨gb302, 0, none⟩ = some (.int .i64 0) := (blk_cell BK302.out 0).trans rfl; have hcz26_1 : w24.cell? ⟨gb302, 1, none⟩ = some (.int .i64 0) := (blk_cell BK302.out 1).trans rfl; have hfz26_0 := blk_frozen BK302.out 0; have hfz26_1 := blk_frozen BK302.out 1))
                    repeat (go_quiet (first | ((with_reducible refine gate_dst (N := 9) rfl ?_); refine box_event ?hg (N := 9) ?hd (cs := #[.int .i64 0, .int .i64 0]) (t := 82) ?hr ?_; (case hd => rfl); (case hg => rfl); (case hr => first | (go_simp; done) | (go_simp; rfl)); intro gb302 hg w24 hbox hb; have n0_ := Aside0.mk (Kd.R_below (Kd.R_elderB (by (with_reducible repeat (first | apply Kd.R_alloc | apply Kd.R_drewN | apply Kd.R_drew)); exact HO_301000.out) gb302 (Nat.le_of_eq hg.symm)) hb); have n1_ := Aside0.mk (blk_below (g := gb300) (o := .cells #[.slice (some ad301) t295.length co11, .int .i64 t298, .bool t299] 78 (0, 0)) (by (with_reducible repeat (first | refine blk_drewN ?_ _ | refine blk_drew ?_ | refine blk_alloc ?_ _)); exact BK300.out) hb); have n2_ := Aside0.mk (below_step (by repeat (first | (with_reducible first | exact HB.out | apply below_alloc | apply pw_below_drewN | apply below_drew1 | refine below_set ?_ GE300.out) | exact HB.out)) hb); have n3_ := Aside0.mk (hbox); have n4_ := Aside0.mk ((by rw [hg]; exact (below_size (by repeat (first | (with_reducible first | exact HB.out | apply below_alloc | apply pw_below_drewN | apply below_drew1 | refine below_set ?_ GE300.out) | exact HB.out))) : w.heap.size ≤ gb302)); have n5_ := Aside0.mk ((by rw [hg]; exact (below_size (by repeat (first | (with_reducible first | exact HB.out | apply below_alloc | apply pw_below_drewN | apply below_drew1 | refine below_set ?_ GE300.out) | exact HB.out))) : w.heap.size ≤ gb302)); have n6_ := Aside0.mk ((by rw [hg]; exact Nat.ne_of_lt (blk_lt (g := gb300) (o := .cells #[.slice (some ad301) t295.length co11, .int .i64 t298, .bool t299] 78 (0, 0)) (by (with_reducible repeat (first | refine blk_drewN ?_ _ | refine blk_drew ?_ | refine blk_alloc ?_ _)); exact BK300.out)) : gb300 ≠ gb302)); have n7_ := Aside0.mk ((by rw [hg]; exact Nat.ne_of_gt (blk_lt (g := gb300) (o := .cells #[.slice (some ad301) t295.length co11, .int .i64 t298, .bool t299] 78 (0, 0)) (by (with_reducible repeat (first | refine blk_drewN ?_ _ | refine blk_drew ?_ | refine blk_alloc ?_ _)); exact BK300.out)) : gb302 ≠ gb300)); clear HO_301000; clear BK300; clear HB; have HO_301000 := n0_; have BK300 := n1_; have HB := n2_; have BK302 := n3_; have GW302 := n4_; have GE302 := n5_; have NB300_302 := n6_; have NB302_300 := n7_; clear n0_ n1_ n2_ n3_ n4_ n5_ n6_ n7_; clear hb hbox hg; have hnb25 := NB302_300.out; have hnc25 := NB300_302.out; have hcz26_0 : w24.cell? ⟨gb302, 0, none⟩ = some (.int .i64 0) := (blk_cell BK302.out 0).trans rfl; have hcz26_1 : w24.cell? ⟨gb302, 1, none⟩ = some (.int .i64 0) := (blk_cell BK302.out 1).trans rfl; have hfz26_0 := blk_frozen BK302.out 0; have hfz26_1 := blk_frozen BK302.out 1)); try go_wp2_with (first | ((with_reducible refine gate_dst (N := 9) rfl ?_); refine box_event ?hg (N := 9) ?hd (cs := #[.int .i64 0, .int .i64 0]) (t := 82) ?hr ?_; (case hd => rfl); (case hg => rfl); (case hr => first | (go_simp; done) | (go_simp; rfl)); intro gb302 hg w24 hbox hb; have n0_ := Aside0.mk (Kd.R_below (Kd.R_elderB (by (with_reducible repeat (first | apply Kd.R_alloc | apply Kd.R_drewN | apply Kd.R_drew)); exact HO_301000.out) gb302 (Nat.le_of_eq hg.symm)) hb); have n1_ := Aside0.mk (blk_below (g := gb300) (o := .cells #[.slice (some ad301) t295.length co11, .int .i64 t298, .bool t299] 78 (0, 0)) (by (with_reducible repeat (first | refine blk_drewN ?_ _ | refine blk_drew ?_ | refine blk_alloc ?_ _)); exact BK300.out) hb); have n2_ := Aside0.mk (below_step (by repeat (first | (with_reducible first | exact HB.out | apply below_alloc | apply pw_below_drewN | apply below_drew1 | refine below_set ?_ GE300.out) | exact HB.out)) hb); have n3_ := Aside0.mk (hbox); have n4_ := Aside0.mk ((by rw [hg]; exact (below_size (by repeat (first | (with_reducible first | exact HB.out | apply below_alloc | apply pw_below_drewN | apply below_drew1 | refine below_set ?_ GE300.out) | exact HB.out))) : w.heap.size ≤ gb302)); have n5_ := Aside0.mk ((by rw [hg]; exact (below_size (by repeat (first | (with_reducible first | exact HB.out | apply below_alloc | apply pw_below_drewN | apply below_drew1 | refine below_set ?_ GE300.out) | exact HB.out))) : w.heap.size ≤ gb302)); have n6_ := Aside0.mk ((by rw [hg]; exact Nat.ne_of_lt (blk_lt (g := gb300) (o := .cells #[.slice (some ad301) t295.length co11, .int .i64 t298, .bool t299] 78 (0, 0)) (by (with_reducible repeat (first | refine blk_drewN ?_ _ | refine blk_drew ?_ | refine blk_alloc ?_ _)); exact BK300.out)) : gb300 ≠ gb302)); have n7_ := Aside0.mk ((by rw [hg]; exact Nat.ne_of_gt (blk_lt (g := gb300) (o := .cells #[.slice (some ad301) t295.length co11, .int .i64 t298, .bool t299] 78 (0, 0)) (by (with_reducible repeat (first | refine blk_drewN ?_ _ | refine blk_drew ?_ | refine blk_alloc ?_ _)); exact BK300.out)) : gb302 ≠ gb300)); clear HO_301000; clear BK300; clear HB; have HO_301000 := n0_; have BK300 := n1_; have HB := n2_; have BK302 := n3_; have GW302 := n4_; have GE302 := n5_; have NB300_302 := n6_; have NB302_300 := n7_; clear n0_ n1_ n2_ n3_ n4_ n5_ n6_ n7_; clear hb hbox hg; have hnb25 := NB302_300.out; have hnc25 := NB300_302.out; have hcz26_0 : w24.cell? ⟨gb302, 0, none⟩ = some (.int .i64 0) := (blk_cell BK302.out 0).trans rfl; have hcz26_1 : w24.cell? ⟨gb302, 1, none⟩ = some (.int .i64 0) := (blk_cell BK302.out 1).trans rfl; have hfz26_0 := blk_frozen BK302.out 0; have hfz26_1 := blk_frozen BK302.out 1)))
                    go_roundg k1
                    case measure => have := HK1.out; omega
                    case rel => exact ⟨(Go.bits .or .u32 x4_1 (ji20)), (ji22), (wrap64 (x8_1 - 1)), (by first | rfl | (simp; done) | (simp only [← hji20] <;> (first | rfl | simp)) | (simp [*]; done)), (by first | rfl | (simp; done) | (simp only [← hji22] <;> (first | rfl | simp)) | (simp [*]; done)), (by first | rfl | (simp; done) | (simp [*]; done)), H', ⟨by have := HK1.out; omega⟩, ⟨by (with_reducible repeat (first | apply Kd.R_alloc | apply Kd.R_drewN | apply Kd.R_drew)); exact Kd.R_mono (Kd.R_far (p := ⟨gb302, 1, none⟩) (Kd.R_far (p := ⟨gb302, 0, none⟩) (Kd.R_mono HO_301000.out (fun k_ hk => (⟨hk, hk.2⟩ : _ ∧ k_ ≠ gb302))) (fun _ hk => hk.2) (.int .i64 ((rd_T82 t295 x8_1).f0))) (fun _ hk => hk.2) (.int .i64 ((rd_T82 t295 x8_1).f1))) (fun _ hk => trivial)⟩, ⟨by (with_reducible repeat (first | refine blk_drewN ?_ _ | refine blk_drew ?_ | refine blk_alloc ?_ _)); refine blk_far ?_ NB300_302.out _; (with_reducible repeat (first | refine blk_drewN ?_ _ | refine blk_drew ?_ | refine blk_alloc ?_ _)); refine blk_far ?_ NB300_302.out _; (with_reducible repeat (first | refine blk_drewN ?_ _ | refine blk_drew ?_ | refine blk_alloc ?_ _)); exact BK300.out⟩, ⟨by repeat (first | (with_reducible first | exact HB.out | apply below_alloc | apply pw_below_drewN | apply below_drew1 | refine below_set ?_ GE300.out | refine below_set ?_ GE302.out) | exact HB.out)⟩⟩
                  · rw [if_neg c19] at H
                    exact absurd H (by simp)
                · rw [if_neg c17] at H
                  exact absurd H (by simp)
              · rw [if_neg c15] at H
                exact absurd H (by simp)
            · rw [if_neg c14] at H
              exact absurd H (by simp)
          · rw [if_neg c13] at H
            have c13b0 : decide (0 ≤ x8_1) = false := decide_eq_false c13
            clear c13
            simp only [Option.some.injEq, Prod.mk.injEq] at H
            obtain ⟨rfl, rfl⟩ := H
            go_wp2
            repeat (go_quiet (fail); try go_wp2)
            go_ret2
            exact ⟨by first | rfl | (simp [errW_none, errW_some] <;> rfl) | (simp only [← hji7]; first | rfl | (simp [errW_none, errW_some] <;> rfl)) | (simp [*, errW_none, errW_some] <;> rfl), by repeat (first | (with_reducible first | exact HB.out | apply below_alloc | apply pw_below_drewN | apply below_drew1 | refine below_set ?_ GE300.out) | exact HB.out)⟩
    · rw [if_neg c6] at H
      exact absurd H (by simp)
  · replace c4 := Bool.eq_false_iff.mpr c4
    subst c4
    have H1 : (some (0, false)) = some (r1, r2) := by rw [if_neg (show ¬ (false = true) by decide)] at H; exact H
    clear H
    have H := H1
    clear H1
    simp only [Option.some.injEq, Prod.mk.injEq] at H
    obtain ⟨rfl, rfl⟩ := H
    go_enter Try.func26, Try.ntmps26
    go_wp2_with (first | (go_at_call 37; (with_reducible refine (fields_Fits.calls k a0 a1 false _ A3.out).mono ?_); rintro e w27 ⟨rfl, hb⟩; have n0_ := Aside0.mk (below_step (by repeat (first | (with_reducible first | exact HB.out | apply below_alloc | apply pw_below_drewN | apply below_drew1) | exact HB.out)) hb); clear HB; have HB := n0_; clear n0_; (try clear hb); (try clear hb2); (try clear hk); (try clear hi)))
    repeat (go_quiet (first | (go_at_call 37; (with_reducible refine (fields_Fits.calls k a0 a1 false _ A3.out).mono ?_); rintro e w27 ⟨rfl, hb⟩; have n0_ := Aside0.mk (below_step (by repeat (first | (with_reducible first | exact HB.out | apply below_alloc | apply pw_below_drewN | apply below_drew1) | exact HB.out)) hb); clear HB; have HB := n0_; clear n0_; (try clear hb); (try clear hb2); (try clear hk); (try clear hi))); try go_wp2_with (first | (go_at_call 37; (with_reducible refine (fields_Fits.calls k a0 a1 false _ A3.out).mono ?_); rintro e w27 ⟨rfl, hb⟩; have n0_ := Aside0.mk (below_step (by repeat (first | (with_reducible first | exact HB.out | apply below_alloc | apply pw_below_drewN | apply below_drew1) | exact HB.out)) hb); clear HB; have HB := n0_; clear n0_; (try clear hb); (try clear hb2); (try clear hk); (try clear hi))))
    go_ret2
    exact ⟨by first | rfl | (simp [errW_none, errW_some] <;> rfl) | (simp [*, errW_none, errW_some] <;> rfl), by repeat (first | (with_reducible first | exact HB.out | apply below_alloc | apply pw_below_drewN | apply below_drew1) | exact HB.out)⟩

end Go.Proofs.Ytknkfimpflodeaa.P
