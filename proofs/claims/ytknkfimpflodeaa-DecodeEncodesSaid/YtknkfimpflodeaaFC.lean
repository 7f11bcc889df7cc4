-- written by a program of this place (wip/lay.sh, wip/print2.py over the kit's print); Lean checks it
import Derived.Test.YtknkfimpflodeaaF0
import Derived.Test.YtknkfimpflodeaaF5
import Derived.Test.YtknkfimpflodeaaF6
import Derived.Test.YtknkfimpflodeaaF10
import Derived.Test.YtknkfimpflodeaaFA0
import Derived.Test.YtknkfimpflodeaaFA
import Derived.Test.YtknkfimpflodeaaFB
namespace Go.Proofs.Ytknkfimpflodeaa.P
open Go.RowKit Go.Proofs.YtknkfimpflodeaaW.PrintWords Go.Proofs.YtknkfimpflodeaaW.PrintLast Go.Proofs.YtknkfimpflodeaaW.PrintMore
attribute [local go_sem] max2_int min2_int max_two min_two max_three min_three max_four min_four   -- for this text's walks alone
set_option linter.unusedVariables false
set_option linter.unusedSimpArgs false
attribute [local go_sem] run_f0 run_f1 run_f2 run_f3 run_g0 run_g1 run_g2 run_g3

/-! ### mezzanineref08_Put: function 29 -/
def mezzanineref08_Put.l0 : Nat → Int → List Int → Int → Int → Option (Int × Bool)
 | 0, _, _, _, _ => none
 | k + 1, x1, x6, x7, x8 => if x8 < (x6.length : Int) then (if 0 ≤ x8 then (if (rd x6 x8) ≥ 0 then (if 0 ≤ (IntKind.u64.wrap (wrap64 ((wrap64 ((x6.length : Int) - 1)) - x8))) then (if (Go.bits .and .i64 (shr .i64 x1 (IntKind.u64.wrap (wrap64 ((wrap64 ((x6.length : Int) - 1)) - x8)))) 1) = 1 then (if 0 ≤ (IntKind.u64.wrap (rd x6 x8)) then (mezzanineref08_Put.l0 k x1 x6 (Go.bits .or .u32 x7 (shl .u32 1 (IntKind.u64.wrap (rd x6 x8)))) (wrap64 (x8 + 1))) else (none)) else (mezzanineref08_Put.l0 k x1 x6 x7 (wrap64 (x8 + 1)))) else (none)) else (mezzanineref08_Put.l0 k x1 x6 x7 (wrap64 (x8 + 1)))) else (none)) else (some (x7, true))
def mezzanineref08_Put.f (k : Nat) (a0 : Int) (a1 : Int) : Option (Int × Bool) := (mezzanineref08_Fits.f k a0 a1).bind fun t388 => (if t388 = true then ((mezzanineref08_Places.f k a0).bind fun t389 => (mezzanineref08_Put.l0 k a1 t389 0 0)) else (some (0, false)))
theorem mezzanineref08_Put.mono_l : ∀ k, (∀ y0 y1 y2 y3, LeO (mezzanineref08_Put.l0 k y0 y1 y2 y3) (mezzanineref08_Put.l0 (k + 1) y0 y1 y2 y3))
 | 0 => fun _ _ _ _ r h => by simp [mezzanineref08_Put.l0] at h
 | k + 1 => by
  have ih0 := mezzanineref08_Put.mono_l k
  ·intro y0 y1 y2 y3
   unfold mezzanineref08_Put.l0
   repeat' first
   | (with_reducible exact ih0 _ _ _ _)
   | (with_reducible exact mezzanineref08_Fits.mono _ _ _)
   | (with_reducible exact mezzanineref08_Places.mono _ _)
   | (with_reducible exact LeO.refl _)
   | (with_reducible exact LeO.none _)
   | (with_reducible refine LeO.ite ?_ ?_)
   | (with_reducible refine LeO.bind ?_ (fun _ => ?_))
   | exact ih0 _ _ _ _
   | exact mezzanineref08_Fits.mono _ _ _
   | exact mezzanineref08_Places.mono _ _
   | exact LeO.none _
   | refine LeO.ite ?_ ?_
   | refine LeO.bind ?_ (fun _ => ?_)
theorem mezzanineref08_Put.mono : ∀ a0 a1 k, LeO (mezzanineref08_Put.f k a0 a1) (mezzanineref08_Put.f (k + 1) a0 a1) := by
 intro a0 a1 k
 have ih0 := mezzanineref08_Put.mono_l k
 unfold mezzanineref08_Put.f
 repeat' first
   | (with_reducible exact ih0 _ _ _ _)
   | (with_reducible exact mezzanineref08_Fits.mono _ _ _)
   | (with_reducible exact mezzanineref08_Places.mono _ _)
   | (with_reducible exact LeO.refl _)
   | (with_reducible exact LeO.none _)
   | (with_reducible refine LeO.ite ?_ ?_)
   | (with_reducible refine LeO.bind ?_ (fun _ => ?_))
   | exact ih0 _ _ _ _
   | exact mezzanineref08_Fits.mono _ _ _
   | exact mezzanineref08_Places.mono _ _
   | exact LeO.none _
   | refine LeO.ite ?_ ?_
   | refine LeO.bind ?_ (fun _ => ?_)
set_option maxHeartbeats 8000000 in
set_option maxRecDepth 100000 in
theorem mezzanineref08_Put.calls (k : Nat) (a0 : Int) (a1 : Int) (r1 : Int) (r2 : Bool) (w : World) (h : mezzanineref08_Put.f k a0 a1 = some (r1, r2)) :
  Calls Try.prog 29 #[.int .i64 a0, .int .i64 a1] w fun e w' => e = .returned (.tuple #[.int .u32 r1, .bool r2]) ∧ Below w.heap.size w w' := by
 have HB := Aside0.mk (Below.refl w.heap.size w)
 have H : ((mezzanineref08_Fits.f k a0 a1).bind fun t388 => (if t388 = true then ((mezzanineref08_Places.f k a0).bind fun t389 => (mezzanineref08_Put.l0 k a1 t389 0 0)) else (some (0, false)))) = some (r1, r2) := h
 clear h
 replace H := Option.bind_eq_some_iff.mp H
 obtain ⟨t388, A30, H⟩ := H
 replace H : (if t388 = true then ((mezzanineref08_Places.f k a0).bind fun t389 => (mezzanineref08_Put.l0 k a1 t389 0 0)) else (some (0, false))) = some (r1, r2) := H
 have A3 := Aside0.mk A30
 clear A30
 by_cases c4 : t388 = true
 ·subst c4
  have H1 : ((mezzanineref08_Places.f k a0).bind fun t389 => (mezzanineref08_Put.l0 k a1 t389 0 0)) = some (r1, r2) := by rw [if_pos rfl] at H; exact H
  clear H
  have H := H1
  clear H1
  replace H := Option.bind_eq_some_iff.mp H
  obtain ⟨t389, A50, H⟩ := H
  replace H : (mezzanineref08_Put.l0 k a1 t389 0 0) = some (r1, r2) := H
  have A5 := Aside0.mk A50
  clear A50
  have H' := Aside0.mk H
  clear H
  go_enter Try.func29, Try.ntmps29
  go_wp2_with (first | ((with_reducible refine gate_callee (f := 39) rfl ?_); refine goesL_ (some 11) rfl rfl Try.func39 (by kernel_rfl) rfl #[.int .i64 a0, .int .i64 a1] rfl (by (try simp only [List.map_toArray, List.map_cons, List.map_nil]); first | done | rfl | (simp only [List.length_drop, List.length_take]; rfl)) ?_; (with_reducible refine (mezzanineref08_Fits.calls k a0 a1 true _ A3.out).mono ?_); rintro e w6 ⟨rfl, hb⟩; refine ⟨_, rfl, ?_⟩; have n0_ := Aside0.mk (below_step (by repeat (first | (with_reducible first | exact HB.out | apply below_alloc | apply pw_below_drewN | apply below_drew1) | exact HB.out)) hb); clear HB; have HB := n0_; clear n0_; (try clear hb); (try clear hb2); (try clear hk); (try clear hi)) | ((with_reducible refine gate_callee (f := 40) rfl ?_); refine goesL_ (some 14) rfl rfl Try.func40 (by kernel_rfl) rfl #[.int .i64 a0] rfl (by (try simp only [List.map_toArray, List.map_cons, List.map_nil]); first | done | rfl | (simp only [List.length_drop, List.length_take]; rfl)) ?_; (with_reducible refine (mezzanineref08_Places.calls k a0 t389 _ A5.out).mono ?_); rintro e w7 ⟨v390, rfl, ho0, hb⟩; refine ⟨_, rfl, ?_⟩; have n0_ := Aside0.mk (Kd.R_lower ho0 (below_size (by repeat (first | (with_reducible first | exact HB.out | apply below_alloc | apply pw_below_drewN | apply below_drew1) | exact HB.out)))); have n1_ := Aside0.mk (below_step (by repeat (first | (with_reducible first | exact HB.out | apply below_alloc | apply pw_below_drewN | apply below_drew1) | exact HB.out)) hb); clear HB; have HO391 := n0_; have HB := n1_; clear n0_ n1_; (try clear hb); (try clear hb2); (try clear hk); (try clear hi); (try clear ho0)))
  go_loopg [7, 8] k (fun kq v7 v8 w' => ∃ (x7_1 : Int) (x8_1 : Int), v7 = .int .u32 x7_1 ∧ v8 = .int .i64 x8_1 ∧ Aside0 (mezzanineref08_Put.l0 kq a1 t389 x7_1 x8_1 = some (r1, r2)) ∧ Aside0 (kq ≤ k) ∧ Aside0 (Kd.R (Kd.int .i64) 3 w' w.heap.size (fun _ => True) v390 t389) ∧ Aside0 (Below w.heap.size w w'))
  case atStart => exact ⟨(0), (0), (by first | rfl | (simp; done) | (simp [*]; done)), (by first | rfl | (simp; done) | (simp [*]; done)), H', ⟨Nat.le_refl _⟩, ⟨by (with_reducible repeat (first | apply Kd.R_alloc | apply Kd.R_drewN | apply Kd.R_drew)); exact HO391.out⟩, ⟨by repeat (first | (with_reducible first | exact HB.out | apply below_alloc | apply pw_below_drewN | apply below_drew1) | exact HB.out)⟩⟩
  case round =>
   clear H'
   try clear c2; try clear p2; try clear c3; try clear c4
   obtain ⟨x7_1, x8_1, rfl, rfl, HA, HK1, HO_6, HB⟩ := hrel
   cases gk with
   | zero => exact absurd HA.out (by simp [mezzanineref08_Put.l0])
   | succ k1 =>
    have H := HA.out
    clear HA
    simp only [mezzanineref08_Put.l0] at H
    by_cases c8 : x8_1 < (t389.length : Int)
    ·rw [if_pos c8] at H
     have c8b0 : decide (x8_1 < (t389.length : Int)) = true := decide_eq_true c8
     clear c8
     by_cases c9 : 0 ≤ x8_1
     ·rw [if_pos c9] at H
      have c9b0 : decide (0 ≤ x8_1) = true := decide_eq_true c9
      clear c9
      by_cases c10 : (rd t389 x8_1) ≥ 0
      ·rw [if_pos c10] at H
       have c10b0 : decide (0 ≤ (rd t389 x8_1)) = true := decide_eq_true c10
       clear c10
       obtain ⟨ji11, hji11⟩ : ∃ j_ : Int, (IntKind.u64.wrap (wrap64 ((wrap64 ((t389.length : Int) - 1)) - x8_1))) = j_ := ⟨_, rfl⟩
       replace H : (if 0 ≤ (ji11) then (if (Go.bits .and .i64 (shr .i64 a1 (ji11)) 1) = 1 then (if 0 ≤ (IntKind.u64.wrap (rd t389 x8_1)) then (mezzanineref08_Put.l0 k1 a1 t389 (Go.bits .or .u32 x7_1 (shl .u32 1 (IntKind.u64.wrap (rd t389 x8_1)))) (wrap64 (x8_1 + 1))) else (none)) else (mezzanineref08_Put.l0 k1 a1 t389 x7_1 (wrap64 (x8_1 + 1)))) else (none)) = some (r1, r2) := by first | (rw [hji11] at H; exact H) | (simp only [hji11] at H ⊢; exact H)
       by_cases c12 : 0 ≤ (ji11)
       ·rw [if_pos c12] at H
        have c12b0 := eq_true c12
        have c12b1 : decide (0 ≤ (ji11)) = true := decide_eq_true c12
        clear c12
        obtain ⟨ji13, hji13⟩ : ∃ j_ : Int, (shr .i64 a1 (ji11)) = j_ := ⟨_, rfl⟩
        replace H : (if (Go.bits .and .i64 (ji13) 1) = 1 then (if 0 ≤ (IntKind.u64.wrap (rd t389 x8_1)) then (mezzanineref08_Put.l0 k1 a1 t389 (Go.bits .or .u32 x7_1 (shl .u32 1 (IntKind.u64.wrap (rd t389 x8_1)))) (wrap64 (x8_1 + 1))) else (none)) else (mezzanineref08_Put.l0 k1 a1 t389 x7_1 (wrap64 (x8_1 + 1)))) = some (r1, r2) := by first | (rw [hji13] at H; exact H) | (simp only [hji13] at H ⊢; exact H)
        have hji13_ : (a1 / 2 ^ min (ji11).toNat 64) = ji13 := hji13
        have hji13z : (ji11) ≤ 64 → (a1 / 2 ^ (ji11).toNat) = ji13 := shr_small hji13
        by_cases c14 : (Go.bits .and .i64 (ji13) 1) = 1
        ·rw [if_pos c14] at H
         have c14b0 : ((Go.bits .and .i64 (ji13) 1) == 1) = true := beq_iff_eq.mpr c14
         have c14b1 : ((Go.bits .and .i64 (ji13) 1) != 1) = false := bne_eq_false_iff_eq.mpr c14
         clear c14
         obtain ⟨ji15, hji15⟩ : ∃ j_ : Int, (IntKind.u64.wrap (rd t389 x8_1)) = j_ := ⟨_, rfl⟩
         replace H : (if 0 ≤ (ji15) then (mezzanineref08_Put.l0 k1 a1 t389 (Go.bits .or .u32 x7_1 (shl .u32 1 (ji15))) (wrap64 (x8_1 + 1))) else (none)) = some (r1, r2) := by first | (rw [hji15] at H; exact H) | (simp only [hji15] at H ⊢; exact H)
         by_cases c16 : 0 ≤ (ji15)
         ·rw [if_pos c16] at H
          have c16b0 := eq_true c16
          have c16b1 : decide (0 ≤ (ji15)) = true := decide_eq_true c16
          clear c16
          obtain ⟨ji17, hji17⟩ : ∃ j_ : Int, (shl .u32 1 (ji15)) = j_ := ⟨_, rfl⟩
          replace H : (mezzanineref08_Put.l0 k1 a1 t389 (Go.bits .or .u32 x7_1 (ji17)) (wrap64 (x8_1 + 1))) = some (r1, r2) := by first | (rw [hji17] at H; exact H) | (simp only [hji17] at H ⊢; exact H)
          have hji17_ : (IntKind.u32.wrap (1 * 2 ^ min (ji15).toNat 32)) = ji17 := hji17
          have hji17z : (ji15) ≤ 32 → (IntKind.u32.wrap (1 * 2 ^ (ji15).toNat)) = ji17 := shl_small hji17
          have hji17u : (IntKind.u32.wrap (2 ^ min (ji15).toNat 32)) = ji17 := by have h_ := hji17_; rw [Int.one_mul] at h_; exact h_
          have hji17v : (ji15) ≤ 32 → (IntKind.u32.wrap (2 ^ (ji15).toNat)) = ji17 := fun hle_ => by have h_ := hji17z hle_; rw [Int.one_mul] at h_; exact h_
          have H' := Aside0.mk H
          clear H
          obtain ⟨Ao18, co18, eo18⟩ := Kd.R_slice HO_6.out
          subst eo18
          have p392 : 0 ≤ (x8_1 : Int) := of_decide_eq_true (by first | (with_reducible assumption) | assumption)
          have q392 : x8_1 < (t389.length : Int) := of_decide_eq_true (by first | (with_reducible assumption) | assumption)
          obtain ⟨ad392, e392, hx392_0⟩ := Kd.at_int (Kd.R_reads' HO_6.out).2.2 x8_1 p392 q392
          cases e392
          replace p392 := eq_true p392
          replace q392 := eq_true q392
          have p393 : 0 ≤ (x8_1 : Int) := of_decide_eq_true (by first | (with_reducible assumption) | assumption)
          have q393 : x8_1 < (t389.length : Int) := of_decide_eq_true (by first | (with_reducible assumption) | assumption)
          obtain ⟨ad393, e393, hx393_0⟩ := Kd.at_int (Kd.R_reads' HO_6.out).2.2 x8_1 p393 q393
          obtain rfl : ad392 = ad393 := (by injection e393)
          replace p393 := eq_true p393
          replace q393 := eq_true q393
          go_wp2
          go_roundg k1
          case measure => have := HK1.out; omega
          case rel => exact ⟨(Go.bits .or .u32 x7_1 (ji17)), (wrap64 (x8_1 + 1)), (by first | rfl | (simp; done) | (simp only [← hji17] <;> (first | rfl | simp)) | (simp [*]; done)), (by first | rfl | (simp; done) | (simp [*]; done)), H', ⟨by have := HK1.out; omega⟩, ⟨by (with_reducible repeat (first | apply Kd.R_alloc | apply Kd.R_drewN | apply Kd.R_drew)); exact HO_6.out⟩, ⟨by repeat (first | (with_reducible first | exact HB.out | apply below_alloc | apply pw_below_drewN | apply below_drew1) | exact HB.out)⟩⟩
         ·rw [if_neg c16] at H
          exact absurd H (by simp)
        ·rw [if_neg c14] at H
         have c14b0 : ((Go.bits .and .i64 (ji13) 1) == 1) = false := beq_eq_false_iff_ne.mpr c14
         have c14b1 : ((Go.bits .and .i64 (ji13) 1) != 1) = true := bne_iff_ne.mpr c14
         have H' := Aside0.mk H
         clear H
         obtain ⟨Ao19, co19, eo19⟩ := Kd.R_slice HO_6.out
         subst eo19
         have p392 : 0 ≤ (x8_1 : Int) := of_decide_eq_true (by first | (with_reducible assumption) | assumption)
         have q392 : x8_1 < (t389.length : Int) := of_decide_eq_true (by first | (with_reducible assumption) | assumption)
         obtain ⟨ad392, e392, hx392_0⟩ := Kd.at_int (Kd.R_reads' HO_6.out).2.2 x8_1 p392 q392
         cases e392
         replace p392 := eq_true p392
         replace q392 := eq_true q392
         go_wp2
         go_roundg k1
         case measure => have := HK1.out; omega
         case rel => exact ⟨(x7_1), (wrap64 (x8_1 + 1)), (by first | rfl | (simp; done) | (simp [*]; done)), (by first | rfl | (simp; done) | (simp [*]; done)), H', ⟨by have := HK1.out; omega⟩, ⟨by (with_reducible repeat (first | apply Kd.R_alloc | apply Kd.R_drewN | apply Kd.R_drew)); exact HO_6.out⟩, ⟨by repeat (first | (with_reducible first | exact HB.out | apply below_alloc | apply pw_below_drewN | apply below_drew1) | exact HB.out)⟩⟩
       ·rw [if_neg c12] at H
        exact absurd H (by simp)
      ·rw [if_neg c10] at H
       have c10b0 : decide (0 ≤ (rd t389 x8_1)) = false := decide_eq_false c10
       clear c10
       have H' := Aside0.mk H
       clear H
       obtain ⟨Ao20, co20, eo20⟩ := Kd.R_slice HO_6.out
       subst eo20
       have p392 : 0 ≤ (x8_1 : Int) := of_decide_eq_true (by first | (with_reducible assumption) | assumption)
       have q392 : x8_1 < (t389.length : Int) := of_decide_eq_true (by first | (with_reducible assumption) | assumption)
       obtain ⟨ad392, e392, hx392_0⟩ := Kd.at_int (Kd.R_reads' HO_6.out).2.2 x8_1 p392 q392
       cases e392
       replace p392 := eq_true p392
       replace q392 := eq_true q392
       go_wp2
       go_roundg k1
       case measure => have := HK1.out; omega
       case rel => exact ⟨(x7_1), (wrap64 (x8_1 + 1)), (by first | rfl | (simp; done) | (simp [*]; done)), (by first | rfl | (simp; done) | (simp [*]; done)), H', ⟨by have := HK1.out; omega⟩, ⟨by (with_reducible repeat (first | apply Kd.R_alloc | apply Kd.R_drewN | apply Kd.R_drew)); exact HO_6.out⟩, ⟨by repeat (first | (with_reducible first | exact HB.out | apply below_alloc | apply pw_below_drewN | apply below_drew1) | exact HB.out)⟩⟩
     ·rw [if_neg c9] at H
      exact absurd H (by simp)
    ·rw [if_neg c8] at H
     have c8b0 : decide (x8_1 < (t389.length : Int)) = false := decide_eq_false c8
     clear c8
     simp only [Option.some.injEq, Prod.mk.injEq] at H
     obtain ⟨rfl, rfl⟩ := H
     obtain ⟨Ao21, co21, eo21⟩ := Kd.R_slice HO_6.out
     subst eo21
     go_wp2
     go_ret2
     exact ⟨by first | rfl | (simp [errW_none, errW_some] <;> rfl) | (simp [*, errW_none, errW_some] <;> rfl), by repeat (first | (with_reducible first | exact HB.out | apply below_alloc | apply pw_below_drewN | apply below_drew1) | exact HB.out)⟩
 ·replace c4 := Bool.eq_false_iff.mpr c4
  subst c4
  have H1 : (some (0, false)) = some (r1, r2) := by rw [if_neg (show ¬ (false = true) by decide)] at H; exact H
  clear H
  have H := H1
  clear H1
  simp only [Option.some.injEq, Prod.mk.injEq] at H
  obtain ⟨rfl, rfl⟩ := H
  go_enter Try.func29, Try.ntmps29
  go_wp2_with (first | ((with_reducible refine gate_callee (f := 39) rfl ?_); refine goesL_ (some 11) rfl rfl Try.func39 (by kernel_rfl) rfl #[.int .i64 a0, .int .i64 a1] rfl (by (try simp only [List.map_toArray, List.map_cons, List.map_nil]); first | done | rfl | (simp only [List.length_drop, List.length_take]; rfl)) ?_; (with_reducible refine (mezzanineref08_Fits.calls k a0 a1 false _ A3.out).mono ?_); rintro e w22 ⟨rfl, hb⟩; refine ⟨_, rfl, ?_⟩; have n0_ := Aside0.mk (below_step (by repeat (first | (with_reducible first | exact HB.out | apply below_alloc | apply pw_below_drewN | apply below_drew1) | exact HB.out)) hb); clear HB; have HB := n0_; clear n0_; (try clear hb); (try clear hb2); (try clear hk); (try clear hi)))
  go_ret2
  exact ⟨by first | rfl | (simp [errW_none, errW_some] <;> rfl) | (simp [*, errW_none, errW_some] <;> rfl), by repeat (first | (with_reducible first | exact HB.out | apply below_alloc | apply pw_below_drewN | apply below_drew1) | exact HB.out)⟩

/-! ### mezzanineref09_Encode: function 14 -/
mutual
def mezzanineref09_Encode.j0 : Nat → Int → Int → Int → Int → Int → Int → Int → Bool → Bool → ByteArray → Int → Int → Int → Option (Int × Int)
 | 0, _, _, _, _, _, _, _, _, _, _, _, _, _ => none
 | k + 1, x5, x395000, x395001, x395002, x395003, x395004, x395005, x395006, x395007, x401000, x401001, x401002, x401003 => if x395007 = true then (mezzanineref09_Encode.j1 k (Go.bits .or .u32 x5 33554432) x395000 x395001 x395002 x395003 x395004 x395005 x395006 x395007 x401000 x401001 x401002 x401003) else (mezzanineref09_Encode.j1 k x5 x395000 x395001 x395002 x395003 x395004 x395005 x395006 x395007 x401000 x401001 x401002 x401003)
def mezzanineref09_Encode.j1 : Nat → Int → Int → Int → Int → Int → Int → Int → Bool → Bool → ByteArray → Int → Int → Int → Option (Int × Int)
 | 0, _, _, _, _, _, _, _, _, _, _, _, _, _ => none
 | k + 1, x5, x395000, x395001, x395002, x395003, x395004, x395005, x395006, x395007, x401000, x401001, x401002, x401003 => (mezzanineref09_Form.f x401003).bind fun t401 => (if t401 > 0 then ((mezzanineref09_Form.f x401003).bind fun t402 => ((mezzanineref08_Put.f k t402 x395004).bind fun bt403 => (some (Go.bits .or .u32 x5 bt403.1, 0)))) else (some (x5, 0)))
end
def mezzanineref09_Encode.f (k : Nat) (a0_0 : Int) (a0_1 : Int) (a0_2 : Int) (a0_3 : Int) (a0_4 : Int) (a0_5 : Int) (a0_6 : Bool) (a0_7 : Bool) : Option (Int × Int) := (mezzanineref09_Right.f k a0_0 a0_1 a0_2 a0_3 a0_4 a0_5 a0_6 a0_7).bind fun t395 => (if t395 = true then ((mezzanineref09_RowOf.f a0_0).bind fun bt396 => (if a0_6 = true then (mezzanineref09_Encode.j0 k (Go.bits .or .u32 (Go.bits .or .u32 (Go.bits .or .u32 (Go.bits .or .u32 (Go.bits .or .u32 bt396.2.2.1 ((((a0_1) % 4294967296) * 128) % 4294967296)) ((((a0_2) % 4294967296) * 32768) % 4294967296)) ((((a0_3) % 4294967296) * 1048576) % 4294967296)) ((((a0_5) % 4294967296) * 1048576) % 4294967296)) 67108864) a0_0 a0_1 a0_2 a0_3 a0_4 a0_5 a0_6 a0_7 bt396.1 bt396.2.1 bt396.2.2.1 bt396.2.2.2) else (mezzanineref09_Encode.j0 k (Go.bits .or .u32 (Go.bits .or .u32 (Go.bits .or .u32 (Go.bits .or .u32 bt396.2.2.1 ((((a0_1) % 4294967296) * 128) % 4294967296)) ((((a0_2) % 4294967296) * 32768) % 4294967296)) ((((a0_3) % 4294967296) * 1048576) % 4294967296)) ((((a0_5) % 4294967296) * 1048576) % 4294967296)) a0_0 a0_1 a0_2 a0_3 a0_4 a0_5 a0_6 a0_7 bt396.1 bt396.2.1 bt396.2.2.1 bt396.2.2.2))) else (some (0, 80)))
theorem mezzanineref09_Encode.mono_l : ∀ k, (∀ y0 y1 y2 y3 y4 y5 y6 y7 y8 y9 y10 y11 y12, LeO (mezzanineref09_Encode.j0 k y0 y1 y2 y3 y4 y5 y6 y7 y8 y9 y10 y11 y12) (mezzanineref09_Encode.j0 (k + 1) y0 y1 y2 y3 y4 y5 y6 y7 y8 y9 y10 y11 y12)) ∧ (∀ y0 y1 y2 y3 y4 y5 y6 y7 y8 y9 y10 y11 y12, LeO (mezzanineref09_Encode.j1 k y0 y1 y2 y3 y4 y5 y6 y7 y8 y9 y10 y11 y12) (mezzanineref09_Encode.j1 (k + 1) y0 y1 y2 y3 y4 y5 y6 y7 y8 y9 y10 y11 y12))
 | 0 => ⟨fun _ _ _ _ _ _ _ _ _ _ _ _ _ r h => by simp [mezzanineref09_Encode.j0] at h, fun _ _ _ _ _ _ _ _ _ _ _ _ _ r h => by simp [mezzanineref09_Encode.j1] at h⟩
 | k + 1 => by
  obtain ⟨ih0, ih1⟩ := mezzanineref09_Encode.mono_l k
  refine ⟨?_, ?_⟩
  ·intro y0 y1 y2 y3 y4 y5 y6 y7 y8 y9 y10 y11 y12
   unfold mezzanineref09_Encode.j0
   repeat' first
   | (with_reducible exact ih0 _ _ _ _ _ _ _ _ _ _ _ _ _)
   | (with_reducible exact ih1 _ _ _ _ _ _ _ _ _ _ _ _ _)
   | (with_reducible exact mezzanineref08_Put.mono _ _ _)
   | (with_reducible exact mezzanineref09_Right.mono _ _ _ _ _ _ _ _ _)
   | (with_reducible exact LeO.refl _)
   | (with_reducible exact LeO.none _)
   | (with_reducible refine LeO.ite ?_ ?_)
   | (with_reducible refine LeO.bind ?_ (fun _ => ?_))
   | exact ih0 _ _ _ _ _ _ _ _ _ _ _ _ _
   | exact ih1 _ _ _ _ _ _ _ _ _ _ _ _ _
   | exact mezzanineref08_Put.mono _ _ _
   | exact mezzanineref09_Right.mono _ _ _ _ _ _ _ _ _
   | exact LeO.none _
   | refine LeO.ite ?_ ?_
   | refine LeO.bind ?_ (fun _ => ?_)
  ·intro y0 y1 y2 y3 y4 y5 y6 y7 y8 y9 y10 y11 y12
   unfold mezzanineref09_Encode.j1
   repeat' first
   | (with_reducible exact ih0 _ _ _ _ _ _ _ _ _ _ _ _ _)
   | (with_reducible exact ih1 _ _ _ _ _ _ _ _ _ _ _ _ _)
   | (with_reducible exact mezzanineref08_Put.mono _ _ _)
   | (with_reducible exact mezzanineref09_Right.mono _ _ _ _ _ _ _ _ _)
   | (with_reducible exact LeO.refl _)
   | (with_reducible exact LeO.none _)
   | (with_reducible refine LeO.ite ?_ ?_)
   | (with_reducible refine LeO.bind ?_ (fun _ => ?_))
   | exact ih0 _ _ _ _ _ _ _ _ _ _ _ _ _
   | exact ih1 _ _ _ _ _ _ _ _ _ _ _ _ _
   | exact mezzanineref08_Put.mono _ _ _
   | exact mezzanineref09_Right.mono _ _ _ _ _ _ _ _ _
   | exact LeO.none _
   | refine LeO.ite ?_ ?_
   | refine LeO.bind ?_ (fun _ => ?_)
theorem mezzanineref09_Encode.mono : ∀ a0 a1 a2 a3 a4 a5 a6 a7 k, LeO (mezzanineref09_Encode.f k a0 a1 a2 a3 a4 a5 a6 a7) (mezzanineref09_Encode.f (k + 1) a0 a1 a2 a3 a4 a5 a6 a7) := by
 intro a0 a1 a2 a3 a4 a5 a6 a7 k
 obtain ⟨ih0, ih1⟩ := mezzanineref09_Encode.mono_l k
 unfold mezzanineref09_Encode.f
 repeat' first
   | (with_reducible exact ih0 _ _ _ _ _ _ _ _ _ _ _ _ _)
   | (with_reducible exact ih1 _ _ _ _ _ _ _ _ _ _ _ _ _)
   | (with_reducible exact mezzanineref08_Put.mono _ _ _)
   | (with_reducible exact mezzanineref09_Right.mono _ _ _ _ _ _ _ _ _)
   | (with_reducible exact LeO.refl _)
   | (with_reducible exact LeO.none _)
   | (with_reducible refine LeO.ite ?_ ?_)
   | (with_reducible refine LeO.bind ?_ (fun _ => ?_))
   | exact ih0 _ _ _ _ _ _ _ _ _ _ _ _ _
   | exact ih1 _ _ _ _ _ _ _ _ _ _ _ _ _
   | exact mezzanineref08_Put.mono _ _ _
   | exact mezzanineref09_Right.mono _ _ _ _ _ _ _ _ _
   | exact LeO.none _
   | refine LeO.ite ?_ ?_
   | refine LeO.bind ?_ (fun _ => ?_)
def mezzanineref09_Encode.T14 : Bool × List (List Nat × List Nat) := (true, [([], []), ([0], [0]), ([1], [1]), ([], []), ([3], [3]), ([2, 4, 2], [2, 4]), ([5], [5]), ([6], [6]), ([6], [6]), ([7, 5, 0, 1, 2, 3, 4, 5, 6, 7], [7]), ([8, 9, 0, 1, 2, 3, 4, 5, 6, 7, 8, 9], [8])])
def mezzanineref09_Encode.B14 : List Nat := [0, 1, 3, 0, 8, 31, 63, 127, 127, 255, 1023]
theorem mezzanineref09_Encode.tab14 : rtab .any (opsOf Try.f14 14) = mezzanineref09_Encode.T14 := by kernel_rfl
theorem mezzanineref09_Encode.bits14 : waitsOk mezzanineref09_Encode.T14.2 mezzanineref09_Encode.B14 = true := by kernel_rfl
set_option maxHeartbeats 8000000 in
set_option maxRecDepth 100000 in
theorem mezzanineref09_Encode.calls (k : Nat) (a0_0 : Int) (a0_1 : Int) (a0_2 : Int) (a0_3 : Int) (a0_4 : Int) (a0_5 : Int) (a0_6 : Bool) (a0_7 : Bool) (r1 : Int) (r2 : Int) (w : World) (h : mezzanineref09_Encode.f k a0_0 a0_1 a0_2 a0_3 a0_4 a0_5 a0_6 a0_7 = some (r1, r2)) :
  Calls Try.prog 14 #[.agg #[.int .i64 a0_0, .int .i64 a0_1, .int .i64 a0_2, .int .i64 a0_3, .int .i64 a0_4, .int .i64 a0_5, .bool a0_6, .bool a0_7]] w fun e w' => e = .returned (.tuple #[.int .u32 r1, .int .i64 r2]) ∧ Below w.heap.size w w' := by
 have hu24 := Try.underlying24
 have hu61 := Try.underlying61
 have HB := Aside0.mk (Below.refl w.heap.size w)
 have H : ((mezzanineref09_Right.f k a0_0 a0_1 a0_2 a0_3 a0_4 a0_5 a0_6 a0_7).bind fun t395 => (if t395 = true then ((mezzanineref09_RowOf.f a0_0).bind fun bt396 => (if a0_6 = true then (mezzanineref09_Encode.j0 k (Go.bits .or .u32 (Go.bits .or .u32 (Go.bits .or .u32 (Go.bits .or .u32 (Go.bits .or .u32 bt396.2.2.1 ((((a0_1) % 4294967296) * 128) % 4294967296)) ((((a0_2) % 4294967296) * 32768) % 4294967296)) ((((a0_3) % 4294967296) * 1048576) % 4294967296)) ((((a0_5) % 4294967296) * 1048576) % 4294967296)) 67108864) a0_0 a0_1 a0_2 a0_3 a0_4 a0_5 a0_6 a0_7 bt396.1 bt396.2.1 bt396.2.2.1 bt396.2.2.2) else (mezzanineref09_Encode.j0 k (Go.bits .or .u32 (Go.bits .or .u32 (Go.bits .or .u32 (Go.bits .or .u32 bt396.2.2.1 ((((a0_1) % 4294967296) * 128) % 4294967296)) ((((a0_2) % 4294967296) * 32768) % 4294967296)) ((((a0_3) % 4294967296) * 1048576) % 4294967296)) ((((a0_5) % 4294967296) * 1048576) % 4294967296)) a0_0 a0_1 a0_2 a0_3 a0_4 a0_5 a0_6 a0_7 bt396.1 bt396.2.1 bt396.2.2.1 bt396.2.2.2))) else (some (0, 80)))) = some (r1, r2) := h
 clear h
 replace H := Option.bind_eq_some_iff.mp H
 obtain ⟨t395, A20, H⟩ := H
 replace H : (if t395 = true then ((mezzanineref09_RowOf.f a0_0).bind fun bt396 => (if a0_6 = true then (mezzanineref09_Encode.j0 k (Go.bits .or .u32 (Go.bits .or .u32 (Go.bits .or .u32 (Go.bits .or .u32 (Go.bits .or .u32 bt396.2.2.1 ((((a0_1) % 4294967296) * 128) % 4294967296)) ((((a0_2) % 4294967296) * 32768) % 4294967296)) ((((a0_3) % 4294967296) * 1048576) % 4294967296)) ((((a0_5) % 4294967296) * 1048576) % 4294967296)) 67108864) a0_0 a0_1 a0_2 a0_3 a0_4 a0_5 a0_6 a0_7 bt396.1 bt396.2.1 bt396.2.2.1 bt396.2.2.2) else (mezzanineref09_Encode.j0 k (Go.bits .or .u32 (Go.bits .or .u32 (Go.bits .or .u32 (Go.bits .or .u32 bt396.2.2.1 ((((a0_1) % 4294967296) * 128) % 4294967296)) ((((a0_2) % 4294967296) * 32768) % 4294967296)) ((((a0_3) % 4294967296) * 1048576) % 4294967296)) ((((a0_5) % 4294967296) * 1048576) % 4294967296)) a0_0 a0_1 a0_2 a0_3 a0_4 a0_5 a0_6 a0_7 bt396.1 bt396.2.1 bt396.2.2.1 bt396.2.2.2))) else (some (0, 80))) = some (r1, r2) := H
 have A2 := Aside0.mk A20
 clear A20
 by_cases c3 : t395 = true
 ·subst c3
  have H1 : ((mezzanineref09_RowOf.f a0_0).bind fun bt396 => (if a0_6 = true then (mezzanineref09_Encode.j0 k (Go.bits .or .u32 (Go.bits .or .u32 (Go.bits .or .u32 (Go.bits .or .u32 (Go.bits .or .u32 bt396.2.2.1 ((((a0_1) % 4294967296) * 128) % 4294967296)) ((((a0_2) % 4294967296) * 32768) % 4294967296)) ((((a0_3) % 4294967296) * 1048576) % 4294967296)) ((((a0_5) % 4294967296) * 1048576) % 4294967296)) 67108864) a0_0 a0_1 a0_2 a0_3 a0_4 a0_5 a0_6 a0_7 bt396.1 bt396.2.1 bt396.2.2.1 bt396.2.2.2) else (mezzanineref09_Encode.j0 k (Go.bits .or .u32 (Go.bits .or .u32 (Go.bits .or .u32 (Go.bits .or .u32 bt396.2.2.1 ((((a0_1) % 4294967296) * 128) % 4294967296)) ((((a0_2) % 4294967296) * 32768) % 4294967296)) ((((a0_3) % 4294967296) * 1048576) % 4294967296)) ((((a0_5) % 4294967296) * 1048576) % 4294967296)) a0_0 a0_1 a0_2 a0_3 a0_4 a0_5 a0_6 a0_7 bt396.1 bt396.2.1 bt396.2.2.1 bt396.2.2.2))) = some (r1, r2) := by rw [if_pos rfl] at H; exact H
  clear H
  have H := H1
  clear H1
  replace H := Option.bind_eq_some_iff.mp H
  obtain ⟨⟨t396, t397, t398, t399⟩, A40, H⟩ := H
  replace H : (if a0_6 = true then (mezzanineref09_Encode.j0 k (Go.bits .or .u32 (Go.bits .or .u32 (Go.bits .or .u32 (Go.bits .or .u32 (Go.bits .or .u32 t398 ((((a0_1) % 4294967296) * 128) % 4294967296)) ((((a0_2) % 4294967296) * 32768) % 4294967296)) ((((a0_3) % 4294967296) * 1048576) % 4294967296)) ((((a0_5) % 4294967296) * 1048576) % 4294967296)) 67108864) a0_0 a0_1 a0_2 a0_3 a0_4 a0_5 a0_6 a0_7 t396 t397 t398 t399) else (mezzanineref09_Encode.j0 k (Go.bits .or .u32 (Go.bits .or .u32 (Go.bits .or .u32 (Go.bits .or .u32 t398 ((((a0_1) % 4294967296) * 128) % 4294967296)) ((((a0_2) % 4294967296) * 32768) % 4294967296)) ((((a0_3) % 4294967296) * 1048576) % 4294967296)) ((((a0_5) % 4294967296) * 1048576) % 4294967296)) a0_0 a0_1 a0_2 a0_3 a0_4 a0_5 a0_6 a0_7 t396 t397 t398 t399)) = some (r1, r2) := H
  have A4 := Aside0.mk A40
  clear A40
  have HC5 := Aside0.mk H
  clear H
  go_enter Try.func14, Try.ntmps14
  go_upto_if 41 with (first | ((with_reducible refine gate_dst (N := 1) rfl ?_); refine box_event ?hg (N := 1) ?hd (cs := #[.int .i64 a0_0, .int .i64 a0_1, .int .i64 a0_2, .int .i64 a0_3, .int .i64 a0_4, .int .i64 a0_5, .bool a0_6, .bool a0_7]) (t := 24) ?hr ?_; (case hd => rfl); (case hg => rfl); (case hr => first | (go_simp; done) | (go_simp; rfl)); intro gb394 hg w6 hbox hb; have n0_ := Aside0.mk (below_step (by repeat (first | (with_reducible first | exact HB.out | apply below_alloc | apply pw_below_drewN | apply below_drew1) | exact HB.out)) hb); have n1_ := Aside0.mk (hbox); have n2_ := Aside0.mk ((by rw [hg]; exact (below_size (by repeat (first | (with_reducible first | exact HB.out | apply below_alloc | apply pw_below_drewN | apply below_drew1) | exact HB.out))) : w.heap.size ≤ gb394)); have n3_ := Aside0.mk ((by rw [hg]; exact (below_size (by repeat (first | (with_reducible first | exact HB.out | apply below_alloc | apply pw_below_drewN | apply below_drew1) | exact HB.out))) : w.heap.size ≤ gb394)); clear HB; have HB := n0_; have BK394 := n1_; have GW394 := n2_; have GE394 := n3_; clear n0_ n1_ n2_ n3_; clear hb hbox hg; have hcz7_0 : w6.cell? ⟨gb394, 0, none⟩ = some (.int .i64 a0_0) := (blk_cell BK394.out 0).trans rfl; have hcz7_1 : w6.cell? ⟨gb394, 1, none⟩ = some (.int .i64 a0_1) := (blk_cell BK394.out 1).trans rfl; have hcz7_2 : w6.cell? ⟨gb394, 2, none⟩ = some (.int .i64 a0_2) := (blk_cell BK394.out 2).trans rfl; have hcz7_3 : w6.cell? ⟨gb394, 3, none⟩ = some (.int .i64 a0_3) := (blk_cell BK394.out 3).trans rfl; have hcz7_4 : w6.cell? ⟨gb394, 4, none⟩ = some (.int .i64 a0_4) := (blk_cell BK394.out 4).trans rfl; have hcz7_5 : w6.cell? ⟨gb394, 5, none⟩ = some (.int .i64 a0_5) := (blk_cell BK394.out 5).trans rfl; have hcz7_6 : w6.cell? ⟨gb394, 6, none⟩ = some (.bool a0_6) := (blk_cell BK394.out 6).trans rfl; have hcz7_7 : w6.cell? ⟨gb394, 7, none⟩ = some (.bool a0_7) := (blk_cell BK394.out 7).trans rfl; have hfz7_0 := blk_frozen BK394.out 0; have hfz7_1 := blk_frozen BK394.out 1; have hfz7_2 := blk_frozen BK394.out 2; have hfz7_3 := blk_frozen BK394.out 3; have hfz7_4 := blk_frozen BK394.out 4; have hfz7_5 := blk_frozen BK394.out 5; have hfz7_6 := blk_frozen BK394.out 6; have hfz7_7 := blk_frozen BK394.out 7) | ((with_reducible refine gate_callee (f := 27) rfl ?_); refine goesL_ (some 9) rfl rfl Try.func27 (by kernel_rfl) rfl #[.agg #[.int .i64 a0_0, .int .i64 a0_1, .int .i64 a0_2, .int .i64 a0_3, .int .i64 a0_4, .int .i64 a0_5, .bool a0_6, .bool a0_7]] rfl (by (try simp only [List.map_toArray, List.map_cons, List.map_nil]); first | done | rfl | (simp only [List.length_drop, List.length_take]; rfl)) ?_; (with_reducible refine (mezzanineref09_Right.calls k a0_0 a0_1 a0_2 a0_3 a0_4 a0_5 a0_6 a0_7 true _ A2.out).mono ?_); rintro e w8 ⟨rfl, hb⟩; refine ⟨_, rfl, ?_⟩; have n0_ := Aside0.mk (blk_below (g := gb394) (o := .cells #[.int .i64 a0_0, .int .i64 a0_1, .int .i64 a0_2, .int .i64 a0_3, .int .i64 a0_4, .int .i64 a0_5, .bool a0_6, .bool a0_7] 24 (0, 0)) (by (with_reducible repeat (first | refine blk_drewN ?_ _ | refine blk_drew ?_ | refine blk_alloc ?_ _)); exact BK394.out) hb); have n1_ := Aside0.mk (below_step (by repeat (first | (with_reducible first | exact HB.out | apply below_alloc | apply pw_below_drewN | apply below_drew1 | refine below_set ?_ GE394.out) | exact HB.out)) hb); clear BK394; clear HB; have BK394 := n0_; have HB := n1_; clear n0_ n1_; (try clear hb); (try clear hb2); (try clear hk); (try clear hi); have hcz9_0 : w8.cell? ⟨gb394, 0, none⟩ = some (.int .i64 a0_0) := (blk_cell BK394.out 0).trans rfl; have hcz9_1 : w8.cell? ⟨gb394, 1, none⟩ = some (.int .i64 a0_1) := (blk_cell BK394.out 1).trans rfl; have hcz9_2 : w8.cell? ⟨gb394, 2, none⟩ = some (.int .i64 a0_2) := (blk_cell BK394.out 2).trans rfl; have hcz9_3 : w8.cell? ⟨gb394, 3, none⟩ = some (.int .i64 a0_3) := (blk_cell BK394.out 3).trans rfl; have hcz9_4 : w8.cell? ⟨gb394, 4, none⟩ = some (.int .i64 a0_4) := (blk_cell BK394.out 4).trans rfl; have hcz9_5 : w8.cell? ⟨gb394, 5, none⟩ = some (.int .i64 a0_5) := (blk_cell BK394.out 5).trans rfl; have hcz9_6 : w8.cell? ⟨gb394, 6, none⟩ = some (.bool a0_6) := (blk_cell BK394.out 6).trans rfl; have hcz9_7 : w8.cell? ⟨gb394, 7, none⟩ = some (.bool a0_7) := (blk_cell BK394.out 7).trans rfl; have hfz9_0 := blk_frozen BK394.out 0; have hfz9_1 := blk_frozen BK394.out 1; have hfz9_2 := blk_frozen BK394.out 2; have hfz9_3 := blk_frozen BK394.out 3; have hfz9_4 := blk_frozen BK394.out 4; have hfz9_5 := blk_frozen BK394.out 5; have hfz9_6 := blk_frozen BK394.out 6; have hfz9_7 := blk_frozen BK394.out 7) | ((with_reducible refine gate_callee (f := 22) rfl ?_); refine goesL_ (some 13) rfl rfl Try.func22 (by kernel_rfl) rfl #[.int .i64 a0_0] rfl (by (try simp only [List.map_toArray, List.map_cons, List.map_nil]); first | done | rfl | (simp only [List.length_drop, List.length_take]; rfl)) ?_; (with_reducible refine (mezzanineref09_RowOf.calls a0_0 t396 t397 t398 t399 _ A4.out).mono ?_); rintro e w10 ⟨rfl, hb⟩; refine ⟨_, rfl, ?_⟩; have n0_ := Aside0.mk (blk_below (g := gb394) (o := .cells #[.int .i64 a0_0, .int .i64 a0_1, .int .i64 a0_2, .int .i64 a0_3, .int .i64 a0_4, .int .i64 a0_5, .bool a0_6, .bool a0_7] 24 (0, 0)) (by (with_reducible repeat (first | refine blk_drewN ?_ _ | refine blk_drew ?_ | refine blk_alloc ?_ _)); exact BK394.out) hb); have n1_ := Aside0.mk (below_step (by repeat (first | (with_reducible first | exact HB.out | apply below_alloc | apply pw_below_drewN | apply below_drew1 | refine below_set ?_ GE394.out) | exact HB.out)) hb); clear BK394; clear HB; have BK394 := n0_; have HB := n1_; clear n0_ n1_; (try clear hb); (try clear hb2); (try clear hk); (try clear hi)) | ((with_reducible refine gate_dst (N := 4) rfl ?_); refine box_event ?hg (N := 4) ?hd (cs := #[.string (⟨#[]⟩ : ByteArray), .int .u32 0, .int .u32 0, .int .u8 0]) (t := 61) ?hr ?_; (case hd => rfl); (case hg => rfl); (case hr => first | (go_simp; done) | (go_simp; rfl)); intro gb400 hg w11 hbox hb; have n0_ := Aside0.mk (blk_below (g := gb394) (o := .cells #[.int .i64 a0_0, .int .i64 a0_1, .int .i64 a0_2, .int .i64 a0_3, .int .i64 a0_4, .int .i64 a0_5, .bool a0_6, .bool a0_7] 24 (0, 0)) (by (with_reducible repeat (first | refine blk_drewN ?_ _ | refine blk_drew ?_ | refine blk_alloc ?_ _)); exact BK394.out) hb); have n1_ := Aside0.mk (below_step (by repeat (first | (with_reducible first | exact HB.out | apply below_alloc | apply pw_below_drewN | apply below_drew1 | refine below_set ?_ GE394.out) | exact HB.out)) hb); have n2_ := Aside0.mk (hbox); have n3_ := Aside0.mk ((by rw [hg]; exact (below_size (by repeat (first | (with_reducible first | exact HB.out | apply below_alloc | apply pw_below_drewN | apply below_drew1 | refine below_set ?_ GE394.out) | exact HB.out))) : w.heap.size ≤ gb400)); have n4_ := Aside0.mk ((by rw [hg]; exact (below_size (by repeat (first | (with_reducible first | exact HB.out | apply below_alloc | apply pw_below_drewN | apply below_drew1 | refine below_set ?_ GE394.out) | exact HB.out))) : w.heap.size ≤ gb400)); have n5_ := Aside0.mk ((by rw [hg]; exact Nat.ne_of_lt (blk_lt (g := gb394) (o := .cells #[.int .i64 a0_0, .int .i64 a0_1, .int .i64 a0_2, .int .i64 a0_3, .int .i64 a0_4, .int .i64 a0_5, .bool a0_6, .bool a0_7] 24 (0, 0)) (by (with_reducible repeat (first | refine blk_drewN ?_ _ | refine blk_drew ?_ | refine blk_alloc ?_ _)); exact BK394.out)) : gb394 ≠ gb400)); have n6_ := Aside0.mk ((by rw [hg]; exact Nat.ne_of_gt (blk_lt (g := gb394) (o := .cells #[.int .i64 a0_0, .int .i64 a0_1, .int .i64 a0_2, .int .i64 a0_3, .int .i64 a0_4, .int .i64 a0_5, .bool a0_6, .bool a0_7] 24 (0, 0)) (by (with_reducible repeat (first | refine blk_drewN ?_ _ | refine blk_drew ?_ | refine blk_alloc ?_ _)); exact BK394.out)) : gb400 ≠ gb394)); clear BK394; clear HB; have BK394 := n0_; have HB := n1_; have BK400 := n2_; have GW400 := n3_; have GE400 := n4_; have NB394_400 := n5_; have NB400_394 := n6_; clear n0_ n1_ n2_ n3_ n4_ n5_ n6_; clear hb hbox hg; have hnb12 := NB400_394.out; have hnc12 := NB394_400.out; have hcz13_0 : w11.cell? ⟨gb400, 0, none⟩ = some (.string (⟨#[]⟩ : ByteArray)) := (blk_cell BK400.out 0).trans rfl; have hcz13_1 : w11.cell? ⟨gb400, 1, none⟩ = some (.int .u32 0) := (blk_cell BK400.out 1).trans rfl; have hcz13_2 : w11.cell? ⟨gb400, 2, none⟩ = some (.int .u32 0) := (blk_cell BK400.out 2).trans rfl; have hcz13_3 : w11.cell? ⟨gb400, 3, none⟩ = some (.int .u8 0) := (blk_cell BK400.out 3).trans rfl; have hfz13_0 := blk_frozen BK400.out 0; have hfz13_1 := blk_frozen BK400.out 1; have hfz13_2 := blk_frozen BK400.out 2; have hfz13_3 := blk_frozen BK400.out 3; have hcz14_0 : w11.cell? ⟨gb394, 0, none⟩ = some (.int .i64 a0_0) := (blk_cell BK394.out 0).trans rfl; have hcz14_1 : w11.cell? ⟨gb394, 1, none⟩ = some (.int .i64 a0_1) := (blk_cell BK394.out 1).trans rfl; have hcz14_2 : w11.cell? ⟨gb394, 2, none⟩ = some (.int .i64 a0_2) := (blk_cell BK394.out 2).trans rfl; have hcz14_3 : w11.cell? ⟨gb394, 3, none⟩ = some (.int .i64 a0_3) := (blk_cell BK394.out 3).trans rfl; have hcz14_4 : w11.cell? ⟨gb394, 4, none⟩ = some (.int .i64 a0_4) := (blk_cell BK394.out 4).trans rfl; have hcz14_5 : w11.cell? ⟨gb394, 5, none⟩ = some (.int .i64 a0_5) := (blk_cell BK394.out 5).trans rfl; have hcz14_6 : w11.cell? ⟨gb394, 6, none⟩ = some (.bool a0_6) := (blk_cell BK394.out 6).trans rfl; have hcz14_7 : w11.cell? ⟨gb394, 7, none⟩ = some (.bool a0_7) := (blk_cell BK394.out 7).trans rfl; have hfz14_0 := blk_frozen BK394.out 0; have hfz14_1 := blk_frozen BK394.out 1; have hfz14_2 := blk_frozen BK394.out 2; have hfz14_3 := blk_frozen BK394.out 3; have hfz14_4 := blk_frozen BK394.out 4; have hfz14_5 := blk_frozen BK394.out 5; have hfz14_6 := blk_frozen BK394.out 6; have hfz14_7 := blk_frozen BK394.out 7))
  (try simp only [Act.put, List.setIfInBounds_toArray, List.set_cons_zero, List.set_cons_succ])
  go_cut [5] (fun v5 wc => ∃ (kq : Nat) (x5_4 : Int), v5 = .int .u32 x5_4 ∧ Aside0 (mezzanineref09_Encode.j0 kq x5_4 a0_0 a0_1 a0_2 a0_3 a0_4 a0_5 a0_6 a0_7 t396 t397 t398 t399 = some (r1, r2)) ∧ Aside0 (kq ≤ k) ∧ Aside0 (wc.heap[gb394]? = some (.cells #[.int .i64 a0_0, .int .i64 a0_1, .int .i64 a0_2, .int .i64 a0_3, .int .i64 a0_4, .int .i64 a0_5, .bool a0_6, .bool a0_7] 24 (0, 0))) ∧ Aside0 (wc.heap[gb400]? = some (.cells #[.string t396, .int .u32 t397, .int .u32 t398, .int .u8 t399] 61 (0, 0))) ∧ Aside0 (Below w.heap.size w wc))
  case first =>
   have H := HC5.out
   clear HC5
   by_cases c15 : a0_6 = true
   ·subst c15
    have H1 : (mezzanineref09_Encode.j0 k (Go.bits .or .u32 (Go.bits .or .u32 (Go.bits .or .u32 (Go.bits .or .u32 (Go.bits .or .u32 t398 ((((a0_1) % 4294967296) * 128) % 4294967296)) ((((a0_2) % 4294967296) * 32768) % 4294967296)) ((((a0_3) % 4294967296) * 1048576) % 4294967296)) ((((a0_5) % 4294967296) * 1048576) % 4294967296)) 67108864) a0_0 a0_1 a0_2 a0_3 a0_4 a0_5 true a0_7 t396 t397 t398 t399) = some (r1, r2) := by rw [if_pos rfl] at H; exact H
    clear H
    have H := H1
    clear H1
    have H' := Aside0.mk H
    clear H
    go_wp2
    go_meet
    case rel => exact ⟨_, (Go.bits .or .u32 (Go.bits .or .u32 (Go.bits .or .u32 (Go.bits .or .u32 (Go.bits .or .u32 t398 ((((a0_1) % 4294967296) * 128) % 4294967296)) ((((a0_2) % 4294967296) * 32768) % 4294967296)) ((((a0_3) % 4294967296) * 1048576) % 4294967296)) ((((a0_5) % 4294967296) * 1048576) % 4294967296)) 67108864), (by first | rfl | (simp; done) | (simp [*]; done)), H', ⟨by first | omega | exact Nat.le_refl _⟩, ⟨by (with_reducible repeat (first | refine blk_drewN ?_ _ | refine blk_drew ?_ | refine blk_alloc ?_ _)); refine blk_far ?_ NB394_400.out _; (with_reducible repeat (first | refine blk_drewN ?_ _ | refine blk_drew ?_ | refine blk_alloc ?_ _)); refine blk_far ?_ NB394_400.out _; (with_reducible repeat (first | refine blk_drewN ?_ _ | refine blk_drew ?_ | refine blk_alloc ?_ _)); refine blk_far ?_ NB394_400.out _; (with_reducible repeat (first | refine blk_drewN ?_ _ | refine blk_drew ?_ | refine blk_alloc ?_ _)); refine blk_far ?_ NB394_400.out _; (with_reducible repeat (first | refine blk_drewN ?_ _ | refine blk_drew ?_ | refine blk_alloc ?_ _)); exact BK394.out⟩, ⟨by (with_reducible repeat (first | refine blk_drewN ?_ _ | refine blk_drew ?_ | refine blk_alloc ?_ _)); refine blk_put (cs := #[.string t396, .int .u32 t397, .int .u32 t398, .int .u8 0]) ?_ 3 _ rfl; (with_reducible repeat (first | refine blk_drewN ?_ _ | refine blk_drew ?_ | refine blk_alloc ?_ _)); refine blk_put (cs := #[.string t396, .int .u32 t397, .int .u32 0, .int .u8 0]) ?_ 2 _ rfl; (with_reducible repeat (first | refine blk_drewN ?_ _ | refine blk_drew ?_ | refine blk_alloc ?_ _)); refine blk_put (cs := #[.string t396, .int .u32 0, .int .u32 0, .int .u8 0]) ?_ 1 _ rfl; (with_reducible repeat (first | refine blk_drewN ?_ _ | refine blk_drew ?_ | refine blk_alloc ?_ _)); refine blk_put (cs := #[.string (⟨#[]⟩ : ByteArray), .int .u32 0, .int .u32 0, .int .u8 0]) ?_ 0 _ rfl; (with_reducible repeat (first | refine blk_drewN ?_ _ | refine blk_drew ?_ | refine blk_alloc ?_ _)); exact BK400.out⟩, ⟨by repeat (first | (with_reducible first | exact HB.out | apply below_alloc | apply pw_below_drewN | apply below_drew1 | refine below_set ?_ GE394.out | refine below_set ?_ GE400.out) | exact HB.out)⟩⟩
   ·replace c15 := Bool.eq_false_iff.mpr c15
    subst c15
    have H1 : (mezzanineref09_Encode.j0 k (Go.bits .or .u32 (Go.bits .or .u32 (Go.bits .or .u32 (Go.bits .or .u32 t398 ((((a0_1) % 4294967296) * 128) % 4294967296)) ((((a0_2) % 4294967296) * 32768) % 4294967296)) ((((a0_3) % 4294967296) * 1048576) % 4294967296)) ((((a0_5) % 4294967296) * 1048576) % 4294967296)) a0_0 a0_1 a0_2 a0_3 a0_4 a0_5 false a0_7 t396 t397 t398 t399) = some (r1, r2) := by rw [if_neg (show ¬ (false = true) by decide)] at H; exact H
    clear H
    have H := H1
    clear H1
    have H' := Aside0.mk H
    clear H
    go_wp2
    go_meet
    case rel => exact ⟨_, (Go.bits .or .u32 (Go.bits .or .u32 (Go.bits .or .u32 (Go.bits .or .u32 t398 ((((a0_1) % 4294967296) * 128) % 4294967296)) ((((a0_2) % 4294967296) * 32768) % 4294967296)) ((((a0_3) % 4294967296) * 1048576) % 4294967296)) ((((a0_5) % 4294967296) * 1048576) % 4294967296)), (by first | rfl | (simp; done) | (simp [*]; done)), H', ⟨by first | omega | exact Nat.le_refl _⟩, ⟨by (with_reducible repeat (first | refine blk_drewN ?_ _ | refine blk_drew ?_ | refine blk_alloc ?_ _)); refine blk_far ?_ NB394_400.out _; (with_reducible repeat (first | refine blk_drewN ?_ _ | refine blk_drew ?_ | refine blk_alloc ?_ _)); refine blk_far ?_ NB394_400.out _; (with_reducible repeat (first | refine blk_drewN ?_ _ | refine blk_drew ?_ | refine blk_alloc ?_ _)); refine blk_far ?_ NB394_400.out _; (with_reducible repeat (first | refine blk_drewN ?_ _ | refine blk_drew ?_ | refine blk_alloc ?_ _)); refine blk_far ?_ NB394_400.out _; (with_reducible repeat (first | refine blk_drewN ?_ _ | refine blk_drew ?_ | refine blk_alloc ?_ _)); exact BK394.out⟩, ⟨by (with_reducible repeat (first | refine blk_drewN ?_ _ | refine blk_drew ?_ | refine blk_alloc ?_ _)); refine blk_put (cs := #[.string t396, .int .u32 t397, .int .u32 t398, .int .u8 0]) ?_ 3 _ rfl; (with_reducible repeat (first | refine blk_drewN ?_ _ | refine blk_drew ?_ | refine blk_alloc ?_ _)); refine blk_put (cs := #[.string t396, .int .u32 t397, .int .u32 0, .int .u8 0]) ?_ 2 _ rfl; (with_reducible repeat (first | refine blk_drewN ?_ _ | refine blk_drew ?_ | refine blk_alloc ?_ _)); refine blk_put (cs := #[.string t396, .int .u32 0, .int .u32 0, .int .u8 0]) ?_ 1 _ rfl; (with_reducible repeat (first | refine blk_drewN ?_ _ | refine blk_drew ?_ | refine blk_alloc ?_ _)); refine blk_put (cs := #[.string (⟨#[]⟩ : ByteArray), .int .u32 0, .int .u32 0, .int .u8 0]) ?_ 0 _ rfl; (with_reducible repeat (first | refine blk_drewN ?_ _ | refine blk_drew ?_ | refine blk_alloc ?_ _)); exact BK400.out⟩, ⟨by repeat (first | (with_reducible first | exact HB.out | apply below_alloc | apply pw_below_drewN | apply below_drew1 | refine below_set ?_ GE394.out | refine below_set ?_ GE400.out) | exact HB.out)⟩⟩
  case rest =>
   clear HC5
   try clear c1; try clear c2; try clear p2; try clear c3; try clear c12; try clear c14; try clear c15; try clear hcz13_0; try clear hcz13_1; try clear hcz13_2; try clear hcz13_3; try clear hcz14_0; try clear hcz14_1; try clear hcz14_2; try clear hcz14_3; try clear hcz14_4; try clear hcz14_5; try clear hcz14_6; try clear hcz14_7; try clear hcz7_0; try clear hcz7_1; try clear hcz7_2; try clear hcz7_3; try clear hcz7_4; try clear hcz7_5; try clear hcz7_6; try clear hcz7_7; try clear hcz9_0; try clear hcz9_1; try clear hcz9_2; try clear hcz9_3; try clear hcz9_4; try clear hcz9_5; try clear hcz9_6; try clear hcz9_7; try clear hfz13_0; try clear hfz13_1; try clear hfz13_2; try clear hfz13_3; try clear hfz14_0; try clear hfz14_1; try clear hfz14_2; try clear hfz14_3; try clear hfz14_4; try clear hfz14_5; try clear hfz14_6; try clear hfz14_7; try clear hfz7_0; try clear hfz7_1; try clear hfz7_2; try clear hfz7_3; try clear hfz7_4; try clear hfz7_5; try clear hfz7_6; try clear hfz7_7; try clear hfz9_0; try clear hfz9_1; try clear hfz9_2; try clear hfz9_3; try clear hfz9_4; try clear hfz9_5; try clear hfz9_6; try clear hfz9_7
   obtain ⟨kq, x5_4, rfl, HA, HJ4, BK394, BK400, HB⟩ := hcut
   cases kq with
   | zero => exact absurd HA.out (by simp [mezzanineref09_Encode.j0])
   | succ kj4 =>
    have H := HA.out
    clear HA
    simp only [mezzanineref09_Encode.j0] at H
    have HC16 := Aside0.mk H
    clear H
    have hnb17 := NB394_400.out
    have hnc17 := NB400_394.out
    have hcz18_0 : wc.cell? ⟨gb394, 0, none⟩ = some (.int .i64 a0_0) := (blk_cell BK394.out 0).trans rfl
    have hcz18_1 : wc.cell? ⟨gb394, 1, none⟩ = some (.int .i64 a0_1) := (blk_cell BK394.out 1).trans rfl
    have hcz18_2 : wc.cell? ⟨gb394, 2, none⟩ = some (.int .i64 a0_2) := (blk_cell BK394.out 2).trans rfl
    have hcz18_3 : wc.cell? ⟨gb394, 3, none⟩ = some (.int .i64 a0_3) := (blk_cell BK394.out 3).trans rfl
    have hcz18_4 : wc.cell? ⟨gb394, 4, none⟩ = some (.int .i64 a0_4) := (blk_cell BK394.out 4).trans rfl
    have hcz18_5 : wc.cell? ⟨gb394, 5, none⟩ = some (.int .i64 a0_5) := (blk_cell BK394.out 5).trans rfl
    have hcz18_6 : wc.cell? ⟨gb394, 6, none⟩ = some (.bool a0_6) := (blk_cell BK394.out 6).trans rfl
    have hcz18_7 : wc.cell? ⟨gb394, 7, none⟩ = some (.bool a0_7) := (blk_cell BK394.out 7).trans rfl
    have hfz18_0 := blk_frozen BK394.out 0
    have hfz18_1 := blk_frozen BK394.out 1
    have hfz18_2 := blk_frozen BK394.out 2
    have hfz18_3 := blk_frozen BK394.out 3
    have hfz18_4 := blk_frozen BK394.out 4
    have hfz18_5 := blk_frozen BK394.out 5
    have hfz18_6 := blk_frozen BK394.out 6
    have hfz18_7 := blk_frozen BK394.out 7
    go_upto_if 45 with (fail)
    go_cut [5] (fun v5 wc => ∃ (kq : Nat) (x5_15 : Int), v5 = .int .u32 x5_15 ∧ Aside0 (mezzanineref09_Encode.j1 kq x5_15 a0_0 a0_1 a0_2 a0_3 a0_4 a0_5 a0_6 a0_7 t396 t397 t398 t399 = some (r1, r2)) ∧ Aside0 (kq ≤ kj4) ∧ Aside0 (wc.heap[gb394]? = some (.cells #[.int .i64 a0_0, .int .i64 a0_1, .int .i64 a0_2, .int .i64 a0_3, .int .i64 a0_4, .int .i64 a0_5, .bool a0_6, .bool a0_7] 24 (0, 0))) ∧ Aside0 (wc.heap[gb400]? = some (.cells #[.string t396, .int .u32 t397, .int .u32 t398, .int .u8 t399] 61 (0, 0))) ∧ Aside0 (Below w.heap.size w wc))
    case first =>
     have H := HC16.out
     clear HC16
     by_cases c19 : a0_7 = true
     ·subst c19
      have H1 : (mezzanineref09_Encode.j1 kj4 (Go.bits .or .u32 x5_4 33554432) a0_0 a0_1 a0_2 a0_3 a0_4 a0_5 a0_6 true t396 t397 t398 t399) = some (r1, r2) := by rw [if_pos rfl] at H; exact H
      clear H
      have H := H1
      clear H1
      have H' := Aside0.mk H
      clear H
      go_wp2
      go_meet
      case rel => exact ⟨_, (Go.bits .or .u32 x5_4 33554432), (by first | rfl | (simp; done) | (simp [*]; done)), H', ⟨by have := HJ4.out; first | omega | exact Nat.le_refl _⟩, ⟨by (with_reducible repeat (first | refine blk_drewN ?_ _ | refine blk_drew ?_ | refine blk_alloc ?_ _)); exact BK394.out⟩, ⟨by (with_reducible repeat (first | refine blk_drewN ?_ _ | refine blk_drew ?_ | refine blk_alloc ?_ _)); exact BK400.out⟩, ⟨by repeat (first | (with_reducible first | exact HB.out | apply below_alloc | apply pw_below_drewN | apply below_drew1 | refine below_set ?_ GE394.out | refine below_set ?_ GE400.out) | exact HB.out)⟩⟩
     ·replace c19 := Bool.eq_false_iff.mpr c19
      subst c19
      have H1 : (mezzanineref09_Encode.j1 kj4 x5_4 a0_0 a0_1 a0_2 a0_3 a0_4 a0_5 a0_6 false t396 t397 t398 t399) = some (r1, r2) := by rw [if_neg (show ¬ (false = true) by decide)] at H; exact H
      clear H
      have H := H1
      clear H1
      have H' := Aside0.mk H
      clear H
      go_wp2
      go_meet
      case rel => exact ⟨_, (x5_4), (by first | rfl | (simp; done) | (simp [*]; done)), H', ⟨by have := HJ4.out; first | omega | exact Nat.le_refl _⟩, ⟨by (with_reducible repeat (first | refine blk_drewN ?_ _ | refine blk_drew ?_ | refine blk_alloc ?_ _)); exact BK394.out⟩, ⟨by (with_reducible repeat (first | refine blk_drewN ?_ _ | refine blk_drew ?_ | refine blk_alloc ?_ _)); exact BK400.out⟩, ⟨by repeat (first | (with_reducible first | exact HB.out | apply below_alloc | apply pw_below_drewN | apply below_drew1 | refine below_set ?_ GE394.out | refine below_set ?_ GE400.out) | exact HB.out)⟩⟩
    case rest =>
     clear HC16
     try clear c1; try clear c2; try clear p2; try clear c3; try clear c12; try clear c14; try clear c15; try clear c17; try clear c19; try clear hcz13_0; try clear hcz13_1; try clear hcz13_2; try clear hcz13_3; try clear hcz14_0; try clear hcz14_1; try clear hcz14_2; try clear hcz14_3; try clear hcz14_4; try clear hcz14_5; try clear hcz14_6; try clear hcz14_7; try clear hcz18_0; try clear hcz18_1; try clear hcz18_2; try clear hcz18_3; try clear hcz18_4; try clear hcz18_5; try clear hcz18_6; try clear hcz18_7; try clear hcz7_0; try clear hcz7_1; try clear hcz7_2; try clear hcz7_3; try clear hcz7_4; try clear hcz7_5; try clear hcz7_6; try clear hcz7_7; try clear hcz9_0; try clear hcz9_1; try clear hcz9_2; try clear hcz9_3; try clear hcz9_4; try clear hcz9_5; try clear hcz9_6; try clear hcz9_7; try clear hfz13_0; try clear hfz13_1; try clear hfz13_2; try clear hfz13_3; try clear hfz14_0; try clear hfz14_1; try clear hfz14_2; try clear hfz14_3; try clear hfz14_4; try clear hfz14_5; try clear hfz14_6; try clear hfz14_7; try clear hfz18_0; try clear hfz18_1; try clear hfz18_2; try clear hfz18_3; try clear hfz18_4; try clear hfz18_5; try clear hfz18_6; try clear hfz18_7; try clear hfz7_0; try clear hfz7_1; try clear hfz7_2; try clear hfz7_3; try clear hfz7_4; try clear hfz7_5; try clear hfz7_6; try clear hfz7_7; try clear hfz9_0; try clear hfz9_1; try clear hfz9_2; try clear hfz9_3; try clear hfz9_4; try clear hfz9_5; try clear hfz9_6; try clear hfz9_7; try clear p2
     obtain ⟨kq, x5_15, rfl, HA, HJ15, BK394, BK400, HB⟩ := hcut
     cases kq with
     | zero => exact absurd HA.out (by simp [mezzanineref09_Encode.j1])
     | succ kj15 =>
      have H := HA.out
      clear HA
      simp only [mezzanineref09_Encode.j1] at H
      replace H := Option.bind_eq_some_iff.mp H
      obtain ⟨t401, A200, H⟩ := H
      replace H : (if t401 > 0 then ((mezzanineref09_Form.f t399).bind fun t402 => ((mezzanineref08_Put.f kj15 t402 a0_4).bind fun bt403 => (some (Go.bits .or .u32 x5_15 bt403.1, 0)))) else (some (x5_15, 0))) = some (r1, r2) := H
      have A20 := Aside0.mk A200
      clear A200
      by_cases c21 : t401 > 0
      ·rw [if_pos c21] at H
       have c21b0 : decide (0 < t401) = true := decide_eq_true c21
       clear c21
       replace H := Option.bind_eq_some_iff.mp H
       obtain ⟨t402, A220, H⟩ := H
       replace H : ((mezzanineref08_Put.f kj15 t402 a0_4).bind fun bt403 => (some (Go.bits .or .u32 x5_15 bt403.1, 0))) = some (r1, r2) := H
       have A22 := Aside0.mk A220
       clear A220
       replace H := Option.bind_eq_some_iff.mp H
       obtain ⟨⟨t403, t404⟩, A230, H⟩ := H
       replace H : (some (Go.bits .or .u32 x5_15 t403, 0)) = some (r1, r2) := H
       have A23 := Aside0.mk A230
       clear A230
       simp only [Option.some.injEq, Prod.mk.injEq] at H
       obtain ⟨rfl, rfl⟩ := H
       have hnb24 := NB400_394.out
       have hnc24 := NB394_400.out
       have hcz25_0 : wc.cell? ⟨gb400, 0, none⟩ = some (.string t396) := (blk_cell BK400.out 0).trans rfl
       have hcz25_1 : wc.cell? ⟨gb400, 1, none⟩ = some (.int .u32 t397) := (blk_cell BK400.out 1).trans rfl
       have hcz25_2 : wc.cell? ⟨gb400, 2, none⟩ = some (.int .u32 t398) := (blk_cell BK400.out 2).trans rfl
       have hcz25_3 : wc.cell? ⟨gb400, 3, none⟩ = some (.int .u8 t399) := (blk_cell BK400.out 3).trans rfl
       have hfz25_0 := blk_frozen BK400.out 0
       have hfz25_1 := blk_frozen BK400.out 1
       have hfz25_2 := blk_frozen BK400.out 2
       have hfz25_3 := blk_frozen BK400.out 3
       try go_wp2_with (first | ((with_reducible refine gate_callee (f := 28) rfl ?_); refine goesL_ (some 50) rfl rfl Try.func28 (by kernel_rfl) rfl #[.int .u8 t399] rfl (by (try simp only [List.map_toArray, List.map_cons, List.map_nil]); first | done | rfl | (simp only [List.length_drop, List.length_take]; rfl)) ?_; (with_reducible refine (mezzanineref09_Form.calls t399 t401 _ A20.out).mono ?_); rintro e w' ⟨rfl, ⟨nd, rfl⟩⟩; refine ⟨_, rfl, ?_⟩))
       (try (rw [drewN_self wc]; generalize hq_ : World.drewN wc _ = wc; have n0_ : Aside0 (wc.heap[gb394]? = some (.cells #[.int .i64 a0_0, .int .i64 a0_1, .int .i64 a0_2, .int .i64 a0_3, .int .i64 a0_4, .int .i64 a0_5, .bool a0_6, .bool a0_7] 24 (0, 0))) := ⟨by rw [← hq_]; exact (by (with_reducible repeat (first | refine blk_drewN ?_ _ | refine blk_drew ?_ | refine blk_alloc ?_ _)); exact BK394.out)⟩; have n1_ : Aside0 (wc.heap[gb400]? = some (.cells #[.string t396, .int .u32 t397, .int .u32 t398, .int .u8 t399] 61 (0, 0))) := ⟨by rw [← hq_]; exact (by (with_reducible repeat (first | refine blk_drewN ?_ _ | refine blk_drew ?_ | refine blk_alloc ?_ _)); exact BK400.out)⟩; have n2_ : Aside0 (Below w.heap.size w wc) := ⟨by rw [← hq_]; exact (by repeat (first | (with_reducible first | exact HB.out | apply below_alloc | apply pw_below_drewN | apply below_drew1 | refine below_set ?_ GE394.out | refine below_set ?_ GE400.out) | exact HB.out))⟩; clear BK394 BK400 HB hq_; have BK394 := n0_; have BK400 := n1_; have HB := n2_; clear n0_ n1_ n2_))
       have n0_ := Aside0.mk (blk_drew BK394.out)
       have n1_ := Aside0.mk (blk_drew BK400.out)
       have n2_ := Aside0.mk (below_drew1 HB.out)
       clear BK394
       clear BK400
       clear HB
       have BK394 := n0_
       have BK400 := n1_
       have HB := n2_
       clear n0_ n1_ n2_
       refine start_ (n := 11) (S := fun w' => w'.cell? ⟨gb400, 0, none⟩ = some (.string t396) ∧ w'.cell? ⟨gb400, 1, none⟩ = some (.int .u32 t397) ∧ w'.cell? ⟨gb400, 2, none⟩ = some (.int .u32 t398) ∧ w'.cell? ⟨gb400, 3, none⟩ = some (.int .u8 t399) ∧ w'.cell? ⟨gb394, 0, none⟩ = some (.int .i64 a0_0) ∧ w'.cell? ⟨gb394, 1, none⟩ = some (.int .i64 a0_1) ∧ w'.cell? ⟨gb394, 2, none⟩ = some (.int .i64 a0_2) ∧ w'.cell? ⟨gb394, 3, none⟩ = some (.int .i64 a0_3) ∧ w'.cell? ⟨gb394, 4, none⟩ = some (.int .i64 a0_4) ∧ w'.cell? ⟨gb394, 5, none⟩ = some (.int .i64 a0_5) ∧ w'.cell? ⟨gb394, 6, none⟩ = some (.bool a0_6) ∧ w'.cell? ⟨gb394, 7, none⟩ = some (.bool a0_7)) (ds := []) #[false, false, false, false, false, false, false, false, false, false, false] (by kernel_rfl) rfl rfl ⟨(blk_cell BK400.out 0).trans rfl, (blk_cell BK400.out 1).trans rfl, (blk_cell BK400.out 2).trans rfl, (blk_cell BK400.out 3).trans rfl, (blk_cell BK394.out 0).trans rfl, (blk_cell BK394.out 1).trans rfl, (blk_cell BK394.out 2).trans rfl, (blk_cell BK394.out 3).trans rfl, (blk_cell BK394.out 4).trans rfl, (blk_cell BK394.out 5).trans rfl, (blk_cell BK394.out 6).trans rfl, (blk_cell BK394.out 7).trans rfl⟩ (fun hHeld => ?_); refine with_tabW mezzanineref09_Encode.tab14 mezzanineref09_Encode.bits14 (fun HT_ HW_ => ?_)
       generalize wc.drew = w26 at BK394 BK400 HB hHeld ⊢
       refine pure_ (i := 0) (N := some 53) (v := ?_) (a' := ?_) #[true, false, false, false, false, false, false, false, false, false, false] rfl rfl (any_of HT_.out (by kernel_rfl)) (fun _ _ _ h => h) (Or.inl ⟨by rfl, ?_⟩) ?_ ?_
       rotate_left
       ·intro w'
        go_simp
        with_reducible rfl
       rotate_left
       ·simp only [Act.put, List.setIfInBounds_toArray, List.set_cons_zero, List.set_cons_succ, i64_w, i32_w]
        rfl
       refine pure_ (i := 3) (N := some 56) (v := ?_) (a' := ?_) #[true, false, false, true, false, false, false, false, false, false, false] rfl rfl (any_of HT_.out (by kernel_rfl)) (fun _ _ _ h => h) (Or.inl ⟨by rfl, ?_⟩) ?_ ?_
       rotate_left
       ·intro w'
        go_simp
        with_reducible rfl
       rotate_left
       ·simp only [Act.put, List.setIfInBounds_toArray, List.set_cons_zero, List.set_cons_succ, i64_w, i32_w]
        rfl
       refine take_ (i := 1) (N := some 54) (v := ?_) (a' := ?_) #[true, true, false, true, false, false, false, false, false, false, false] rfl rfl (take_ofW HT_.out HW_.out (by kernel_rfl)) (fun _ _ _ h => h) (Or.inl ⟨by rfl, ?_⟩) hHeld ?_ ?_
       rotate_left
       ·rintro w' ⟨s0, s1, s2, s3, s4, s5, s6, s7, s8, s9, s10, s11⟩
        go_simp
        with_reducible rfl
       rotate_left
       ·simp only [Act.put, List.setIfInBounds_toArray, List.set_cons_zero, List.set_cons_succ, i64_w, i32_w]
        rfl
       refine take_ (i := 4) (N := some 57) (v := ?_) (a' := ?_) #[true, true, false, true, true, false, false, false, false, false, false] rfl rfl (take_ofW HT_.out HW_.out (by kernel_rfl)) (fun _ _ _ h => h) (Or.inl ⟨by rfl, ?_⟩) hHeld ?_ ?_
       rotate_left
       ·rintro w' ⟨s0, s1, s2, s3, s4, s5, s6, s7, s8, s9, s10, s11⟩
        go_simp
        with_reducible rfl
       rotate_left
       ·simp only [Act.put, List.setIfInBounds_toArray, List.set_cons_zero, List.set_cons_succ, i64_w, i32_w]
        rfl
       refine one_ (i := 2) (N := some 55) #[true, true, true, true, true, false, false, false, false, false, false] rfl rfl (one_of HT_.out (by kernel_rfl)) (by decide) (fun K hK => ?_)
       refine goes_ Try.func28 (by kernel_rfl) rfl #[.int .u8 t399] (by rfl) rfl rfl (by (try simp only [List.map_toArray, List.map_cons, List.map_nil]); first | done | rfl | (simp only [List.length_drop, List.length_take]; rfl)) ?_
       with_reducible refine (mezzanineref09_Form.calls t399 t402 _ A22.out).mono ?_
       rintro e w' ⟨rfl, ⟨nd, rfl⟩⟩
       refine ⟨_, rfl, ?_⟩
       refine hK.out _ _ ⟨(blk_cell BK400.out 0).trans rfl, (blk_cell BK400.out 1).trans rfl, (blk_cell BK400.out 2).trans rfl, (blk_cell BK400.out 3).trans rfl, (blk_cell BK394.out 0).trans rfl, (blk_cell BK394.out 1).trans rfl, (blk_cell BK394.out 2).trans rfl, (blk_cell BK394.out 3).trans rfl, (blk_cell BK394.out 4).trans rfl, (blk_cell BK394.out 5).trans rfl, (blk_cell BK394.out 6).trans rfl, (blk_cell BK394.out 7).trans rfl⟩ (fun hHeld => ?_)
       clear hK K
       refine norm_ (a' := ?_) ?_ ?_
       rotate_left
       ·show Act.put _ (some 55) _ = _
        simp only [Act.put, List.setIfInBounds_toArray, List.set_cons_zero, List.set_cons_succ, i64_w, i32_w]
        rfl
       refine one_ (i := 5) (N := some 58) #[true, true, true, true, true, true, false, false, false, false, false] rfl rfl (one_of HT_.out (by kernel_rfl)) (by decide) (fun K hK => ?_)
       refine goes_ Try.func29 (by kernel_rfl) rfl #[.int .i64 t402, .int .i64 a0_4] (by rfl) rfl rfl (by (try simp only [List.map_toArray, List.map_cons, List.map_nil]); first | done | rfl | (simp only [List.length_drop, List.length_take]; rfl)) ?_
       with_reducible refine (mezzanineref08_Put.calls kj15 t402 a0_4 t403 t404 _ A23.out).mono ?_
       rintro e w27 ⟨rfl, hb⟩
       refine ⟨_, rfl, ?_⟩
       have n0_ := Aside0.mk (blk_below (g := gb394) (o := .cells #[.int .i64 a0_0, .int .i64 a0_1, .int .i64 a0_2, .int .i64 a0_3, .int .i64 a0_4, .int .i64 a0_5, .bool a0_6, .bool a0_7] 24 (0, 0)) (by (with_reducible repeat (first | refine blk_drewN ?_ _ | refine blk_drew ?_ | refine blk_alloc ?_ _)); exact BK394.out) hb)
       have n1_ := Aside0.mk (blk_below (g := gb400) (o := .cells #[.string t396, .int .u32 t397, .int .u32 t398, .int .u8 t399] 61 (0, 0)) (by (with_reducible repeat (first | refine blk_drewN ?_ _ | refine blk_drew ?_ | refine blk_alloc ?_ _)); exact BK400.out) hb)
       have n2_ := Aside0.mk (below_step (by repeat (first | (with_reducible first | exact HB.out | apply below_alloc | apply pw_below_drewN | apply below_drew1 | refine below_set ?_ GE394.out | refine below_set ?_ GE400.out) | exact HB.out)) hb)
       clear BK394
       clear BK400
       clear HB
       have BK394 := n0_
       have BK400 := n1_
       have HB := n2_
       clear n0_ n1_ n2_
       (try clear hb)
       (try clear hb2)
       (try clear hk)
       (try clear hi)
       refine hK.out _ _ ⟨(blk_cell BK400.out 0).trans rfl, (blk_cell BK400.out 1).trans rfl, (blk_cell BK400.out 2).trans rfl, (blk_cell BK400.out 3).trans rfl, (blk_cell BK394.out 0).trans rfl, (blk_cell BK394.out 1).trans rfl, (blk_cell BK394.out 2).trans rfl, (blk_cell BK394.out 3).trans rfl, (blk_cell BK394.out 4).trans rfl, (blk_cell BK394.out 5).trans rfl, (blk_cell BK394.out 6).trans rfl, (blk_cell BK394.out 7).trans rfl⟩ (fun hHeld => ?_)
       clear hK K
       refine norm_ (a' := ?_) ?_ ?_
       rotate_left
       ·show Act.put _ (some 58) _ = _
        simp only [Act.put, List.setIfInBounds_toArray, List.set_cons_zero, List.set_cons_succ, i64_w, i32_w]
        rfl
       refine pure_ (i := 6) (N := some 52) (v := ?_) (a' := ?_) #[true, true, true, true, true, true, true, false, false, false, false] rfl rfl (any_of HT_.out (by kernel_rfl)) (fun _ _ _ h => h) (Or.inl ⟨by rfl, ?_⟩) ?_ ?_
       rotate_left
       ·intro w'
        go_simp
        with_reducible rfl
       rotate_left
       ·simp only [Act.put, List.setIfInBounds_toArray, List.set_cons_zero, List.set_cons_succ, i64_w, i32_w]
        rfl
       refine pure_ (i := 7) (N := some 59) (v := ?_) (a' := ?_) #[true, true, true, true, true, true, true, true, false, false, false] rfl rfl (any_of HT_.out (by kernel_rfl)) (fun _ _ _ h => h) (Or.inl ⟨by rfl, ?_⟩) ?_ ?_
       rotate_left
       ·intro w'
        go_simp
        with_reducible rfl
       rotate_left
       ·simp only [Act.put, List.setIfInBounds_toArray, List.set_cons_zero, List.set_cons_succ, i64_w, i32_w]
        rfl
       refine pure_ (i := 8) (N := some 60) (v := ?_) (a' := ?_) #[true, true, true, true, true, true, true, true, true, false, false] rfl rfl (any_of HT_.out (by kernel_rfl)) (fun _ _ _ h => h) (Or.inl ⟨by rfl, ?_⟩) ?_ ?_
       rotate_left
       ·intro w'
        go_simp
        with_reducible rfl
       rotate_left
       ·simp only [Act.put, List.setIfInBounds_toArray, List.set_cons_zero, List.set_cons_succ, i64_w, i32_w]
        rfl
       refine pure_ (i := 9) (N := some 6) (v := ?_) (a' := ?_) #[true, true, true, true, true, true, true, true, true, true, false] rfl rfl (any_of HT_.out (by kernel_rfl)) (fun _ _ _ h => h) (Or.inl ⟨by rfl, ?_⟩) ?_ ?_
       rotate_left
       ·intro w'
        go_simp
        with_reducible rfl
       rotate_left
       ·simp only [Act.put, List.setIfInBounds_toArray, List.set_cons_zero, List.set_cons_succ, i64_w, i32_w]
        rfl
       refine pure_ (i := 10) (N := some 7) (v := ?_) (a' := ?_) #[true, true, true, true, true, true, true, true, true, true, true] rfl rfl (any_of HT_.out (by kernel_rfl)) (fun _ _ _ h => h) (Or.inl ⟨by rfl, ?_⟩) ?_ ?_
       rotate_left
       ·intro w'
        go_simp
        with_reducible rfl
       rotate_left
       ·simp only [Act.put, List.setIfInBounds_toArray, List.set_cons_zero, List.set_cons_succ, i64_w, i32_w]
        rfl
       refine done_ (done_of HT_.out (by kernel_rfl)) ?_
       try go_wp2
       go_ret2
       exact ⟨by first | rfl | (simp [errW_none, errW_some] <;> rfl) | (simp [*, errW_none, errW_some] <;> rfl), by repeat (first | (with_reducible first | exact HB.out | apply below_alloc | apply pw_below_drewN | apply below_drew1 | refine below_set ?_ GE394.out | refine below_set ?_ GE400.out) | exact HB.out)⟩
      ·rw [if_neg c21] at H
       have c21b0 : decide (0 < t401) = false := decide_eq_false c21
       clear c21
       simp only [Option.some.injEq, Prod.mk.injEq] at H
       obtain ⟨rfl, rfl⟩ := H
       have hnb28 := NB400_394.out
       have hnc28 := NB394_400.out
       have hcz29_0 : wc.cell? ⟨gb400, 0, none⟩ = some (.string t396) := (blk_cell BK400.out 0).trans rfl
       have hcz29_1 : wc.cell? ⟨gb400, 1, none⟩ = some (.int .u32 t397) := (blk_cell BK400.out 1).trans rfl
       have hcz29_2 : wc.cell? ⟨gb400, 2, none⟩ = some (.int .u32 t398) := (blk_cell BK400.out 2).trans rfl
       have hcz29_3 : wc.cell? ⟨gb400, 3, none⟩ = some (.int .u8 t399) := (blk_cell BK400.out 3).trans rfl
       have hfz29_0 := blk_frozen BK400.out 0
       have hfz29_1 := blk_frozen BK400.out 1
       have hfz29_2 := blk_frozen BK400.out 2
       have hfz29_3 := blk_frozen BK400.out 3
       go_wp2_with (first | ((with_reducible refine gate_callee (f := 28) rfl ?_); refine goesL_ (some 50) rfl rfl Try.func28 (by kernel_rfl) rfl #[.int .u8 t399] rfl (by (try simp only [List.map_toArray, List.map_cons, List.map_nil]); first | done | rfl | (simp only [List.length_drop, List.length_take]; rfl)) ?_; (with_reducible refine (mezzanineref09_Form.calls t399 t401 _ A20.out).mono ?_); rintro e w' ⟨rfl, ⟨nd, rfl⟩⟩; refine ⟨_, rfl, ?_⟩))
       go_ret2
       exact ⟨by first | rfl | (simp [errW_none, errW_some] <;> rfl) | (simp [*, errW_none, errW_some] <;> rfl), by repeat (first | (with_reducible first | exact HB.out | apply below_alloc | apply pw_below_drewN | apply below_drew1 | refine below_set ?_ GE394.out | refine below_set ?_ GE400.out) | exact HB.out)⟩
 ·replace c3 := Bool.eq_false_iff.mpr c3
  subst c3
  have H1 : (some (0, 80)) = some (r1, r2) := by rw [if_neg (show ¬ (false = true) by decide)] at H; exact H
  clear H
  have H := H1
  clear H1
  simp only [Option.some.injEq, Prod.mk.injEq] at H
  obtain ⟨rfl, rfl⟩ := H
  go_enter Try.func14, Try.ntmps14
  go_wp2_with (first | ((with_reducible refine gate_dst (N := 1) rfl ?_); refine box_event ?hg (N := 1) ?hd (cs := #[.int .i64 a0_0, .int .i64 a0_1, .int .i64 a0_2, .int .i64 a0_3, .int .i64 a0_4, .int .i64 a0_5, .bool a0_6, .bool a0_7]) (t := 24) ?hr ?_; (case hd => rfl); (case hg => rfl); (case hr => first | (go_simp; done) | (go_simp; rfl)); intro gb394 hg w30 hbox hb; have n0_ := Aside0.mk (below_step (by repeat (first | (with_reducible first | exact HB.out | apply below_alloc | apply pw_below_drewN | apply below_drew1) | exact HB.out)) hb); have n1_ := Aside0.mk (hbox); have n2_ := Aside0.mk ((by rw [hg]; exact (below_size (by repeat (first | (with_reducible first | exact HB.out | apply below_alloc | apply pw_below_drewN | apply below_drew1) | exact HB.out))) : w.heap.size ≤ gb394)); have n3_ := Aside0.mk ((by rw [hg]; exact (below_size (by repeat (first | (with_reducible first | exact HB.out | apply below_alloc | apply pw_below_drewN | apply below_drew1) | exact HB.out))) : w.heap.size ≤ gb394)); clear HB; have HB := n0_; have BK394 := n1_; have GW394 := n2_; have GE394 := n3_; clear n0_ n1_ n2_ n3_; clear hb hbox hg; have hcz31_0 : w30.cell? ⟨gb394, 0, none⟩ = some (.int .i64 a0_0) := (blk_cell BK394.out 0).trans rfl; have hcz31_1 : w30.cell? ⟨gb394, 1, none⟩ = some (.int .i64 a0_1) := (blk_cell BK394.out 1).trans rfl; have hcz31_2 : w30.cell? ⟨gb394, 2, none⟩ = some (.int .i64 a0_2) := (blk_cell BK394.out 2).trans rfl; have hcz31_3 : w30.cell? ⟨gb394, 3, none⟩ = some (.int .i64 a0_3) := (blk_cell BK394.out 3).trans rfl; have hcz31_4 : w30.cell? ⟨gb394, 4, none⟩ = some (.int .i64 a0_4) := (blk_cell BK394.out 4).trans rfl; have hcz31_5 : w30.cell? ⟨gb394, 5, none⟩ = some (.int .i64 a0_5) := (blk_cell BK394.out 5).trans rfl; have hcz31_6 : w30.cell? ⟨gb394, 6, none⟩ = some (.bool a0_6) := (blk_cell BK394.out 6).trans rfl; have hcz31_7 : w30.cell? ⟨gb394, 7, none⟩ = some (.bool a0_7) := (blk_cell BK394.out 7).trans rfl; have hfz31_0 := blk_frozen BK394.out 0; have hfz31_1 := blk_frozen BK394.out 1; have hfz31_2 := blk_frozen BK394.out 2; have hfz31_3 := blk_frozen BK394.out 3; have hfz31_4 := blk_frozen BK394.out 4; have hfz31_5 := blk_frozen BK394.out 5; have hfz31_6 := blk_frozen BK394.out 6; have hfz31_7 := blk_frozen BK394.out 7) | ((with_reducible refine gate_callee (f := 27) rfl ?_); refine goesL_ (some 9) rfl rfl Try.func27 (by kernel_rfl) rfl #[.agg #[.int .i64 a0_0, .int .i64 a0_1, .int .i64 a0_2, .int .i64 a0_3, .int .i64 a0_4, .int .i64 a0_5, .bool a0_6, .bool a0_7]] rfl (by (try simp only [List.map_toArray, List.map_cons, List.map_nil]); first | done | rfl | (simp only [List.length_drop, List.length_take]; rfl)) ?_; (with_reducible refine (mezzanineref09_Right.calls k a0_0 a0_1 a0_2 a0_3 a0_4 a0_5 a0_6 a0_7 false _ A2.out).mono ?_); rintro e w32 ⟨rfl, hb⟩; refine ⟨_, rfl, ?_⟩; have n0_ := Aside0.mk (blk_below (g := gb394) (o := .cells #[.int .i64 a0_0, .int .i64 a0_1, .int .i64 a0_2, .int .i64 a0_3, .int .i64 a0_4, .int .i64 a0_5, .bool a0_6, .bool a0_7] 24 (0, 0)) (by (with_reducible repeat (first | refine blk_drewN ?_ _ | refine blk_drew ?_ | refine blk_alloc ?_ _)); exact BK394.out) hb); have n1_ := Aside0.mk (below_step (by repeat (first | (with_reducible first | exact HB.out | apply below_alloc | apply pw_below_drewN | apply below_drew1 | refine below_set ?_ GE394.out) | exact HB.out)) hb); clear BK394; clear HB; have BK394 := n0_; have HB := n1_; clear n0_ n1_; (try clear hb); (try clear hb2); (try clear hk); (try clear hi)))
  go_ret2
  exact ⟨by first | rfl | (simp [errW_none, errW_some] <;> rfl) | (simp [*, errW_none, errW_some] <;> rfl), by repeat (first | (with_reducible first | exact HB.out | apply below_alloc | apply pw_below_drewN | apply below_drew1 | refine below_set ?_ GE394.out) | exact HB.out)⟩

/-! ### mezzaninelaw09_DecodeEncodes: function 4 -/
def mezzaninelaw09_DecodeEncodes.f (k : Nat) (a0_0 : Int) (a0_1 : Int) (a0_2 : Int) (a0_3 : Int) (a0_4 : Int) (a0_5 : Int) (a0_6 : Bool) (a0_7 : Bool) : Option (Bool) := (decode_Encode.f k a0_0 a0_1 a0_2 a0_3 a0_4 a0_5 a0_6 a0_7).bind fun bt406 => ((mezzanineref09_Encode.f k a0_0 a0_1 a0_2 a0_3 a0_4 a0_5 a0_6 a0_7).bind fun bt408 => (if bt406.1 = bt408.1 then (if bt406.2 = bt408.2 then ((mezzaninelaw09_wakes.f k).bind fun t410 => (some t410)) else (some false)) else (some false)))
theorem mezzaninelaw09_DecodeEncodes.mono : ∀ a0 a1 a2 a3 a4 a5 a6 a7 k, LeO (mezzaninelaw09_DecodeEncodes.f k a0 a1 a2 a3 a4 a5 a6 a7) (mezzaninelaw09_DecodeEncodes.f (k + 1) a0 a1 a2 a3 a4 a5 a6 a7) := by
 intro a0 a1 a2 a3 a4 a5 a6 a7 k
 unfold mezzaninelaw09_DecodeEncodes.f
 repeat' first
   | (with_reducible exact decode_Encode.mono _ _ _ _ _ _ _ _ _)
   | (with_reducible exact mezzaninelaw09_wakes.mono _)
   | (with_reducible exact mezzanineref09_Encode.mono _ _ _ _ _ _ _ _ _)
   | (with_reducible exact LeO.refl _)
   | (with_reducible exact LeO.none _)
   | (with_reducible refine LeO.ite ?_ ?_)
   | (with_reducible refine LeO.bind ?_ (fun _ => ?_))
   | exact decode_Encode.mono _ _ _ _ _ _ _ _ _
   | exact mezzaninelaw09_wakes.mono _
   | exact mezzanineref09_Encode.mono _ _ _ _ _ _ _ _ _
   | exact LeO.none _
   | refine LeO.ite ?_ ?_
   | refine LeO.bind ?_ (fun _ => ?_)
set_option maxHeartbeats 8000000 in
set_option maxRecDepth 100000 in
theorem mezzaninelaw09_DecodeEncodes.calls (k : Nat) (a0_0 : Int) (a0_1 : Int) (a0_2 : Int) (a0_3 : Int) (a0_4 : Int) (a0_5 : Int) (a0_6 : Bool) (a0_7 : Bool) (r : Bool) (w : World) (h : mezzaninelaw09_DecodeEncodes.f k a0_0 a0_1 a0_2 a0_3 a0_4 a0_5 a0_6 a0_7 = some r) :
  Calls Try.prog 4 #[.agg #[.int .i64 a0_0, .int .i64 a0_1, .int .i64 a0_2, .int .i64 a0_3, .int .i64 a0_4, .int .i64 a0_5, .bool a0_6, .bool a0_7]] w fun e w' => e = .returned (.bool r) ∧ Below w.heap.size w w' := by
 have hu24 := Try.underlying24
 have HB := Aside0.mk (Below.refl w.heap.size w)
 have H : ((decode_Encode.f k a0_0 a0_1 a0_2 a0_3 a0_4 a0_5 a0_6 a0_7).bind fun bt406 => ((mezzanineref09_Encode.f k a0_0 a0_1 a0_2 a0_3 a0_4 a0_5 a0_6 a0_7).bind fun bt408 => (if bt406.1 = bt408.1 then (if bt406.2 = bt408.2 then ((mezzaninelaw09_wakes.f k).bind fun t410 => (some t410)) else (some false)) else (some false)))) = some r := h
 clear h
 replace H := Option.bind_eq_some_iff.mp H
 obtain ⟨⟨t406, t407⟩, A20, H⟩ := H
 replace H : ((mezzanineref09_Encode.f k a0_0 a0_1 a0_2 a0_3 a0_4 a0_5 a0_6 a0_7).bind fun bt408 => (if t406 = bt408.1 then (if t407 = bt408.2 then ((mezzaninelaw09_wakes.f k).bind fun t410 => (some t410)) else (some false)) else (some false))) = some r := H
 have A2 := Aside0.mk A20
 clear A20
 replace H := Option.bind_eq_some_iff.mp H
 obtain ⟨⟨t408, t409⟩, A30, H⟩ := H
 replace H : (if t406 = t408 then (if t407 = t409 then ((mezzaninelaw09_wakes.f k).bind fun t410 => (some t410)) else (some false)) else (some false)) = some r := H
 have A3 := Aside0.mk A30
 clear A30
 by_cases c4 : t406 = t408
 ·rw [if_pos c4] at H
  have c4b0 : (t406 == t408) = true := beq_iff_eq.mpr c4
  have c4b1 : (t406 != t408) = false := bne_eq_false_iff_eq.mpr c4
  clear c4
  by_cases c5 : t407 = t409
  ·rw [if_pos c5] at H
   have c5b0 : (t407 == t409) = true := beq_iff_eq.mpr c5
   have c5b1 : (t407 != t409) = false := bne_eq_false_iff_eq.mpr c5
   clear c5
   replace H := Option.bind_eq_some_iff.mp H
   obtain ⟨t410, A60, H⟩ := H
   replace H : (some t410) = some r := H
   have A6 := Aside0.mk A60
   clear A60
   obtain rfl := Option.some.inj H
   go_enter Try.func4, Try.ntmps4
   go_wp2_with (first | ((with_reducible refine gate_dst (N := 1) rfl ?_); refine box_event ?hg (N := 1) ?hd (cs := #[.int .i64 a0_0, .int .i64 a0_1, .int .i64 a0_2, .int .i64 a0_3, .int .i64 a0_4, .int .i64 a0_5, .bool a0_6, .bool a0_7]) (t := 24) ?hr ?_; (case hd => rfl); (case hg => rfl); (case hr => first | (go_simp; done) | (go_simp; rfl)); intro gb405 hg w7 hbox hb; have n0_ := Aside0.mk (below_step (by repeat (first | (with_reducible first | exact HB.out | apply below_alloc | apply pw_below_drewN | apply below_drew1) | exact HB.out)) hb); have n1_ := Aside0.mk (hbox); have n2_ := Aside0.mk ((by rw [hg]; exact (below_size (by repeat (first | (with_reducible first | exact HB.out | apply below_alloc | apply pw_below_drewN | apply below_drew1) | exact HB.out))) : w.heap.size ≤ gb405)); have n3_ := Aside0.mk ((by rw [hg]; exact (below_size (by repeat (first | (with_reducible first | exact HB.out | apply below_alloc | apply pw_below_drewN | apply below_drew1) | exact HB.out))) : w.heap.size ≤ gb405)); clear HB; have HB := n0_; have BK405 := n1_; have GW405 := n2_; have GE405 := n3_; clear n0_ n1_ n2_ n3_; clear hb hbox hg; have hcz8_0 : w7.cell? ⟨gb405, 0, none⟩ = some (.int .i64 a0_0) := (blk_cell BK405.out 0).trans rfl; have hcz8_1 : w7.cell? ⟨gb405, 1, none⟩ = some (.int .i64 a0_1) := (blk_cell BK405.out 1).trans rfl; have hcz8_2 : w7.cell? ⟨gb405, 2, none⟩ = some (.int .i64 a0_2) := (blk_cell BK405.out 2).trans rfl; have hcz8_3 : w7.cell? ⟨gb405, 3, none⟩ = some (.int .i64 a0_3) := (blk_cell BK405.out 3).trans rfl; have hcz8_4 : w7.cell? ⟨gb405, 4, none⟩ = some (.int .i64 a0_4) := (blk_cell BK405.out 4).trans rfl; have hcz8_5 : w7.cell? ⟨gb405, 5, none⟩ = some (.int .i64 a0_5) := (blk_cell BK405.out 5).trans rfl; have hcz8_6 : w7.cell? ⟨gb405, 6, none⟩ = some (.bool a0_6) := (blk_cell BK405.out 6).trans rfl; have hcz8_7 : w7.cell? ⟨gb405, 7, none⟩ = some (.bool a0_7) := (blk_cell BK405.out 7).trans rfl; have hfz8_0 := blk_frozen BK405.out 0; have hfz8_1 := blk_frozen BK405.out 1; have hfz8_2 := blk_frozen BK405.out 2; have hfz8_3 := blk_frozen BK405.out 3; have hfz8_4 := blk_frozen BK405.out 4; have hfz8_5 := blk_frozen BK405.out 5; have hfz8_6 := blk_frozen BK405.out 6; have hfz8_7 := blk_frozen BK405.out 7) | ((with_reducible refine gate_callee (f := 13) rfl ?_); refine goesL_ (some 9) rfl rfl Try.func13 (by kernel_rfl) rfl #[.agg #[.int .i64 a0_0, .int .i64 a0_1, .int .i64 a0_2, .int .i64 a0_3, .int .i64 a0_4, .int .i64 a0_5, .bool a0_6, .bool a0_7]] rfl (by (try simp only [List.map_toArray, List.map_cons, List.map_nil]); first | done | rfl | (simp only [List.length_drop, List.length_take]; rfl)) ?_; (with_reducible refine (decode_Encode.calls k a0_0 a0_1 a0_2 a0_3 a0_4 a0_5 a0_6 a0_7 t406 t407 _ A2.out).mono ?_); rintro e w9 ⟨rfl, hb⟩; refine ⟨_, rfl, ?_⟩; have n0_ := Aside0.mk (blk_below (g := gb405) (o := .cells #[.int .i64 a0_0, .int .i64 a0_1, .int .i64 a0_2, .int .i64 a0_3, .int .i64 a0_4, .int .i64 a0_5, .bool a0_6, .bool a0_7] 24 (0, 0)) (by (with_reducible repeat (first | refine blk_drewN ?_ _ | refine blk_drew ?_ | refine blk_alloc ?_ _)); exact BK405.out) hb); have n1_ := Aside0.mk (below_step (by repeat (first | (with_reducible first | exact HB.out | apply below_alloc | apply pw_below_drewN | apply below_drew1 | refine below_set ?_ GE405.out) | exact HB.out)) hb); clear BK405; clear HB; have BK405 := n0_; have HB := n1_; clear n0_ n1_; (try clear hb); (try clear hb2); (try clear hk); (try clear hi); have hcz10_0 : w9.cell? ⟨gb405, 0, none⟩ = some (.int .i64 a0_0) := (blk_cell BK405.out 0).trans rfl; have hcz10_1 : w9.cell? ⟨gb405, 1, none⟩ = some (.int .i64 a0_1) := (blk_cell BK405.out 1).trans rfl; have hcz10_2 : w9.cell? ⟨gb405, 2, none⟩ = some (.int .i64 a0_2) := (blk_cell BK405.out 2).trans rfl; have hcz10_3 : w9.cell? ⟨gb405, 3, none⟩ = some (.int .i64 a0_3) := (blk_cell BK405.out 3).trans rfl; have hcz10_4 : w9.cell? ⟨gb405, 4, none⟩ = some (.int .i64 a0_4) := (blk_cell BK405.out 4).trans rfl; have hcz10_5 : w9.cell? ⟨gb405, 5, none⟩ = some (.int .i64 a0_5) := (blk_cell BK405.out 5).trans rfl; have hcz10_6 : w9.cell? ⟨gb405, 6, none⟩ = some (.bool a0_6) := (blk_cell BK405.out 6).trans rfl; have hcz10_7 : w9.cell? ⟨gb405, 7, none⟩ = some (.bool a0_7) := (blk_cell BK405.out 7).trans rfl; have hfz10_0 := blk_frozen BK405.out 0; have hfz10_1 := blk_frozen BK405.out 1; have hfz10_2 := blk_frozen BK405.out 2; have hfz10_3 := blk_frozen BK405.out 3; have hfz10_4 := blk_frozen BK405.out 4; have hfz10_5 := blk_frozen BK405.out 5; have hfz10_6 := blk_frozen BK405.out 6; have hfz10_7 := blk_frozen BK405.out 7) | ((with_reducible refine gate_callee (f := 14) rfl ?_); refine goesL_ (some 14) rfl rfl Try.func14 (by kernel_rfl) rfl #[.agg #[.int .i64 a0_0, .int .i64 a0_1, .int .i64 a0_2, .int .i64 a0_3, .int .i64 a0_4, .int .i64 a0_5, .bool a0_6, .bool a0_7]] rfl (by (try simp only [List.map_toArray, List.map_cons, List.map_nil]); first | done | rfl | (simp only [List.length_drop, List.length_take]; rfl)) ?_; (with_reducible refine (mezzanineref09_Encode.calls k a0_0 a0_1 a0_2 a0_3 a0_4 a0_5 a0_6 a0_7 t408 t409 _ A3.out).mono ?_); rintro e w11 ⟨rfl, hb⟩; refine ⟨_, rfl, ?_⟩; have n0_ := Aside0.mk (blk_below (g := gb405) (o := .cells #[.int .i64 a0_0, .int .i64 a0_1, .int .i64 a0_2, .int .i64 a0_3, .int .i64 a0_4, .int .i64 a0_5, .bool a0_6, .bool a0_7] 24 (0, 0)) (by (with_reducible repeat (first | refine blk_drewN ?_ _ | refine blk_drew ?_ | refine blk_alloc ?_ _)); exact BK405.out) hb); have n1_ := Aside0.mk (below_step (by repeat (first | (with_reducible first | exact HB.out | apply below_alloc | apply pw_below_drewN | apply below_drew1 | refine below_set ?_ GE405.out) | exact HB.out)) hb); clear BK405; clear HB; have BK405 := n0_; have HB := n1_; clear n0_ n1_; (try clear hb); (try clear hb2); (try clear hk); (try clear hi)) | (go_at_call 12; (with_reducible refine (mezzaninelaw09_wakes.calls k  t410 _ A6.out).mono ?_); rintro e w12 ⟨rfl, hb⟩; have n0_ := Aside0.mk (blk_below (g := gb405) (o := .cells #[.int .i64 a0_0, .int .i64 a0_1, .int .i64 a0_2, .int .i64 a0_3, .int .i64 a0_4, .int .i64 a0_5, .bool a0_6, .bool a0_7] 24 (0, 0)) (by (with_reducible repeat (first | refine blk_drewN ?_ _ | refine blk_drew ?_ | refine blk_alloc ?_ _)); exact BK405.out) hb); have n1_ := Aside0.mk (below_step (by repeat (first | (with_reducible first | exact HB.out | apply below_alloc | apply pw_below_drewN | apply below_drew1 | refine below_set ?_ GE405.out) | exact HB.out)) hb); clear BK405; clear HB; have BK405 := n0_; have HB := n1_; clear n0_ n1_; (try clear hb); (try clear hb2); (try clear hk); (try clear hi)))
   go_ret
   exact ⟨by first | rfl | (simp [errW_none, errW_some] <;> rfl) | (simp [*, errW_none, errW_some] <;> rfl), by repeat (first | (with_reducible first | exact HB.out | apply below_alloc | apply pw_below_drewN | apply below_drew1 | refine below_set ?_ GE405.out) | exact HB.out)⟩
  ·rw [if_neg c5] at H
   have c5b0 : (t407 == t409) = false := beq_eq_false_iff_ne.mpr c5
   have c5b1 : (t407 != t409) = true := bne_iff_ne.mpr c5
   obtain rfl := Option.some.inj H
   go_enter Try.func4, Try.ntmps4
   go_wp2_with (first | ((with_reducible refine gate_dst (N := 1) rfl ?_); refine box_event ?hg (N := 1) ?hd (cs := #[.int .i64 a0_0, .int .i64 a0_1, .int .i64 a0_2, .int .i64 a0_3, .int .i64 a0_4, .int .i64 a0_5, .bool a0_6, .bool a0_7]) (t := 24) ?hr ?_; (case hd => rfl); (case hg => rfl); (case hr => first | (go_simp; done) | (go_simp; rfl)); intro gb405 hg w13 hbox hb; have n0_ := Aside0.mk (below_step (by repeat (first | (with_reducible first | exact HB.out | apply below_alloc | apply pw_below_drewN | apply below_drew1) | exact HB.out)) hb); have n1_ := Aside0.mk (hbox); have n2_ := Aside0.mk ((by rw [hg]; exact (below_size (by repeat (first | (with_reducible first | exact HB.out | apply below_alloc | apply pw_below_drewN | apply below_drew1) | exact HB.out))) : w.heap.size ≤ gb405)); have n3_ := Aside0.mk ((by rw [hg]; exact (below_size (by repeat (first | (with_reducible first | exact HB.out | apply below_alloc | apply pw_below_drewN | apply below_drew1) | exact HB.out))) : w.heap.size ≤ gb405)); clear HB; have HB := n0_; have BK405 := n1_; have GW405 := n2_; have GE405 := n3_; clear n0_ n1_ n2_ n3_; clear hb hbox hg; have hcz14_0 : w13.cell? ⟨gb405, 0, none⟩ = some (.int .i64 a0_0) := (blk_cell BK405.out 0).trans rfl; have hcz14_1 : w13.cell? ⟨gb405, 1, none⟩ = some (.int .i64 a0_1) := (blk_cell BK405.out 1).trans rfl; have hcz14_2 : w13.cell? ⟨gb405, 2, none⟩ = some (.int .i64 a0_2) := (blk_cell BK405.out 2).trans rfl; have hcz14_3 : w13.cell? ⟨gb405, 3, none⟩ = some (.int .i64 a0_3) := (blk_cell BK405.out 3).trans rfl; have hcz14_4 : w13.cell? ⟨gb405, 4, none⟩ = some (.int .i64 a0_4) := (blk_cell BK405.out 4).trans rfl; have hcz14_5 : w13.cell? ⟨gb405, 5, none⟩ = some (.int .i64 a0_5) := (blk_cell BK405.out 5).trans rfl; have hcz14_6 : w13.cell? ⟨gb405, 6, none⟩ = some (.bool a0_6) := (blk_cell BK405.out 6).trans rfl; have hcz14_7 : w13.cell? ⟨gb405, 7, none⟩ = some (.bool a0_7) := (blk_cell BK405.out 7).trans rfl; have hfz14_0 := blk_frozen BK405.out 0; have hfz14_1 := blk_frozen BK405.out 1; have hfz14_2 := blk_frozen BK405.out 2; have hfz14_3 := blk_frozen BK405.out 3; have hfz14_4 := blk_frozen BK405.out 4; have hfz14_5 := blk_frozen BK405.out 5; have hfz14_6 := blk_frozen BK405.out 6; have hfz14_7 := blk_frozen BK405.out 7) | ((with_reducible refine gate_callee (f := 13) rfl ?_); refine goesL_ (some 9) rfl rfl Try.func13 (by kernel_rfl) rfl #[.agg #[.int .i64 a0_0, .int .i64 a0_1, .int .i64 a0_2, .int .i64 a0_3, .int .i64 a0_4, .int .i64 a0_5, .bool a0_6, .bool a0_7]] rfl (by (try simp only [List.map_toArray, List.map_cons, List.map_nil]); first | done | rfl | (simp only [List.length_drop, List.length_take]; rfl)) ?_; (with_reducible refine (decode_Encode.calls k a0_0 a0_1 a0_2 a0_3 a0_4 a0_5 a0_6 a0_7 t406 t407 _ A2.out).mono ?_); rintro e w15 ⟨rfl, hb⟩; refine ⟨_, rfl, ?_⟩; have n0_ := Aside0.mk (blk_below (g := gb405) (o := .cells #[.int .i64 a0_0, .int .i64 a0_1, .int .i64 a0_2, .int .i64 a0_3, .int .i64 a0_4, .int .i64 a0_5, .bool a0_6, .bool a0_7] 24 (0, 0)) (by (with_reducible repeat (first | refine blk_drewN ?_ _ | refine blk_drew ?_ | refine blk_alloc ?_ _)); exact BK405.out) hb); have n1_ := Aside0.mk (below_step (by repeat (first | (with_reducible first | exact HB.out | apply below_alloc | apply pw_below_drewN | apply below_drew1 | refine below_set ?_ GE405.out) | exact HB.out)) hb); clear BK405; clear HB; have BK405 := n0_; have HB := n1_; clear n0_ n1_; (try clear hb); (try clear hb2); (try clear hk); (try clear hi); have hcz16_0 : w15.cell? ⟨gb405, 0, none⟩ = some (.int .i64 a0_0) := (blk_cell BK405.out 0).trans rfl; have hcz16_1 : w15.cell? ⟨gb405, 1, none⟩ = some (.int .i64 a0_1) := (blk_cell BK405.out 1).trans rfl; have hcz16_2 : w15.cell? ⟨gb405, 2, none⟩ = some (.int .i64 a0_2) := (blk_cell BK405.out 2).trans rfl; have hcz16_3 : w15.cell? ⟨gb405, 3, none⟩ = some (.int .i64 a0_3) := (blk_cell BK405.out 3).trans rfl; have hcz16_4 : w15.cell? ⟨gb405, 4, none⟩ = some (.int .i64 a0_4) := (blk_cell BK405.out 4).trans rfl; have hcz16_5 : w15.cell? ⟨gb405, 5, none⟩ = some (.int .i64 a0_5) := (blk_cell BK405.out 5).trans rfl; have hcz16_6 : w15.cell? ⟨gb405, 6, none⟩ = some (.bool a0_6) := (blk_cell BK405.out 6).trans rfl; have hcz16_7 : w15.cell? ⟨gb405, 7, none⟩ = some (.bool a0_7) := (blk_cell BK405.out 7).trans rfl; have hfz16_0 := blk_frozen BK405.out 0; have hfz16_1 := blk_frozen BK405.out 1; have hfz16_2 := blk_frozen BK405.out 2; have hfz16_3 := blk_frozen BK405.out 3; have hfz16_4 := blk_frozen BK405.out 4; have hfz16_5 := blk_frozen BK405.out 5; have hfz16_6 := blk_frozen BK405.out 6; have hfz16_7 := blk_frozen BK405.out 7) | ((with_reducible refine gate_callee (f := 14) rfl ?_); refine goesL_ (some 14) rfl rfl Try.func14 (by kernel_rfl) rfl #[.agg #[.int .i64 a0_0, .int .i64 a0_1, .int .i64 a0_2, .int .i64 a0_3, .int .i64 a0_4, .int .i64 a0_5, .bool a0_6, .bool a0_7]] rfl (by (try simp only [List.map_toArray, List.map_cons, List.map_nil]); first | done | rfl | (simp only [List.length_drop, List.length_take]; rfl)) ?_; (with_reducible refine (mezzanineref09_Encode.calls k a0_0 a0_1 a0_2 a0_3 a0_4 a0_5 a0_6 a0_7 t408 t409 _ A3.out).mono ?_); rintro e w17 ⟨rfl, hb⟩; refine ⟨_, rfl, ?_⟩; have n0_ := Aside0.mk (blk_below (g := gb405) (o := .cells #[.int .i64 a0_0, .int .i64 a0_1, .int .i64 a0_2, .int .i64 a0_3, .int .i64 a0_4, .int .i64 a0_5, .bool a0_6, .bool a0_7] 24 (0, 0)) (by (with_reducible repeat (first | refine blk_drewN ?_ _ | refine blk_drew ?_ | refine blk_alloc ?_ _)); exact BK405.out) hb); have n1_ := Aside0.mk (below_step (by repeat (first | (with_reducible first | exact HB.out | apply below_alloc | apply pw_below_drewN | apply below_drew1 | refine below_set ?_ GE405.out) | exact HB.out)) hb); clear BK405; clear HB; have BK405 := n0_; have HB := n1_; clear n0_ n1_; (try clear hb); (try clear hb2); (try clear hk); (try clear hi)))
   go_ret
   exact ⟨by first | rfl | (simp [errW_none, errW_some] <;> rfl) | (simp [*, errW_none, errW_some] <;> rfl), by repeat (first | (with_reducible first | exact HB.out | apply below_alloc | apply pw_below_drewN | apply below_drew1 | refine below_set ?_ GE405.out) | exact HB.out)⟩
 ·rw [if_neg c4] at H
  have c4b0 : (t406 == t408) = false := beq_eq_false_iff_ne.mpr c4
  have c4b1 : (t406 != t408) = true := bne_iff_ne.mpr c4
  obtain rfl := Option.some.inj H
  go_enter Try.func4, Try.ntmps4
  go_wp2_with (first | ((with_reducible refine gate_dst (N := 1) rfl ?_); refine box_event ?hg (N := 1) ?hd (cs := #[.int .i64 a0_0, .int .i64 a0_1, .int .i64 a0_2, .int .i64 a0_3, .int .i64 a0_4, .int .i64 a0_5, .bool a0_6, .bool a0_7]) (t := 24) ?hr ?_; (case hd => rfl); (case hg => rfl); (case hr => first | (go_simp; done) | (go_simp; rfl)); intro gb405 hg w18 hbox hb; have n0_ := Aside0.mk (below_step (by repeat (first | (with_reducible first | exact HB.out | apply below_alloc | apply pw_below_drewN | apply below_drew1) | exact HB.out)) hb); have n1_ := Aside0.mk (hbox); have n2_ := Aside0.mk ((by rw [hg]; exact (below_size (by repeat (first | (with_reducible first | exact HB.out | apply below_alloc | apply pw_below_drewN | apply below_drew1) | exact HB.out))) : w.heap.size ≤ gb405)); have n3_ := Aside0.mk ((by rw [hg]; exact (below_size (by repeat (first | (with_reducible first | exact HB.out | apply below_alloc | apply pw_below_drewN | apply below_drew1) | exact HB.out))) : w.heap.size ≤ gb405)); clear HB; have HB := n0_; have BK405 := n1_; have GW405 := n2_; have GE405 := n3_; clear n0_ n1_ n2_ n3_; clear hb hbox hg; have hcz19_0 : w18.cell? ⟨gb405, 0, none⟩ = some (.int .i64 a0_0) := (blk_cell BK405.out 0).trans rfl; have hcz19_1 : w18.cell? ⟨gb405, 1, none⟩ = some (.int .i64 a0_1) := (blk_cell BK405.out 1).trans rfl; have hcz19_2 : w18.cell? ⟨gb405, 2, none⟩ = some (.int .i64 a0_2) := (blk_cell BK405.out 2).trans rfl; have hcz19_3 : w18.cell? ⟨gb405, 3, none⟩ = some (.int .i64 a0_3) := (blk_cell BK405.out 3).trans rfl; have hcz19_4 : w18.cell? ⟨gb405, 4, none⟩ = some (.int .i64 a0_4) := (blk_cell BK405.out 4).trans rfl; have hcz19_5 : w18.cell? ⟨gb405, 5, none⟩ = some (.int .i64 a0_5) := (blk_cell BK405.out 5).trans rfl; have hcz19_6 : w18.cell? ⟨gb405, 6, none⟩ = some (.bool a0_6) := (blk_cell BK405.out 6).trans rfl; have hcz19_7 : w18.cell? ⟨gb405, 7, none⟩ = some (.bool a0_7) := (blk_cell BK405.out 7).trans rfl; have hfz19_0 := blk_frozen BK405.out 0; have hfz19_1 := blk_frozen BK405.out 1; have hfz19_2 := blk_frozen BK405.out 2; have hfz19_3 := blk_frozen BK405.out 3; have hfz19_4 := blk_frozen BK405.out 4; have hfz19_5 := blk_frozen BK405.out 5; have hfz19_6 := blk_frozen BK405.out 6; have hfz19_7 := blk_frozen BK405.out 7) | ((with_reducible refine gate_callee (f := 13) rfl ?_); refine goesL_ (some 9) rfl rfl Try.func13 (by kernel_rfl) rfl #[.agg #[.int .i64 a0_0, .int .i64 a0_1, .int .i64 a0_2, .int .i64 a0_3, .int .i64 a0_4, .int .i64 a0_5, .bool a0_6, .bool a0_7]] rfl (by (try simp only [List.map_toArray, List.map_cons, List.map_nil]); first | done | rfl | (simp only [List.length_drop, List.length_take]; rfl)) ?_; (with_reducible refine (decode_Encode.calls k a0_0 a0_1 a0_2 a0_3 a0_4 a0_5 a0_6 a0_7 t406 t407 _ A2.out).mono ?_); rintro e w20 ⟨rfl, hb⟩; refine ⟨_, rfl, ?_⟩; have n0_ := Aside0.mk (blk_below (g := gb405) (o := .cells #[.int .i64 a0_0, .int .i64 a0_1, .int .i64 a0_2, .int .i64 a0_3, .int .i64 a0_4, .int .i64 a0_5, .bool a0_6, .bool a0_7] 24 (0, 0)) (by (with_reducible repeat (first | refine blk_drewN ?_ _ | refine blk_drew ?_ | refine blk_alloc ?_ _)); exact BK405.out) hb); have n1_ := Aside0.mk (below_step (by repeat (first | (with_reducible first | exact HB.out | apply below_alloc | apply pw_below_drewN | apply below_drew1 | refine below_set ?_ GE405.out) | exact HB.out)) hb); clear BK405; clear HB; have BK405 := n0_; have HB := n1_; clear n0_ n1_; (try clear hb); (try clear hb2); (try clear hk); (try clear hi); have hcz21_0 : w20.cell? ⟨gb405, 0, none⟩ = some (.int .i64 a0_0) := (blk_cell BK405.out 0).trans rfl; have hcz21_1 : w20.cell? ⟨gb405, 1, none⟩ = some (.int .i64 a0_1) := (blk_cell BK405.out 1).trans rfl; have hcz21_2 : w20.cell? ⟨gb405, 2, none⟩ = some (.int .i64 a0_2) := (blk_cell BK405.out 2).trans rfl; have hcz21_3 : w20.cell? ⟨gb405, 3, none⟩ = some (.int .i64 a0_3) := (blk_cell BK405.out 3).trans rfl; have hcz21_4 : w20.cell? ⟨gb405, 4, none⟩ = some (.int .i64 a0_4) := (blk_cell BK405.out 4).trans rfl; have hcz21_5 : w20.cell? ⟨gb405, 5, none⟩ = some (.int .i64 a0_5) := (blk_cell BK405.out 5).trans rfl; have hcz21_6 : w20.cell? ⟨gb405, 6, none⟩ = some (.bool a0_6) := (blk_cell BK405.out 6).trans rfl; have hcz21_7 : w20.cell? ⟨gb405, 7, none⟩ = some (.bool a0_7) := (blk_cell BK405.out 7).trans rfl; have hfz21_0 := blk_frozen BK405.out 0; have hfz21_1 := blk_frozen BK405.out 1; have hfz21_2 := blk_frozen BK405.out 2; have hfz21_3 := blk_frozen BK405.out 3; have hfz21_4 := blk_frozen BK405.out 4; have hfz21_5 := blk_frozen BK405.out 5; have hfz21_6 := blk_frozen BK405.out 6; have hfz21_7 := blk_frozen BK405.out 7) | ((with_reducible refine gate_callee (f := 14) rfl ?_); refine goesL_ (some 14) rfl rfl Try.func14 (by kernel_rfl) rfl #[.agg #[.int .i64 a0_0, .int .i64 a0_1, .int .i64 a0_2, .int .i64 a0_3, .int .i64 a0_4, .int .i64 a0_5, .bool a0_6, .bool a0_7]] rfl (by (try simp only [List.map_toArray, List.map_cons, List.map_nil]); first | done | rfl | (simp only [List.length_drop, List.length_take]; rfl)) ?_; (with_reducible refine (mezzanineref09_Encode.calls k a0_0 a0_1 a0_2 a0_3 a0_4 a0_5 a0_6 a0_7 t408 t409 _ A3.out).mono ?_); rintro e w22 ⟨rfl, hb⟩; refine ⟨_, rfl, ?_⟩; have n0_ := Aside0.mk (blk_below (g := gb405) (o := .cells #[.int .i64 a0_0, .int .i64 a0_1, .int .i64 a0_2, .int .i64 a0_3, .int .i64 a0_4, .int .i64 a0_5, .bool a0_6, .bool a0_7] 24 (0, 0)) (by (with_reducible repeat (first | refine blk_drewN ?_ _ | refine blk_drew ?_ | refine blk_alloc ?_ _)); exact BK405.out) hb); have n1_ := Aside0.mk (below_step (by repeat (first | (with_reducible first | exact HB.out | apply below_alloc | apply pw_below_drewN | apply below_drew1 | refine below_set ?_ GE405.out) | exact HB.out)) hb); clear BK405; clear HB; have BK405 := n0_; have HB := n1_; clear n0_ n1_; (try clear hb); (try clear hb2); (try clear hk); (try clear hi)))
  go_ret
  exact ⟨by first | rfl | (simp [errW_none, errW_some] <;> rfl) | (simp [*, errW_none, errW_some] <;> rfl), by repeat (first | (with_reducible first | exact HB.out | apply below_alloc | apply pw_below_drewN | apply below_drew1 | refine below_set ?_ GE405.out) | exact HB.out)⟩

end Go.Proofs.Ytknkfimpflodeaa.P
