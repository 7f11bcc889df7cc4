-- written by a program of this place (wip/lay.sh, wip/print2.py over the kit's print; wip/regroup.py); Lean checks it
import Derived.Test.YtknkfimpflodeaaGreatDoorG0
namespace Go.Proofs.YtknkfimpflodeaaGreatDoor.P
open Go.RowKit Go.Proofs.YtknkfimpflodeaaGreatDoorW.PrintWords Go.Proofs.YtknkfimpflodeaaGreatDoorW.PrintLast Go.Proofs.YtknkfimpflodeaaGreatDoorW.PrintMore
attribute [local go_sem] max2_int min2_int max_two min_two max_three min_three max_four min_four
set_option linter.unusedVariables false
set_option linter.unusedSimpArgs false
attribute [local go_sem] run_f0 run_f1 run_f2 run_f3 run_g0 run_g1 run_g2 run_g3
/-! ### mezzaninelaw10_done: function 24 -/
mutual
def mezzaninelaw10_done.l0 : Nat → Int → List (S23) → Int → Int → Option (Int × Bool)
 | 0, _, _, _, _ => none
 | k + 1, x0, x1, x6, x7 => if x7 < (x1.length : Int) then (if 0 ≤ x7 then (if ((rd_T23 x1 x7).f1) = x0 then (if ((rd_T23 x1 x7).f2) = 0 then (mezzaninelaw10_done.j1 k x0 x1 x6 x7 (decide (x7 > 0)) ((rd_T23 x1 x7).f0) ((rd_T23 x1 x7).f1) ((rd_T23 x1 x7).f2) ((rd_T23 x1 x7).f3) ((rd_T23 x1 x7).f4) ((rd_T23 x1 x7).f5) ((rd_T23 x1 x7).f6) ((rd_T23 x1 x7).f7)) else (if ((rd_T23 x1 x7).f2) = x0 then (mezzaninelaw10_done.j1 k x0 x1 x6 x7 false ((rd_T23 x1 x7).f0) ((rd_T23 x1 x7).f1) ((rd_T23 x1 x7).f2) ((rd_T23 x1 x7).f3) ((rd_T23 x1 x7).f4) ((rd_T23 x1 x7).f5) ((rd_T23 x1 x7).f6) ((rd_T23 x1 x7).f7)) else (mezzaninelaw10_done.j1 k x0 x1 x6 x7 true ((rd_T23 x1 x7).f0) ((rd_T23 x1 x7).f1) ((rd_T23 x1 x7).f2) ((rd_T23 x1 x7).f3) ((rd_T23 x1 x7).f4) ((rd_T23 x1 x7).f5) ((rd_T23 x1 x7).f6) ((rd_T23 x1 x7).f7)))) else (mezzaninelaw10_done.j1 k x0 x1 x6 x7 true ((rd_T23 x1 x7).f0) ((rd_T23 x1 x7).f1) ((rd_T23 x1 x7).f2) ((rd_T23 x1 x7).f3) ((rd_T23 x1 x7).f4) ((rd_T23 x1 x7).f5) ((rd_T23 x1 x7).f6) ((rd_T23 x1 x7).f7))) else (none)) else (some (x6, true))
def mezzaninelaw10_done.j1 : Nat → Int → List (S23) → Int → Int → Bool → Int → Int → Int → Int → Int → Int → Bool → Bool → Option (Int × Bool)
 | 0, _, _, _, _, _, _, _, _, _, _, _, _, _ => none
 | k + 1, x0, x1, x6, x7, x42, x506000, x506001, x506002, x506003, x506004, x506005, x506006, x506007 => if x42 = true then (some (0, false)) else (if x506000 = 22 then (if x506002 = 0 then (mezzaninelaw10_done.l0 k x0 x1 (wrap64 (0 + x506004)) (wrap64 (x7 + 1))) else (mezzaninelaw10_done.l0 k x0 x1 (wrap64 (x6 + x506004)) (wrap64 (x7 + 1)))) else (if x506000 = 1 then (mezzaninelaw10_done.l0 k x0 x1 x506004 (wrap64 (x7 + 1))) else (if x506000 = 31 then (mezzaninelaw10_done.l0 k x0 x1 (wrap64 (wrap32 (wrap64 (x6 + x506004)))) (wrap64 (x7 + 1))) else (if x506000 = 28 then (if 0 ≤ (IntKind.u64.wrap (Go.bits .and .i64 x506004 63)) then (mezzaninelaw10_done.l0 k x0 x1 (shl .i64 x6 (IntKind.u64.wrap (Go.bits .and .i64 x506004 63))) (wrap64 (x7 + 1))) else (none)) else (some (0, false))))))
end
def mezzaninelaw10_done.f (k : Nat) (a0 : Int) (l1 : List (S23)) : Option (Int × Bool) := mezzaninelaw10_done.l0 k a0 l1 0 0
theorem mezzaninelaw10_done.mono_l : ∀ k, (∀ y0 y1 y2 y3, LeO (mezzaninelaw10_done.l0 k y0 y1 y2 y3) (mezzaninelaw10_done.l0 (k + 1) y0 y1 y2 y3)) ∧ (∀ y0 y1 y2 y3 y4 y5 y6 y7 y8 y9 y10 y11 y12, LeO (mezzaninelaw10_done.j1 k y0 y1 y2 y3 y4 y5 y6 y7 y8 y9 y10 y11 y12) (mezzaninelaw10_done.j1 (k + 1) y0 y1 y2 y3 y4 y5 y6 y7 y8 y9 y10 y11 y12))
 | 0 => ⟨fun _ _ _ _ r h => by simp [mezzaninelaw10_done.l0] at h, fun _ _ _ _ _ _ _ _ _ _ _ _ _ r h => by simp [mezzaninelaw10_done.j1] at h⟩
 | k + 1 => by
  obtain ⟨ih0, ih1⟩ := mezzaninelaw10_done.mono_l k
  refine ⟨?_, ?_⟩
  all_goals intros
  all_goals first | unfold mezzaninelaw10_done.l0 | unfold mezzaninelaw10_done.j1
  all_goals (repeat' first
   | (with_reducible exact ih0 _ _ _ _)
   | (with_reducible exact ih1 _ _ _ _ _ _ _ _ _ _ _ _ _)
   | (with_reducible exact LeO.refl _)
   | (with_reducible exact LeO.none _)
   | (with_reducible refine LeO.ite ?_ ?_)
   | (with_reducible refine LeO.bind ?_ (fun _ => ?_))
   | exact ih0 _ _ _ _
   | exact ih1 _ _ _ _ _ _ _ _ _ _ _ _ _
   | exact LeO.none _
   | refine LeO.ite ?_ ?_
   | refine LeO.bind ?_ (fun _ => ?_))
theorem mezzaninelaw10_done.mono : ∀ a0 a1 k, LeO (mezzaninelaw10_done.f k a0 a1) (mezzaninelaw10_done.f (k + 1) a0 a1) := by
 intro a0 a1 k
 obtain ⟨ih0, ih1⟩ := mezzaninelaw10_done.mono_l k
 unfold mezzaninelaw10_done.f
 repeat' first
   | (with_reducible exact ih0 _ _ _ _)
   | (with_reducible exact ih1 _ _ _ _ _ _ _ _ _ _ _ _ _)
   | (with_reducible exact LeO.refl _)
   | (with_reducible exact LeO.none _)
   | (with_reducible refine LeO.ite ?_ ?_)
   | (with_reducible refine LeO.bind ?_ (fun _ => ?_))
   | exact ih0 _ _ _ _
   | exact ih1 _ _ _ _ _ _ _ _ _ _ _ _ _
   | exact LeO.none _
   | refine LeO.ite ?_ ?_
   | refine LeO.bind ?_ (fun _ => ?_)
set_option maxHeartbeats 8000000 in
set_option maxRecDepth 100000 in
theorem mezzaninelaw10_done.calls (k : Nat) (a0 : Int) (A1 : Option Addr) (c1 : Nat) (l1 : List (S23)) (r1 : Int) (r2 : Bool) (w : World) (hr1 : Kd.C k23 w A1 l1.length l1) (hc1 : l1.length ≤ c1) (h : mezzaninelaw10_done.f k a0 l1 = some (r1, r2)) :
  Calls Tryz.prog 24 #[.int .i64 a0, .slice A1 l1.length c1] w fun e w' => e = .returned (.tuple #[.int .i64 r1, .bool r2]) ∧ Below w.heap.size w w' := by
 have hu23 := Tryz.underlying23; have HR1 := Aside0.mk hr1
 have HC1 := Aside0.mk hc1
 clear hr1 hc1; have HB := Aside0.mk (Below.refl w.heap.size w)
 have H : (mezzaninelaw10_done.l0 k a0 l1 0 0) = some (r1, r2) := h
 clear h; have H' := Aside0.mk H
 clear H; go_enter Tryz.func24, Tryz.ntmps24
 go_wp2
 go_loopg [6, 7] k (fun kq v6 v7 w' => ∃ (x6_1 : Int) (x7_1 : Int), v6 = .int .i64 x6_1 ∧ v7 = .int .i64 x7_1 ∧ Aside0 (mezzaninelaw10_done.l0 kq a0 l1 x6_1 x7_1 = some (r1, r2)) ∧ Aside0 (kq ≤ k) ∧ Aside0 (Below w.heap.size w w'))
 case atStart => exact ⟨(0), (0), (by first | rfl | (simp; done) | (simp [*]; done)), (by first | rfl | (simp; done) | (simp [*]; done)), H', ⟨Nat.le_refl _⟩, ⟨by repeat (first | (with_reducible first | exact HB.out | apply below_alloc | apply pw_below_drewN | apply below_drew1) | exact HB.out)⟩⟩
 case round =>
  clear H'; (try clear c1); (try clear c2); (try clear p2); obtain ⟨x6_1, x7_1, rfl, rfl, HA, HK1, HB⟩ := hrel
  cases gk with
  | zero => exact absurd HA.out (by simp [mezzaninelaw10_done.l0])
  | succ k1 =>
   have H := HA.out; clear HA; simp only [mezzaninelaw10_done.l0] at H
   by_cases c3 : x7_1 < (l1.length : Int)
   ·rw [if_pos c3] at H
    have c3b0 : decide (x7_1 < (l1.length : Int)) = true := decide_eq_true c3
    clear c3; by_cases c4 : 0 ≤ x7_1
    ·rw [if_pos c4] at H
     have c4b0 : decide (0 ≤ x7_1) = true := decide_eq_true c4
     clear c4; have HC5 := Aside0.mk H
     clear H; have p504 : 0 ≤ (x7_1 : Int) := of_decide_eq_true (by first | (with_reducible assumption) | assumption)
     have q504 : x7_1 < (l1.length : Int) := of_decide_eq_true (by first | (with_reducible assumption) | assumption)
     obtain ⟨ad504, e504, hx504_0, hx504_1, hx504_2, hx504_3, hx504_4, hx504_5, hx504_6, hx504_7⟩ := at_T23 HR1.out x7_1 p504 q504
     cases e504
     replace hx504_0 := (HB.out.cell (World.block_lt_of_cell? w _ hx504_0)).trans hx504_0
     replace hx504_1 := (HB.out.cell (World.block_lt_of_cell? w _ hx504_1)).trans hx504_1
     replace hx504_2 := (HB.out.cell (World.block_lt_of_cell? w _ hx504_2)).trans hx504_2
     replace hx504_3 := (HB.out.cell (World.block_lt_of_cell? w _ hx504_3)).trans hx504_3
     replace hx504_4 := (HB.out.cell (World.block_lt_of_cell? w _ hx504_4)).trans hx504_4
     replace hx504_5 := (HB.out.cell (World.block_lt_of_cell? w _ hx504_5)).trans hx504_5
     replace hx504_6 := (HB.out.cell (World.block_lt_of_cell? w _ hx504_6)).trans hx504_6
     replace hx504_7 := (HB.out.cell (World.block_lt_of_cell? w _ hx504_7)).trans hx504_7
     replace p504 := eq_true p504
     replace q504 := eq_true q504
     go_upto_region 6 with (first | ((with_reducible refine gate_dst (N := 8) rfl ?_); refine box_event ?hg (N := 8) ?hd (cs := #[.int .i64 0, .int .i64 0, .int .i64 0, .int .i64 0, .int .i64 0, .int .i64 0, .bool false, .bool false]) (t := 23) ?hr ?_; (case hd => rfl); (case hg => rfl); (case hr => first | (go_simp; done) | (go_simp; rfl)); intro gb505 hg w6 hbox hb; have n0_ := Aside0.mk (below_step (by repeat (first | (with_reducible first | exact HB.out | apply below_alloc | apply pw_below_drewN | apply below_drew1) | exact HB.out)) hb); have n1_ := Aside0.mk (hbox); have n2_ := Aside0.mk ((by rw [hg]; exact (below_size (by repeat (first | (with_reducible first | exact HB.out | apply below_alloc | apply pw_below_drewN | apply below_drew1) | exact HB.out))) : w.heap.size ≤ gb505)); have n3_ := Aside0.mk ((by rw [hg]; exact (below_size (by repeat (first | (with_reducible first | exact HB.out | apply below_alloc | apply pw_below_drewN | apply below_drew1) | exact HB.out))) : w.heap.size ≤ gb505)); clear HB; have HB := n0_; have BK505 := n1_; have GW505 := n2_; have GE505 := n3_; clear n0_ n1_ n2_ n3_; clear hb hbox hg; have hcz7_0 : w6.cell? ⟨gb505, 0, none⟩ = some (.int .i64 0) := (blk_cell BK505.out 0).trans rfl; have hcz7_1 : w6.cell? ⟨gb505, 1, none⟩ = some (.int .i64 0) := (blk_cell BK505.out 1).trans rfl; have hcz7_2 : w6.cell? ⟨gb505, 2, none⟩ = some (.int .i64 0) := (blk_cell BK505.out 2).trans rfl; have hcz7_3 : w6.cell? ⟨gb505, 3, none⟩ = some (.int .i64 0) := (blk_cell BK505.out 3).trans rfl; have hcz7_4 : w6.cell? ⟨gb505, 4, none⟩ = some (.int .i64 0) := (blk_cell BK505.out 4).trans rfl; have hcz7_5 : w6.cell? ⟨gb505, 5, none⟩ = some (.int .i64 0) := (blk_cell BK505.out 5).trans rfl; have hcz7_6 : w6.cell? ⟨gb505, 6, none⟩ = some (.bool false) := (blk_cell BK505.out 6).trans rfl; have hcz7_7 : w6.cell? ⟨gb505, 7, none⟩ = some (.bool false) := (blk_cell BK505.out 7).trans rfl; have hfz7_0 := blk_frozen BK505.out 0; have hfz7_1 := blk_frozen BK505.out 1; have hfz7_2 := blk_frozen BK505.out 2; have hfz7_3 := blk_frozen BK505.out 3; have hfz7_4 := blk_frozen BK505.out 4; have hfz7_5 := blk_frozen BK505.out 5; have hfz7_6 := blk_frozen BK505.out 6; have hfz7_7 := blk_frozen BK505.out 7))
     (try simp only [Act.put, List.setIfInBounds_toArray, List.set_cons_zero, List.set_cons_succ])
     go_cut [42] (fun v42 wc => ∃ (kq : Nat) (x42_4 : Bool), v42 = .bool x42_4 ∧ Aside0 (mezzaninelaw10_done.j1 kq a0 l1 x6_1 x7_1 x42_4 ((rd_T23 l1 x7_1).f0) ((rd_T23 l1 x7_1).f1) ((rd_T23 l1 x7_1).f2) ((rd_T23 l1 x7_1).f3) ((rd_T23 l1 x7_1).f4) ((rd_T23 l1 x7_1).f5) ((rd_T23 l1 x7_1).f6) ((rd_T23 l1 x7_1).f7) = some (r1, r2)) ∧ Aside0 (kq ≤ k1) ∧ Aside0 (wc.heap[gb505]? = some (.cells #[.int .i64 ((rd_T23 l1 x7_1).f0), .int .i64 ((rd_T23 l1 x7_1).f1), .int .i64 ((rd_T23 l1 x7_1).f2), .int .i64 ((rd_T23 l1 x7_1).f3), .int .i64 ((rd_T23 l1 x7_1).f4), .int .i64 ((rd_T23 l1 x7_1).f5), .bool ((rd_T23 l1 x7_1).f6), .bool ((rd_T23 l1 x7_1).f7)] 23 (0, 0))) ∧ Aside0 (Below w.heap.size w wc))
     case first =>
      have H := HC5.out; clear HC5; by_cases c8 : ((rd_T23 l1 x7_1).f1) = a0
      ·rw [if_pos c8] at H
       have c8b0 : (((rd_T23 l1 x7_1).f1) == a0) = true := beq_iff_eq.mpr c8
       have c8b1 : (((rd_T23 l1 x7_1).f1) != a0) = false := bne_eq_false_iff_eq.mpr c8
       clear c8; (first | rw [c8b0] | (simp only [i64_w, i32_w]; rw [c8b0]) | skip)
       by_cases c9 : ((rd_T23 l1 x7_1).f2) = 0
       ·rw [if_pos c9] at H
        have c9b0 : (((rd_T23 l1 x7_1).f2) == 0) = true := beq_iff_eq.mpr c9
        have c9b1 : (((rd_T23 l1 x7_1).f2) != 0) = false := bne_eq_false_iff_eq.mpr c9
        clear c9; have H' := Aside0.mk H
        clear H; have hcz10_0 : w6.cell? ⟨gb505, 0, none⟩ = some (.int .i64 0) := (blk_cell BK505.out 0).trans rfl
        have hcz10_1 : w6.cell? ⟨gb505, 1, none⟩ = some (.int .i64 0) := (blk_cell BK505.out 1).trans rfl
        have hcz10_2 : w6.cell? ⟨gb505, 2, none⟩ = some (.int .i64 0) := (blk_cell BK505.out 2).trans rfl
        have hcz10_3 : w6.cell? ⟨gb505, 3, none⟩ = some (.int .i64 0) := (blk_cell BK505.out 3).trans rfl
        have hcz10_4 : w6.cell? ⟨gb505, 4, none⟩ = some (.int .i64 0) := (blk_cell BK505.out 4).trans rfl
        have hcz10_5 : w6.cell? ⟨gb505, 5, none⟩ = some (.int .i64 0) := (blk_cell BK505.out 5).trans rfl
        have hcz10_6 : w6.cell? ⟨gb505, 6, none⟩ = some (.bool false) := (blk_cell BK505.out 6).trans rfl
        have hcz10_7 : w6.cell? ⟨gb505, 7, none⟩ = some (.bool false) := (blk_cell BK505.out 7).trans rfl
        have hfz10_0 := blk_frozen BK505.out 0
        have hfz10_1 := blk_frozen BK505.out 1
        have hfz10_2 := blk_frozen BK505.out 2
        have hfz10_3 := blk_frozen BK505.out 3
        have hfz10_4 := blk_frozen BK505.out 4
        have hfz10_5 := blk_frozen BK505.out 5
        have hfz10_6 := blk_frozen BK505.out 6
        have hfz10_7 := blk_frozen BK505.out 7
        go_wp2
        go_meet
        case rel => exact ⟨_, (decide (x7_1 > 0)), (by first | rfl | (simp; done) | (simp [*]; done)), H', ⟨by have := HK1.out; first | omega | exact Nat.le_refl _⟩, ⟨by (with_reducible repeat (first | refine blk_drewN ?_ _ | refine blk_drew ?_ | refine blk_alloc ?_ _)); refine blk_put (cs := #[.int .i64 ((rd_T23 l1 x7_1).f0), .int .i64 ((rd_T23 l1 x7_1).f1), .int .i64 ((rd_T23 l1 x7_1).f2), .int .i64 ((rd_T23 l1 x7_1).f3), .int .i64 ((rd_T23 l1 x7_1).f4), .int .i64 ((rd_T23 l1 x7_1).f5), .bool ((rd_T23 l1 x7_1).f6), .bool false]) ?_ 7 _ rfl; (with_reducible repeat (first | refine blk_drewN ?_ _ | refine blk_drew ?_ | refine blk_alloc ?_ _)); refine blk_put (cs := #[.int .i64 ((rd_T23 l1 x7_1).f0), .int .i64 ((rd_T23 l1 x7_1).f1), .int .i64 ((rd_T23 l1 x7_1).f2), .int .i64 ((rd_T23 l1 x7_1).f3), .int .i64 ((rd_T23 l1 x7_1).f4), .int .i64 ((rd_T23 l1 x7_1).f5), .bool false, .bool false]) ?_ 6 _ rfl; (with_reducible repeat (first | refine blk_drewN ?_ _ | refine blk_drew ?_ | refine blk_alloc ?_ _)); refine blk_put (cs := #[.int .i64 ((rd_T23 l1 x7_1).f0), .int .i64 ((rd_T23 l1 x7_1).f1), .int .i64 ((rd_T23 l1 x7_1).f2), .int .i64 ((rd_T23 l1 x7_1).f3), .int .i64 ((rd_T23 l1 x7_1).f4), .int .i64 0, .bool false, .bool false]) ?_ 5 _ rfl; (with_reducible repeat (first | refine blk_drewN ?_ _ | refine blk_drew ?_ | refine blk_alloc ?_ _)); refine blk_put (cs := #[.int .i64 ((rd_T23 l1 x7_1).f0), .int .i64 ((rd_T23 l1 x7_1).f1), .int .i64 ((rd_T23 l1 x7_1).f2), .int .i64 ((rd_T23 l1 x7_1).f3), .int .i64 0, .int .i64 0, .bool false, .bool false]) ?_ 4 _ rfl; (with_reducible repeat (first | refine blk_drewN ?_ _ | refine blk_drew ?_ | refine blk_alloc ?_ _)); refine blk_put (cs := #[.int .i64 ((rd_T23 l1 x7_1).f0), .int .i64 ((rd_T23 l1 x7_1).f1), .int .i64 ((rd_T23 l1 x7_1).f2), .int .i64 0, .int .i64 0, .int .i64 0, .bool false, .bool false]) ?_ 3 _ rfl; (with_reducible repeat (first | refine blk_drewN ?_ _ | refine blk_drew ?_ | refine blk_alloc ?_ _)); refine blk_put (cs := #[.int .i64 ((rd_T23 l1 x7_1).f0), .int .i64 ((rd_T23 l1 x7_1).f1), .int .i64 0, .int .i64 0, .int .i64 0, .int .i64 0, .bool false, .bool false]) ?_ 2 _ rfl; (with_reducible repeat (first | refine blk_drewN ?_ _ | refine blk_drew ?_ | refine blk_alloc ?_ _)); refine blk_put (cs := #[.int .i64 ((rd_T23 l1 x7_1).f0), .int .i64 0, .int .i64 0, .int .i64 0, .int .i64 0, .int .i64 0, .bool false, .bool false]) ?_ 1 _ rfl; (with_reducible repeat (first | refine blk_drewN ?_ _ | refine blk_drew ?_ | refine blk_alloc ?_ _)); refine blk_put (cs := #[.int .i64 0, .int .i64 0, .int .i64 0, .int .i64 0, .int .i64 0, .int .i64 0, .bool false, .bool false]) ?_ 0 _ rfl; (with_reducible repeat (first | refine blk_drewN ?_ _ | refine blk_drew ?_ | refine blk_alloc ?_ _)); exact BK505.out⟩, ⟨by repeat (first | (with_reducible first | exact HB.out | apply below_alloc | apply pw_below_drewN | apply below_drew1 | refine below_set ?_ GE505.out) | exact HB.out)⟩⟩
       ·rw [if_neg c9] at H
        have c9b0 : (((rd_T23 l1 x7_1).f2) == 0) = false := beq_eq_false_iff_ne.mpr c9
        have c9b1 : (((rd_T23 l1 x7_1).f2) != 0) = true := bne_iff_ne.mpr c9
        by_cases c11 : ((rd_T23 l1 x7_1).f2) = a0
        ·rw [if_pos c11] at H
         have c11b0 : (((rd_T23 l1 x7_1).f2) == a0) = true := beq_iff_eq.mpr c11
         have c11b1 : (((rd_T23 l1 x7_1).f2) != a0) = false := bne_eq_false_iff_eq.mpr c11
         clear c11; have H' := Aside0.mk H
         clear H; have hcz12_0 : w6.cell? ⟨gb505, 0, none⟩ = some (.int .i64 0) := (blk_cell BK505.out 0).trans rfl
         have hcz12_1 : w6.cell? ⟨gb505, 1, none⟩ = some (.int .i64 0) := (blk_cell BK505.out 1).trans rfl
         have hcz12_2 : w6.cell? ⟨gb505, 2, none⟩ = some (.int .i64 0) := (blk_cell BK505.out 2).trans rfl
         have hcz12_3 : w6.cell? ⟨gb505, 3, none⟩ = some (.int .i64 0) := (blk_cell BK505.out 3).trans rfl
         have hcz12_4 : w6.cell? ⟨gb505, 4, none⟩ = some (.int .i64 0) := (blk_cell BK505.out 4).trans rfl
         have hcz12_5 : w6.cell? ⟨gb505, 5, none⟩ = some (.int .i64 0) := (blk_cell BK505.out 5).trans rfl
         have hcz12_6 : w6.cell? ⟨gb505, 6, none⟩ = some (.bool false) := (blk_cell BK505.out 6).trans rfl
         have hcz12_7 : w6.cell? ⟨gb505, 7, none⟩ = some (.bool false) := (blk_cell BK505.out 7).trans rfl
         have hfz12_0 := blk_frozen BK505.out 0
         have hfz12_1 := blk_frozen BK505.out 1
         have hfz12_2 := blk_frozen BK505.out 2
         have hfz12_3 := blk_frozen BK505.out 3
         have hfz12_4 := blk_frozen BK505.out 4
         have hfz12_5 := blk_frozen BK505.out 5
         have hfz12_6 := blk_frozen BK505.out 6
         have hfz12_7 := blk_frozen BK505.out 7
         go_wp2
         go_meet
         case rel => exact ⟨_, (false), (by first | rfl | (simp; done) | (simp [*]; done)), H', ⟨by have := HK1.out; first | omega | exact Nat.le_refl _⟩, ⟨by (with_reducible repeat (first | refine blk_drewN ?_ _ | refine blk_drew ?_ | refine blk_alloc ?_ _)); refine blk_put (cs := #[.int .i64 ((rd_T23 l1 x7_1).f0), .int .i64 ((rd_T23 l1 x7_1).f1), .int .i64 ((rd_T23 l1 x7_1).f2), .int .i64 ((rd_T23 l1 x7_1).f3), .int .i64 ((rd_T23 l1 x7_1).f4), .int .i64 ((rd_T23 l1 x7_1).f5), .bool ((rd_T23 l1 x7_1).f6), .bool false]) ?_ 7 _ rfl; (with_reducible repeat (first | refine blk_drewN ?_ _ | refine blk_drew ?_ | refine blk_alloc ?_ _)); refine blk_put (cs := #[.int .i64 ((rd_T23 l1 x7_1).f0), .int .i64 ((rd_T23 l1 x7_1).f1), .int .i64 ((rd_T23 l1 x7_1).f2), .int .i64 ((rd_T23 l1 x7_1).f3), .int .i64 ((rd_T23 l1 x7_1).f4), .int .i64 ((rd_T23 l1 x7_1).f5), .bool false, .bool false]) ?_ 6 _ rfl; (with_reducible repeat (first | refine blk_drewN ?_ _ | refine blk_drew ?_ | refine blk_alloc ?_ _)); refine blk_put (cs := #[.int .i64 ((rd_T23 l1 x7_1).f0), .int .i64 ((rd_T23 l1 x7_1).f1), .int .i64 ((rd_T23 l1 x7_1).f2), .int .i64 ((rd_T23 l1 x7_1).f3), .int .i64 ((rd_T23 l1 x7_1).f4), .int .i64 0, .bool false, .bool false]) ?_ 5 _ rfl; (with_reducible repeat (first | refine blk_drewN ?_ _ | refine blk_drew ?_ | refine blk_alloc ?_ _)); refine blk_put (cs := #[.int .i64 ((rd_T23 l1 x7_1).f0), .int .i64 ((rd_T23 l1 x7_1).f1), .int .i64 ((rd_T23 l1 x7_1).f2), .int .i64 ((rd_T23 l1 x7_1).f3), .int .i64 0, .int .i64 0, .bool false, .bool false]) ?_ 4 _ rfl; (with_reducible repeat (first | refine blk_drewN ?_ _ | refine blk_drew ?_ | refine blk_alloc ?_ _)); refine blk_put (cs := #[.int .i64 ((rd_T23 l1 x7_1).f0), .int .i64 ((rd_T23 l1 x7_1).f1), .int .i64 ((rd_T23 l1 x7_1).f2), .int .i64 0, .int .i64 0, .int .i64 0, .bool false, .bool false]) ?_ 3 _ rfl; (with_reducible repeat (first | refine blk_drewN ?_ _ | refine blk_drew ?_ | refine blk_alloc ?_ _)); refine blk_put (cs := #[.int .i64 ((rd_T23 l1 x7_1).f0), .int .i64 ((rd_T23 l1 x7_1).f1), .int .i64 0, .int .i64 0, .int .i64 0, .int .i64 0, .bool false, .bool false]) ?_ 2 _ rfl; (with_reducible repeat (first | refine blk_drewN ?_ _ | refine blk_drew ?_ | refine blk_alloc ?_ _)); refine blk_put (cs := #[.int .i64 ((rd_T23 l1 x7_1).f0), .int .i64 0, .int .i64 0, .int .i64 0, .int .i64 0, .int .i64 0, .bool false, .bool false]) ?_ 1 _ rfl; (with_reducible repeat (first | refine blk_drewN ?_ _ | refine blk_drew ?_ | refine blk_alloc ?_ _)); refine blk_put (cs := #[.int .i64 0, .int .i64 0, .int .i64 0, .int .i64 0, .int .i64 0, .int .i64 0, .bool false, .bool false]) ?_ 0 _ rfl; (with_reducible repeat (first | refine blk_drewN ?_ _ | refine blk_drew ?_ | refine blk_alloc ?_ _)); exact BK505.out⟩, ⟨by repeat (first | (with_reducible first | exact HB.out | apply below_alloc | apply pw_below_drewN | apply below_drew1 | refine below_set ?_ GE505.out) | exact HB.out)⟩⟩
        ·rw [if_neg c11] at H
         have c11b0 : (((rd_T23 l1 x7_1).f2) == a0) = false := beq_eq_false_iff_ne.mpr c11
         have c11b1 : (((rd_T23 l1 x7_1).f2) != a0) = true := bne_iff_ne.mpr c11
         have H' := Aside0.mk H
         clear H; have hcz13_0 : w6.cell? ⟨gb505, 0, none⟩ = some (.int .i64 0) := (blk_cell BK505.out 0).trans rfl
         have hcz13_1 : w6.cell? ⟨gb505, 1, none⟩ = some (.int .i64 0) := (blk_cell BK505.out 1).trans rfl
         have hcz13_2 : w6.cell? ⟨gb505, 2, none⟩ = some (.int .i64 0) := (blk_cell BK505.out 2).trans rfl
         have hcz13_3 : w6.cell? ⟨gb505, 3, none⟩ = some (.int .i64 0) := (blk_cell BK505.out 3).trans rfl
         have hcz13_4 : w6.cell? ⟨gb505, 4, none⟩ = some (.int .i64 0) := (blk_cell BK505.out 4).trans rfl
         have hcz13_5 : w6.cell? ⟨gb505, 5, none⟩ = some (.int .i64 0) := (blk_cell BK505.out 5).trans rfl
         have hcz13_6 : w6.cell? ⟨gb505, 6, none⟩ = some (.bool false) := (blk_cell BK505.out 6).trans rfl
         have hcz13_7 : w6.cell? ⟨gb505, 7, none⟩ = some (.bool false) := (blk_cell BK505.out 7).trans rfl
         have hfz13_0 := blk_frozen BK505.out 0
         have hfz13_1 := blk_frozen BK505.out 1
         have hfz13_2 := blk_frozen BK505.out 2
         have hfz13_3 := blk_frozen BK505.out 3
         have hfz13_4 := blk_frozen BK505.out 4
         have hfz13_5 := blk_frozen BK505.out 5
         have hfz13_6 := blk_frozen BK505.out 6
         have hfz13_7 := blk_frozen BK505.out 7
         go_wp2
         go_meet
         case rel => exact ⟨_, (true), (by first | rfl | (simp; done) | (simp [*]; done)), H', ⟨by have := HK1.out; first | omega | exact Nat.le_refl _⟩, ⟨by (with_reducible repeat (first | refine blk_drewN ?_ _ | refine blk_drew ?_ | refine blk_alloc ?_ _)); refine blk_put (cs := #[.int .i64 ((rd_T23 l1 x7_1).f0), .int .i64 ((rd_T23 l1 x7_1).f1), .int .i64 ((rd_T23 l1 x7_1).f2), .int .i64 ((rd_T23 l1 x7_1).f3), .int .i64 ((rd_T23 l1 x7_1).f4), .int .i64 ((rd_T23 l1 x7_1).f5), .bool ((rd_T23 l1 x7_1).f6), .bool false]) ?_ 7 _ rfl; (with_reducible repeat (first | refine blk_drewN ?_ _ | refine blk_drew ?_ | refine blk_alloc ?_ _)); refine blk_put (cs := #[.int .i64 ((rd_T23 l1 x7_1).f0), .int .i64 ((rd_T23 l1 x7_1).f1), .int .i64 ((rd_T23 l1 x7_1).f2), .int .i64 ((rd_T23 l1 x7_1).f3), .int .i64 ((rd_T23 l1 x7_1).f4), .int .i64 ((rd_T23 l1 x7_1).f5), .bool false, .bool false]) ?_ 6 _ rfl; (with_reducible repeat (first | refine blk_drewN ?_ _ | refine blk_drew ?_ | refine blk_alloc ?_ _)); refine blk_put (cs := #[.int .i64 ((rd_T23 l1 x7_1).f0), .int .i64 ((rd_T23 l1 x7_1).f1), .int .i64 ((rd_T23 l1 x7_1).f2), .int .i64 ((rd_T23 l1 x7_1).f3), .int .i64 ((rd_T23 l1 x7_1).f4), .int .i64 0, .bool false, .bool false]) ?_ 5 _ rfl; (with_reducible repeat (first | refine blk_drewN ?_ _ | refine blk_drew ?_ | refine blk_alloc ?_ _)); refine blk_put (cs := #[.int .i64 ((rd_T23 l1 x7_1).f0), .int .i64 ((rd_T23 l1 x7_1).f1), .int .i64 ((rd_T23 l1 x7_1).f2), .int .i64 ((rd_T23 l1 x7_1).f3), .int .i64 0, .int .i64 0, .bool false, .bool false]) ?_ 4 _ rfl; (with_reducible repeat (first | refine blk_drewN ?_ _ | refine blk_drew ?_ | refine blk_alloc ?_ _)); refine blk_put (cs := #[.int .i64 ((rd_T23 l1 x7_1).f0), .int .i64 ((rd_T23 l1 x7_1).f1), .int .i64 ((rd_T23 l1 x7_1).f2), .int .i64 0, .int .i64 0, .int .i64 0, .bool false, .bool false]) ?_ 3 _ rfl; (with_reducible repeat (first | refine blk_drewN ?_ _ | refine blk_drew ?_ | refine blk_alloc ?_ _)); refine blk_put (cs := #[.int .i64 ((rd_T23 l1 x7_1).f0), .int .i64 ((rd_T23 l1 x7_1).f1), .int .i64 0, .int .i64 0, .int .i64 0, .int .i64 0, .bool false, .bool false]) ?_ 2 _ rfl; (with_reducible repeat (first | refine blk_drewN ?_ _ | refine blk_drew ?_ | refine blk_alloc ?_ _)); refine blk_put (cs := #[.int .i64 ((rd_T23 l1 x7_1).f0), .int .i64 0, .int .i64 0, .int .i64 0, .int .i64 0, .int .i64 0, .bool false, .bool false]) ?_ 1 _ rfl; (with_reducible repeat (first | refine blk_drewN ?_ _ | refine blk_drew ?_ | refine blk_alloc ?_ _)); refine blk_put (cs := #[.int .i64 0, .int .i64 0, .int .i64 0, .int .i64 0, .int .i64 0, .int .i64 0, .bool false, .bool false]) ?_ 0 _ rfl; (with_reducible repeat (first | refine blk_drewN ?_ _ | refine blk_drew ?_ | refine blk_alloc ?_ _)); exact BK505.out⟩, ⟨by repeat (first | (with_reducible first | exact HB.out | apply below_alloc | apply pw_below_drewN | apply below_drew1 | refine below_set ?_ GE505.out) | exact HB.out)⟩⟩
      ·rw [if_neg c8] at H
       have c8b0 : (((rd_T23 l1 x7_1).f1) == a0) = false := beq_eq_false_iff_ne.mpr c8
       have c8b1 : (((rd_T23 l1 x7_1).f1) != a0) = true := bne_iff_ne.mpr c8
       (first | rw [c8b0] | (simp only [i64_w, i32_w]; rw [c8b0]) | skip)
       have H' := Aside0.mk H
       clear H; have hcz14_0 : w6.cell? ⟨gb505, 0, none⟩ = some (.int .i64 0) := (blk_cell BK505.out 0).trans rfl
       have hcz14_1 : w6.cell? ⟨gb505, 1, none⟩ = some (.int .i64 0) := (blk_cell BK505.out 1).trans rfl
       have hcz14_2 : w6.cell? ⟨gb505, 2, none⟩ = some (.int .i64 0) := (blk_cell BK505.out 2).trans rfl
       have hcz14_3 : w6.cell? ⟨gb505, 3, none⟩ = some (.int .i64 0) := (blk_cell BK505.out 3).trans rfl
       have hcz14_4 : w6.cell? ⟨gb505, 4, none⟩ = some (.int .i64 0) := (blk_cell BK505.out 4).trans rfl
       have hcz14_5 : w6.cell? ⟨gb505, 5, none⟩ = some (.int .i64 0) := (blk_cell BK505.out 5).trans rfl
       have hcz14_6 : w6.cell? ⟨gb505, 6, none⟩ = some (.bool false) := (blk_cell BK505.out 6).trans rfl
       have hcz14_7 : w6.cell? ⟨gb505, 7, none⟩ = some (.bool false) := (blk_cell BK505.out 7).trans rfl
       have hfz14_0 := blk_frozen BK505.out 0
       have hfz14_1 := blk_frozen BK505.out 1
       have hfz14_2 := blk_frozen BK505.out 2
       have hfz14_3 := blk_frozen BK505.out 3
       have hfz14_4 := blk_frozen BK505.out 4
       have hfz14_5 := blk_frozen BK505.out 5
       have hfz14_6 := blk_frozen BK505.out 6
       have hfz14_7 := blk_frozen BK505.out 7
       go_wp2
       go_meet
       case rel => exact ⟨_, (true), (by first | rfl | (simp; done) | (simp [*]; done)), H', ⟨by have := HK1.out; first | omega | exact Nat.le_refl _⟩, ⟨by (with_reducible repeat (first | refine blk_drewN ?_ _ | refine blk_drew ?_ | refine blk_alloc ?_ _)); refine blk_put (cs := #[.int .i64 ((rd_T23 l1 x7_1).f0), .int .i64 ((rd_T23 l1 x7_1).f1), .int .i64 ((rd_T23 l1 x7_1).f2), .int .i64 ((rd_T23 l1 x7_1).f3), .int .i64 ((rd_T23 l1 x7_1).f4), .int .i64 ((rd_T23 l1 x7_1).f5), .bool ((rd_T23 l1 x7_1).f6), .bool false]) ?_ 7 _ rfl; (with_reducible repeat (first | refine blk_drewN ?_ _ | refine blk_drew ?_ | refine blk_alloc ?_ _)); refine blk_put (cs := #[.int .i64 ((rd_T23 l1 x7_1).f0), .int .i64 ((rd_T23 l1 x7_1).f1), .int .i64 ((rd_T23 l1 x7_1).f2), .int .i64 ((rd_T23 l1 x7_1).f3), .int .i64 ((rd_T23 l1 x7_1).f4), .int .i64 ((rd_T23 l1 x7_1).f5), .bool false, .bool false]) ?_ 6 _ rfl; (with_reducible repeat (first | refine blk_drewN ?_ _ | refine blk_drew ?_ | refine blk_alloc ?_ _)); refine blk_put (cs := #[.int .i64 ((rd_T23 l1 x7_1).f0), .int .i64 ((rd_T23 l1 x7_1).f1), .int .i64 ((rd_T23 l1 x7_1).f2), .int .i64 ((rd_T23 l1 x7_1).f3), .int .i64 ((rd_T23 l1 x7_1).f4), .int .i64 0, .bool false, .bool false]) ?_ 5 _ rfl; (with_reducible repeat (first | refine blk_drewN ?_ _ | refine blk_drew ?_ | refine blk_alloc ?_ _)); refine blk_put (cs := #[.int .i64 ((rd_T23 l1 x7_1).f0), .int .i64 ((rd_T23 l1 x7_1).f1), .int .i64 ((rd_T23 l1 x7_1).f2), .int .i64 ((rd_T23 l1 x7_1).f3), .int .i64 0, .int .i64 0, .bool false, .bool false]) ?_ 4 _ rfl; (with_reducible repeat (first | refine blk_drewN ?_ _ | refine blk_drew ?_ | refine blk_alloc ?_ _)); refine blk_put (cs := #[.int .i64 ((rd_T23 l1 x7_1).f0), .int .i64 ((rd_T23 l1 x7_1).f1), .int .i64 ((rd_T23 l1 x7_1).f2), .int .i64 0, .int .i64 0, .int .i64 0, .bool false, .bool false]) ?_ 3 _ rfl; (with_reducible repeat (first | refine blk_drewN ?_ _ | refine blk_drew ?_ | refine blk_alloc ?_ _)); refine blk_put (cs := #[.int .i64 ((rd_T23 l1 x7_1).f0), .int .i64 ((rd_T23 l1 x7_1).f1), .int .i64 0, .int .i64 0, .int .i64 0, .int .i64 0, .bool false, .bool false]) ?_ 2 _ rfl; (with_reducible repeat (first | refine blk_drewN ?_ _ | refine blk_drew ?_ | refine blk_alloc ?_ _)); refine blk_put (cs := #[.int .i64 ((rd_T23 l1 x7_1).f0), .int .i64 0, .int .i64 0, .int .i64 0, .int .i64 0, .int .i64 0, .bool false, .bool false]) ?_ 1 _ rfl; (with_reducible repeat (first | refine blk_drewN ?_ _ | refine blk_drew ?_ | refine blk_alloc ?_ _)); refine blk_put (cs := #[.int .i64 0, .int .i64 0, .int .i64 0, .int .i64 0, .int .i64 0, .int .i64 0, .bool false, .bool false]) ?_ 0 _ rfl; (with_reducible repeat (first | refine blk_drewN ?_ _ | refine blk_drew ?_ | refine blk_alloc ?_ _)); exact BK505.out⟩, ⟨by repeat (first | (with_reducible first | exact HB.out | apply below_alloc | apply pw_below_drewN | apply below_drew1 | refine below_set ?_ GE505.out) | exact HB.out)⟩⟩
     case rest =>
      clear HC5; (try clear c1); (try clear c2); (try clear p2); (try clear c3); (try clear c3b0); (try clear c4); (try clear c4b0); (try clear p5); (try clear q5); (try clear hx5); (try clear c8); (try clear c8b0); (try clear c8b1); (try clear c9); (try clear c9b0); (try clear c9b1); (try clear c11); (try clear c11b0); (try clear c11b1); (try clear hcz10_0); (try clear hcz10_1); (try clear hcz10_2); (try clear hcz10_3); (try clear hcz10_4); (try clear hcz10_5); (try clear hcz10_6); (try clear hcz10_7); (try clear hcz12_0); (try clear hcz12_1); (try clear hcz12_2); (try clear hcz12_3); (try clear hcz12_4); (try clear hcz12_5); (try clear hcz12_6); (try clear hcz12_7); (try clear hcz13_0); (try clear hcz13_1); (try clear hcz13_2); (try clear hcz13_3); (try clear hcz13_4); (try clear hcz13_5); (try clear hcz13_6); (try clear hcz13_7); (try clear hcz14_0); (try clear hcz14_1); (try clear hcz14_2); (try clear hcz14_3); (try clear hcz14_4); (try clear hcz14_5); (try clear hcz14_6); (try clear hcz14_7); (try clear hcz7_0); (try clear hcz7_1); (try clear hcz7_2); (try clear hcz7_3); (try clear hcz7_4); (try clear hcz7_5); (try clear hcz7_6); (try clear hcz7_7); (try clear hfz10_0); (try clear hfz10_1); (try clear hfz10_2); (try clear hfz10_3); (try clear hfz10_4); (try clear hfz10_5); (try clear hfz10_6); (try clear hfz10_7); (try clear hfz12_0); (try clear hfz12_1); (try clear hfz12_2); (try clear hfz12_3); (try clear hfz12_4); (try clear hfz12_5); (try clear hfz12_6); (try clear hfz12_7); (try clear hfz13_0); (try clear hfz13_1); (try clear hfz13_2); (try clear hfz13_3); (try clear hfz13_4); (try clear hfz13_5); (try clear hfz13_6); (try clear hfz13_7); (try clear hfz14_0); (try clear hfz14_1); (try clear hfz14_2); (try clear hfz14_3); (try clear hfz14_4); (try clear hfz14_5); (try clear hfz14_6); (try clear hfz14_7); (try clear hfz7_0); (try clear hfz7_1); (try clear hfz7_2); (try clear hfz7_3); (try clear hfz7_4); (try clear hfz7_5); (try clear hfz7_6); (try clear hfz7_7); (try clear hx504_0); (try clear hx504_1); (try clear hx504_2); (try clear hx504_3); (try clear hx504_4); (try clear hx504_5); (try clear hx504_6); (try clear hx504_7); (try clear p2); (try clear p504); (try clear q504); obtain ⟨kq, x42_4, rfl, HA, HJ4, BK505, HB⟩ := hcut
      cases kq with
      | zero => exact absurd HA.out (by simp [mezzaninelaw10_done.j1])
      | succ kj4 =>
       have H := HA.out; clear HA; simp only [mezzaninelaw10_done.j1] at H
       by_cases c15 : x42_4 = true
       ·subst c15
        have H1 : (some (0, false)) = some (r1, r2) := by rw [if_pos rfl] at H; exact H
        clear H; have H := H1; clear H1; simp only [Option.some.injEq, Prod.mk.injEq] at H
        obtain ⟨rfl, rfl⟩ := H
        go_wp2
        go_ret2
        exact ⟨by first | rfl | (simp [errW_none, errW_some] <;> rfl) | (simp [*, errW_none, errW_some] <;> rfl), by repeat (first | (with_reducible first | exact HB.out | apply below_alloc | apply pw_below_drewN | apply below_drew1 | refine below_set ?_ GE505.out) | exact HB.out)⟩
       ·replace c15 := Bool.eq_false_iff.mpr c15
        subst c15; have H1 : (if ((rd_T23 l1 x7_1).f0) = 22 then (if ((rd_T23 l1 x7_1).f2) = 0 then (mezzaninelaw10_done.l0 kj4 a0 l1 (wrap64 (0 + ((rd_T23 l1 x7_1).f4))) (wrap64 (x7_1 + 1))) else (mezzaninelaw10_done.l0 kj4 a0 l1 (wrap64 (x6_1 + ((rd_T23 l1 x7_1).f4))) (wrap64 (x7_1 + 1)))) else (if ((rd_T23 l1 x7_1).f0) = 1 then (mezzaninelaw10_done.l0 kj4 a0 l1 ((rd_T23 l1 x7_1).f4) (wrap64 (x7_1 + 1))) else (if ((rd_T23 l1 x7_1).f0) = 31 then (mezzaninelaw10_done.l0 kj4 a0 l1 (wrap64 (wrap32 (wrap64 (x6_1 + ((rd_T23 l1 x7_1).f4))))) (wrap64 (x7_1 + 1))) else (if ((rd_T23 l1 x7_1).f0) = 28 then (if 0 ≤ (IntKind.u64.wrap (Go.bits .and .i64 ((rd_T23 l1 x7_1).f4) 63)) then (mezzaninelaw10_done.l0 kj4 a0 l1 (shl .i64 x6_1 (IntKind.u64.wrap (Go.bits .and .i64 ((rd_T23 l1 x7_1).f4) 63))) (wrap64 (x7_1 + 1))) else (none)) else (some (0, false)))))) = some (r1, r2) := by rw [if_neg (show ¬ (false = true) by decide)] at H; exact H
        clear H; have H := H1; clear H1; by_cases c16 : ((rd_T23 l1 x7_1).f0) = 22
        ·rw [if_pos c16] at H
         have c16b0 : (((rd_T23 l1 x7_1).f0) == 22) = true := beq_iff_eq.mpr c16
         have c16b1 : (((rd_T23 l1 x7_1).f0) != 22) = false := bne_eq_false_iff_eq.mpr c16
         clear c16; by_cases c17 : ((rd_T23 l1 x7_1).f2) = 0
         ·rw [if_pos c17] at H
          have c17b0 : (((rd_T23 l1 x7_1).f2) == 0) = true := beq_iff_eq.mpr c17
          have c17b1 : (((rd_T23 l1 x7_1).f2) != 0) = false := bne_eq_false_iff_eq.mpr c17
          clear c17; have H' := Aside0.mk H
          clear H; have hcz18_0 : wc.cell? ⟨gb505, 0, none⟩ = some (.int .i64 ((rd_T23 l1 x7_1).f0)) := (blk_cell BK505.out 0).trans rfl
          have hcz18_1 : wc.cell? ⟨gb505, 1, none⟩ = some (.int .i64 ((rd_T23 l1 x7_1).f1)) := (blk_cell BK505.out 1).trans rfl
          have hcz18_2 : wc.cell? ⟨gb505, 2, none⟩ = some (.int .i64 ((rd_T23 l1 x7_1).f2)) := (blk_cell BK505.out 2).trans rfl
          have hcz18_3 : wc.cell? ⟨gb505, 3, none⟩ = some (.int .i64 ((rd_T23 l1 x7_1).f3)) := (blk_cell BK505.out 3).trans rfl
          have hcz18_4 : wc.cell? ⟨gb505, 4, none⟩ = some (.int .i64 ((rd_T23 l1 x7_1).f4)) := (blk_cell BK505.out 4).trans rfl
          have hcz18_5 : wc.cell? ⟨gb505, 5, none⟩ = some (.int .i64 ((rd_T23 l1 x7_1).f5)) := (blk_cell BK505.out 5).trans rfl
          have hcz18_6 : wc.cell? ⟨gb505, 6, none⟩ = some (.bool ((rd_T23 l1 x7_1).f6)) := (blk_cell BK505.out 6).trans rfl
          have hcz18_7 : wc.cell? ⟨gb505, 7, none⟩ = some (.bool ((rd_T23 l1 x7_1).f7)) := (blk_cell BK505.out 7).trans rfl
          have hfz18_0 := blk_frozen BK505.out 0
          have hfz18_1 := blk_frozen BK505.out 1
          have hfz18_2 := blk_frozen BK505.out 2
          have hfz18_3 := blk_frozen BK505.out 3
          have hfz18_4 := blk_frozen BK505.out 4
          have hfz18_5 := blk_frozen BK505.out 5
          have hfz18_6 := blk_frozen BK505.out 6
          have hfz18_7 := blk_frozen BK505.out 7
          go_wp2
          go_roundg kj4
          case measure => have := HK1.out; have := HJ4.out; omega
          case rel => exact ⟨(wrap64 (0 + ((rd_T23 l1 x7_1).f4))), (wrap64 (x7_1 + 1)), (by first | rfl | (simp; done) | (simp [*]; done)), (by first | rfl | (simp; done) | (simp [*]; done)), H', ⟨by have := HK1.out; have := HJ4.out; omega⟩, ⟨by repeat (first | (with_reducible first | exact HB.out | apply below_alloc | apply pw_below_drewN | apply below_drew1 | refine below_set ?_ GE505.out) | exact HB.out)⟩⟩
         ·rw [if_neg c17] at H
          have c17b0 : (((rd_T23 l1 x7_1).f2) == 0) = false := beq_eq_false_iff_ne.mpr c17
          have c17b1 : (((rd_T23 l1 x7_1).f2) != 0) = true := bne_iff_ne.mpr c17
          have H' := Aside0.mk H
          clear H; have hcz19_0 : wc.cell? ⟨gb505, 0, none⟩ = some (.int .i64 ((rd_T23 l1 x7_1).f0)) := (blk_cell BK505.out 0).trans rfl
          have hcz19_1 : wc.cell? ⟨gb505, 1, none⟩ = some (.int .i64 ((rd_T23 l1 x7_1).f1)) := (blk_cell BK505.out 1).trans rfl
          have hcz19_2 : wc.cell? ⟨gb505, 2, none⟩ = some (.int .i64 ((rd_T23 l1 x7_1).f2)) := (blk_cell BK505.out 2).trans rfl
          have hcz19_3 : wc.cell? ⟨gb505, 3, none⟩ = some (.int .i64 ((rd_T23 l1 x7_1).f3)) := (blk_cell BK505.out 3).trans rfl
          have hcz19_4 : wc.cell? ⟨gb505, 4, none⟩ = some (.int .i64 ((rd_T23 l1 x7_1).f4)) := (blk_cell BK505.out 4).trans rfl
          have hcz19_5 : wc.cell? ⟨gb505, 5, none⟩ = some (.int .i64 ((rd_T23 l1 x7_1).f5)) := (blk_cell BK505.out 5).trans rfl
          have hcz19_6 : wc.cell? ⟨gb505, 6, none⟩ = some (.bool ((rd_T23 l1 x7_1).f6)) := (blk_cell BK505.out 6).trans rfl
          have hcz19_7 : wc.cell? ⟨gb505, 7, none⟩ = some (.bool ((rd_T23 l1 x7_1).f7)) := (blk_cell BK505.out 7).trans rfl
          have hfz19_0 := blk_frozen BK505.out 0
          have hfz19_1 := blk_frozen BK505.out 1
          have hfz19_2 := blk_frozen BK505.out 2
          have hfz19_3 := blk_frozen BK505.out 3
          have hfz19_4 := blk_frozen BK505.out 4
          have hfz19_5 := blk_frozen BK505.out 5
          have hfz19_6 := blk_frozen BK505.out 6
          have hfz19_7 := blk_frozen BK505.out 7
          go_wp2
          go_roundg kj4
          case measure => have := HK1.out; have := HJ4.out; omega
          case rel => exact ⟨(wrap64 (x6_1 + ((rd_T23 l1 x7_1).f4))), (wrap64 (x7_1 + 1)), (by first | rfl | (simp; done) | (simp [*]; done)), (by first | rfl | (simp; done) | (simp [*]; done)), H', ⟨by have := HK1.out; have := HJ4.out; omega⟩, ⟨by repeat (first | (with_reducible first | exact HB.out | apply below_alloc | apply pw_below_drewN | apply below_drew1 | refine below_set ?_ GE505.out) | exact HB.out)⟩⟩
        ·rw [if_neg c16] at H
         have c16b0 : (((rd_T23 l1 x7_1).f0) == 22) = false := beq_eq_false_iff_ne.mpr c16
         have c16b1 : (((rd_T23 l1 x7_1).f0) != 22) = true := bne_iff_ne.mpr c16
         by_cases c20 : ((rd_T23 l1 x7_1).f0) = 1
         ·rw [if_pos c20] at H
          have c20b0 : (((rd_T23 l1 x7_1).f0) == 1) = true := beq_iff_eq.mpr c20
          have c20b1 : (((rd_T23 l1 x7_1).f0) != 1) = false := bne_eq_false_iff_eq.mpr c20
          clear c20; have H' := Aside0.mk H
          clear H; have hcz21_0 : wc.cell? ⟨gb505, 0, none⟩ = some (.int .i64 ((rd_T23 l1 x7_1).f0)) := (blk_cell BK505.out 0).trans rfl
          have hcz21_1 : wc.cell? ⟨gb505, 1, none⟩ = some (.int .i64 ((rd_T23 l1 x7_1).f1)) := (blk_cell BK505.out 1).trans rfl
          have hcz21_2 : wc.cell? ⟨gb505, 2, none⟩ = some (.int .i64 ((rd_T23 l1 x7_1).f2)) := (blk_cell BK505.out 2).trans rfl
          have hcz21_3 : wc.cell? ⟨gb505, 3, none⟩ = some (.int .i64 ((rd_T23 l1 x7_1).f3)) := (blk_cell BK505.out 3).trans rfl
          have hcz21_4 : wc.cell? ⟨gb505, 4, none⟩ = some (.int .i64 ((rd_T23 l1 x7_1).f4)) := (blk_cell BK505.out 4).trans rfl
          have hcz21_5 : wc.cell? ⟨gb505, 5, none⟩ = some (.int .i64 ((rd_T23 l1 x7_1).f5)) := (blk_cell BK505.out 5).trans rfl
          have hcz21_6 : wc.cell? ⟨gb505, 6, none⟩ = some (.bool ((rd_T23 l1 x7_1).f6)) := (blk_cell BK505.out 6).trans rfl
          have hcz21_7 : wc.cell? ⟨gb505, 7, none⟩ = some (.bool ((rd_T23 l1 x7_1).f7)) := (blk_cell BK505.out 7).trans rfl
          have hfz21_0 := blk_frozen BK505.out 0
          have hfz21_1 := blk_frozen BK505.out 1
          have hfz21_2 := blk_frozen BK505.out 2
          have hfz21_3 := blk_frozen BK505.out 3
          have hfz21_4 := blk_frozen BK505.out 4
          have hfz21_5 := blk_frozen BK505.out 5
          have hfz21_6 := blk_frozen BK505.out 6
          have hfz21_7 := blk_frozen BK505.out 7
          go_wp2
          go_roundg kj4
          case measure => have := HK1.out; have := HJ4.out; omega
          case rel => exact ⟨(((rd_T23 l1 x7_1).f4)), (wrap64 (x7_1 + 1)), (by first | rfl | (simp; done) | (simp [*]; done)), (by first | rfl | (simp; done) | (simp [*]; done)), H', ⟨by have := HK1.out; have := HJ4.out; omega⟩, ⟨by repeat (first | (with_reducible first | exact HB.out | apply below_alloc | apply pw_below_drewN | apply below_drew1 | refine below_set ?_ GE505.out) | exact HB.out)⟩⟩
         ·rw [if_neg c20] at H
          have c20b0 : (((rd_T23 l1 x7_1).f0) == 1) = false := beq_eq_false_iff_ne.mpr c20
          have c20b1 : (((rd_T23 l1 x7_1).f0) != 1) = true := bne_iff_ne.mpr c20
          by_cases c22 : ((rd_T23 l1 x7_1).f0) = 31
          ·rw [if_pos c22] at H
           have c22b0 : (((rd_T23 l1 x7_1).f0) == 31) = true := beq_iff_eq.mpr c22
           have c22b1 : (((rd_T23 l1 x7_1).f0) != 31) = false := bne_eq_false_iff_eq.mpr c22
           clear c22; have H' := Aside0.mk H
           clear H; have hcz23_0 : wc.cell? ⟨gb505, 0, none⟩ = some (.int .i64 ((rd_T23 l1 x7_1).f0)) := (blk_cell BK505.out 0).trans rfl
           have hcz23_1 : wc.cell? ⟨gb505, 1, none⟩ = some (.int .i64 ((rd_T23 l1 x7_1).f1)) := (blk_cell BK505.out 1).trans rfl
           have hcz23_2 : wc.cell? ⟨gb505, 2, none⟩ = some (.int .i64 ((rd_T23 l1 x7_1).f2)) := (blk_cell BK505.out 2).trans rfl
           have hcz23_3 : wc.cell? ⟨gb505, 3, none⟩ = some (.int .i64 ((rd_T23 l1 x7_1).f3)) := (blk_cell BK505.out 3).trans rfl
           have hcz23_4 : wc.cell? ⟨gb505, 4, none⟩ = some (.int .i64 ((rd_T23 l1 x7_1).f4)) := (blk_cell BK505.out 4).trans rfl
           have hcz23_5 : wc.cell? ⟨gb505, 5, none⟩ = some (.int .i64 ((rd_T23 l1 x7_1).f5)) := (blk_cell BK505.out 5).trans rfl
           have hcz23_6 : wc.cell? ⟨gb505, 6, none⟩ = some (.bool ((rd_T23 l1 x7_1).f6)) := (blk_cell BK505.out 6).trans rfl
           have hcz23_7 : wc.cell? ⟨gb505, 7, none⟩ = some (.bool ((rd_T23 l1 x7_1).f7)) := (blk_cell BK505.out 7).trans rfl
           have hfz23_0 := blk_frozen BK505.out 0
           have hfz23_1 := blk_frozen BK505.out 1
           have hfz23_2 := blk_frozen BK505.out 2
           have hfz23_3 := blk_frozen BK505.out 3
           have hfz23_4 := blk_frozen BK505.out 4
           have hfz23_5 := blk_frozen BK505.out 5
           have hfz23_6 := blk_frozen BK505.out 6
           have hfz23_7 := blk_frozen BK505.out 7
           go_wp2
           go_roundg kj4
           case measure => have := HK1.out; have := HJ4.out; omega
           case rel => exact ⟨(wrap64 (wrap32 (wrap64 (x6_1 + ((rd_T23 l1 x7_1).f4))))), (wrap64 (x7_1 + 1)), (by first | rfl | (simp; done) | (simp [*]; done)), (by first | rfl | (simp; done) | (simp [*]; done)), H', ⟨by have := HK1.out; have := HJ4.out; omega⟩, ⟨by repeat (first | (with_reducible first | exact HB.out | apply below_alloc | apply pw_below_drewN | apply below_drew1 | refine below_set ?_ GE505.out) | exact HB.out)⟩⟩
          ·rw [if_neg c22] at H
           have c22b0 : (((rd_T23 l1 x7_1).f0) == 31) = false := beq_eq_false_iff_ne.mpr c22
           have c22b1 : (((rd_T23 l1 x7_1).f0) != 31) = true := bne_iff_ne.mpr c22
           by_cases c24 : ((rd_T23 l1 x7_1).f0) = 28
           ·rw [if_pos c24] at H
            have c24b0 : (((rd_T23 l1 x7_1).f0) == 28) = true := beq_iff_eq.mpr c24
            have c24b1 : (((rd_T23 l1 x7_1).f0) != 28) = false := bne_eq_false_iff_eq.mpr c24
            clear c24; obtain ⟨ji25, hji25⟩ : ∃ j_ : Int, (IntKind.u64.wrap (Go.bits .and .i64 ((rd_T23 l1 x7_1).f4) 63)) = j_ := ⟨_, rfl⟩
            replace H : (if 0 ≤ (ji25) then (mezzaninelaw10_done.l0 kj4 a0 l1 (shl .i64 x6_1 (ji25)) (wrap64 (x7_1 + 1))) else (none)) = some (r1, r2) := by first | (rw [hji25] at H; exact H) | (simp only [hji25] at H ⊢; exact H)
            by_cases c26 : 0 ≤ (ji25)
            ·rw [if_pos c26] at H
             have c26b0 := eq_true c26
             have c26b1 : decide (0 ≤ (ji25)) = true := decide_eq_true c26
             clear c26; obtain ⟨ji27, hji27⟩ : ∃ j_ : Int, (shl .i64 x6_1 (ji25)) = j_ := ⟨_, rfl⟩
             replace H : (mezzaninelaw10_done.l0 kj4 a0 l1 ji27 (wrap64 (x7_1 + 1))) = some (r1, r2) := by first | (rw [hji27] at H; exact H) | (simp only [hji27] at H ⊢; exact H)
             have hji27_ : (IntKind.i64.wrap (x6_1 * 2 ^ min (ji25).toNat 64)) = ji27 := hji27
             have hji27z : (ji25) ≤ 64 → (IntKind.i64.wrap (x6_1 * 2 ^ (ji25).toNat)) = ji27 := shl_small hji27
             have hji27y : (wrap64 (x6_1 * 2 ^ min (ji25).toNat 64)) = ji27 := (i64_w _).symm.trans hji27_
             have hji27x : (ji25) ≤ 64 → (wrap64 (x6_1 * 2 ^ (ji25).toNat)) = ji27 := fun h_ => (i64_w _).symm.trans (hji27z h_)
             have H' := Aside0.mk H
             clear H; have hcz28_0 : wc.cell? ⟨gb505, 0, none⟩ = some (.int .i64 ((rd_T23 l1 x7_1).f0)) := (blk_cell BK505.out 0).trans rfl
             have hcz28_1 : wc.cell? ⟨gb505, 1, none⟩ = some (.int .i64 ((rd_T23 l1 x7_1).f1)) := (blk_cell BK505.out 1).trans rfl
             have hcz28_2 : wc.cell? ⟨gb505, 2, none⟩ = some (.int .i64 ((rd_T23 l1 x7_1).f2)) := (blk_cell BK505.out 2).trans rfl
             have hcz28_3 : wc.cell? ⟨gb505, 3, none⟩ = some (.int .i64 ((rd_T23 l1 x7_1).f3)) := (blk_cell BK505.out 3).trans rfl
             have hcz28_4 : wc.cell? ⟨gb505, 4, none⟩ = some (.int .i64 ((rd_T23 l1 x7_1).f4)) := (blk_cell BK505.out 4).trans rfl
             have hcz28_5 : wc.cell? ⟨gb505, 5, none⟩ = some (.int .i64 ((rd_T23 l1 x7_1).f5)) := (blk_cell BK505.out 5).trans rfl
             have hcz28_6 : wc.cell? ⟨gb505, 6, none⟩ = some (.bool ((rd_T23 l1 x7_1).f6)) := (blk_cell BK505.out 6).trans rfl
             have hcz28_7 : wc.cell? ⟨gb505, 7, none⟩ = some (.bool ((rd_T23 l1 x7_1).f7)) := (blk_cell BK505.out 7).trans rfl
             have hfz28_0 := blk_frozen BK505.out 0
             have hfz28_1 := blk_frozen BK505.out 1
             have hfz28_2 := blk_frozen BK505.out 2
             have hfz28_3 := blk_frozen BK505.out 3
             have hfz28_4 := blk_frozen BK505.out 4
             have hfz28_5 := blk_frozen BK505.out 5
             have hfz28_6 := blk_frozen BK505.out 6
             have hfz28_7 := blk_frozen BK505.out 7
             go_wp2
             go_roundg kj4
             case measure => have := HK1.out; have := HJ4.out; omega
             case rel => exact ⟨(ji27), (wrap64 (x7_1 + 1)), (by first | rfl | (simp; done) | (simp only [← hji27] <;> (first | rfl | simp)) | (simp [*]; done)), (by first | rfl | (simp; done) | (simp [*]; done)), H', ⟨by have := HK1.out; have := HJ4.out; omega⟩, ⟨by repeat (first | (with_reducible first | exact HB.out | apply below_alloc | apply pw_below_drewN | apply below_drew1 | refine below_set ?_ GE505.out) | exact HB.out)⟩⟩
            ·rw [if_neg c26] at H
             exact absurd H (by simp)
           ·rw [if_neg c24] at H
            have c24b0 : (((rd_T23 l1 x7_1).f0) == 28) = false := beq_eq_false_iff_ne.mpr c24
            have c24b1 : (((rd_T23 l1 x7_1).f0) != 28) = true := bne_iff_ne.mpr c24
            simp only [Option.some.injEq, Prod.mk.injEq] at H
            obtain ⟨rfl, rfl⟩ := H
            have hcz29_0 : wc.cell? ⟨gb505, 0, none⟩ = some (.int .i64 ((rd_T23 l1 x7_1).f0)) := (blk_cell BK505.out 0).trans rfl
            have hcz29_1 : wc.cell? ⟨gb505, 1, none⟩ = some (.int .i64 ((rd_T23 l1 x7_1).f1)) := (blk_cell BK505.out 1).trans rfl
            have hcz29_2 : wc.cell? ⟨gb505, 2, none⟩ = some (.int .i64 ((rd_T23 l1 x7_1).f2)) := (blk_cell BK505.out 2).trans rfl
            have hcz29_3 : wc.cell? ⟨gb505, 3, none⟩ = some (.int .i64 ((rd_T23 l1 x7_1).f3)) := (blk_cell BK505.out 3).trans rfl
            have hcz29_4 : wc.cell? ⟨gb505, 4, none⟩ = some (.int .i64 ((rd_T23 l1 x7_1).f4)) := (blk_cell BK505.out 4).trans rfl
            have hcz29_5 : wc.cell? ⟨gb505, 5, none⟩ = some (.int .i64 ((rd_T23 l1 x7_1).f5)) := (blk_cell BK505.out 5).trans rfl
            have hcz29_6 : wc.cell? ⟨gb505, 6, none⟩ = some (.bool ((rd_T23 l1 x7_1).f6)) := (blk_cell BK505.out 6).trans rfl
            have hcz29_7 : wc.cell? ⟨gb505, 7, none⟩ = some (.bool ((rd_T23 l1 x7_1).f7)) := (blk_cell BK505.out 7).trans rfl
            have hfz29_0 := blk_frozen BK505.out 0
            have hfz29_1 := blk_frozen BK505.out 1
            have hfz29_2 := blk_frozen BK505.out 2
            have hfz29_3 := blk_frozen BK505.out 3
            have hfz29_4 := blk_frozen BK505.out 4
            have hfz29_5 := blk_frozen BK505.out 5
            have hfz29_6 := blk_frozen BK505.out 6
            have hfz29_7 := blk_frozen BK505.out 7
            go_wp2
            go_ret2
            exact ⟨by first | rfl | (simp [errW_none, errW_some] <;> rfl) | (simp [*, errW_none, errW_some] <;> rfl), by repeat (first | (with_reducible first | exact HB.out | apply below_alloc | apply pw_below_drewN | apply below_drew1 | refine below_set ?_ GE505.out) | exact HB.out)⟩
    ·rw [if_neg c4] at H
     exact absurd H (by simp)
   ·rw [if_neg c3] at H
    have c3b0 : decide (x7_1 < (l1.length : Int)) = false := decide_eq_false c3
    clear c3; simp only [Option.some.injEq, Prod.mk.injEq] at H
    obtain ⟨rfl, rfl⟩ := H
    go_wp2
    go_ret2
    exact ⟨by first | rfl | (simp [errW_none, errW_some] <;> rfl) | (simp [*, errW_none, errW_some] <;> rfl), by repeat (first | (with_reducible first | exact HB.out | apply below_alloc | apply pw_below_drewN | apply below_drew1) | exact HB.out)⟩
end Go.Proofs.YtknkfimpflodeaaGreatDoor.P
