-- written by a program of this place (wip/lay.sh, wip/print2.py over the kit's print); Lean checks it
import Derived.Test.YtknkfimpflodeaaF0
import Derived.Test.YtknkfimpflodeaaF1
import Derived.Test.YtknkfimpflodeaaF5
import Derived.Test.YtknkfimpflodeaaF10
import Derived.Test.YtknkfimpflodeaaFA0
import Derived.Test.YtknkfimpflodeaaFD
namespace Go.Proofs.Ytknkfimpflodeaa.P
open Go.RowKit Go.Proofs.YtknkfimpflodeaaW.PrintWords Go.Proofs.YtknkfimpflodeaaW.PrintLast Go.Proofs.YtknkfimpflodeaaW.PrintMore
attribute [local go_sem] max2_int min2_int max_two min_two max_three min_three max_four min_four   -- for this text's walks alone
set_option linter.unusedVariables false
set_option linter.unusedSimpArgs false
attribute [local go_sem] run_f0 run_f1 run_f2 run_f3 run_g0 run_g1 run_g2 run_g3

attribute [local go_sem high] eqA24
/-! ### mezzaninelaw09_DecodeBack: function 8 -/
def mezzaninelaw09_DecodeBack.j0 : Nat → Int → Int → Int → Int → Int → Int → Bool → Bool → Option (Bool)
 | 0, _, _, _, _, _, _, _, _ => none
 | k + 1, x451000, x451001, x451002, x451003, x451004, x451005, x451006, x451007 => (decode_Encode.f k x451000 x451001 x451002 x451003 x451004 x451005 x451006 x451007).bind fun bt465 => (if bt465.2 = 0 then ((decode_Decode.f k bt465.1).bind fun bt467 => (if bt467.2.2.2.2.2.2.2.2 = true then (if (bt467.1 == x451000 && (bt467.2.1 == x451001 && (bt467.2.2.1 == x451002 && (bt467.2.2.2.1 == x451003 && (bt467.2.2.2.2.1 == x451004 && (bt467.2.2.2.2.2.1 == x451005 && (bt467.2.2.2.2.2.2.1 == x451006 && (bt467.2.2.2.2.2.2.2.1 == x451007)))))))) = true then ((mezzaninelaw09_wakes.f k).bind fun t476 => (some t476)) else (some false)) else (some false))) else (if bt465.2 = 80 then (if bt465.1 = 0 then ((mezzaninelaw09_wakes.f k).bind fun t477 => (some t477)) else (some false)) else (some false)))
def mezzaninelaw09_DecodeBack.f (k : Nat) (a0 : Int) (a1_0 : Int) (a1_1 : Int) (a1_2 : Int) (a1_3 : Int) (a1_4 : Int) (a1_5 : Int) (a1_6 : Bool) (a1_7 : Bool) : Option (Bool) := (decode_Decode.f k a0).bind fun bt451 => (if bt451.2.2.2.2.2.2.2.2 = true then ((decode_Encode.f k bt451.1 bt451.2.1 bt451.2.2.1 bt451.2.2.2.1 bt451.2.2.2.2.1 bt451.2.2.2.2.2.1 bt451.2.2.2.2.2.2.1 bt451.2.2.2.2.2.2.2.1).bind fun bt461 => (if bt461.2 = 0 then (if bt461.1 = a0 then ((decode_Name.f bt451.1).bind fun t463 => ((decode_Op.f k t463).bind fun t464 => (if t464 = bt451.1 then (mezzaninelaw09_DecodeBack.j0 k a1_0 a1_1 a1_2 a1_3 a1_4 a1_5 a1_6 a1_7) else (some false)))) else (some false)) else (some false))) else (if (!(bt451.1 == 0) || (!(bt451.2.1 == 0) || (!(bt451.2.2.1 == 0) || (!(bt451.2.2.2.1 == 0) || (!(bt451.2.2.2.2.1 == 0) || (!(bt451.2.2.2.2.2.1 == 0) || (bt451.2.2.2.2.2.2.1 || (bt451.2.2.2.2.2.2.2.1)))))))) = true then (some false) else (mezzaninelaw09_DecodeBack.j0 k a1_0 a1_1 a1_2 a1_3 a1_4 a1_5 a1_6 a1_7)))
theorem mezzaninelaw09_DecodeBack.mono_l : ∀ k, (∀ y0 y1 y2 y3 y4 y5 y6 y7, LeO (mezzaninelaw09_DecodeBack.j0 k y0 y1 y2 y3 y4 y5 y6 y7) (mezzaninelaw09_DecodeBack.j0 (k + 1) y0 y1 y2 y3 y4 y5 y6 y7))
 | 0 => fun _ _ _ _ _ _ _ _ r h => by simp [mezzaninelaw09_DecodeBack.j0] at h
 | k + 1 => by
  have ih0 := mezzaninelaw09_DecodeBack.mono_l k
  ·intro y0 y1 y2 y3 y4 y5 y6 y7
   unfold mezzaninelaw09_DecodeBack.j0
   repeat' first
   | (with_reducible exact ih0 _ _ _ _ _ _ _ _)
   | (with_reducible exact decode_Decode.mono _ _)
   | (with_reducible exact decode_Encode.mono _ _ _ _ _ _ _ _ _)
   | (with_reducible exact decode_Op.mono _ _)
   | (with_reducible exact mezzaninelaw09_wakes.mono _)
   | (with_reducible exact LeO.refl _)
   | (with_reducible exact LeO.none _)
   | (with_reducible refine LeO.ite ?_ ?_)
   | (with_reducible refine LeO.bind ?_ (fun _ => ?_))
   | exact ih0 _ _ _ _ _ _ _ _
   | exact decode_Decode.mono _ _
   | exact decode_Encode.mono _ _ _ _ _ _ _ _ _
   | exact decode_Op.mono _ _
   | exact mezzaninelaw09_wakes.mono _
   | exact LeO.none _
   | refine LeO.ite ?_ ?_
   | refine LeO.bind ?_ (fun _ => ?_)
theorem mezzaninelaw09_DecodeBack.mono : ∀ a0 a1 a2 a3 a4 a5 a6 a7 a8 k, LeO (mezzaninelaw09_DecodeBack.f k a0 a1 a2 a3 a4 a5 a6 a7 a8) (mezzaninelaw09_DecodeBack.f (k + 1) a0 a1 a2 a3 a4 a5 a6 a7 a8) := by
 intro a0 a1 a2 a3 a4 a5 a6 a7 a8 k
 have ih0 := mezzaninelaw09_DecodeBack.mono_l k
 unfold mezzaninelaw09_DecodeBack.f
 repeat' first
   | (with_reducible exact ih0 _ _ _ _ _ _ _ _)
   | (with_reducible exact decode_Decode.mono _ _)
   | (with_reducible exact decode_Encode.mono _ _ _ _ _ _ _ _ _)
   | (with_reducible exact decode_Op.mono _ _)
   | (with_reducible exact mezzaninelaw09_wakes.mono _)
   | (with_reducible exact LeO.refl _)
   | (with_reducible exact LeO.none _)
   | (with_reducible refine LeO.ite ?_ ?_)
   | (with_reducible refine LeO.bind ?_ (fun _ => ?_))
   | exact ih0 _ _ _ _ _ _ _ _
   | exact decode_Decode.mono _ _
   | exact decode_Encode.mono _ _ _ _ _ _ _ _ _
   | exact decode_Op.mono _ _
   | exact mezzaninelaw09_wakes.mono _
   | exact LeO.none _
   | refine LeO.ite ?_ ?_
   | refine LeO.bind ?_ (fun _ => ?_)
def mezzaninelaw09_DecodeBack.T4 : Bool × List (List Nat × List Nat) := (true, [([], []), ([0], [0]), ([1], [1]), ([2], [2]), ([2], [2]), ([3, 4, 2], [2, 3, 4]), ([2, 5], [2, 5]), ([6, 2], [6]), ([7], [7]), ([8, 7], [7, 8]), ([9, 7, 7], [7, 9]), ([10, 10, 7], [7, 10]), ([7], [7]), ([12, 7], [7, 12]), ([11, 13, 7], [7, 11, 13]), ([7, 14], [7, 14])])
def mezzaninelaw09_DecodeBack.B4 : List Nat := [0, 1, 3, 7, 7, 31, 63, 127, 255, 511, 1023, 2047, 255, 4351, 16383, 32767]
theorem mezzaninelaw09_DecodeBack.tab4 : rtab .any (opsOf Try.f8 4) = mezzaninelaw09_DecodeBack.T4 := by kernel_rfl
theorem mezzaninelaw09_DecodeBack.bits4 : waitsOk mezzaninelaw09_DecodeBack.T4.2 mezzaninelaw09_DecodeBack.B4 = true := by kernel_rfl
set_option maxHeartbeats 8000000 in
set_option maxRecDepth 100000 in
theorem mezzaninelaw09_DecodeBack.calls (k : Nat) (a0 : Int) (a1_0 : Int) (a1_1 : Int) (a1_2 : Int) (a1_3 : Int) (a1_4 : Int) (a1_5 : Int) (a1_6 : Bool) (a1_7 : Bool) (r : Bool) (w : World) (h : mezzaninelaw09_DecodeBack.f k a0 a1_0 a1_1 a1_2 a1_3 a1_4 a1_5 a1_6 a1_7 = some r) :
  Calls Try.prog 8 #[.int .u32 a0, .agg #[.int .i64 a1_0, .int .i64 a1_1, .int .i64 a1_2, .int .i64 a1_3, .int .i64 a1_4, .int .i64 a1_5, .bool a1_6, .bool a1_7]] w fun e w' => e = .returned (.bool r) ∧ Below w.heap.size w w' := by
 have hu24 := Try.underlying24
 have HB := Aside0.mk (Below.refl w.heap.size w)
 have H : ((decode_Decode.f k a0).bind fun bt451 => (if bt451.2.2.2.2.2.2.2.2 = true then ((decode_Encode.f k bt451.1 bt451.2.1 bt451.2.2.1 bt451.2.2.2.1 bt451.2.2.2.2.1 bt451.2.2.2.2.2.1 bt451.2.2.2.2.2.2.1 bt451.2.2.2.2.2.2.2.1).bind fun bt461 => (if bt461.2 = 0 then (if bt461.1 = a0 then ((decode_Name.f bt451.1).bind fun t463 => ((decode_Op.f k t463).bind fun t464 => (if t464 = bt451.1 then (mezzaninelaw09_DecodeBack.j0 k a1_0 a1_1 a1_2 a1_3 a1_4 a1_5 a1_6 a1_7) else (some false)))) else (some false)) else (some false))) else (if (!(bt451.1 == 0) || (!(bt451.2.1 == 0) || (!(bt451.2.2.1 == 0) || (!(bt451.2.2.2.1 == 0) || (!(bt451.2.2.2.2.1 == 0) || (!(bt451.2.2.2.2.2.1 == 0) || (bt451.2.2.2.2.2.2.1 || (bt451.2.2.2.2.2.2.2.1)))))))) = true then (some false) else (mezzaninelaw09_DecodeBack.j0 k a1_0 a1_1 a1_2 a1_3 a1_4 a1_5 a1_6 a1_7)))) = some r := h
 clear h
 replace H := Option.bind_eq_some_iff.mp H
 obtain ⟨⟨t451, t452, t453, t454, t455, t456, t457, t458, t459⟩, A30, H⟩ := H
 replace H : (if t459 = true then ((decode_Encode.f k t451 t452 t453 t454 t455 t456 t457 t458).bind fun bt461 => (if bt461.2 = 0 then (if bt461.1 = a0 then ((decode_Name.f t451).bind fun t463 => ((decode_Op.f k t463).bind fun t464 => (if t464 = t451 then (mezzaninelaw09_DecodeBack.j0 k a1_0 a1_1 a1_2 a1_3 a1_4 a1_5 a1_6 a1_7) else (some false)))) else (some false)) else (some false))) else (if (!(t451 == 0) || (!(t452 == 0) || (!(t453 == 0) || (!(t454 == 0) || (!(t455 == 0) || (!(t456 == 0) || (t457 || (t458)))))))) = true then (some false) else (mezzaninelaw09_DecodeBack.j0 k a1_0 a1_1 a1_2 a1_3 a1_4 a1_5 a1_6 a1_7))) = some r := H
 have A3 := Aside0.mk A30
 clear A30
 have HC4 := Aside0.mk H
 clear H
 go_enter Try.func8, Try.ntmps8
 go_upto_if 16 with (first | ((with_reducible refine gate_dst (N := 3) rfl ?_); refine box_event ?hg (N := 3) ?hd (cs := #[.int .i64 a1_0, .int .i64 a1_1, .int .i64 a1_2, .int .i64 a1_3, .int .i64 a1_4, .int .i64 a1_5, .bool a1_6, .bool a1_7]) (t := 24) ?hr ?_; (case hd => rfl); (case hg => rfl); (case hr => first | (go_simp; done) | (go_simp; rfl)); intro gb450 hg w5 hbox hb; have n0_ := Aside0.mk (below_step (by repeat (first | (with_reducible first | exact HB.out | apply below_alloc | apply pw_below_drewN | apply below_drew1) | exact HB.out)) hb); have n1_ := Aside0.mk (hbox); have n2_ := Aside0.mk ((by rw [hg]; exact (below_size (by repeat (first | (with_reducible first | exact HB.out | apply below_alloc | apply pw_below_drewN | apply below_drew1) | exact HB.out))) : w.heap.size ≤ gb450)); have n3_ := Aside0.mk ((by rw [hg]; exact (below_size (by repeat (first | (with_reducible first | exact HB.out | apply below_alloc | apply pw_below_drewN | apply below_drew1) | exact HB.out))) : w.heap.size ≤ gb450)); clear HB; have HB := n0_; have BK450 := n1_; have GW450 := n2_; have GE450 := n3_; clear n0_ n1_ n2_ n3_; clear hb hbox hg) | ((with_reducible refine gate_callee (f := 10) rfl ?_); refine goesL_ (some 13) rfl rfl Try.func10 (by kernel_rfl) rfl #[.int .u32 a0] rfl (by (try simp only [List.map_toArray, List.map_cons, List.map_nil]); first | done | rfl | (simp only [List.length_drop, List.length_take]; rfl)) ?_; (with_reducible refine (decode_Decode.calls k a0 t451 t452 t453 t454 t455 t456 t457 t458 t459 _ A3.out).mono ?_); rintro e w6 ⟨rfl, hb⟩; refine ⟨_, rfl, ?_⟩; have n0_ := Aside0.mk (blk_below (g := gb450) (o := .cells #[.int .i64 a1_0, .int .i64 a1_1, .int .i64 a1_2, .int .i64 a1_3, .int .i64 a1_4, .int .i64 a1_5, .bool a1_6, .bool a1_7] 24 (0, 0)) (by (with_reducible repeat (first | refine blk_drewN ?_ _ | refine blk_drew ?_ | refine blk_alloc ?_ _)); exact BK450.out) hb); have n1_ := Aside0.mk (below_step (by repeat (first | (with_reducible first | exact HB.out | apply below_alloc | apply pw_below_drewN | apply below_drew1 | refine below_set ?_ GE450.out) | exact HB.out)) hb); clear BK450; clear HB; have BK450 := n0_; have HB := n1_; clear n0_ n1_; (try clear hb); (try clear hb2); (try clear hk); (try clear hi)) | ((with_reducible refine gate_dst (N := 5) rfl ?_); refine box_event ?hg (N := 5) ?hd (cs := #[.int .i64 0, .int .i64 0, .int .i64 0, .int .i64 0, .int .i64 0, .int .i64 0, .bool false, .bool false]) (t := 24) ?hr ?_; (case hd => rfl); (case hg => rfl); (case hr => first | (go_simp; done) | (go_simp; rfl)); intro gb460 hg w7 hbox hb; have n0_ := Aside0.mk (blk_below (g := gb450) (o := .cells #[.int .i64 a1_0, .int .i64 a1_1, .int .i64 a1_2, .int .i64 a1_3, .int .i64 a1_4, .int .i64 a1_5, .bool a1_6, .bool a1_7] 24 (0, 0)) (by (with_reducible repeat (first | refine blk_drewN ?_ _ | refine blk_drew ?_ | refine blk_alloc ?_ _)); exact BK450.out) hb); have n1_ := Aside0.mk (below_step (by repeat (first | (with_reducible first | exact HB.out | apply below_alloc | apply pw_below_drewN | apply below_drew1 | refine below_set ?_ GE450.out) | exact HB.out)) hb); have n2_ := Aside0.mk (hbox); have n3_ := Aside0.mk ((by rw [hg]; exact (below_size (by repeat (first | (with_reducible first | exact HB.out | apply below_alloc | apply pw_below_drewN | apply below_drew1 | refine below_set ?_ GE450.out) | exact HB.out))) : w.heap.size ≤ gb460)); have n4_ := Aside0.mk ((by rw [hg]; exact (below_size (by repeat (first | (with_reducible first | exact HB.out | apply below_alloc | apply pw_below_drewN | apply below_drew1 | refine below_set ?_ GE450.out) | exact HB.out))) : w.heap.size ≤ gb460)); have n5_ := Aside0.mk ((by rw [hg]; exact Nat.ne_of_lt (blk_lt (g := gb450) (o := .cells #[.int .i64 a1_0, .int .i64 a1_1, .int .i64 a1_2, .int .i64 a1_3, .int .i64 a1_4, .int .i64 a1_5, .bool a1_6, .bool a1_7] 24 (0, 0)) (by (with_reducible repeat (first | refine blk_drewN ?_ _ | refine blk_drew ?_ | refine blk_alloc ?_ _)); exact BK450.out)) : gb450 ≠ gb460)); have n6_ := Aside0.mk ((by rw [hg]; exact Nat.ne_of_gt (blk_lt (g := gb450) (o := .cells #[.int .i64 a1_0, .int .i64 a1_1, .int .i64 a1_2, .int .i64 a1_3, .int .i64 a1_4, .int .i64 a1_5, .bool a1_6, .bool a1_7] 24 (0, 0)) (by (with_reducible repeat (first | refine blk_drewN ?_ _ | refine blk_drew ?_ | refine blk_alloc ?_ _)); exact BK450.out)) : gb460 ≠ gb450)); clear BK450; clear HB; have BK450 := n0_; have HB := n1_; have BK460 := n2_; have GW460 := n3_; have GE460 := n4_; have NB450_460 := n5_; have NB460_450 := n6_; clear n0_ n1_ n2_ n3_ n4_ n5_ n6_; clear hb hbox hg; have hnb8 := NB460_450.out; have hnc8 := NB450_460.out; have hcz9_0 : w7.cell? ⟨gb460, 0, none⟩ = some (.int .i64 0) := (blk_cell BK460.out 0).trans rfl; have hcz9_1 : w7.cell? ⟨gb460, 1, none⟩ = some (.int .i64 0) := (blk_cell BK460.out 1).trans rfl; have hcz9_2 : w7.cell? ⟨gb460, 2, none⟩ = some (.int .i64 0) := (blk_cell BK460.out 2).trans rfl; have hcz9_3 : w7.cell? ⟨gb460, 3, none⟩ = some (.int .i64 0) := (blk_cell BK460.out 3).trans rfl; have hcz9_4 : w7.cell? ⟨gb460, 4, none⟩ = some (.int .i64 0) := (blk_cell BK460.out 4).trans rfl; have hcz9_5 : w7.cell? ⟨gb460, 5, none⟩ = some (.int .i64 0) := (blk_cell BK460.out 5).trans rfl; have hcz9_6 : w7.cell? ⟨gb460, 6, none⟩ = some (.bool false) := (blk_cell BK460.out 6).trans rfl; have hcz9_7 : w7.cell? ⟨gb460, 7, none⟩ = some (.bool false) := (blk_cell BK460.out 7).trans rfl; have hfz9_0 := blk_frozen BK460.out 0; have hfz9_1 := blk_frozen BK460.out 1; have hfz9_2 := blk_frozen BK460.out 2; have hfz9_3 := blk_frozen BK460.out 3; have hfz9_4 := blk_frozen BK460.out 4; have hfz9_5 := blk_frozen BK460.out 5; have hfz9_6 := blk_frozen BK460.out 6; have hfz9_7 := blk_frozen BK460.out 7))
 (try simp only [Act.put, List.setIfInBounds_toArray, List.set_cons_zero, List.set_cons_succ])
 go_cut [] (fun wc => ∃ (kq : Nat), Aside0 (mezzaninelaw09_DecodeBack.j0 kq a1_0 a1_1 a1_2 a1_3 a1_4 a1_5 a1_6 a1_7 = some r) ∧ Aside0 (kq ≤ k) ∧ Aside0 (wc.heap[gb450]? = some (.cells #[.int .i64 a1_0, .int .i64 a1_1, .int .i64 a1_2, .int .i64 a1_3, .int .i64 a1_4, .int .i64 a1_5, .bool a1_6, .bool a1_7] 24 (0, 0))) ∧ Aside0 (wc.heap[gb460]? = some (.cells #[.int .i64 t451, .int .i64 t452, .int .i64 t453, .int .i64 t454, .int .i64 t455, .int .i64 t456, .bool t457, .bool t458] 24 (0, 0))) ∧ Aside0 (Below w.heap.size w wc))
 case first =>
  have H := HC4.out
  clear HC4
  by_cases c10 : t459 = true
  ·subst c10
   have H1 : ((decode_Encode.f k t451 t452 t453 t454 t455 t456 t457 t458).bind fun bt461 => (if bt461.2 = 0 then (if bt461.1 = a0 then ((decode_Name.f t451).bind fun t463 => ((decode_Op.f k t463).bind fun t464 => (if t464 = t451 then (mezzaninelaw09_DecodeBack.j0 k a1_0 a1_1 a1_2 a1_3 a1_4 a1_5 a1_6 a1_7) else (some false)))) else (some false)) else (some false))) = some r := by rw [if_pos rfl] at H; exact H
   clear H
   have H := H1
   clear H1
   replace H := Option.bind_eq_some_iff.mp H
   obtain ⟨⟨t461, t462⟩, A110, H⟩ := H
   replace H : (if t462 = 0 then (if t461 = a0 then ((decode_Name.f t451).bind fun t463 => ((decode_Op.f k t463).bind fun t464 => (if t464 = t451 then (mezzaninelaw09_DecodeBack.j0 k a1_0 a1_1 a1_2 a1_3 a1_4 a1_5 a1_6 a1_7) else (some false)))) else (some false)) else (some false)) = some r := H
   have A11 := Aside0.mk A110
   clear A110
   by_cases c12 : t462 = 0
   ·rw [if_pos c12] at H
    have c12b0 : (t462 == 0) = true := beq_iff_eq.mpr c12
    have c12b1 : (t462 != 0) = false := bne_eq_false_iff_eq.mpr c12
    clear c12
    (first | rw [c12b0] | (simp only [i64_w, i32_w]; rw [c12b0]) | skip)
    by_cases c13 : t461 = a0
    ·rw [if_pos c13] at H
     have c13b0 : (t461 == a0) = true := beq_iff_eq.mpr c13
     have c13b1 : (t461 != a0) = false := bne_eq_false_iff_eq.mpr c13
     clear c13
     replace H := Option.bind_eq_some_iff.mp H
     obtain ⟨t463, A140, H⟩ := H
     replace H : ((decode_Op.f k t463).bind fun t464 => (if t464 = t451 then (mezzaninelaw09_DecodeBack.j0 k a1_0 a1_1 a1_2 a1_3 a1_4 a1_5 a1_6 a1_7) else (some false))) = some r := H
     have A14 := Aside0.mk A140
     clear A140
     replace H := Option.bind_eq_some_iff.mp H
     obtain ⟨t464, A150, H⟩ := H
     replace H : (if t464 = t451 then (mezzaninelaw09_DecodeBack.j0 k a1_0 a1_1 a1_2 a1_3 a1_4 a1_5 a1_6 a1_7) else (some false)) = some r := H
     have A15 := Aside0.mk A150
     clear A150
     by_cases c16 : t464 = t451
     ·rw [if_pos c16] at H
      have c16b0 : (t464 == t451) = true := beq_iff_eq.mpr c16
      have c16b1 : (t464 != t451) = false := bne_eq_false_iff_eq.mpr c16
      clear c16
      have H' := Aside0.mk H
      clear H
      have hnb17 := NB460_450.out
      have hnc17 := NB450_460.out
      have hcz18_0 : w7.cell? ⟨gb460, 0, none⟩ = some (.int .i64 0) := (blk_cell BK460.out 0).trans rfl
      have hcz18_1 : w7.cell? ⟨gb460, 1, none⟩ = some (.int .i64 0) := (blk_cell BK460.out 1).trans rfl
      have hcz18_2 : w7.cell? ⟨gb460, 2, none⟩ = some (.int .i64 0) := (blk_cell BK460.out 2).trans rfl
      have hcz18_3 : w7.cell? ⟨gb460, 3, none⟩ = some (.int .i64 0) := (blk_cell BK460.out 3).trans rfl
      have hcz18_4 : w7.cell? ⟨gb460, 4, none⟩ = some (.int .i64 0) := (blk_cell BK460.out 4).trans rfl
      have hcz18_5 : w7.cell? ⟨gb460, 5, none⟩ = some (.int .i64 0) := (blk_cell BK460.out 5).trans rfl
      have hcz18_6 : w7.cell? ⟨gb460, 6, none⟩ = some (.bool false) := (blk_cell BK460.out 6).trans rfl
      have hcz18_7 : w7.cell? ⟨gb460, 7, none⟩ = some (.bool false) := (blk_cell BK460.out 7).trans rfl
      have hfz18_0 := blk_frozen BK460.out 0
      have hfz18_1 := blk_frozen BK460.out 1
      have hfz18_2 := blk_frozen BK460.out 2
      have hfz18_3 := blk_frozen BK460.out 3
      have hfz18_4 := blk_frozen BK460.out 4
      have hfz18_5 := blk_frozen BK460.out 5
      have hfz18_6 := blk_frozen BK460.out 6
      have hfz18_7 := blk_frozen BK460.out 7
      try go_wp2_with (first | ((with_reducible refine gate_callee (f := 13) rfl ?_); refine goesL_ (some 19) rfl rfl Try.func13 (by kernel_rfl) rfl #[.agg #[.int .i64 t451, .int .i64 t452, .int .i64 t453, .int .i64 t454, .int .i64 t455, .int .i64 t456, .bool t457, .bool t458]] rfl (by (try simp only [List.map_toArray, List.map_cons, List.map_nil]); first | done | rfl | (simp only [List.length_drop, List.length_take]; rfl)) ?_; (with_reducible refine (decode_Encode.calls k t451 t452 t453 t454 t455 t456 t457 t458 t461 t462 _ A11.out).mono ?_); rintro e w19 ⟨rfl, hb⟩; refine ⟨_, rfl, ?_⟩; have n0_ := Aside0.mk (blk_below (g := gb450) (o := .cells #[.int .i64 a1_0, .int .i64 a1_1, .int .i64 a1_2, .int .i64 a1_3, .int .i64 a1_4, .int .i64 a1_5, .bool a1_6, .bool a1_7] 24 (0, 0)) (by (with_reducible repeat (first | refine blk_drewN ?_ _ | refine blk_drew ?_ | refine blk_alloc ?_ _)); refine blk_far ?_ NB450_460.out _; (with_reducible repeat (first | refine blk_drewN ?_ _ | refine blk_drew ?_ | refine blk_alloc ?_ _)); refine blk_far ?_ NB450_460.out _; (with_reducible repeat (first | refine blk_drewN ?_ _ | refine blk_drew ?_ | refine blk_alloc ?_ _)); refine blk_far ?_ NB450_460.out _; (with_reducible repeat (first | refine blk_drewN ?_ _ | refine blk_drew ?_ | refine blk_alloc ?_ _)); refine blk_far ?_ NB450_460.out _; (with_reducible repeat (first | refine blk_drewN ?_ _ | refine blk_drew ?_ | refine blk_alloc ?_ _)); refine blk_far ?_ NB450_460.out _; (with_reducible repeat (first | refine blk_drewN ?_ _ | refine blk_drew ?_ | refine blk_alloc ?_ _)); refine blk_far ?_ NB450_460.out _; (with_reducible repeat (first | refine blk_drewN ?_ _ | refine blk_drew ?_ | refine blk_alloc ?_ _)); refine blk_far ?_ NB450_460.out _; (with_reducible repeat (first | refine blk_drewN ?_ _ | refine blk_drew ?_ | refine blk_alloc ?_ _)); refine blk_far ?_ NB450_460.out _; (with_reducible repeat (first | refine blk_drewN ?_ _ | refine blk_drew ?_ | refine blk_alloc ?_ _)); exact BK450.out) hb); have n1_ := Aside0.mk (blk_below (g := gb460) (o := .cells #[.int .i64 t451, .int .i64 t452, .int .i64 t453, .int .i64 t454, .int .i64 t455, .int .i64 t456, .bool t457, .bool t458] 24 (0, 0)) (by (with_reducible repeat (first | refine blk_drewN ?_ _ | refine blk_drew ?_ | refine blk_alloc ?_ _)); refine blk_put (cs := #[.int .i64 t451, .int .i64 t452, .int .i64 t453, .int .i64 t454, .int .i64 t455, .int .i64 t456, .bool t457, .bool false]) ?_ 7 _ rfl; (with_reducible repeat (first | refine blk_drewN ?_ _ | refine blk_drew ?_ | refine blk_alloc ?_ _)); refine blk_put (cs := #[.int .i64 t451, .int .i64 t452, .int .i64 t453, .int .i64 t454, .int .i64 t455, .int .i64 t456, .bool false, .bool false]) ?_ 6 _ rfl; (with_reducible repeat (first | refine blk_drewN ?_ _ | refine blk_drew ?_ | refine blk_alloc ?_ _)); refine blk_put (cs := #[.int .i64 t451, .int .i64 t452, .int .i64 t453, .int .i64 t454, .int .i64 t455, .int .i64 0, .bool false, .bool false]) ?_ 5 _ rfl; (with_reducible repeat (first | refine blk_drewN ?_ _ | refine blk_drew ?_ | refine blk_alloc ?_ _)); refine blk_put (cs := #[.int .i64 t451, .int .i64 t452, .int .i64 t453, .int .i64 t454, .int .i64 0, .int .i64 0, .bool false, .bool false]) ?_ 4 _ rfl; (with_reducible repeat (first | refine blk_drewN ?_ _ | refine blk_drew ?_ | refine blk_alloc ?_ _)); refine blk_put (cs := #[.int .i64 t451, .int .i64 t452, .int .i64 t453, .int .i64 0, .int .i64 0, .int .i64 0, .bool false, .bool false]) ?_ 3 _ rfl; (with_reducible repeat (first | refine blk_drewN ?_ _ | refine blk_drew ?_ | refine blk_alloc ?_ _)); refine blk_put (cs := #[.int .i64 t451, .int .i64 t452, .int .i64 0, .int .i64 0, .int .i64 0, .int .i64 0, .bool false, .bool false]) ?_ 2 _ rfl; (with_reducible repeat (first | refine blk_drewN ?_ _ | refine blk_drew ?_ | refine blk_alloc ?_ _)); refine blk_put (cs := #[.int .i64 t451, .int .i64 0, .int .i64 0, .int .i64 0, .int .i64 0, .int .i64 0, .bool false, .bool false]) ?_ 1 _ rfl; (with_reducible repeat (first | refine blk_drewN ?_ _ | refine blk_drew ?_ | refine blk_alloc ?_ _)); refine blk_put (cs := #[.int .i64 0, .int .i64 0, .int .i64 0, .int .i64 0, .int .i64 0, .int .i64 0, .bool false, .bool false]) ?_ 0 _ rfl; (with_reducible repeat (first | refine blk_drewN ?_ _ | refine blk_drew ?_ | refine blk_alloc ?_ _)); exact BK460.out) hb); have n2_ := Aside0.mk (below_step (by repeat (first | (with_reducible first | exact HB.out | apply below_alloc | apply pw_below_drewN | apply below_drew1 | refine below_set ?_ GE450.out | refine below_set ?_ GE460.out) | exact HB.out)) hb); clear BK450; clear BK460; clear HB; have BK450 := n0_; have BK460 := n1_; have HB := n2_; clear n0_ n1_ n2_; (try clear hb); (try clear hb2); (try clear hk); (try clear hi)))
      have n0_ := Aside0.mk (blk_drew BK450.out)
      have n1_ := Aside0.mk (blk_drew BK460.out)
      have n2_ := Aside0.mk (below_drew1 HB.out)
      clear BK450
      clear BK460
      clear HB
      have BK450 := n0_
      have BK460 := n1_
      have HB := n2_
      clear n0_ n1_ n2_
      refine start_ (n := 16) (S := fun w' => w'.cell? ⟨gb460, 0, none⟩ = some (.int .i64 t451) ∧ w'.cell? ⟨gb460, 1, none⟩ = some (.int .i64 t452) ∧ w'.cell? ⟨gb460, 2, none⟩ = some (.int .i64 t453) ∧ w'.cell? ⟨gb460, 3, none⟩ = some (.int .i64 t454) ∧ w'.cell? ⟨gb460, 4, none⟩ = some (.int .i64 t455) ∧ w'.cell? ⟨gb460, 5, none⟩ = some (.int .i64 t456) ∧ w'.cell? ⟨gb460, 6, none⟩ = some (.bool t457) ∧ w'.cell? ⟨gb460, 7, none⟩ = some (.bool t458)) (ds := []) #[false, false, false, false, false, false, false, false, false, false, false, false, false, false, false, false] (by kernel_rfl) rfl rfl ⟨(blk_cell BK460.out 0).trans rfl, (blk_cell BK460.out 1).trans rfl, (blk_cell BK460.out 2).trans rfl, (blk_cell BK460.out 3).trans rfl, (blk_cell BK460.out 4).trans rfl, (blk_cell BK460.out 5).trans rfl, (blk_cell BK460.out 6).trans rfl, (blk_cell BK460.out 7).trans rfl⟩ (fun hHeld => ?_); refine with_tabW mezzaninelaw09_DecodeBack.tab4 mezzaninelaw09_DecodeBack.bits4 (fun HT_ HW_ => ?_)
      generalize w19.drew = w20 at BK450 BK460 HB hHeld ⊢
      refine pure_ (i := 0) (N := some 22) (v := ?_) (a' := ?_) #[true, false, false, false, false, false, false, false, false, false, false, false, false, false, false, false] rfl rfl (any_of HT_.out (by kernel_rfl)) (fun _ _ _ h => h) (Or.inl ⟨by rfl, ?_⟩) ?_ ?_
      rotate_left
      ·intro w'
       go_simp
       with_reducible rfl
      rotate_left
      ·simp only [Act.put, List.setIfInBounds_toArray, List.set_cons_zero, List.set_cons_succ, i64_w, i32_w]
       rfl
      refine pure_ (i := 1) (N := some 23) (v := ?_) (a' := ?_) #[true, true, false, false, false, false, false, false, false, false, false, false, false, false, false, false] rfl rfl (any_of HT_.out (by kernel_rfl)) (fun _ _ _ h => h) (Or.inl ⟨by rfl, ?_⟩) ?_ ?_
      rotate_left
      ·intro w'
       go_simp
       with_reducible rfl
      rotate_left
      ·simp only [Act.put, List.setIfInBounds_toArray, List.set_cons_zero, List.set_cons_succ, i64_w, i32_w]
       rfl
      refine pure_ (i := 2) (N := some 24) (v := ?_) (a' := ?_) #[true, true, true, false, false, false, false, false, false, false, false, false, false, false, false, false] rfl rfl (any_of HT_.out (by kernel_rfl)) (fun _ _ _ h => h) (Or.inl ⟨by rfl, ?_⟩) ?_ ?_
      rotate_left
      ·intro w'
       go_simp
       with_reducible rfl
      rotate_left
      ·simp only [Act.put, List.setIfInBounds_toArray, List.set_cons_zero, List.set_cons_succ, i64_w, i32_w]
       rfl
      refine pure_ (i := 3) (N := some 25) (v := ?_) (a' := ?_) #[true, true, true, true, false, false, false, false, false, false, false, false, false, false, false, false] rfl rfl (any_of HT_.out (by kernel_rfl)) (fun _ _ _ h => h) (Or.inl ⟨by rfl, ?_⟩) ?_ ?_
      rotate_left
      ·intro w'
       go_simp
       with_reducible rfl
      rotate_left
      ·simp only [Act.put, List.setIfInBounds_toArray, List.set_cons_zero, List.set_cons_succ, i64_w, i32_w]
       rfl
      refine pure_ (i := 4) (N := some 26) (v := ?_) (a' := ?_) #[true, true, true, true, true, false, false, false, false, false, false, false, false, false, false, false] rfl rfl (any_of HT_.out (by kernel_rfl)) (fun _ _ _ h => h) (Or.inl ⟨by rfl, ?_⟩) ?_ ?_
      rotate_left
      ·intro w'
       go_simp
       with_reducible rfl
      rotate_left
      ·simp only [Act.put, List.setIfInBounds_toArray, List.set_cons_zero, List.set_cons_succ, i64_w, i32_w]
       rfl
      refine pure_ (i := 5) (N := some 27) (v := ?_) (a' := ?_) #[true, true, true, true, true, true, false, false, false, false, false, false, false, false, false, false] rfl rfl (any_of HT_.out (by kernel_rfl)) (fun _ _ _ h => h) (Or.inl ⟨by rfl, ?_⟩) ?_ ?_
      rotate_left
      ·intro w'
       go_simp
       with_reducible rfl
      rotate_left
      ·simp only [Act.put, List.setIfInBounds_toArray, List.set_cons_zero, List.set_cons_succ, i64_w, i32_w]
       rfl
      refine pure_ (i := 6) (N := some 28) (v := ?_) (a' := ?_) #[true, true, true, true, true, true, true, false, false, false, false, false, false, false, false, false] rfl rfl (any_of HT_.out (by kernel_rfl)) (fun _ _ _ h => h) (Or.inl ⟨by rfl, ?_⟩) ?_ ?_
      rotate_left
      ·intro w'
       go_simp
       with_reducible rfl
      rotate_left
      ·simp only [Act.put, List.setIfInBounds_toArray, List.set_cons_zero, List.set_cons_succ, i64_w, i32_w]
       rfl
      refine pure_ (i := 7) (N := some 29) (v := ?_) (a' := ?_) #[true, true, true, true, true, true, true, true, false, false, false, false, false, false, false, false] rfl rfl (any_of HT_.out (by kernel_rfl)) (fun _ _ _ h => h) (Or.inl ⟨by rfl, ?_⟩) ?_ ?_
      rotate_left
      ·intro w'
       go_simp
       with_reducible rfl
      rotate_left
      ·simp only [Act.put, List.setIfInBounds_toArray, List.set_cons_zero, List.set_cons_succ, i64_w, i32_w]
       rfl
      refine pure_ (i := 8) (N := some 30) (v := ?_) (a' := ?_) #[true, true, true, true, true, true, true, true, true, false, false, false, false, false, false, false] rfl rfl (any_of HT_.out (by kernel_rfl)) (fun _ _ _ h => h) (Or.inl ⟨by rfl, ?_⟩) ?_ ?_
      rotate_left
      ·intro w'
       go_simp
       with_reducible rfl
      rotate_left
      ·simp only [Act.put, List.setIfInBounds_toArray, List.set_cons_zero, List.set_cons_succ, i64_w, i32_w]
       rfl
      refine pure_ (i := 12) (N := some 34) (v := ?_) (a' := ?_) #[true, true, true, true, true, true, true, true, true, false, false, false, true, false, false, false] rfl rfl (any_of HT_.out (by kernel_rfl)) (fun _ _ _ h => h) (Or.inl ⟨by rfl, ?_⟩) ?_ ?_
      rotate_left
      ·intro w'
       go_simp
       with_reducible rfl
      rotate_left
      ·simp only [Act.put, List.setIfInBounds_toArray, List.set_cons_zero, List.set_cons_succ, i64_w, i32_w]
       rfl
      refine take_ (i := 9) (N := some 31) (v := ?_) (a' := ?_) #[true, true, true, true, true, true, true, true, true, true, false, false, true, false, false, false] rfl rfl (take_ofW HT_.out HW_.out (by kernel_rfl)) (fun _ _ _ h => h) (Or.inl ⟨by rfl, ?_⟩) hHeld ?_ ?_
      rotate_left
      ·rintro w' ⟨s0, s1, s2, s3, s4, s5, s6, s7⟩
       go_simp
       with_reducible rfl
      rotate_left
      ·simp only [Act.put, List.setIfInBounds_toArray, List.set_cons_zero, List.set_cons_succ, i64_w, i32_w]
       rfl
      refine take_ (i := 13) (N := some 35) (v := ?_) (a' := ?_) #[true, true, true, true, true, true, true, true, true, true, false, false, true, true, false, false] rfl rfl (take_ofW HT_.out HW_.out (by kernel_rfl)) (fun _ _ _ h => h) (Or.inl ⟨by rfl, ?_⟩) hHeld ?_ ?_
      rotate_left
      ·rintro w' ⟨s0, s1, s2, s3, s4, s5, s6, s7⟩
       go_simp
       with_reducible rfl
      rotate_left
      ·simp only [Act.put, List.setIfInBounds_toArray, List.set_cons_zero, List.set_cons_succ, i64_w, i32_w]
       rfl
      refine one_ (i := 10) (N := some 32) #[true, true, true, true, true, true, true, true, true, true, true, false, true, true, false, false] rfl rfl (one_of HT_.out (by kernel_rfl)) (by decide) (fun K hK => ?_)
      refine goes_ Try.func15 (by kernel_rfl) rfl #[.int .i64 t451] (by rfl) rfl rfl (by (try simp only [List.map_toArray, List.map_cons, List.map_nil]); first | done | rfl | (simp only [List.length_drop, List.length_take]; rfl)) ?_
      with_reducible refine (decode_Name.calls t451 t463 _ A14.out).mono ?_
      rintro e w21 ⟨rfl, hb⟩
      refine ⟨_, rfl, ?_⟩
      have n0_ := Aside0.mk (blk_below (g := gb450) (o := .cells #[.int .i64 a1_0, .int .i64 a1_1, .int .i64 a1_2, .int .i64 a1_3, .int .i64 a1_4, .int .i64 a1_5, .bool a1_6, .bool a1_7] 24 (0, 0)) (by (with_reducible repeat (first | refine blk_drewN ?_ _ | refine blk_drew ?_ | refine blk_alloc ?_ _)); exact BK450.out) hb)
      have n1_ := Aside0.mk (blk_below (g := gb460) (o := .cells #[.int .i64 t451, .int .i64 t452, .int .i64 t453, .int .i64 t454, .int .i64 t455, .int .i64 t456, .bool t457, .bool t458] 24 (0, 0)) (by (with_reducible repeat (first | refine blk_drewN ?_ _ | refine blk_drew ?_ | refine blk_alloc ?_ _)); exact BK460.out) hb)
      have n2_ := Aside0.mk (below_step (by repeat (first | (with_reducible first | exact HB.out | apply below_alloc | apply pw_below_drewN | apply below_drew1 | refine below_set ?_ GE450.out | refine below_set ?_ GE460.out) | exact HB.out)) hb)
      clear BK450
      clear BK460
      clear HB
      have BK450 := n0_
      have BK460 := n1_
      have HB := n2_
      clear n0_ n1_ n2_
      (try clear hb)
      (try clear hb2)
      (try clear hk)
      (try clear hi)
      refine hK.out _ _ ⟨(blk_cell BK460.out 0).trans rfl, (blk_cell BK460.out 1).trans rfl, (blk_cell BK460.out 2).trans rfl, (blk_cell BK460.out 3).trans rfl, (blk_cell BK460.out 4).trans rfl, (blk_cell BK460.out 5).trans rfl, (blk_cell BK460.out 6).trans rfl, (blk_cell BK460.out 7).trans rfl⟩ (fun hHeld => ?_)
      clear hK K
      refine norm_ (a' := ?_) ?_ ?_
      rotate_left
      ·show Act.put _ (some 32) _ = _
       simp only [Act.put, List.setIfInBounds_toArray, List.set_cons_zero, List.set_cons_succ, i64_w, i32_w]
       rfl
      refine one_ (i := 11) (N := some 33) #[true, true, true, true, true, true, true, true, true, true, true, true, true, true, false, false] rfl rfl (one_of HT_.out (by kernel_rfl)) (by decide) (fun K hK => ?_)
      refine goes_ Try.func17 (by kernel_rfl) rfl #[.string t463] (by rfl) rfl rfl (by (try simp only [List.map_toArray, List.map_cons, List.map_nil]); first | done | rfl | (simp only [List.length_drop, List.length_take]; rfl)) ?_
      with_reducible refine (decode_Op.calls k t463 t464 _ A15.out).mono ?_
      rintro e w22 ⟨rfl, hb⟩
      refine ⟨_, rfl, ?_⟩
      have n0_ := Aside0.mk (blk_below (g := gb450) (o := .cells #[.int .i64 a1_0, .int .i64 a1_1, .int .i64 a1_2, .int .i64 a1_3, .int .i64 a1_4, .int .i64 a1_5, .bool a1_6, .bool a1_7] 24 (0, 0)) (by (with_reducible repeat (first | refine blk_drewN ?_ _ | refine blk_drew ?_ | refine blk_alloc ?_ _)); exact BK450.out) hb)
      have n1_ := Aside0.mk (blk_below (g := gb460) (o := .cells #[.int .i64 t451, .int .i64 t452, .int .i64 t453, .int .i64 t454, .int .i64 t455, .int .i64 t456, .bool t457, .bool t458] 24 (0, 0)) (by (with_reducible repeat (first | refine blk_drewN ?_ _ | refine blk_drew ?_ | refine blk_alloc ?_ _)); exact BK460.out) hb)
      have n2_ := Aside0.mk (below_step (by repeat (first | (with_reducible first | exact HB.out | apply below_alloc | apply pw_below_drewN | apply below_drew1 | refine below_set ?_ GE450.out | refine below_set ?_ GE460.out) | exact HB.out)) hb)
      clear BK450
      clear BK460
      clear HB
      have BK450 := n0_
      have BK460 := n1_
      have HB := n2_
      clear n0_ n1_ n2_
      (try clear hb)
      (try clear hb2)
      (try clear hk)
      (try clear hi)
      refine hK.out _ _ ⟨(blk_cell BK460.out 0).trans rfl, (blk_cell BK460.out 1).trans rfl, (blk_cell BK460.out 2).trans rfl, (blk_cell BK460.out 3).trans rfl, (blk_cell BK460.out 4).trans rfl, (blk_cell BK460.out 5).trans rfl, (blk_cell BK460.out 6).trans rfl, (blk_cell BK460.out 7).trans rfl⟩ (fun hHeld => ?_)
      clear hK K
      refine norm_ (a' := ?_) ?_ ?_
      rotate_left
      ·show Act.put _ (some 33) _ = _
       simp only [Act.put, List.setIfInBounds_toArray, List.set_cons_zero, List.set_cons_succ, i64_w, i32_w]
       rfl
      refine pure_ (i := 14) (N := some 36) (v := ?_) (a' := ?_) #[true, true, true, true, true, true, true, true, true, true, true, true, true, true, true, false] rfl rfl (any_of HT_.out (by kernel_rfl)) (fun _ _ _ h => h) (Or.inl ⟨by rfl, ?_⟩) ?_ ?_
      rotate_left
      ·intro w'
       go_simp
       with_reducible rfl
      rotate_left
      ·simp only [Act.put, List.setIfInBounds_toArray, List.set_cons_zero, List.set_cons_succ, i64_w, i32_w]
       rfl
      refine pure_ (i := 15) (N := some 37) (v := ?_) (a' := ?_) #[true, true, true, true, true, true, true, true, true, true, true, true, true, true, true, true] rfl rfl (any_of HT_.out (by kernel_rfl)) (fun _ _ _ h => h) (Or.inl ⟨by rfl, ?_⟩) ?_ ?_
      rotate_left
      ·intro w'
       go_simp
       with_reducible rfl
      rotate_left
      ·simp only [Act.put, List.setIfInBounds_toArray, List.set_cons_zero, List.set_cons_succ, i64_w, i32_w]
       rfl
      refine done_ (done_of HT_.out (by kernel_rfl)) ?_
      try go_wp2
      go_meet
      case rel => exact ⟨_, H', ⟨by first | omega | exact Nat.le_refl _⟩, ⟨by (with_reducible repeat (first | refine blk_drewN ?_ _ | refine blk_drew ?_ | refine blk_alloc ?_ _)); exact BK450.out⟩, ⟨by (with_reducible repeat (first | refine blk_drewN ?_ _ | refine blk_drew ?_ | refine blk_alloc ?_ _)); exact BK460.out⟩, ⟨by repeat (first | (with_reducible first | exact HB.out | apply below_alloc | apply pw_below_drewN | apply below_drew1 | refine below_set ?_ GE450.out | refine below_set ?_ GE460.out) | exact HB.out)⟩⟩
     ·rw [if_neg c16] at H
      have c16b0 : (t464 == t451) = false := beq_eq_false_iff_ne.mpr c16
      have c16b1 : (t464 != t451) = true := bne_iff_ne.mpr c16
      obtain rfl := Option.some.inj H
      have hnb23 := NB460_450.out
      have hnc23 := NB450_460.out
      have hcz24_0 : w7.cell? ⟨gb460, 0, none⟩ = some (.int .i64 0) := (blk_cell BK460.out 0).trans rfl
      have hcz24_1 : w7.cell? ⟨gb460, 1, none⟩ = some (.int .i64 0) := (blk_cell BK460.out 1).trans rfl
      have hcz24_2 : w7.cell? ⟨gb460, 2, none⟩ = some (.int .i64 0) := (blk_cell BK460.out 2).trans rfl
      have hcz24_3 : w7.cell? ⟨gb460, 3, none⟩ = some (.int .i64 0) := (blk_cell BK460.out 3).trans rfl
      have hcz24_4 : w7.cell? ⟨gb460, 4, none⟩ = some (.int .i64 0) := (blk_cell BK460.out 4).trans rfl
      have hcz24_5 : w7.cell? ⟨gb460, 5, none⟩ = some (.int .i64 0) := (blk_cell BK460.out 5).trans rfl
      have hcz24_6 : w7.cell? ⟨gb460, 6, none⟩ = some (.bool false) := (blk_cell BK460.out 6).trans rfl
      have hcz24_7 : w7.cell? ⟨gb460, 7, none⟩ = some (.bool false) := (blk_cell BK460.out 7).trans rfl
      have hfz24_0 := blk_frozen BK460.out 0
      have hfz24_1 := blk_frozen BK460.out 1
      have hfz24_2 := blk_frozen BK460.out 2
      have hfz24_3 := blk_frozen BK460.out 3
      have hfz24_4 := blk_frozen BK460.out 4
      have hfz24_5 := blk_frozen BK460.out 5
      have hfz24_6 := blk_frozen BK460.out 6
      have hfz24_7 := blk_frozen BK460.out 7
      try go_wp2_with (first | ((with_reducible refine gate_callee (f := 13) rfl ?_); refine goesL_ (some 19) rfl rfl Try.func13 (by kernel_rfl) rfl #[.agg #[.int .i64 t451, .int .i64 t452, .int .i64 t453, .int .i64 t454, .int .i64 t455, .int .i64 t456, .bool t457, .bool t458]] rfl (by (try simp only [List.map_toArray, List.map_cons, List.map_nil]); first | done | rfl | (simp only [List.length_drop, List.length_take]; rfl)) ?_; (with_reducible refine (decode_Encode.calls k t451 t452 t453 t454 t455 t456 t457 t458 t461 t462 _ A11.out).mono ?_); rintro e w25 ⟨rfl, hb⟩; refine ⟨_, rfl, ?_⟩; have n0_ := Aside0.mk (blk_below (g := gb450) (o := .cells #[.int .i64 a1_0, .int .i64 a1_1, .int .i64 a1_2, .int .i64 a1_3, .int .i64 a1_4, .int .i64 a1_5, .bool a1_6, .bool a1_7] 24 (0, 0)) (by (with_reducible repeat (first | refine blk_drewN ?_ _ | refine blk_drew ?_ | refine blk_alloc ?_ _)); refine blk_far ?_ NB450_460.out _; (with_reducible repeat (first | refine blk_drewN ?_ _ | refine blk_drew ?_ | refine blk_alloc ?_ _)); refine blk_far ?_ NB450_460.out _; (with_reducible repeat (first | refine blk_drewN ?_ _ | refine blk_drew ?_ | refine blk_alloc ?_ _)); refine blk_far ?_ NB450_460.out _; (with_reducible repeat (first | refine blk_drewN ?_ _ | refine blk_drew ?_ | refine blk_alloc ?_ _)); refine blk_far ?_ NB450_460.out _; (with_reducible repeat (first | refine blk_drewN ?_ _ | refine blk_drew ?_ | refine blk_alloc ?_ _)); refine blk_far ?_ NB450_460.out _; (with_reducible repeat (first | refine blk_drewN ?_ _ | refine blk_drew ?_ | refine blk_alloc ?_ _)); refine blk_far ?_ NB450_460.out _; (with_reducible repeat (first | refine blk_drewN ?_ _ | refine blk_drew ?_ | refine blk_alloc ?_ _)); refine blk_far ?_ NB450_460.out _; (with_reducible repeat (first | refine blk_drewN ?_ _ | refine blk_drew ?_ | refine blk_alloc ?_ _)); refine blk_far ?_ NB450_460.out _; (with_reducible repeat (first | refine blk_drewN ?_ _ | refine blk_drew ?_ | refine blk_alloc ?_ _)); exact BK450.out) hb); have n1_ := Aside0.mk (blk_below (g := gb460) (o := .cells #[.int .i64 t451, .int .i64 t452, .int .i64 t453, .int .i64 t454, .int .i64 t455, .int .i64 t456, .bool t457, .bool t458] 24 (0, 0)) (by (with_reducible repeat (first | refine blk_drewN ?_ _ | refine blk_drew ?_ | refine blk_alloc ?_ _)); refine blk_put (cs := #[.int .i64 t451, .int .i64 t452, .int .i64 t453, .int .i64 t454, .int .i64 t455, .int .i64 t456, .bool t457, .bool false]) ?_ 7 _ rfl; (with_reducible repeat (first | refine blk_drewN ?_ _ | refine blk_drew ?_ | refine blk_alloc ?_ _)); refine blk_put (cs := #[.int .i64 t451, .int .i64 t452, .int .i64 t453, .int .i64 t454, .int .i64 t455, .int .i64 t456, .bool false, .bool false]) ?_ 6 _ rfl; (with_reducible repeat (first | refine blk_drewN ?_ _ | refine blk_drew ?_ | refine blk_alloc ?_ _)); refine blk_put (cs := #[.int .i64 t451, .int .i64 t452, .int .i64 t453, .int .i64 t454, .int .i64 t455, .int .i64 0, .bool false, .bool false]) ?_ 5 _ rfl; (with_reducible repeat (first | refine blk_drewN ?_ _ | refine blk_drew ?_ | refine blk_alloc ?_ _)); refine blk_put (cs := #[.int .i64 t451, .int .i64 t452, .int .i64 t453, .int .i64 t454, .int .i64 0, .int .i64 0, .bool false, .bool false]) ?_ 4 _ rfl; (with_reducible repeat (first | refine blk_drewN ?_ _ | refine blk_drew ?_ | refine blk_alloc ?_ _)); refine blk_put (cs := #[.int .i64 t451, .int .i64 t452, .int .i64 t453, .int .i64 0, .int .i64 0, .int .i64 0, .bool false, .bool false]) ?_ 3 _ rfl; (with_reducible repeat (first | refine blk_drewN ?_ _ | refine blk_drew ?_ | refine blk_alloc ?_ _)); refine blk_put (cs := #[.int .i64 t451, .int .i64 t452, .int .i64 0, .int .i64 0, .int .i64 0, .int .i64 0, .bool false, .bool false]) ?_ 2 _ rfl; (with_reducible repeat (first | refine blk_drewN ?_ _ | refine blk_drew ?_ | refine blk_alloc ?_ _)); refine blk_put (cs := #[.int .i64 t451, .int .i64 0, .int .i64 0, .int .i64 0, .int .i64 0, .int .i64 0, .bool false, .bool false]) ?_ 1 _ rfl; (with_reducible repeat (first | refine blk_drewN ?_ _ | refine blk_drew ?_ | refine blk_alloc ?_ _)); refine blk_put (cs := #[.int .i64 0, .int .i64 0, .int .i64 0, .int .i64 0, .int .i64 0, .int .i64 0, .bool false, .bool false]) ?_ 0 _ rfl; (with_reducible repeat (first | refine blk_drewN ?_ _ | refine blk_drew ?_ | refine blk_alloc ?_ _)); exact BK460.out) hb); have n2_ := Aside0.mk (below_step (by repeat (first | (with_reducible first | exact HB.out | apply below_alloc | apply pw_below_drewN | apply below_drew1 | refine below_set ?_ GE450.out | refine below_set ?_ GE460.out) | exact HB.out)) hb); clear BK450; clear BK460; clear HB; have BK450 := n0_; have BK460 := n1_; have HB := n2_; clear n0_ n1_ n2_; (try clear hb); (try clear hb2); (try clear hk); (try clear hi)))
      have n0_ := Aside0.mk (blk_drew BK450.out)
      have n1_ := Aside0.mk (blk_drew BK460.out)
      have n2_ := Aside0.mk (below_drew1 HB.out)
      clear BK450
      clear BK460
      clear HB
      have BK450 := n0_
      have BK460 := n1_
      have HB := n2_
      clear n0_ n1_ n2_
      refine start_ (n := 16) (S := fun w' => w'.cell? ⟨gb460, 0, none⟩ = some (.int .i64 t451) ∧ w'.cell? ⟨gb460, 1, none⟩ = some (.int .i64 t452) ∧ w'.cell? ⟨gb460, 2, none⟩ = some (.int .i64 t453) ∧ w'.cell? ⟨gb460, 3, none⟩ = some (.int .i64 t454) ∧ w'.cell? ⟨gb460, 4, none⟩ = some (.int .i64 t455) ∧ w'.cell? ⟨gb460, 5, none⟩ = some (.int .i64 t456) ∧ w'.cell? ⟨gb460, 6, none⟩ = some (.bool t457) ∧ w'.cell? ⟨gb460, 7, none⟩ = some (.bool t458)) (ds := []) #[false, false, false, false, false, false, false, false, false, false, false, false, false, false, false, false] (by kernel_rfl) rfl rfl ⟨(blk_cell BK460.out 0).trans rfl, (blk_cell BK460.out 1).trans rfl, (blk_cell BK460.out 2).trans rfl, (blk_cell BK460.out 3).trans rfl, (blk_cell BK460.out 4).trans rfl, (blk_cell BK460.out 5).trans rfl, (blk_cell BK460.out 6).trans rfl, (blk_cell BK460.out 7).trans rfl⟩ (fun hHeld => ?_); refine with_tabW mezzaninelaw09_DecodeBack.tab4 mezzaninelaw09_DecodeBack.bits4 (fun HT_ HW_ => ?_)
      generalize w25.drew = w26 at BK450 BK460 HB hHeld ⊢
      refine pure_ (i := 0) (N := some 22) (v := ?_) (a' := ?_) #[true, false, false, false, false, false, false, false, false, false, false, false, false, false, false, false] rfl rfl (any_of HT_.out (by kernel_rfl)) (fun _ _ _ h => h) (Or.inl ⟨by rfl, ?_⟩) ?_ ?_
      rotate_left
      ·intro w'
       go_simp
       with_reducible rfl
      rotate_left
      ·simp only [Act.put, List.setIfInBounds_toArray, List.set_cons_zero, List.set_cons_succ, i64_w, i32_w]
       rfl
      refine pure_ (i := 1) (N := some 23) (v := ?_) (a' := ?_) #[true, true, false, false, false, false, false, false, false, false, false, false, false, false, false, false] rfl rfl (any_of HT_.out (by kernel_rfl)) (fun _ _ _ h => h) (Or.inl ⟨by rfl, ?_⟩) ?_ ?_
      rotate_left
      ·intro w'
       go_simp
       with_reducible rfl
      rotate_left
      ·simp only [Act.put, List.setIfInBounds_toArray, List.set_cons_zero, List.set_cons_succ, i64_w, i32_w]
       rfl
      refine pure_ (i := 2) (N := some 24) (v := ?_) (a' := ?_) #[true, true, true, false, false, false, false, false, false, false, false, false, false, false, false, false] rfl rfl (any_of HT_.out (by kernel_rfl)) (fun _ _ _ h => h) (Or.inl ⟨by rfl, ?_⟩) ?_ ?_
      rotate_left
      ·intro w'
       go_simp
       with_reducible rfl
      rotate_left
      ·simp only [Act.put, List.setIfInBounds_toArray, List.set_cons_zero, List.set_cons_succ, i64_w, i32_w]
       rfl
      refine pure_ (i := 3) (N := some 25) (v := ?_) (a' := ?_) #[true, true, true, true, false, false, false, false, false, false, false, false, false, false, false, false] rfl rfl (any_of HT_.out (by kernel_rfl)) (fun _ _ _ h => h) (Or.inl ⟨by rfl, ?_⟩) ?_ ?_
      rotate_left
      ·intro w'
       go_simp
       with_reducible rfl
      rotate_left
      ·simp only [Act.put, List.setIfInBounds_toArray, List.set_cons_zero, List.set_cons_succ, i64_w, i32_w]
       rfl
      refine pure_ (i := 4) (N := some 26) (v := ?_) (a' := ?_) #[true, true, true, true, true, false, false, false, false, false, false, false, false, false, false, false] rfl rfl (any_of HT_.out (by kernel_rfl)) (fun _ _ _ h => h) (Or.inl ⟨by rfl, ?_⟩) ?_ ?_
      rotate_left
      ·intro w'
       go_simp
       with_reducible rfl
      rotate_left
      ·simp only [Act.put, List.setIfInBounds_toArray, List.set_cons_zero, List.set_cons_succ, i64_w, i32_w]
       rfl
      refine pure_ (i := 5) (N := some 27) (v := ?_) (a' := ?_) #[true, true, true, true, true, true, false, false, false, false, false, false, false, false, false, false] rfl rfl (any_of HT_.out (by kernel_rfl)) (fun _ _ _ h => h) (Or.inl ⟨by rfl, ?_⟩) ?_ ?_
      rotate_left
      ·intro w'
       go_simp
       with_reducible rfl
      rotate_left
      ·simp only [Act.put, List.setIfInBounds_toArray, List.set_cons_zero, List.set_cons_succ, i64_w, i32_w]
       rfl
      refine pure_ (i := 6) (N := some 28) (v := ?_) (a' := ?_) #[true, true, true, true, true, true, true, false, false, false, false, false, false, false, false, false] rfl rfl (any_of HT_.out (by kernel_rfl)) (fun _ _ _ h => h) (Or.inl ⟨by rfl, ?_⟩) ?_ ?_
      rotate_left
      ·intro w'
       go_simp
       with_reducible rfl
      rotate_left
      ·simp only [Act.put, List.setIfInBounds_toArray, List.set_cons_zero, List.set_cons_succ, i64_w, i32_w]
       rfl
      refine pure_ (i := 7) (N := some 29) (v := ?_) (a' := ?_) #[true, true, true, true, true, true, true, true, false, false, false, false, false, false, false, false] rfl rfl (any_of HT_.out (by kernel_rfl)) (fun _ _ _ h => h) (Or.inl ⟨by rfl, ?_⟩) ?_ ?_
      rotate_left
      ·intro w'
       go_simp
       with_reducible rfl
      rotate_left
      ·simp only [Act.put, List.setIfInBounds_toArray, List.set_cons_zero, List.set_cons_succ, i64_w, i32_w]
       rfl
      refine pure_ (i := 8) (N := some 30) (v := ?_) (a' := ?_) #[true, true, true, true, true, true, true, true, true, false, false, false, false, false, false, false] rfl rfl (any_of HT_.out (by kernel_rfl)) (fun _ _ _ h => h) (Or.inl ⟨by rfl, ?_⟩) ?_ ?_
      rotate_left
      ·intro w'
       go_simp
       with_reducible rfl
      rotate_left
      ·simp only [Act.put, List.setIfInBounds_toArray, List.set_cons_zero, List.set_cons_succ, i64_w, i32_w]
       rfl
      refine pure_ (i := 12) (N := some 34) (v := ?_) (a' := ?_) #[true, true, true, true, true, true, true, true, true, false, false, false, true, false, false, false] rfl rfl (any_of HT_.out (by kernel_rfl)) (fun _ _ _ h => h) (Or.inl ⟨by rfl, ?_⟩) ?_ ?_
      rotate_left
      ·intro w'
       go_simp
       with_reducible rfl
      rotate_left
      ·simp only [Act.put, List.setIfInBounds_toArray, List.set_cons_zero, List.set_cons_succ, i64_w, i32_w]
       rfl
      refine take_ (i := 9) (N := some 31) (v := ?_) (a' := ?_) #[true, true, true, true, true, true, true, true, true, true, false, false, true, false, false, false] rfl rfl (take_ofW HT_.out HW_.out (by kernel_rfl)) (fun _ _ _ h => h) (Or.inl ⟨by rfl, ?_⟩) hHeld ?_ ?_
      rotate_left
      ·rintro w' ⟨s0, s1, s2, s3, s4, s5, s6, s7⟩
       go_simp
       with_reducible rfl
      rotate_left
      ·simp only [Act.put, List.setIfInBounds_toArray, List.set_cons_zero, List.set_cons_succ, i64_w, i32_w]
       rfl
      refine take_ (i := 13) (N := some 35) (v := ?_) (a' := ?_) #[true, true, true, true, true, true, true, true, true, true, false, false, true, true, false, false] rfl rfl (take_ofW HT_.out HW_.out (by kernel_rfl)) (fun _ _ _ h => h) (Or.inl ⟨by rfl, ?_⟩) hHeld ?_ ?_
      rotate_left
      ·rintro w' ⟨s0, s1, s2, s3, s4, s5, s6, s7⟩
       go_simp
       with_reducible rfl
      rotate_left
      ·simp only [Act.put, List.setIfInBounds_toArray, List.set_cons_zero, List.set_cons_succ, i64_w, i32_w]
       rfl
      refine one_ (i := 10) (N := some 32) #[true, true, true, true, true, true, true, true, true, true, true, false, true, true, false, false] rfl rfl (one_of HT_.out (by kernel_rfl)) (by decide) (fun K hK => ?_)
      refine goes_ Try.func15 (by kernel_rfl) rfl #[.int .i64 t451] (by rfl) rfl rfl (by (try simp only [List.map_toArray, List.map_cons, List.map_nil]); first | done | rfl | (simp only [List.length_drop, List.length_take]; rfl)) ?_
      with_reducible refine (decode_Name.calls t451 t463 _ A14.out).mono ?_
      rintro e w27 ⟨rfl, hb⟩
      refine ⟨_, rfl, ?_⟩
      have n0_ := Aside0.mk (blk_below (g := gb450) (o := .cells #[.int .i64 a1_0, .int .i64 a1_1, .int .i64 a1_2, .int .i64 a1_3, .int .i64 a1_4, .int .i64 a1_5, .bool a1_6, .bool a1_7] 24 (0, 0)) (by (with_reducible repeat (first | refine blk_drewN ?_ _ | refine blk_drew ?_ | refine blk_alloc ?_ _)); exact BK450.out) hb)
      have n1_ := Aside0.mk (blk_below (g := gb460) (o := .cells #[.int .i64 t451, .int .i64 t452, .int .i64 t453, .int .i64 t454, .int .i64 t455, .int .i64 t456, .bool t457, .bool t458] 24 (0, 0)) (by (with_reducible repeat (first | refine blk_drewN ?_ _ | refine blk_drew ?_ | refine blk_alloc ?_ _)); exact BK460.out) hb)
      have n2_ := Aside0.mk (below_step (by repeat (first | (with_reducible first | exact HB.out | apply below_alloc | apply pw_below_drewN | apply below_drew1 | refine below_set ?_ GE450.out | refine below_set ?_ GE460.out) | exact HB.out)) hb)
      clear BK450
      clear BK460
      clear HB
      have BK450 := n0_
      have BK460 := n1_
      have HB := n2_
      clear n0_ n1_ n2_
      (try clear hb)
      (try clear hb2)
      (try clear hk)
      (try clear hi)
      refine hK.out _ _ ⟨(blk_cell BK460.out 0).trans rfl, (blk_cell BK460.out 1).trans rfl, (blk_cell BK460.out 2).trans rfl, (blk_cell BK460.out 3).trans rfl, (blk_cell BK460.out 4).trans rfl, (blk_cell BK460.out 5).trans rfl, (blk_cell BK460.out 6).trans rfl, (blk_cell BK460.out 7).trans rfl⟩ (fun hHeld => ?_)
      clear hK K
      refine norm_ (a' := ?_) ?_ ?_
      rotate_left
      ·show Act.put _ (some 32) _ = _
       simp only [Act.put, List.setIfInBounds_toArray, List.set_cons_zero, List.set_cons_succ, i64_w, i32_w]
       rfl
      refine one_ (i := 11) (N := some 33) #[true, true, true, true, true, true, true, true, true, true, true, true, true, true, false, false] rfl rfl (one_of HT_.out (by kernel_rfl)) (by decide) (fun K hK => ?_)
      refine goes_ Try.func17 (by kernel_rfl) rfl #[.string t463] (by rfl) rfl rfl (by (try simp only [List.map_toArray, List.map_cons, List.map_nil]); first | done | rfl | (simp only [List.length_drop, List.length_take]; rfl)) ?_
      with_reducible refine (decode_Op.calls k t463 t464 _ A15.out).mono ?_
      rintro e w28 ⟨rfl, hb⟩
      refine ⟨_, rfl, ?_⟩
      have n0_ := Aside0.mk (blk_below (g := gb450) (o := .cells #[.int .i64 a1_0, .int .i64 a1_1, .int .i64 a1_2, .int .i64 a1_3, .int .i64 a1_4, .int .i64 a1_5, .bool a1_6, .bool a1_7] 24 (0, 0)) (by (with_reducible repeat (first | refine blk_drewN ?_ _ | refine blk_drew ?_ | refine blk_alloc ?_ _)); exact BK450.out) hb)
      have n1_ := Aside0.mk (blk_below (g := gb460) (o := .cells #[.int .i64 t451, .int .i64 t452, .int .i64 t453, .int .i64 t454, .int .i64 t455, .int .i64 t456, .bool t457, .bool t458] 24 (0, 0)) (by (with_reducible repeat (first | refine blk_drewN ?_ _ | refine blk_drew ?_ | refine blk_alloc ?_ _)); exact BK460.out) hb)
      have n2_ := Aside0.mk (below_step (by repeat (first | (with_reducible first | exact HB.out | apply below_alloc | apply pw_below_drewN | apply below_drew1 | refine below_set ?_ GE450.out | refine below_set ?_ GE460.out) | exact HB.out)) hb)
      clear BK450
      clear BK460
      clear HB
      have BK450 := n0_
      have BK460 := n1_
      have HB := n2_
      clear n0_ n1_ n2_
      (try clear hb)
      (try clear hb2)
      (try clear hk)
      (try clear hi)
      refine hK.out _ _ ⟨(blk_cell BK460.out 0).trans rfl, (blk_cell BK460.out 1).trans rfl, (blk_cell BK460.out 2).trans rfl, (blk_cell BK460.out 3).trans rfl, (blk_cell BK460.out 4).trans rfl, (blk_cell BK460.out 5).trans rfl, (blk_cell BK460.out 6).trans rfl, (blk_cell BK460.out 7).trans rfl⟩ (fun hHeld => ?_)
      clear hK K
      refine norm_ (a' := ?_) ?_ ?_
      rotate_left
      ·show Act.put _ (some 33) _ = _
       simp only [Act.put, List.setIfInBounds_toArray, List.set_cons_zero, List.set_cons_succ, i64_w, i32_w]
       rfl
      refine pure_ (i := 14) (N := some 36) (v := ?_) (a' := ?_) #[true, true, true, true, true, true, true, true, true, true, true, true, true, true, true, false] rfl rfl (any_of HT_.out (by kernel_rfl)) (fun _ _ _ h => h) (Or.inl ⟨by rfl, ?_⟩) ?_ ?_
      rotate_left
      ·intro w'
       go_simp
       with_reducible rfl
      rotate_left
      ·simp only [Act.put, List.setIfInBounds_toArray, List.set_cons_zero, List.set_cons_succ, i64_w, i32_w]
       rfl
      refine pure_ (i := 15) (N := some 37) (v := ?_) (a' := ?_) #[true, true, true, true, true, true, true, true, true, true, true, true, true, true, true, true] rfl rfl (any_of HT_.out (by kernel_rfl)) (fun _ _ _ h => h) (Or.inl ⟨by rfl, ?_⟩) ?_ ?_
      rotate_left
      ·intro w'
       go_simp
       with_reducible rfl
      rotate_left
      ·simp only [Act.put, List.setIfInBounds_toArray, List.set_cons_zero, List.set_cons_succ, i64_w, i32_w]
       rfl
      refine done_ (done_of HT_.out (by kernel_rfl)) ?_
      try go_wp2
      go_ret
      exact ⟨by first | rfl | (simp [errW_none, errW_some] <;> rfl) | (simp [*, errW_none, errW_some] <;> rfl), by repeat (first | (with_reducible first | exact HB.out | apply below_alloc | apply pw_below_drewN | apply below_drew1 | refine below_set ?_ GE450.out | refine below_set ?_ GE460.out) | exact HB.out)⟩
    ·rw [if_neg c13] at H
     have c13b0 : (t461 == a0) = false := beq_eq_false_iff_ne.mpr c13
     have c13b1 : (t461 != a0) = true := bne_iff_ne.mpr c13
     obtain rfl := Option.some.inj H
     have hnb29 := NB460_450.out
     have hnc29 := NB450_460.out
     have hcz30_0 : w7.cell? ⟨gb460, 0, none⟩ = some (.int .i64 0) := (blk_cell BK460.out 0).trans rfl
     have hcz30_1 : w7.cell? ⟨gb460, 1, none⟩ = some (.int .i64 0) := (blk_cell BK460.out 1).trans rfl
     have hcz30_2 : w7.cell? ⟨gb460, 2, none⟩ = some (.int .i64 0) := (blk_cell BK460.out 2).trans rfl
     have hcz30_3 : w7.cell? ⟨gb460, 3, none⟩ = some (.int .i64 0) := (blk_cell BK460.out 3).trans rfl
     have hcz30_4 : w7.cell? ⟨gb460, 4, none⟩ = some (.int .i64 0) := (blk_cell BK460.out 4).trans rfl
     have hcz30_5 : w7.cell? ⟨gb460, 5, none⟩ = some (.int .i64 0) := (blk_cell BK460.out 5).trans rfl
     have hcz30_6 : w7.cell? ⟨gb460, 6, none⟩ = some (.bool false) := (blk_cell BK460.out 6).trans rfl
     have hcz30_7 : w7.cell? ⟨gb460, 7, none⟩ = some (.bool false) := (blk_cell BK460.out 7).trans rfl
     have hfz30_0 := blk_frozen BK460.out 0
     have hfz30_1 := blk_frozen BK460.out 1
     have hfz30_2 := blk_frozen BK460.out 2
     have hfz30_3 := blk_frozen BK460.out 3
     have hfz30_4 := blk_frozen BK460.out 4
     have hfz30_5 := blk_frozen BK460.out 5
     have hfz30_6 := blk_frozen BK460.out 6
     have hfz30_7 := blk_frozen BK460.out 7
     try go_wp2_with (first | ((with_reducible refine gate_callee (f := 13) rfl ?_); refine goesL_ (some 19) rfl rfl Try.func13 (by kernel_rfl) rfl #[.agg #[.int .i64 t451, .int .i64 t452, .int .i64 t453, .int .i64 t454, .int .i64 t455, .int .i64 t456, .bool t457, .bool t458]] rfl (by (try simp only [List.map_toArray, List.map_cons, List.map_nil]); first | done | rfl | (simp only [List.length_drop, List.length_take]; rfl)) ?_; (with_reducible refine (decode_Encode.calls k t451 t452 t453 t454 t455 t456 t457 t458 t461 t462 _ A11.out).mono ?_); rintro e w31 ⟨rfl, hb⟩; refine ⟨_, rfl, ?_⟩; have n0_ := Aside0.mk (blk_below (g := gb450) (o := .cells #[.int .i64 a1_0, .int .i64 a1_1, .int .i64 a1_2, .int .i64 a1_3, .int .i64 a1_4, .int .i64 a1_5, .bool a1_6, .bool a1_7] 24 (0, 0)) (by (with_reducible repeat (first | refine blk_drewN ?_ _ | refine blk_drew ?_ | refine blk_alloc ?_ _)); refine blk_far ?_ NB450_460.out _; (with_reducible repeat (first | refine blk_drewN ?_ _ | refine blk_drew ?_ | refine blk_alloc ?_ _)); refine blk_far ?_ NB450_460.out _; (with_reducible repeat (first | refine blk_drewN ?_ _ | refine blk_drew ?_ | refine blk_alloc ?_ _)); refine blk_far ?_ NB450_460.out _; (with_reducible repeat (first | refine blk_drewN ?_ _ | refine blk_drew ?_ | refine blk_alloc ?_ _)); refine blk_far ?_ NB450_460.out _; (with_reducible repeat (first | refine blk_drewN ?_ _ | refine blk_drew ?_ | refine blk_alloc ?_ _)); refine blk_far ?_ NB450_460.out _; (with_reducible repeat (first | refine blk_drewN ?_ _ | refine blk_drew ?_ | refine blk_alloc ?_ _)); refine blk_far ?_ NB450_460.out _; (with_reducible repeat (first | refine blk_drewN ?_ _ | refine blk_drew ?_ | refine blk_alloc ?_ _)); refine blk_far ?_ NB450_460.out _; (with_reducible repeat (first | refine blk_drewN ?_ _ | refine blk_drew ?_ | refine blk_alloc ?_ _)); refine blk_far ?_ NB450_460.out _; (with_reducible repeat (first | refine blk_drewN ?_ _ | refine blk_drew ?_ | refine blk_alloc ?_ _)); exact BK450.out) hb); have n1_ := Aside0.mk (blk_below (g := gb460) (o := .cells #[.int .i64 t451, .int .i64 t452, .int .i64 t453, .int .i64 t454, .int .i64 t455, .int .i64 t456, .bool t457, .bool t458] 24 (0, 0)) (by (with_reducible repeat (first | refine blk_drewN ?_ _ | refine blk_drew ?_ | refine blk_alloc ?_ _)); refine blk_put (cs := #[.int .i64 t451, .int .i64 t452, .int .i64 t453, .int .i64 t454, .int .i64 t455, .int .i64 t456, .bool t457, .bool false]) ?_ 7 _ rfl; (with_reducible repeat (first | refine blk_drewN ?_ _ | refine blk_drew ?_ | refine blk_alloc ?_ _)); refine blk_put (cs := #[.int .i64 t451, .int .i64 t452, .int .i64 t453, .int .i64 t454, .int .i64 t455, .int .i64 t456, .bool false, .bool false]) ?_ 6 _ rfl; (with_reducible repeat (first | refine blk_drewN ?_ _ | refine blk_drew ?_ | refine blk_alloc ?_ _)); refine blk_put (cs := #[.int .i64 t451, .int .i64 t452, .int .i64 t453, .int .i64 t454, .int .i64 t455, .int .i64 0, .bool false, .bool false]) ?_ 5 _ rfl; (with_reducible repeat (first | refine blk_drewN ?_ _ | refine blk_drew ?_ | refine blk_alloc ?_ _)); refine blk_put (cs := #[.int .i64 t451, .int .i64 t452, .int .i64 t453, .int .i64 t454, .int .i64 0, .int .i64 0, .bool false, .bool false]) ?_ 4 _ rfl; (with_reducible repeat (first | refine blk_drewN ?_ _ | refine blk_drew ?_ | refine blk_alloc ?_ _)); refine blk_put (cs := #[.int .i64 t451, .int .i64 t452, .int .i64 t453, .int .i64 0, .int .i64 0, .int .i64 0, .bool false, .bool false]) ?_ 3 _ rfl; (with_reducible repeat (first | refine blk_drewN ?_ _ | refine blk_drew ?_ | refine blk_alloc ?_ _)); refine blk_put (cs := #[.int .i64 t451, .int .i64 t452, .int .i64 0, .int .i64 0, .int .i64 0, .int .i64 0, .bool false, .bool false]) ?_ 2 _ rfl; (with_reducible repeat (first | refine blk_drewN ?_ _ | refine blk_drew ?_ | refine blk_alloc ?_ _)); refine blk_put (cs := #[.int .i64 t451, .int .i64 0, .int .i64 0, .int .i64 0, .int .i64 0, .int .i64 0, .bool false, .bool false]) ?_ 1 _ rfl; (with_reducible repeat (first | refine blk_drewN ?_ _ | refine blk_drew ?_ | refine blk_alloc ?_ _)); refine blk_put (cs := #[.int .i64 0, .int .i64 0, .int .i64 0, .int .i64 0, .int .i64 0, .int .i64 0, .bool false, .bool false]) ?_ 0 _ rfl; (with_reducible repeat (first | refine blk_drewN ?_ _ | refine blk_drew ?_ | refine blk_alloc ?_ _)); exact BK460.out) hb); have n2_ := Aside0.mk (below_step (by repeat (first | (with_reducible first | exact HB.out | apply below_alloc | apply pw_below_drewN | apply below_drew1 | refine below_set ?_ GE450.out | refine below_set ?_ GE460.out) | exact HB.out)) hb); clear BK450; clear BK460; clear HB; have BK450 := n0_; have BK460 := n1_; have HB := n2_; clear n0_ n1_ n2_; (try clear hb); (try clear hb2); (try clear hk); (try clear hi)))
     have n0_ := Aside0.mk (blk_drew BK450.out)
     have n1_ := Aside0.mk (blk_drew BK460.out)
     have n2_ := Aside0.mk (below_drew1 HB.out)
     clear BK450
     clear BK460
     clear HB
     have BK450 := n0_
     have BK460 := n1_
     have HB := n2_
     clear n0_ n1_ n2_
     refine start_ (n := 16) (S := fun w' => True) (ds := []) #[false, false, false, false, false, false, false, false, false, false, false, false, false, false, false, false] (by kernel_rfl) rfl rfl trivial (fun hHeld => ?_); refine with_tabW mezzaninelaw09_DecodeBack.tab4 mezzaninelaw09_DecodeBack.bits4 (fun HT_ HW_ => ?_)
     generalize w31.drew = w32 at BK450 BK460 HB hHeld ⊢
     refine pure_ (i := 0) (N := some 22) (v := ?_) (a' := ?_) #[true, false, false, false, false, false, false, false, false, false, false, false, false, false, false, false] rfl rfl (any_of HT_.out (by kernel_rfl)) (fun _ _ _ h => h) (Or.inl ⟨by rfl, ?_⟩) ?_ ?_
     rotate_left
     ·intro w'
      go_simp
      with_reducible rfl
     rotate_left
     ·simp only [Act.put, List.setIfInBounds_toArray, List.set_cons_zero, List.set_cons_succ, i64_w, i32_w]
      rfl
     refine pure_ (i := 1) (N := some 23) (v := ?_) (a' := ?_) #[true, true, false, false, false, false, false, false, false, false, false, false, false, false, false, false] rfl rfl (any_of HT_.out (by kernel_rfl)) (fun _ _ _ h => h) (Or.inl ⟨by rfl, ?_⟩) ?_ ?_
     rotate_left
     ·intro w'
      go_simp
      with_reducible rfl
     rotate_left
     ·simp only [Act.put, List.setIfInBounds_toArray, List.set_cons_zero, List.set_cons_succ, i64_w, i32_w]
      rfl
     refine pure_ (i := 2) (N := some 24) (v := ?_) (a' := ?_) #[true, true, true, false, false, false, false, false, false, false, false, false, false, false, false, false] rfl rfl (any_of HT_.out (by kernel_rfl)) (fun _ _ _ h => h) (Or.inl ⟨by rfl, ?_⟩) ?_ ?_
     rotate_left
     ·intro w'
      go_simp
      with_reducible rfl
     rotate_left
     ·simp only [Act.put, List.setIfInBounds_toArray, List.set_cons_zero, List.set_cons_succ, i64_w, i32_w]
      rfl
     refine pure_ (i := 3) (N := some 25) (v := ?_) (a' := ?_) #[true, true, true, true, false, false, false, false, false, false, false, false, false, false, false, false] rfl rfl (any_of HT_.out (by kernel_rfl)) (fun _ _ _ h => h) (Or.inl ⟨by rfl, ?_⟩) ?_ ?_
     rotate_left
     ·intro w'
      go_simp
      with_reducible rfl
     rotate_left
     ·simp only [Act.put, List.setIfInBounds_toArray, List.set_cons_zero, List.set_cons_succ, i64_w, i32_w]
      rfl
     refine pure_ (i := 4) (N := some 26) (v := ?_) (a' := ?_) #[true, true, true, true, true, false, false, false, false, false, false, false, false, false, false, false] rfl rfl (any_of HT_.out (by kernel_rfl)) (fun _ _ _ h => h) (Or.inl ⟨by rfl, ?_⟩) ?_ ?_
     rotate_left
     ·intro w'
      go_simp
      with_reducible rfl
     rotate_left
     ·simp only [Act.put, List.setIfInBounds_toArray, List.set_cons_zero, List.set_cons_succ, i64_w, i32_w]
      rfl
     refine pure_ (i := 5) (N := some 27) (v := ?_) (a' := ?_) #[true, true, true, true, true, true, false, false, false, false, false, false, false, false, false, false] rfl rfl (any_of HT_.out (by kernel_rfl)) (fun _ _ _ h => h) (Or.inl ⟨by rfl, ?_⟩) ?_ ?_
     rotate_left
     ·intro w'
      go_simp
      with_reducible rfl
     rotate_left
     ·simp only [Act.put, List.setIfInBounds_toArray, List.set_cons_zero, List.set_cons_succ, i64_w, i32_w]
      rfl
     refine pure_ (i := 6) (N := some 28) (v := ?_) (a' := ?_) #[true, true, true, true, true, true, true, false, false, false, false, false, false, false, false, false] rfl rfl (any_of HT_.out (by kernel_rfl)) (fun _ _ _ h => h) (Or.inl ⟨by rfl, ?_⟩) ?_ ?_
     rotate_left
     ·intro w'
      go_simp
      with_reducible rfl
     rotate_left
     ·simp only [Act.put, List.setIfInBounds_toArray, List.set_cons_zero, List.set_cons_succ, i64_w, i32_w]
      rfl
     refine pure_ (i := 7) (N := some 29) (v := ?_) (a' := ?_) #[true, true, true, true, true, true, true, true, false, false, false, false, false, false, false, false] rfl rfl (any_of HT_.out (by kernel_rfl)) (fun _ _ _ h => h) (Or.inl ⟨by rfl, ?_⟩) ?_ ?_
     rotate_left
     ·intro w'
      go_simp
      with_reducible rfl
     rotate_left
     ·simp only [Act.put, List.setIfInBounds_toArray, List.set_cons_zero, List.set_cons_succ, i64_w, i32_w]
      rfl
     refine pure_ (i := 8) (N := some 30) (v := undef) (a' := ?_) #[true, true, true, true, true, true, true, true, true, false, false, false, false, false, false, false] rfl rfl (any_of HT_.out (by kernel_rfl)) (fun _ _ _ h => h) (Or.inr ⟨by rfl, rfl⟩) ?_ ?_
     rotate_left
     ·simp only [Act.put, List.setIfInBounds_toArray, List.set_cons_zero, List.set_cons_succ, i64_w, i32_w]
      rfl
     refine pure_ (i := 9) (N := some 31) (v := undef) (a' := ?_) #[true, true, true, true, true, true, true, true, true, true, false, false, false, false, false, false] rfl rfl (any_of HT_.out (by kernel_rfl)) (fun _ _ _ h => h) (Or.inr ⟨by rfl, rfl⟩) ?_ ?_
     rotate_left
     ·simp only [Act.put, List.setIfInBounds_toArray, List.set_cons_zero, List.set_cons_succ, i64_w, i32_w]
      rfl
     refine pure_ (i := 10) (N := some 32) (v := undef) (a' := ?_) #[true, true, true, true, true, true, true, true, true, true, true, false, false, false, false, false] rfl rfl (any_of HT_.out (by kernel_rfl)) (fun _ _ _ h => h) (Or.inr ⟨by rfl, rfl⟩) ?_ ?_
     rotate_left
     ·simp only [Act.put, List.setIfInBounds_toArray, List.set_cons_zero, List.set_cons_succ, i64_w, i32_w]
      rfl
     refine pure_ (i := 11) (N := some 33) (v := undef) (a' := ?_) #[true, true, true, true, true, true, true, true, true, true, true, true, false, false, false, false] rfl rfl (any_of HT_.out (by kernel_rfl)) (fun _ _ _ h => h) (Or.inr ⟨by rfl, rfl⟩) ?_ ?_
     rotate_left
     ·simp only [Act.put, List.setIfInBounds_toArray, List.set_cons_zero, List.set_cons_succ, i64_w, i32_w]
      rfl
     refine pure_ (i := 12) (N := some 34) (v := undef) (a' := ?_) #[true, true, true, true, true, true, true, true, true, true, true, true, true, false, false, false] rfl rfl (any_of HT_.out (by kernel_rfl)) (fun _ _ _ h => h) (Or.inr ⟨by rfl, rfl⟩) ?_ ?_
     rotate_left
     ·simp only [Act.put, List.setIfInBounds_toArray, List.set_cons_zero, List.set_cons_succ, i64_w, i32_w]
      rfl
     refine pure_ (i := 13) (N := some 35) (v := undef) (a' := ?_) #[true, true, true, true, true, true, true, true, true, true, true, true, true, true, false, false] rfl rfl (any_of HT_.out (by kernel_rfl)) (fun _ _ _ h => h) (Or.inr ⟨by rfl, rfl⟩) ?_ ?_
     rotate_left
     ·simp only [Act.put, List.setIfInBounds_toArray, List.set_cons_zero, List.set_cons_succ, i64_w, i32_w]
      rfl
     refine pure_ (i := 14) (N := some 36) (v := undef) (a' := ?_) #[true, true, true, true, true, true, true, true, true, true, true, true, true, true, true, false] rfl rfl (any_of HT_.out (by kernel_rfl)) (fun _ _ _ h => h) (Or.inr ⟨by rfl, rfl⟩) ?_ ?_
     rotate_left
     ·simp only [Act.put, List.setIfInBounds_toArray, List.set_cons_zero, List.set_cons_succ, i64_w, i32_w]
      rfl
     refine pure_ (i := 15) (N := some 37) (v := ?_) (a' := ?_) #[true, true, true, true, true, true, true, true, true, true, true, true, true, true, true, true] rfl rfl (any_of HT_.out (by kernel_rfl)) (fun _ _ _ h => h) (Or.inl ⟨by rfl, ?_⟩) ?_ ?_
     rotate_left
     ·intro w'
      go_simp
      with_reducible rfl
     rotate_left
     ·simp only [Act.put, List.setIfInBounds_toArray, List.set_cons_zero, List.set_cons_succ, i64_w, i32_w]
      rfl
     refine done_ (done_of HT_.out (by kernel_rfl)) ?_
     try go_wp2
     go_ret
     exact ⟨by first | rfl | (simp [errW_none, errW_some] <;> rfl) | (simp [*, errW_none, errW_some] <;> rfl), by repeat (first | (with_reducible first | exact HB.out | apply below_alloc | apply pw_below_drewN | apply below_drew1 | refine below_set ?_ GE450.out | refine below_set ?_ GE460.out) | exact HB.out)⟩
   ·rw [if_neg c12] at H
    have c12b0 : (t462 == 0) = false := beq_eq_false_iff_ne.mpr c12
    have c12b1 : (t462 != 0) = true := bne_iff_ne.mpr c12
    (first | rw [c12b0] | (simp only [i64_w, i32_w]; rw [c12b0]) | skip)
    obtain rfl := Option.some.inj H
    have hnb33 := NB460_450.out
    have hnc33 := NB450_460.out
    have hcz34_0 : w7.cell? ⟨gb460, 0, none⟩ = some (.int .i64 0) := (blk_cell BK460.out 0).trans rfl
    have hcz34_1 : w7.cell? ⟨gb460, 1, none⟩ = some (.int .i64 0) := (blk_cell BK460.out 1).trans rfl
    have hcz34_2 : w7.cell? ⟨gb460, 2, none⟩ = some (.int .i64 0) := (blk_cell BK460.out 2).trans rfl
    have hcz34_3 : w7.cell? ⟨gb460, 3, none⟩ = some (.int .i64 0) := (blk_cell BK460.out 3).trans rfl
    have hcz34_4 : w7.cell? ⟨gb460, 4, none⟩ = some (.int .i64 0) := (blk_cell BK460.out 4).trans rfl
    have hcz34_5 : w7.cell? ⟨gb460, 5, none⟩ = some (.int .i64 0) := (blk_cell BK460.out 5).trans rfl
    have hcz34_6 : w7.cell? ⟨gb460, 6, none⟩ = some (.bool false) := (blk_cell BK460.out 6).trans rfl
    have hcz34_7 : w7.cell? ⟨gb460, 7, none⟩ = some (.bool false) := (blk_cell BK460.out 7).trans rfl
    have hfz34_0 := blk_frozen BK460.out 0
    have hfz34_1 := blk_frozen BK460.out 1
    have hfz34_2 := blk_frozen BK460.out 2
    have hfz34_3 := blk_frozen BK460.out 3
    have hfz34_4 := blk_frozen BK460.out 4
    have hfz34_5 := blk_frozen BK460.out 5
    have hfz34_6 := blk_frozen BK460.out 6
    have hfz34_7 := blk_frozen BK460.out 7
    try go_wp2_with (first | ((with_reducible refine gate_callee (f := 13) rfl ?_); refine goesL_ (some 19) rfl rfl Try.func13 (by kernel_rfl) rfl #[.agg #[.int .i64 t451, .int .i64 t452, .int .i64 t453, .int .i64 t454, .int .i64 t455, .int .i64 t456, .bool t457, .bool t458]] rfl (by (try simp only [List.map_toArray, List.map_cons, List.map_nil]); first | done | rfl | (simp only [List.length_drop, List.length_take]; rfl)) ?_; (with_reducible refine (decode_Encode.calls k t451 t452 t453 t454 t455 t456 t457 t458 t461 t462 _ A11.out).mono ?_); rintro e w35 ⟨rfl, hb⟩; refine ⟨_, rfl, ?_⟩; have n0_ := Aside0.mk (blk_below (g := gb450) (o := .cells #[.int .i64 a1_0, .int .i64 a1_1, .int .i64 a1_2, .int .i64 a1_3, .int .i64 a1_4, .int .i64 a1_5, .bool a1_6, .bool a1_7] 24 (0, 0)) (by (with_reducible repeat (first | refine blk_drewN ?_ _ | refine blk_drew ?_ | refine blk_alloc ?_ _)); refine blk_far ?_ NB450_460.out _; (with_reducible repeat (first | refine blk_drewN ?_ _ | refine blk_drew ?_ | refine blk_alloc ?_ _)); refine blk_far ?_ NB450_460.out _; (with_reducible repeat (first | refine blk_drewN ?_ _ | refine blk_drew ?_ | refine blk_alloc ?_ _)); refine blk_far ?_ NB450_460.out _; (with_reducible repeat (first | refine blk_drewN ?_ _ | refine blk_drew ?_ | refine blk_alloc ?_ _)); refine blk_far ?_ NB450_460.out _; (with_reducible repeat (first | refine blk_drewN ?_ _ | refine blk_drew ?_ | refine blk_alloc ?_ _)); refine blk_far ?_ NB450_460.out _; (with_reducible repeat (first | refine blk_drewN ?_ _ | refine blk_drew ?_ | refine blk_alloc ?_ _)); refine blk_far ?_ NB450_460.out _; (with_reducible repeat (first | refine blk_drewN ?_ _ | refine blk_drew ?_ | refine blk_alloc ?_ _)); refine blk_far ?_ NB450_460.out _; (with_reducible repeat (first | refine blk_drewN ?_ _ | refine blk_drew ?_ | refine blk_alloc ?_ _)); refine blk_far ?_ NB450_460.out _; (with_reducible repeat (first | refine blk_drewN ?_ _ | refine blk_drew ?_ | refine blk_alloc ?_ _)); exact BK450.out) hb); have n1_ := Aside0.mk (blk_below (g := gb460) (o := .cells #[.int .i64 t451, .int .i64 t452, .int .i64 t453, .int .i64 t454, .int .i64 t455, .int .i64 t456, .bool t457, .bool t458] 24 (0, 0)) (by (with_reducible repeat (first | refine blk_drewN ?_ _ | refine blk_drew ?_ | refine blk_alloc ?_ _)); refine blk_put (cs := #[.int .i64 t451, .int .i64 t452, .int .i64 t453, .int .i64 t454, .int .i64 t455, .int .i64 t456, .bool t457, .bool false]) ?_ 7 _ rfl; (with_reducible repeat (first | refine blk_drewN ?_ _ | refine blk_drew ?_ | refine blk_alloc ?_ _)); refine blk_put (cs := #[.int .i64 t451, .int .i64 t452, .int .i64 t453, .int .i64 t454, .int .i64 t455, .int .i64 t456, .bool false, .bool false]) ?_ 6 _ rfl; (with_reducible repeat (first | refine blk_drewN ?_ _ | refine blk_drew ?_ | refine blk_alloc ?_ _)); refine blk_put (cs := #[.int .i64 t451, .int .i64 t452, .int .i64 t453, .int .i64 t454, .int .i64 t455, .int .i64 0, .bool false, .bool false]) ?_ 5 _ rfl; (with_reducible repeat (first | refine blk_drewN ?_ _ | refine blk_drew ?_ | refine blk_alloc ?_ _)); refine blk_put (cs := #[.int .i64 t451, .int .i64 t452, .int .i64 t453, .int .i64 t454, .int .i64 0, .int .i64 0, .bool false, .bool false]) ?_ 4 _ rfl; (with_reducible repeat (first | refine blk_drewN ?_ _ | refine blk_drew ?_ | refine blk_alloc ?_ _)); refine blk_put (cs := #[.int .i64 t451, .int .i64 t452, .int .i64 t453, .int .i64 0, .int .i64 0, .int .i64 0, .bool false, .bool false]) ?_ 3 _ rfl; (with_reducible repeat (first | refine blk_drewN ?_ _ | refine blk_drew ?_ | refine blk_alloc ?_ _)); refine blk_put (cs := #[.int .i64 t451, .int .i64 t452, .int .i64 0, .int .i64 0, .int .i64 0, .int .i64 0, .bool false, .bool false]) ?_ 2 _ rfl; (with_reducible repeat (first | refine blk_drewN ?_ _ | refine blk_drew ?_ | refine blk_alloc ?_ _)); refine blk_put (cs := #[.int .i64 t451, .int .i64 0, .int .i64 0, .int .i64 0, .int .i64 0, .int .i64 0, .bool false, .bool false]) ?_ 1 _ rfl; (with_reducible repeat (first | refine blk_drewN ?_ _ | refine blk_drew ?_ | refine blk_alloc ?_ _)); refine blk_put (cs := #[.int .i64 0, .int .i64 0, .int .i64 0, .int .i64 0, .int .i64 0, .int .i64 0, .bool false, .bool false]) ?_ 0 _ rfl; (with_reducible repeat (first | refine blk_drewN ?_ _ | refine blk_drew ?_ | refine blk_alloc ?_ _)); exact BK460.out) hb); have n2_ := Aside0.mk (below_step (by repeat (first | (with_reducible first | exact HB.out | apply below_alloc | apply pw_below_drewN | apply below_drew1 | refine below_set ?_ GE450.out | refine below_set ?_ GE460.out) | exact HB.out)) hb); clear BK450; clear BK460; clear HB; have BK450 := n0_; have BK460 := n1_; have HB := n2_; clear n0_ n1_ n2_; (try clear hb); (try clear hb2); (try clear hk); (try clear hi)))
    have n0_ := Aside0.mk (blk_drew BK450.out)
    have n1_ := Aside0.mk (blk_drew BK460.out)
    have n2_ := Aside0.mk (below_drew1 HB.out)
    clear BK450
    clear BK460
    clear HB
    have BK450 := n0_
    have BK460 := n1_
    have HB := n2_
    clear n0_ n1_ n2_
    refine start_ (n := 16) (S := fun w' => True) (ds := []) #[false, false, false, false, false, false, false, false, false, false, false, false, false, false, false, false] (by kernel_rfl) rfl rfl trivial (fun hHeld => ?_); refine with_tabW mezzaninelaw09_DecodeBack.tab4 mezzaninelaw09_DecodeBack.bits4 (fun HT_ HW_ => ?_)
    generalize w35.drew = w36 at BK450 BK460 HB hHeld ⊢
    refine pure_ (i := 0) (N := some 22) (v := ?_) (a' := ?_) #[true, false, false, false, false, false, false, false, false, false, false, false, false, false, false, false] rfl rfl (any_of HT_.out (by kernel_rfl)) (fun _ _ _ h => h) (Or.inl ⟨by rfl, ?_⟩) ?_ ?_
    rotate_left
    ·intro w'
     go_simp
     with_reducible rfl
    rotate_left
    ·simp only [Act.put, List.setIfInBounds_toArray, List.set_cons_zero, List.set_cons_succ, i64_w, i32_w]
     rfl
    refine pure_ (i := 1) (N := some 23) (v := ?_) (a' := ?_) #[true, true, false, false, false, false, false, false, false, false, false, false, false, false, false, false] rfl rfl (any_of HT_.out (by kernel_rfl)) (fun _ _ _ h => h) (Or.inl ⟨by rfl, ?_⟩) ?_ ?_
    rotate_left
    ·intro w'
     go_simp
     with_reducible rfl
    rotate_left
    ·simp only [Act.put, List.setIfInBounds_toArray, List.set_cons_zero, List.set_cons_succ, i64_w, i32_w]
     rfl
    refine pure_ (i := 2) (N := some 24) (v := ?_) (a' := ?_) #[true, true, true, false, false, false, false, false, false, false, false, false, false, false, false, false] rfl rfl (any_of HT_.out (by kernel_rfl)) (fun _ _ _ h => h) (Or.inl ⟨by rfl, ?_⟩) ?_ ?_
    rotate_left
    ·intro w'
     go_simp
     with_reducible rfl
    rotate_left
    ·simp only [Act.put, List.setIfInBounds_toArray, List.set_cons_zero, List.set_cons_succ, i64_w, i32_w]
     rfl
    refine pure_ (i := 3) (N := some 25) (v := undef) (a' := ?_) #[true, true, true, true, false, false, false, false, false, false, false, false, false, false, false, false] rfl rfl (any_of HT_.out (by kernel_rfl)) (fun _ _ _ h => h) (Or.inr ⟨by rfl, rfl⟩) ?_ ?_
    rotate_left
    ·simp only [Act.put, List.setIfInBounds_toArray, List.set_cons_zero, List.set_cons_succ, i64_w, i32_w]
     rfl
    refine pure_ (i := 4) (N := some 26) (v := undef) (a' := ?_) #[true, true, true, true, true, false, false, false, false, false, false, false, false, false, false, false] rfl rfl (any_of HT_.out (by kernel_rfl)) (fun _ _ _ h => h) (Or.inr ⟨by rfl, rfl⟩) ?_ ?_
    rotate_left
    ·simp only [Act.put, List.setIfInBounds_toArray, List.set_cons_zero, List.set_cons_succ, i64_w, i32_w]
     rfl
    refine pure_ (i := 5) (N := some 27) (v := undef) (a' := ?_) #[true, true, true, true, true, true, false, false, false, false, false, false, false, false, false, false] rfl rfl (any_of HT_.out (by kernel_rfl)) (fun _ _ _ h => h) (Or.inr ⟨by rfl, rfl⟩) ?_ ?_
    rotate_left
    ·simp only [Act.put, List.setIfInBounds_toArray, List.set_cons_zero, List.set_cons_succ, i64_w, i32_w]
     rfl
    refine pure_ (i := 6) (N := some 28) (v := ?_) (a' := ?_) #[true, true, true, true, true, true, true, false, false, false, false, false, false, false, false, false] rfl rfl (any_of HT_.out (by kernel_rfl)) (fun _ _ _ h => h) (Or.inl ⟨by rfl, ?_⟩) ?_ ?_
    rotate_left
    ·intro w'
     go_simp
     with_reducible rfl
    rotate_left
    ·simp only [Act.put, List.setIfInBounds_toArray, List.set_cons_zero, List.set_cons_succ, i64_w, i32_w]
     rfl
    refine pure_ (i := 7) (N := some 29) (v := ?_) (a' := ?_) #[true, true, true, true, true, true, true, true, false, false, false, false, false, false, false, false] rfl rfl (any_of HT_.out (by kernel_rfl)) (fun _ _ _ h => h) (Or.inl ⟨by rfl, ?_⟩) ?_ ?_
    rotate_left
    ·intro w'
     go_simp
     with_reducible rfl
    rotate_left
    ·simp only [Act.put, List.setIfInBounds_toArray, List.set_cons_zero, List.set_cons_succ, i64_w, i32_w]
     rfl
    refine pure_ (i := 8) (N := some 30) (v := undef) (a' := ?_) #[true, true, true, true, true, true, true, true, true, false, false, false, false, false, false, false] rfl rfl (any_of HT_.out (by kernel_rfl)) (fun _ _ _ h => h) (Or.inr ⟨by rfl, rfl⟩) ?_ ?_
    rotate_left
    ·simp only [Act.put, List.setIfInBounds_toArray, List.set_cons_zero, List.set_cons_succ, i64_w, i32_w]
     rfl
    refine pure_ (i := 9) (N := some 31) (v := undef) (a' := ?_) #[true, true, true, true, true, true, true, true, true, true, false, false, false, false, false, false] rfl rfl (any_of HT_.out (by kernel_rfl)) (fun _ _ _ h => h) (Or.inr ⟨by rfl, rfl⟩) ?_ ?_
    rotate_left
    ·simp only [Act.put, List.setIfInBounds_toArray, List.set_cons_zero, List.set_cons_succ, i64_w, i32_w]
     rfl
    refine pure_ (i := 10) (N := some 32) (v := undef) (a' := ?_) #[true, true, true, true, true, true, true, true, true, true, true, false, false, false, false, false] rfl rfl (any_of HT_.out (by kernel_rfl)) (fun _ _ _ h => h) (Or.inr ⟨by rfl, rfl⟩) ?_ ?_
    rotate_left
    ·simp only [Act.put, List.setIfInBounds_toArray, List.set_cons_zero, List.set_cons_succ, i64_w, i32_w]
     rfl
    refine pure_ (i := 11) (N := some 33) (v := undef) (a' := ?_) #[true, true, true, true, true, true, true, true, true, true, true, true, false, false, false, false] rfl rfl (any_of HT_.out (by kernel_rfl)) (fun _ _ _ h => h) (Or.inr ⟨by rfl, rfl⟩) ?_ ?_
    rotate_left
    ·simp only [Act.put, List.setIfInBounds_toArray, List.set_cons_zero, List.set_cons_succ, i64_w, i32_w]
     rfl
    refine pure_ (i := 12) (N := some 34) (v := undef) (a' := ?_) #[true, true, true, true, true, true, true, true, true, true, true, true, true, false, false, false] rfl rfl (any_of HT_.out (by kernel_rfl)) (fun _ _ _ h => h) (Or.inr ⟨by rfl, rfl⟩) ?_ ?_
    rotate_left
    ·simp only [Act.put, List.setIfInBounds_toArray, List.set_cons_zero, List.set_cons_succ, i64_w, i32_w]
     rfl
    refine pure_ (i := 13) (N := some 35) (v := undef) (a' := ?_) #[true, true, true, true, true, true, true, true, true, true, true, true, true, true, false, false] rfl rfl (any_of HT_.out (by kernel_rfl)) (fun _ _ _ h => h) (Or.inr ⟨by rfl, rfl⟩) ?_ ?_
    rotate_left
    ·simp only [Act.put, List.setIfInBounds_toArray, List.set_cons_zero, List.set_cons_succ, i64_w, i32_w]
     rfl
    refine pure_ (i := 14) (N := some 36) (v := undef) (a' := ?_) #[true, true, true, true, true, true, true, true, true, true, true, true, true, true, true, false] rfl rfl (any_of HT_.out (by kernel_rfl)) (fun _ _ _ h => h) (Or.inr ⟨by rfl, rfl⟩) ?_ ?_
    rotate_left
    ·simp only [Act.put, List.setIfInBounds_toArray, List.set_cons_zero, List.set_cons_succ, i64_w, i32_w]
     rfl
    refine pure_ (i := 15) (N := some 37) (v := ?_) (a' := ?_) #[true, true, true, true, true, true, true, true, true, true, true, true, true, true, true, true] rfl rfl (any_of HT_.out (by kernel_rfl)) (fun _ _ _ h => h) (Or.inl ⟨by rfl, ?_⟩) ?_ ?_
    rotate_left
    ·intro w'
     go_simp
     with_reducible rfl
    rotate_left
    ·simp only [Act.put, List.setIfInBounds_toArray, List.set_cons_zero, List.set_cons_succ, i64_w, i32_w]
     rfl
    refine done_ (done_of HT_.out (by kernel_rfl)) ?_
    try go_wp2
    go_ret
    exact ⟨by first | rfl | (simp [errW_none, errW_some] <;> rfl) | (simp [*, errW_none, errW_some] <;> rfl), by repeat (first | (with_reducible first | exact HB.out | apply below_alloc | apply pw_below_drewN | apply below_drew1 | refine below_set ?_ GE450.out | refine below_set ?_ GE460.out) | exact HB.out)⟩
  ·replace c10 := Bool.eq_false_iff.mpr c10
   subst c10
   have H1 : (if (!(t451 == 0) || (!(t452 == 0) || (!(t453 == 0) || (!(t454 == 0) || (!(t455 == 0) || (!(t456 == 0) || (t457 || (t458)))))))) = true then (some false) else (mezzaninelaw09_DecodeBack.j0 k a1_0 a1_1 a1_2 a1_3 a1_4 a1_5 a1_6 a1_7)) = some r := by rw [if_neg (show ¬ (false = true) by decide)] at H; exact H
   clear H
   have H := H1
   clear H1
   by_cases c37 : (!(t451 == 0) || (!(t452 == 0) || (!(t453 == 0) || (!(t454 == 0) || (!(t455 == 0) || (!(t456 == 0) || (t457 || (t458)))))))) = true
   ·rw [if_pos c37] at H
    have c37b0 : (!(t451 == 0) || (!(t452 == 0) || (!(t453 == 0) || (!(t454 == 0) || (!(t455 == 0) || (!(t456 == 0) || (t457 || (t458)))))))) = true := c37
    clear c37
    obtain rfl := Option.some.inj H
    have hnb38 := NB460_450.out
    have hnc38 := NB450_460.out
    have hcz39_0 : w7.cell? ⟨gb460, 0, none⟩ = some (.int .i64 0) := (blk_cell BK460.out 0).trans rfl
    have hcz39_1 : w7.cell? ⟨gb460, 1, none⟩ = some (.int .i64 0) := (blk_cell BK460.out 1).trans rfl
    have hcz39_2 : w7.cell? ⟨gb460, 2, none⟩ = some (.int .i64 0) := (blk_cell BK460.out 2).trans rfl
    have hcz39_3 : w7.cell? ⟨gb460, 3, none⟩ = some (.int .i64 0) := (blk_cell BK460.out 3).trans rfl
    have hcz39_4 : w7.cell? ⟨gb460, 4, none⟩ = some (.int .i64 0) := (blk_cell BK460.out 4).trans rfl
    have hcz39_5 : w7.cell? ⟨gb460, 5, none⟩ = some (.int .i64 0) := (blk_cell BK460.out 5).trans rfl
    have hcz39_6 : w7.cell? ⟨gb460, 6, none⟩ = some (.bool false) := (blk_cell BK460.out 6).trans rfl
    have hcz39_7 : w7.cell? ⟨gb460, 7, none⟩ = some (.bool false) := (blk_cell BK460.out 7).trans rfl
    have hfz39_0 := blk_frozen BK460.out 0
    have hfz39_1 := blk_frozen BK460.out 1
    have hfz39_2 := blk_frozen BK460.out 2
    have hfz39_3 := blk_frozen BK460.out 3
    have hfz39_4 := blk_frozen BK460.out 4
    have hfz39_5 := blk_frozen BK460.out 5
    have hfz39_6 := blk_frozen BK460.out 6
    have hfz39_7 := blk_frozen BK460.out 7
    go_wp2
    go_ret
    exact ⟨by first | rfl | (simp [errW_none, errW_some] <;> rfl) | (simp [*, errW_none, errW_some] <;> rfl), by repeat (first | (with_reducible first | exact HB.out | apply below_alloc | apply pw_below_drewN | apply below_drew1 | refine below_set ?_ GE450.out | refine below_set ?_ GE460.out) | exact HB.out)⟩
   ·rw [if_neg c37] at H
    have c37b0 : (!(t451 == 0) || (!(t452 == 0) || (!(t453 == 0) || (!(t454 == 0) || (!(t455 == 0) || (!(t456 == 0) || (t457 || (t458)))))))) = false := by simpa using c37
    clear c37
    have H' := Aside0.mk H
    clear H
    have hnb40 := NB460_450.out
    have hnc40 := NB450_460.out
    have hcz41_0 : w7.cell? ⟨gb460, 0, none⟩ = some (.int .i64 0) := (blk_cell BK460.out 0).trans rfl
    have hcz41_1 : w7.cell? ⟨gb460, 1, none⟩ = some (.int .i64 0) := (blk_cell BK460.out 1).trans rfl
    have hcz41_2 : w7.cell? ⟨gb460, 2, none⟩ = some (.int .i64 0) := (blk_cell BK460.out 2).trans rfl
    have hcz41_3 : w7.cell? ⟨gb460, 3, none⟩ = some (.int .i64 0) := (blk_cell BK460.out 3).trans rfl
    have hcz41_4 : w7.cell? ⟨gb460, 4, none⟩ = some (.int .i64 0) := (blk_cell BK460.out 4).trans rfl
    have hcz41_5 : w7.cell? ⟨gb460, 5, none⟩ = some (.int .i64 0) := (blk_cell BK460.out 5).trans rfl
    have hcz41_6 : w7.cell? ⟨gb460, 6, none⟩ = some (.bool false) := (blk_cell BK460.out 6).trans rfl
    have hcz41_7 : w7.cell? ⟨gb460, 7, none⟩ = some (.bool false) := (blk_cell BK460.out 7).trans rfl
    have hfz41_0 := blk_frozen BK460.out 0
    have hfz41_1 := blk_frozen BK460.out 1
    have hfz41_2 := blk_frozen BK460.out 2
    have hfz41_3 := blk_frozen BK460.out 3
    have hfz41_4 := blk_frozen BK460.out 4
    have hfz41_5 := blk_frozen BK460.out 5
    have hfz41_6 := blk_frozen BK460.out 6
    have hfz41_7 := blk_frozen BK460.out 7
    go_wp2
    go_meet
    case rel => exact ⟨_, H', ⟨by first | omega | exact Nat.le_refl _⟩, ⟨by (with_reducible repeat (first | refine blk_drewN ?_ _ | refine blk_drew ?_ | refine blk_alloc ?_ _)); refine blk_far ?_ NB450_460.out _; (with_reducible repeat (first | refine blk_drewN ?_ _ | refine blk_drew ?_ | refine blk_alloc ?_ _)); refine blk_far ?_ NB450_460.out _; (with_reducible repeat (first | refine blk_drewN ?_ _ | refine blk_drew ?_ | refine blk_alloc ?_ _)); refine blk_far ?_ NB450_460.out _; (with_reducible repeat (first | refine blk_drewN ?_ _ | refine blk_drew ?_ | refine blk_alloc ?_ _)); refine blk_far ?_ NB450_460.out _; (with_reducible repeat (first | refine blk_drewN ?_ _ | refine blk_drew ?_ | refine blk_alloc ?_ _)); refine blk_far ?_ NB450_460.out _; (with_reducible repeat (first | refine blk_drewN ?_ _ | refine blk_drew ?_ | refine blk_alloc ?_ _)); refine blk_far ?_ NB450_460.out _; (with_reducible repeat (first | refine blk_drewN ?_ _ | refine blk_drew ?_ | refine blk_alloc ?_ _)); refine blk_far ?_ NB450_460.out _; (with_reducible repeat (first | refine blk_drewN ?_ _ | refine blk_drew ?_ | refine blk_alloc ?_ _)); refine blk_far ?_ NB450_460.out _; (with_reducible repeat (first | refine blk_drewN ?_ _ | refine blk_drew ?_ | refine blk_alloc ?_ _)); exact BK450.out⟩, ⟨by (with_reducible repeat (first | refine blk_drewN ?_ _ | refine blk_drew ?_ | refine blk_alloc ?_ _)); refine blk_put (cs := #[.int .i64 t451, .int .i64 t452, .int .i64 t453, .int .i64 t454, .int .i64 t455, .int .i64 t456, .bool t457, .bool false]) ?_ 7 _ rfl; (with_reducible repeat (first | refine blk_drewN ?_ _ | refine blk_drew ?_ | refine blk_alloc ?_ _)); refine blk_put (cs := #[.int .i64 t451, .int .i64 t452, .int .i64 t453, .int .i64 t454, .int .i64 t455, .int .i64 t456, .bool false, .bool false]) ?_ 6 _ rfl; (with_reducible repeat (first | refine blk_drewN ?_ _ | refine blk_drew ?_ | refine blk_alloc ?_ _)); refine blk_put (cs := #[.int .i64 t451, .int .i64 t452, .int .i64 t453, .int .i64 t454, .int .i64 t455, .int .i64 0, .bool false, .bool false]) ?_ 5 _ rfl; (with_reducible repeat (first | refine blk_drewN ?_ _ | refine blk_drew ?_ | refine blk_alloc ?_ _)); refine blk_put (cs := #[.int .i64 t451, .int .i64 t452, .int .i64 t453, .int .i64 t454, .int .i64 0, .int .i64 0, .bool false, .bool false]) ?_ 4 _ rfl; (with_reducible repeat (first | refine blk_drewN ?_ _ | refine blk_drew ?_ | refine blk_alloc ?_ _)); refine blk_put (cs := #[.int .i64 t451, .int .i64 t452, .int .i64 t453, .int .i64 0, .int .i64 0, .int .i64 0, .bool false, .bool false]) ?_ 3 _ rfl; (with_reducible repeat (first | refine blk_drewN ?_ _ | refine blk_drew ?_ | refine blk_alloc ?_ _)); refine blk_put (cs := #[.int .i64 t451, .int .i64 t452, .int .i64 0, .int .i64 0, .int .i64 0, .int .i64 0, .bool false, .bool false]) ?_ 2 _ rfl; (with_reducible repeat (first | refine blk_drewN ?_ _ | refine blk_drew ?_ | refine blk_alloc ?_ _)); refine blk_put (cs := #[.int .i64 t451, .int .i64 0, .int .i64 0, .int .i64 0, .int .i64 0, .int .i64 0, .bool false, .bool false]) ?_ 1 _ rfl; (with_reducible repeat (first | refine blk_drewN ?_ _ | refine blk_drew ?_ | refine blk_alloc ?_ _)); refine blk_put (cs := #[.int .i64 0, .int .i64 0, .int .i64 0, .int .i64 0, .int .i64 0, .int .i64 0, .bool false, .bool false]) ?_ 0 _ rfl; (with_reducible repeat (first | refine blk_drewN ?_ _ | refine blk_drew ?_ | refine blk_alloc ?_ _)); exact BK460.out⟩, ⟨by repeat (first | (with_reducible first | exact HB.out | apply below_alloc | apply pw_below_drewN | apply below_drew1 | refine below_set ?_ GE450.out | refine below_set ?_ GE460.out) | exact HB.out)⟩⟩
 case rest =>
  clear HC4
  try clear c1; try clear c2; try clear p2; try clear c3; try clear c4; try clear c10; try clear c12; try clear c12b0; try clear c12b1; try clear c13; try clear c13b0; try clear c13b1; try clear c15; try clear c16; try clear c16b0; try clear c16b1; try clear c17; try clear c23; try clear c29; try clear c33; try clear c37; try clear c37b0; try clear c38; try clear c40; try clear hcz24_0; try clear hcz24_1; try clear hcz24_2; try clear hcz24_3; try clear hcz24_4; try clear hcz24_5; try clear hcz24_6; try clear hcz24_7; try clear hcz30_0; try clear hcz30_1; try clear hcz30_2; try clear hcz30_3; try clear hcz30_4; try clear hcz30_5; try clear hcz30_6; try clear hcz30_7; try clear hcz34_0; try clear hcz34_1; try clear hcz34_2; try clear hcz34_3; try clear hcz34_4; try clear hcz34_5; try clear hcz34_6; try clear hcz34_7; try clear hcz39_0; try clear hcz39_1; try clear hcz39_2; try clear hcz39_3; try clear hcz39_4; try clear hcz39_5; try clear hcz39_6; try clear hcz39_7; try clear hcz41_0; try clear hcz41_1; try clear hcz41_2; try clear hcz41_3; try clear hcz41_4; try clear hcz41_5; try clear hcz41_6; try clear hcz41_7; try clear hfz24_0; try clear hfz24_1; try clear hfz24_2; try clear hfz24_3; try clear hfz24_4; try clear hfz24_5; try clear hfz24_6; try clear hfz24_7; try clear hfz30_0; try clear hfz30_1; try clear hfz30_2; try clear hfz30_3; try clear hfz30_4; try clear hfz30_5; try clear hfz30_6; try clear hfz30_7; try clear hfz34_0; try clear hfz34_1; try clear hfz34_2; try clear hfz34_3; try clear hfz34_4; try clear hfz34_5; try clear hfz34_6; try clear hfz34_7; try clear hfz39_0; try clear hfz39_1; try clear hfz39_2; try clear hfz39_3; try clear hfz39_4; try clear hfz39_5; try clear hfz39_6; try clear hfz39_7; try clear hfz41_0; try clear hfz41_1; try clear hfz41_2; try clear hfz41_3; try clear hfz41_4; try clear hfz41_5; try clear hfz41_6; try clear hfz41_7
  obtain ⟨kq, HA, HJ3, BK450, BK460, HB⟩ := hcut
  cases kq with
  | zero => exact absurd HA.out (by simp [mezzaninelaw09_DecodeBack.j0])
  | succ kj3 =>
   have H := HA.out
   clear HA
   simp only [mezzaninelaw09_DecodeBack.j0] at H
   replace H := Option.bind_eq_some_iff.mp H
   obtain ⟨⟨t465, t466⟩, A420, H⟩ := H
   replace H : (if t466 = 0 then ((decode_Decode.f kj3 t465).bind fun bt467 => (if bt467.2.2.2.2.2.2.2.2 = true then (if (bt467.1 == a1_0 && (bt467.2.1 == a1_1 && (bt467.2.2.1 == a1_2 && (bt467.2.2.2.1 == a1_3 && (bt467.2.2.2.2.1 == a1_4 && (bt467.2.2.2.2.2.1 == a1_5 && (bt467.2.2.2.2.2.2.1 == a1_6 && (bt467.2.2.2.2.2.2.2.1 == a1_7)))))))) = true then ((mezzaninelaw09_wakes.f kj3).bind fun t476 => (some t476)) else (some false)) else (some false))) else (if t466 = 80 then (if t465 = 0 then ((mezzaninelaw09_wakes.f kj3).bind fun t477 => (some t477)) else (some false)) else (some false))) = some r := H
   have A42 := Aside0.mk A420
   clear A420
   by_cases c43 : t466 = 0
   ·rw [if_pos c43] at H
    have c43b0 : (t466 == 0) = true := beq_iff_eq.mpr c43
    have c43b1 : (t466 != 0) = false := bne_eq_false_iff_eq.mpr c43
    clear c43
    replace H := Option.bind_eq_some_iff.mp H
    obtain ⟨⟨t467, t468, t469, t470, t471, t472, t473, t474, t475⟩, A440, H⟩ := H
    replace H : (if t475 = true then (if (t467 == a1_0 && (t468 == a1_1 && (t469 == a1_2 && (t470 == a1_3 && (t471 == a1_4 && (t472 == a1_5 && (t473 == a1_6 && (t474 == a1_7)))))))) = true then ((mezzaninelaw09_wakes.f kj3).bind fun t476 => (some t476)) else (some false)) else (some false)) = some r := H
    have A44 := Aside0.mk A440
    clear A440
    by_cases c45 : t475 = true
    ·subst c45
     have H1 : (if (t467 == a1_0 && (t468 == a1_1 && (t469 == a1_2 && (t470 == a1_3 && (t471 == a1_4 && (t472 == a1_5 && (t473 == a1_6 && (t474 == a1_7)))))))) = true then ((mezzaninelaw09_wakes.f kj3).bind fun t476 => (some t476)) else (some false)) = some r := by rw [if_pos rfl] at H; exact H
     clear H
     have H := H1
     clear H1
     by_cases c46 : (t467 == a1_0 && (t468 == a1_1 && (t469 == a1_2 && (t470 == a1_3 && (t471 == a1_4 && (t472 == a1_5 && (t473 == a1_6 && (t474 == a1_7)))))))) = true
     ·rw [if_pos c46] at H
      have c46b0 : (t467 == a1_0 && (t468 == a1_1 && (t469 == a1_2 && (t470 == a1_3 && (t471 == a1_4 && (t472 == a1_5 && (t473 == a1_6 && (t474 == a1_7)))))))) = true := c46
      (try (have c46b1 : decide (t467 = a1_0 && (t468 == a1_1 && (t469 == a1_2 && (t470 == a1_3 && (t471 == a1_4 && (t472 == a1_5 && (t473 == a1_6 && (t474 == a1_7)))))))) = true := by simpa using c46))
      (try (have c46b2 : (t467 == a1_0 && (t468 == a1_1 && (t469 == a1_2 && (t470 == a1_3 && (t471 == a1_4 && (t472 == a1_5 && (t473 == a1_6 && (t474 == a1_7)))))))) = true := by simpa using c46))
      clear c46
      replace H := Option.bind_eq_some_iff.mp H
      obtain ⟨t476, A470, H⟩ := H
      replace H : (some t476) = some r := H
      have A47 := Aside0.mk A470
      clear A470
      obtain rfl := Option.some.inj H
      have hnb48 := NB450_460.out
      have hnc48 := NB460_450.out
      have hcz49_0 : wc.cell? ⟨gb450, 0, none⟩ = some (.int .i64 a1_0) := (blk_cell BK450.out 0).trans rfl
      have hcz49_1 : wc.cell? ⟨gb450, 1, none⟩ = some (.int .i64 a1_1) := (blk_cell BK450.out 1).trans rfl
      have hcz49_2 : wc.cell? ⟨gb450, 2, none⟩ = some (.int .i64 a1_2) := (blk_cell BK450.out 2).trans rfl
      have hcz49_3 : wc.cell? ⟨gb450, 3, none⟩ = some (.int .i64 a1_3) := (blk_cell BK450.out 3).trans rfl
      have hcz49_4 : wc.cell? ⟨gb450, 4, none⟩ = some (.int .i64 a1_4) := (blk_cell BK450.out 4).trans rfl
      have hcz49_5 : wc.cell? ⟨gb450, 5, none⟩ = some (.int .i64 a1_5) := (blk_cell BK450.out 5).trans rfl
      have hcz49_6 : wc.cell? ⟨gb450, 6, none⟩ = some (.bool a1_6) := (blk_cell BK450.out 6).trans rfl
      have hcz49_7 : wc.cell? ⟨gb450, 7, none⟩ = some (.bool a1_7) := (blk_cell BK450.out 7).trans rfl
      have hfz49_0 := blk_frozen BK450.out 0
      have hfz49_1 := blk_frozen BK450.out 1
      have hfz49_2 := blk_frozen BK450.out 2
      have hfz49_3 := blk_frozen BK450.out 3
      have hfz49_4 := blk_frozen BK450.out 4
      have hfz49_5 := blk_frozen BK450.out 5
      have hfz49_6 := blk_frozen BK450.out 6
      have hfz49_7 := blk_frozen BK450.out 7
      go_wp2_with (first | ((with_reducible refine gate_callee (f := 13) rfl ?_); refine goesL_ (some 43) rfl rfl Try.func13 (by kernel_rfl) rfl #[.agg #[.int .i64 a1_0, .int .i64 a1_1, .int .i64 a1_2, .int .i64 a1_3, .int .i64 a1_4, .int .i64 a1_5, .bool a1_6, .bool a1_7]] rfl (by (try simp only [List.map_toArray, List.map_cons, List.map_nil]); first | done | rfl | (simp only [List.length_drop, List.length_take]; rfl)) ?_; (with_reducible refine (decode_Encode.calls kj3 a1_0 a1_1 a1_2 a1_3 a1_4 a1_5 a1_6 a1_7 t465 t466 _ A42.out).mono ?_); rintro e w50 ⟨rfl, hb⟩; refine ⟨_, rfl, ?_⟩; have n0_ := Aside0.mk (blk_below (g := gb450) (o := .cells #[.int .i64 a1_0, .int .i64 a1_1, .int .i64 a1_2, .int .i64 a1_3, .int .i64 a1_4, .int .i64 a1_5, .bool a1_6, .bool a1_7] 24 (0, 0)) (by (with_reducible repeat (first | refine blk_drewN ?_ _ | refine blk_drew ?_ | refine blk_alloc ?_ _)); exact BK450.out) hb); have n1_ := Aside0.mk (blk_below (g := gb460) (o := .cells #[.int .i64 t451, .int .i64 t452, .int .i64 t453, .int .i64 t454, .int .i64 t455, .int .i64 t456, .bool t457, .bool t458] 24 (0, 0)) (by (with_reducible repeat (first | refine blk_drewN ?_ _ | refine blk_drew ?_ | refine blk_alloc ?_ _)); exact BK460.out) hb); have n2_ := Aside0.mk (below_step (by repeat (first | (with_reducible first | exact HB.out | apply below_alloc | apply pw_below_drewN | apply below_drew1 | refine below_set ?_ GE450.out | refine below_set ?_ GE460.out) | exact HB.out)) hb); clear BK450; clear BK460; clear HB; have BK450 := n0_; have BK460 := n1_; have HB := n2_; clear n0_ n1_ n2_; (try clear hb); (try clear hb2); (try clear hk); (try clear hi)) | ((with_reducible refine gate_callee (f := 10) rfl ?_); refine goesL_ (some 59) rfl rfl Try.func10 (by kernel_rfl) rfl #[.int .u32 t465] rfl (by (try simp only [List.map_toArray, List.map_cons, List.map_nil]); first | done | rfl | (simp only [List.length_drop, List.length_take]; rfl)) ?_; (with_reducible refine (decode_Decode.calls kj3 t465 t467 t468 t469 t470 t471 t472 t473 t474 true _ A44.out).mono ?_); rintro e w51 ⟨rfl, hb⟩; refine ⟨_, rfl, ?_⟩; have n0_ := Aside0.mk (blk_below (g := gb450) (o := .cells #[.int .i64 a1_0, .int .i64 a1_1, .int .i64 a1_2, .int .i64 a1_3, .int .i64 a1_4, .int .i64 a1_5, .bool a1_6, .bool a1_7] 24 (0, 0)) (by (with_reducible repeat (first | refine blk_drewN ?_ _ | refine blk_drew ?_ | refine blk_alloc ?_ _)); exact BK450.out) hb); have n1_ := Aside0.mk (blk_below (g := gb460) (o := .cells #[.int .i64 t451, .int .i64 t452, .int .i64 t453, .int .i64 t454, .int .i64 t455, .int .i64 t456, .bool t457, .bool t458] 24 (0, 0)) (by (with_reducible repeat (first | refine blk_drewN ?_ _ | refine blk_drew ?_ | refine blk_alloc ?_ _)); exact BK460.out) hb); have n2_ := Aside0.mk (below_step (by repeat (first | (with_reducible first | exact HB.out | apply below_alloc | apply pw_below_drewN | apply below_drew1 | refine below_set ?_ GE450.out | refine below_set ?_ GE460.out) | exact HB.out)) hb); clear BK450; clear BK460; clear HB; have BK450 := n0_; have BK460 := n1_; have HB := n2_; clear n0_ n1_ n2_; (try clear hb); (try clear hb2); (try clear hk); (try clear hi); have hcz52_0 : w51.cell? ⟨gb460, 0, none⟩ = some (.int .i64 t451) := (blk_cell BK460.out 0).trans rfl; have hcz52_1 : w51.cell? ⟨gb460, 1, none⟩ = some (.int .i64 t452) := (blk_cell BK460.out 1).trans rfl; have hcz52_2 : w51.cell? ⟨gb460, 2, none⟩ = some (.int .i64 t453) := (blk_cell BK460.out 2).trans rfl; have hcz52_3 : w51.cell? ⟨gb460, 3, none⟩ = some (.int .i64 t454) := (blk_cell BK460.out 3).trans rfl; have hcz52_4 : w51.cell? ⟨gb460, 4, none⟩ = some (.int .i64 t455) := (blk_cell BK460.out 4).trans rfl; have hcz52_5 : w51.cell? ⟨gb460, 5, none⟩ = some (.int .i64 t456) := (blk_cell BK460.out 5).trans rfl; have hcz52_6 : w51.cell? ⟨gb460, 6, none⟩ = some (.bool t457) := (blk_cell BK460.out 6).trans rfl; have hcz52_7 : w51.cell? ⟨gb460, 7, none⟩ = some (.bool t458) := (blk_cell BK460.out 7).trans rfl; have hfz52_0 := blk_frozen BK460.out 0; have hfz52_1 := blk_frozen BK460.out 1; have hfz52_2 := blk_frozen BK460.out 2; have hfz52_3 := blk_frozen BK460.out 3; have hfz52_4 := blk_frozen BK460.out 4; have hfz52_5 := blk_frozen BK460.out 5; have hfz52_6 := blk_frozen BK460.out 6; have hfz52_7 := blk_frozen BK460.out 7; have hcz53_0 : w51.cell? ⟨gb450, 0, none⟩ = some (.int .i64 a1_0) := (blk_cell BK450.out 0).trans rfl; have hcz53_1 : w51.cell? ⟨gb450, 1, none⟩ = some (.int .i64 a1_1) := (blk_cell BK450.out 1).trans rfl; have hcz53_2 : w51.cell? ⟨gb450, 2, none⟩ = some (.int .i64 a1_2) := (blk_cell BK450.out 2).trans rfl; have hcz53_3 : w51.cell? ⟨gb450, 3, none⟩ = some (.int .i64 a1_3) := (blk_cell BK450.out 3).trans rfl; have hcz53_4 : w51.cell? ⟨gb450, 4, none⟩ = some (.int .i64 a1_4) := (blk_cell BK450.out 4).trans rfl; have hcz53_5 : w51.cell? ⟨gb450, 5, none⟩ = some (.int .i64 a1_5) := (blk_cell BK450.out 5).trans rfl; have hcz53_6 : w51.cell? ⟨gb450, 6, none⟩ = some (.bool a1_6) := (blk_cell BK450.out 6).trans rfl; have hcz53_7 : w51.cell? ⟨gb450, 7, none⟩ = some (.bool a1_7) := (blk_cell BK450.out 7).trans rfl; have hfz53_0 := blk_frozen BK450.out 0; have hfz53_1 := blk_frozen BK450.out 1; have hfz53_2 := blk_frozen BK450.out 2; have hfz53_3 := blk_frozen BK450.out 3; have hfz53_4 := blk_frozen BK450.out 4; have hfz53_5 := blk_frozen BK450.out 5; have hfz53_6 := blk_frozen BK450.out 6; have hfz53_7 := blk_frozen BK450.out 7) | (go_at_call 12; (with_reducible refine (mezzaninelaw09_wakes.calls kj3  t476 _ A47.out).mono ?_); rintro e w54 ⟨rfl, hb⟩; have n0_ := Aside0.mk (blk_below (g := gb450) (o := .cells #[.int .i64 a1_0, .int .i64 a1_1, .int .i64 a1_2, .int .i64 a1_3, .int .i64 a1_4, .int .i64 a1_5, .bool a1_6, .bool a1_7] 24 (0, 0)) (by (with_reducible repeat (first | refine blk_drewN ?_ _ | refine blk_drew ?_ | refine blk_alloc ?_ _)); refine blk_far ?_ NB450_460.out _; (with_reducible repeat (first | refine blk_drewN ?_ _ | refine blk_drew ?_ | refine blk_alloc ?_ _)); refine blk_far ?_ NB450_460.out _; (with_reducible repeat (first | refine blk_drewN ?_ _ | refine blk_drew ?_ | refine blk_alloc ?_ _)); refine blk_far ?_ NB450_460.out _; (with_reducible repeat (first | refine blk_drewN ?_ _ | refine blk_drew ?_ | refine blk_alloc ?_ _)); refine blk_far ?_ NB450_460.out _; (with_reducible repeat (first | refine blk_drewN ?_ _ | refine blk_drew ?_ | refine blk_alloc ?_ _)); refine blk_far ?_ NB450_460.out _; (with_reducible repeat (first | refine blk_drewN ?_ _ | refine blk_drew ?_ | refine blk_alloc ?_ _)); refine blk_far ?_ NB450_460.out _; (with_reducible repeat (first | refine blk_drewN ?_ _ | refine blk_drew ?_ | refine blk_alloc ?_ _)); refine blk_far ?_ NB450_460.out _; (with_reducible repeat (first | refine blk_drewN ?_ _ | refine blk_drew ?_ | refine blk_alloc ?_ _)); refine blk_far ?_ NB450_460.out _; (with_reducible repeat (first | refine blk_drewN ?_ _ | refine blk_drew ?_ | refine blk_alloc ?_ _)); exact BK450.out) hb); have n1_ := Aside0.mk (blk_below (g := gb460) (o := .cells #[.int .i64 t467, .int .i64 t468, .int .i64 t469, .int .i64 t470, .int .i64 t471, .int .i64 t472, .bool t473, .bool t474] 24 (0, 0)) (by (with_reducible repeat (first | refine blk_drewN ?_ _ | refine blk_drew ?_ | refine blk_alloc ?_ _)); refine blk_put (cs := #[.int .i64 t467, .int .i64 t468, .int .i64 t469, .int .i64 t470, .int .i64 t471, .int .i64 t472, .bool t473, .bool t458]) ?_ 7 _ rfl; (with_reducible repeat (first | refine blk_drewN ?_ _ | refine blk_drew ?_ | refine blk_alloc ?_ _)); refine blk_put (cs := #[.int .i64 t467, .int .i64 t468, .int .i64 t469, .int .i64 t470, .int .i64 t471, .int .i64 t472, .bool t457, .bool t458]) ?_ 6 _ rfl; (with_reducible repeat (first | refine blk_drewN ?_ _ | refine blk_drew ?_ | refine blk_alloc ?_ _)); refine blk_put (cs := #[.int .i64 t467, .int .i64 t468, .int .i64 t469, .int .i64 t470, .int .i64 t471, .int .i64 t456, .bool t457, .bool t458]) ?_ 5 _ rfl; (with_reducible repeat (first | refine blk_drewN ?_ _ | refine blk_drew ?_ | refine blk_alloc ?_ _)); refine blk_put (cs := #[.int .i64 t467, .int .i64 t468, .int .i64 t469, .int .i64 t470, .int .i64 t455, .int .i64 t456, .bool t457, .bool t458]) ?_ 4 _ rfl; (with_reducible repeat (first | refine blk_drewN ?_ _ | refine blk_drew ?_ | refine blk_alloc ?_ _)); refine blk_put (cs := #[.int .i64 t467, .int .i64 t468, .int .i64 t469, .int .i64 t454, .int .i64 t455, .int .i64 t456, .bool t457, .bool t458]) ?_ 3 _ rfl; (with_reducible repeat (first | refine blk_drewN ?_ _ | refine blk_drew ?_ | refine blk_alloc ?_ _)); refine blk_put (cs := #[.int .i64 t467, .int .i64 t468, .int .i64 t453, .int .i64 t454, .int .i64 t455, .int .i64 t456, .bool t457, .bool t458]) ?_ 2 _ rfl; (with_reducible repeat (first | refine blk_drewN ?_ _ | refine blk_drew ?_ | refine blk_alloc ?_ _)); refine blk_put (cs := #[.int .i64 t467, .int .i64 t452, .int .i64 t453, .int .i64 t454, .int .i64 t455, .int .i64 t456, .bool t457, .bool t458]) ?_ 1 _ rfl; (with_reducible repeat (first | refine blk_drewN ?_ _ | refine blk_drew ?_ | refine blk_alloc ?_ _)); refine blk_put (cs := #[.int .i64 t451, .int .i64 t452, .int .i64 t453, .int .i64 t454, .int .i64 t455, .int .i64 t456, .bool t457, .bool t458]) ?_ 0 _ rfl; (with_reducible repeat (first | refine blk_drewN ?_ _ | refine blk_drew ?_ | refine blk_alloc ?_ _)); exact BK460.out) hb); have n2_ := Aside0.mk (below_step (by repeat (first | (with_reducible first | exact HB.out | apply below_alloc | apply pw_below_drewN | apply below_drew1 | refine below_set ?_ GE450.out | refine below_set ?_ GE460.out) | exact HB.out)) hb); clear BK450; clear BK460; clear HB; have BK450 := n0_; have BK460 := n1_; have HB := n2_; clear n0_ n1_ n2_; (try clear hb); (try clear hb2); (try clear hk); (try clear hi)))
      go_ret
      exact ⟨by first | rfl | (simp [errW_none, errW_some] <;> rfl) | (simp [*, errW_none, errW_some] <;> rfl), by repeat (first | (with_reducible first | exact HB.out | apply below_alloc | apply pw_below_drewN | apply below_drew1 | refine below_set ?_ GE450.out | refine below_set ?_ GE460.out) | exact HB.out)⟩
     ·rw [if_neg c46] at H
      have c46b0 : (t467 == a1_0 && (t468 == a1_1 && (t469 == a1_2 && (t470 == a1_3 && (t471 == a1_4 && (t472 == a1_5 && (t473 == a1_6 && (t474 == a1_7)))))))) = false := by simpa using c46
      (try (have c46b1 : decide (t467 = a1_0 && (t468 == a1_1 && (t469 == a1_2 && (t470 == a1_3 && (t471 == a1_4 && (t472 == a1_5 && (t473 == a1_6 && (t474 == a1_7)))))))) = false := by simpa using c46))
      (try (have c46b2 : (t467 == a1_0 && (t468 == a1_1 && (t469 == a1_2 && (t470 == a1_3 && (t471 == a1_4 && (t472 == a1_5 && (t473 == a1_6 && (t474 == a1_7)))))))) = false := by simpa using c46))
      (try (have c46b3 : ¬ (t467 = a1_0 && (t468 == a1_1 && (t469 == a1_2 && (t470 == a1_3 && (t471 == a1_4 && (t472 == a1_5 && (t473 == a1_6 && (t474 == a1_7)))))))) := by simpa using c46))
      clear c46
      obtain rfl := Option.some.inj H
      have hnb55 := NB450_460.out
      have hnc55 := NB460_450.out
      have hcz56_0 : wc.cell? ⟨gb450, 0, none⟩ = some (.int .i64 a1_0) := (blk_cell BK450.out 0).trans rfl
      have hcz56_1 : wc.cell? ⟨gb450, 1, none⟩ = some (.int .i64 a1_1) := (blk_cell BK450.out 1).trans rfl
      have hcz56_2 : wc.cell? ⟨gb450, 2, none⟩ = some (.int .i64 a1_2) := (blk_cell BK450.out 2).trans rfl
      have hcz56_3 : wc.cell? ⟨gb450, 3, none⟩ = some (.int .i64 a1_3) := (blk_cell BK450.out 3).trans rfl
      have hcz56_4 : wc.cell? ⟨gb450, 4, none⟩ = some (.int .i64 a1_4) := (blk_cell BK450.out 4).trans rfl
      have hcz56_5 : wc.cell? ⟨gb450, 5, none⟩ = some (.int .i64 a1_5) := (blk_cell BK450.out 5).trans rfl
      have hcz56_6 : wc.cell? ⟨gb450, 6, none⟩ = some (.bool a1_6) := (blk_cell BK450.out 6).trans rfl
      have hcz56_7 : wc.cell? ⟨gb450, 7, none⟩ = some (.bool a1_7) := (blk_cell BK450.out 7).trans rfl
      have hfz56_0 := blk_frozen BK450.out 0
      have hfz56_1 := blk_frozen BK450.out 1
      have hfz56_2 := blk_frozen BK450.out 2
      have hfz56_3 := blk_frozen BK450.out 3
      have hfz56_4 := blk_frozen BK450.out 4
      have hfz56_5 := blk_frozen BK450.out 5
      have hfz56_6 := blk_frozen BK450.out 6
      have hfz56_7 := blk_frozen BK450.out 7
      go_wp2_with (first | ((with_reducible refine gate_callee (f := 13) rfl ?_); refine goesL_ (some 43) rfl rfl Try.func13 (by kernel_rfl) rfl #[.agg #[.int .i64 a1_0, .int .i64 a1_1, .int .i64 a1_2, .int .i64 a1_3, .int .i64 a1_4, .int .i64 a1_5, .bool a1_6, .bool a1_7]] rfl (by (try simp only [List.map_toArray, List.map_cons, List.map_nil]); first | done | rfl | (simp only [List.length_drop, List.length_take]; rfl)) ?_; (with_reducible refine (decode_Encode.calls kj3 a1_0 a1_1 a1_2 a1_3 a1_4 a1_5 a1_6 a1_7 t465 t466 _ A42.out).mono ?_); rintro e w57 ⟨rfl, hb⟩; refine ⟨_, rfl, ?_⟩; have n0_ := Aside0.mk (blk_below (g := gb450) (o := .cells #[.int .i64 a1_0, .int .i64 a1_1, .int .i64 a1_2, .int .i64 a1_3, .int .i64 a1_4, .int .i64 a1_5, .bool a1_6, .bool a1_7] 24 (0, 0)) (by (with_reducible repeat (first | refine blk_drewN ?_ _ | refine blk_drew ?_ | refine blk_alloc ?_ _)); exact BK450.out) hb); have n1_ := Aside0.mk (blk_below (g := gb460) (o := .cells #[.int .i64 t451, .int .i64 t452, .int .i64 t453, .int .i64 t454, .int .i64 t455, .int .i64 t456, .bool t457, .bool t458] 24 (0, 0)) (by (with_reducible repeat (first | refine blk_drewN ?_ _ | refine blk_drew ?_ | refine blk_alloc ?_ _)); exact BK460.out) hb); have n2_ := Aside0.mk (below_step (by repeat (first | (with_reducible first | exact HB.out | apply below_alloc | apply pw_below_drewN | apply below_drew1 | refine below_set ?_ GE450.out | refine below_set ?_ GE460.out) | exact HB.out)) hb); clear BK450; clear BK460; clear HB; have BK450 := n0_; have BK460 := n1_; have HB := n2_; clear n0_ n1_ n2_; (try clear hb); (try clear hb2); (try clear hk); (try clear hi)) | ((with_reducible refine gate_callee (f := 10) rfl ?_); refine goesL_ (some 59) rfl rfl Try.func10 (by kernel_rfl) rfl #[.int .u32 t465] rfl (by (try simp only [List.map_toArray, List.map_cons, List.map_nil]); first | done | rfl | (simp only [List.length_drop, List.length_take]; rfl)) ?_; (with_reducible refine (decode_Decode.calls kj3 t465 t467 t468 t469 t470 t471 t472 t473 t474 true _ A44.out).mono ?_); rintro e w58 ⟨rfl, hb⟩; refine ⟨_, rfl, ?_⟩; have n0_ := Aside0.mk (blk_below (g := gb450) (o := .cells #[.int .i64 a1_0, .int .i64 a1_1, .int .i64 a1_2, .int .i64 a1_3, .int .i64 a1_4, .int .i64 a1_5, .bool a1_6, .bool a1_7] 24 (0, 0)) (by (with_reducible repeat (first | refine blk_drewN ?_ _ | refine blk_drew ?_ | refine blk_alloc ?_ _)); exact BK450.out) hb); have n1_ := Aside0.mk (blk_below (g := gb460) (o := .cells #[.int .i64 t451, .int .i64 t452, .int .i64 t453, .int .i64 t454, .int .i64 t455, .int .i64 t456, .bool t457, .bool t458] 24 (0, 0)) (by (with_reducible repeat (first | refine blk_drewN ?_ _ | refine blk_drew ?_ | refine blk_alloc ?_ _)); exact BK460.out) hb); have n2_ := Aside0.mk (below_step (by repeat (first | (with_reducible first | exact HB.out | apply below_alloc | apply pw_below_drewN | apply below_drew1 | refine below_set ?_ GE450.out | refine below_set ?_ GE460.out) | exact HB.out)) hb); clear BK450; clear BK460; clear HB; have BK450 := n0_; have BK460 := n1_; have HB := n2_; clear n0_ n1_ n2_; (try clear hb); (try clear hb2); (try clear hk); (try clear hi); have hcz59_0 : w58.cell? ⟨gb460, 0, none⟩ = some (.int .i64 t451) := (blk_cell BK460.out 0).trans rfl; have hcz59_1 : w58.cell? ⟨gb460, 1, none⟩ = some (.int .i64 t452) := (blk_cell BK460.out 1).trans rfl; have hcz59_2 : w58.cell? ⟨gb460, 2, none⟩ = some (.int .i64 t453) := (blk_cell BK460.out 2).trans rfl; have hcz59_3 : w58.cell? ⟨gb460, 3, none⟩ = some (.int .i64 t454) := (blk_cell BK460.out 3).trans rfl; have hcz59_4 : w58.cell? ⟨gb460, 4, none⟩ = some (.int .i64 t455) := (blk_cell BK460.out 4).trans rfl; have hcz59_5 : w58.cell? ⟨gb460, 5, none⟩ = some (.int .i64 t456) := (blk_cell BK460.out 5).trans rfl; have hcz59_6 : w58.cell? ⟨gb460, 6, none⟩ = some (.bool t457) := (blk_cell BK460.out 6).trans rfl; have hcz59_7 : w58.cell? ⟨gb460, 7, none⟩ = some (.bool t458) := (blk_cell BK460.out 7).trans rfl; have hfz59_0 := blk_frozen BK460.out 0; have hfz59_1 := blk_frozen BK460.out 1; have hfz59_2 := blk_frozen BK460.out 2; have hfz59_3 := blk_frozen BK460.out 3; have hfz59_4 := blk_frozen BK460.out 4; have hfz59_5 := blk_frozen BK460.out 5; have hfz59_6 := blk_frozen BK460.out 6; have hfz59_7 := blk_frozen BK460.out 7; have hcz60_0 : w58.cell? ⟨gb450, 0, none⟩ = some (.int .i64 a1_0) := (blk_cell BK450.out 0).trans rfl; have hcz60_1 : w58.cell? ⟨gb450, 1, none⟩ = some (.int .i64 a1_1) := (blk_cell BK450.out 1).trans rfl; have hcz60_2 : w58.cell? ⟨gb450, 2, none⟩ = some (.int .i64 a1_2) := (blk_cell BK450.out 2).trans rfl; have hcz60_3 : w58.cell? ⟨gb450, 3, none⟩ = some (.int .i64 a1_3) := (blk_cell BK450.out 3).trans rfl; have hcz60_4 : w58.cell? ⟨gb450, 4, none⟩ = some (.int .i64 a1_4) := (blk_cell BK450.out 4).trans rfl; have hcz60_5 : w58.cell? ⟨gb450, 5, none⟩ = some (.int .i64 a1_5) := (blk_cell BK450.out 5).trans rfl; have hcz60_6 : w58.cell? ⟨gb450, 6, none⟩ = some (.bool a1_6) := (blk_cell BK450.out 6).trans rfl; have hcz60_7 : w58.cell? ⟨gb450, 7, none⟩ = some (.bool a1_7) := (blk_cell BK450.out 7).trans rfl; have hfz60_0 := blk_frozen BK450.out 0; have hfz60_1 := blk_frozen BK450.out 1; have hfz60_2 := blk_frozen BK450.out 2; have hfz60_3 := blk_frozen BK450.out 3; have hfz60_4 := blk_frozen BK450.out 4; have hfz60_5 := blk_frozen BK450.out 5; have hfz60_6 := blk_frozen BK450.out 6; have hfz60_7 := blk_frozen BK450.out 7))
      go_ret
      exact ⟨by first | rfl | (simp [errW_none, errW_some] <;> rfl) | (simp [*, errW_none, errW_some] <;> rfl), by repeat (first | (with_reducible first | exact HB.out | apply below_alloc | apply pw_below_drewN | apply below_drew1 | refine below_set ?_ GE450.out | refine below_set ?_ GE460.out) | exact HB.out)⟩
    ·replace c45 := Bool.eq_false_iff.mpr c45
     subst c45
     have H1 : (some false) = some r := by rw [if_neg (show ¬ (false = true) by decide)] at H; exact H
     clear H
     have H := H1
     clear H1
     obtain rfl := Option.some.inj H
     have hnb61 := NB450_460.out
     have hnc61 := NB460_450.out
     have hcz62_0 : wc.cell? ⟨gb450, 0, none⟩ = some (.int .i64 a1_0) := (blk_cell BK450.out 0).trans rfl
     have hcz62_1 : wc.cell? ⟨gb450, 1, none⟩ = some (.int .i64 a1_1) := (blk_cell BK450.out 1).trans rfl
     have hcz62_2 : wc.cell? ⟨gb450, 2, none⟩ = some (.int .i64 a1_2) := (blk_cell BK450.out 2).trans rfl
     have hcz62_3 : wc.cell? ⟨gb450, 3, none⟩ = some (.int .i64 a1_3) := (blk_cell BK450.out 3).trans rfl
     have hcz62_4 : wc.cell? ⟨gb450, 4, none⟩ = some (.int .i64 a1_4) := (blk_cell BK450.out 4).trans rfl
     have hcz62_5 : wc.cell? ⟨gb450, 5, none⟩ = some (.int .i64 a1_5) := (blk_cell BK450.out 5).trans rfl
     have hcz62_6 : wc.cell? ⟨gb450, 6, none⟩ = some (.bool a1_6) := (blk_cell BK450.out 6).trans rfl
     have hcz62_7 : wc.cell? ⟨gb450, 7, none⟩ = some (.bool a1_7) := (blk_cell BK450.out 7).trans rfl
     have hfz62_0 := blk_frozen BK450.out 0
     have hfz62_1 := blk_frozen BK450.out 1
     have hfz62_2 := blk_frozen BK450.out 2
     have hfz62_3 := blk_frozen BK450.out 3
     have hfz62_4 := blk_frozen BK450.out 4
     have hfz62_5 := blk_frozen BK450.out 5
     have hfz62_6 := blk_frozen BK450.out 6
     have hfz62_7 := blk_frozen BK450.out 7
     go_wp2_with (first | ((with_reducible refine gate_callee (f := 13) rfl ?_); refine goesL_ (some 43) rfl rfl Try.func13 (by kernel_rfl) rfl #[.agg #[.int .i64 a1_0, .int .i64 a1_1, .int .i64 a1_2, .int .i64 a1_3, .int .i64 a1_4, .int .i64 a1_5, .bool a1_6, .bool a1_7]] rfl (by (try simp only [List.map_toArray, List.map_cons, List.map_nil]); first | done | rfl | (simp only [List.length_drop, List.length_take]; rfl)) ?_; (with_reducible refine (decode_Encode.calls kj3 a1_0 a1_1 a1_2 a1_3 a1_4 a1_5 a1_6 a1_7 t465 t466 _ A42.out).mono ?_); rintro e w63 ⟨rfl, hb⟩; refine ⟨_, rfl, ?_⟩; have n0_ := Aside0.mk (blk_below (g := gb450) (o := .cells #[.int .i64 a1_0, .int .i64 a1_1, .int .i64 a1_2, .int .i64 a1_3, .int .i64 a1_4, .int .i64 a1_5, .bool a1_6, .bool a1_7] 24 (0, 0)) (by (with_reducible repeat (first | refine blk_drewN ?_ _ | refine blk_drew ?_ | refine blk_alloc ?_ _)); exact BK450.out) hb); have n1_ := Aside0.mk (blk_below (g := gb460) (o := .cells #[.int .i64 t451, .int .i64 t452, .int .i64 t453, .int .i64 t454, .int .i64 t455, .int .i64 t456, .bool t457, .bool t458] 24 (0, 0)) (by (with_reducible repeat (first | refine blk_drewN ?_ _ | refine blk_drew ?_ | refine blk_alloc ?_ _)); exact BK460.out) hb); have n2_ := Aside0.mk (below_step (by repeat (first | (with_reducible first | exact HB.out | apply below_alloc | apply pw_below_drewN | apply below_drew1 | refine below_set ?_ GE450.out | refine below_set ?_ GE460.out) | exact HB.out)) hb); clear BK450; clear BK460; clear HB; have BK450 := n0_; have BK460 := n1_; have HB := n2_; clear n0_ n1_ n2_; (try clear hb); (try clear hb2); (try clear hk); (try clear hi)) | ((with_reducible refine gate_callee (f := 10) rfl ?_); refine goesL_ (some 59) rfl rfl Try.func10 (by kernel_rfl) rfl #[.int .u32 t465] rfl (by (try simp only [List.map_toArray, List.map_cons, List.map_nil]); first | done | rfl | (simp only [List.length_drop, List.length_take]; rfl)) ?_; (with_reducible refine (decode_Decode.calls kj3 t465 t467 t468 t469 t470 t471 t472 t473 t474 false _ A44.out).mono ?_); rintro e w64 ⟨rfl, hb⟩; refine ⟨_, rfl, ?_⟩; have n0_ := Aside0.mk (blk_below (g := gb450) (o := .cells #[.int .i64 a1_0, .int .i64 a1_1, .int .i64 a1_2, .int .i64 a1_3, .int .i64 a1_4, .int .i64 a1_5, .bool a1_6, .bool a1_7] 24 (0, 0)) (by (with_reducible repeat (first | refine blk_drewN ?_ _ | refine blk_drew ?_ | refine blk_alloc ?_ _)); exact BK450.out) hb); have n1_ := Aside0.mk (blk_below (g := gb460) (o := .cells #[.int .i64 t451, .int .i64 t452, .int .i64 t453, .int .i64 t454, .int .i64 t455, .int .i64 t456, .bool t457, .bool t458] 24 (0, 0)) (by (with_reducible repeat (first | refine blk_drewN ?_ _ | refine blk_drew ?_ | refine blk_alloc ?_ _)); exact BK460.out) hb); have n2_ := Aside0.mk (below_step (by repeat (first | (with_reducible first | exact HB.out | apply below_alloc | apply pw_below_drewN | apply below_drew1 | refine below_set ?_ GE450.out | refine below_set ?_ GE460.out) | exact HB.out)) hb); clear BK450; clear BK460; clear HB; have BK450 := n0_; have BK460 := n1_; have HB := n2_; clear n0_ n1_ n2_; (try clear hb); (try clear hb2); (try clear hk); (try clear hi); have hcz65_0 : w64.cell? ⟨gb460, 0, none⟩ = some (.int .i64 t451) := (blk_cell BK460.out 0).trans rfl; have hcz65_1 : w64.cell? ⟨gb460, 1, none⟩ = some (.int .i64 t452) := (blk_cell BK460.out 1).trans rfl; have hcz65_2 : w64.cell? ⟨gb460, 2, none⟩ = some (.int .i64 t453) := (blk_cell BK460.out 2).trans rfl; have hcz65_3 : w64.cell? ⟨gb460, 3, none⟩ = some (.int .i64 t454) := (blk_cell BK460.out 3).trans rfl; have hcz65_4 : w64.cell? ⟨gb460, 4, none⟩ = some (.int .i64 t455) := (blk_cell BK460.out 4).trans rfl; have hcz65_5 : w64.cell? ⟨gb460, 5, none⟩ = some (.int .i64 t456) := (blk_cell BK460.out 5).trans rfl; have hcz65_6 : w64.cell? ⟨gb460, 6, none⟩ = some (.bool t457) := (blk_cell BK460.out 6).trans rfl; have hcz65_7 : w64.cell? ⟨gb460, 7, none⟩ = some (.bool t458) := (blk_cell BK460.out 7).trans rfl; have hfz65_0 := blk_frozen BK460.out 0; have hfz65_1 := blk_frozen BK460.out 1; have hfz65_2 := blk_frozen BK460.out 2; have hfz65_3 := blk_frozen BK460.out 3; have hfz65_4 := blk_frozen BK460.out 4; have hfz65_5 := blk_frozen BK460.out 5; have hfz65_6 := blk_frozen BK460.out 6; have hfz65_7 := blk_frozen BK460.out 7))
     go_ret
     exact ⟨by first | rfl | (simp [errW_none, errW_some] <;> rfl) | (simp [*, errW_none, errW_some] <;> rfl), by repeat (first | (with_reducible first | exact HB.out | apply below_alloc | apply pw_below_drewN | apply below_drew1 | refine below_set ?_ GE450.out | refine below_set ?_ GE460.out) | exact HB.out)⟩
   ·rw [if_neg c43] at H
    have c43b0 : (t466 == 0) = false := beq_eq_false_iff_ne.mpr c43
    have c43b1 : (t466 != 0) = true := bne_iff_ne.mpr c43
    by_cases c66 : t466 = 80
    ·rw [if_pos c66] at H
     have c66b0 : (t466 == 80) = true := beq_iff_eq.mpr c66
     have c66b1 : (t466 != 80) = false := bne_eq_false_iff_eq.mpr c66
     clear c66
     by_cases c67 : t465 = 0
     ·rw [if_pos c67] at H
      have c67b0 : (t465 == 0) = true := beq_iff_eq.mpr c67
      have c67b1 : (t465 != 0) = false := bne_eq_false_iff_eq.mpr c67
      clear c67
      replace H := Option.bind_eq_some_iff.mp H
      obtain ⟨t477, A680, H⟩ := H
      replace H : (some t477) = some r := H
      have A68 := Aside0.mk A680
      clear A680
      obtain rfl := Option.some.inj H
      have hnb69 := NB450_460.out
      have hnc69 := NB460_450.out
      have hcz70_0 : wc.cell? ⟨gb450, 0, none⟩ = some (.int .i64 a1_0) := (blk_cell BK450.out 0).trans rfl
      have hcz70_1 : wc.cell? ⟨gb450, 1, none⟩ = some (.int .i64 a1_1) := (blk_cell BK450.out 1).trans rfl
      have hcz70_2 : wc.cell? ⟨gb450, 2, none⟩ = some (.int .i64 a1_2) := (blk_cell BK450.out 2).trans rfl
      have hcz70_3 : wc.cell? ⟨gb450, 3, none⟩ = some (.int .i64 a1_3) := (blk_cell BK450.out 3).trans rfl
      have hcz70_4 : wc.cell? ⟨gb450, 4, none⟩ = some (.int .i64 a1_4) := (blk_cell BK450.out 4).trans rfl
      have hcz70_5 : wc.cell? ⟨gb450, 5, none⟩ = some (.int .i64 a1_5) := (blk_cell BK450.out 5).trans rfl
      have hcz70_6 : wc.cell? ⟨gb450, 6, none⟩ = some (.bool a1_6) := (blk_cell BK450.out 6).trans rfl
      have hcz70_7 : wc.cell? ⟨gb450, 7, none⟩ = some (.bool a1_7) := (blk_cell BK450.out 7).trans rfl
      have hfz70_0 := blk_frozen BK450.out 0
      have hfz70_1 := blk_frozen BK450.out 1
      have hfz70_2 := blk_frozen BK450.out 2
      have hfz70_3 := blk_frozen BK450.out 3
      have hfz70_4 := blk_frozen BK450.out 4
      have hfz70_5 := blk_frozen BK450.out 5
      have hfz70_6 := blk_frozen BK450.out 6
      have hfz70_7 := blk_frozen BK450.out 7
      go_wp2_with (first | ((with_reducible refine gate_callee (f := 13) rfl ?_); refine goesL_ (some 43) rfl rfl Try.func13 (by kernel_rfl) rfl #[.agg #[.int .i64 a1_0, .int .i64 a1_1, .int .i64 a1_2, .int .i64 a1_3, .int .i64 a1_4, .int .i64 a1_5, .bool a1_6, .bool a1_7]] rfl (by (try simp only [List.map_toArray, List.map_cons, List.map_nil]); first | done | rfl | (simp only [List.length_drop, List.length_take]; rfl)) ?_; (with_reducible refine (decode_Encode.calls kj3 a1_0 a1_1 a1_2 a1_3 a1_4 a1_5 a1_6 a1_7 t465 t466 _ A42.out).mono ?_); rintro e w71 ⟨rfl, hb⟩; refine ⟨_, rfl, ?_⟩; have n0_ := Aside0.mk (blk_below (g := gb450) (o := .cells #[.int .i64 a1_0, .int .i64 a1_1, .int .i64 a1_2, .int .i64 a1_3, .int .i64 a1_4, .int .i64 a1_5, .bool a1_6, .bool a1_7] 24 (0, 0)) (by (with_reducible repeat (first | refine blk_drewN ?_ _ | refine blk_drew ?_ | refine blk_alloc ?_ _)); exact BK450.out) hb); have n1_ := Aside0.mk (blk_below (g := gb460) (o := .cells #[.int .i64 t451, .int .i64 t452, .int .i64 t453, .int .i64 t454, .int .i64 t455, .int .i64 t456, .bool t457, .bool t458] 24 (0, 0)) (by (with_reducible repeat (first | refine blk_drewN ?_ _ | refine blk_drew ?_ | refine blk_alloc ?_ _)); exact BK460.out) hb); have n2_ := Aside0.mk (below_step (by repeat (first | (with_reducible first | exact HB.out | apply below_alloc | apply pw_below_drewN | apply below_drew1 | refine below_set ?_ GE450.out | refine below_set ?_ GE460.out) | exact HB.out)) hb); clear BK450; clear BK460; clear HB; have BK450 := n0_; have BK460 := n1_; have HB := n2_; clear n0_ n1_ n2_; (try clear hb); (try clear hb2); (try clear hk); (try clear hi)) | (go_at_call 12; (with_reducible refine (mezzaninelaw09_wakes.calls kj3  t477 _ A68.out).mono ?_); rintro e w72 ⟨rfl, hb⟩; have n0_ := Aside0.mk (blk_below (g := gb450) (o := .cells #[.int .i64 a1_0, .int .i64 a1_1, .int .i64 a1_2, .int .i64 a1_3, .int .i64 a1_4, .int .i64 a1_5, .bool a1_6, .bool a1_7] 24 (0, 0)) (by (with_reducible repeat (first | refine blk_drewN ?_ _ | refine blk_drew ?_ | refine blk_alloc ?_ _)); exact BK450.out) hb); have n1_ := Aside0.mk (blk_below (g := gb460) (o := .cells #[.int .i64 t451, .int .i64 t452, .int .i64 t453, .int .i64 t454, .int .i64 t455, .int .i64 t456, .bool t457, .bool t458] 24 (0, 0)) (by (with_reducible repeat (first | refine blk_drewN ?_ _ | refine blk_drew ?_ | refine blk_alloc ?_ _)); exact BK460.out) hb); have n2_ := Aside0.mk (below_step (by repeat (first | (with_reducible first | exact HB.out | apply below_alloc | apply pw_below_drewN | apply below_drew1 | refine below_set ?_ GE450.out | refine below_set ?_ GE460.out) | exact HB.out)) hb); clear BK450; clear BK460; clear HB; have BK450 := n0_; have BK460 := n1_; have HB := n2_; clear n0_ n1_ n2_; (try clear hb); (try clear hb2); (try clear hk); (try clear hi)))
      go_ret
      exact ⟨by first | rfl | (simp [errW_none, errW_some] <;> rfl) | (simp [*, errW_none, errW_some] <;> rfl), by repeat (first | (with_reducible first | exact HB.out | apply below_alloc | apply pw_below_drewN | apply below_drew1 | refine below_set ?_ GE450.out | refine below_set ?_ GE460.out) | exact HB.out)⟩
     ·rw [if_neg c67] at H
      have c67b0 : (t465 == 0) = false := beq_eq_false_iff_ne.mpr c67
      have c67b1 : (t465 != 0) = true := bne_iff_ne.mpr c67
      obtain rfl := Option.some.inj H
      have hnb73 := NB450_460.out
      have hnc73 := NB460_450.out
      have hcz74_0 : wc.cell? ⟨gb450, 0, none⟩ = some (.int .i64 a1_0) := (blk_cell BK450.out 0).trans rfl
      have hcz74_1 : wc.cell? ⟨gb450, 1, none⟩ = some (.int .i64 a1_1) := (blk_cell BK450.out 1).trans rfl
      have hcz74_2 : wc.cell? ⟨gb450, 2, none⟩ = some (.int .i64 a1_2) := (blk_cell BK450.out 2).trans rfl
      have hcz74_3 : wc.cell? ⟨gb450, 3, none⟩ = some (.int .i64 a1_3) := (blk_cell BK450.out 3).trans rfl
      have hcz74_4 : wc.cell? ⟨gb450, 4, none⟩ = some (.int .i64 a1_4) := (blk_cell BK450.out 4).trans rfl
      have hcz74_5 : wc.cell? ⟨gb450, 5, none⟩ = some (.int .i64 a1_5) := (blk_cell BK450.out 5).trans rfl
      have hcz74_6 : wc.cell? ⟨gb450, 6, none⟩ = some (.bool a1_6) := (blk_cell BK450.out 6).trans rfl
      have hcz74_7 : wc.cell? ⟨gb450, 7, none⟩ = some (.bool a1_7) := (blk_cell BK450.out 7).trans rfl
      have hfz74_0 := blk_frozen BK450.out 0
      have hfz74_1 := blk_frozen BK450.out 1
      have hfz74_2 := blk_frozen BK450.out 2
      have hfz74_3 := blk_frozen BK450.out 3
      have hfz74_4 := blk_frozen BK450.out 4
      have hfz74_5 := blk_frozen BK450.out 5
      have hfz74_6 := blk_frozen BK450.out 6
      have hfz74_7 := blk_frozen BK450.out 7
      go_wp2_with (first | ((with_reducible refine gate_callee (f := 13) rfl ?_); refine goesL_ (some 43) rfl rfl Try.func13 (by kernel_rfl) rfl #[.agg #[.int .i64 a1_0, .int .i64 a1_1, .int .i64 a1_2, .int .i64 a1_3, .int .i64 a1_4, .int .i64 a1_5, .bool a1_6, .bool a1_7]] rfl (by (try simp only [List.map_toArray, List.map_cons, List.map_nil]); first | done | rfl | (simp only [List.length_drop, List.length_take]; rfl)) ?_; (with_reducible refine (decode_Encode.calls kj3 a1_0 a1_1 a1_2 a1_3 a1_4 a1_5 a1_6 a1_7 t465 t466 _ A42.out).mono ?_); rintro e w75 ⟨rfl, hb⟩; refine ⟨_, rfl, ?_⟩; have n0_ := Aside0.mk (blk_below (g := gb450) (o := .cells #[.int .i64 a1_0, .int .i64 a1_1, .int .i64 a1_2, .int .i64 a1_3, .int .i64 a1_4, .int .i64 a1_5, .bool a1_6, .bool a1_7] 24 (0, 0)) (by (with_reducible repeat (first | refine blk_drewN ?_ _ | refine blk_drew ?_ | refine blk_alloc ?_ _)); exact BK450.out) hb); have n1_ := Aside0.mk (blk_below (g := gb460) (o := .cells #[.int .i64 t451, .int .i64 t452, .int .i64 t453, .int .i64 t454, .int .i64 t455, .int .i64 t456, .bool t457, .bool t458] 24 (0, 0)) (by (with_reducible repeat (first | refine blk_drewN ?_ _ | refine blk_drew ?_ | refine blk_alloc ?_ _)); exact BK460.out) hb); have n2_ := Aside0.mk (below_step (by repeat (first | (with_reducible first | exact HB.out | apply below_alloc | apply pw_below_drewN | apply below_drew1 | refine below_set ?_ GE450.out | refine below_set ?_ GE460.out) | exact HB.out)) hb); clear BK450; clear BK460; clear HB; have BK450 := n0_; have BK460 := n1_; have HB := n2_; clear n0_ n1_ n2_; (try clear hb); (try clear hb2); (try clear hk); (try clear hi)))
      go_ret
      exact ⟨by first | rfl | (simp [errW_none, errW_some] <;> rfl) | (simp [*, errW_none, errW_some] <;> rfl), by repeat (first | (with_reducible first | exact HB.out | apply below_alloc | apply pw_below_drewN | apply below_drew1 | refine below_set ?_ GE450.out | refine below_set ?_ GE460.out) | exact HB.out)⟩
    ·rw [if_neg c66] at H
     have c66b0 : (t466 == 80) = false := beq_eq_false_iff_ne.mpr c66
     have c66b1 : (t466 != 80) = true := bne_iff_ne.mpr c66
     obtain rfl := Option.some.inj H
     have hnb76 := NB450_460.out
     have hnc76 := NB460_450.out
     have hcz77_0 : wc.cell? ⟨gb450, 0, none⟩ = some (.int .i64 a1_0) := (blk_cell BK450.out 0).trans rfl
     have hcz77_1 : wc.cell? ⟨gb450, 1, none⟩ = some (.int .i64 a1_1) := (blk_cell BK450.out 1).trans rfl
     have hcz77_2 : wc.cell? ⟨gb450, 2, none⟩ = some (.int .i64 a1_2) := (blk_cell BK450.out 2).trans rfl
     have hcz77_3 : wc.cell? ⟨gb450, 3, none⟩ = some (.int .i64 a1_3) := (blk_cell BK450.out 3).trans rfl
     have hcz77_4 : wc.cell? ⟨gb450, 4, none⟩ = some (.int .i64 a1_4) := (blk_cell BK450.out 4).trans rfl
     have hcz77_5 : wc.cell? ⟨gb450, 5, none⟩ = some (.int .i64 a1_5) := (blk_cell BK450.out 5).trans rfl
     have hcz77_6 : wc.cell? ⟨gb450, 6, none⟩ = some (.bool a1_6) := (blk_cell BK450.out 6).trans rfl
     have hcz77_7 : wc.cell? ⟨gb450, 7, none⟩ = some (.bool a1_7) := (blk_cell BK450.out 7).trans rfl
     have hfz77_0 := blk_frozen BK450.out 0
     have hfz77_1 := blk_frozen BK450.out 1
     have hfz77_2 := blk_frozen BK450.out 2
     have hfz77_3 := blk_frozen BK450.out 3
     have hfz77_4 := blk_frozen BK450.out 4
     have hfz77_5 := blk_frozen BK450.out 5
     have hfz77_6 := blk_frozen BK450.out 6
     have hfz77_7 := blk_frozen BK450.out 7
     go_wp2_with (first | ((with_reducible refine gate_callee (f := 13) rfl ?_); refine goesL_ (some 43) rfl rfl Try.func13 (by kernel_rfl) rfl #[.agg #[.int .i64 a1_0, .int .i64 a1_1, .int .i64 a1_2, .int .i64 a1_3, .int .i64 a1_4, .int .i64 a1_5, .bool a1_6, .bool a1_7]] rfl (by (try simp only [List.map_toArray, List.map_cons, List.map_nil]); first | done | rfl | (simp only [List.length_drop, List.length_take]; rfl)) ?_; (with_reducible refine (decode_Encode.calls kj3 a1_0 a1_1 a1_2 a1_3 a1_4 a1_5 a1_6 a1_7 t465 t466 _ A42.out).mono ?_); rintro e w78 ⟨rfl, hb⟩; refine ⟨_, rfl, ?_⟩; have n0_ := Aside0.mk (blk_below (g := gb450) (o := .cells #[.int .i64 a1_0, .int .i64 a1_1, .int .i64 a1_2, .int .i64 a1_3, .int .i64 a1_4, .int .i64 a1_5, .bool a1_6, .bool a1_7] 24 (0, 0)) (by (with_reducible repeat (first | refine blk_drewN ?_ _ | refine blk_drew ?_ | refine blk_alloc ?_ _)); exact BK450.out) hb); have n1_ := Aside0.mk (blk_below (g := gb460) (o := .cells #[.int .i64 t451, .int .i64 t452, .int .i64 t453, .int .i64 t454, .int .i64 t455, .int .i64 t456, .bool t457, .bool t458] 24 (0, 0)) (by (with_reducible repeat (first | refine blk_drewN ?_ _ | refine blk_drew ?_ | refine blk_alloc ?_ _)); exact BK460.out) hb); have n2_ := Aside0.mk (below_step (by repeat (first | (with_reducible first | exact HB.out | apply below_alloc | apply pw_below_drewN | apply below_drew1 | refine below_set ?_ GE450.out | refine below_set ?_ GE460.out) | exact HB.out)) hb); clear BK450; clear BK460; clear HB; have BK450 := n0_; have BK460 := n1_; have HB := n2_; clear n0_ n1_ n2_; (try clear hb); (try clear hb2); (try clear hk); (try clear hi)))
     go_ret
     exact ⟨by first | rfl | (simp [errW_none, errW_some] <;> rfl) | (simp [*, errW_none, errW_some] <;> rfl), by repeat (first | (with_reducible first | exact HB.out | apply below_alloc | apply pw_below_drewN | apply below_drew1 | refine below_set ?_ GE450.out | refine below_set ?_ GE460.out) | exact HB.out)⟩

end Go.Proofs.Ytknkfimpflodeaa.P
