-- written by a program of this place (wip/lay.sh, wip/print2.py over the kit's print); Lean checks it
import Derived.Test.YtknkfimpflodeaaF0
import Derived.Test.YtknkfimpflodeaaF5
import Derived.Test.YtknkfimpflodeaaFA
namespace Go.Proofs.Ytknkfimpflodeaa.P
open Go.RowKit Go.Proofs.YtknkfimpflodeaaW.PrintWords Go.Proofs.YtknkfimpflodeaaW.PrintLast Go.Proofs.YtknkfimpflodeaaW.PrintMore
attribute [local go_sem] max2_int min2_int max_two min_two max_three min_three max_four min_four   -- for this text's walks alone
set_option linter.unusedVariables false
set_option linter.unusedSimpArgs false
attribute [local go_sem] run_f0 run_f1 run_f2 run_f3 run_g0 run_g1 run_g2 run_g3

/-! ### mezzanineref09_Right: function 27 -/
mutual
def mezzanineref09_Right.j0 : Nat → Bool → Int → Int → Int → Int → Int → Int → Bool → Bool → Option (Bool)
 | 0, _, _, _, _, _, _, _, _, _ => none
 | k + 1, x11, x370000, x370001, x370002, x370003, x370004, x370005, x370006, x370007 => if x11 = true then (some false) else ((mezzanineref09_RowOf.f x370000).bind fun bt370 => (if x370001 < 0 then (mezzanineref09_Right.j1 k true x370000 x370001 x370002 x370003 x370004 x370005 x370006 x370007 bt370.1 bt370.2.1 bt370.2.2.1 bt370.2.2.2) else (if x370001 > 31 then (mezzanineref09_Right.j1 k true x370000 x370001 x370002 x370003 x370004 x370005 x370006 x370007 bt370.1 bt370.2.1 bt370.2.2.1 bt370.2.2.2) else (if x370002 < 0 then (mezzanineref09_Right.j1 k true x370000 x370001 x370002 x370003 x370004 x370005 x370006 x370007 bt370.1 bt370.2.1 bt370.2.2.1 bt370.2.2.2) else (if x370002 > 31 then (mezzanineref09_Right.j1 k true x370000 x370001 x370002 x370003 x370004 x370005 x370006 x370007 bt370.1 bt370.2.1 bt370.2.2.1 bt370.2.2.2) else (if x370003 < 0 then (mezzanineref09_Right.j1 k true x370000 x370001 x370002 x370003 x370004 x370005 x370006 x370007 bt370.1 bt370.2.1 bt370.2.2.1 bt370.2.2.2) else (if x370003 > 31 then (mezzanineref09_Right.j1 k true x370000 x370001 x370002 x370003 x370004 x370005 x370006 x370007 bt370.1 bt370.2.1 bt370.2.2.1 bt370.2.2.2) else (if x370005 < 0 then (mezzanineref09_Right.j1 k true x370000 x370001 x370002 x370003 x370004 x370005 x370006 x370007 bt370.1 bt370.2.1 bt370.2.2.1 bt370.2.2.2) else (mezzanineref09_Right.j1 k (decide (x370005 > 4095)) x370000 x370001 x370002 x370003 x370004 x370005 x370006 x370007 bt370.1 bt370.2.1 bt370.2.2.1 bt370.2.2.2)))))))))
def mezzanineref09_Right.j1 : Nat → Bool → Int → Int → Int → Int → Int → Int → Bool → Bool → ByteArray → Int → Int → Int → Option (Bool)
 | 0, _, _, _, _, _, _, _, _, _, _, _, _, _ => none
 | k + 1, x52, x370000, x370001, x370002, x370003, x370004, x370005, x370006, x370007, x375000, x375001, x375002, x375003 => if x52 = true then (some false) else ((mezzanineref09_has.f k x375003 (⟨#[85, 74, 73, 72, 87, 82, 76, 65, 67, 90, 86]⟩ : ByteArray)).bind fun t375 => (if t375 = true then ((mezzanineref09_has.f k x375003 (⟨#[73, 72, 87, 66, 83, 70, 82, 76, 65, 67, 86]⟩ : ByteArray)).bind fun t376 => (if t376 = true then ((mezzanineref09_has.f k x375003 (⟨#[66, 83, 70, 82, 65]⟩ : ByteArray)).bind fun t377 => (if t377 = true then (mezzanineref09_Right.j2 k false x370000 x370001 x370002 x370003 x370004 x370005 x370006 x370007 x375000 x375001 x375002 x375003) else (mezzanineref09_Right.j2 k (x370003 != 0) x370000 x370001 x370002 x370003 x370004 x370005 x370006 x370007 x375000 x375001 x375002 x375003))) else (if x370002 = 0 then ((mezzanineref09_has.f k x375003 (⟨#[66, 83, 70, 82, 65]⟩ : ByteArray)).bind fun t378 => (if t378 = true then (mezzanineref09_Right.j2 k false x370000 x370001 x370002 x370003 x370004 x370005 x370006 x370007 x375000 x375001 x375002 x375003) else (mezzanineref09_Right.j2 k (x370003 != 0) x370000 x370001 x370002 x370003 x370004 x370005 x370006 x370007 x375000 x375001 x375002 x375003))) else (mezzanineref09_Right.j2 k true x370000 x370001 x370002 x370003 x370004 x370005 x370006 x370007 x375000 x375001 x375002 x375003)))) else (if x370001 = 0 then ((mezzanineref09_has.f k x375003 (⟨#[73, 72, 87, 66, 83, 70, 82, 76, 65, 67, 86]⟩ : ByteArray)).bind fun t379 => (if t379 = true then ((mezzanineref09_has.f k x375003 (⟨#[66, 83, 70, 82, 65]⟩ : ByteArray)).bind fun t380 => (if t380 = true then (mezzanineref09_Right.j2 k false x370000 x370001 x370002 x370003 x370004 x370005 x370006 x370007 x375000 x375001 x375002 x375003) else (mezzanineref09_Right.j2 k (x370003 != 0) x370000 x370001 x370002 x370003 x370004 x370005 x370006 x370007 x375000 x375001 x375002 x375003))) else (if x370002 = 0 then ((mezzanineref09_has.f k x375003 (⟨#[66, 83, 70, 82, 65]⟩ : ByteArray)).bind fun t381 => (if t381 = true then (mezzanineref09_Right.j2 k false x370000 x370001 x370002 x370003 x370004 x370005 x370006 x370007 x375000 x375001 x375002 x375003) else (mezzanineref09_Right.j2 k (x370003 != 0) x370000 x370001 x370002 x370003 x370004 x370005 x370006 x370007 x375000 x375001 x375002 x375003))) else (mezzanineref09_Right.j2 k true x370000 x370001 x370002 x370003 x370004 x370005 x370006 x370007 x375000 x375001 x375002 x375003)))) else (mezzanineref09_Right.j2 k true x370000 x370001 x370002 x370003 x370004 x370005 x370006 x370007 x375000 x375001 x375002 x375003))))
def mezzanineref09_Right.j2 : Nat → Bool → Int → Int → Int → Int → Int → Int → Bool → Bool → ByteArray → Int → Int → Int → Option (Bool)
 | 0, _, _, _, _, _, _, _, _, _, _, _, _, _ => none
 | k + 1, x83, x370000, x370001, x370002, x370003, x370004, x370005, x370006, x370007, x375000, x375001, x375002, x375003 => if x83 = true then (some false) else ((mezzanineref09_has.f k x375003 (⟨#[67, 90]⟩ : ByteArray)).bind fun t382 => (if t382 = true then ((mezzanineref09_has.f k x375003 (⟨#[76, 65]⟩ : ByteArray)).bind fun t383 => (if t383 = true then (mezzanineref09_Right.j3 k false x370000 x370001 x370002 x370003 x370004 x370005 x370006 x370007 x375000 x375001 x375002 x375003) else (if x370006 = true then (mezzanineref09_Right.j3 k true x370000 x370001 x370002 x370003 x370004 x370005 x370006 x370007 x375000 x375001 x375002 x375003) else (mezzanineref09_Right.j3 k x370007 x370000 x370001 x370002 x370003 x370004 x370005 x370006 x370007 x375000 x375001 x375002 x375003)))) else (if x370005 = 0 then ((mezzanineref09_has.f k x375003 (⟨#[76, 65]⟩ : ByteArray)).bind fun t384 => (if t384 = true then (mezzanineref09_Right.j3 k false x370000 x370001 x370002 x370003 x370004 x370005 x370006 x370007 x375000 x375001 x375002 x375003) else (if x370006 = true then (mezzanineref09_Right.j3 k true x370000 x370001 x370002 x370003 x370004 x370005 x370006 x370007 x375000 x375001 x375002 x375003) else (mezzanineref09_Right.j3 k x370007 x370000 x370001 x370002 x370003 x370004 x370005 x370006 x370007 x375000 x375001 x375002 x375003)))) else (mezzanineref09_Right.j3 k true x370000 x370001 x370002 x370003 x370004 x370005 x370006 x370007 x375000 x375001 x375002 x375003))))
def mezzanineref09_Right.j3 : Nat → Bool → Int → Int → Int → Int → Int → Int → Bool → Bool → ByteArray → Int → Int → Int → Option (Bool)
 | 0, _, _, _, _, _, _, _, _, _, _, _, _, _ => none
 | k + 1, x106, x370000, x370001, x370002, x370003, x370004, x370005, x370006, x370007, x375000, x375001, x375002, x375003 => if x106 = true then (some false) else ((mezzanineref09_Form.f x375003).bind fun t385 => (if t385 = 0 then (some (x370004 == 0)) else ((mezzanineref09_Form.f x375003).bind fun t386 => ((mezzanineref08_Fits.f k t386 x370004).bind fun t387 => (some t387)))))
end
def mezzanineref09_Right.f (k : Nat) (a0_0 : Int) (a0_1 : Int) (a0_2 : Int) (a0_3 : Int) (a0_4 : Int) (a0_5 : Int) (a0_6 : Bool) (a0_7 : Bool) : Option (Bool) := if a0_0 < 1 then (mezzanineref09_Right.j0 k true a0_0 a0_1 a0_2 a0_3 a0_4 a0_5 a0_6 a0_7) else (mezzanineref09_Right.j0 k (decide (a0_0 > 113)) a0_0 a0_1 a0_2 a0_3 a0_4 a0_5 a0_6 a0_7)
theorem mezzanineref09_Right.mono_l : ∀ k, (∀ y0 y1 y2 y3 y4 y5 y6 y7 y8, LeO (mezzanineref09_Right.j0 k y0 y1 y2 y3 y4 y5 y6 y7 y8) (mezzanineref09_Right.j0 (k + 1) y0 y1 y2 y3 y4 y5 y6 y7 y8)) ∧ (∀ y0 y1 y2 y3 y4 y5 y6 y7 y8 y9 y10 y11 y12, LeO (mezzanineref09_Right.j1 k y0 y1 y2 y3 y4 y5 y6 y7 y8 y9 y10 y11 y12) (mezzanineref09_Right.j1 (k + 1) y0 y1 y2 y3 y4 y5 y6 y7 y8 y9 y10 y11 y12)) ∧ (∀ y0 y1 y2 y3 y4 y5 y6 y7 y8 y9 y10 y11 y12, LeO (mezzanineref09_Right.j2 k y0 y1 y2 y3 y4 y5 y6 y7 y8 y9 y10 y11 y12) (mezzanineref09_Right.j2 (k + 1) y0 y1 y2 y3 y4 y5 y6 y7 y8 y9 y10 y11 y12)) ∧ (∀ y0 y1 y2 y3 y4 y5 y6 y7 y8 y9 y10 y11 y12, LeO (mezzanineref09_Right.j3 k y0 y1 y2 y3 y4 y5 y6 y7 y8 y9 y10 y11 y12) (mezzanineref09_Right.j3 (k + 1) y0 y1 y2 y3 y4 y5 y6 y7 y8 y9 y10 y11 y12))
 | 0 => ⟨fun _ _ _ _ _ _ _ _ _ r h => by simp [mezzanineref09_Right.j0] at h, fun _ _ _ _ _ _ _ _ _ _ _ _ _ r h => by simp [mezzanineref09_Right.j1] at h, fun _ _ _ _ _ _ _ _ _ _ _ _ _ r h => by simp [mezzanineref09_Right.j2] at h, fun _ _ _ _ _ _ _ _ _ _ _ _ _ r h => by simp [mezzanineref09_Right.j3] at h⟩
 | k + 1 => by
  obtain ⟨ih0, ih1, ih2, ih3⟩ := mezzanineref09_Right.mono_l k
  refine ⟨?_, ?_, ?_, ?_⟩
  ·intro y0 y1 y2 y3 y4 y5 y6 y7 y8
   unfold mezzanineref09_Right.j0
   repeat' first
   | (with_reducible exact ih0 _ _ _ _ _ _ _ _ _)
   | (with_reducible exact ih1 _ _ _ _ _ _ _ _ _ _ _ _ _)
   | (with_reducible exact ih2 _ _ _ _ _ _ _ _ _ _ _ _ _)
   | (with_reducible exact ih3 _ _ _ _ _ _ _ _ _ _ _ _ _)
   | (with_reducible exact mezzanineref08_Fits.mono _ _ _)
   | (with_reducible exact mezzanineref09_has.mono _ _ _)
   | (with_reducible exact LeO.refl _)
   | (with_reducible exact LeO.none _)
   | (with_reducible refine LeO.ite ?_ ?_)
   | (with_reducible refine LeO.bind ?_ (fun _ => ?_))
   | exact ih0 _ _ _ _ _ _ _ _ _
   | exact ih1 _ _ _ _ _ _ _ _ _ _ _ _ _
   | exact ih2 _ _ _ _ _ _ _ _ _ _ _ _ _
   | exact ih3 _ _ _ _ _ _ _ _ _ _ _ _ _
   | exact mezzanineref08_Fits.mono _ _ _
   | exact mezzanineref09_has.mono _ _ _
   | exact LeO.none _
   | refine LeO.ite ?_ ?_
   | refine LeO.bind ?_ (fun _ => ?_)
  ·intro y0 y1 y2 y3 y4 y5 y6 y7 y8 y9 y10 y11 y12
   unfold mezzanineref09_Right.j1
   repeat' first
   | (with_reducible exact ih0 _ _ _ _ _ _ _ _ _)
   | (with_reducible exact ih1 _ _ _ _ _ _ _ _ _ _ _ _ _)
   | (with_reducible exact ih2 _ _ _ _ _ _ _ _ _ _ _ _ _)
   | (with_reducible exact ih3 _ _ _ _ _ _ _ _ _ _ _ _ _)
   | (with_reducible exact mezzanineref08_Fits.mono _ _ _)
   | (with_reducible exact mezzanineref09_has.mono _ _ _)
   | (with_reducible exact LeO.refl _)
   | (with_reducible exact LeO.none _)
   | (with_reducible refine LeO.ite ?_ ?_)
   | (with_reducible refine LeO.bind ?_ (fun _ => ?_))
   | exact ih0 _ _ _ _ _ _ _ _ _
   | exact ih1 _ _ _ _ _ _ _ _ _ _ _ _ _
   | exact ih2 _ _ _ _ _ _ _ _ _ _ _ _ _
   | exact ih3 _ _ _ _ _ _ _ _ _ _ _ _ _
   | exact mezzanineref08_Fits.mono _ _ _
   | exact mezzanineref09_has.mono _ _ _
   | exact LeO.none _
   | refine LeO.ite ?_ ?_
   | refine LeO.bind ?_ (fun _ => ?_)
  ·intro y0 y1 y2 y3 y4 y5 y6 y7 y8 y9 y10 y11 y12
   unfold mezzanineref09_Right.j2
   repeat' first
   | (with_reducible exact ih0 _ _ _ _ _ _ _ _ _)
   | (with_reducible exact ih1 _ _ _ _ _ _ _ _ _ _ _ _ _)
   | (with_reducible exact ih2 _ _ _ _ _ _ _ _ _ _ _ _ _)
   | (with_reducible exact ih3 _ _ _ _ _ _ _ _ _ _ _ _ _)
   | (with_reducible exact mezzanineref08_Fits.mono _ _ _)
   | (with_reducible exact mezzanineref09_has.mono _ _ _)
   | (with_reducible exact LeO.refl _)
   | (with_reducible exact LeO.none _)
   | (with_reducible refine LeO.ite ?_ ?_)
   | (with_reducible refine LeO.bind ?_ (fun _ => ?_))
   | exact ih0 _ _ _ _ _ _ _ _ _
   | exact ih1 _ _ _ _ _ _ _ _ _ _ _ _ _
   | exact ih2 _ _ _ _ _ _ _ _ _ _ _ _ _
   | exact ih3 _ _ _ _ _ _ _ _ _ _ _ _ _
   | exact mezzanineref08_Fits.mono _ _ _
   | exact mezzanineref09_has.mono _ _ _
   | exact LeO.none _
   | refine LeO.ite ?_ ?_
   | refine LeO.bind ?_ (fun _ => ?_)
  ·intro y0 y1 y2 y3 y4 y5 y6 y7 y8 y9 y10 y11 y12
   unfold mezzanineref09_Right.j3
   repeat' first
   | (with_reducible exact ih0 _ _ _ _ _ _ _ _ _)
   | (with_reducible exact ih1 _ _ _ _ _ _ _ _ _ _ _ _ _)
   | (with_reducible exact ih2 _ _ _ _ _ _ _ _ _ _ _ _ _)
   | (with_reducible exact ih3 _ _ _ _ _ _ _ _ _ _ _ _ _)
   | (with_reducible exact mezzanineref08_Fits.mono _ _ _)
   | (with_reducible exact mezzanineref09_has.mono _ _ _)
   | (with_reducible exact LeO.refl _)
   | (with_reducible exact LeO.none _)
   | (with_reducible refine LeO.ite ?_ ?_)
   | (with_reducible refine LeO.bind ?_ (fun _ => ?_))
   | exact ih0 _ _ _ _ _ _ _ _ _
   | exact ih1 _ _ _ _ _ _ _ _ _ _ _ _ _
   | exact ih2 _ _ _ _ _ _ _ _ _ _ _ _ _
   | exact ih3 _ _ _ _ _ _ _ _ _ _ _ _ _
   | exact mezzanineref08_Fits.mono _ _ _
   | exact mezzanineref09_has.mono _ _ _
   | exact LeO.none _
   | refine LeO.ite ?_ ?_
   | refine LeO.bind ?_ (fun _ => ?_)
theorem mezzanineref09_Right.mono : ∀ a0 a1 a2 a3 a4 a5 a6 a7 k, LeO (mezzanineref09_Right.f k a0 a1 a2 a3 a4 a5 a6 a7) (mezzanineref09_Right.f (k + 1) a0 a1 a2 a3 a4 a5 a6 a7) := by
 intro a0 a1 a2 a3 a4 a5 a6 a7 k
 obtain ⟨ih0, ih1, ih2, ih3⟩ := mezzanineref09_Right.mono_l k
 unfold mezzanineref09_Right.f
 repeat' first
   | (with_reducible exact ih0 _ _ _ _ _ _ _ _ _)
   | (with_reducible exact ih1 _ _ _ _ _ _ _ _ _ _ _ _ _)
   | (with_reducible exact ih2 _ _ _ _ _ _ _ _ _ _ _ _ _)
   | (with_reducible exact ih3 _ _ _ _ _ _ _ _ _ _ _ _ _)
   | (with_reducible exact mezzanineref08_Fits.mono _ _ _)
   | (with_reducible exact mezzanineref09_has.mono _ _ _)
   | (with_reducible exact LeO.refl _)
   | (with_reducible exact LeO.none _)
   | (with_reducible refine LeO.ite ?_ ?_)
   | (with_reducible refine LeO.bind ?_ (fun _ => ?_))
   | exact ih0 _ _ _ _ _ _ _ _ _
   | exact ih1 _ _ _ _ _ _ _ _ _ _ _ _ _
   | exact ih2 _ _ _ _ _ _ _ _ _ _ _ _ _
   | exact ih3 _ _ _ _ _ _ _ _ _ _ _ _ _
   | exact mezzanineref08_Fits.mono _ _ _
   | exact mezzanineref09_has.mono _ _ _
   | exact LeO.none _
   | refine LeO.ite ?_ ?_
   | refine LeO.bind ?_ (fun _ => ?_)
set_option maxHeartbeats 8000000 in
set_option maxRecDepth 100000 in
theorem mezzanineref09_Right.calls (k : Nat) (a0_0 : Int) (a0_1 : Int) (a0_2 : Int) (a0_3 : Int) (a0_4 : Int) (a0_5 : Int) (a0_6 : Bool) (a0_7 : Bool) (r : Bool) (w : World) (h : mezzanineref09_Right.f k a0_0 a0_1 a0_2 a0_3 a0_4 a0_5 a0_6 a0_7 = some r) :
  Calls Try.prog 27 #[.agg #[.int .i64 a0_0, .int .i64 a0_1, .int .i64 a0_2, .int .i64 a0_3, .int .i64 a0_4, .int .i64 a0_5, .bool a0_6, .bool a0_7]] w fun e w' => e = .returned (.bool r) ∧ Below w.heap.size w w' := by
 have hu24 := Try.underlying24
 have hu61 := Try.underlying61
 have HB := Aside0.mk (Below.refl w.heap.size w)
 have H : (if a0_0 < 1 then (mezzanineref09_Right.j0 k true a0_0 a0_1 a0_2 a0_3 a0_4 a0_5 a0_6 a0_7) else (mezzanineref09_Right.j0 k (decide (a0_0 > 113)) a0_0 a0_1 a0_2 a0_3 a0_4 a0_5 a0_6 a0_7)) = some r := h
 clear h
 have HC2 := Aside0.mk H
 clear H
 go_enter Try.func27, Try.ntmps27
 go_upto_region 1 with (first | ((with_reducible refine gate_dst (N := 1) rfl ?_); refine box_event ?hg (N := 1) ?hd (cs := #[.int .i64 a0_0, .int .i64 a0_1, .int .i64 a0_2, .int .i64 a0_3, .int .i64 a0_4, .int .i64 a0_5, .bool a0_6, .bool a0_7]) (t := 24) ?hr ?_; (case hd => rfl); (case hg => rfl); (case hr => first | (go_simp; done) | (go_simp; rfl)); intro gb369 hg w3 hbox hb; have n0_ := Aside0.mk (below_step (by repeat (first | (with_reducible first | exact HB.out | apply below_alloc | apply pw_below_drewN | apply below_drew1) | exact HB.out)) hb); have n1_ := Aside0.mk (hbox); have n2_ := Aside0.mk ((by rw [hg]; exact (below_size (by repeat (first | (with_reducible first | exact HB.out | apply below_alloc | apply pw_below_drewN | apply below_drew1) | exact HB.out))) : w.heap.size ≤ gb369)); have n3_ := Aside0.mk ((by rw [hg]; exact (below_size (by repeat (first | (with_reducible first | exact HB.out | apply below_alloc | apply pw_below_drewN | apply below_drew1) | exact HB.out))) : w.heap.size ≤ gb369)); clear HB; have HB := n0_; have BK369 := n1_; have GW369 := n2_; have GE369 := n3_; clear n0_ n1_ n2_ n3_; clear hb hbox hg))
 (try simp only [Act.put, List.setIfInBounds_toArray, List.set_cons_zero, List.set_cons_succ])
 go_cut [11] (fun v11 wc => ∃ (kq : Nat) (x11_1 : Bool), v11 = .bool x11_1 ∧ Aside0 (mezzanineref09_Right.j0 kq x11_1 a0_0 a0_1 a0_2 a0_3 a0_4 a0_5 a0_6 a0_7 = some r) ∧ Aside0 (kq ≤ k) ∧ Aside0 (wc.heap[gb369]? = some (.cells #[.int .i64 a0_0, .int .i64 a0_1, .int .i64 a0_2, .int .i64 a0_3, .int .i64 a0_4, .int .i64 a0_5, .bool a0_6, .bool a0_7] 24 (0, 0))) ∧ Aside0 (Below w.heap.size w wc))
 case first =>
  have H := HC2.out
  clear HC2
  by_cases c4 : a0_0 < 1
  ·rw [if_pos c4] at H
   have c4b0 : decide (a0_0 < 1) = true := decide_eq_true c4
   clear c4
   (first | rw [c4b0] | (simp only [i64_w, i32_w]; rw [c4b0]) | skip)
   have H' := Aside0.mk H
   clear H
   have hcz5_0 : w3.cell? ⟨gb369, 0, none⟩ = some (.int .i64 a0_0) := (blk_cell BK369.out 0).trans rfl
   have hcz5_1 : w3.cell? ⟨gb369, 1, none⟩ = some (.int .i64 a0_1) := (blk_cell BK369.out 1).trans rfl
   have hcz5_2 : w3.cell? ⟨gb369, 2, none⟩ = some (.int .i64 a0_2) := (blk_cell BK369.out 2).trans rfl
   have hcz5_3 : w3.cell? ⟨gb369, 3, none⟩ = some (.int .i64 a0_3) := (blk_cell BK369.out 3).trans rfl
   have hcz5_4 : w3.cell? ⟨gb369, 4, none⟩ = some (.int .i64 a0_4) := (blk_cell BK369.out 4).trans rfl
   have hcz5_5 : w3.cell? ⟨gb369, 5, none⟩ = some (.int .i64 a0_5) := (blk_cell BK369.out 5).trans rfl
   have hcz5_6 : w3.cell? ⟨gb369, 6, none⟩ = some (.bool a0_6) := (blk_cell BK369.out 6).trans rfl
   have hcz5_7 : w3.cell? ⟨gb369, 7, none⟩ = some (.bool a0_7) := (blk_cell BK369.out 7).trans rfl
   have hfz5_0 := blk_frozen BK369.out 0
   have hfz5_1 := blk_frozen BK369.out 1
   have hfz5_2 := blk_frozen BK369.out 2
   have hfz5_3 := blk_frozen BK369.out 3
   have hfz5_4 := blk_frozen BK369.out 4
   have hfz5_5 := blk_frozen BK369.out 5
   have hfz5_6 := blk_frozen BK369.out 6
   have hfz5_7 := blk_frozen BK369.out 7
   go_wp2
   go_meet
   case rel => exact ⟨_, (true), (by first | rfl | (simp; done) | (simp [*]; done)), H', ⟨by first | omega | exact Nat.le_refl _⟩, ⟨by (with_reducible repeat (first | refine blk_drewN ?_ _ | refine blk_drew ?_ | refine blk_alloc ?_ _)); exact BK369.out⟩, ⟨by repeat (first | (with_reducible first | exact HB.out | apply below_alloc | apply pw_below_drewN | apply below_drew1 | refine below_set ?_ GE369.out) | exact HB.out)⟩⟩
  ·rw [if_neg c4] at H
   have c4b0 : decide (a0_0 < 1) = false := decide_eq_false c4
   clear c4
   (first | rw [c4b0] | (simp only [i64_w, i32_w]; rw [c4b0]) | skip)
   have H' := Aside0.mk H
   clear H
   have hcz6_0 : w3.cell? ⟨gb369, 0, none⟩ = some (.int .i64 a0_0) := (blk_cell BK369.out 0).trans rfl
   have hcz6_1 : w3.cell? ⟨gb369, 1, none⟩ = some (.int .i64 a0_1) := (blk_cell BK369.out 1).trans rfl
   have hcz6_2 : w3.cell? ⟨gb369, 2, none⟩ = some (.int .i64 a0_2) := (blk_cell BK369.out 2).trans rfl
   have hcz6_3 : w3.cell? ⟨gb369, 3, none⟩ = some (.int .i64 a0_3) := (blk_cell BK369.out 3).trans rfl
   have hcz6_4 : w3.cell? ⟨gb369, 4, none⟩ = some (.int .i64 a0_4) := (blk_cell BK369.out 4).trans rfl
   have hcz6_5 : w3.cell? ⟨gb369, 5, none⟩ = some (.int .i64 a0_5) := (blk_cell BK369.out 5).trans rfl
   have hcz6_6 : w3.cell? ⟨gb369, 6, none⟩ = some (.bool a0_6) := (blk_cell BK369.out 6).trans rfl
   have hcz6_7 : w3.cell? ⟨gb369, 7, none⟩ = some (.bool a0_7) := (blk_cell BK369.out 7).trans rfl
   have hfz6_0 := blk_frozen BK369.out 0
   have hfz6_1 := blk_frozen BK369.out 1
   have hfz6_2 := blk_frozen BK369.out 2
   have hfz6_3 := blk_frozen BK369.out 3
   have hfz6_4 := blk_frozen BK369.out 4
   have hfz6_5 := blk_frozen BK369.out 5
   have hfz6_6 := blk_frozen BK369.out 6
   have hfz6_7 := blk_frozen BK369.out 7
   go_wp2
   go_meet
   case rel => exact ⟨_, (decide (a0_0 > 113)), (by first | rfl | (simp; done) | (simp [*]; done)), H', ⟨by first | omega | exact Nat.le_refl _⟩, ⟨by (with_reducible repeat (first | refine blk_drewN ?_ _ | refine blk_drew ?_ | refine blk_alloc ?_ _)); exact BK369.out⟩, ⟨by repeat (first | (with_reducible first | exact HB.out | apply below_alloc | apply pw_below_drewN | apply below_drew1 | refine below_set ?_ GE369.out) | exact HB.out)⟩⟩
 case rest =>
  clear HC2
  try clear c2; try clear p2; try clear c4; try clear c4b0; try clear hcz5_0; try clear hcz5_1; try clear hcz5_2; try clear hcz5_3; try clear hcz5_4; try clear hcz5_5; try clear hcz5_6; try clear hcz5_7; try clear hcz6_0; try clear hcz6_1; try clear hcz6_2; try clear hcz6_3; try clear hcz6_4; try clear hcz6_5; try clear hcz6_6; try clear hcz6_7; try clear hfz5_0; try clear hfz5_1; try clear hfz5_2; try clear hfz5_3; try clear hfz5_4; try clear hfz5_5; try clear hfz5_6; try clear hfz5_7; try clear hfz6_0; try clear hfz6_1; try clear hfz6_2; try clear hfz6_3; try clear hfz6_4; try clear hfz6_5; try clear hfz6_6; try clear hfz6_7
  obtain ⟨kq, x11_1, rfl, HA, HJ1, BK369, HB⟩ := hcut
  cases kq with
  | zero => exact absurd HA.out (by simp [mezzanineref09_Right.j0])
  | succ kj1 =>
   have H := HA.out
   clear HA
   simp only [mezzanineref09_Right.j0] at H
   by_cases c7 : x11_1 = true
   ·subst c7
    have H1 : (some false) = some r := by rw [if_pos rfl] at H; exact H
    clear H
    have H := H1
    clear H1
    obtain rfl := Option.some.inj H
    go_wp2
    go_ret
    exact ⟨by first | rfl | (simp [errW_none, errW_some] <;> rfl) | (simp [*, errW_none, errW_some] <;> rfl), by repeat (first | (with_reducible first | exact HB.out | apply below_alloc | apply pw_below_drewN | apply below_drew1 | refine below_set ?_ GE369.out) | exact HB.out)⟩
   ·replace c7 := Bool.eq_false_iff.mpr c7
    subst c7
    have H1 : ((mezzanineref09_RowOf.f a0_0).bind fun bt370 => (if a0_1 < 0 then (mezzanineref09_Right.j1 kj1 true a0_0 a0_1 a0_2 a0_3 a0_4 a0_5 a0_6 a0_7 bt370.1 bt370.2.1 bt370.2.2.1 bt370.2.2.2) else (if a0_1 > 31 then (mezzanineref09_Right.j1 kj1 true a0_0 a0_1 a0_2 a0_3 a0_4 a0_5 a0_6 a0_7 bt370.1 bt370.2.1 bt370.2.2.1 bt370.2.2.2) else (if a0_2 < 0 then (mezzanineref09_Right.j1 kj1 true a0_0 a0_1 a0_2 a0_3 a0_4 a0_5 a0_6 a0_7 bt370.1 bt370.2.1 bt370.2.2.1 bt370.2.2.2) else (if a0_2 > 31 then (mezzanineref09_Right.j1 kj1 true a0_0 a0_1 a0_2 a0_3 a0_4 a0_5 a0_6 a0_7 bt370.1 bt370.2.1 bt370.2.2.1 bt370.2.2.2) else (if a0_3 < 0 then (mezzanineref09_Right.j1 kj1 true a0_0 a0_1 a0_2 a0_3 a0_4 a0_5 a0_6 a0_7 bt370.1 bt370.2.1 bt370.2.2.1 bt370.2.2.2) else (if a0_3 > 31 then (mezzanineref09_Right.j1 kj1 true a0_0 a0_1 a0_2 a0_3 a0_4 a0_5 a0_6 a0_7 bt370.1 bt370.2.1 bt370.2.2.1 bt370.2.2.2) else (if a0_5 < 0 then (mezzanineref09_Right.j1 kj1 true a0_0 a0_1 a0_2 a0_3 a0_4 a0_5 a0_6 a0_7 bt370.1 bt370.2.1 bt370.2.2.1 bt370.2.2.2) else (mezzanineref09_Right.j1 kj1 (decide (a0_5 > 4095)) a0_0 a0_1 a0_2 a0_3 a0_4 a0_5 a0_6 a0_7 bt370.1 bt370.2.1 bt370.2.2.1 bt370.2.2.2))))))))) = some r := by rw [if_neg (show ¬ (false = true) by decide)] at H; exact H
    clear H
    have H := H1
    clear H1
    replace H := Option.bind_eq_some_iff.mp H
    obtain ⟨⟨t370, t371, t372, t373⟩, A80, H⟩ := H
    replace H : (if a0_1 < 0 then (mezzanineref09_Right.j1 kj1 true a0_0 a0_1 a0_2 a0_3 a0_4 a0_5 a0_6 a0_7 t370 t371 t372 t373) else (if a0_1 > 31 then (mezzanineref09_Right.j1 kj1 true a0_0 a0_1 a0_2 a0_3 a0_4 a0_5 a0_6 a0_7 t370 t371 t372 t373) else (if a0_2 < 0 then (mezzanineref09_Right.j1 kj1 true a0_0 a0_1 a0_2 a0_3 a0_4 a0_5 a0_6 a0_7 t370 t371 t372 t373) else (if a0_2 > 31 then (mezzanineref09_Right.j1 kj1 true a0_0 a0_1 a0_2 a0_3 a0_4 a0_5 a0_6 a0_7 t370 t371 t372 t373) else (if a0_3 < 0 then (mezzanineref09_Right.j1 kj1 true a0_0 a0_1 a0_2 a0_3 a0_4 a0_5 a0_6 a0_7 t370 t371 t372 t373) else (if a0_3 > 31 then (mezzanineref09_Right.j1 kj1 true a0_0 a0_1 a0_2 a0_3 a0_4 a0_5 a0_6 a0_7 t370 t371 t372 t373) else (if a0_5 < 0 then (mezzanineref09_Right.j1 kj1 true a0_0 a0_1 a0_2 a0_3 a0_4 a0_5 a0_6 a0_7 t370 t371 t372 t373) else (mezzanineref09_Right.j1 kj1 (decide (a0_5 > 4095)) a0_0 a0_1 a0_2 a0_3 a0_4 a0_5 a0_6 a0_7 t370 t371 t372 t373)))))))) = some r := H
    have A8 := Aside0.mk A80
    clear A80
    have HC9 := Aside0.mk H
    clear H
    have hcz10_0 : wc.cell? ⟨gb369, 0, none⟩ = some (.int .i64 a0_0) := (blk_cell BK369.out 0).trans rfl
    have hcz10_1 : wc.cell? ⟨gb369, 1, none⟩ = some (.int .i64 a0_1) := (blk_cell BK369.out 1).trans rfl
    have hcz10_2 : wc.cell? ⟨gb369, 2, none⟩ = some (.int .i64 a0_2) := (blk_cell BK369.out 2).trans rfl
    have hcz10_3 : wc.cell? ⟨gb369, 3, none⟩ = some (.int .i64 a0_3) := (blk_cell BK369.out 3).trans rfl
    have hcz10_4 : wc.cell? ⟨gb369, 4, none⟩ = some (.int .i64 a0_4) := (blk_cell BK369.out 4).trans rfl
    have hcz10_5 : wc.cell? ⟨gb369, 5, none⟩ = some (.int .i64 a0_5) := (blk_cell BK369.out 5).trans rfl
    have hcz10_6 : wc.cell? ⟨gb369, 6, none⟩ = some (.bool a0_6) := (blk_cell BK369.out 6).trans rfl
    have hcz10_7 : wc.cell? ⟨gb369, 7, none⟩ = some (.bool a0_7) := (blk_cell BK369.out 7).trans rfl
    have hfz10_0 := blk_frozen BK369.out 0
    have hfz10_1 := blk_frozen BK369.out 1
    have hfz10_2 := blk_frozen BK369.out 2
    have hfz10_3 := blk_frozen BK369.out 3
    have hfz10_4 := blk_frozen BK369.out 4
    have hfz10_5 := blk_frozen BK369.out 5
    have hfz10_6 := blk_frozen BK369.out 6
    have hfz10_7 := blk_frozen BK369.out 7
    go_upto_region 4 with (first | ((with_reducible refine gate_callee (f := 22) rfl ?_); refine goesL_ (some 14) rfl rfl Try.func22 (by kernel_rfl) rfl #[.int .i64 a0_0] rfl (by (try simp only [List.map_toArray, List.map_cons, List.map_nil]); first | done | rfl | (simp only [List.length_drop, List.length_take]; rfl)) ?_; (with_reducible refine (mezzanineref09_RowOf.calls a0_0 t370 t371 t372 t373 _ A8.out).mono ?_); rintro e w11 ⟨rfl, hb⟩; refine ⟨_, rfl, ?_⟩; have n0_ := Aside0.mk (blk_below (g := gb369) (o := .cells #[.int .i64 a0_0, .int .i64 a0_1, .int .i64 a0_2, .int .i64 a0_3, .int .i64 a0_4, .int .i64 a0_5, .bool a0_6, .bool a0_7] 24 (0, 0)) (by (with_reducible repeat (first | refine blk_drewN ?_ _ | refine blk_drew ?_ | refine blk_alloc ?_ _)); exact BK369.out) hb); have n1_ := Aside0.mk (below_step (by repeat (first | (with_reducible first | exact HB.out | apply below_alloc | apply pw_below_drewN | apply below_drew1 | refine below_set ?_ GE369.out) | exact HB.out)) hb); clear BK369; clear HB; have BK369 := n0_; have HB := n1_; clear n0_ n1_; (try clear hb); (try clear hb2); (try clear hk); (try clear hi)) | ((with_reducible refine gate_dst (N := 3) rfl ?_); refine box_event ?hg (N := 3) ?hd (cs := #[.string (⟨#[]⟩ : ByteArray), .int .u32 0, .int .u32 0, .int .u8 0]) (t := 61) ?hr ?_; (case hd => rfl); (case hg => rfl); (case hr => first | (go_simp; done) | (go_simp; rfl)); intro gb374 hg w12 hbox hb; have n0_ := Aside0.mk (blk_below (g := gb369) (o := .cells #[.int .i64 a0_0, .int .i64 a0_1, .int .i64 a0_2, .int .i64 a0_3, .int .i64 a0_4, .int .i64 a0_5, .bool a0_6, .bool a0_7] 24 (0, 0)) (by (with_reducible repeat (first | refine blk_drewN ?_ _ | refine blk_drew ?_ | refine blk_alloc ?_ _)); exact BK369.out) hb); have n1_ := Aside0.mk (below_step (by repeat (first | (with_reducible first | exact HB.out | apply below_alloc | apply pw_below_drewN | apply below_drew1 | refine below_set ?_ GE369.out) | exact HB.out)) hb); have n2_ := Aside0.mk (hbox); have n3_ := Aside0.mk ((by rw [hg]; exact (below_size (by repeat (first | (with_reducible first | exact HB.out | apply below_alloc | apply pw_below_drewN | apply below_drew1 | refine below_set ?_ GE369.out) | exact HB.out))) : w.heap.size ≤ gb374)); have n4_ := Aside0.mk ((by rw [hg]; exact (below_size (by repeat (first | (with_reducible first | exact HB.out | apply below_alloc | apply pw_below_drewN | apply below_drew1 | refine below_set ?_ GE369.out) | exact HB.out))) : w.heap.size ≤ gb374)); have n5_ := Aside0.mk ((by rw [hg]; exact Nat.ne_of_lt (blk_lt (g := gb369) (o := .cells #[.int .i64 a0_0, .int .i64 a0_1, .int .i64 a0_2, .int .i64 a0_3, .int .i64 a0_4, .int .i64 a0_5, .bool a0_6, .bool a0_7] 24 (0, 0)) (by (with_reducible repeat (first | refine blk_drewN ?_ _ | refine blk_drew ?_ | refine blk_alloc ?_ _)); exact BK369.out)) : gb369 ≠ gb374)); have n6_ := Aside0.mk ((by rw [hg]; exact Nat.ne_of_gt (blk_lt (g := gb369) (o := .cells #[.int .i64 a0_0, .int .i64 a0_1, .int .i64 a0_2, .int .i64 a0_3, .int .i64 a0_4, .int .i64 a0_5, .bool a0_6, .bool a0_7] 24 (0, 0)) (by (with_reducible repeat (first | refine blk_drewN ?_ _ | refine blk_drew ?_ | refine blk_alloc ?_ _)); exact BK369.out)) : gb374 ≠ gb369)); clear BK369; clear HB; have BK369 := n0_; have HB := n1_; have BK374 := n2_; have GW374 := n3_; have GE374 := n4_; have NB369_374 := n5_; have NB374_369 := n6_; clear n0_ n1_ n2_ n3_ n4_ n5_ n6_; clear hb hbox hg; have hnb13 := NB374_369.out; have hnc13 := NB369_374.out; have hcz14_0 : w12.cell? ⟨gb374, 0, none⟩ = some (.string (⟨#[]⟩ : ByteArray)) := (blk_cell BK374.out 0).trans rfl; have hcz14_1 : w12.cell? ⟨gb374, 1, none⟩ = some (.int .u32 0) := (blk_cell BK374.out 1).trans rfl; have hcz14_2 : w12.cell? ⟨gb374, 2, none⟩ = some (.int .u32 0) := (blk_cell BK374.out 2).trans rfl; have hcz14_3 : w12.cell? ⟨gb374, 3, none⟩ = some (.int .u8 0) := (blk_cell BK374.out 3).trans rfl; have hfz14_0 := blk_frozen BK374.out 0; have hfz14_1 := blk_frozen BK374.out 1; have hfz14_2 := blk_frozen BK374.out 2; have hfz14_3 := blk_frozen BK374.out 3))
    (try simp only [Act.put, List.setIfInBounds_toArray, List.set_cons_zero, List.set_cons_succ])
    go_cut [52] (fun v52 wc => ∃ (kq : Nat) (x52_8 : Bool), v52 = .bool x52_8 ∧ Aside0 (mezzanineref09_Right.j1 kq x52_8 a0_0 a0_1 a0_2 a0_3 a0_4 a0_5 a0_6 a0_7 t370 t371 t372 t373 = some r) ∧ Aside0 (kq ≤ kj1) ∧ Aside0 (wc.heap[gb369]? = some (.cells #[.int .i64 a0_0, .int .i64 a0_1, .int .i64 a0_2, .int .i64 a0_3, .int .i64 a0_4, .int .i64 a0_5, .bool a0_6, .bool a0_7] 24 (0, 0))) ∧ Aside0 (wc.heap[gb374]? = some (.cells #[.string t370, .int .u32 t371, .int .u32 t372, .int .u8 t373] 61 (0, 0))) ∧ Aside0 (Below w.heap.size w wc))
    case first =>
     have H := HC9.out
     clear HC9
     by_cases c15 : a0_1 < 0
     ·rw [if_pos c15] at H
      have c15b0 : decide (a0_1 < 0) = true := decide_eq_true c15
      clear c15
      (first | rw [c15b0] | (simp only [i64_w, i32_w]; rw [c15b0]) | skip)
      have H' := Aside0.mk H
      clear H
      have hnb16 := NB369_374.out
      have hnc16 := NB374_369.out
      have hcz17_0 : w12.cell? ⟨gb369, 0, none⟩ = some (.int .i64 a0_0) := (blk_cell BK369.out 0).trans rfl
      have hcz17_1 : w12.cell? ⟨gb369, 1, none⟩ = some (.int .i64 a0_1) := (blk_cell BK369.out 1).trans rfl
      have hcz17_2 : w12.cell? ⟨gb369, 2, none⟩ = some (.int .i64 a0_2) := (blk_cell BK369.out 2).trans rfl
      have hcz17_3 : w12.cell? ⟨gb369, 3, none⟩ = some (.int .i64 a0_3) := (blk_cell BK369.out 3).trans rfl
      have hcz17_4 : w12.cell? ⟨gb369, 4, none⟩ = some (.int .i64 a0_4) := (blk_cell BK369.out 4).trans rfl
      have hcz17_5 : w12.cell? ⟨gb369, 5, none⟩ = some (.int .i64 a0_5) := (blk_cell BK369.out 5).trans rfl
      have hcz17_6 : w12.cell? ⟨gb369, 6, none⟩ = some (.bool a0_6) := (blk_cell BK369.out 6).trans rfl
      have hcz17_7 : w12.cell? ⟨gb369, 7, none⟩ = some (.bool a0_7) := (blk_cell BK369.out 7).trans rfl
      have hfz17_0 := blk_frozen BK369.out 0
      have hfz17_1 := blk_frozen BK369.out 1
      have hfz17_2 := blk_frozen BK369.out 2
      have hfz17_3 := blk_frozen BK369.out 3
      have hfz17_4 := blk_frozen BK369.out 4
      have hfz17_5 := blk_frozen BK369.out 5
      have hfz17_6 := blk_frozen BK369.out 6
      have hfz17_7 := blk_frozen BK369.out 7
      go_wp2
      go_meet
      case rel => exact ⟨_, (true), (by first | rfl | (simp; done) | (simp [*]; done)), H', ⟨by have := HJ1.out; first | omega | exact Nat.le_refl _⟩, ⟨by (with_reducible repeat (first | refine blk_drewN ?_ _ | refine blk_drew ?_ | refine blk_alloc ?_ _)); refine blk_far ?_ NB369_374.out _; (with_reducible repeat (first | refine blk_drewN ?_ _ | refine blk_drew ?_ | refine blk_alloc ?_ _)); refine blk_far ?_ NB369_374.out _; (with_reducible repeat (first | refine blk_drewN ?_ _ | refine blk_drew ?_ | refine blk_alloc ?_ _)); refine blk_far ?_ NB369_374.out _; (with_reducible repeat (first | refine blk_drewN ?_ _ | refine blk_drew ?_ | refine blk_alloc ?_ _)); refine blk_far ?_ NB369_374.out _; (with_reducible repeat (first | refine blk_drewN ?_ _ | refine blk_drew ?_ | refine blk_alloc ?_ _)); exact BK369.out⟩, ⟨by (with_reducible repeat (first | refine blk_drewN ?_ _ | refine blk_drew ?_ | refine blk_alloc ?_ _)); refine blk_put (cs := #[.string t370, .int .u32 t371, .int .u32 t372, .int .u8 0]) ?_ 3 _ rfl; (with_reducible repeat (first | refine blk_drewN ?_ _ | refine blk_drew ?_ | refine blk_alloc ?_ _)); refine blk_put (cs := #[.string t370, .int .u32 t371, .int .u32 0, .int .u8 0]) ?_ 2 _ rfl; (with_reducible repeat (first | refine blk_drewN ?_ _ | refine blk_drew ?_ | refine blk_alloc ?_ _)); refine blk_put (cs := #[.string t370, .int .u32 0, .int .u32 0, .int .u8 0]) ?_ 1 _ rfl; (with_reducible repeat (first | refine blk_drewN ?_ _ | refine blk_drew ?_ | refine blk_alloc ?_ _)); refine blk_put (cs := #[.string (⟨#[]⟩ : ByteArray), .int .u32 0, .int .u32 0, .int .u8 0]) ?_ 0 _ rfl; (with_reducible repeat (first | refine blk_drewN ?_ _ | refine blk_drew ?_ | refine blk_alloc ?_ _)); exact BK374.out⟩, ⟨by repeat (first | (with_reducible first | exact HB.out | apply below_alloc | apply pw_below_drewN | apply below_drew1 | refine below_set ?_ GE369.out | refine below_set ?_ GE374.out) | exact HB.out)⟩⟩
     ·rw [if_neg c15] at H
      have c15b0 : decide (a0_1 < 0) = false := decide_eq_false c15
      clear c15
      (first | rw [c15b0] | (simp only [i64_w, i32_w]; rw [c15b0]) | skip)
      by_cases c18 : a0_1 > 31
      ·rw [if_pos c18] at H
       have c18b0 : decide (31 < a0_1) = true := decide_eq_true c18
       clear c18
       have H' := Aside0.mk H
       clear H
       have hnb19 := NB369_374.out
       have hnc19 := NB374_369.out
       have hcz20_0 : w12.cell? ⟨gb369, 0, none⟩ = some (.int .i64 a0_0) := (blk_cell BK369.out 0).trans rfl
       have hcz20_1 : w12.cell? ⟨gb369, 1, none⟩ = some (.int .i64 a0_1) := (blk_cell BK369.out 1).trans rfl
       have hcz20_2 : w12.cell? ⟨gb369, 2, none⟩ = some (.int .i64 a0_2) := (blk_cell BK369.out 2).trans rfl
       have hcz20_3 : w12.cell? ⟨gb369, 3, none⟩ = some (.int .i64 a0_3) := (blk_cell BK369.out 3).trans rfl
       have hcz20_4 : w12.cell? ⟨gb369, 4, none⟩ = some (.int .i64 a0_4) := (blk_cell BK369.out 4).trans rfl
       have hcz20_5 : w12.cell? ⟨gb369, 5, none⟩ = some (.int .i64 a0_5) := (blk_cell BK369.out 5).trans rfl
       have hcz20_6 : w12.cell? ⟨gb369, 6, none⟩ = some (.bool a0_6) := (blk_cell BK369.out 6).trans rfl
       have hcz20_7 : w12.cell? ⟨gb369, 7, none⟩ = some (.bool a0_7) := (blk_cell BK369.out 7).trans rfl
       have hfz20_0 := blk_frozen BK369.out 0
       have hfz20_1 := blk_frozen BK369.out 1
       have hfz20_2 := blk_frozen BK369.out 2
       have hfz20_3 := blk_frozen BK369.out 3
       have hfz20_4 := blk_frozen BK369.out 4
       have hfz20_5 := blk_frozen BK369.out 5
       have hfz20_6 := blk_frozen BK369.out 6
       have hfz20_7 := blk_frozen BK369.out 7
       go_wp2
       go_meet
       case rel => exact ⟨_, (true), (by first | rfl | (simp; done) | (simp [*]; done)), H', ⟨by have := HJ1.out; first | omega | exact Nat.le_refl _⟩, ⟨by (with_reducible repeat (first | refine blk_drewN ?_ _ | refine blk_drew ?_ | refine blk_alloc ?_ _)); refine blk_far ?_ NB369_374.out _; (with_reducible repeat (first | refine blk_drewN ?_ _ | refine blk_drew ?_ | refine blk_alloc ?_ _)); refine blk_far ?_ NB369_374.out _; (with_reducible repeat (first | refine blk_drewN ?_ _ | refine blk_drew ?_ | refine blk_alloc ?_ _)); refine blk_far ?_ NB369_374.out _; (with_reducible repeat (first | refine blk_drewN ?_ _ | refine blk_drew ?_ | refine blk_alloc ?_ _)); refine blk_far ?_ NB369_374.out _; (with_reducible repeat (first | refine blk_drewN ?_ _ | refine blk_drew ?_ | refine blk_alloc ?_ _)); exact BK369.out⟩, ⟨by (with_reducible repeat (first | refine blk_drewN ?_ _ | refine blk_drew ?_ | refine blk_alloc ?_ _)); refine blk_put (cs := #[.string t370, .int .u32 t371, .int .u32 t372, .int .u8 0]) ?_ 3 _ rfl; (with_reducible repeat (first | refine blk_drewN ?_ _ | refine blk_drew ?_ | refine blk_alloc ?_ _)); refine blk_put (cs := #[.string t370, .int .u32 t371, .int .u32 0, .int .u8 0]) ?_ 2 _ rfl; (with_reducible repeat (first | refine blk_drewN ?_ _ | refine blk_drew ?_ | refine blk_alloc ?_ _)); refine blk_put (cs := #[.string t370, .int .u32 0, .int .u32 0, .int .u8 0]) ?_ 1 _ rfl; (with_reducible repeat (first | refine blk_drewN ?_ _ | refine blk_drew ?_ | refine blk_alloc ?_ _)); refine blk_put (cs := #[.string (⟨#[]⟩ : ByteArray), .int .u32 0, .int .u32 0, .int .u8 0]) ?_ 0 _ rfl; (with_reducible repeat (first | refine blk_drewN ?_ _ | refine blk_drew ?_ | refine blk_alloc ?_ _)); exact BK374.out⟩, ⟨by repeat (first | (with_reducible first | exact HB.out | apply below_alloc | apply pw_below_drewN | apply below_drew1 | refine below_set ?_ GE369.out | refine below_set ?_ GE374.out) | exact HB.out)⟩⟩
      ·rw [if_neg c18] at H
       have c18b0 : decide (31 < a0_1) = false := decide_eq_false c18
       clear c18
       by_cases c21 : a0_2 < 0
       ·rw [if_pos c21] at H
        have c21b0 : decide (a0_2 < 0) = true := decide_eq_true c21
        clear c21
        have H' := Aside0.mk H
        clear H
        have hnb22 := NB369_374.out
        have hnc22 := NB374_369.out
        have hcz23_0 : w12.cell? ⟨gb369, 0, none⟩ = some (.int .i64 a0_0) := (blk_cell BK369.out 0).trans rfl
        have hcz23_1 : w12.cell? ⟨gb369, 1, none⟩ = some (.int .i64 a0_1) := (blk_cell BK369.out 1).trans rfl
        have hcz23_2 : w12.cell? ⟨gb369, 2, none⟩ = some (.int .i64 a0_2) := (blk_cell BK369.out 2).trans rfl
        have hcz23_3 : w12.cell? ⟨gb369, 3, none⟩ = some (.int .i64 a0_3) := (blk_cell BK369.out 3).trans rfl
        have hcz23_4 : w12.cell? ⟨gb369, 4, none⟩ = some (.int .i64 a0_4) := (blk_cell BK369.out 4).trans rfl
        have hcz23_5 : w12.cell? ⟨gb369, 5, none⟩ = some (.int .i64 a0_5) := (blk_cell BK369.out 5).trans rfl
        have hcz23_6 : w12.cell? ⟨gb369, 6, none⟩ = some (.bool a0_6) := (blk_cell BK369.out 6).trans rfl
        have hcz23_7 : w12.cell? ⟨gb369, 7, none⟩ = some (.bool a0_7) := (blk_cell BK369.out 7).trans rfl
        have hfz23_0 := blk_frozen BK369.out 0
        have hfz23_1 := blk_frozen BK369.out 1
        have hfz23_2 := blk_frozen BK369.out 2
        have hfz23_3 := blk_frozen BK369.out 3
        have hfz23_4 := blk_frozen BK369.out 4
        have hfz23_5 := blk_frozen BK369.out 5
        have hfz23_6 := blk_frozen BK369.out 6
        have hfz23_7 := blk_frozen BK369.out 7
        go_wp2
        go_meet
        case rel => exact ⟨_, (true), (by first | rfl | (simp; done) | (simp [*]; done)), H', ⟨by have := HJ1.out; first | omega | exact Nat.le_refl _⟩, ⟨by (with_reducible repeat (first | refine blk_drewN ?_ _ | refine blk_drew ?_ | refine blk_alloc ?_ _)); refine blk_far ?_ NB369_374.out _; (with_reducible repeat (first | refine blk_drewN ?_ _ | refine blk_drew ?_ | refine blk_alloc ?_ _)); refine blk_far ?_ NB369_374.out _; (with_reducible repeat (first | refine blk_drewN ?_ _ | refine blk_drew ?_ | refine blk_alloc ?_ _)); refine blk_far ?_ NB369_374.out _; (with_reducible repeat (first | refine blk_drewN ?_ _ | refine blk_drew ?_ | refine blk_alloc ?_ _)); refine blk_far ?_ NB369_374.out _; (with_reducible repeat (first | refine blk_drewN ?_ _ | refine blk_drew ?_ | refine blk_alloc ?_ _)); exact BK369.out⟩, ⟨by (with_reducible repeat (first | refine blk_drewN ?_ _ | refine blk_drew ?_ | refine blk_alloc ?_ _)); refine blk_put (cs := #[.string t370, .int .u32 t371, .int .u32 t372, .int .u8 0]) ?_ 3 _ rfl; (with_reducible repeat (first | refine blk_drewN ?_ _ | refine blk_drew ?_ | refine blk_alloc ?_ _)); refine blk_put (cs := #[.string t370, .int .u32 t371, .int .u32 0, .int .u8 0]) ?_ 2 _ rfl; (with_reducible repeat (first | refine blk_drewN ?_ _ | refine blk_drew ?_ | refine blk_alloc ?_ _)); refine blk_put (cs := #[.string t370, .int .u32 0, .int .u32 0, .int .u8 0]) ?_ 1 _ rfl; (with_reducible repeat (first | refine blk_drewN ?_ _ | refine blk_drew ?_ | refine blk_alloc ?_ _)); refine blk_put (cs := #[.string (⟨#[]⟩ : ByteArray), .int .u32 0, .int .u32 0, .int .u8 0]) ?_ 0 _ rfl; (with_reducible repeat (first | refine blk_drewN ?_ _ | refine blk_drew ?_ | refine blk_alloc ?_ _)); exact BK374.out⟩, ⟨by repeat (first | (with_reducible first | exact HB.out | apply below_alloc | apply pw_below_drewN | apply below_drew1 | refine below_set ?_ GE369.out | refine below_set ?_ GE374.out) | exact HB.out)⟩⟩
       ·rw [if_neg c21] at H
        have c21b0 : decide (a0_2 < 0) = false := decide_eq_false c21
        clear c21
        by_cases c24 : a0_2 > 31
        ·rw [if_pos c24] at H
         have c24b0 : decide (31 < a0_2) = true := decide_eq_true c24
         clear c24
         have H' := Aside0.mk H
         clear H
         have hnb25 := NB369_374.out
         have hnc25 := NB374_369.out
         have hcz26_0 : w12.cell? ⟨gb369, 0, none⟩ = some (.int .i64 a0_0) := (blk_cell BK369.out 0).trans rfl
         have hcz26_1 : w12.cell? ⟨gb369, 1, none⟩ = some (.int .i64 a0_1) := (blk_cell BK369.out 1).trans rfl
         have hcz26_2 : w12.cell? ⟨gb369, 2, none⟩ = some (.int .i64 a0_2) := (blk_cell BK369.out 2).trans rfl
         have hcz26_3 : w12.cell? ⟨gb369, 3, none⟩ = some (.int .i64 a0_3) := (blk_cell BK369.out 3).trans rfl
         have hcz26_4 : w12.cell? ⟨gb369, 4, none⟩ = some (.int .i64 a0_4) := (blk_cell BK369.out 4).trans rfl
         have hcz26_5 : w12.cell? ⟨gb369, 5, none⟩ = some (.int .i64 a0_5) := (blk_cell BK369.out 5).trans rfl
         have hcz26_6 : w12.cell? ⟨gb369, 6, none⟩ = some (.bool a0_6) := (blk_cell BK369.out 6).trans rfl
         have hcz26_7 : w12.cell? ⟨gb369, 7, none⟩ = some (.bool a0_7) := (blk_cell BK369.out 7).trans rfl
         have hfz26_0 := blk_frozen BK369.out 0
         have hfz26_1 := blk_frozen BK369.out 1
         have hfz26_2 := blk_frozen BK369.out 2
         have hfz26_3 := blk_frozen BK369.out 3
         have hfz26_4 := blk_frozen BK369.out 4
         have hfz26_5 := blk_frozen BK369.out 5
         have hfz26_6 := blk_frozen BK369.out 6
         have hfz26_7 := blk_frozen BK369.out 7
         go_wp2
         go_meet
         case rel => exact ⟨_, (true), (by first | rfl | (simp; done) | (simp [*]; done)), H', ⟨by have := HJ1.out; first | omega | exact Nat.le_refl _⟩, ⟨by (with_reducible repeat (first | refine blk_drewN ?_ _ | refine blk_drew ?_ | refine blk_alloc ?_ _)); refine blk_far ?_ NB369_374.out _; (with_reducible repeat (first | refine blk_drewN ?_ _ | refine blk_drew ?_ | refine blk_alloc ?_ _)); refine blk_far ?_ NB369_374.out _; (with_reducible repeat (first | refine blk_drewN ?_ _ | refine blk_drew ?_ | refine blk_alloc ?_ _)); refine blk_far ?_ NB369_374.out _; (with_reducible repeat (first | refine blk_drewN ?_ _ | refine blk_drew ?_ | refine blk_alloc ?_ _)); refine blk_far ?_ NB369_374.out _; (with_reducible repeat (first | refine blk_drewN ?_ _ | refine blk_drew ?_ | refine blk_alloc ?_ _)); exact BK369.out⟩, ⟨by (with_reducible repeat (first | refine blk_drewN ?_ _ | refine blk_drew ?_ | refine blk_alloc ?_ _)); refine blk_put (cs := #[.string t370, .int .u32 t371, .int .u32 t372, .int .u8 0]) ?_ 3 _ rfl; (with_reducible repeat (first | refine blk_drewN ?_ _ | refine blk_drew ?_ | refine blk_alloc ?_ _)); refine blk_put (cs := #[.string t370, .int .u32 t371, .int .u32 0, .int .u8 0]) ?_ 2 _ rfl; (with_reducible repeat (first | refine blk_drewN ?_ _ | refine blk_drew ?_ | refine blk_alloc ?_ _)); refine blk_put (cs := #[.string t370, .int .u32 0, .int .u32 0, .int .u8 0]) ?_ 1 _ rfl; (with_reducible repeat (first | refine blk_drewN ?_ _ | refine blk_drew ?_ | refine blk_alloc ?_ _)); refine blk_put (cs := #[.string (⟨#[]⟩ : ByteArray), .int .u32 0, .int .u32 0, .int .u8 0]) ?_ 0 _ rfl; (with_reducible repeat (first | refine blk_drewN ?_ _ | refine blk_drew ?_ | refine blk_alloc ?_ _)); exact BK374.out⟩, ⟨by repeat (first | (with_reducible first | exact HB.out | apply below_alloc | apply pw_below_drewN | apply below_drew1 | refine below_set ?_ GE369.out | refine below_set ?_ GE374.out) | exact HB.out)⟩⟩
        ·rw [if_neg c24] at H
         have c24b0 : decide (31 < a0_2) = false := decide_eq_false c24
         clear c24
         by_cases c27 : a0_3 < 0
         ·rw [if_pos c27] at H
          have c27b0 : decide (a0_3 < 0) = true := decide_eq_true c27
          clear c27
          have H' := Aside0.mk H
          clear H
          have hnb28 := NB369_374.out
          have hnc28 := NB374_369.out
          have hcz29_0 : w12.cell? ⟨gb369, 0, none⟩ = some (.int .i64 a0_0) := (blk_cell BK369.out 0).trans rfl
          have hcz29_1 : w12.cell? ⟨gb369, 1, none⟩ = some (.int .i64 a0_1) := (blk_cell BK369.out 1).trans rfl
          have hcz29_2 : w12.cell? ⟨gb369, 2, none⟩ = some (.int .i64 a0_2) := (blk_cell BK369.out 2).trans rfl
          have hcz29_3 : w12.cell? ⟨gb369, 3, none⟩ = some (.int .i64 a0_3) := (blk_cell BK369.out 3).trans rfl
          have hcz29_4 : w12.cell? ⟨gb369, 4, none⟩ = some (.int .i64 a0_4) := (blk_cell BK369.out 4).trans rfl
          have hcz29_5 : w12.cell? ⟨gb369, 5, none⟩ = some (.int .i64 a0_5) := (blk_cell BK369.out 5).trans rfl
          have hcz29_6 : w12.cell? ⟨gb369, 6, none⟩ = some (.bool a0_6) := (blk_cell BK369.out 6).trans rfl
          have hcz29_7 : w12.cell? ⟨gb369, 7, none⟩ = some (.bool a0_7) := (blk_cell BK369.out 7).trans rfl
          have hfz29_0 := blk_frozen BK369.out 0
          have hfz29_1 := blk_frozen BK369.out 1
          have hfz29_2 := blk_frozen BK369.out 2
          have hfz29_3 := blk_frozen BK369.out 3
          have hfz29_4 := blk_frozen BK369.out 4
          have hfz29_5 := blk_frozen BK369.out 5
          have hfz29_6 := blk_frozen BK369.out 6
          have hfz29_7 := blk_frozen BK369.out 7
          go_wp2
          go_meet
          case rel => exact ⟨_, (true), (by first | rfl | (simp; done) | (simp [*]; done)), H', ⟨by have := HJ1.out; first | omega | exact Nat.le_refl _⟩, ⟨by (with_reducible repeat (first | refine blk_drewN ?_ _ | refine blk_drew ?_ | refine blk_alloc ?_ _)); refine blk_far ?_ NB369_374.out _; (with_reducible repeat (first | refine blk_drewN ?_ _ | refine blk_drew ?_ | refine blk_alloc ?_ _)); refine blk_far ?_ NB369_374.out _; (with_reducible repeat (first | refine blk_drewN ?_ _ | refine blk_drew ?_ | refine blk_alloc ?_ _)); refine blk_far ?_ NB369_374.out _; (with_reducible repeat (first | refine blk_drewN ?_ _ | refine blk_drew ?_ | refine blk_alloc ?_ _)); refine blk_far ?_ NB369_374.out _; (with_reducible repeat (first | refine blk_drewN ?_ _ | refine blk_drew ?_ | refine blk_alloc ?_ _)); exact BK369.out⟩, ⟨by (with_reducible repeat (first | refine blk_drewN ?_ _ | refine blk_drew ?_ | refine blk_alloc ?_ _)); refine blk_put (cs := #[.string t370, .int .u32 t371, .int .u32 t372, .int .u8 0]) ?_ 3 _ rfl; (with_reducible repeat (first | refine blk_drewN ?_ _ | refine blk_drew ?_ | refine blk_alloc ?_ _)); refine blk_put (cs := #[.string t370, .int .u32 t371, .int .u32 0, .int .u8 0]) ?_ 2 _ rfl; (with_reducible repeat (first | refine blk_drewN ?_ _ | refine blk_drew ?_ | refine blk_alloc ?_ _)); refine blk_put (cs := #[.string t370, .int .u32 0, .int .u32 0, .int .u8 0]) ?_ 1 _ rfl; (with_reducible repeat (first | refine blk_drewN ?_ _ | refine blk_drew ?_ | refine blk_alloc ?_ _)); refine blk_put (cs := #[.string (⟨#[]⟩ : ByteArray), .int .u32 0, .int .u32 0, .int .u8 0]) ?_ 0 _ rfl; (with_reducible repeat (first | refine blk_drewN ?_ _ | refine blk_drew ?_ | refine blk_alloc ?_ _)); exact BK374.out⟩, ⟨by repeat (first | (with_reducible first | exact HB.out | apply below_alloc | apply pw_below_drewN | apply below_drew1 | refine below_set ?_ GE369.out | refine below_set ?_ GE374.out) | exact HB.out)⟩⟩
         ·rw [if_neg c27] at H
          have c27b0 : decide (a0_3 < 0) = false := decide_eq_false c27
          clear c27
          by_cases c30 : a0_3 > 31
          ·rw [if_pos c30] at H
           have c30b0 : decide (31 < a0_3) = true := decide_eq_true c30
           clear c30
           have H' := Aside0.mk H
           clear H
           have hnb31 := NB369_374.out
           have hnc31 := NB374_369.out
           have hcz32_0 : w12.cell? ⟨gb369, 0, none⟩ = some (.int .i64 a0_0) := (blk_cell BK369.out 0).trans rfl
           have hcz32_1 : w12.cell? ⟨gb369, 1, none⟩ = some (.int .i64 a0_1) := (blk_cell BK369.out 1).trans rfl
           have hcz32_2 : w12.cell? ⟨gb369, 2, none⟩ = some (.int .i64 a0_2) := (blk_cell BK369.out 2).trans rfl
           have hcz32_3 : w12.cell? ⟨gb369, 3, none⟩ = some (.int .i64 a0_3) := (blk_cell BK369.out 3).trans rfl
           have hcz32_4 : w12.cell? ⟨gb369, 4, none⟩ = some (.int .i64 a0_4) := (blk_cell BK369.out 4).trans rfl
           have hcz32_5 : w12.cell? ⟨gb369, 5, none⟩ = some (.int .i64 a0_5) := (blk_cell BK369.out 5).trans rfl
           have hcz32_6 : w12.cell? ⟨gb369, 6, none⟩ = some (.bool a0_6) := (blk_cell BK369.out 6).trans rfl
           have hcz32_7 : w12.cell? ⟨gb369, 7, none⟩ = some (.bool a0_7) := (blk_cell BK369.out 7).trans rfl
           have hfz32_0 := blk_frozen BK369.out 0
           have hfz32_1 := blk_frozen BK369.out 1
           have hfz32_2 := blk_frozen BK369.out 2
           have hfz32_3 := blk_frozen BK369.out 3
           have hfz32_4 := blk_frozen BK369.out 4
           have hfz32_5 := blk_frozen BK369.out 5
           have hfz32_6 := blk_frozen BK369.out 6
           have hfz32_7 := blk_frozen BK369.out 7
           go_wp2
           go_meet
           case rel => exact ⟨_, (true), (by first | rfl | (simp; done) | (simp [*]; done)), H', ⟨by have := HJ1.out; first | omega | exact Nat.le_refl _⟩, ⟨by (with_reducible repeat (first | refine blk_drewN ?_ _ | refine blk_drew ?_ | refine blk_alloc ?_ _)); refine blk_far ?_ NB369_374.out _; (with_reducible repeat (first | refine blk_drewN ?_ _ | refine blk_drew ?_ | refine blk_alloc ?_ _)); refine blk_far ?_ NB369_374.out _; (with_reducible repeat (first | refine blk_drewN ?_ _ | refine blk_drew ?_ | refine blk_alloc ?_ _)); refine blk_far ?_ NB369_374.out _; (with_reducible repeat (first | refine blk_drewN ?_ _ | refine blk_drew ?_ | refine blk_alloc ?_ _)); refine blk_far ?_ NB369_374.out _; (with_reducible repeat (first | refine blk_drewN ?_ _ | refine blk_drew ?_ | refine blk_alloc ?_ _)); exact BK369.out⟩, ⟨by (with_reducible repeat (first | refine blk_drewN ?_ _ | refine blk_drew ?_ | refine blk_alloc ?_ _)); refine blk_put (cs := #[.string t370, .int .u32 t371, .int .u32 t372, .int .u8 0]) ?_ 3 _ rfl; (with_reducible repeat (first | refine blk_drewN ?_ _ | refine blk_drew ?_ | refine blk_alloc ?_ _)); refine blk_put (cs := #[.string t370, .int .u32 t371, .int .u32 0, .int .u8 0]) ?_ 2 _ rfl; (with_reducible repeat (first | refine blk_drewN ?_ _ | refine blk_drew ?_ | refine blk_alloc ?_ _)); refine blk_put (cs := #[.string t370, .int .u32 0, .int .u32 0, .int .u8 0]) ?_ 1 _ rfl; (with_reducible repeat (first | refine blk_drewN ?_ _ | refine blk_drew ?_ | refine blk_alloc ?_ _)); refine blk_put (cs := #[.string (⟨#[]⟩ : ByteArray), .int .u32 0, .int .u32 0, .int .u8 0]) ?_ 0 _ rfl; (with_reducible repeat (first | refine blk_drewN ?_ _ | refine blk_drew ?_ | refine blk_alloc ?_ _)); exact BK374.out⟩, ⟨by repeat (first | (with_reducible first | exact HB.out | apply below_alloc | apply pw_below_drewN | apply below_drew1 | refine below_set ?_ GE369.out | refine below_set ?_ GE374.out) | exact HB.out)⟩⟩
          ·rw [if_neg c30] at H
           have c30b0 : decide (31 < a0_3) = false := decide_eq_false c30
           clear c30
           by_cases c33 : a0_5 < 0
           ·rw [if_pos c33] at H
            have c33b0 : decide (a0_5 < 0) = true := decide_eq_true c33
            clear c33
            have H' := Aside0.mk H
            clear H
            have hnb34 := NB369_374.out
            have hnc34 := NB374_369.out
            have hcz35_0 : w12.cell? ⟨gb369, 0, none⟩ = some (.int .i64 a0_0) := (blk_cell BK369.out 0).trans rfl
            have hcz35_1 : w12.cell? ⟨gb369, 1, none⟩ = some (.int .i64 a0_1) := (blk_cell BK369.out 1).trans rfl
            have hcz35_2 : w12.cell? ⟨gb369, 2, none⟩ = some (.int .i64 a0_2) := (blk_cell BK369.out 2).trans rfl
            have hcz35_3 : w12.cell? ⟨gb369, 3, none⟩ = some (.int .i64 a0_3) := (blk_cell BK369.out 3).trans rfl
            have hcz35_4 : w12.cell? ⟨gb369, 4, none⟩ = some (.int .i64 a0_4) := (blk_cell BK369.out 4).trans rfl
            have hcz35_5 : w12.cell? ⟨gb369, 5, none⟩ = some (.int .i64 a0_5) := (blk_cell BK369.out 5).trans rfl
            have hcz35_6 : w12.cell? ⟨gb369, 6, none⟩ = some (.bool a0_6) := (blk_cell BK369.out 6).trans rfl
            have hcz35_7 : w12.cell? ⟨gb369, 7, none⟩ = some (.bool a0_7) := (blk_cell BK369.out 7).trans rfl
            have hfz35_0 := blk_frozen BK369.out 0
            have hfz35_1 := blk_frozen BK369.out 1
            have hfz35_2 := blk_frozen BK369.out 2
            have hfz35_3 := blk_frozen BK369.out 3
            have hfz35_4 := blk_frozen BK369.out 4
            have hfz35_5 := blk_frozen BK369.out 5
            have hfz35_6 := blk_frozen BK369.out 6
            have hfz35_7 := blk_frozen BK369.out 7
            go_wp2
            go_meet
            case rel => exact ⟨_, (true), (by first | rfl | (simp; done) | (simp [*]; done)), H', ⟨by have := HJ1.out; first | omega | exact Nat.le_refl _⟩, ⟨by (with_reducible repeat (first | refine blk_drewN ?_ _ | refine blk_drew ?_ | refine blk_alloc ?_ _)); refine blk_far ?_ NB369_374.out _; (with_reducible repeat (first | refine blk_drewN ?_ _ | refine blk_drew ?_ | refine blk_alloc ?_ _)); refine blk_far ?_ NB369_374.out _; (with_reducible repeat (first | refine blk_drewN ?_ _ | refine blk_drew ?_ | refine blk_alloc ?_ _)); refine blk_far ?_ NB369_374.out _; (with_reducible repeat (first | refine blk_drewN ?_ _ | refine blk_drew ?_ | refine blk_alloc ?_ _)); refine blk_far ?_ NB369_374.out _; (with_reducible repeat (first | refine blk_drewN ?_ _ | refine blk_drew ?_ | refine blk_alloc ?_ _)); exact BK369.out⟩, ⟨by (with_reducible repeat (first | refine blk_drewN ?_ _ | refine blk_drew ?_ | refine blk_alloc ?_ _)); refine blk_put (cs := #[.string t370, .int .u32 t371, .int .u32 t372, .int .u8 0]) ?_ 3 _ rfl; (with_reducible repeat (first | refine blk_drewN ?_ _ | refine blk_drew ?_ | refine blk_alloc ?_ _)); refine blk_put (cs := #[.string t370, .int .u32 t371, .int .u32 0, .int .u8 0]) ?_ 2 _ rfl; (with_reducible repeat (first | refine blk_drewN ?_ _ | refine blk_drew ?_ | refine blk_alloc ?_ _)); refine blk_put (cs := #[.string t370, .int .u32 0, .int .u32 0, .int .u8 0]) ?_ 1 _ rfl; (with_reducible repeat (first | refine blk_drewN ?_ _ | refine blk_drew ?_ | refine blk_alloc ?_ _)); refine blk_put (cs := #[.string (⟨#[]⟩ : ByteArray), .int .u32 0, .int .u32 0, .int .u8 0]) ?_ 0 _ rfl; (with_reducible repeat (first | refine blk_drewN ?_ _ | refine blk_drew ?_ | refine blk_alloc ?_ _)); exact BK374.out⟩, ⟨by repeat (first | (with_reducible first | exact HB.out | apply below_alloc | apply pw_below_drewN | apply below_drew1 | refine below_set ?_ GE369.out | refine below_set ?_ GE374.out) | exact HB.out)⟩⟩
           ·rw [if_neg c33] at H
            have c33b0 : decide (a0_5 < 0) = false := decide_eq_false c33
            clear c33
            have H' := Aside0.mk H
            clear H
            have hnb36 := NB369_374.out
            have hnc36 := NB374_369.out
            have hcz37_0 : w12.cell? ⟨gb369, 0, none⟩ = some (.int .i64 a0_0) := (blk_cell BK369.out 0).trans rfl
            have hcz37_1 : w12.cell? ⟨gb369, 1, none⟩ = some (.int .i64 a0_1) := (blk_cell BK369.out 1).trans rfl
            have hcz37_2 : w12.cell? ⟨gb369, 2, none⟩ = some (.int .i64 a0_2) := (blk_cell BK369.out 2).trans rfl
            have hcz37_3 : w12.cell? ⟨gb369, 3, none⟩ = some (.int .i64 a0_3) := (blk_cell BK369.out 3).trans rfl
            have hcz37_4 : w12.cell? ⟨gb369, 4, none⟩ = some (.int .i64 a0_4) := (blk_cell BK369.out 4).trans rfl
            have hcz37_5 : w12.cell? ⟨gb369, 5, none⟩ = some (.int .i64 a0_5) := (blk_cell BK369.out 5).trans rfl
            have hcz37_6 : w12.cell? ⟨gb369, 6, none⟩ = some (.bool a0_6) := (blk_cell BK369.out 6).trans rfl
            have hcz37_7 : w12.cell? ⟨gb369, 7, none⟩ = some (.bool a0_7) := (blk_cell BK369.out 7).trans rfl
            have hfz37_0 := blk_frozen BK369.out 0
            have hfz37_1 := blk_frozen BK369.out 1
            have hfz37_2 := blk_frozen BK369.out 2
            have hfz37_3 := blk_frozen BK369.out 3
            have hfz37_4 := blk_frozen BK369.out 4
            have hfz37_5 := blk_frozen BK369.out 5
            have hfz37_6 := blk_frozen BK369.out 6
            have hfz37_7 := blk_frozen BK369.out 7
            go_wp2
            go_meet
            case rel => exact ⟨_, (decide (a0_5 > 4095)), (by first | rfl | (simp; done) | (simp [*]; done)), H', ⟨by have := HJ1.out; first | omega | exact Nat.le_refl _⟩, ⟨by (with_reducible repeat (first | refine blk_drewN ?_ _ | refine blk_drew ?_ | refine blk_alloc ?_ _)); refine blk_far ?_ NB369_374.out _; (with_reducible repeat (first | refine blk_drewN ?_ _ | refine blk_drew ?_ | refine blk_alloc ?_ _)); refine blk_far ?_ NB369_374.out _; (with_reducible repeat (first | refine blk_drewN ?_ _ | refine blk_drew ?_ | refine blk_alloc ?_ _)); refine blk_far ?_ NB369_374.out _; (with_reducible repeat (first | refine blk_drewN ?_ _ | refine blk_drew ?_ | refine blk_alloc ?_ _)); refine blk_far ?_ NB369_374.out _; (with_reducible repeat (first | refine blk_drewN ?_ _ | refine blk_drew ?_ | refine blk_alloc ?_ _)); exact BK369.out⟩, ⟨by (with_reducible repeat (first | refine blk_drewN ?_ _ | refine blk_drew ?_ | refine blk_alloc ?_ _)); refine blk_put (cs := #[.string t370, .int .u32 t371, .int .u32 t372, .int .u8 0]) ?_ 3 _ rfl; (with_reducible repeat (first | refine blk_drewN ?_ _ | refine blk_drew ?_ | refine blk_alloc ?_ _)); refine blk_put (cs := #[.string t370, .int .u32 t371, .int .u32 0, .int .u8 0]) ?_ 2 _ rfl; (with_reducible repeat (first | refine blk_drewN ?_ _ | refine blk_drew ?_ | refine blk_alloc ?_ _)); refine blk_put (cs := #[.string t370, .int .u32 0, .int .u32 0, .int .u8 0]) ?_ 1 _ rfl; (with_reducible repeat (first | refine blk_drewN ?_ _ | refine blk_drew ?_ | refine blk_alloc ?_ _)); refine blk_put (cs := #[.string (⟨#[]⟩ : ByteArray), .int .u32 0, .int .u32 0, .int .u8 0]) ?_ 0 _ rfl; (with_reducible repeat (first | refine blk_drewN ?_ _ | refine blk_drew ?_ | refine blk_alloc ?_ _)); exact BK374.out⟩, ⟨by repeat (first | (with_reducible first | exact HB.out | apply below_alloc | apply pw_below_drewN | apply below_drew1 | refine below_set ?_ GE369.out | refine below_set ?_ GE374.out) | exact HB.out)⟩⟩
    case rest =>
     clear HC9
     try clear c1; try clear c2; try clear p2; try clear c3; try clear c4; try clear c4b0; try clear c7; try clear c13; try clear c15; try clear c15b0; try clear c16; try clear c18; try clear c18b0; try clear c19; try clear c21; try clear c21b0; try clear c22; try clear c24; try clear c24b0; try clear c25; try clear c27; try clear c27b0; try clear c28; try clear c30; try clear c30b0; try clear c31; try clear c33; try clear c33b0; try clear c34; try clear c36; try clear hcz10_0; try clear hcz10_1; try clear hcz10_2; try clear hcz10_3; try clear hcz10_4; try clear hcz10_5; try clear hcz10_6; try clear hcz10_7; try clear hcz14_0; try clear hcz14_1; try clear hcz14_2; try clear hcz14_3; try clear hcz17_0; try clear hcz17_1; try clear hcz17_2; try clear hcz17_3; try clear hcz17_4; try clear hcz17_5; try clear hcz17_6; try clear hcz17_7; try clear hcz20_0; try clear hcz20_1; try clear hcz20_2; try clear hcz20_3; try clear hcz20_4; try clear hcz20_5; try clear hcz20_6; try clear hcz20_7; try clear hcz23_0; try clear hcz23_1; try clear hcz23_2; try clear hcz23_3; try clear hcz23_4; try clear hcz23_5; try clear hcz23_6; try clear hcz23_7; try clear hcz26_0; try clear hcz26_1; try clear hcz26_2; try clear hcz26_3; try clear hcz26_4; try clear hcz26_5; try clear hcz26_6; try clear hcz26_7; try clear hcz29_0; try clear hcz29_1; try clear hcz29_2; try clear hcz29_3; try clear hcz29_4; try clear hcz29_5; try clear hcz29_6; try clear hcz29_7; try clear hcz32_0; try clear hcz32_1; try clear hcz32_2; try clear hcz32_3; try clear hcz32_4; try clear hcz32_5; try clear hcz32_6; try clear hcz32_7; try clear hcz35_0; try clear hcz35_1; try clear hcz35_2; try clear hcz35_3; try clear hcz35_4; try clear hcz35_5; try clear hcz35_6; try clear hcz35_7; try clear hcz37_0; try clear hcz37_1; try clear hcz37_2; try clear hcz37_3; try clear hcz37_4; try clear hcz37_5; try clear hcz37_6; try clear hcz37_7; try clear hcz5_0; try clear hcz5_1; try clear hcz5_2; try clear hcz5_3; try clear hcz5_4; try clear hcz5_5; try clear hcz5_6; try clear hcz5_7; try clear hcz6_0; try clear hcz6_1; try clear hcz6_2; try clear hcz6_3; try clear hcz6_4; try clear hcz6_5; try clear hcz6_6; try clear hcz6_7; try clear hfz10_0; try clear hfz10_1; try clear hfz10_2; try clear hfz10_3; try clear hfz10_4; try clear hfz10_5; try clear hfz10_6; try clear hfz10_7; try clear hfz14_0; try clear hfz14_1; try clear hfz14_2; try clear hfz14_3; try clear hfz17_0; try clear hfz17_1; try clear hfz17_2; try clear hfz17_3; try clear hfz17_4; try clear hfz17_5; try clear hfz17_6; try clear hfz17_7; try clear hfz20_0; try clear hfz20_1; try clear hfz20_2; try clear hfz20_3; try clear hfz20_4; try clear hfz20_5; try clear hfz20_6; try clear hfz20_7; try clear hfz23_0; try clear hfz23_1; try clear hfz23_2; try clear hfz23_3; try clear hfz23_4; try clear hfz23_5; try clear hfz23_6; try clear hfz23_7; try clear hfz26_0; try clear hfz26_1; try clear hfz26_2; try clear hfz26_3; try clear hfz26_4; try clear hfz26_5; try clear hfz26_6; try clear hfz26_7; try clear hfz29_0; try clear hfz29_1; try clear hfz29_2; try clear hfz29_3; try clear hfz29_4; try clear hfz29_5; try clear hfz29_6; try clear hfz29_7; try clear hfz32_0; try clear hfz32_1; try clear hfz32_2; try clear hfz32_3; try clear hfz32_4; try clear hfz32_5; try clear hfz32_6; try clear hfz32_7; try clear hfz35_0; try clear hfz35_1; try clear hfz35_2; try clear hfz35_3; try clear hfz35_4; try clear hfz35_5; try clear hfz35_6; try clear hfz35_7; try clear hfz37_0; try clear hfz37_1; try clear hfz37_2; try clear hfz37_3; try clear hfz37_4; try clear hfz37_5; try clear hfz37_6; try clear hfz37_7; try clear hfz5_0; try clear hfz5_1; try clear hfz5_2; try clear hfz5_3; try clear hfz5_4; try clear hfz5_5; try clear hfz5_6; try clear hfz5_7; try clear hfz6_0; try clear hfz6_1; try clear hfz6_2; try clear hfz6_3; try clear hfz6_4; try clear hfz6_5; try clear hfz6_6; try clear hfz6_7; try clear p2
     obtain ⟨kq, x52_8, rfl, HA, HJ8, BK369, BK374, HB⟩ := hcut
     cases kq with
     | zero => exact absurd HA.out (by simp [mezzanineref09_Right.j1])
     | succ kj8 =>
      have H := HA.out
      clear HA
      simp only [mezzanineref09_Right.j1] at H
      by_cases c38 : x52_8 = true
      ·subst c38
       have H1 : (some false) = some r := by rw [if_pos rfl] at H; exact H
       clear H
       have H := H1
       clear H1
       obtain rfl := Option.some.inj H
       go_wp2
       go_ret
       exact ⟨by first | rfl | (simp [errW_none, errW_some] <;> rfl) | (simp [*, errW_none, errW_some] <;> rfl), by repeat (first | (with_reducible first | exact HB.out | apply below_alloc | apply pw_below_drewN | apply below_drew1 | refine below_set ?_ GE369.out | refine below_set ?_ GE374.out) | exact HB.out)⟩
      ·replace c38 := Bool.eq_false_iff.mpr c38
       subst c38
       have H1 : ((mezzanineref09_has.f kj8 t373 (⟨#[85, 74, 73, 72, 87, 82, 76, 65, 67, 90, 86]⟩ : ByteArray)).bind fun t375 => (if t375 = true then ((mezzanineref09_has.f kj8 t373 (⟨#[73, 72, 87, 66, 83, 70, 82, 76, 65, 67, 86]⟩ : ByteArray)).bind fun t376 => (if t376 = true then ((mezzanineref09_has.f kj8 t373 (⟨#[66, 83, 70, 82, 65]⟩ : ByteArray)).bind fun t377 => (if t377 = true then (mezzanineref09_Right.j2 kj8 false a0_0 a0_1 a0_2 a0_3 a0_4 a0_5 a0_6 a0_7 t370 t371 t372 t373) else (mezzanineref09_Right.j2 kj8 (a0_3 != 0) a0_0 a0_1 a0_2 a0_3 a0_4 a0_5 a0_6 a0_7 t370 t371 t372 t373))) else (if a0_2 = 0 then ((mezzanineref09_has.f kj8 t373 (⟨#[66, 83, 70, 82, 65]⟩ : ByteArray)).bind fun t378 => (if t378 = true then (mezzanineref09_Right.j2 kj8 false a0_0 a0_1 a0_2 a0_3 a0_4 a0_5 a0_6 a0_7 t370 t371 t372 t373) else (mezzanineref09_Right.j2 kj8 (a0_3 != 0) a0_0 a0_1 a0_2 a0_3 a0_4 a0_5 a0_6 a0_7 t370 t371 t372 t373))) else (mezzanineref09_Right.j2 kj8 true a0_0 a0_1 a0_2 a0_3 a0_4 a0_5 a0_6 a0_7 t370 t371 t372 t373)))) else (if a0_1 = 0 then ((mezzanineref09_has.f kj8 t373 (⟨#[73, 72, 87, 66, 83, 70, 82, 76, 65, 67, 86]⟩ : ByteArray)).bind fun t379 => (if t379 = true then ((mezzanineref09_has.f kj8 t373 (⟨#[66, 83, 70, 82, 65]⟩ : ByteArray)).bind fun t380 => (if t380 = true then (mezzanineref09_Right.j2 kj8 false a0_0 a0_1 a0_2 a0_3 a0_4 a0_5 a0_6 a0_7 t370 t371 t372 t373) else (mezzanineref09_Right.j2 kj8 (a0_3 != 0) a0_0 a0_1 a0_2 a0_3 a0_4 a0_5 a0_6 a0_7 t370 t371 t372 t373))) else (if a0_2 = 0 then ((mezzanineref09_has.f kj8 t373 (⟨#[66, 83, 70, 82, 65]⟩ : ByteArray)).bind fun t381 => (if t381 = true then (mezzanineref09_Right.j2 kj8 false a0_0 a0_1 a0_2 a0_3 a0_4 a0_5 a0_6 a0_7 t370 t371 t372 t373) else (mezzanineref09_Right.j2 kj8 (a0_3 != 0) a0_0 a0_1 a0_2 a0_3 a0_4 a0_5 a0_6 a0_7 t370 t371 t372 t373))) else (mezzanineref09_Right.j2 kj8 true a0_0 a0_1 a0_2 a0_3 a0_4 a0_5 a0_6 a0_7 t370 t371 t372 t373)))) else (mezzanineref09_Right.j2 kj8 true a0_0 a0_1 a0_2 a0_3 a0_4 a0_5 a0_6 a0_7 t370 t371 t372 t373)))) = some r := by rw [if_neg (show ¬ (false = true) by decide)] at H; exact H
       clear H
       have H := H1
       clear H1
       have HC39 := Aside0.mk H
       clear H
       go_upto_region 6 with (fail)
       go_cut [83] (fun v83 wc => ∃ (kq : Nat) (x83_38 : Bool), v83 = .bool x83_38 ∧ Aside0 (mezzanineref09_Right.j2 kq x83_38 a0_0 a0_1 a0_2 a0_3 a0_4 a0_5 a0_6 a0_7 t370 t371 t372 t373 = some r) ∧ Aside0 (kq ≤ kj8) ∧ Aside0 (wc.heap[gb369]? = some (.cells #[.int .i64 a0_0, .int .i64 a0_1, .int .i64 a0_2, .int .i64 a0_3, .int .i64 a0_4, .int .i64 a0_5, .bool a0_6, .bool a0_7] 24 (0, 0))) ∧ Aside0 (wc.heap[gb374]? = some (.cells #[.string t370, .int .u32 t371, .int .u32 t372, .int .u8 t373] 61 (0, 0))) ∧ Aside0 (Below w.heap.size w wc))
       case first =>
        have H := HC39.out
        clear HC39
        replace H := Option.bind_eq_some_iff.mp H
        obtain ⟨t375, A400, H⟩ := H
        replace H : (if t375 = true then ((mezzanineref09_has.f kj8 t373 (⟨#[73, 72, 87, 66, 83, 70, 82, 76, 65, 67, 86]⟩ : ByteArray)).bind fun t376 => (if t376 = true then ((mezzanineref09_has.f kj8 t373 (⟨#[66, 83, 70, 82, 65]⟩ : ByteArray)).bind fun t377 => (if t377 = true then (mezzanineref09_Right.j2 kj8 false a0_0 a0_1 a0_2 a0_3 a0_4 a0_5 a0_6 a0_7 t370 t371 t372 t373) else (mezzanineref09_Right.j2 kj8 (a0_3 != 0) a0_0 a0_1 a0_2 a0_3 a0_4 a0_5 a0_6 a0_7 t370 t371 t372 t373))) else (if a0_2 = 0 then ((mezzanineref09_has.f kj8 t373 (⟨#[66, 83, 70, 82, 65]⟩ : ByteArray)).bind fun t378 => (if t378 = true then (mezzanineref09_Right.j2 kj8 false a0_0 a0_1 a0_2 a0_3 a0_4 a0_5 a0_6 a0_7 t370 t371 t372 t373) else (mezzanineref09_Right.j2 kj8 (a0_3 != 0) a0_0 a0_1 a0_2 a0_3 a0_4 a0_5 a0_6 a0_7 t370 t371 t372 t373))) else (mezzanineref09_Right.j2 kj8 true a0_0 a0_1 a0_2 a0_3 a0_4 a0_5 a0_6 a0_7 t370 t371 t372 t373)))) else (if a0_1 = 0 then ((mezzanineref09_has.f kj8 t373 (⟨#[73, 72, 87, 66, 83, 70, 82, 76, 65, 67, 86]⟩ : ByteArray)).bind fun t379 => (if t379 = true then ((mezzanineref09_has.f kj8 t373 (⟨#[66, 83, 70, 82, 65]⟩ : ByteArray)).bind fun t380 => (if t380 = true then (mezzanineref09_Right.j2 kj8 false a0_0 a0_1 a0_2 a0_3 a0_4 a0_5 a0_6 a0_7 t370 t371 t372 t373) else (mezzanineref09_Right.j2 kj8 (a0_3 != 0) a0_0 a0_1 a0_2 a0_3 a0_4 a0_5 a0_6 a0_7 t370 t371 t372 t373))) else (if a0_2 = 0 then ((mezzanineref09_has.f kj8 t373 (⟨#[66, 83, 70, 82, 65]⟩ : ByteArray)).bind fun t381 => (if t381 = true then (mezzanineref09_Right.j2 kj8 false a0_0 a0_1 a0_2 a0_3 a0_4 a0_5 a0_6 a0_7 t370 t371 t372 t373) else (mezzanineref09_Right.j2 kj8 (a0_3 != 0) a0_0 a0_1 a0_2 a0_3 a0_4 a0_5 a0_6 a0_7 t370 t371 t372 t373))) else (mezzanineref09_Right.j2 kj8 true a0_0 a0_1 a0_2 a0_3 a0_4 a0_5 a0_6 a0_7 t370 t371 t372 t373)))) else (mezzanineref09_Right.j2 kj8 true a0_0 a0_1 a0_2 a0_3 a0_4 a0_5 a0_6 a0_7 t370 t371 t372 t373))) = some r := H
        have A40 := Aside0.mk A400
        clear A400
        by_cases c41 : t375 = true
        ·subst c41
         have H1 : ((mezzanineref09_has.f kj8 t373 (⟨#[73, 72, 87, 66, 83, 70, 82, 76, 65, 67, 86]⟩ : ByteArray)).bind fun t376 => (if t376 = true then ((mezzanineref09_has.f kj8 t373 (⟨#[66, 83, 70, 82, 65]⟩ : ByteArray)).bind fun t377 => (if t377 = true then (mezzanineref09_Right.j2 kj8 false a0_0 a0_1 a0_2 a0_3 a0_4 a0_5 a0_6 a0_7 t370 t371 t372 t373) else (mezzanineref09_Right.j2 kj8 (a0_3 != 0) a0_0 a0_1 a0_2 a0_3 a0_4 a0_5 a0_6 a0_7 t370 t371 t372 t373))) else (if a0_2 = 0 then ((mezzanineref09_has.f kj8 t373 (⟨#[66, 83, 70, 82, 65]⟩ : ByteArray)).bind fun t378 => (if t378 = true then (mezzanineref09_Right.j2 kj8 false a0_0 a0_1 a0_2 a0_3 a0_4 a0_5 a0_6 a0_7 t370 t371 t372 t373) else (mezzanineref09_Right.j2 kj8 (a0_3 != 0) a0_0 a0_1 a0_2 a0_3 a0_4 a0_5 a0_6 a0_7 t370 t371 t372 t373))) else (mezzanineref09_Right.j2 kj8 true a0_0 a0_1 a0_2 a0_3 a0_4 a0_5 a0_6 a0_7 t370 t371 t372 t373)))) = some r := by rw [if_pos rfl] at H; exact H
         clear H
         have H := H1
         clear H1
         replace H := Option.bind_eq_some_iff.mp H
         obtain ⟨t376, A420, H⟩ := H
         replace H : (if t376 = true then ((mezzanineref09_has.f kj8 t373 (⟨#[66, 83, 70, 82, 65]⟩ : ByteArray)).bind fun t377 => (if t377 = true then (mezzanineref09_Right.j2 kj8 false a0_0 a0_1 a0_2 a0_3 a0_4 a0_5 a0_6 a0_7 t370 t371 t372 t373) else (mezzanineref09_Right.j2 kj8 (a0_3 != 0) a0_0 a0_1 a0_2 a0_3 a0_4 a0_5 a0_6 a0_7 t370 t371 t372 t373))) else (if a0_2 = 0 then ((mezzanineref09_has.f kj8 t373 (⟨#[66, 83, 70, 82, 65]⟩ : ByteArray)).bind fun t378 => (if t378 = true then (mezzanineref09_Right.j2 kj8 false a0_0 a0_1 a0_2 a0_3 a0_4 a0_5 a0_6 a0_7 t370 t371 t372 t373) else (mezzanineref09_Right.j2 kj8 (a0_3 != 0) a0_0 a0_1 a0_2 a0_3 a0_4 a0_5 a0_6 a0_7 t370 t371 t372 t373))) else (mezzanineref09_Right.j2 kj8 true a0_0 a0_1 a0_2 a0_3 a0_4 a0_5 a0_6 a0_7 t370 t371 t372 t373))) = some r := H
         have A42 := Aside0.mk A420
         clear A420
         by_cases c43 : t376 = true
         ·subst c43
          have H1 : ((mezzanineref09_has.f kj8 t373 (⟨#[66, 83, 70, 82, 65]⟩ : ByteArray)).bind fun t377 => (if t377 = true then (mezzanineref09_Right.j2 kj8 false a0_0 a0_1 a0_2 a0_3 a0_4 a0_5 a0_6 a0_7 t370 t371 t372 t373) else (mezzanineref09_Right.j2 kj8 (a0_3 != 0) a0_0 a0_1 a0_2 a0_3 a0_4 a0_5 a0_6 a0_7 t370 t371 t372 t373))) = some r := by rw [if_pos rfl] at H; exact H
          clear H
          have H := H1
          clear H1
          replace H := Option.bind_eq_some_iff.mp H
          obtain ⟨t377, A440, H⟩ := H
          replace H : (if t377 = true then (mezzanineref09_Right.j2 kj8 false a0_0 a0_1 a0_2 a0_3 a0_4 a0_5 a0_6 a0_7 t370 t371 t372 t373) else (mezzanineref09_Right.j2 kj8 (a0_3 != 0) a0_0 a0_1 a0_2 a0_3 a0_4 a0_5 a0_6 a0_7 t370 t371 t372 t373)) = some r := H
          have A44 := Aside0.mk A440
          clear A440
          by_cases c45 : t377 = true
          ·subst c45
           have H1 : (mezzanineref09_Right.j2 kj8 false a0_0 a0_1 a0_2 a0_3 a0_4 a0_5 a0_6 a0_7 t370 t371 t372 t373) = some r := by rw [if_pos rfl] at H; exact H
           clear H
           have H := H1
           clear H1
           have H' := Aside0.mk H
           clear H
           have hnb46 := NB374_369.out
           have hnc46 := NB369_374.out
           have hcz47_0 : wc.cell? ⟨gb374, 0, none⟩ = some (.string t370) := (blk_cell BK374.out 0).trans rfl
           have hcz47_1 : wc.cell? ⟨gb374, 1, none⟩ = some (.int .u32 t371) := (blk_cell BK374.out 1).trans rfl
           have hcz47_2 : wc.cell? ⟨gb374, 2, none⟩ = some (.int .u32 t372) := (blk_cell BK374.out 2).trans rfl
           have hcz47_3 : wc.cell? ⟨gb374, 3, none⟩ = some (.int .u8 t373) := (blk_cell BK374.out 3).trans rfl
           have hfz47_0 := blk_frozen BK374.out 0
           have hfz47_1 := blk_frozen BK374.out 1
           have hfz47_2 := blk_frozen BK374.out 2
           have hfz47_3 := blk_frozen BK374.out 3
           go_wp2_with (first | ((with_reducible refine gate_callee (f := 34) rfl ?_); refine goesL_ (some 55) rfl rfl Try.func34 (by kernel_rfl) rfl #[.int .u8 t373, .string (⟨#[85, 74, 73, 72, 87, 82, 76, 65, 67, 90, 86]⟩ : ByteArray)] rfl (by (try simp only [List.map_toArray, List.map_cons, List.map_nil]); first | done | rfl | (simp only [List.length_drop, List.length_take]; rfl)) ?_; (with_reducible refine (mezzanineref09_has.calls kj8 t373 (⟨#[85, 74, 73, 72, 87, 82, 76, 65, 67, 90, 86]⟩ : ByteArray) true _ A40.out).mono ?_); rintro e w' ⟨rfl, ⟨nd, rfl⟩⟩; refine ⟨_, rfl, ?_⟩) | (go_at_call 34; (with_reducible refine (mezzanineref09_has.calls kj8 t373 (⟨#[73, 72, 87, 66, 83, 70, 82, 76, 65, 67, 86]⟩ : ByteArray) true _ A42.out).mono ?_); rintro e w' ⟨rfl, ⟨nd, rfl⟩⟩) | (go_at_call 34; (with_reducible refine (mezzanineref09_has.calls kj8 t373 (⟨#[66, 83, 70, 82, 65]⟩ : ByteArray) true _ A44.out).mono ?_); rintro e w' ⟨rfl, ⟨nd, rfl⟩⟩))
           go_meet
           case rel => exact ⟨_, (false), (by first | rfl | (simp; done) | (simp [*]; done)), H', ⟨by have := HJ1.out; have := HJ8.out; first | omega | exact Nat.le_refl _⟩, ⟨by (with_reducible repeat (first | refine blk_drewN ?_ _ | refine blk_drew ?_ | refine blk_alloc ?_ _)); exact BK369.out⟩, ⟨by (with_reducible repeat (first | refine blk_drewN ?_ _ | refine blk_drew ?_ | refine blk_alloc ?_ _)); exact BK374.out⟩, ⟨by repeat (first | (with_reducible first | exact HB.out | apply below_alloc | apply pw_below_drewN | apply below_drew1 | refine below_set ?_ GE369.out | refine below_set ?_ GE374.out) | exact HB.out)⟩⟩
          ·replace c45 := Bool.eq_false_iff.mpr c45
           subst c45
           have H1 : (mezzanineref09_Right.j2 kj8 (a0_3 != 0) a0_0 a0_1 a0_2 a0_3 a0_4 a0_5 a0_6 a0_7 t370 t371 t372 t373) = some r := by rw [if_neg (show ¬ (false = true) by decide)] at H; exact H
           clear H
           have H := H1
           clear H1
           have H' := Aside0.mk H
           clear H
           have hnb48 := NB374_369.out
           have hnc48 := NB369_374.out
           have hcz49_0 : wc.cell? ⟨gb374, 0, none⟩ = some (.string t370) := (blk_cell BK374.out 0).trans rfl
           have hcz49_1 : wc.cell? ⟨gb374, 1, none⟩ = some (.int .u32 t371) := (blk_cell BK374.out 1).trans rfl
           have hcz49_2 : wc.cell? ⟨gb374, 2, none⟩ = some (.int .u32 t372) := (blk_cell BK374.out 2).trans rfl
           have hcz49_3 : wc.cell? ⟨gb374, 3, none⟩ = some (.int .u8 t373) := (blk_cell BK374.out 3).trans rfl
           have hfz49_0 := blk_frozen BK374.out 0
           have hfz49_1 := blk_frozen BK374.out 1
           have hfz49_2 := blk_frozen BK374.out 2
           have hfz49_3 := blk_frozen BK374.out 3
           go_wp2_with (first | ((with_reducible refine gate_callee (f := 34) rfl ?_); refine goesL_ (some 55) rfl rfl Try.func34 (by kernel_rfl) rfl #[.int .u8 t373, .string (⟨#[85, 74, 73, 72, 87, 82, 76, 65, 67, 90, 86]⟩ : ByteArray)] rfl (by (try simp only [List.map_toArray, List.map_cons, List.map_nil]); first | done | rfl | (simp only [List.length_drop, List.length_take]; rfl)) ?_; (with_reducible refine (mezzanineref09_has.calls kj8 t373 (⟨#[85, 74, 73, 72, 87, 82, 76, 65, 67, 90, 86]⟩ : ByteArray) true _ A40.out).mono ?_); rintro e w' ⟨rfl, ⟨nd, rfl⟩⟩; refine ⟨_, rfl, ?_⟩) | (go_at_call 34; (with_reducible refine (mezzanineref09_has.calls kj8 t373 (⟨#[73, 72, 87, 66, 83, 70, 82, 76, 65, 67, 86]⟩ : ByteArray) true _ A42.out).mono ?_); rintro e w' ⟨rfl, ⟨nd, rfl⟩⟩) | (go_at_call 34; (with_reducible refine (mezzanineref09_has.calls kj8 t373 (⟨#[66, 83, 70, 82, 65]⟩ : ByteArray) false _ A44.out).mono ?_); rintro e w' ⟨rfl, ⟨nd, rfl⟩⟩; have hcz50_0 : wc.cell? ⟨gb369, 0, none⟩ = some (.int .i64 a0_0) := (blk_cell BK369.out 0).trans rfl; have hcz50_1 : wc.cell? ⟨gb369, 1, none⟩ = some (.int .i64 a0_1) := (blk_cell BK369.out 1).trans rfl; have hcz50_2 : wc.cell? ⟨gb369, 2, none⟩ = some (.int .i64 a0_2) := (blk_cell BK369.out 2).trans rfl; have hcz50_3 : wc.cell? ⟨gb369, 3, none⟩ = some (.int .i64 a0_3) := (blk_cell BK369.out 3).trans rfl; have hcz50_4 : wc.cell? ⟨gb369, 4, none⟩ = some (.int .i64 a0_4) := (blk_cell BK369.out 4).trans rfl; have hcz50_5 : wc.cell? ⟨gb369, 5, none⟩ = some (.int .i64 a0_5) := (blk_cell BK369.out 5).trans rfl; have hcz50_6 : wc.cell? ⟨gb369, 6, none⟩ = some (.bool a0_6) := (blk_cell BK369.out 6).trans rfl; have hcz50_7 : wc.cell? ⟨gb369, 7, none⟩ = some (.bool a0_7) := (blk_cell BK369.out 7).trans rfl; have hfz50_0 := blk_frozen BK369.out 0; have hfz50_1 := blk_frozen BK369.out 1; have hfz50_2 := blk_frozen BK369.out 2; have hfz50_3 := blk_frozen BK369.out 3; have hfz50_4 := blk_frozen BK369.out 4; have hfz50_5 := blk_frozen BK369.out 5; have hfz50_6 := blk_frozen BK369.out 6; have hfz50_7 := blk_frozen BK369.out 7))
           go_meet
           case rel => exact ⟨_, ((a0_3 != 0)), (by first | rfl | (simp; done) | (simp [*]; done)), H', ⟨by have := HJ1.out; have := HJ8.out; first | omega | exact Nat.le_refl _⟩, ⟨by (with_reducible repeat (first | refine blk_drewN ?_ _ | refine blk_drew ?_ | refine blk_alloc ?_ _)); exact BK369.out⟩, ⟨by (with_reducible repeat (first | refine blk_drewN ?_ _ | refine blk_drew ?_ | refine blk_alloc ?_ _)); exact BK374.out⟩, ⟨by repeat (first | (with_reducible first | exact HB.out | apply below_alloc | apply pw_below_drewN | apply below_drew1 | refine below_set ?_ GE369.out | refine below_set ?_ GE374.out) | exact HB.out)⟩⟩
         ·replace c43 := Bool.eq_false_iff.mpr c43
          subst c43
          have H1 : (if a0_2 = 0 then ((mezzanineref09_has.f kj8 t373 (⟨#[66, 83, 70, 82, 65]⟩ : ByteArray)).bind fun t378 => (if t378 = true then (mezzanineref09_Right.j2 kj8 false a0_0 a0_1 a0_2 a0_3 a0_4 a0_5 a0_6 a0_7 t370 t371 t372 t373) else (mezzanineref09_Right.j2 kj8 (a0_3 != 0) a0_0 a0_1 a0_2 a0_3 a0_4 a0_5 a0_6 a0_7 t370 t371 t372 t373))) else (mezzanineref09_Right.j2 kj8 true a0_0 a0_1 a0_2 a0_3 a0_4 a0_5 a0_6 a0_7 t370 t371 t372 t373)) = some r := by rw [if_neg (show ¬ (false = true) by decide)] at H; exact H
          clear H
          have H := H1
          clear H1
          by_cases c51 : a0_2 = 0
          ·rw [if_pos c51] at H
           have c51b0 : (a0_2 == 0) = true := beq_iff_eq.mpr c51
           have c51b1 : (a0_2 != 0) = false := bne_eq_false_iff_eq.mpr c51
           clear c51
           (first | rw [c51b0] | (simp only [i64_w, i32_w]; rw [c51b0]) | skip)
           replace H := Option.bind_eq_some_iff.mp H
           obtain ⟨t378, A520, H⟩ := H
           replace H : (if t378 = true then (mezzanineref09_Right.j2 kj8 false a0_0 a0_1 a0_2 a0_3 a0_4 a0_5 a0_6 a0_7 t370 t371 t372 t373) else (mezzanineref09_Right.j2 kj8 (a0_3 != 0) a0_0 a0_1 a0_2 a0_3 a0_4 a0_5 a0_6 a0_7 t370 t371 t372 t373)) = some r := H
           have A52 := Aside0.mk A520
           clear A520
           by_cases c53 : t378 = true
           ·subst c53
            have H1 : (mezzanineref09_Right.j2 kj8 false a0_0 a0_1 a0_2 a0_3 a0_4 a0_5 a0_6 a0_7 t370 t371 t372 t373) = some r := by rw [if_pos rfl] at H; exact H
            clear H
            have H := H1
            clear H1
            have H' := Aside0.mk H
            clear H
            have hnb54 := NB374_369.out
            have hnc54 := NB369_374.out
            have hcz55_0 : wc.cell? ⟨gb374, 0, none⟩ = some (.string t370) := (blk_cell BK374.out 0).trans rfl
            have hcz55_1 : wc.cell? ⟨gb374, 1, none⟩ = some (.int .u32 t371) := (blk_cell BK374.out 1).trans rfl
            have hcz55_2 : wc.cell? ⟨gb374, 2, none⟩ = some (.int .u32 t372) := (blk_cell BK374.out 2).trans rfl
            have hcz55_3 : wc.cell? ⟨gb374, 3, none⟩ = some (.int .u8 t373) := (blk_cell BK374.out 3).trans rfl
            have hfz55_0 := blk_frozen BK374.out 0
            have hfz55_1 := blk_frozen BK374.out 1
            have hfz55_2 := blk_frozen BK374.out 2
            have hfz55_3 := blk_frozen BK374.out 3
            go_wp2_with (first | ((with_reducible refine gate_callee (f := 34) rfl ?_); refine goesL_ (some 55) rfl rfl Try.func34 (by kernel_rfl) rfl #[.int .u8 t373, .string (⟨#[85, 74, 73, 72, 87, 82, 76, 65, 67, 90, 86]⟩ : ByteArray)] rfl (by (try simp only [List.map_toArray, List.map_cons, List.map_nil]); first | done | rfl | (simp only [List.length_drop, List.length_take]; rfl)) ?_; (with_reducible refine (mezzanineref09_has.calls kj8 t373 (⟨#[85, 74, 73, 72, 87, 82, 76, 65, 67, 90, 86]⟩ : ByteArray) true _ A40.out).mono ?_); rintro e w' ⟨rfl, ⟨nd, rfl⟩⟩; refine ⟨_, rfl, ?_⟩) | (go_at_call 34; (with_reducible refine (mezzanineref09_has.calls kj8 t373 (⟨#[73, 72, 87, 66, 83, 70, 82, 76, 65, 67, 86]⟩ : ByteArray) false _ A42.out).mono ?_); rintro e w' ⟨rfl, ⟨nd, rfl⟩⟩; have hcz56_0 : wc.cell? ⟨gb369, 0, none⟩ = some (.int .i64 a0_0) := (blk_cell BK369.out 0).trans rfl; have hcz56_1 : wc.cell? ⟨gb369, 1, none⟩ = some (.int .i64 a0_1) := (blk_cell BK369.out 1).trans rfl; have hcz56_2 : wc.cell? ⟨gb369, 2, none⟩ = some (.int .i64 a0_2) := (blk_cell BK369.out 2).trans rfl; have hcz56_3 : wc.cell? ⟨gb369, 3, none⟩ = some (.int .i64 a0_3) := (blk_cell BK369.out 3).trans rfl; have hcz56_4 : wc.cell? ⟨gb369, 4, none⟩ = some (.int .i64 a0_4) := (blk_cell BK369.out 4).trans rfl; have hcz56_5 : wc.cell? ⟨gb369, 5, none⟩ = some (.int .i64 a0_5) := (blk_cell BK369.out 5).trans rfl; have hcz56_6 : wc.cell? ⟨gb369, 6, none⟩ = some (.bool a0_6) := (blk_cell BK369.out 6).trans rfl; have hcz56_7 : wc.cell? ⟨gb369, 7, none⟩ = some (.bool a0_7) := (blk_cell BK369.out 7).trans rfl; have hfz56_0 := blk_frozen BK369.out 0; have hfz56_1 := blk_frozen BK369.out 1; have hfz56_2 := blk_frozen BK369.out 2; have hfz56_3 := blk_frozen BK369.out 3; have hfz56_4 := blk_frozen BK369.out 4; have hfz56_5 := blk_frozen BK369.out 5; have hfz56_6 := blk_frozen BK369.out 6; have hfz56_7 := blk_frozen BK369.out 7) | (go_at_call 34; (with_reducible refine (mezzanineref09_has.calls kj8 t373 (⟨#[66, 83, 70, 82, 65]⟩ : ByteArray) true _ A52.out).mono ?_); rintro e w' ⟨rfl, ⟨nd, rfl⟩⟩))
            go_meet
            case rel => exact ⟨_, (false), (by first | rfl | (simp; done) | (simp [*]; done)), H', ⟨by have := HJ1.out; have := HJ8.out; first | omega | exact Nat.le_refl _⟩, ⟨by (with_reducible repeat (first | refine blk_drewN ?_ _ | refine blk_drew ?_ | refine blk_alloc ?_ _)); exact BK369.out⟩, ⟨by (with_reducible repeat (first | refine blk_drewN ?_ _ | refine blk_drew ?_ | refine blk_alloc ?_ _)); exact BK374.out⟩, ⟨by repeat (first | (with_reducible first | exact HB.out | apply below_alloc | apply pw_below_drewN | apply below_drew1 | refine below_set ?_ GE369.out | refine below_set ?_ GE374.out) | exact HB.out)⟩⟩
           ·replace c53 := Bool.eq_false_iff.mpr c53
            subst c53
            have H1 : (mezzanineref09_Right.j2 kj8 (a0_3 != 0) a0_0 a0_1 a0_2 a0_3 a0_4 a0_5 a0_6 a0_7 t370 t371 t372 t373) = some r := by rw [if_neg (show ¬ (false = true) by decide)] at H; exact H
            clear H
            have H := H1
            clear H1
            have H' := Aside0.mk H
            clear H
            have hnb57 := NB374_369.out
            have hnc57 := NB369_374.out
            have hcz58_0 : wc.cell? ⟨gb374, 0, none⟩ = some (.string t370) := (blk_cell BK374.out 0).trans rfl
            have hcz58_1 : wc.cell? ⟨gb374, 1, none⟩ = some (.int .u32 t371) := (blk_cell BK374.out 1).trans rfl
            have hcz58_2 : wc.cell? ⟨gb374, 2, none⟩ = some (.int .u32 t372) := (blk_cell BK374.out 2).trans rfl
            have hcz58_3 : wc.cell? ⟨gb374, 3, none⟩ = some (.int .u8 t373) := (blk_cell BK374.out 3).trans rfl
            have hfz58_0 := blk_frozen BK374.out 0
            have hfz58_1 := blk_frozen BK374.out 1
            have hfz58_2 := blk_frozen BK374.out 2
            have hfz58_3 := blk_frozen BK374.out 3
            go_wp2_with (first | ((with_reducible refine gate_callee (f := 34) rfl ?_); refine goesL_ (some 55) rfl rfl Try.func34 (by kernel_rfl) rfl #[.int .u8 t373, .string (⟨#[85, 74, 73, 72, 87, 82, 76, 65, 67, 90, 86]⟩ : ByteArray)] rfl (by (try simp only [List.map_toArray, List.map_cons, List.map_nil]); first | done | rfl | (simp only [List.length_drop, List.length_take]; rfl)) ?_; (with_reducible refine (mezzanineref09_has.calls kj8 t373 (⟨#[85, 74, 73, 72, 87, 82, 76, 65, 67, 90, 86]⟩ : ByteArray) true _ A40.out).mono ?_); rintro e w' ⟨rfl, ⟨nd, rfl⟩⟩; refine ⟨_, rfl, ?_⟩) | (go_at_call 34; (with_reducible refine (mezzanineref09_has.calls kj8 t373 (⟨#[73, 72, 87, 66, 83, 70, 82, 76, 65, 67, 86]⟩ : ByteArray) false _ A42.out).mono ?_); rintro e w' ⟨rfl, ⟨nd, rfl⟩⟩; have hcz59_0 : wc.cell? ⟨gb369, 0, none⟩ = some (.int .i64 a0_0) := (blk_cell BK369.out 0).trans rfl; have hcz59_1 : wc.cell? ⟨gb369, 1, none⟩ = some (.int .i64 a0_1) := (blk_cell BK369.out 1).trans rfl; have hcz59_2 : wc.cell? ⟨gb369, 2, none⟩ = some (.int .i64 a0_2) := (blk_cell BK369.out 2).trans rfl; have hcz59_3 : wc.cell? ⟨gb369, 3, none⟩ = some (.int .i64 a0_3) := (blk_cell BK369.out 3).trans rfl; have hcz59_4 : wc.cell? ⟨gb369, 4, none⟩ = some (.int .i64 a0_4) := (blk_cell BK369.out 4).trans rfl; have hcz59_5 : wc.cell? ⟨gb369, 5, none⟩ = some (.int .i64 a0_5) := (blk_cell BK369.out 5).trans rfl; have hcz59_6 : wc.cell? ⟨gb369, 6, none⟩ = some (.bool a0_6) := (blk_cell BK369.out 6).trans rfl; have hcz59_7 : wc.cell? ⟨gb369, 7, none⟩ = some (.bool a0_7) := (blk_cell BK369.out 7).trans rfl; have hfz59_0 := blk_frozen BK369.out 0; have hfz59_1 := blk_frozen BK369.out 1; have hfz59_2 := blk_frozen BK369.out 2; have hfz59_3 := blk_frozen BK369.out 3; have hfz59_4 := blk_frozen BK369.out 4; have hfz59_5 := blk_frozen BK369.out 5; have hfz59_6 := blk_frozen BK369.out 6; have hfz59_7 := blk_frozen BK369.out 7) | (go_at_call 34; (with_reducible refine (mezzanineref09_has.calls kj8 t373 (⟨#[66, 83, 70, 82, 65]⟩ : ByteArray) false _ A52.out).mono ?_); rintro e w' ⟨rfl, ⟨nd, rfl⟩⟩))
            go_meet
            case rel => exact ⟨_, ((a0_3 != 0)), (by first | rfl | (simp; done) | (simp [*]; done)), H', ⟨by have := HJ1.out; have := HJ8.out; first | omega | exact Nat.le_refl _⟩, ⟨by (with_reducible repeat (first | refine blk_drewN ?_ _ | refine blk_drew ?_ | refine blk_alloc ?_ _)); exact BK369.out⟩, ⟨by (with_reducible repeat (first | refine blk_drewN ?_ _ | refine blk_drew ?_ | refine blk_alloc ?_ _)); exact BK374.out⟩, ⟨by repeat (first | (with_reducible first | exact HB.out | apply below_alloc | apply pw_below_drewN | apply below_drew1 | refine below_set ?_ GE369.out | refine below_set ?_ GE374.out) | exact HB.out)⟩⟩
          ·rw [if_neg c51] at H
           have c51b0 : (a0_2 == 0) = false := beq_eq_false_iff_ne.mpr c51
           have c51b1 : (a0_2 != 0) = true := bne_iff_ne.mpr c51
           (first | rw [c51b0] | (simp only [i64_w, i32_w]; rw [c51b0]) | skip)
           have H' := Aside0.mk H
           clear H
           have hnb60 := NB374_369.out
           have hnc60 := NB369_374.out
           have hcz61_0 : wc.cell? ⟨gb374, 0, none⟩ = some (.string t370) := (blk_cell BK374.out 0).trans rfl
           have hcz61_1 : wc.cell? ⟨gb374, 1, none⟩ = some (.int .u32 t371) := (blk_cell BK374.out 1).trans rfl
           have hcz61_2 : wc.cell? ⟨gb374, 2, none⟩ = some (.int .u32 t372) := (blk_cell BK374.out 2).trans rfl
           have hcz61_3 : wc.cell? ⟨gb374, 3, none⟩ = some (.int .u8 t373) := (blk_cell BK374.out 3).trans rfl
           have hfz61_0 := blk_frozen BK374.out 0
           have hfz61_1 := blk_frozen BK374.out 1
           have hfz61_2 := blk_frozen BK374.out 2
           have hfz61_3 := blk_frozen BK374.out 3
           go_wp2_with (first | ((with_reducible refine gate_callee (f := 34) rfl ?_); refine goesL_ (some 55) rfl rfl Try.func34 (by kernel_rfl) rfl #[.int .u8 t373, .string (⟨#[85, 74, 73, 72, 87, 82, 76, 65, 67, 90, 86]⟩ : ByteArray)] rfl (by (try simp only [List.map_toArray, List.map_cons, List.map_nil]); first | done | rfl | (simp only [List.length_drop, List.length_take]; rfl)) ?_; (with_reducible refine (mezzanineref09_has.calls kj8 t373 (⟨#[85, 74, 73, 72, 87, 82, 76, 65, 67, 90, 86]⟩ : ByteArray) true _ A40.out).mono ?_); rintro e w' ⟨rfl, ⟨nd, rfl⟩⟩; refine ⟨_, rfl, ?_⟩) | (go_at_call 34; (with_reducible refine (mezzanineref09_has.calls kj8 t373 (⟨#[73, 72, 87, 66, 83, 70, 82, 76, 65, 67, 86]⟩ : ByteArray) false _ A42.out).mono ?_); rintro e w' ⟨rfl, ⟨nd, rfl⟩⟩; have hcz62_0 : wc.cell? ⟨gb369, 0, none⟩ = some (.int .i64 a0_0) := (blk_cell BK369.out 0).trans rfl; have hcz62_1 : wc.cell? ⟨gb369, 1, none⟩ = some (.int .i64 a0_1) := (blk_cell BK369.out 1).trans rfl; have hcz62_2 : wc.cell? ⟨gb369, 2, none⟩ = some (.int .i64 a0_2) := (blk_cell BK369.out 2).trans rfl; have hcz62_3 : wc.cell? ⟨gb369, 3, none⟩ = some (.int .i64 a0_3) := (blk_cell BK369.out 3).trans rfl; have hcz62_4 : wc.cell? ⟨gb369, 4, none⟩ = some (.int .i64 a0_4) := (blk_cell BK369.out 4).trans rfl; have hcz62_5 : wc.cell? ⟨gb369, 5, none⟩ = some (.int .i64 a0_5) := (blk_cell BK369.out 5).trans rfl; have hcz62_6 : wc.cell? ⟨gb369, 6, none⟩ = some (.bool a0_6) := (blk_cell BK369.out 6).trans rfl; have hcz62_7 : wc.cell? ⟨gb369, 7, none⟩ = some (.bool a0_7) := (blk_cell BK369.out 7).trans rfl; have hfz62_0 := blk_frozen BK369.out 0; have hfz62_1 := blk_frozen BK369.out 1; have hfz62_2 := blk_frozen BK369.out 2; have hfz62_3 := blk_frozen BK369.out 3; have hfz62_4 := blk_frozen BK369.out 4; have hfz62_5 := blk_frozen BK369.out 5; have hfz62_6 := blk_frozen BK369.out 6; have hfz62_7 := blk_frozen BK369.out 7))
           go_meet
           case rel => exact ⟨_, (true), (by first | rfl | (simp; done) | (simp [*]; done)), H', ⟨by have := HJ1.out; have := HJ8.out; first | omega | exact Nat.le_refl _⟩, ⟨by (with_reducible repeat (first | refine blk_drewN ?_ _ | refine blk_drew ?_ | refine blk_alloc ?_ _)); exact BK369.out⟩, ⟨by (with_reducible repeat (first | refine blk_drewN ?_ _ | refine blk_drew ?_ | refine blk_alloc ?_ _)); exact BK374.out⟩, ⟨by repeat (first | (with_reducible first | exact HB.out | apply below_alloc | apply pw_below_drewN | apply below_drew1 | refine below_set ?_ GE369.out | refine below_set ?_ GE374.out) | exact HB.out)⟩⟩
        ·replace c41 := Bool.eq_false_iff.mpr c41
         subst c41
         have H1 : (if a0_1 = 0 then ((mezzanineref09_has.f kj8 t373 (⟨#[73, 72, 87, 66, 83, 70, 82, 76, 65, 67, 86]⟩ : ByteArray)).bind fun t379 => (if t379 = true then ((mezzanineref09_has.f kj8 t373 (⟨#[66, 83, 70, 82, 65]⟩ : ByteArray)).bind fun t380 => (if t380 = true then (mezzanineref09_Right.j2 kj8 false a0_0 a0_1 a0_2 a0_3 a0_4 a0_5 a0_6 a0_7 t370 t371 t372 t373) else (mezzanineref09_Right.j2 kj8 (a0_3 != 0) a0_0 a0_1 a0_2 a0_3 a0_4 a0_5 a0_6 a0_7 t370 t371 t372 t373))) else (if a0_2 = 0 then ((mezzanineref09_has.f kj8 t373 (⟨#[66, 83, 70, 82, 65]⟩ : ByteArray)).bind fun t381 => (if t381 = true then (mezzanineref09_Right.j2 kj8 false a0_0 a0_1 a0_2 a0_3 a0_4 a0_5 a0_6 a0_7 t370 t371 t372 t373) else (mezzanineref09_Right.j2 kj8 (a0_3 != 0) a0_0 a0_1 a0_2 a0_3 a0_4 a0_5 a0_6 a0_7 t370 t371 t372 t373))) else (mezzanineref09_Right.j2 kj8 true a0_0 a0_1 a0_2 a0_3 a0_4 a0_5 a0_6 a0_7 t370 t371 t372 t373)))) else (mezzanineref09_Right.j2 kj8 true a0_0 a0_1 a0_2 a0_3 a0_4 a0_5 a0_6 a0_7 t370 t371 t372 t373)) = some r := by rw [if_neg (show ¬ (false = true) by decide)] at H; exact H
         clear H
         have H := H1
         clear H1
         by_cases c63 : a0_1 = 0
         ·rw [if_pos c63] at H
          have c63b0 : (a0_1 == 0) = true := beq_iff_eq.mpr c63
          have c63b1 : (a0_1 != 0) = false := bne_eq_false_iff_eq.mpr c63
          clear c63
          replace H := Option.bind_eq_some_iff.mp H
          obtain ⟨t379, A640, H⟩ := H
          replace H : (if t379 = true then ((mezzanineref09_has.f kj8 t373 (⟨#[66, 83, 70, 82, 65]⟩ : ByteArray)).bind fun t380 => (if t380 = true then (mezzanineref09_Right.j2 kj8 false a0_0 a0_1 a0_2 a0_3 a0_4 a0_5 a0_6 a0_7 t370 t371 t372 t373) else (mezzanineref09_Right.j2 kj8 (a0_3 != 0) a0_0 a0_1 a0_2 a0_3 a0_4 a0_5 a0_6 a0_7 t370 t371 t372 t373))) else (if a0_2 = 0 then ((mezzanineref09_has.f kj8 t373 (⟨#[66, 83, 70, 82, 65]⟩ : ByteArray)).bind fun t381 => (if t381 = true then (mezzanineref09_Right.j2 kj8 false a0_0 a0_1 a0_2 a0_3 a0_4 a0_5 a0_6 a0_7 t370 t371 t372 t373) else (mezzanineref09_Right.j2 kj8 (a0_3 != 0) a0_0 a0_1 a0_2 a0_3 a0_4 a0_5 a0_6 a0_7 t370 t371 t372 t373))) else (mezzanineref09_Right.j2 kj8 true a0_0 a0_1 a0_2 a0_3 a0_4 a0_5 a0_6 a0_7 t370 t371 t372 t373))) = some r := H
          have A64 := Aside0.mk A640
          clear A640
          by_cases c65 : t379 = true
          ·subst c65
           have H1 : ((mezzanineref09_has.f kj8 t373 (⟨#[66, 83, 70, 82, 65]⟩ : ByteArray)).bind fun t380 => (if t380 = true then (mezzanineref09_Right.j2 kj8 false a0_0 a0_1 a0_2 a0_3 a0_4 a0_5 a0_6 a0_7 t370 t371 t372 t373) else (mezzanineref09_Right.j2 kj8 (a0_3 != 0) a0_0 a0_1 a0_2 a0_3 a0_4 a0_5 a0_6 a0_7 t370 t371 t372 t373))) = some r := by rw [if_pos rfl] at H; exact H
           clear H
           have H := H1
           clear H1
           replace H := Option.bind_eq_some_iff.mp H
           obtain ⟨t380, A660, H⟩ := H
           replace H : (if t380 = true then (mezzanineref09_Right.j2 kj8 false a0_0 a0_1 a0_2 a0_3 a0_4 a0_5 a0_6 a0_7 t370 t371 t372 t373) else (mezzanineref09_Right.j2 kj8 (a0_3 != 0) a0_0 a0_1 a0_2 a0_3 a0_4 a0_5 a0_6 a0_7 t370 t371 t372 t373)) = some r := H
           have A66 := Aside0.mk A660
           clear A660
           by_cases c67 : t380 = true
           ·subst c67
            have H1 : (mezzanineref09_Right.j2 kj8 false a0_0 a0_1 a0_2 a0_3 a0_4 a0_5 a0_6 a0_7 t370 t371 t372 t373) = some r := by rw [if_pos rfl] at H; exact H
            clear H
            have H := H1
            clear H1
            have H' := Aside0.mk H
            clear H
            have hnb68 := NB374_369.out
            have hnc68 := NB369_374.out
            have hcz69_0 : wc.cell? ⟨gb374, 0, none⟩ = some (.string t370) := (blk_cell BK374.out 0).trans rfl
            have hcz69_1 : wc.cell? ⟨gb374, 1, none⟩ = some (.int .u32 t371) := (blk_cell BK374.out 1).trans rfl
            have hcz69_2 : wc.cell? ⟨gb374, 2, none⟩ = some (.int .u32 t372) := (blk_cell BK374.out 2).trans rfl
            have hcz69_3 : wc.cell? ⟨gb374, 3, none⟩ = some (.int .u8 t373) := (blk_cell BK374.out 3).trans rfl
            have hfz69_0 := blk_frozen BK374.out 0
            have hfz69_1 := blk_frozen BK374.out 1
            have hfz69_2 := blk_frozen BK374.out 2
            have hfz69_3 := blk_frozen BK374.out 3
            go_wp2_with (first | ((with_reducible refine gate_callee (f := 34) rfl ?_); refine goesL_ (some 55) rfl rfl Try.func34 (by kernel_rfl) rfl #[.int .u8 t373, .string (⟨#[85, 74, 73, 72, 87, 82, 76, 65, 67, 90, 86]⟩ : ByteArray)] rfl (by (try simp only [List.map_toArray, List.map_cons, List.map_nil]); first | done | rfl | (simp only [List.length_drop, List.length_take]; rfl)) ?_; (with_reducible refine (mezzanineref09_has.calls kj8 t373 (⟨#[85, 74, 73, 72, 87, 82, 76, 65, 67, 90, 86]⟩ : ByteArray) false _ A40.out).mono ?_); rintro e w' ⟨rfl, ⟨nd, rfl⟩⟩; refine ⟨_, rfl, ?_⟩; have hcz70_0 : wc.cell? ⟨gb369, 0, none⟩ = some (.int .i64 a0_0) := (blk_cell BK369.out 0).trans rfl; have hcz70_1 : wc.cell? ⟨gb369, 1, none⟩ = some (.int .i64 a0_1) := (blk_cell BK369.out 1).trans rfl; have hcz70_2 : wc.cell? ⟨gb369, 2, none⟩ = some (.int .i64 a0_2) := (blk_cell BK369.out 2).trans rfl; have hcz70_3 : wc.cell? ⟨gb369, 3, none⟩ = some (.int .i64 a0_3) := (blk_cell BK369.out 3).trans rfl; have hcz70_4 : wc.cell? ⟨gb369, 4, none⟩ = some (.int .i64 a0_4) := (blk_cell BK369.out 4).trans rfl; have hcz70_5 : wc.cell? ⟨gb369, 5, none⟩ = some (.int .i64 a0_5) := (blk_cell BK369.out 5).trans rfl; have hcz70_6 : wc.cell? ⟨gb369, 6, none⟩ = some (.bool a0_6) := (blk_cell BK369.out 6).trans rfl; have hcz70_7 : wc.cell? ⟨gb369, 7, none⟩ = some (.bool a0_7) := (blk_cell BK369.out 7).trans rfl; have hfz70_0 := blk_frozen BK369.out 0; have hfz70_1 := blk_frozen BK369.out 1; have hfz70_2 := blk_frozen BK369.out 2; have hfz70_3 := blk_frozen BK369.out 3; have hfz70_4 := blk_frozen BK369.out 4; have hfz70_5 := blk_frozen BK369.out 5; have hfz70_6 := blk_frozen BK369.out 6; have hfz70_7 := blk_frozen BK369.out 7) | (go_at_call 34; (with_reducible refine (mezzanineref09_has.calls kj8 t373 (⟨#[73, 72, 87, 66, 83, 70, 82, 76, 65, 67, 86]⟩ : ByteArray) true _ A64.out).mono ?_); rintro e w' ⟨rfl, ⟨nd, rfl⟩⟩) | (go_at_call 34; (with_reducible refine (mezzanineref09_has.calls kj8 t373 (⟨#[66, 83, 70, 82, 65]⟩ : ByteArray) true _ A66.out).mono ?_); rintro e w' ⟨rfl, ⟨nd, rfl⟩⟩))
            go_meet
            case rel => exact ⟨_, (false), (by first | rfl | (simp; done) | (simp [*]; done)), H', ⟨by have := HJ1.out; have := HJ8.out; first | omega | exact Nat.le_refl _⟩, ⟨by (with_reducible repeat (first | refine blk_drewN ?_ _ | refine blk_drew ?_ | refine blk_alloc ?_ _)); exact BK369.out⟩, ⟨by (with_reducible repeat (first | refine blk_drewN ?_ _ | refine blk_drew ?_ | refine blk_alloc ?_ _)); exact BK374.out⟩, ⟨by repeat (first | (with_reducible first | exact HB.out | apply below_alloc | apply pw_below_drewN | apply below_drew1 | refine below_set ?_ GE369.out | refine below_set ?_ GE374.out) | exact HB.out)⟩⟩
           ·replace c67 := Bool.eq_false_iff.mpr c67
            subst c67
            have H1 : (mezzanineref09_Right.j2 kj8 (a0_3 != 0) a0_0 a0_1 a0_2 a0_3 a0_4 a0_5 a0_6 a0_7 t370 t371 t372 t373) = some r := by rw [if_neg (show ¬ (false = true) by decide)] at H; exact H
            clear H
            have H := H1
            clear H1
            have H' := Aside0.mk H
            clear H
            have hnb71 := NB374_369.out
            have hnc71 := NB369_374.out
            have hcz72_0 : wc.cell? ⟨gb374, 0, none⟩ = some (.string t370) := (blk_cell BK374.out 0).trans rfl
            have hcz72_1 : wc.cell? ⟨gb374, 1, none⟩ = some (.int .u32 t371) := (blk_cell BK374.out 1).trans rfl
            have hcz72_2 : wc.cell? ⟨gb374, 2, none⟩ = some (.int .u32 t372) := (blk_cell BK374.out 2).trans rfl
            have hcz72_3 : wc.cell? ⟨gb374, 3, none⟩ = some (.int .u8 t373) := (blk_cell BK374.out 3).trans rfl
            have hfz72_0 := blk_frozen BK374.out 0
            have hfz72_1 := blk_frozen BK374.out 1
            have hfz72_2 := blk_frozen BK374.out 2
            have hfz72_3 := blk_frozen BK374.out 3
            go_wp2_with (first | ((with_reducible refine gate_callee (f := 34) rfl ?_); refine goesL_ (some 55) rfl rfl Try.func34 (by kernel_rfl) rfl #[.int .u8 t373, .string (⟨#[85, 74, 73, 72, 87, 82, 76, 65, 67, 90, 86]⟩ : ByteArray)] rfl (by (try simp only [List.map_toArray, List.map_cons, List.map_nil]); first | done | rfl | (simp only [List.length_drop, List.length_take]; rfl)) ?_; (with_reducible refine (mezzanineref09_has.calls kj8 t373 (⟨#[85, 74, 73, 72, 87, 82, 76, 65, 67, 90, 86]⟩ : ByteArray) false _ A40.out).mono ?_); rintro e w' ⟨rfl, ⟨nd, rfl⟩⟩; refine ⟨_, rfl, ?_⟩; have hcz73_0 : wc.cell? ⟨gb369, 0, none⟩ = some (.int .i64 a0_0) := (blk_cell BK369.out 0).trans rfl; have hcz73_1 : wc.cell? ⟨gb369, 1, none⟩ = some (.int .i64 a0_1) := (blk_cell BK369.out 1).trans rfl; have hcz73_2 : wc.cell? ⟨gb369, 2, none⟩ = some (.int .i64 a0_2) := (blk_cell BK369.out 2).trans rfl; have hcz73_3 : wc.cell? ⟨gb369, 3, none⟩ = some (.int .i64 a0_3) := (blk_cell BK369.out 3).trans rfl; have hcz73_4 : wc.cell? ⟨gb369, 4, none⟩ = some (.int .i64 a0_4) := (blk_cell BK369.out 4).trans rfl; have hcz73_5 : wc.cell? ⟨gb369, 5, none⟩ = some (.int .i64 a0_5) := (blk_cell BK369.out 5).trans rfl; have hcz73_6 : wc.cell? ⟨gb369, 6, none⟩ = some (.bool a0_6) := (blk_cell BK369.out 6).trans rfl; have hcz73_7 : wc.cell? ⟨gb369, 7, none⟩ = some (.bool a0_7) := (blk_cell BK369.out 7).trans rfl; have hfz73_0 := blk_frozen BK369.out 0; have hfz73_1 := blk_frozen BK369.out 1; have hfz73_2 := blk_frozen BK369.out 2; have hfz73_3 := blk_frozen BK369.out 3; have hfz73_4 := blk_frozen BK369.out 4; have hfz73_5 := blk_frozen BK369.out 5; have hfz73_6 := blk_frozen BK369.out 6; have hfz73_7 := blk_frozen BK369.out 7) | (go_at_call 34; (with_reducible refine (mezzanineref09_has.calls kj8 t373 (⟨#[73, 72, 87, 66, 83, 70, 82, 76, 65, 67, 86]⟩ : ByteArray) true _ A64.out).mono ?_); rintro e w' ⟨rfl, ⟨nd, rfl⟩⟩) | (go_at_call 34; (with_reducible refine (mezzanineref09_has.calls kj8 t373 (⟨#[66, 83, 70, 82, 65]⟩ : ByteArray) false _ A66.out).mono ?_); rintro e w' ⟨rfl, ⟨nd, rfl⟩⟩))
            go_meet
            case rel => exact ⟨_, ((a0_3 != 0)), (by first | rfl | (simp; done) | (simp [*]; done)), H', ⟨by have := HJ1.out; have := HJ8.out; first | omega | exact Nat.le_refl _⟩, ⟨by (with_reducible repeat (first | refine blk_drewN ?_ _ | refine blk_drew ?_ | refine blk_alloc ?_ _)); exact BK369.out⟩, ⟨by (with_reducible repeat (first | refine blk_drewN ?_ _ | refine blk_drew ?_ | refine blk_alloc ?_ _)); exact BK374.out⟩, ⟨by repeat (first | (with_reducible first | exact HB.out | apply below_alloc | apply pw_below_drewN | apply below_drew1 | refine below_set ?_ GE369.out | refine below_set ?_ GE374.out) | exact HB.out)⟩⟩
          ·replace c65 := Bool.eq_false_iff.mpr c65
           subst c65
           have H1 : (if a0_2 = 0 then ((mezzanineref09_has.f kj8 t373 (⟨#[66, 83, 70, 82, 65]⟩ : ByteArray)).bind fun t381 => (if t381 = true then (mezzanineref09_Right.j2 kj8 false a0_0 a0_1 a0_2 a0_3 a0_4 a0_5 a0_6 a0_7 t370 t371 t372 t373) else (mezzanineref09_Right.j2 kj8 (a0_3 != 0) a0_0 a0_1 a0_2 a0_3 a0_4 a0_5 a0_6 a0_7 t370 t371 t372 t373))) else (mezzanineref09_Right.j2 kj8 true a0_0 a0_1 a0_2 a0_3 a0_4 a0_5 a0_6 a0_7 t370 t371 t372 t373)) = some r := by rw [if_neg (show ¬ (false = true) by decide)] at H; exact H
           clear H
           have H := H1
           clear H1
           by_cases c74 : a0_2 = 0
           ·rw [if_pos c74] at H
            have c74b0 : (a0_2 == 0) = true := beq_iff_eq.mpr c74
            have c74b1 : (a0_2 != 0) = false := bne_eq_false_iff_eq.mpr c74
            clear c74
            replace H := Option.bind_eq_some_iff.mp H
            obtain ⟨t381, A750, H⟩ := H
            replace H : (if t381 = true then (mezzanineref09_Right.j2 kj8 false a0_0 a0_1 a0_2 a0_3 a0_4 a0_5 a0_6 a0_7 t370 t371 t372 t373) else (mezzanineref09_Right.j2 kj8 (a0_3 != 0) a0_0 a0_1 a0_2 a0_3 a0_4 a0_5 a0_6 a0_7 t370 t371 t372 t373)) = some r := H
            have A75 := Aside0.mk A750
            clear A750
            by_cases c76 : t381 = true
            ·subst c76
             have H1 : (mezzanineref09_Right.j2 kj8 false a0_0 a0_1 a0_2 a0_3 a0_4 a0_5 a0_6 a0_7 t370 t371 t372 t373) = some r := by rw [if_pos rfl] at H; exact H
             clear H
             have H := H1
             clear H1
             have H' := Aside0.mk H
             clear H
             have hnb77 := NB374_369.out
             have hnc77 := NB369_374.out
             have hcz78_0 : wc.cell? ⟨gb374, 0, none⟩ = some (.string t370) := (blk_cell BK374.out 0).trans rfl
             have hcz78_1 : wc.cell? ⟨gb374, 1, none⟩ = some (.int .u32 t371) := (blk_cell BK374.out 1).trans rfl
             have hcz78_2 : wc.cell? ⟨gb374, 2, none⟩ = some (.int .u32 t372) := (blk_cell BK374.out 2).trans rfl
             have hcz78_3 : wc.cell? ⟨gb374, 3, none⟩ = some (.int .u8 t373) := (blk_cell BK374.out 3).trans rfl
             have hfz78_0 := blk_frozen BK374.out 0
             have hfz78_1 := blk_frozen BK374.out 1
             have hfz78_2 := blk_frozen BK374.out 2
             have hfz78_3 := blk_frozen BK374.out 3
             go_wp2_with (first | ((with_reducible refine gate_callee (f := 34) rfl ?_); refine goesL_ (some 55) rfl rfl Try.func34 (by kernel_rfl) rfl #[.int .u8 t373, .string (⟨#[85, 74, 73, 72, 87, 82, 76, 65, 67, 90, 86]⟩ : ByteArray)] rfl (by (try simp only [List.map_toArray, List.map_cons, List.map_nil]); first | done | rfl | (simp only [List.length_drop, List.length_take]; rfl)) ?_; (with_reducible refine (mezzanineref09_has.calls kj8 t373 (⟨#[85, 74, 73, 72, 87, 82, 76, 65, 67, 90, 86]⟩ : ByteArray) false _ A40.out).mono ?_); rintro e w' ⟨rfl, ⟨nd, rfl⟩⟩; refine ⟨_, rfl, ?_⟩; have hcz79_0 : wc.cell? ⟨gb369, 0, none⟩ = some (.int .i64 a0_0) := (blk_cell BK369.out 0).trans rfl; have hcz79_1 : wc.cell? ⟨gb369, 1, none⟩ = some (.int .i64 a0_1) := (blk_cell BK369.out 1).trans rfl; have hcz79_2 : wc.cell? ⟨gb369, 2, none⟩ = some (.int .i64 a0_2) := (blk_cell BK369.out 2).trans rfl; have hcz79_3 : wc.cell? ⟨gb369, 3, none⟩ = some (.int .i64 a0_3) := (blk_cell BK369.out 3).trans rfl; have hcz79_4 : wc.cell? ⟨gb369, 4, none⟩ = some (.int .i64 a0_4) := (blk_cell BK369.out 4).trans rfl; have hcz79_5 : wc.cell? ⟨gb369, 5, none⟩ = some (.int .i64 a0_5) := (blk_cell BK369.out 5).trans rfl; have hcz79_6 : wc.cell? ⟨gb369, 6, none⟩ = some (.bool a0_6) := (blk_cell BK369.out 6).trans rfl; have hcz79_7 : wc.cell? ⟨gb369, 7, none⟩ = some (.bool a0_7) := (blk_cell BK369.out 7).trans rfl; have hfz79_0 := blk_frozen BK369.out 0; have hfz79_1 := blk_frozen BK369.out 1; have hfz79_2 := blk_frozen BK369.out 2; have hfz79_3 := blk_frozen BK369.out 3; have hfz79_4 := blk_frozen BK369.out 4; have hfz79_5 := blk_frozen BK369.out 5; have hfz79_6 := blk_frozen BK369.out 6; have hfz79_7 := blk_frozen BK369.out 7) | (go_at_call 34; (with_reducible refine (mezzanineref09_has.calls kj8 t373 (⟨#[73, 72, 87, 66, 83, 70, 82, 76, 65, 67, 86]⟩ : ByteArray) false _ A64.out).mono ?_); rintro e w' ⟨rfl, ⟨nd, rfl⟩⟩) | (go_at_call 34; (with_reducible refine (mezzanineref09_has.calls kj8 t373 (⟨#[66, 83, 70, 82, 65]⟩ : ByteArray) true _ A75.out).mono ?_); rintro e w' ⟨rfl, ⟨nd, rfl⟩⟩))
             go_meet
             case rel => exact ⟨_, (false), (by first | rfl | (simp; done) | (simp [*]; done)), H', ⟨by have := HJ1.out; have := HJ8.out; first | omega | exact Nat.le_refl _⟩, ⟨by (with_reducible repeat (first | refine blk_drewN ?_ _ | refine blk_drew ?_ | refine blk_alloc ?_ _)); exact BK369.out⟩, ⟨by (with_reducible repeat (first | refine blk_drewN ?_ _ | refine blk_drew ?_ | refine blk_alloc ?_ _)); exact BK374.out⟩, ⟨by repeat (first | (with_reducible first | exact HB.out | apply below_alloc | apply pw_below_drewN | apply below_drew1 | refine below_set ?_ GE369.out | refine below_set ?_ GE374.out) | exact HB.out)⟩⟩
            ·replace c76 := Bool.eq_false_iff.mpr c76
             subst c76
             have H1 : (mezzanineref09_Right.j2 kj8 (a0_3 != 0) a0_0 a0_1 a0_2 a0_3 a0_4 a0_5 a0_6 a0_7 t370 t371 t372 t373) = some r := by rw [if_neg (show ¬ (false = true) by decide)] at H; exact H
             clear H
             have H := H1
             clear H1
             have H' := Aside0.mk H
             clear H
             have hnb80 := NB374_369.out
             have hnc80 := NB369_374.out
             have hcz81_0 : wc.cell? ⟨gb374, 0, none⟩ = some (.string t370) := (blk_cell BK374.out 0).trans rfl
             have hcz81_1 : wc.cell? ⟨gb374, 1, none⟩ = some (.int .u32 t371) := (blk_cell BK374.out 1).trans rfl
             have hcz81_2 : wc.cell? ⟨gb374, 2, none⟩ = some (.int .u32 t372) := (blk_cell BK374.out 2).trans rfl
             have hcz81_3 : wc.cell? ⟨gb374, 3, none⟩ = some (.int .u8 t373) := (blk_cell BK374.out 3).trans rfl
             have hfz81_0 := blk_frozen BK374.out 0
             have hfz81_1 := blk_frozen BK374.out 1
             have hfz81_2 := blk_frozen BK374.out 2
             have hfz81_3 := blk_frozen BK374.out 3
             go_wp2_with (first | ((with_reducible refine gate_callee (f := 34) rfl ?_); refine goesL_ (some 55) rfl rfl Try.func34 (by kernel_rfl) rfl #[.int .u8 t373, .string (⟨#[85, 74, 73, 72, 87, 82, 76, 65, 67, 90, 86]⟩ : ByteArray)] rfl (by (try simp only [List.map_toArray, List.map_cons, List.map_nil]); first | done | rfl | (simp only [List.length_drop, List.length_take]; rfl)) ?_; (with_reducible refine (mezzanineref09_has.calls kj8 t373 (⟨#[85, 74, 73, 72, 87, 82, 76, 65, 67, 90, 86]⟩ : ByteArray) false _ A40.out).mono ?_); rintro e w' ⟨rfl, ⟨nd, rfl⟩⟩; refine ⟨_, rfl, ?_⟩; have hcz82_0 : wc.cell? ⟨gb369, 0, none⟩ = some (.int .i64 a0_0) := (blk_cell BK369.out 0).trans rfl; have hcz82_1 : wc.cell? ⟨gb369, 1, none⟩ = some (.int .i64 a0_1) := (blk_cell BK369.out 1).trans rfl; have hcz82_2 : wc.cell? ⟨gb369, 2, none⟩ = some (.int .i64 a0_2) := (blk_cell BK369.out 2).trans rfl; have hcz82_3 : wc.cell? ⟨gb369, 3, none⟩ = some (.int .i64 a0_3) := (blk_cell BK369.out 3).trans rfl; have hcz82_4 : wc.cell? ⟨gb369, 4, none⟩ = some (.int .i64 a0_4) := (blk_cell BK369.out 4).trans rfl; have hcz82_5 : wc.cell? ⟨gb369, 5, none⟩ = some (.int .i64 a0_5) := (blk_cell BK369.out 5).trans rfl; have hcz82_6 : wc.cell? ⟨gb369, 6, none⟩ = some (.bool a0_6) := (blk_cell BK369.out 6).trans rfl; have hcz82_7 : wc.cell? ⟨gb369, 7, none⟩ = some (.bool a0_7) := (blk_cell BK369.out 7).trans rfl; have hfz82_0 := blk_frozen BK369.out 0; have hfz82_1 := blk_frozen BK369.out 1; have hfz82_2 := blk_frozen BK369.out 2; have hfz82_3 := blk_frozen BK369.out 3; have hfz82_4 := blk_frozen BK369.out 4; have hfz82_5 := blk_frozen BK369.out 5; have hfz82_6 := blk_frozen BK369.out 6; have hfz82_7 := blk_frozen BK369.out 7) | (go_at_call 34; (with_reducible refine (mezzanineref09_has.calls kj8 t373 (⟨#[73, 72, 87, 66, 83, 70, 82, 76, 65, 67, 86]⟩ : ByteArray) false _ A64.out).mono ?_); rintro e w' ⟨rfl, ⟨nd, rfl⟩⟩) | (go_at_call 34; (with_reducible refine (mezzanineref09_has.calls kj8 t373 (⟨#[66, 83, 70, 82, 65]⟩ : ByteArray) false _ A75.out).mono ?_); rintro e w' ⟨rfl, ⟨nd, rfl⟩⟩))
             go_meet
             case rel => exact ⟨_, ((a0_3 != 0)), (by first | rfl | (simp; done) | (simp [*]; done)), H', ⟨by have := HJ1.out; have := HJ8.out; first | omega | exact Nat.le_refl _⟩, ⟨by (with_reducible repeat (first | refine blk_drewN ?_ _ | refine blk_drew ?_ | refine blk_alloc ?_ _)); exact BK369.out⟩, ⟨by (with_reducible repeat (first | refine blk_drewN ?_ _ | refine blk_drew ?_ | refine blk_alloc ?_ _)); exact BK374.out⟩, ⟨by repeat (first | (with_reducible first | exact HB.out | apply below_alloc | apply pw_below_drewN | apply below_drew1 | refine below_set ?_ GE369.out | refine below_set ?_ GE374.out) | exact HB.out)⟩⟩
           ·rw [if_neg c74] at H
            have c74b0 : (a0_2 == 0) = false := beq_eq_false_iff_ne.mpr c74
            have c74b1 : (a0_2 != 0) = true := bne_iff_ne.mpr c74
            have H' := Aside0.mk H
            clear H
            have hnb83 := NB374_369.out
            have hnc83 := NB369_374.out
            have hcz84_0 : wc.cell? ⟨gb374, 0, none⟩ = some (.string t370) := (blk_cell BK374.out 0).trans rfl
            have hcz84_1 : wc.cell? ⟨gb374, 1, none⟩ = some (.int .u32 t371) := (blk_cell BK374.out 1).trans rfl
            have hcz84_2 : wc.cell? ⟨gb374, 2, none⟩ = some (.int .u32 t372) := (blk_cell BK374.out 2).trans rfl
            have hcz84_3 : wc.cell? ⟨gb374, 3, none⟩ = some (.int .u8 t373) := (blk_cell BK374.out 3).trans rfl
            have hfz84_0 := blk_frozen BK374.out 0
            have hfz84_1 := blk_frozen BK374.out 1
            have hfz84_2 := blk_frozen BK374.out 2
            have hfz84_3 := blk_frozen BK374.out 3
            go_wp2_with (first | ((with_reducible refine gate_callee (f := 34) rfl ?_); refine goesL_ (some 55) rfl rfl Try.func34 (by kernel_rfl) rfl #[.int .u8 t373, .string (⟨#[85, 74, 73, 72, 87, 82, 76, 65, 67, 90, 86]⟩ : ByteArray)] rfl (by (try simp only [List.map_toArray, List.map_cons, List.map_nil]); first | done | rfl | (simp only [List.length_drop, List.length_take]; rfl)) ?_; (with_reducible refine (mezzanineref09_has.calls kj8 t373 (⟨#[85, 74, 73, 72, 87, 82, 76, 65, 67, 90, 86]⟩ : ByteArray) false _ A40.out).mono ?_); rintro e w' ⟨rfl, ⟨nd, rfl⟩⟩; refine ⟨_, rfl, ?_⟩; have hcz85_0 : wc.cell? ⟨gb369, 0, none⟩ = some (.int .i64 a0_0) := (blk_cell BK369.out 0).trans rfl; have hcz85_1 : wc.cell? ⟨gb369, 1, none⟩ = some (.int .i64 a0_1) := (blk_cell BK369.out 1).trans rfl; have hcz85_2 : wc.cell? ⟨gb369, 2, none⟩ = some (.int .i64 a0_2) := (blk_cell BK369.out 2).trans rfl; have hcz85_3 : wc.cell? ⟨gb369, 3, none⟩ = some (.int .i64 a0_3) := (blk_cell BK369.out 3).trans rfl; have hcz85_4 : wc.cell? ⟨gb369, 4, none⟩ = some (.int .i64 a0_4) := (blk_cell BK369.out 4).trans rfl; have hcz85_5 : wc.cell? ⟨gb369, 5, none⟩ = some (.int .i64 a0_5) := (blk_cell BK369.out 5).trans rfl; have hcz85_6 : wc.cell? ⟨gb369, 6, none⟩ = some (.bool a0_6) := (blk_cell BK369.out 6).trans rfl; have hcz85_7 : wc.cell? ⟨gb369, 7, none⟩ = some (.bool a0_7) := (blk_cell BK369.out 7).trans rfl; have hfz85_0 := blk_frozen BK369.out 0; have hfz85_1 := blk_frozen BK369.out 1; have hfz85_2 := blk_frozen BK369.out 2; have hfz85_3 := blk_frozen BK369.out 3; have hfz85_4 := blk_frozen BK369.out 4; have hfz85_5 := blk_frozen BK369.out 5; have hfz85_6 := blk_frozen BK369.out 6; have hfz85_7 := blk_frozen BK369.out 7) | (go_at_call 34; (with_reducible refine (mezzanineref09_has.calls kj8 t373 (⟨#[73, 72, 87, 66, 83, 70, 82, 76, 65, 67, 86]⟩ : ByteArray) false _ A64.out).mono ?_); rintro e w' ⟨rfl, ⟨nd, rfl⟩⟩))
            go_meet
            case rel => exact ⟨_, (true), (by first | rfl | (simp; done) | (simp [*]; done)), H', ⟨by have := HJ1.out; have := HJ8.out; first | omega | exact Nat.le_refl _⟩, ⟨by (with_reducible repeat (first | refine blk_drewN ?_ _ | refine blk_drew ?_ | refine blk_alloc ?_ _)); exact BK369.out⟩, ⟨by (with_reducible repeat (first | refine blk_drewN ?_ _ | refine blk_drew ?_ | refine blk_alloc ?_ _)); exact BK374.out⟩, ⟨by repeat (first | (with_reducible first | exact HB.out | apply below_alloc | apply pw_below_drewN | apply below_drew1 | refine below_set ?_ GE369.out | refine below_set ?_ GE374.out) | exact HB.out)⟩⟩
         ·rw [if_neg c63] at H
          have c63b0 : (a0_1 == 0) = false := beq_eq_false_iff_ne.mpr c63
          have c63b1 : (a0_1 != 0) = true := bne_iff_ne.mpr c63
          have H' := Aside0.mk H
          clear H
          have hnb86 := NB374_369.out
          have hnc86 := NB369_374.out
          have hcz87_0 : wc.cell? ⟨gb374, 0, none⟩ = some (.string t370) := (blk_cell BK374.out 0).trans rfl
          have hcz87_1 : wc.cell? ⟨gb374, 1, none⟩ = some (.int .u32 t371) := (blk_cell BK374.out 1).trans rfl
          have hcz87_2 : wc.cell? ⟨gb374, 2, none⟩ = some (.int .u32 t372) := (blk_cell BK374.out 2).trans rfl
          have hcz87_3 : wc.cell? ⟨gb374, 3, none⟩ = some (.int .u8 t373) := (blk_cell BK374.out 3).trans rfl
          have hfz87_0 := blk_frozen BK374.out 0
          have hfz87_1 := blk_frozen BK374.out 1
          have hfz87_2 := blk_frozen BK374.out 2
          have hfz87_3 := blk_frozen BK374.out 3
          go_wp2_with (first | ((with_reducible refine gate_callee (f := 34) rfl ?_); refine goesL_ (some 55) rfl rfl Try.func34 (by kernel_rfl) rfl #[.int .u8 t373, .string (⟨#[85, 74, 73, 72, 87, 82, 76, 65, 67, 90, 86]⟩ : ByteArray)] rfl (by (try simp only [List.map_toArray, List.map_cons, List.map_nil]); first | done | rfl | (simp only [List.length_drop, List.length_take]; rfl)) ?_; (with_reducible refine (mezzanineref09_has.calls kj8 t373 (⟨#[85, 74, 73, 72, 87, 82, 76, 65, 67, 90, 86]⟩ : ByteArray) false _ A40.out).mono ?_); rintro e w' ⟨rfl, ⟨nd, rfl⟩⟩; refine ⟨_, rfl, ?_⟩; have hcz88_0 : wc.cell? ⟨gb369, 0, none⟩ = some (.int .i64 a0_0) := (blk_cell BK369.out 0).trans rfl; have hcz88_1 : wc.cell? ⟨gb369, 1, none⟩ = some (.int .i64 a0_1) := (blk_cell BK369.out 1).trans rfl; have hcz88_2 : wc.cell? ⟨gb369, 2, none⟩ = some (.int .i64 a0_2) := (blk_cell BK369.out 2).trans rfl; have hcz88_3 : wc.cell? ⟨gb369, 3, none⟩ = some (.int .i64 a0_3) := (blk_cell BK369.out 3).trans rfl; have hcz88_4 : wc.cell? ⟨gb369, 4, none⟩ = some (.int .i64 a0_4) := (blk_cell BK369.out 4).trans rfl; have hcz88_5 : wc.cell? ⟨gb369, 5, none⟩ = some (.int .i64 a0_5) := (blk_cell BK369.out 5).trans rfl; have hcz88_6 : wc.cell? ⟨gb369, 6, none⟩ = some (.bool a0_6) := (blk_cell BK369.out 6).trans rfl; have hcz88_7 : wc.cell? ⟨gb369, 7, none⟩ = some (.bool a0_7) := (blk_cell BK369.out 7).trans rfl; have hfz88_0 := blk_frozen BK369.out 0; have hfz88_1 := blk_frozen BK369.out 1; have hfz88_2 := blk_frozen BK369.out 2; have hfz88_3 := blk_frozen BK369.out 3; have hfz88_4 := blk_frozen BK369.out 4; have hfz88_5 := blk_frozen BK369.out 5; have hfz88_6 := blk_frozen BK369.out 6; have hfz88_7 := blk_frozen BK369.out 7))
          go_meet
          case rel => exact ⟨_, (true), (by first | rfl | (simp; done) | (simp [*]; done)), H', ⟨by have := HJ1.out; have := HJ8.out; first | omega | exact Nat.le_refl _⟩, ⟨by (with_reducible repeat (first | refine blk_drewN ?_ _ | refine blk_drew ?_ | refine blk_alloc ?_ _)); exact BK369.out⟩, ⟨by (with_reducible repeat (first | refine blk_drewN ?_ _ | refine blk_drew ?_ | refine blk_alloc ?_ _)); exact BK374.out⟩, ⟨by repeat (first | (with_reducible first | exact HB.out | apply below_alloc | apply pw_below_drewN | apply below_drew1 | refine below_set ?_ GE369.out | refine below_set ?_ GE374.out) | exact HB.out)⟩⟩
       case rest =>
        clear HC39
        try clear c1; try clear c2; try clear p2; try clear c3; try clear c4; try clear c4b0; try clear c5; try clear c6; try clear c7; try clear c8; try clear c13; try clear c15; try clear c15b0; try clear c16; try clear c18; try clear c18b0; try clear c19; try clear c21; try clear c21b0; try clear c22; try clear c24; try clear c24b0; try clear c25; try clear c27; try clear c27b0; try clear c28; try clear c30; try clear c30b0; try clear c31; try clear c33; try clear c33b0; try clear c34; try clear c36; try clear c38; try clear c41; try clear c43; try clear c45; try clear c46; try clear c48; try clear c51; try clear c51b0; try clear c51b1; try clear c53; try clear c54; try clear c57; try clear c60; try clear c63; try clear c63b0; try clear c63b1; try clear c65; try clear c67; try clear c68; try clear c71; try clear c74; try clear c74b0; try clear c74b1; try clear c76; try clear c77; try clear c80; try clear c83; try clear c86; try clear hcz10_0; try clear hcz10_1; try clear hcz10_2; try clear hcz10_3; try clear hcz10_4; try clear hcz10_5; try clear hcz10_6; try clear hcz10_7; try clear hcz14_0; try clear hcz14_1; try clear hcz14_2; try clear hcz14_3; try clear hcz17_0; try clear hcz17_1; try clear hcz17_2; try clear hcz17_3; try clear hcz17_4; try clear hcz17_5; try clear hcz17_6; try clear hcz17_7; try clear hcz20_0; try clear hcz20_1; try clear hcz20_2; try clear hcz20_3; try clear hcz20_4; try clear hcz20_5; try clear hcz20_6; try clear hcz20_7; try clear hcz23_0; try clear hcz23_1; try clear hcz23_2; try clear hcz23_3; try clear hcz23_4; try clear hcz23_5; try clear hcz23_6; try clear hcz23_7; try clear hcz26_0; try clear hcz26_1; try clear hcz26_2; try clear hcz26_3; try clear hcz26_4; try clear hcz26_5; try clear hcz26_6; try clear hcz26_7; try clear hcz29_0; try clear hcz29_1; try clear hcz29_2; try clear hcz29_3; try clear hcz29_4; try clear hcz29_5; try clear hcz29_6; try clear hcz29_7; try clear hcz32_0; try clear hcz32_1; try clear hcz32_2; try clear hcz32_3; try clear hcz32_4; try clear hcz32_5; try clear hcz32_6; try clear hcz32_7; try clear hcz35_0; try clear hcz35_1; try clear hcz35_2; try clear hcz35_3; try clear hcz35_4; try clear hcz35_5; try clear hcz35_6; try clear hcz35_7; try clear hcz37_0; try clear hcz37_1; try clear hcz37_2; try clear hcz37_3; try clear hcz37_4; try clear hcz37_5; try clear hcz37_6; try clear hcz37_7; try clear hcz47_0; try clear hcz47_1; try clear hcz47_2; try clear hcz47_3; try clear hcz49_0; try clear hcz49_1; try clear hcz49_2; try clear hcz49_3; try clear hcz50_0; try clear hcz50_1; try clear hcz50_2; try clear hcz50_3; try clear hcz50_4; try clear hcz50_5; try clear hcz50_6; try clear hcz50_7; try clear hcz55_0; try clear hcz55_1; try clear hcz55_2; try clear hcz55_3; try clear hcz56_0; try clear hcz56_1; try clear hcz56_2; try clear hcz56_3; try clear hcz56_4; try clear hcz56_5; try clear hcz56_6; try clear hcz56_7; try clear hcz58_0; try clear hcz58_1; try clear hcz58_2; try clear hcz58_3; try clear hcz59_0; try clear hcz59_1; try clear hcz59_2; try clear hcz59_3; try clear hcz59_4; try clear hcz59_5; try clear hcz59_6; try clear hcz59_7; try clear hcz5_0; try clear hcz5_1; try clear hcz5_2; try clear hcz5_3; try clear hcz5_4; try clear hcz5_5; try clear hcz5_6; try clear hcz5_7; try clear hcz61_0; try clear hcz61_1; try clear hcz61_2; try clear hcz61_3; try clear hcz62_0; try clear hcz62_1; try clear hcz62_2; try clear hcz62_3; try clear hcz62_4; try clear hcz62_5; try clear hcz62_6; try clear hcz62_7; try clear hcz69_0; try clear hcz69_1; try clear hcz69_2; try clear hcz69_3; try clear hcz6_0; try clear hcz6_1; try clear hcz6_2; try clear hcz6_3; try clear hcz6_4; try clear hcz6_5; try clear hcz6_6; try clear hcz6_7; try clear hcz70_0; try clear hcz70_1; try clear hcz70_2; try clear hcz70_3; try clear hcz70_4; try clear hcz70_5; try clear hcz70_6; try clear hcz70_7; try clear hcz72_0; try clear hcz72_1; try clear hcz72_2; try clear hcz72_3; try clear hcz73_0; try clear hcz73_1; try clear hcz73_2; try clear hcz73_3; try clear hcz73_4; try clear hcz73_5; try clear hcz73_6; try clear hcz73_7; try clear hcz78_0; try clear hcz78_1; try clear hcz78_2; try clear hcz78_3; try clear hcz79_0; try clear hcz79_1; try clear hcz79_2; try clear hcz79_3; try clear hcz79_4; try clear hcz79_5; try clear hcz79_6; try clear hcz79_7; try clear hcz81_0; try clear hcz81_1; try clear hcz81_2; try clear hcz81_3; try clear hcz82_0; try clear hcz82_1; try clear hcz82_2; try clear hcz82_3; try clear hcz82_4; try clear hcz82_5; try clear hcz82_6; try clear hcz82_7; try clear hcz84_0; try clear hcz84_1; try clear hcz84_2; try clear hcz84_3; try clear hcz85_0; try clear hcz85_1; try clear hcz85_2; try clear hcz85_3; try clear hcz85_4; try clear hcz85_5; try clear hcz85_6; try clear hcz85_7; try clear hcz87_0; try clear hcz87_1; try clear hcz87_2; try clear hcz87_3; try clear hcz88_0; try clear hcz88_1; try clear hcz88_2; try clear hcz88_3; try clear hcz88_4; try clear hcz88_5; try clear hcz88_6; try clear hcz88_7; try clear hfz10_0; try clear hfz10_1; try clear hfz10_2; try clear hfz10_3; try clear hfz10_4; try clear hfz10_5; try clear hfz10_6; try clear hfz10_7; try clear hfz14_0; try clear hfz14_1; try clear hfz14_2; try clear hfz14_3; try clear hfz17_0; try clear hfz17_1; try clear hfz17_2; try clear hfz17_3; try clear hfz17_4; try clear hfz17_5; try clear hfz17_6; try clear hfz17_7; try clear hfz20_0; try clear hfz20_1; try clear hfz20_2; try clear hfz20_3; try clear hfz20_4; try clear hfz20_5; try clear hfz20_6; try clear hfz20_7; try clear hfz23_0; try clear hfz23_1; try clear hfz23_2; try clear hfz23_3; try clear hfz23_4; try clear hfz23_5; try clear hfz23_6; try clear hfz23_7; try clear hfz26_0; try clear hfz26_1; try clear hfz26_2; try clear hfz26_3; try clear hfz26_4; try clear hfz26_5; try clear hfz26_6; try clear hfz26_7; try clear hfz29_0; try clear hfz29_1; try clear hfz29_2; try clear hfz29_3; try clear hfz29_4; try clear hfz29_5; try clear hfz29_6; try clear hfz29_7; try clear hfz32_0; try clear hfz32_1; try clear hfz32_2; try clear hfz32_3; try clear hfz32_4; try clear hfz32_5; try clear hfz32_6; try clear hfz32_7; try clear hfz35_0; try clear hfz35_1; try clear hfz35_2; try clear hfz35_3; try clear hfz35_4; try clear hfz35_5; try clear hfz35_6; try clear hfz35_7; try clear hfz37_0; try clear hfz37_1; try clear hfz37_2; try clear hfz37_3; try clear hfz37_4; try clear hfz37_5; try clear hfz37_6; try clear hfz37_7; try clear hfz47_0; try clear hfz47_1; try clear hfz47_2; try clear hfz47_3; try clear hfz49_0; try clear hfz49_1; try clear hfz49_2; try clear hfz49_3; try clear hfz50_0; try clear hfz50_1; try clear hfz50_2; try clear hfz50_3; try clear hfz50_4; try clear hfz50_5; try clear hfz50_6; try clear hfz50_7; try clear hfz55_0; try clear hfz55_1; try clear hfz55_2; try clear hfz55_3; try clear hfz56_0; try clear hfz56_1; try clear hfz56_2; try clear hfz56_3; try clear hfz56_4; try clear hfz56_5; try clear hfz56_6; try clear hfz56_7; try clear hfz58_0; try clear hfz58_1; try clear hfz58_2; try clear hfz58_3; try clear hfz59_0; try clear hfz59_1; try clear hfz59_2; try clear hfz59_3; try clear hfz59_4; try clear hfz59_5; try clear hfz59_6; try clear hfz59_7; try clear hfz5_0; try clear hfz5_1; try clear hfz5_2; try clear hfz5_3; try clear hfz5_4; try clear hfz5_5; try clear hfz5_6; try clear hfz5_7; try clear hfz61_0; try clear hfz61_1; try clear hfz61_2; try clear hfz61_3; try clear hfz62_0; try clear hfz62_1; try clear hfz62_2; try clear hfz62_3; try clear hfz62_4; try clear hfz62_5; try clear hfz62_6; try clear hfz62_7; try clear hfz69_0; try clear hfz69_1; try clear hfz69_2; try clear hfz69_3; try clear hfz6_0; try clear hfz6_1; try clear hfz6_2; try clear hfz6_3; try clear hfz6_4; try clear hfz6_5; try clear hfz6_6; try clear hfz6_7; try clear hfz70_0; try clear hfz70_1; try clear hfz70_2; try clear hfz70_3; try clear hfz70_4; try clear hfz70_5; try clear hfz70_6; try clear hfz70_7; try clear hfz72_0; try clear hfz72_1; try clear hfz72_2; try clear hfz72_3; try clear hfz73_0; try clear hfz73_1; try clear hfz73_2; try clear hfz73_3; try clear hfz73_4; try clear hfz73_5; try clear hfz73_6; try clear hfz73_7; try clear hfz78_0; try clear hfz78_1; try clear hfz78_2; try clear hfz78_3; try clear hfz79_0; try clear hfz79_1; try clear hfz79_2; try clear hfz79_3; try clear hfz79_4; try clear hfz79_5; try clear hfz79_6; try clear hfz79_7; try clear hfz81_0; try clear hfz81_1; try clear hfz81_2; try clear hfz81_3; try clear hfz82_0; try clear hfz82_1; try clear hfz82_2; try clear hfz82_3; try clear hfz82_4; try clear hfz82_5; try clear hfz82_6; try clear hfz82_7; try clear hfz84_0; try clear hfz84_1; try clear hfz84_2; try clear hfz84_3; try clear hfz85_0; try clear hfz85_1; try clear hfz85_2; try clear hfz85_3; try clear hfz85_4; try clear hfz85_5; try clear hfz85_6; try clear hfz85_7; try clear hfz87_0; try clear hfz87_1; try clear hfz87_2; try clear hfz87_3; try clear hfz88_0; try clear hfz88_1; try clear hfz88_2; try clear hfz88_3; try clear hfz88_4; try clear hfz88_5; try clear hfz88_6; try clear hfz88_7; try clear p2
        obtain ⟨kq, x83_38, rfl, HA, HJ38, BK369, BK374, HB⟩ := hcut
        cases kq with
        | zero => exact absurd HA.out (by simp [mezzanineref09_Right.j2])
        | succ kj38 =>
         have H := HA.out
         clear HA
         simp only [mezzanineref09_Right.j2] at H
         by_cases c89 : x83_38 = true
         ·subst c89
          have H1 : (some false) = some r := by rw [if_pos rfl] at H; exact H
          clear H
          have H := H1
          clear H1
          obtain rfl := Option.some.inj H
          go_wp2
          go_ret
          exact ⟨by first | rfl | (simp [errW_none, errW_some] <;> rfl) | (simp [*, errW_none, errW_some] <;> rfl), by repeat (first | (with_reducible first | exact HB.out | apply below_alloc | apply pw_below_drewN | apply below_drew1 | refine below_set ?_ GE369.out | refine below_set ?_ GE374.out) | exact HB.out)⟩
         ·replace c89 := Bool.eq_false_iff.mpr c89
          subst c89
          have H1 : ((mezzanineref09_has.f kj38 t373 (⟨#[67, 90]⟩ : ByteArray)).bind fun t382 => (if t382 = true then ((mezzanineref09_has.f kj38 t373 (⟨#[76, 65]⟩ : ByteArray)).bind fun t383 => (if t383 = true then (mezzanineref09_Right.j3 kj38 false a0_0 a0_1 a0_2 a0_3 a0_4 a0_5 a0_6 a0_7 t370 t371 t372 t373) else (if a0_6 = true then (mezzanineref09_Right.j3 kj38 true a0_0 a0_1 a0_2 a0_3 a0_4 a0_5 a0_6 a0_7 t370 t371 t372 t373) else (mezzanineref09_Right.j3 kj38 a0_7 a0_0 a0_1 a0_2 a0_3 a0_4 a0_5 a0_6 a0_7 t370 t371 t372 t373)))) else (if a0_5 = 0 then ((mezzanineref09_has.f kj38 t373 (⟨#[76, 65]⟩ : ByteArray)).bind fun t384 => (if t384 = true then (mezzanineref09_Right.j3 kj38 false a0_0 a0_1 a0_2 a0_3 a0_4 a0_5 a0_6 a0_7 t370 t371 t372 t373) else (if a0_6 = true then (mezzanineref09_Right.j3 kj38 true a0_0 a0_1 a0_2 a0_3 a0_4 a0_5 a0_6 a0_7 t370 t371 t372 t373) else (mezzanineref09_Right.j3 kj38 a0_7 a0_0 a0_1 a0_2 a0_3 a0_4 a0_5 a0_6 a0_7 t370 t371 t372 t373)))) else (mezzanineref09_Right.j3 kj38 true a0_0 a0_1 a0_2 a0_3 a0_4 a0_5 a0_6 a0_7 t370 t371 t372 t373)))) = some r := by rw [if_neg (show ¬ (false = true) by decide)] at H; exact H
          clear H
          have H := H1
          clear H1
          have HC90 := Aside0.mk H
          clear H
          go_upto_region 8 with (fail)
          go_cut [106] (fun v106 wc => ∃ (kq : Nat) (x106_89 : Bool), v106 = .bool x106_89 ∧ Aside0 (mezzanineref09_Right.j3 kq x106_89 a0_0 a0_1 a0_2 a0_3 a0_4 a0_5 a0_6 a0_7 t370 t371 t372 t373 = some r) ∧ Aside0 (kq ≤ kj38) ∧ Aside0 (wc.heap[gb369]? = some (.cells #[.int .i64 a0_0, .int .i64 a0_1, .int .i64 a0_2, .int .i64 a0_3, .int .i64 a0_4, .int .i64 a0_5, .bool a0_6, .bool a0_7] 24 (0, 0))) ∧ Aside0 (wc.heap[gb374]? = some (.cells #[.string t370, .int .u32 t371, .int .u32 t372, .int .u8 t373] 61 (0, 0))) ∧ Aside0 (Below w.heap.size w wc))
          case first =>
           have H := HC90.out
           clear HC90
           replace H := Option.bind_eq_some_iff.mp H
           obtain ⟨t382, A910, H⟩ := H
           replace H : (if t382 = true then ((mezzanineref09_has.f kj38 t373 (⟨#[76, 65]⟩ : ByteArray)).bind fun t383 => (if t383 = true then (mezzanineref09_Right.j3 kj38 false a0_0 a0_1 a0_2 a0_3 a0_4 a0_5 a0_6 a0_7 t370 t371 t372 t373) else (if a0_6 = true then (mezzanineref09_Right.j3 kj38 true a0_0 a0_1 a0_2 a0_3 a0_4 a0_5 a0_6 a0_7 t370 t371 t372 t373) else (mezzanineref09_Right.j3 kj38 a0_7 a0_0 a0_1 a0_2 a0_3 a0_4 a0_5 a0_6 a0_7 t370 t371 t372 t373)))) else (if a0_5 = 0 then ((mezzanineref09_has.f kj38 t373 (⟨#[76, 65]⟩ : ByteArray)).bind fun t384 => (if t384 = true then (mezzanineref09_Right.j3 kj38 false a0_0 a0_1 a0_2 a0_3 a0_4 a0_5 a0_6 a0_7 t370 t371 t372 t373) else (if a0_6 = true then (mezzanineref09_Right.j3 kj38 true a0_0 a0_1 a0_2 a0_3 a0_4 a0_5 a0_6 a0_7 t370 t371 t372 t373) else (mezzanineref09_Right.j3 kj38 a0_7 a0_0 a0_1 a0_2 a0_3 a0_4 a0_5 a0_6 a0_7 t370 t371 t372 t373)))) else (mezzanineref09_Right.j3 kj38 true a0_0 a0_1 a0_2 a0_3 a0_4 a0_5 a0_6 a0_7 t370 t371 t372 t373))) = some r := H
           have A91 := Aside0.mk A910
           clear A910
           by_cases c92 : t382 = true
           ·subst c92
            have H1 : ((mezzanineref09_has.f kj38 t373 (⟨#[76, 65]⟩ : ByteArray)).bind fun t383 => (if t383 = true then (mezzanineref09_Right.j3 kj38 false a0_0 a0_1 a0_2 a0_3 a0_4 a0_5 a0_6 a0_7 t370 t371 t372 t373) else (if a0_6 = true then (mezzanineref09_Right.j3 kj38 true a0_0 a0_1 a0_2 a0_3 a0_4 a0_5 a0_6 a0_7 t370 t371 t372 t373) else (mezzanineref09_Right.j3 kj38 a0_7 a0_0 a0_1 a0_2 a0_3 a0_4 a0_5 a0_6 a0_7 t370 t371 t372 t373)))) = some r := by rw [if_pos rfl] at H; exact H
            clear H
            have H := H1
            clear H1
            replace H := Option.bind_eq_some_iff.mp H
            obtain ⟨t383, A930, H⟩ := H
            replace H : (if t383 = true then (mezzanineref09_Right.j3 kj38 false a0_0 a0_1 a0_2 a0_3 a0_4 a0_5 a0_6 a0_7 t370 t371 t372 t373) else (if a0_6 = true then (mezzanineref09_Right.j3 kj38 true a0_0 a0_1 a0_2 a0_3 a0_4 a0_5 a0_6 a0_7 t370 t371 t372 t373) else (mezzanineref09_Right.j3 kj38 a0_7 a0_0 a0_1 a0_2 a0_3 a0_4 a0_5 a0_6 a0_7 t370 t371 t372 t373))) = some r := H
            have A93 := Aside0.mk A930
            clear A930
            by_cases c94 : t383 = true
            ·subst c94
             have H1 : (mezzanineref09_Right.j3 kj38 false a0_0 a0_1 a0_2 a0_3 a0_4 a0_5 a0_6 a0_7 t370 t371 t372 t373) = some r := by rw [if_pos rfl] at H; exact H
             clear H
             have H := H1
             clear H1
             have H' := Aside0.mk H
             clear H
             have hnb95 := NB374_369.out
             have hnc95 := NB369_374.out
             have hcz96_0 : wc.cell? ⟨gb374, 0, none⟩ = some (.string t370) := (blk_cell BK374.out 0).trans rfl
             have hcz96_1 : wc.cell? ⟨gb374, 1, none⟩ = some (.int .u32 t371) := (blk_cell BK374.out 1).trans rfl
             have hcz96_2 : wc.cell? ⟨gb374, 2, none⟩ = some (.int .u32 t372) := (blk_cell BK374.out 2).trans rfl
             have hcz96_3 : wc.cell? ⟨gb374, 3, none⟩ = some (.int .u8 t373) := (blk_cell BK374.out 3).trans rfl
             have hfz96_0 := blk_frozen BK374.out 0
             have hfz96_1 := blk_frozen BK374.out 1
             have hfz96_2 := blk_frozen BK374.out 2
             have hfz96_3 := blk_frozen BK374.out 3
             go_wp2_with (first | ((with_reducible refine gate_callee (f := 34) rfl ?_); refine goesL_ (some 86) rfl rfl Try.func34 (by kernel_rfl) rfl #[.int .u8 t373, .string (⟨#[67, 90]⟩ : ByteArray)] rfl (by (try simp only [List.map_toArray, List.map_cons, List.map_nil]); first | done | rfl | (simp only [List.length_drop, List.length_take]; rfl)) ?_; (with_reducible refine (mezzanineref09_has.calls kj38 t373 (⟨#[67, 90]⟩ : ByteArray) true _ A91.out).mono ?_); rintro e w' ⟨rfl, ⟨nd, rfl⟩⟩; refine ⟨_, rfl, ?_⟩) | (go_at_call 34; (with_reducible refine (mezzanineref09_has.calls kj38 t373 (⟨#[76, 65]⟩ : ByteArray) true _ A93.out).mono ?_); rintro e w' ⟨rfl, ⟨nd, rfl⟩⟩))
             go_meet
             case rel => exact ⟨_, (false), (by first | rfl | (simp; done) | (simp [*]; done)), H', ⟨by have := HJ1.out; have := HJ8.out; have := HJ38.out; first | omega | exact Nat.le_refl _⟩, ⟨by (with_reducible repeat (first | refine blk_drewN ?_ _ | refine blk_drew ?_ | refine blk_alloc ?_ _)); exact BK369.out⟩, ⟨by (with_reducible repeat (first | refine blk_drewN ?_ _ | refine blk_drew ?_ | refine blk_alloc ?_ _)); exact BK374.out⟩, ⟨by repeat (first | (with_reducible first | exact HB.out | apply below_alloc | apply pw_below_drewN | apply below_drew1 | refine below_set ?_ GE369.out | refine below_set ?_ GE374.out) | exact HB.out)⟩⟩
            ·replace c94 := Bool.eq_false_iff.mpr c94
             subst c94
             have H1 : (if a0_6 = true then (mezzanineref09_Right.j3 kj38 true a0_0 a0_1 a0_2 a0_3 a0_4 a0_5 a0_6 a0_7 t370 t371 t372 t373) else (mezzanineref09_Right.j3 kj38 a0_7 a0_0 a0_1 a0_2 a0_3 a0_4 a0_5 a0_6 a0_7 t370 t371 t372 t373)) = some r := by rw [if_neg (show ¬ (false = true) by decide)] at H; exact H
             clear H
             have H := H1
             clear H1
             by_cases c97 : a0_6 = true
             ·subst c97
              have H1 : (mezzanineref09_Right.j3 kj38 true a0_0 a0_1 a0_2 a0_3 a0_4 a0_5 true a0_7 t370 t371 t372 t373) = some r := by rw [if_pos rfl] at H; exact H
              clear H
              have H := H1
              clear H1
              have H' := Aside0.mk H
              clear H
              have hnb98 := NB374_369.out
              have hnc98 := NB369_374.out
              have hcz99_0 : wc.cell? ⟨gb374, 0, none⟩ = some (.string t370) := (blk_cell BK374.out 0).trans rfl
              have hcz99_1 : wc.cell? ⟨gb374, 1, none⟩ = some (.int .u32 t371) := (blk_cell BK374.out 1).trans rfl
              have hcz99_2 : wc.cell? ⟨gb374, 2, none⟩ = some (.int .u32 t372) := (blk_cell BK374.out 2).trans rfl
              have hcz99_3 : wc.cell? ⟨gb374, 3, none⟩ = some (.int .u8 t373) := (blk_cell BK374.out 3).trans rfl
              have hfz99_0 := blk_frozen BK374.out 0
              have hfz99_1 := blk_frozen BK374.out 1
              have hfz99_2 := blk_frozen BK374.out 2
              have hfz99_3 := blk_frozen BK374.out 3
              go_wp2_with (first | ((with_reducible refine gate_callee (f := 34) rfl ?_); refine goesL_ (some 86) rfl rfl Try.func34 (by kernel_rfl) rfl #[.int .u8 t373, .string (⟨#[67, 90]⟩ : ByteArray)] rfl (by (try simp only [List.map_toArray, List.map_cons, List.map_nil]); first | done | rfl | (simp only [List.length_drop, List.length_take]; rfl)) ?_; (with_reducible refine (mezzanineref09_has.calls kj38 t373 (⟨#[67, 90]⟩ : ByteArray) true _ A91.out).mono ?_); rintro e w' ⟨rfl, ⟨nd, rfl⟩⟩; refine ⟨_, rfl, ?_⟩) | (go_at_call 34; (with_reducible refine (mezzanineref09_has.calls kj38 t373 (⟨#[76, 65]⟩ : ByteArray) false _ A93.out).mono ?_); rintro e w' ⟨rfl, ⟨nd, rfl⟩⟩; have hcz100_0 : wc.cell? ⟨gb369, 0, none⟩ = some (.int .i64 a0_0) := (blk_cell BK369.out 0).trans rfl; have hcz100_1 : wc.cell? ⟨gb369, 1, none⟩ = some (.int .i64 a0_1) := (blk_cell BK369.out 1).trans rfl; have hcz100_2 : wc.cell? ⟨gb369, 2, none⟩ = some (.int .i64 a0_2) := (blk_cell BK369.out 2).trans rfl; have hcz100_3 : wc.cell? ⟨gb369, 3, none⟩ = some (.int .i64 a0_3) := (blk_cell BK369.out 3).trans rfl; have hcz100_4 : wc.cell? ⟨gb369, 4, none⟩ = some (.int .i64 a0_4) := (blk_cell BK369.out 4).trans rfl; have hcz100_5 : wc.cell? ⟨gb369, 5, none⟩ = some (.int .i64 a0_5) := (blk_cell BK369.out 5).trans rfl; have hcz100_6 : wc.cell? ⟨gb369, 6, none⟩ = some (.bool true) := (blk_cell BK369.out 6).trans rfl; have hcz100_7 : wc.cell? ⟨gb369, 7, none⟩ = some (.bool a0_7) := (blk_cell BK369.out 7).trans rfl; have hfz100_0 := blk_frozen BK369.out 0; have hfz100_1 := blk_frozen BK369.out 1; have hfz100_2 := blk_frozen BK369.out 2; have hfz100_3 := blk_frozen BK369.out 3; have hfz100_4 := blk_frozen BK369.out 4; have hfz100_5 := blk_frozen BK369.out 5; have hfz100_6 := blk_frozen BK369.out 6; have hfz100_7 := blk_frozen BK369.out 7))
              go_meet
              case rel => exact ⟨_, (true), (by first | rfl | (simp; done) | (simp [*]; done)), H', ⟨by have := HJ1.out; have := HJ8.out; have := HJ38.out; first | omega | exact Nat.le_refl _⟩, ⟨by (with_reducible repeat (first | refine blk_drewN ?_ _ | refine blk_drew ?_ | refine blk_alloc ?_ _)); exact BK369.out⟩, ⟨by (with_reducible repeat (first | refine blk_drewN ?_ _ | refine blk_drew ?_ | refine blk_alloc ?_ _)); exact BK374.out⟩, ⟨by repeat (first | (with_reducible first | exact HB.out | apply below_alloc | apply pw_below_drewN | apply below_drew1 | refine below_set ?_ GE369.out | refine below_set ?_ GE374.out) | exact HB.out)⟩⟩
             ·replace c97 := Bool.eq_false_iff.mpr c97
              subst c97
              have H1 : (mezzanineref09_Right.j3 kj38 a0_7 a0_0 a0_1 a0_2 a0_3 a0_4 a0_5 false a0_7 t370 t371 t372 t373) = some r := by rw [if_neg (show ¬ (false = true) by decide)] at H; exact H
              clear H
              have H := H1
              clear H1
              have H' := Aside0.mk H
              clear H
              have hnb101 := NB374_369.out
              have hnc101 := NB369_374.out
              have hcz102_0 : wc.cell? ⟨gb374, 0, none⟩ = some (.string t370) := (blk_cell BK374.out 0).trans rfl
              have hcz102_1 : wc.cell? ⟨gb374, 1, none⟩ = some (.int .u32 t371) := (blk_cell BK374.out 1).trans rfl
              have hcz102_2 : wc.cell? ⟨gb374, 2, none⟩ = some (.int .u32 t372) := (blk_cell BK374.out 2).trans rfl
              have hcz102_3 : wc.cell? ⟨gb374, 3, none⟩ = some (.int .u8 t373) := (blk_cell BK374.out 3).trans rfl
              have hfz102_0 := blk_frozen BK374.out 0
              have hfz102_1 := blk_frozen BK374.out 1
              have hfz102_2 := blk_frozen BK374.out 2
              have hfz102_3 := blk_frozen BK374.out 3
              go_wp2_with (first | ((with_reducible refine gate_callee (f := 34) rfl ?_); refine goesL_ (some 86) rfl rfl Try.func34 (by kernel_rfl) rfl #[.int .u8 t373, .string (⟨#[67, 90]⟩ : ByteArray)] rfl (by (try simp only [List.map_toArray, List.map_cons, List.map_nil]); first | done | rfl | (simp only [List.length_drop, List.length_take]; rfl)) ?_; (with_reducible refine (mezzanineref09_has.calls kj38 t373 (⟨#[67, 90]⟩ : ByteArray) true _ A91.out).mono ?_); rintro e w' ⟨rfl, ⟨nd, rfl⟩⟩; refine ⟨_, rfl, ?_⟩) | (go_at_call 34; (with_reducible refine (mezzanineref09_has.calls kj38 t373 (⟨#[76, 65]⟩ : ByteArray) false _ A93.out).mono ?_); rintro e w' ⟨rfl, ⟨nd, rfl⟩⟩; have hcz103_0 : wc.cell? ⟨gb369, 0, none⟩ = some (.int .i64 a0_0) := (blk_cell BK369.out 0).trans rfl; have hcz103_1 : wc.cell? ⟨gb369, 1, none⟩ = some (.int .i64 a0_1) := (blk_cell BK369.out 1).trans rfl; have hcz103_2 : wc.cell? ⟨gb369, 2, none⟩ = some (.int .i64 a0_2) := (blk_cell BK369.out 2).trans rfl; have hcz103_3 : wc.cell? ⟨gb369, 3, none⟩ = some (.int .i64 a0_3) := (blk_cell BK369.out 3).trans rfl; have hcz103_4 : wc.cell? ⟨gb369, 4, none⟩ = some (.int .i64 a0_4) := (blk_cell BK369.out 4).trans rfl; have hcz103_5 : wc.cell? ⟨gb369, 5, none⟩ = some (.int .i64 a0_5) := (blk_cell BK369.out 5).trans rfl; have hcz103_6 : wc.cell? ⟨gb369, 6, none⟩ = some (.bool false) := (blk_cell BK369.out 6).trans rfl; have hcz103_7 : wc.cell? ⟨gb369, 7, none⟩ = some (.bool a0_7) := (blk_cell BK369.out 7).trans rfl; have hfz103_0 := blk_frozen BK369.out 0; have hfz103_1 := blk_frozen BK369.out 1; have hfz103_2 := blk_frozen BK369.out 2; have hfz103_3 := blk_frozen BK369.out 3; have hfz103_4 := blk_frozen BK369.out 4; have hfz103_5 := blk_frozen BK369.out 5; have hfz103_6 := blk_frozen BK369.out 6; have hfz103_7 := blk_frozen BK369.out 7))
              go_meet
              case rel => exact ⟨_, (a0_7), (by first | rfl | (simp; done) | (simp [*]; done)), H', ⟨by have := HJ1.out; have := HJ8.out; have := HJ38.out; first | omega | exact Nat.le_refl _⟩, ⟨by (with_reducible repeat (first | refine blk_drewN ?_ _ | refine blk_drew ?_ | refine blk_alloc ?_ _)); exact BK369.out⟩, ⟨by (with_reducible repeat (first | refine blk_drewN ?_ _ | refine blk_drew ?_ | refine blk_alloc ?_ _)); exact BK374.out⟩, ⟨by repeat (first | (with_reducible first | exact HB.out | apply below_alloc | apply pw_below_drewN | apply below_drew1 | refine below_set ?_ GE369.out | refine below_set ?_ GE374.out) | exact HB.out)⟩⟩
           ·replace c92 := Bool.eq_false_iff.mpr c92
            subst c92
            have H1 : (if a0_5 = 0 then ((mezzanineref09_has.f kj38 t373 (⟨#[76, 65]⟩ : ByteArray)).bind fun t384 => (if t384 = true then (mezzanineref09_Right.j3 kj38 false a0_0 a0_1 a0_2 a0_3 a0_4 a0_5 a0_6 a0_7 t370 t371 t372 t373) else (if a0_6 = true then (mezzanineref09_Right.j3 kj38 true a0_0 a0_1 a0_2 a0_3 a0_4 a0_5 a0_6 a0_7 t370 t371 t372 t373) else (mezzanineref09_Right.j3 kj38 a0_7 a0_0 a0_1 a0_2 a0_3 a0_4 a0_5 a0_6 a0_7 t370 t371 t372 t373)))) else (mezzanineref09_Right.j3 kj38 true a0_0 a0_1 a0_2 a0_3 a0_4 a0_5 a0_6 a0_7 t370 t371 t372 t373)) = some r := by rw [if_neg (show ¬ (false = true) by decide)] at H; exact H
            clear H
            have H := H1
            clear H1
            by_cases c104 : a0_5 = 0
            ·rw [if_pos c104] at H
             have c104b0 : (a0_5 == 0) = true := beq_iff_eq.mpr c104
             have c104b1 : (a0_5 != 0) = false := bne_eq_false_iff_eq.mpr c104
             clear c104
             (first | rw [c104b0] | (simp only [i64_w, i32_w]; rw [c104b0]) | skip)
             replace H := Option.bind_eq_some_iff.mp H
             obtain ⟨t384, A1050, H⟩ := H
             replace H : (if t384 = true then (mezzanineref09_Right.j3 kj38 false a0_0 a0_1 a0_2 a0_3 a0_4 a0_5 a0_6 a0_7 t370 t371 t372 t373) else (if a0_6 = true then (mezzanineref09_Right.j3 kj38 true a0_0 a0_1 a0_2 a0_3 a0_4 a0_5 a0_6 a0_7 t370 t371 t372 t373) else (mezzanineref09_Right.j3 kj38 a0_7 a0_0 a0_1 a0_2 a0_3 a0_4 a0_5 a0_6 a0_7 t370 t371 t372 t373))) = some r := H
             have A105 := Aside0.mk A1050
             clear A1050
             by_cases c106 : t384 = true
             ·subst c106
              have H1 : (mezzanineref09_Right.j3 kj38 false a0_0 a0_1 a0_2 a0_3 a0_4 a0_5 a0_6 a0_7 t370 t371 t372 t373) = some r := by rw [if_pos rfl] at H; exact H
              clear H
              have H := H1
              clear H1
              have H' := Aside0.mk H
              clear H
              have hnb107 := NB374_369.out
              have hnc107 := NB369_374.out
              have hcz108_0 : wc.cell? ⟨gb374, 0, none⟩ = some (.string t370) := (blk_cell BK374.out 0).trans rfl
              have hcz108_1 : wc.cell? ⟨gb374, 1, none⟩ = some (.int .u32 t371) := (blk_cell BK374.out 1).trans rfl
              have hcz108_2 : wc.cell? ⟨gb374, 2, none⟩ = some (.int .u32 t372) := (blk_cell BK374.out 2).trans rfl
              have hcz108_3 : wc.cell? ⟨gb374, 3, none⟩ = some (.int .u8 t373) := (blk_cell BK374.out 3).trans rfl
              have hfz108_0 := blk_frozen BK374.out 0
              have hfz108_1 := blk_frozen BK374.out 1
              have hfz108_2 := blk_frozen BK374.out 2
              have hfz108_3 := blk_frozen BK374.out 3
              go_wp2_with (first | ((with_reducible refine gate_callee (f := 34) rfl ?_); refine goesL_ (some 86) rfl rfl Try.func34 (by kernel_rfl) rfl #[.int .u8 t373, .string (⟨#[67, 90]⟩ : ByteArray)] rfl (by (try simp only [List.map_toArray, List.map_cons, List.map_nil]); first | done | rfl | (simp only [List.length_drop, List.length_take]; rfl)) ?_; (with_reducible refine (mezzanineref09_has.calls kj38 t373 (⟨#[67, 90]⟩ : ByteArray) false _ A91.out).mono ?_); rintro e w' ⟨rfl, ⟨nd, rfl⟩⟩; refine ⟨_, rfl, ?_⟩; have hcz109_0 : wc.cell? ⟨gb369, 0, none⟩ = some (.int .i64 a0_0) := (blk_cell BK369.out 0).trans rfl; have hcz109_1 : wc.cell? ⟨gb369, 1, none⟩ = some (.int .i64 a0_1) := (blk_cell BK369.out 1).trans rfl; have hcz109_2 : wc.cell? ⟨gb369, 2, none⟩ = some (.int .i64 a0_2) := (blk_cell BK369.out 2).trans rfl; have hcz109_3 : wc.cell? ⟨gb369, 3, none⟩ = some (.int .i64 a0_3) := (blk_cell BK369.out 3).trans rfl; have hcz109_4 : wc.cell? ⟨gb369, 4, none⟩ = some (.int .i64 a0_4) := (blk_cell BK369.out 4).trans rfl; have hcz109_5 : wc.cell? ⟨gb369, 5, none⟩ = some (.int .i64 a0_5) := (blk_cell BK369.out 5).trans rfl; have hcz109_6 : wc.cell? ⟨gb369, 6, none⟩ = some (.bool a0_6) := (blk_cell BK369.out 6).trans rfl; have hcz109_7 : wc.cell? ⟨gb369, 7, none⟩ = some (.bool a0_7) := (blk_cell BK369.out 7).trans rfl; have hfz109_0 := blk_frozen BK369.out 0; have hfz109_1 := blk_frozen BK369.out 1; have hfz109_2 := blk_frozen BK369.out 2; have hfz109_3 := blk_frozen BK369.out 3; have hfz109_4 := blk_frozen BK369.out 4; have hfz109_5 := blk_frozen BK369.out 5; have hfz109_6 := blk_frozen BK369.out 6; have hfz109_7 := blk_frozen BK369.out 7) | (go_at_call 34; (with_reducible refine (mezzanineref09_has.calls kj38 t373 (⟨#[76, 65]⟩ : ByteArray) true _ A105.out).mono ?_); rintro e w' ⟨rfl, ⟨nd, rfl⟩⟩))
              go_meet
              case rel => exact ⟨_, (false), (by first | rfl | (simp; done) | (simp [*]; done)), H', ⟨by have := HJ1.out; have := HJ8.out; have := HJ38.out; first | omega | exact Nat.le_refl _⟩, ⟨by (with_reducible repeat (first | refine blk_drewN ?_ _ | refine blk_drew ?_ | refine blk_alloc ?_ _)); exact BK369.out⟩, ⟨by (with_reducible repeat (first | refine blk_drewN ?_ _ | refine blk_drew ?_ | refine blk_alloc ?_ _)); exact BK374.out⟩, ⟨by repeat (first | (with_reducible first | exact HB.out | apply below_alloc | apply pw_below_drewN | apply below_drew1 | refine below_set ?_ GE369.out | refine below_set ?_ GE374.out) | exact HB.out)⟩⟩
             ·replace c106 := Bool.eq_false_iff.mpr c106
              subst c106
              have H1 : (if a0_6 = true then (mezzanineref09_Right.j3 kj38 true a0_0 a0_1 a0_2 a0_3 a0_4 a0_5 a0_6 a0_7 t370 t371 t372 t373) else (mezzanineref09_Right.j3 kj38 a0_7 a0_0 a0_1 a0_2 a0_3 a0_4 a0_5 a0_6 a0_7 t370 t371 t372 t373)) = some r := by rw [if_neg (show ¬ (false = true) by decide)] at H; exact H
              clear H
              have H := H1
              clear H1
              by_cases c110 : a0_6 = true
              ·subst c110
               have H1 : (mezzanineref09_Right.j3 kj38 true a0_0 a0_1 a0_2 a0_3 a0_4 a0_5 true a0_7 t370 t371 t372 t373) = some r := by rw [if_pos rfl] at H; exact H
               clear H
               have H := H1
               clear H1
               have H' := Aside0.mk H
               clear H
               have hnb111 := NB374_369.out
               have hnc111 := NB369_374.out
               have hcz112_0 : wc.cell? ⟨gb374, 0, none⟩ = some (.string t370) := (blk_cell BK374.out 0).trans rfl
               have hcz112_1 : wc.cell? ⟨gb374, 1, none⟩ = some (.int .u32 t371) := (blk_cell BK374.out 1).trans rfl
               have hcz112_2 : wc.cell? ⟨gb374, 2, none⟩ = some (.int .u32 t372) := (blk_cell BK374.out 2).trans rfl
               have hcz112_3 : wc.cell? ⟨gb374, 3, none⟩ = some (.int .u8 t373) := (blk_cell BK374.out 3).trans rfl
               have hfz112_0 := blk_frozen BK374.out 0
               have hfz112_1 := blk_frozen BK374.out 1
               have hfz112_2 := blk_frozen BK374.out 2
               have hfz112_3 := blk_frozen BK374.out 3
               go_wp2_with (first | ((with_reducible refine gate_callee (f := 34) rfl ?_); refine goesL_ (some 86) rfl rfl Try.func34 (by kernel_rfl) rfl #[.int .u8 t373, .string (⟨#[67, 90]⟩ : ByteArray)] rfl (by (try simp only [List.map_toArray, List.map_cons, List.map_nil]); first | done | rfl | (simp only [List.length_drop, List.length_take]; rfl)) ?_; (with_reducible refine (mezzanineref09_has.calls kj38 t373 (⟨#[67, 90]⟩ : ByteArray) false _ A91.out).mono ?_); rintro e w' ⟨rfl, ⟨nd, rfl⟩⟩; refine ⟨_, rfl, ?_⟩; have hcz113_0 : wc.cell? ⟨gb369, 0, none⟩ = some (.int .i64 a0_0) := (blk_cell BK369.out 0).trans rfl; have hcz113_1 : wc.cell? ⟨gb369, 1, none⟩ = some (.int .i64 a0_1) := (blk_cell BK369.out 1).trans rfl; have hcz113_2 : wc.cell? ⟨gb369, 2, none⟩ = some (.int .i64 a0_2) := (blk_cell BK369.out 2).trans rfl; have hcz113_3 : wc.cell? ⟨gb369, 3, none⟩ = some (.int .i64 a0_3) := (blk_cell BK369.out 3).trans rfl; have hcz113_4 : wc.cell? ⟨gb369, 4, none⟩ = some (.int .i64 a0_4) := (blk_cell BK369.out 4).trans rfl; have hcz113_5 : wc.cell? ⟨gb369, 5, none⟩ = some (.int .i64 a0_5) := (blk_cell BK369.out 5).trans rfl; have hcz113_6 : wc.cell? ⟨gb369, 6, none⟩ = some (.bool true) := (blk_cell BK369.out 6).trans rfl; have hcz113_7 : wc.cell? ⟨gb369, 7, none⟩ = some (.bool a0_7) := (blk_cell BK369.out 7).trans rfl; have hfz113_0 := blk_frozen BK369.out 0; have hfz113_1 := blk_frozen BK369.out 1; have hfz113_2 := blk_frozen BK369.out 2; have hfz113_3 := blk_frozen BK369.out 3; have hfz113_4 := blk_frozen BK369.out 4; have hfz113_5 := blk_frozen BK369.out 5; have hfz113_6 := blk_frozen BK369.out 6; have hfz113_7 := blk_frozen BK369.out 7) | (go_at_call 34; (with_reducible refine (mezzanineref09_has.calls kj38 t373 (⟨#[76, 65]⟩ : ByteArray) false _ A105.out).mono ?_); rintro e w' ⟨rfl, ⟨nd, rfl⟩⟩))
               go_meet
               case rel => exact ⟨_, (true), (by first | rfl | (simp; done) | (simp [*]; done)), H', ⟨by have := HJ1.out; have := HJ8.out; have := HJ38.out; first | omega | exact Nat.le_refl _⟩, ⟨by (with_reducible repeat (first | refine blk_drewN ?_ _ | refine blk_drew ?_ | refine blk_alloc ?_ _)); exact BK369.out⟩, ⟨by (with_reducible repeat (first | refine blk_drewN ?_ _ | refine blk_drew ?_ | refine blk_alloc ?_ _)); exact BK374.out⟩, ⟨by repeat (first | (with_reducible first | exact HB.out | apply below_alloc | apply pw_below_drewN | apply below_drew1 | refine below_set ?_ GE369.out | refine below_set ?_ GE374.out) | exact HB.out)⟩⟩
              ·replace c110 := Bool.eq_false_iff.mpr c110
               subst c110
               have H1 : (mezzanineref09_Right.j3 kj38 a0_7 a0_0 a0_1 a0_2 a0_3 a0_4 a0_5 false a0_7 t370 t371 t372 t373) = some r := by rw [if_neg (show ¬ (false = true) by decide)] at H; exact H
               clear H
               have H := H1
               clear H1
               have H' := Aside0.mk H
               clear H
               have hnb114 := NB374_369.out
               have hnc114 := NB369_374.out
               have hcz115_0 : wc.cell? ⟨gb374, 0, none⟩ = some (.string t370) := (blk_cell BK374.out 0).trans rfl
               have hcz115_1 : wc.cell? ⟨gb374, 1, none⟩ = some (.int .u32 t371) := (blk_cell BK374.out 1).trans rfl
               have hcz115_2 : wc.cell? ⟨gb374, 2, none⟩ = some (.int .u32 t372) := (blk_cell BK374.out 2).trans rfl
               have hcz115_3 : wc.cell? ⟨gb374, 3, none⟩ = some (.int .u8 t373) := (blk_cell BK374.out 3).trans rfl
               have hfz115_0 := blk_frozen BK374.out 0
               have hfz115_1 := blk_frozen BK374.out 1
               have hfz115_2 := blk_frozen BK374.out 2
               have hfz115_3 := blk_frozen BK374.out 3
               go_wp2_with (first | ((with_reducible refine gate_callee (f := 34) rfl ?_); refine goesL_ (some 86) rfl rfl Try.func34 (by kernel_rfl) rfl #[.int .u8 t373, .string (⟨#[67, 90]⟩ : ByteArray)] rfl (by (try simp only [List.map_toArray, List.map_cons, List.map_nil]); first | done | rfl | (simp only [List.length_drop, List.length_take]; rfl)) ?_; (with_reducible refine (mezzanineref09_has.calls kj38 t373 (⟨#[67, 90]⟩ : ByteArray) false _ A91.out).mono ?_); rintro e w' ⟨rfl, ⟨nd, rfl⟩⟩; refine ⟨_, rfl, ?_⟩; have hcz116_0 : wc.cell? ⟨gb369, 0, none⟩ = some (.int .i64 a0_0) := (blk_cell BK369.out 0).trans rfl; have hcz116_1 : wc.cell? ⟨gb369, 1, none⟩ = some (.int .i64 a0_1) := (blk_cell BK369.out 1).trans rfl; have hcz116_2 : wc.cell? ⟨gb369, 2, none⟩ = some (.int .i64 a0_2) := (blk_cell BK369.out 2).trans rfl; have hcz116_3 : wc.cell? ⟨gb369, 3, none⟩ = some (.int .i64 a0_3) := (blk_cell BK369.out 3).trans rfl; have hcz116_4 : wc.cell? ⟨gb369, 4, none⟩ = some (.int .i64 a0_4) := (blk_cell BK369.out 4).trans rfl; have hcz116_5 : wc.cell? ⟨gb369, 5, none⟩ = some (.int .i64 a0_5) := (blk_cell BK369.out 5).trans rfl; have hcz116_6 : wc.cell? ⟨gb369, 6, none⟩ = some (.bool false) := (blk_cell BK369.out 6).trans rfl; have hcz116_7 : wc.cell? ⟨gb369, 7, none⟩ = some (.bool a0_7) := (blk_cell BK369.out 7).trans rfl; have hfz116_0 := blk_frozen BK369.out 0; have hfz116_1 := blk_frozen BK369.out 1; have hfz116_2 := blk_frozen BK369.out 2; have hfz116_3 := blk_frozen BK369.out 3; have hfz116_4 := blk_frozen BK369.out 4; have hfz116_5 := blk_frozen BK369.out 5; have hfz116_6 := blk_frozen BK369.out 6; have hfz116_7 := blk_frozen BK369.out 7) | (go_at_call 34; (with_reducible refine (mezzanineref09_has.calls kj38 t373 (⟨#[76, 65]⟩ : ByteArray) false _ A105.out).mono ?_); rintro e w' ⟨rfl, ⟨nd, rfl⟩⟩))
               go_meet
               case rel => exact ⟨_, (a0_7), (by first | rfl | (simp; done) | (simp [*]; done)), H', ⟨by have := HJ1.out; have := HJ8.out; have := HJ38.out; first | omega | exact Nat.le_refl _⟩, ⟨by (with_reducible repeat (first | refine blk_drewN ?_ _ | refine blk_drew ?_ | refine blk_alloc ?_ _)); exact BK369.out⟩, ⟨by (with_reducible repeat (first | refine blk_drewN ?_ _ | refine blk_drew ?_ | refine blk_alloc ?_ _)); exact BK374.out⟩, ⟨by repeat (first | (with_reducible first | exact HB.out | apply below_alloc | apply pw_below_drewN | apply below_drew1 | refine below_set ?_ GE369.out | refine below_set ?_ GE374.out) | exact HB.out)⟩⟩
            ·rw [if_neg c104] at H
             have c104b0 : (a0_5 == 0) = false := beq_eq_false_iff_ne.mpr c104
             have c104b1 : (a0_5 != 0) = true := bne_iff_ne.mpr c104
             (first | rw [c104b0] | (simp only [i64_w, i32_w]; rw [c104b0]) | skip)
             have H' := Aside0.mk H
             clear H
             have hnb117 := NB374_369.out
             have hnc117 := NB369_374.out
             have hcz118_0 : wc.cell? ⟨gb374, 0, none⟩ = some (.string t370) := (blk_cell BK374.out 0).trans rfl
             have hcz118_1 : wc.cell? ⟨gb374, 1, none⟩ = some (.int .u32 t371) := (blk_cell BK374.out 1).trans rfl
             have hcz118_2 : wc.cell? ⟨gb374, 2, none⟩ = some (.int .u32 t372) := (blk_cell BK374.out 2).trans rfl
             have hcz118_3 : wc.cell? ⟨gb374, 3, none⟩ = some (.int .u8 t373) := (blk_cell BK374.out 3).trans rfl
             have hfz118_0 := blk_frozen BK374.out 0
             have hfz118_1 := blk_frozen BK374.out 1
             have hfz118_2 := blk_frozen BK374.out 2
             have hfz118_3 := blk_frozen BK374.out 3
             go_wp2_with (first | ((with_reducible refine gate_callee (f := 34) rfl ?_); refine goesL_ (some 86) rfl rfl Try.func34 (by kernel_rfl) rfl #[.int .u8 t373, .string (⟨#[67, 90]⟩ : ByteArray)] rfl (by (try simp only [List.map_toArray, List.map_cons, List.map_nil]); first | done | rfl | (simp only [List.length_drop, List.length_take]; rfl)) ?_; (with_reducible refine (mezzanineref09_has.calls kj38 t373 (⟨#[67, 90]⟩ : ByteArray) false _ A91.out).mono ?_); rintro e w' ⟨rfl, ⟨nd, rfl⟩⟩; refine ⟨_, rfl, ?_⟩; have hcz119_0 : wc.cell? ⟨gb369, 0, none⟩ = some (.int .i64 a0_0) := (blk_cell BK369.out 0).trans rfl; have hcz119_1 : wc.cell? ⟨gb369, 1, none⟩ = some (.int .i64 a0_1) := (blk_cell BK369.out 1).trans rfl; have hcz119_2 : wc.cell? ⟨gb369, 2, none⟩ = some (.int .i64 a0_2) := (blk_cell BK369.out 2).trans rfl; have hcz119_3 : wc.cell? ⟨gb369, 3, none⟩ = some (.int .i64 a0_3) := (blk_cell BK369.out 3).trans rfl; have hcz119_4 : wc.cell? ⟨gb369, 4, none⟩ = some (.int .i64 a0_4) := (blk_cell BK369.out 4).trans rfl; have hcz119_5 : wc.cell? ⟨gb369, 5, none⟩ = some (.int .i64 a0_5) := (blk_cell BK369.out 5).trans rfl; have hcz119_6 : wc.cell? ⟨gb369, 6, none⟩ = some (.bool a0_6) := (blk_cell BK369.out 6).trans rfl; have hcz119_7 : wc.cell? ⟨gb369, 7, none⟩ = some (.bool a0_7) := (blk_cell BK369.out 7).trans rfl; have hfz119_0 := blk_frozen BK369.out 0; have hfz119_1 := blk_frozen BK369.out 1; have hfz119_2 := blk_frozen BK369.out 2; have hfz119_3 := blk_frozen BK369.out 3; have hfz119_4 := blk_frozen BK369.out 4; have hfz119_5 := blk_frozen BK369.out 5; have hfz119_6 := blk_frozen BK369.out 6; have hfz119_7 := blk_frozen BK369.out 7))
             go_meet
             case rel => exact ⟨_, (true), (by first | rfl | (simp; done) | (simp [*]; done)), H', ⟨by have := HJ1.out; have := HJ8.out; have := HJ38.out; first | omega | exact Nat.le_refl _⟩, ⟨by (with_reducible repeat (first | refine blk_drewN ?_ _ | refine blk_drew ?_ | refine blk_alloc ?_ _)); exact BK369.out⟩, ⟨by (with_reducible repeat (first | refine blk_drewN ?_ _ | refine blk_drew ?_ | refine blk_alloc ?_ _)); exact BK374.out⟩, ⟨by repeat (first | (with_reducible first | exact HB.out | apply below_alloc | apply pw_below_drewN | apply below_drew1 | refine below_set ?_ GE369.out | refine below_set ?_ GE374.out) | exact HB.out)⟩⟩
          case rest =>
           clear HC90
           try clear c1; try clear p2; try clear c3; try clear c8; try clear c9; try clear c10; try clear c11; try clear c34; try clear c89; try clear c92; try clear c94; try clear c95; try clear c97; try clear c98; try clear c101; try clear c104; try clear c104b0; try clear c104b1; try clear c106; try clear c107; try clear c110; try clear c111; try clear c114; try clear c117; try clear hcz100_0; try clear hcz100_1; try clear hcz100_2; try clear hcz100_3; try clear hcz100_4; try clear hcz100_5; try clear hcz100_6; try clear hcz100_7; try clear hcz102_0; try clear hcz102_1; try clear hcz102_2; try clear hcz102_3; try clear hcz103_0; try clear hcz103_1; try clear hcz103_2; try clear hcz103_3; try clear hcz103_4; try clear hcz103_5; try clear hcz103_6; try clear hcz103_7; try clear hcz108_0; try clear hcz108_1; try clear hcz108_2; try clear hcz108_3; try clear hcz109_0; try clear hcz109_1; try clear hcz109_2; try clear hcz109_3; try clear hcz109_4; try clear hcz109_5; try clear hcz109_6; try clear hcz109_7; try clear hcz112_0; try clear hcz112_1; try clear hcz112_2; try clear hcz112_3; try clear hcz113_0; try clear hcz113_1; try clear hcz113_2; try clear hcz113_3; try clear hcz113_4; try clear hcz113_5; try clear hcz113_6; try clear hcz113_7; try clear hcz115_0; try clear hcz115_1; try clear hcz115_2; try clear hcz115_3; try clear hcz116_0; try clear hcz116_1; try clear hcz116_2; try clear hcz116_3; try clear hcz116_4; try clear hcz116_5; try clear hcz116_6; try clear hcz116_7; try clear hcz118_0; try clear hcz118_1; try clear hcz118_2; try clear hcz118_3; try clear hcz119_0; try clear hcz119_1; try clear hcz119_2; try clear hcz119_3; try clear hcz119_4; try clear hcz119_5; try clear hcz119_6; try clear hcz119_7; try clear hcz32_3; try clear hcz32_4; try clear hcz32_5; try clear hcz32_6; try clear hcz32_7; try clear hcz35_0; try clear hcz35_1; try clear hcz35_2; try clear hcz35_3; try clear hcz35_4; try clear hcz35_5; try clear hcz35_6; try clear hcz35_7; try clear hcz37_0; try clear hcz37_1; try clear hcz37_2; try clear hcz37_3; try clear hcz37_4; try clear hcz37_5; try clear hcz37_6; try clear hcz37_7; try clear hcz47_0; try clear hcz47_1; try clear hcz47_2; try clear hcz47_3; try clear hcz49_0; try clear hcz49_1; try clear hcz49_2; try clear hcz49_3; try clear hcz50_0; try clear hcz50_1; try clear hcz50_2; try clear hcz50_3; try clear hcz50_4; try clear hcz50_5; try clear hcz50_6; try clear hcz50_7; try clear hcz55_0; try clear hcz55_1; try clear hcz55_2; try clear hcz55_3; try clear hcz56_0; try clear hcz56_1; try clear hcz56_2; try clear hcz56_3; try clear hcz56_4; try clear hcz56_5; try clear hcz56_6; try clear hcz56_7; try clear hcz58_0; try clear hcz58_1; try clear hcz58_2; try clear hcz58_3; try clear hcz59_0; try clear hcz59_1; try clear hcz59_2; try clear hcz59_3; try clear hcz59_4; try clear hcz59_5; try clear hcz59_6; try clear hcz59_7; try clear hcz5_0; try clear hcz5_1; try clear hcz5_2; try clear hcz5_3; try clear hcz5_4; try clear hcz5_5; try clear hcz5_6; try clear hcz5_7; try clear hcz61_0; try clear hcz61_1; try clear hcz61_2; try clear hcz61_3; try clear hcz62_0; try clear hcz62_1; try clear hcz62_2; try clear hcz62_3; try clear hcz62_4; try clear hcz62_5; try clear hcz62_6; try clear hcz62_7; try clear hcz69_0; try clear hcz69_1; try clear hcz69_2; try clear hcz69_3; try clear hcz6_0; try clear hcz6_1; try clear hcz6_2; try clear hcz6_3; try clear hcz6_4; try clear hcz6_5; try clear hcz6_6; try clear hcz6_7; try clear hcz70_0; try clear hcz70_1; try clear hcz70_2; try clear hcz70_3; try clear hcz70_4; try clear hcz70_5; try clear hcz70_6; try clear hcz70_7; try clear hcz72_0; try clear hcz72_1; try clear hcz72_2; try clear hcz72_3; try clear hcz73_0; try clear hcz73_1; try clear hcz73_2; try clear hcz73_3; try clear hcz73_4; try clear hcz73_5; try clear hcz73_6; try clear hcz73_7; try clear hcz78_0; try clear hcz78_1; try clear hcz78_2; try clear hcz78_3; try clear hcz79_0; try clear hcz79_1; try clear hcz79_2; try clear hcz79_3; try clear hcz79_4; try clear hcz79_5; try clear hcz79_6; try clear hcz79_7; try clear hcz81_0; try clear hcz81_1; try clear hcz81_2; try clear hcz81_3; try clear hcz82_0; try clear hcz82_1; try clear hcz82_2; try clear hcz82_3; try clear hcz82_4; try clear hcz82_5; try clear hcz82_6; try clear hcz82_7; try clear hcz84_0; try clear hcz84_1; try clear hcz84_2; try clear hcz84_3; try clear hcz85_0; try clear hcz85_1; try clear hcz85_2; try clear hcz85_3; try clear hcz85_4; try clear hcz85_5; try clear hcz85_6; try clear hcz85_7; try clear hcz87_0; try clear hcz87_1; try clear hcz87_2; try clear hcz87_3; try clear hcz88_0; try clear hcz88_1; try clear hcz88_2; try clear hcz88_3; try clear hcz88_4; try clear hcz88_5; try clear hcz88_6; try clear hcz88_7; try clear hcz96_0; try clear hcz96_1; try clear hcz96_2; try clear hcz96_3; try clear hcz99_0; try clear hcz99_1; try clear hcz99_2; try clear hcz99_3; try clear hfz100_0; try clear hfz100_1; try clear hfz100_2; try clear hfz100_3; try clear hfz100_4; try clear hfz100_5; try clear hfz100_6; try clear hfz100_7; try clear hfz102_0; try clear hfz102_1; try clear hfz102_2; try clear hfz102_3; try clear hfz103_0; try clear hfz103_1; try clear hfz103_2; try clear hfz103_3; try clear hfz103_4; try clear hfz103_5; try clear hfz103_6; try clear hfz103_7; try clear hfz108_0; try clear hfz108_1; try clear hfz108_2; try clear hfz108_3; try clear hfz109_0; try clear hfz109_1; try clear hfz109_2; try clear hfz109_3; try clear hfz109_4; try clear hfz109_5; try clear hfz109_6; try clear hfz109_7; try clear hfz10_0; try clear hfz10_1; try clear hfz10_2; try clear hfz10_3; try clear hfz10_4; try clear hfz10_5; try clear hfz10_6; try clear hfz10_7; try clear hfz112_0; try clear hfz112_1; try clear hfz112_2; try clear hfz112_3; try clear hfz113_0; try clear hfz113_1; try clear hfz113_2; try clear hfz113_3; try clear hfz113_4; try clear hfz113_5; try clear hfz113_6; try clear hfz113_7; try clear hfz115_0; try clear hfz115_1; try clear hfz115_2; try clear hfz115_3; try clear hfz116_0; try clear hfz116_1; try clear hfz116_2; try clear hfz116_3; try clear hfz116_4; try clear hfz116_5; try clear hfz116_6; try clear hfz116_7; try clear hfz118_0; try clear hfz118_1; try clear hfz118_2; try clear hfz118_3; try clear hfz119_0; try clear hfz119_1; try clear hfz119_2; try clear hfz119_3; try clear hfz119_4; try clear hfz119_5; try clear hfz119_6; try clear hfz119_7; try clear hfz14_0; try clear hfz14_1; try clear hfz14_2; try clear hfz14_3; try clear hfz17_0; try clear hfz17_1; try clear hfz17_2; try clear hfz17_3; try clear hfz17_4; try clear hfz17_5; try clear hfz17_6; try clear hfz17_7; try clear hfz20_0; try clear hfz20_1; try clear hfz20_2; try clear hfz20_3; try clear hfz20_4; try clear hfz20_5; try clear hfz20_6; try clear hfz20_7; try clear hfz23_0; try clear hfz23_1; try clear hfz23_2; try clear hfz23_3; try clear hfz23_4; try clear hfz23_5; try clear hfz23_6; try clear hfz23_7; try clear hfz26_0; try clear hfz26_1; try clear hfz26_2; try clear hfz26_3; try clear hfz26_4; try clear hfz26_5; try clear hfz26_6; try clear hfz26_7; try clear hfz29_0; try clear hfz29_1; try clear hfz29_2; try clear hfz29_3; try clear hfz29_4; try clear hfz29_5; try clear hfz29_6; try clear hfz29_7; try clear hfz32_0; try clear hfz32_1; try clear hfz32_2; try clear hfz32_3; try clear hfz32_4; try clear hfz32_5; try clear hfz32_6; try clear hfz32_7; try clear hfz35_0; try clear hfz35_1; try clear hfz35_2; try clear hfz35_3; try clear hfz35_4; try clear hfz35_5; try clear hfz35_6; try clear hfz35_7; try clear hfz37_0; try clear hfz37_1; try clear hfz37_2; try clear hfz37_3; try clear hfz37_4; try clear hfz37_5; try clear hfz37_6; try clear hfz37_7; try clear hfz47_0; try clear hfz47_1; try clear hfz47_2; try clear hfz47_3; try clear hfz49_0; try clear hfz49_1; try clear hfz49_2; try clear hfz49_3; try clear hfz50_0; try clear hfz50_1; try clear hfz50_2; try clear hfz50_3; try clear hfz50_4; try clear hfz50_5; try clear hfz50_6; try clear hfz50_7; try clear hfz55_0; try clear hfz55_1; try clear hfz55_2; try clear hfz55_3; try clear hfz56_0; try clear hfz56_1; try clear hfz56_2; try clear hfz56_3; try clear hfz56_4; try clear hfz56_5; try clear hfz56_6; try clear hfz56_7; try clear hfz58_0; try clear hfz58_1; try clear hfz58_2; try clear hfz58_3; try clear hfz59_0; try clear hfz59_1; try clear hfz59_2; try clear hfz59_3; try clear hfz59_4; try clear hfz59_5; try clear hfz59_6; try clear hfz59_7; try clear hfz5_0; try clear hfz5_1; try clear hfz5_2; try clear hfz5_3; try clear hfz5_4; try clear hfz5_5; try clear hfz5_6; try clear hfz5_7; try clear hfz61_0; try clear hfz61_1; try clear hfz61_2; try clear hfz61_3; try clear hfz62_0; try clear hfz62_1; try clear hfz62_2; try clear hfz62_3; try clear hfz62_4; try clear hfz62_5; try clear hfz62_6; try clear hfz62_7; try clear hfz69_0; try clear hfz69_1; try clear hfz69_2; try clear hfz69_3; try clear hfz6_0; try clear hfz6_1; try clear hfz6_2; try clear hfz6_3; try clear hfz6_4; try clear hfz6_5; try clear hfz6_6; try clear hfz6_7; try clear hfz70_0; try clear hfz70_1; try clear hfz70_2; try clear hfz70_3; try clear hfz70_4; try clear hfz70_5; try clear hfz70_6; try clear hfz70_7; try clear hfz72_0; try clear hfz72_1; try clear hfz72_2; try clear hfz72_3; try clear hfz73_0; try clear hfz73_1; try clear hfz73_2; try clear hfz73_3; try clear hfz73_4; try clear hfz73_5; try clear hfz73_6; try clear hfz73_7; try clear hfz78_0; try clear hfz78_1; try clear hfz78_2; try clear hfz78_3; try clear hfz79_0; try clear hfz79_1; try clear hfz79_2; try clear hfz79_3; try clear hfz79_4; try clear hfz79_5; try clear hfz79_6; try clear hfz79_7; try clear hfz81_0; try clear hfz81_1; try clear hfz81_2; try clear hfz81_3; try clear hfz82_0; try clear hfz82_1; try clear hfz82_2; try clear hfz82_3; try clear hfz82_4; try clear hfz82_5; try clear hfz82_6; try clear hfz82_7; try clear hfz84_0; try clear hfz84_1; try clear hfz84_2; try clear hfz84_3; try clear hfz85_0; try clear hfz85_1; try clear hfz85_2; try clear hfz85_3; try clear hfz85_4; try clear hfz85_5; try clear hfz85_6; try clear hfz85_7; try clear hfz87_0; try clear hfz87_1; try clear hfz87_2; try clear hfz87_3; try clear hfz88_0; try clear hfz88_1; try clear hfz88_2; try clear hfz88_3; try clear hfz88_4; try clear hfz88_5; try clear hfz88_6; try clear hfz88_7; try clear hfz96_0; try clear hfz96_1; try clear hfz96_2; try clear hfz96_3; try clear hfz99_0; try clear hfz99_1; try clear hfz99_2; try clear hfz99_3; try clear p2
           obtain ⟨kq, x106_89, rfl, HA, HJ89, BK369, BK374, HB⟩ := hcut
           cases kq with
           | zero => exact absurd HA.out (by simp [mezzanineref09_Right.j3])
           | succ kj89 =>
            have H := HA.out
            clear HA
            simp only [mezzanineref09_Right.j3] at H
            by_cases c120 : x106_89 = true
            ·subst c120
             have H1 : (some false) = some r := by rw [if_pos rfl] at H; exact H
             clear H
             have H := H1
             clear H1
             obtain rfl := Option.some.inj H
             go_wp2
             go_ret
             exact ⟨by first | rfl | (simp [errW_none, errW_some] <;> rfl) | (simp [*, errW_none, errW_some] <;> rfl), by repeat (first | (with_reducible first | exact HB.out | apply below_alloc | apply pw_below_drewN | apply below_drew1 | refine below_set ?_ GE369.out | refine below_set ?_ GE374.out) | exact HB.out)⟩
            ·replace c120 := Bool.eq_false_iff.mpr c120
             subst c120
             have H1 : ((mezzanineref09_Form.f t373).bind fun t385 => (if t385 = 0 then (some (a0_4 == 0)) else ((mezzanineref09_Form.f t373).bind fun t386 => ((mezzanineref08_Fits.f kj89 t386 a0_4).bind fun t387 => (some t387))))) = some r := by rw [if_neg (show ¬ (false = true) by decide)] at H; exact H
             clear H
             have H := H1
             clear H1
             replace H := Option.bind_eq_some_iff.mp H
             obtain ⟨t385, A1210, H⟩ := H
             replace H : (if t385 = 0 then (some (a0_4 == 0)) else ((mezzanineref09_Form.f t373).bind fun t386 => ((mezzanineref08_Fits.f kj89 t386 a0_4).bind fun t387 => (some t387)))) = some r := H
             have A121 := Aside0.mk A1210
             clear A1210
             by_cases c122 : t385 = 0
             ·rw [if_pos c122] at H
              have c122b0 : (t385 == 0) = true := beq_iff_eq.mpr c122
              have c122b1 : (t385 != 0) = false := bne_eq_false_iff_eq.mpr c122
              clear c122
              obtain rfl := Option.some.inj H
              have hnb123 := NB374_369.out
              have hnc123 := NB369_374.out
              have hcz124_0 : wc.cell? ⟨gb374, 0, none⟩ = some (.string t370) := (blk_cell BK374.out 0).trans rfl
              have hcz124_1 : wc.cell? ⟨gb374, 1, none⟩ = some (.int .u32 t371) := (blk_cell BK374.out 1).trans rfl
              have hcz124_2 : wc.cell? ⟨gb374, 2, none⟩ = some (.int .u32 t372) := (blk_cell BK374.out 2).trans rfl
              have hcz124_3 : wc.cell? ⟨gb374, 3, none⟩ = some (.int .u8 t373) := (blk_cell BK374.out 3).trans rfl
              have hfz124_0 := blk_frozen BK374.out 0
              have hfz124_1 := blk_frozen BK374.out 1
              have hfz124_2 := blk_frozen BK374.out 2
              have hfz124_3 := blk_frozen BK374.out 3
              go_wp2_with (first | ((with_reducible refine gate_callee (f := 28) rfl ?_); refine goesL_ (some 109) rfl rfl Try.func28 (by kernel_rfl) rfl #[.int .u8 t373] rfl (by (try simp only [List.map_toArray, List.map_cons, List.map_nil]); first | done | rfl | (simp only [List.length_drop, List.length_take]; rfl)) ?_; (with_reducible refine (mezzanineref09_Form.calls t373 t385 _ A121.out).mono ?_); rintro e w' ⟨rfl, ⟨nd, rfl⟩⟩; refine ⟨_, rfl, ?_⟩; have hcz125_0 : wc.cell? ⟨gb369, 0, none⟩ = some (.int .i64 a0_0) := (blk_cell BK369.out 0).trans rfl; have hcz125_1 : wc.cell? ⟨gb369, 1, none⟩ = some (.int .i64 a0_1) := (blk_cell BK369.out 1).trans rfl; have hcz125_2 : wc.cell? ⟨gb369, 2, none⟩ = some (.int .i64 a0_2) := (blk_cell BK369.out 2).trans rfl; have hcz125_3 : wc.cell? ⟨gb369, 3, none⟩ = some (.int .i64 a0_3) := (blk_cell BK369.out 3).trans rfl; have hcz125_4 : wc.cell? ⟨gb369, 4, none⟩ = some (.int .i64 a0_4) := (blk_cell BK369.out 4).trans rfl; have hcz125_5 : wc.cell? ⟨gb369, 5, none⟩ = some (.int .i64 a0_5) := (blk_cell BK369.out 5).trans rfl; have hcz125_6 : wc.cell? ⟨gb369, 6, none⟩ = some (.bool a0_6) := (blk_cell BK369.out 6).trans rfl; have hcz125_7 : wc.cell? ⟨gb369, 7, none⟩ = some (.bool a0_7) := (blk_cell BK369.out 7).trans rfl; have hfz125_0 := blk_frozen BK369.out 0; have hfz125_1 := blk_frozen BK369.out 1; have hfz125_2 := blk_frozen BK369.out 2; have hfz125_3 := blk_frozen BK369.out 3; have hfz125_4 := blk_frozen BK369.out 4; have hfz125_5 := blk_frozen BK369.out 5; have hfz125_6 := blk_frozen BK369.out 6; have hfz125_7 := blk_frozen BK369.out 7))
              go_ret
              exact ⟨by first | rfl | (simp [errW_none, errW_some] <;> rfl) | (simp [*, errW_none, errW_some] <;> rfl), by repeat (first | (with_reducible first | exact HB.out | apply below_alloc | apply pw_below_drewN | apply below_drew1 | refine below_set ?_ GE369.out | refine below_set ?_ GE374.out) | exact HB.out)⟩
             ·rw [if_neg c122] at H
              have c122b0 : (t385 == 0) = false := beq_eq_false_iff_ne.mpr c122
              have c122b1 : (t385 != 0) = true := bne_iff_ne.mpr c122
              replace H := Option.bind_eq_some_iff.mp H
              obtain ⟨t386, A1260, H⟩ := H
              replace H : ((mezzanineref08_Fits.f kj89 t386 a0_4).bind fun t387 => (some t387)) = some r := H
              have A126 := Aside0.mk A1260
              clear A1260
              replace H := Option.bind_eq_some_iff.mp H
              obtain ⟨t387, A1270, H⟩ := H
              replace H : (some t387) = some r := H
              have A127 := Aside0.mk A1270
              clear A1270
              obtain rfl := Option.some.inj H
              have hnb128 := NB374_369.out
              have hnc128 := NB369_374.out
              have hcz129_0 : wc.cell? ⟨gb374, 0, none⟩ = some (.string t370) := (blk_cell BK374.out 0).trans rfl
              have hcz129_1 : wc.cell? ⟨gb374, 1, none⟩ = some (.int .u32 t371) := (blk_cell BK374.out 1).trans rfl
              have hcz129_2 : wc.cell? ⟨gb374, 2, none⟩ = some (.int .u32 t372) := (blk_cell BK374.out 2).trans rfl
              have hcz129_3 : wc.cell? ⟨gb374, 3, none⟩ = some (.int .u8 t373) := (blk_cell BK374.out 3).trans rfl
              have hfz129_0 := blk_frozen BK374.out 0
              have hfz129_1 := blk_frozen BK374.out 1
              have hfz129_2 := blk_frozen BK374.out 2
              have hfz129_3 := blk_frozen BK374.out 3
              try go_wp2_with (first | ((with_reducible refine gate_callee (f := 28) rfl ?_); refine goesL_ (some 109) rfl rfl Try.func28 (by kernel_rfl) rfl #[.int .u8 t373] rfl (by (try simp only [List.map_toArray, List.map_cons, List.map_nil]); first | done | rfl | (simp only [List.length_drop, List.length_take]; rfl)) ?_; (with_reducible refine (mezzanineref09_Form.calls t373 t385 _ A121.out).mono ?_); rintro e w' ⟨rfl, ⟨nd, rfl⟩⟩; refine ⟨_, rfl, ?_⟩))
              (try (rw [drewN_self wc]; generalize hq_ : World.drewN wc _ = wc; have n0_ : Aside0 (wc.heap[gb369]? = some (.cells #[.int .i64 a0_0, .int .i64 a0_1, .int .i64 a0_2, .int .i64 a0_3, .int .i64 a0_4, .int .i64 a0_5, .bool a0_6, .bool a0_7] 24 (0, 0))) := ⟨by rw [← hq_]; exact (by (with_reducible repeat (first | refine blk_drewN ?_ _ | refine blk_drew ?_ | refine blk_alloc ?_ _)); exact BK369.out)⟩; have n1_ : Aside0 (wc.heap[gb374]? = some (.cells #[.string t370, .int .u32 t371, .int .u32 t372, .int .u8 t373] 61 (0, 0))) := ⟨by rw [← hq_]; exact (by (with_reducible repeat (first | refine blk_drewN ?_ _ | refine blk_drew ?_ | refine blk_alloc ?_ _)); exact BK374.out)⟩; have n2_ : Aside0 (Below w.heap.size w wc) := ⟨by rw [← hq_]; exact (by repeat (first | (with_reducible first | exact HB.out | apply below_alloc | apply pw_below_drewN | apply below_drew1 | refine below_set ?_ GE369.out | refine below_set ?_ GE374.out) | exact HB.out))⟩; clear BK369 BK374 HB hq_; have BK369 := n0_; have BK374 := n1_; have HB := n2_; clear n0_ n1_ n2_))
              have n0_ := Aside0.mk (blk_drew BK369.out)
              have n1_ := Aside0.mk (blk_drew BK374.out)
              have n2_ := Aside0.mk (below_drew1 HB.out)
              clear BK369
              clear BK374
              clear HB
              have BK369 := n0_
              have BK374 := n1_
              have HB := n2_
              clear n0_ n1_ n2_
              refine start_ (n := 7) (S := fun w' => w'.cell? ⟨gb374, 0, none⟩ = some (.string t370) ∧ w'.cell? ⟨gb374, 1, none⟩ = some (.int .u32 t371) ∧ w'.cell? ⟨gb374, 2, none⟩ = some (.int .u32 t372) ∧ w'.cell? ⟨gb374, 3, none⟩ = some (.int .u8 t373) ∧ w'.cell? ⟨gb369, 0, none⟩ = some (.int .i64 a0_0) ∧ w'.cell? ⟨gb369, 1, none⟩ = some (.int .i64 a0_1) ∧ w'.cell? ⟨gb369, 2, none⟩ = some (.int .i64 a0_2) ∧ w'.cell? ⟨gb369, 3, none⟩ = some (.int .i64 a0_3) ∧ w'.cell? ⟨gb369, 4, none⟩ = some (.int .i64 a0_4) ∧ w'.cell? ⟨gb369, 5, none⟩ = some (.int .i64 a0_5) ∧ w'.cell? ⟨gb369, 6, none⟩ = some (.bool a0_6) ∧ w'.cell? ⟨gb369, 7, none⟩ = some (.bool a0_7)) (ds := []) #[false, false, false, false, false, false, false] (by kernel_rfl) rfl rfl ⟨(blk_cell BK374.out 0).trans rfl, (blk_cell BK374.out 1).trans rfl, (blk_cell BK374.out 2).trans rfl, (blk_cell BK374.out 3).trans rfl, (blk_cell BK369.out 0).trans rfl, (blk_cell BK369.out 1).trans rfl, (blk_cell BK369.out 2).trans rfl, (blk_cell BK369.out 3).trans rfl, (blk_cell BK369.out 4).trans rfl, (blk_cell BK369.out 5).trans rfl, (blk_cell BK369.out 6).trans rfl, (blk_cell BK369.out 7).trans rfl⟩ (fun hHeld => ?_)
              generalize wc.drew = w130 at BK369 BK374 HB hHeld ⊢
              refine pure_ (i := 0) (N := some 114) (v := ?_) (a' := ?_) #[true, false, false, false, false, false, false] rfl rfl (by kernel_rfl) (fun _ _ _ h => h) (Or.inl ⟨by rfl, ?_⟩) ?_ ?_
              rotate_left
              ·intro w'
               go_simp
               with_reducible rfl
              rotate_left
              ·simp only [Act.put, List.setIfInBounds_toArray, List.set_cons_zero, List.set_cons_succ, i64_w, i32_w]
               rfl
              refine pure_ (i := 3) (N := some 117) (v := ?_) (a' := ?_) #[true, false, false, true, false, false, false] rfl rfl (by kernel_rfl) (fun _ _ _ h => h) (Or.inl ⟨by rfl, ?_⟩) ?_ ?_
              rotate_left
              ·intro w'
               go_simp
               with_reducible rfl
              rotate_left
              ·simp only [Act.put, List.setIfInBounds_toArray, List.set_cons_zero, List.set_cons_succ, i64_w, i32_w]
               rfl
              refine take_ (i := 1) (N := some 115) (v := ?_) (a' := ?_) #[true, true, false, true, false, false, false] rfl rfl (by kernel_rfl) (fun _ _ _ h => h) (Or.inl ⟨by rfl, ?_⟩) hHeld ?_ ?_
              rotate_left
              ·rintro w' ⟨s0, s1, s2, s3, s4, s5, s6, s7, s8, s9, s10, s11⟩
               go_simp
               with_reducible rfl
              rotate_left
              ·simp only [Act.put, List.setIfInBounds_toArray, List.set_cons_zero, List.set_cons_succ, i64_w, i32_w]
               rfl
              refine take_ (i := 4) (N := some 118) (v := ?_) (a' := ?_) #[true, true, false, true, true, false, false] rfl rfl (by kernel_rfl) (fun _ _ _ h => h) (Or.inl ⟨by rfl, ?_⟩) hHeld ?_ ?_
              rotate_left
              ·rintro w' ⟨s0, s1, s2, s3, s4, s5, s6, s7, s8, s9, s10, s11⟩
               go_simp
               with_reducible rfl
              rotate_left
              ·simp only [Act.put, List.setIfInBounds_toArray, List.set_cons_zero, List.set_cons_succ, i64_w, i32_w]
               rfl
              refine one_ (i := 2) (N := some 116) #[true, true, true, true, true, false, false] rfl rfl (by kernel_rfl) (by decide) (fun K hK => ?_)
              refine goes_ Try.func28 (by kernel_rfl) rfl #[.int .u8 t373] (by rfl) rfl rfl (by (try simp only [List.map_toArray, List.map_cons, List.map_nil]); first | done | rfl | (simp only [List.length_drop, List.length_take]; rfl)) ?_
              with_reducible refine (mezzanineref09_Form.calls t373 t386 _ A126.out).mono ?_
              rintro e w' ⟨rfl, ⟨nd, rfl⟩⟩
              refine ⟨_, rfl, ?_⟩
              refine hK.out _ _ ⟨(blk_cell BK374.out 0).trans rfl, (blk_cell BK374.out 1).trans rfl, (blk_cell BK374.out 2).trans rfl, (blk_cell BK374.out 3).trans rfl, (blk_cell BK369.out 0).trans rfl, (blk_cell BK369.out 1).trans rfl, (blk_cell BK369.out 2).trans rfl, (blk_cell BK369.out 3).trans rfl, (blk_cell BK369.out 4).trans rfl, (blk_cell BK369.out 5).trans rfl, (blk_cell BK369.out 6).trans rfl, (blk_cell BK369.out 7).trans rfl⟩ (fun hHeld => ?_)
              clear hK K
              refine norm_ (a' := ?_) ?_ ?_
              rotate_left
              ·show Act.put _ (some 116) _ = _
               simp only [Act.put, List.setIfInBounds_toArray, List.set_cons_zero, List.set_cons_succ, i64_w, i32_w]
               rfl
              refine one_ (i := 5) (N := some 119) #[true, true, true, true, true, true, false] rfl rfl (by kernel_rfl) (by decide) (fun K hK => ?_)
              refine goes_ Try.func39 (by kernel_rfl) rfl #[.int .i64 t386, .int .i64 a0_4] (by rfl) rfl rfl (by (try simp only [List.map_toArray, List.map_cons, List.map_nil]); first | done | rfl | (simp only [List.length_drop, List.length_take]; rfl)) ?_
              with_reducible refine (mezzanineref08_Fits.calls kj89 t386 a0_4 t387 _ A127.out).mono ?_
              rintro e w131 ⟨rfl, hb⟩
              refine ⟨_, rfl, ?_⟩
              have n0_ := Aside0.mk (blk_below (g := gb369) (o := .cells #[.int .i64 a0_0, .int .i64 a0_1, .int .i64 a0_2, .int .i64 a0_3, .int .i64 a0_4, .int .i64 a0_5, .bool a0_6, .bool a0_7] 24 (0, 0)) (by (with_reducible repeat (first | refine blk_drewN ?_ _ | refine blk_drew ?_ | refine blk_alloc ?_ _)); exact BK369.out) hb)
              have n1_ := Aside0.mk (blk_below (g := gb374) (o := .cells #[.string t370, .int .u32 t371, .int .u32 t372, .int .u8 t373] 61 (0, 0)) (by (with_reducible repeat (first | refine blk_drewN ?_ _ | refine blk_drew ?_ | refine blk_alloc ?_ _)); exact BK374.out) hb)
              have n2_ := Aside0.mk (below_step (by repeat (first | (with_reducible first | exact HB.out | apply below_alloc | apply pw_below_drewN | apply below_drew1 | refine below_set ?_ GE369.out | refine below_set ?_ GE374.out) | exact HB.out)) hb)
              clear BK369
              clear BK374
              clear HB
              have BK369 := n0_
              have BK374 := n1_
              have HB := n2_
              clear n0_ n1_ n2_
              (try clear hb)
              (try clear hb2)
              (try clear hk)
              (try clear hi)
              refine hK.out _ _ ⟨(blk_cell BK374.out 0).trans rfl, (blk_cell BK374.out 1).trans rfl, (blk_cell BK374.out 2).trans rfl, (blk_cell BK374.out 3).trans rfl, (blk_cell BK369.out 0).trans rfl, (blk_cell BK369.out 1).trans rfl, (blk_cell BK369.out 2).trans rfl, (blk_cell BK369.out 3).trans rfl, (blk_cell BK369.out 4).trans rfl, (blk_cell BK369.out 5).trans rfl, (blk_cell BK369.out 6).trans rfl, (blk_cell BK369.out 7).trans rfl⟩ (fun hHeld => ?_)
              clear hK K
              refine norm_ (a' := ?_) ?_ ?_
              rotate_left
              ·show Act.put _ (some 119) _ = _
               simp only [Act.put, List.setIfInBounds_toArray, List.set_cons_zero, List.set_cons_succ, i64_w, i32_w]
               rfl
              refine pure_ (i := 6) (N := some 2) (v := ?_) (a' := ?_) #[true, true, true, true, true, true, true] rfl rfl (by kernel_rfl) (fun _ _ _ h => h) (Or.inl ⟨by rfl, ?_⟩) ?_ ?_
              rotate_left
              ·intro w'
               go_simp
               with_reducible rfl
              rotate_left
              ·simp only [Act.put, List.setIfInBounds_toArray, List.set_cons_zero, List.set_cons_succ, i64_w, i32_w]
               rfl
              refine done_ (by kernel_rfl) ?_
              try go_wp2
              go_ret
              exact ⟨by first | rfl | (simp [errW_none, errW_some] <;> rfl) | (simp [*, errW_none, errW_some] <;> rfl), by repeat (first | (with_reducible first | exact HB.out | apply below_alloc | apply pw_below_drewN | apply below_drew1 | refine below_set ?_ GE369.out | refine below_set ?_ GE374.out) | exact HB.out)⟩

end Go.Proofs.Ytknkfimpflodeaa.P
