/- What Says does, form by form. -/
import Derived.Test.YtknkfimpflodeaaSaysW
import Derived.Test.YtknkfimpflodeaaPureR
import Derived.Test.YtknkfimpflodeaaRowOf
import Derived.Handy
namespace Go.Proofs.Ytknkfimpflodeaa.P
open Go.RowKit Go.Proofs.YtknkfimpflodeaaW.PrintWords Go.Proofs.YtknkfimpflodeaaW.PrintLast Go.Proofs.YtknkfimpflodeaaW.PrintMore
set_option linter.unusedVariables false
set_option linter.unusedSimpArgs false
attribute [local go_sem] setCell_drewN' alloc_drewN'
set_option maxRecDepth 100000
set_option maxHeartbeats 4000000
theorem says_11 (op a1 : Int) (w : World) (n : ByteArray) (mk mt : Int) (w0 : 0 ≤ a1) (w1 : a1 < 4294967296) (hr : mezzanineref09_RowOf.f op = some (n, mk, mt, 78)) :
    Calls Try.prog 23 #[.int .i64 op, .int .u32 a1] w fun e w' => e = .returned (.agg #[.int .i64 op, .int .i64 0, .int .i64 0, .int .i64 0, .int .i64 0, .int .i64 0, .bool false, .bool false]) ∧ Below w.heap.size w w' := by
  have hu24 := Try.underlying24
  have hu61 := Try.underlying61
  have R0 := Aside0.mk hr
  clear hr
  have Hrd := Aside0.mk (show mezzanineref09_has.f 30 78 ⟨#[85, 74, 73, 72, 87, 82, 76, 65, 67, 90, 86]⟩ = some false from has_rd 11 (by decide) (by decide) 30 (by decide))
  have Ha := Aside0.mk (show mezzanineref09_has.f 30 78 ⟨#[73, 72, 87, 66, 83, 70, 82, 76, 65, 67, 86]⟩ = some false from has_a 11 (by decide) (by decide) 30 (by decide))
  have Hb := Aside0.mk (show mezzanineref09_has.f 30 78 ⟨#[66, 83, 70, 82, 65]⟩ = some false from has_b 11 (by decide) (by decide) 30 (by decide))
  have Hc := Aside0.mk (show mezzanineref09_has.f 30 78 ⟨#[67, 90]⟩ = some false from has_c 11 (by decide) (by decide) 30 (by decide))
  have Ho := Aside0.mk (show mezzanineref09_has.f 30 78 ⟨#[76, 65]⟩ = some false from has_o 11 (by decide) (by decide) 30 (by decide))
  have HF := Aside0.mk (show mezzanineref09_Form.f 78 = some 0 from form_at 11 (by decide) (by decide))
  go_enter Try.func23, Try.ntmps23
  go_wp2_with (first
    | (go_at_call 22; ((with_reducible refine (mezzanineref09_RowOf.calls op n mk mt 78 _ R0.out).mono ?_); rintro e wa ⟨rfl, hb⟩; obtain ⟨hc, hf⟩ := bcell0 hb; have hz := hb.size; have hs1 : w.heap.size < wa.heap.size := (by have := hb.size; simp at this; omega); have hs2 : w.heap.size < wa.heap.size + 1 := (by omega); have hs3 : w.heap.size < wa.heap.size + 1 + 1 := (by omega)))
    | (go_at_call 34; ((with_reducible refine (mezzanineref09_has.calls 30 78 ⟨#[85, 74, 73, 72, 87, 82, 76, 65, 67, 90, 86]⟩ false _ Hrd.out).mono ?_); rintro e wb ⟨rfl, ⟨⟨m0, rfl⟩⟩⟩))
    | (go_at_call 34; ((with_reducible refine (mezzanineref09_has.calls 30 78 ⟨#[73, 72, 87, 66, 83, 70, 82, 76, 65, 67, 86]⟩ false _ Ha.out).mono ?_); rintro e wb ⟨rfl, ⟨⟨m0, rfl⟩⟩⟩))
    | (go_at_call 34; ((with_reducible refine (mezzanineref09_has.calls 30 78 ⟨#[66, 83, 70, 82, 65]⟩ false _ Hb.out).mono ?_); rintro e wb ⟨rfl, ⟨⟨m0, rfl⟩⟩⟩))
    | (go_at_call 34; ((with_reducible refine (mezzanineref09_has.calls 30 78 ⟨#[67, 90]⟩ false _ Hc.out).mono ?_); rintro e wb ⟨rfl, ⟨⟨m0, rfl⟩⟩⟩))
    | (go_at_call 34; ((with_reducible refine (mezzanineref09_has.calls 30 78 ⟨#[76, 65]⟩ false _ Ho.out).mono ?_); rintro e wb ⟨rfl, ⟨⟨m0, rfl⟩⟩⟩))
    | (go_at_call 28; ((with_reducible refine (mezzanineref09_Form.calls 78 0 _ HF.out).mono ?_); rintro e wc ⟨rfl, hd⟩; have hb2 := hd.below; clear hd; obtain ⟨hc2, hf2⟩ := bcell0 hb2; have hz2 := hb2.size)))
  have q0 := hc2 w.heap.size 0 (by simp; try omega)
  have q1 := hc2 w.heap.size 1 (by simp; try omega)
  have q2 := hc2 w.heap.size 2 (by simp; try omega)
  have q3 := hc2 w.heap.size 3 (by simp; try omega)
  have q4 := hc2 w.heap.size 4 (by simp; try omega)
  have q5 := hc2 w.heap.size 5 (by simp; try omega)
  have q6 := hc2 w.heap.size 6 (by simp; try omega)
  have q7 := hc2 w.heap.size 7 (by simp; try omega)
  have hne : wa.heap.size + 1 ≠ w.heap.size := by omega
  have hne2 : wa.heap.size ≠ w.heap.size := by omega
  simp [hc, hs1, hs2, hs3, hne, hne2, go_sem] at q0 q1 q2 q3 q4 q5 q6 q7
  refine bodyPost_ret (v := .agg #[.int .i64 op, .int .i64 0, .int .i64 0, .int .i64 0, .int .i64 0, .int .i64 0, .bool false, .bool false]) (by simp [results, Try.results23, go_sem, q0, q1, q2, q3, q4, q5, q6, q7, hne, hne2, hs1, hs2, hs3]) rfl ⟨rfl, ?_⟩
  have b1 : Below w.heap.size w wa := ((Below.refl _ _).alloc (Nat.le_refl _) _).trans (hb.mono (by simp))
  have b2 : Below w.heap.size w wc := Below.trans (by repeat (first | (with_reducible exact b1) | (with_reducible apply below_alloc) | (with_reducible apply pw_below_drewN) | (with_reducible refine Below.setCell ?_ (by simp; omega) _))) (hb2.mono (by simp; omega))
  repeat (first | (with_reducible exact b2) | (with_reducible apply below_alloc) | (with_reducible apply pw_below_drewN) | (with_reducible refine Below.setCell ?_ (by simp; try omega) _))
theorem says_12 (op a1 : Int) (w : World) (n : ByteArray) (mk mt : Int) (w0 : 0 ≤ a1) (w1 : a1 < 4294967296) (hr : mezzanineref09_RowOf.f op = some (n, mk, mt, 70)) :
    Calls Try.prog 23 #[.int .i64 op, .int .u32 a1] w fun e w' => e = .returned (.agg #[.int .i64 op, .int .i64 0, .int .i64 (a1 / 32768 % 32), .int .i64 (a1 / 1048576 % 32), .int .i64 0, .int .i64 0, .bool false, .bool false]) ∧ Below w.heap.size w w' := by
  have hu24 := Try.underlying24
  have hu61 := Try.underlying61
  have R0 := Aside0.mk hr
  clear hr
  have F19 := Aside0.mk (rfield_at a1 w0 w1 19 15 15 5 (by decide) (by decide) (by decide) (by decide) 40 (by decide))
  have d19a : 0 ≤ a1 / 2 ^ 15 % 2 ^ 5 := by omega
  have d19b : a1 / 2 ^ 15 % 2 ^ 5 < 32 := by omega
  have F24 := Aside0.mk (rfield_at a1 w0 w1 24 20 20 5 (by decide) (by decide) (by decide) (by decide) 40 (by decide))
  have d24a : 0 ≤ a1 / 2 ^ 20 % 2 ^ 5 := by omega
  have d24b : a1 / 2 ^ 20 % 2 ^ 5 < 32 := by omega
  have Hrd := Aside0.mk (show mezzanineref09_has.f 30 70 ⟨#[85, 74, 73, 72, 87, 82, 76, 65, 67, 90, 86]⟩ = some false from has_rd 12 (by decide) (by decide) 30 (by decide))
  have Ha := Aside0.mk (show mezzanineref09_has.f 30 70 ⟨#[73, 72, 87, 66, 83, 70, 82, 76, 65, 67, 86]⟩ = some true from has_a 12 (by decide) (by decide) 30 (by decide))
  have Hb := Aside0.mk (show mezzanineref09_has.f 30 70 ⟨#[66, 83, 70, 82, 65]⟩ = some true from has_b 12 (by decide) (by decide) 30 (by decide))
  have Hc := Aside0.mk (show mezzanineref09_has.f 30 70 ⟨#[67, 90]⟩ = some false from has_c 12 (by decide) (by decide) 30 (by decide))
  have Ho := Aside0.mk (show mezzanineref09_has.f 30 70 ⟨#[76, 65]⟩ = some false from has_o 12 (by decide) (by decide) 30 (by decide))
  have HF := Aside0.mk (show mezzanineref09_Form.f 70 = some 0 from form_at 12 (by decide) (by decide))
  go_enter Try.func23, Try.ntmps23
  go_wp2_with (first
    | (go_at_call 22; ((with_reducible refine (mezzanineref09_RowOf.calls op n mk mt 70 _ R0.out).mono ?_); rintro e wa ⟨rfl, hb⟩; obtain ⟨hc, hf⟩ := bcell0 hb; have hz := hb.size; have hs1 : w.heap.size < wa.heap.size := (by have := hb.size; simp at this; omega); have hs2 : w.heap.size < wa.heap.size + 1 := (by omega); have hs3 : w.heap.size < wa.heap.size + 1 + 1 := (by omega)))
    | (go_at_call 35; ((with_reducible refine (mezzanineref08_Field.calls 40 a1 19 15 _ _ F19.out).mono ?_); rintro e wb ⟨rfl, ⟨⟨m0, rfl⟩⟩⟩))
    | (go_at_call 35; ((with_reducible refine (mezzanineref08_Field.calls 40 a1 24 20 _ _ F24.out).mono ?_); rintro e wb ⟨rfl, ⟨⟨m0, rfl⟩⟩⟩))
    | (go_at_call 34; ((with_reducible refine (mezzanineref09_has.calls 30 70 ⟨#[85, 74, 73, 72, 87, 82, 76, 65, 67, 90, 86]⟩ false _ Hrd.out).mono ?_); rintro e wb ⟨rfl, ⟨⟨m0, rfl⟩⟩⟩))
    | (go_at_call 34; ((with_reducible refine (mezzanineref09_has.calls 30 70 ⟨#[73, 72, 87, 66, 83, 70, 82, 76, 65, 67, 86]⟩ true _ Ha.out).mono ?_); rintro e wb ⟨rfl, ⟨⟨m0, rfl⟩⟩⟩))
    | (go_at_call 34; ((with_reducible refine (mezzanineref09_has.calls 30 70 ⟨#[66, 83, 70, 82, 65]⟩ true _ Hb.out).mono ?_); rintro e wb ⟨rfl, ⟨⟨m0, rfl⟩⟩⟩))
    | (go_at_call 34; ((with_reducible refine (mezzanineref09_has.calls 30 70 ⟨#[67, 90]⟩ false _ Hc.out).mono ?_); rintro e wb ⟨rfl, ⟨⟨m0, rfl⟩⟩⟩))
    | (go_at_call 34; ((with_reducible refine (mezzanineref09_has.calls 30 70 ⟨#[76, 65]⟩ false _ Ho.out).mono ?_); rintro e wb ⟨rfl, ⟨⟨m0, rfl⟩⟩⟩))
    | (go_at_call 28; ((with_reducible refine (mezzanineref09_Form.calls 70 0 _ HF.out).mono ?_); rintro e wc ⟨rfl, hd⟩; have hb2 := hd.below; clear hd; obtain ⟨hc2, hf2⟩ := bcell0 hb2; have hz2 := hb2.size)))
  have q0 := hc2 w.heap.size 0 (by simp; try omega)
  have q1 := hc2 w.heap.size 1 (by simp; try omega)
  have q2 := hc2 w.heap.size 2 (by simp; try omega)
  have q3 := hc2 w.heap.size 3 (by simp; try omega)
  have q4 := hc2 w.heap.size 4 (by simp; try omega)
  have q5 := hc2 w.heap.size 5 (by simp; try omega)
  have q6 := hc2 w.heap.size 6 (by simp; try omega)
  have q7 := hc2 w.heap.size 7 (by simp; try omega)
  have hne : wa.heap.size + 1 ≠ w.heap.size := by omega
  have hne2 : wa.heap.size ≠ w.heap.size := by omega
  simp [hc, hs1, hs2, hs3, hne, hne2, go_sem] at q0 q1 q2 q3 q4 q5 q6 q7
  refine bodyPost_ret (v := .agg #[.int .i64 op, .int .i64 0, .int .i64 (a1 / 32768 % 32), .int .i64 (a1 / 1048576 % 32), .int .i64 0, .int .i64 0, .bool false, .bool false]) (by simp [results, Try.results23, go_sem, q0, q1, q2, q3, q4, q5, q6, q7, hne, hne2, hs1, hs2, hs3]) rfl ⟨rfl, ?_⟩
  have b1 : Below w.heap.size w wa := ((Below.refl _ _).alloc (Nat.le_refl _) _).trans (hb.mono (by simp))
  have b2 : Below w.heap.size w wc := Below.trans (by repeat (first | (with_reducible exact b1) | (with_reducible apply below_alloc) | (with_reducible apply pw_below_drewN) | (with_reducible refine Below.setCell ?_ (by simp; omega) _))) (hb2.mono (by simp; omega))
  repeat (first | (with_reducible exact b2) | (with_reducible apply below_alloc) | (with_reducible apply pw_below_drewN) | (with_reducible refine Below.setCell ?_ (by simp; try omega) _))
theorem says_13 (op a1 : Int) (w : World) (n : ByteArray) (mk mt : Int) (w0 : 0 ≤ a1) (w1 : a1 < 4294967296) (hr : mezzanineref09_RowOf.f op = some (n, mk, mt, 67)) :
    Calls Try.prog 23 #[.int .i64 op, .int .u32 a1] w fun e w' => e = .returned (.agg #[.int .i64 op, .int .i64 (a1 / 128 % 32), .int .i64 (a1 / 32768 % 32), .int .i64 0, .int .i64 0, .int .i64 (a1 / 1048576 % 4096), .bool false, .bool false]) ∧ Below w.heap.size w w' := by
  have hu24 := Try.underlying24
  have hu61 := Try.underlying61
  have R0 := Aside0.mk hr
  clear hr
  have F11 := Aside0.mk (rfield_at a1 w0 w1 11 7 7 5 (by decide) (by decide) (by decide) (by decide) 40 (by decide))
  have d11a : 0 ≤ a1 / 2 ^ 7 % 2 ^ 5 := by omega
  have d11b : a1 / 2 ^ 7 % 2 ^ 5 < 32 := by omega
  have F19 := Aside0.mk (rfield_at a1 w0 w1 19 15 15 5 (by decide) (by decide) (by decide) (by decide) 40 (by decide))
  have d19a : 0 ≤ a1 / 2 ^ 15 % 2 ^ 5 := by omega
  have d19b : a1 / 2 ^ 15 % 2 ^ 5 < 32 := by omega
  have F31 := Aside0.mk (rfield_at a1 w0 w1 31 20 20 12 (by decide) (by decide) (by decide) (by decide) 40 (by decide))
  have d31a : 0 ≤ a1 / 2 ^ 20 % 2 ^ 12 := by omega
  have d31b : a1 / 2 ^ 20 % 2 ^ 12 < 4096 := by omega
  have Hrd := Aside0.mk (show mezzanineref09_has.f 30 67 ⟨#[85, 74, 73, 72, 87, 82, 76, 65, 67, 90, 86]⟩ = some true from has_rd 13 (by decide) (by decide) 30 (by decide))
  have Ha := Aside0.mk (show mezzanineref09_has.f 30 67 ⟨#[73, 72, 87, 66, 83, 70, 82, 76, 65, 67, 86]⟩ = some true from has_a 13 (by decide) (by decide) 30 (by decide))
  have Hb := Aside0.mk (show mezzanineref09_has.f 30 67 ⟨#[66, 83, 70, 82, 65]⟩ = some false from has_b 13 (by decide) (by decide) 30 (by decide))
  have Hc := Aside0.mk (show mezzanineref09_has.f 30 67 ⟨#[67, 90]⟩ = some true from has_c 13 (by decide) (by decide) 30 (by decide))
  have Ho := Aside0.mk (show mezzanineref09_has.f 30 67 ⟨#[76, 65]⟩ = some false from has_o 13 (by decide) (by decide) 30 (by decide))
  have HF := Aside0.mk (show mezzanineref09_Form.f 67 = some 0 from form_at 13 (by decide) (by decide))
  go_enter Try.func23, Try.ntmps23
  go_wp2_with (first
    | (go_at_call 22; ((with_reducible refine (mezzanineref09_RowOf.calls op n mk mt 67 _ R0.out).mono ?_); rintro e wa ⟨rfl, hb⟩; obtain ⟨hc, hf⟩ := bcell0 hb; have hz := hb.size; have hs1 : w.heap.size < wa.heap.size := (by have := hb.size; simp at this; omega); have hs2 : w.heap.size < wa.heap.size + 1 := (by omega); have hs3 : w.heap.size < wa.heap.size + 1 + 1 := (by omega)))
    | (go_at_call 35; ((with_reducible refine (mezzanineref08_Field.calls 40 a1 11 7 _ _ F11.out).mono ?_); rintro e wb ⟨rfl, ⟨⟨m0, rfl⟩⟩⟩))
    | (go_at_call 35; ((with_reducible refine (mezzanineref08_Field.calls 40 a1 19 15 _ _ F19.out).mono ?_); rintro e wb ⟨rfl, ⟨⟨m0, rfl⟩⟩⟩))
    | (go_at_call 35; ((with_reducible refine (mezzanineref08_Field.calls 40 a1 31 20 _ _ F31.out).mono ?_); rintro e wb ⟨rfl, ⟨⟨m0, rfl⟩⟩⟩))
    | (go_at_call 34; ((with_reducible refine (mezzanineref09_has.calls 30 67 ⟨#[85, 74, 73, 72, 87, 82, 76, 65, 67, 90, 86]⟩ true _ Hrd.out).mono ?_); rintro e wb ⟨rfl, ⟨⟨m0, rfl⟩⟩⟩))
    | (go_at_call 34; ((with_reducible refine (mezzanineref09_has.calls 30 67 ⟨#[73, 72, 87, 66, 83, 70, 82, 76, 65, 67, 86]⟩ true _ Ha.out).mono ?_); rintro e wb ⟨rfl, ⟨⟨m0, rfl⟩⟩⟩))
    | (go_at_call 34; ((with_reducible refine (mezzanineref09_has.calls 30 67 ⟨#[66, 83, 70, 82, 65]⟩ false _ Hb.out).mono ?_); rintro e wb ⟨rfl, ⟨⟨m0, rfl⟩⟩⟩))
    | (go_at_call 34; ((with_reducible refine (mezzanineref09_has.calls 30 67 ⟨#[67, 90]⟩ true _ Hc.out).mono ?_); rintro e wb ⟨rfl, ⟨⟨m0, rfl⟩⟩⟩))
    | (go_at_call 34; ((with_reducible refine (mezzanineref09_has.calls 30 67 ⟨#[76, 65]⟩ false _ Ho.out).mono ?_); rintro e wb ⟨rfl, ⟨⟨m0, rfl⟩⟩⟩))
    | (go_at_call 28; ((with_reducible refine (mezzanineref09_Form.calls 67 0 _ HF.out).mono ?_); rintro e wc ⟨rfl, hd⟩; have hb2 := hd.below; clear hd; obtain ⟨hc2, hf2⟩ := bcell0 hb2; have hz2 := hb2.size)))
  have q0 := hc2 w.heap.size 0 (by simp; try omega)
  have q1 := hc2 w.heap.size 1 (by simp; try omega)
  have q2 := hc2 w.heap.size 2 (by simp; try omega)
  have q3 := hc2 w.heap.size 3 (by simp; try omega)
  have q4 := hc2 w.heap.size 4 (by simp; try omega)
  have q5 := hc2 w.heap.size 5 (by simp; try omega)
  have q6 := hc2 w.heap.size 6 (by simp; try omega)
  have q7 := hc2 w.heap.size 7 (by simp; try omega)
  have hne : wa.heap.size + 1 ≠ w.heap.size := by omega
  have hne2 : wa.heap.size ≠ w.heap.size := by omega
  simp [hc, hs1, hs2, hs3, hne, hne2, go_sem] at q0 q1 q2 q3 q4 q5 q6 q7
  refine bodyPost_ret (v := .agg #[.int .i64 op, .int .i64 (a1 / 128 % 32), .int .i64 (a1 / 32768 % 32), .int .i64 0, .int .i64 0, .int .i64 (a1 / 1048576 % 4096), .bool false, .bool false]) (by simp [results, Try.results23, go_sem, q0, q1, q2, q3, q4, q5, q6, q7, hne, hne2, hs1, hs2, hs3]) rfl ⟨rfl, ?_⟩
  have b1 : Below w.heap.size w wa := ((Below.refl _ _).alloc (Nat.le_refl _) _).trans (hb.mono (by simp))
  have b2 : Below w.heap.size w wc := Below.trans (by repeat (first | (with_reducible exact b1) | (with_reducible apply below_alloc) | (with_reducible apply pw_below_drewN) | (with_reducible refine Below.setCell ?_ (by simp; omega) _))) (hb2.mono (by simp; omega))
  repeat (first | (with_reducible exact b2) | (with_reducible apply below_alloc) | (with_reducible apply pw_below_drewN) | (with_reducible refine Below.setCell ?_ (by simp; try omega) _))
theorem says_14 (op a1 : Int) (w : World) (n : ByteArray) (mk mt : Int) (w0 : 0 ≤ a1) (w1 : a1 < 4294967296) (hr : mezzanineref09_RowOf.f op = some (n, mk, mt, 90)) :
    Calls Try.prog 23 #[.int .i64 op, .int .u32 a1] w fun e w' => e = .returned (.agg #[.int .i64 op, .int .i64 (a1 / 128 % 32), .int .i64 0, .int .i64 0, .int .i64 (numS 9 a1), .int .i64 (a1 / 1048576 % 4096), .bool false, .bool false]) ∧ Below w.heap.size w w' := by
  have hu24 := Try.underlying24
  have hu61 := Try.underlying61
  have R0 := Aside0.mk hr
  clear hr
  have F11 := Aside0.mk (rfield_at a1 w0 w1 11 7 7 5 (by decide) (by decide) (by decide) (by decide) 40 (by decide))
  have d11a : 0 ≤ a1 / 2 ^ 7 % 2 ^ 5 := by omega
  have d11b : a1 / 2 ^ 7 % 2 ^ 5 < 32 := by omega
  have F31 := Aside0.mk (rfield_at a1 w0 w1 31 20 20 12 (by decide) (by decide) (by decide) (by decide) 40 (by decide))
  have d31a : 0 ≤ a1 / 2 ^ 20 % 2 ^ 12 := by omega
  have d31b : a1 / 2 ^ 20 % 2 ^ 12 < 4096 := by omega
  have Hrd := Aside0.mk (show mezzanineref09_has.f 30 90 ⟨#[85, 74, 73, 72, 87, 82, 76, 65, 67, 90, 86]⟩ = some true from has_rd 14 (by decide) (by decide) 30 (by decide))
  have Ha := Aside0.mk (show mezzanineref09_has.f 30 90 ⟨#[73, 72, 87, 66, 83, 70, 82, 76, 65, 67, 86]⟩ = some false from has_a 14 (by decide) (by decide) 30 (by decide))
  have Hb := Aside0.mk (show mezzanineref09_has.f 30 90 ⟨#[66, 83, 70, 82, 65]⟩ = some false from has_b 14 (by decide) (by decide) 30 (by decide))
  have Hc := Aside0.mk (show mezzanineref09_has.f 30 90 ⟨#[67, 90]⟩ = some true from has_c 14 (by decide) (by decide) 30 (by decide))
  have Ho := Aside0.mk (show mezzanineref09_has.f 30 90 ⟨#[76, 65]⟩ = some false from has_o 14 (by decide) (by decide) 30 (by decide))
  have HF := Aside0.mk (show mezzanineref09_Form.f 90 = some 9 from form_at 14 (by decide) (by decide))
  have HN := Aside0.mk (rnumber_at 9 a1 w0 w1 (by decide) (by decide) 120 (by decide))
  go_enter Try.func23, Try.ntmps23
  go_wp2_with (first
    | (go_at_call 22; ((with_reducible refine (mezzanineref09_RowOf.calls op n mk mt 90 _ R0.out).mono ?_); rintro e wa ⟨rfl, hb⟩; obtain ⟨hc, hf⟩ := bcell0 hb; have hz := hb.size; have hs1 : w.heap.size < wa.heap.size := (by have := hb.size; simp at this; omega); have hs2 : w.heap.size < wa.heap.size + 1 := (by omega); have hs3 : w.heap.size < wa.heap.size + 1 + 1 := (by omega)))
    | (go_at_call 35; ((with_reducible refine (mezzanineref08_Field.calls 40 a1 11 7 _ _ F11.out).mono ?_); rintro e wb ⟨rfl, ⟨⟨m0, rfl⟩⟩⟩))
    | (go_at_call 35; ((with_reducible refine (mezzanineref08_Field.calls 40 a1 31 20 _ _ F31.out).mono ?_); rintro e wb ⟨rfl, ⟨⟨m0, rfl⟩⟩⟩))
    | (go_at_call 34; ((with_reducible refine (mezzanineref09_has.calls 30 90 ⟨#[85, 74, 73, 72, 87, 82, 76, 65, 67, 90, 86]⟩ true _ Hrd.out).mono ?_); rintro e wb ⟨rfl, ⟨⟨m0, rfl⟩⟩⟩))
    | (go_at_call 34; ((with_reducible refine (mezzanineref09_has.calls 30 90 ⟨#[73, 72, 87, 66, 83, 70, 82, 76, 65, 67, 86]⟩ false _ Ha.out).mono ?_); rintro e wb ⟨rfl, ⟨⟨m0, rfl⟩⟩⟩))
    | (go_at_call 34; ((with_reducible refine (mezzanineref09_has.calls 30 90 ⟨#[66, 83, 70, 82, 65]⟩ false _ Hb.out).mono ?_); rintro e wb ⟨rfl, ⟨⟨m0, rfl⟩⟩⟩))
    | (go_at_call 34; ((with_reducible refine (mezzanineref09_has.calls 30 90 ⟨#[67, 90]⟩ true _ Hc.out).mono ?_); rintro e wb ⟨rfl, ⟨⟨m0, rfl⟩⟩⟩))
    | (go_at_call 34; ((with_reducible refine (mezzanineref09_has.calls 30 90 ⟨#[76, 65]⟩ false _ Ho.out).mono ?_); rintro e wb ⟨rfl, ⟨⟨m0, rfl⟩⟩⟩))
    | (go_at_call 28; ((with_reducible refine (mezzanineref09_Form.calls 90 9 _ HF.out).mono ?_); rintro e wb ⟨rfl, ⟨⟨m0, rfl⟩⟩⟩))
    | (go_at_call 36; ((with_reducible refine (mezzanineref08_Number.calls 120 9 a1 _ _ _ HN.out).mono ?_); rintro e wc ⟨rfl, hb2⟩; obtain ⟨hc2, hf2⟩ := bcell0 hb2; have hz2 := hb2.size)))
  have q0 := hc2 w.heap.size 0 (by simp; try omega)
  have q1 := hc2 w.heap.size 1 (by simp; try omega)
  have q2 := hc2 w.heap.size 2 (by simp; try omega)
  have q3 := hc2 w.heap.size 3 (by simp; try omega)
  have q4 := hc2 w.heap.size 4 (by simp; try omega)
  have q5 := hc2 w.heap.size 5 (by simp; try omega)
  have q6 := hc2 w.heap.size 6 (by simp; try omega)
  have q7 := hc2 w.heap.size 7 (by simp; try omega)
  have hne : wa.heap.size + 1 ≠ w.heap.size := by omega
  have hne2 : wa.heap.size ≠ w.heap.size := by omega
  simp [hc, hs1, hs2, hs3, hne, hne2, go_sem] at q0 q1 q2 q3 q4 q5 q6 q7
  refine bodyPost_ret (v := .agg #[.int .i64 op, .int .i64 (a1 / 128 % 32), .int .i64 0, .int .i64 0, .int .i64 (numS 9 a1), .int .i64 (a1 / 1048576 % 4096), .bool false, .bool false]) (by simp [results, Try.results23, go_sem, q0, q1, q2, q3, q4, q5, q6, q7, hne, hne2, hs1, hs2, hs3]) rfl ⟨rfl, ?_⟩
  have b1 : Below w.heap.size w wa := ((Below.refl _ _).alloc (Nat.le_refl _) _).trans (hb.mono (by simp))
  have b2 : Below w.heap.size w wc := Below.trans (by repeat (first | (with_reducible exact b1) | (with_reducible apply below_alloc) | (with_reducible apply pw_below_drewN) | (with_reducible refine Below.setCell ?_ (by simp; omega) _))) (hb2.mono (by simp; omega))
  repeat (first | (with_reducible exact b2) | (with_reducible apply below_alloc) | (with_reducible apply pw_below_drewN) | (with_reducible refine Below.setCell ?_ (by simp; try omega) _))
theorem says_15 (op a1 : Int) (w : World) (n : ByteArray) (mk mt : Int) (w0 : 0 ≤ a1) (w1 : a1 < 4294967296) (hr : mezzanineref09_RowOf.f op = some (n, mk, mt, 86)) :
    Calls Try.prog 23 #[.int .i64 op, .int .u32 a1] w fun e w' => e = .returned (.agg #[.int .i64 op, .int .i64 (a1 / 128 % 32), .int .i64 (a1 / 32768 % 32), .int .i64 0, .int .i64 0, .int .i64 0, .bool false, .bool false]) ∧ Below w.heap.size w w' := by
  have hu24 := Try.underlying24
  have hu61 := Try.underlying61
  have R0 := Aside0.mk hr
  clear hr
  have F11 := Aside0.mk (rfield_at a1 w0 w1 11 7 7 5 (by decide) (by decide) (by decide) (by decide) 40 (by decide))
  have d11a : 0 ≤ a1 / 2 ^ 7 % 2 ^ 5 := by omega
  have d11b : a1 / 2 ^ 7 % 2 ^ 5 < 32 := by omega
  have F19 := Aside0.mk (rfield_at a1 w0 w1 19 15 15 5 (by decide) (by decide) (by decide) (by decide) 40 (by decide))
  have d19a : 0 ≤ a1 / 2 ^ 15 % 2 ^ 5 := by omega
  have d19b : a1 / 2 ^ 15 % 2 ^ 5 < 32 := by omega
  have Hrd := Aside0.mk (show mezzanineref09_has.f 30 86 ⟨#[85, 74, 73, 72, 87, 82, 76, 65, 67, 90, 86]⟩ = some true from has_rd 15 (by decide) (by decide) 30 (by decide))
  have Ha := Aside0.mk (show mezzanineref09_has.f 30 86 ⟨#[73, 72, 87, 66, 83, 70, 82, 76, 65, 67, 86]⟩ = some true from has_a 15 (by decide) (by decide) 30 (by decide))
  have Hb := Aside0.mk (show mezzanineref09_has.f 30 86 ⟨#[66, 83, 70, 82, 65]⟩ = some false from has_b 15 (by decide) (by decide) 30 (by decide))
  have Hc := Aside0.mk (show mezzanineref09_has.f 30 86 ⟨#[67, 90]⟩ = some false from has_c 15 (by decide) (by decide) 30 (by decide))
  have Ho := Aside0.mk (show mezzanineref09_has.f 30 86 ⟨#[76, 65]⟩ = some false from has_o 15 (by decide) (by decide) 30 (by decide))
  have HF := Aside0.mk (show mezzanineref09_Form.f 86 = some 0 from form_at 15 (by decide) (by decide))
  go_enter Try.func23, Try.ntmps23
  go_wp2_with (first
    | (go_at_call 22; ((with_reducible refine (mezzanineref09_RowOf.calls op n mk mt 86 _ R0.out).mono ?_); rintro e wa ⟨rfl, hb⟩; obtain ⟨hc, hf⟩ := bcell0 hb; have hz := hb.size; have hs1 : w.heap.size < wa.heap.size := (by have := hb.size; simp at this; omega); have hs2 : w.heap.size < wa.heap.size + 1 := (by omega); have hs3 : w.heap.size < wa.heap.size + 1 + 1 := (by omega)))
    | (go_at_call 35; ((with_reducible refine (mezzanineref08_Field.calls 40 a1 11 7 _ _ F11.out).mono ?_); rintro e wb ⟨rfl, ⟨⟨m0, rfl⟩⟩⟩))
    | (go_at_call 35; ((with_reducible refine (mezzanineref08_Field.calls 40 a1 19 15 _ _ F19.out).mono ?_); rintro e wb ⟨rfl, ⟨⟨m0, rfl⟩⟩⟩))
    | (go_at_call 34; ((with_reducible refine (mezzanineref09_has.calls 30 86 ⟨#[85, 74, 73, 72, 87, 82, 76, 65, 67, 90, 86]⟩ true _ Hrd.out).mono ?_); rintro e wb ⟨rfl, ⟨⟨m0, rfl⟩⟩⟩))
    | (go_at_call 34; ((with_reducible refine (mezzanineref09_has.calls 30 86 ⟨#[73, 72, 87, 66, 83, 70, 82, 76, 65, 67, 86]⟩ true _ Ha.out).mono ?_); rintro e wb ⟨rfl, ⟨⟨m0, rfl⟩⟩⟩))
    | (go_at_call 34; ((with_reducible refine (mezzanineref09_has.calls 30 86 ⟨#[66, 83, 70, 82, 65]⟩ false _ Hb.out).mono ?_); rintro e wb ⟨rfl, ⟨⟨m0, rfl⟩⟩⟩))
    | (go_at_call 34; ((with_reducible refine (mezzanineref09_has.calls 30 86 ⟨#[67, 90]⟩ false _ Hc.out).mono ?_); rintro e wb ⟨rfl, ⟨⟨m0, rfl⟩⟩⟩))
    | (go_at_call 34; ((with_reducible refine (mezzanineref09_has.calls 30 86 ⟨#[76, 65]⟩ false _ Ho.out).mono ?_); rintro e wb ⟨rfl, ⟨⟨m0, rfl⟩⟩⟩))
    | (go_at_call 28; ((with_reducible refine (mezzanineref09_Form.calls 86 0 _ HF.out).mono ?_); rintro e wc ⟨rfl, hd⟩; have hb2 := hd.below; clear hd; obtain ⟨hc2, hf2⟩ := bcell0 hb2; have hz2 := hb2.size)))
  have q0 := hc2 w.heap.size 0 (by simp; try omega)
  have q1 := hc2 w.heap.size 1 (by simp; try omega)
  have q2 := hc2 w.heap.size 2 (by simp; try omega)
  have q3 := hc2 w.heap.size 3 (by simp; try omega)
  have q4 := hc2 w.heap.size 4 (by simp; try omega)
  have q5 := hc2 w.heap.size 5 (by simp; try omega)
  have q6 := hc2 w.heap.size 6 (by simp; try omega)
  have q7 := hc2 w.heap.size 7 (by simp; try omega)
  have hne : wa.heap.size + 1 ≠ w.heap.size := by omega
  have hne2 : wa.heap.size ≠ w.heap.size := by omega
  simp [hc, hs1, hs2, hs3, hne, hne2, go_sem] at q0 q1 q2 q3 q4 q5 q6 q7
  refine bodyPost_ret (v := .agg #[.int .i64 op, .int .i64 (a1 / 128 % 32), .int .i64 (a1 / 32768 % 32), .int .i64 0, .int .i64 0, .int .i64 0, .bool false, .bool false]) (by simp [results, Try.results23, go_sem, q0, q1, q2, q3, q4, q5, q6, q7, hne, hne2, hs1, hs2, hs3]) rfl ⟨rfl, ?_⟩
  have b1 : Below w.heap.size w wa := ((Below.refl _ _).alloc (Nat.le_refl _) _).trans (hb.mono (by simp))
  have b2 : Below w.heap.size w wc := Below.trans (by repeat (first | (with_reducible exact b1) | (with_reducible apply below_alloc) | (with_reducible apply pw_below_drewN) | (with_reducible refine Below.setCell ?_ (by simp; omega) _))) (hb2.mono (by simp; omega))
  repeat (first | (with_reducible exact b2) | (with_reducible apply below_alloc) | (with_reducible apply pw_below_drewN) | (with_reducible refine Below.setCell ?_ (by simp; try omega) _))
end Go.Proofs.Ytknkfimpflodeaa.P
