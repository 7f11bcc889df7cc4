/- What Says does, form by form. -/
import Derived.Test.YtknkfimpflodeaaSaysW
import Derived.Test.YtknkfimpflodeaaPureR
import Derived.Test.YtknkfimpflodeaaRowOf
import Derived.Handy
namespace Go.Proofs.Ytknkfimpflodeaa.P
open Go.RowKit Go.Proofs.YtknkfimpflodeaaW.PrintWords Go.Proofs.YtknkfimpflodeaaW.PrintLast Go.Proofs.YtknkfimpflodeaaW.PrintMore
set_option linter.unusedVariables false
set_option linter.unusedSimpArgs false
attribute [local go_sem] setCell_drewN' alloc_drewN'
set_option maxRecDepth 100000
set_option maxHeartbeats 4000000
theorem says_6 (op a1 : Int) (w : World) (n : ByteArray) (mk mt : Int) (w0 : 0 ≤ a1) (w1 : a1 < 4294967296) (hr : mezzanineref09_RowOf.f op = some (n, mk, mt, 72)) :
    Calls Try.prog 23 #[.int .i64 op, .int .u32 a1] w fun e w' => e = .returned (.agg #[.int .i64 op, .int .i64 (a1 / 128 % 32), .int .i64 (a1 / 32768 % 32), .int .i64 0, .int .i64 (numS 6 a1), .int .i64 0, .bool false, .bool false]) ∧ Below w.heap.size w w' := by
  have hu24 := Try.underlying24
  have hu61 := Try.underlying61
  have R0 := Aside0.mk hr
  clear hr
  have F11 := Aside0.mk (rfield_at a1 w0 w1 11 7 7 5 (by decide) (by decide) (by decide) (by decide) 40 (by decide))
  have d11a : 0 ≤ a1 / 2 ^ 7 % 2 ^ 5 := by omega
  have d11b : a1 / 2 ^ 7 % 2 ^ 5 < 32 := by omega
  have F19 := Aside0.mk (rfield_at a1 w0 w1 19 15 15 5 (by decide) (by decide) (by decide) (by decide) 40 (by decide))
  have d19a : 0 ≤ a1 / 2 ^ 15 % 2 ^ 5 := by omega
  have d19b : a1 / 2 ^ 15 % 2 ^ 5 < 32 := by omega
  have Hrd := Aside0.mk (show mezzanineref09_has.f 30 72 ⟨#[85, 74, 73, 72, 87, 82, 76, 65, 67, 90, 86]⟩ = some true from has_rd 6 (by decide) (by decide) 30 (by decide))
  have Ha := Aside0.mk (show mezzanineref09_has.f 30 72 ⟨#[73, 72, 87, 66, 83, 70, 82, 76, 65, 67, 86]⟩ = some true from has_a 6 (by decide) (by decide) 30 (by decide))
  have Hb := Aside0.mk (show mezzanineref09_has.f 30 72 ⟨#[66, 83, 70, 82, 65]⟩ = some false from has_b 6 (by decide) (by decide) 30 (by decide))
  have Hc := Aside0.mk (show mezzanineref09_has.f 30 72 ⟨#[67, 90]⟩ = some false from has_c 6 (by decide) (by decide) 30 (by decide))
  have Ho := Aside0.mk (show mezzanineref09_has.f 30 72 ⟨#[76, 65]⟩ = some false from has_o 6 (by decide) (by decide) 30 (by decide))
  have HF := Aside0.mk (show mezzanineref09_Form.f 72 = some 6 from form_at 6 (by decide) (by decide))
  have HN := Aside0.mk (rnumber_at 6 a1 w0 w1 (by decide) (by decide) 120 (by decide))
  go_enter Try.func23, Try.ntmps23
  go_wp2_with (first
    | (go_at_call 22; ((with_reducible refine (mezzanineref09_RowOf.calls op n mk mt 72 _ R0.out).mono ?_); rintro e wa ⟨rfl, hb⟩; obtain ⟨hc, hf⟩ := bcell0 hb; have hz := hb.size; have hs1 : w.heap.size < wa.heap.size := (by have := hb.size; simp at this; omega); have hs2 : w.heap.size < wa.heap.size + 1 := (by omega); have hs3 : w.heap.size < wa.heap.size + 1 + 1 := (by omega)))
    | (go_at_call 35; ((with_reducible refine (mezzanineref08_Field.calls 40 a1 11 7 _ _ F11.out).mono ?_); rintro e wb ⟨rfl, ⟨⟨m0, rfl⟩⟩⟩))
    | (go_at_call 35; ((with_reducible refine (mezzanineref08_Field.calls 40 a1 19 15 _ _ F19.out).mono ?_); rintro e wb ⟨rfl, ⟨⟨m0, rfl⟩⟩⟩))
    | (go_at_call 34; ((with_reducible refine (mezzanineref09_has.calls 30 72 ⟨#[85, 74, 73, 72, 87, 82, 76, 65, 67, 90, 86]⟩ true _ Hrd.out).mono ?_); rintro e wb ⟨rfl, ⟨⟨m0, rfl⟩⟩⟩))
    | (go_at_call 34; ((with_reducible refine (mezzanineref09_has.calls 30 72 ⟨#[73, 72, 87, 66, 83, 70, 82, 76, 65, 67, 86]⟩ true _ Ha.out).mono ?_); rintro e wb ⟨rfl, ⟨⟨m0, rfl⟩⟩⟩))
    | (go_at_call 34; ((with_reducible refine (mezzanineref09_has.calls 30 72 ⟨#[66, 83, 70, 82, 65]⟩ false _ Hb.out).mono ?_); rintro e wb ⟨rfl, ⟨⟨m0, rfl⟩⟩⟩))
    | (go_at_call 34; ((with_reducible refine (mezzanineref09_has.calls 30 72 ⟨#[67, 90]⟩ false _ Hc.out).mono ?_); rintro e wb ⟨rfl, ⟨⟨m0, rfl⟩⟩⟩))
    | (go_at_call 34; ((with_reducible refine (mezzanineref09_has.calls 30 72 ⟨#[76, 65]⟩ false _ Ho.out).mono ?_); rintro e wb ⟨rfl, ⟨⟨m0, rfl⟩⟩⟩))
    | (go_at_call 28; ((with_reducible refine (mezzanineref09_Form.calls 72 6 _ HF.out).mono ?_); rintro e wb ⟨rfl, ⟨⟨m0, rfl⟩⟩⟩))
    | (go_at_call 36; ((with_reducible refine (mezzanineref08_Number.calls 120 6 a1 _ _ _ HN.out).mono ?_); rintro e wc ⟨rfl, hb2⟩; obtain ⟨hc2, hf2⟩ := bcell0 hb2; have hz2 := hb2.size)))
  have q0 := hc2 w.heap.size 0 (by simp; try omega)
  have q1 := hc2 w.heap.size 1 (by simp; try omega)
  have q2 := hc2 w.heap.size 2 (by simp; try omega)
  have q3 := hc2 w.heap.size 3 (by simp; try omega)
  have q4 := hc2 w.heap.size 4 (by simp; try omega)
  have q5 := hc2 w.heap.size 5 (by simp; try omega)
  have q6 := hc2 w.heap.size 6 (by simp; try omega)
  have q7 := hc2 w.heap.size 7 (by simp; try omega)
  have hne : wa.heap.size + 1 ≠ w.heap.size := by omega
  have hne2 : wa.heap.size ≠ w.heap.size := by omega
  simp [hc, hs1, hs2, hs3, hne, hne2, go_sem] at q0 q1 q2 q3 q4 q5 q6 q7
  refine bodyPost_ret (v := .agg #[.int .i64 op, .int .i64 (a1 / 128 % 32), .int .i64 (a1 / 32768 % 32), .int .i64 0, .int .i64 (numS 6 a1), .int .i64 0, .bool false, .bool false]) (by simp [results, Try.results23, go_sem, q0, q1, q2, q3, q4, q5, q6, q7, hne, hne2, hs1, hs2, hs3]) rfl ⟨rfl, ?_⟩
  have b1 : Below w.heap.size w wa := ((Below.refl _ _).alloc (Nat.le_refl _) _).trans (hb.mono (by simp))
  have b2 : Below w.heap.size w wc := Below.trans (by repeat (first | (with_reducible exact b1) | (with_reducible apply below_alloc) | (with_reducible apply pw_below_drewN) | (with_reducible refine Below.setCell ?_ (by simp; omega) _))) (hb2.mono (by simp; omega))
  repeat (first | (with_reducible exact b2) | (with_reducible apply below_alloc) | (with_reducible apply pw_below_drewN) | (with_reducible refine Below.setCell ?_ (by simp; try omega) _))
theorem says_7 (op a1 : Int) (w : World) (n : ByteArray) (mk mt : Int) (w0 : 0 ≤ a1) (w1 : a1 < 4294967296) (hr : mezzanineref09_RowOf.f op = some (n, mk, mt, 87)) :
    Calls Try.prog 23 #[.int .i64 op, .int .u32 a1] w fun e w' => e = .returned (.agg #[.int .i64 op, .int .i64 (a1 / 128 % 32), .int .i64 (a1 / 32768 % 32), .int .i64 0, .int .i64 (numS 7 a1), .int .i64 0, .bool false, .bool false]) ∧ Below w.heap.size w w' := by
  have hu24 := Try.underlying24
  have hu61 := Try.underlying61
  have R0 := Aside0.mk hr
  clear hr
  have F11 := Aside0.mk (rfield_at a1 w0 w1 11 7 7 5 (by decide) (by decide) (by decide) (by decide) 40 (by decide))
  have d11a : 0 ≤ a1 / 2 ^ 7 % 2 ^ 5 := by omega
  have d11b : a1 / 2 ^ 7 % 2 ^ 5 < 32 := by omega
  have F19 := Aside0.mk (rfield_at a1 w0 w1 19 15 15 5 (by decide) (by decide) (by decide) (by decide) 40 (by decide))
  have d19a : 0 ≤ a1 / 2 ^ 15 % 2 ^ 5 := by omega
  have d19b : a1 / 2 ^ 15 % 2 ^ 5 < 32 := by omega
  have Hrd := Aside0.mk (show mezzanineref09_has.f 30 87 ⟨#[85, 74, 73, 72, 87, 82, 76, 65, 67, 90, 86]⟩ = some true from has_rd 7 (by decide) (by decide) 30 (by decide))
  have Ha := Aside0.mk (show mezzanineref09_has.f 30 87 ⟨#[73, 72, 87, 66, 83, 70, 82, 76, 65, 67, 86]⟩ = some true from has_a 7 (by decide) (by decide) 30 (by decide))
  have Hb := Aside0.mk (show mezzanineref09_has.f 30 87 ⟨#[66, 83, 70, 82, 65]⟩ = some false from has_b 7 (by decide) (by decide) 30 (by decide))
  have Hc := Aside0.mk (show mezzanineref09_has.f 30 87 ⟨#[67, 90]⟩ = some false from has_c 7 (by decide) (by decide) 30 (by decide))
  have Ho := Aside0.mk (show mezzanineref09_has.f 30 87 ⟨#[76, 65]⟩ = some false from has_o 7 (by decide) (by decide) 30 (by decide))
  have HF := Aside0.mk (show mezzanineref09_Form.f 87 = some 7 from form_at 7 (by decide) (by decide))
  have HN := Aside0.mk (rnumber_at 7 a1 w0 w1 (by decide) (by decide) 120 (by decide))
  go_enter Try.func23, Try.ntmps23
  go_wp2_with (first
    | (go_at_call 22; ((with_reducible refine (mezzanineref09_RowOf.calls op n mk mt 87 _ R0.out).mono ?_); rintro e wa ⟨rfl, hb⟩; obtain ⟨hc, hf⟩ := bcell0 hb; have hz := hb.size; have hs1 : w.heap.size < wa.heap.size := (by have := hb.size; simp at this; omega); have hs2 : w.heap.size < wa.heap.size + 1 := (by omega); have hs3 : w.heap.size < wa.heap.size + 1 + 1 := (by omega)))
    | (go_at_call 35; ((with_reducible refine (mezzanineref08_Field.calls 40 a1 11 7 _ _ F11.out).mono ?_); rintro e wb ⟨rfl, ⟨⟨m0, rfl⟩⟩⟩))
    | (go_at_call 35; ((with_reducible refine (mezzanineref08_Field.calls 40 a1 19 15 _ _ F19.out).mono ?_); rintro e wb ⟨rfl, ⟨⟨m0, rfl⟩⟩⟩))
    | (go_at_call 34; ((with_reducible refine (mezzanineref09_has.calls 30 87 ⟨#[85, 74, 73, 72, 87, 82, 76, 65, 67, 90, 86]⟩ true _ Hrd.out).mono ?_); rintro e wb ⟨rfl, ⟨⟨m0, rfl⟩⟩⟩))
    | (go_at_call 34; ((with_reducible refine (mezzanineref09_has.calls 30 87 ⟨#[73, 72, 87, 66, 83, 70, 82, 76, 65, 67, 86]⟩ true _ Ha.out).mono ?_); rintro e wb ⟨rfl, ⟨⟨m0, rfl⟩⟩⟩))
    | (go_at_call 34; ((with_reducible refine (mezzanineref09_has.calls 30 87 ⟨#[66, 83, 70, 82, 65]⟩ false _ Hb.out).mono ?_); rintro e wb ⟨rfl, ⟨⟨m0, rfl⟩⟩⟩))
    | (go_at_call 34; ((with_reducible refine (mezzanineref09_has.calls 30 87 ⟨#[67, 90]⟩ false _ Hc.out).mono ?_); rintro e wb ⟨rfl, ⟨⟨m0, rfl⟩⟩⟩))
    | (go_at_call 34; ((with_reducible refine (mezzanineref09_has.calls 30 87 ⟨#[76, 65]⟩ false _ Ho.out).mono ?_); rintro e wb ⟨rfl, ⟨⟨m0, rfl⟩⟩⟩))
    | (go_at_call 28; ((with_reducible refine (mezzanineref09_Form.calls 87 7 _ HF.out).mono ?_); rintro e wb ⟨rfl, ⟨⟨m0, rfl⟩⟩⟩))
    | (go_at_call 36; ((with_reducible refine (mezzanineref08_Number.calls 120 7 a1 _ _ _ HN.out).mono ?_); rintro e wc ⟨rfl, hb2⟩; obtain ⟨hc2, hf2⟩ := bcell0 hb2; have hz2 := hb2.size)))
  have q0 := hc2 w.heap.size 0 (by simp; try omega)
  have q1 := hc2 w.heap.size 1 (by simp; try omega)
  have q2 := hc2 w.heap.size 2 (by simp; try omega)
  have q3 := hc2 w.heap.size 3 (by simp; try omega)
  have q4 := hc2 w.heap.size 4 (by simp; try omega)
  have q5 := hc2 w.heap.size 5 (by simp; try omega)
  have q6 := hc2 w.heap.size 6 (by simp; try omega)
  have q7 := hc2 w.heap.size 7 (by simp; try omega)
  have hne : wa.heap.size + 1 ≠ w.heap.size := by omega
  have hne2 : wa.heap.size ≠ w.heap.size := by omega
  simp [hc, hs1, hs2, hs3, hne, hne2, go_sem] at q0 q1 q2 q3 q4 q5 q6 q7
  refine bodyPost_ret (v := .agg #[.int .i64 op, .int .i64 (a1 / 128 % 32), .int .i64 (a1 / 32768 % 32), .int .i64 0, .int .i64 (numS 7 a1), .int .i64 0, .bool false, .bool false]) (by simp [results, Try.results23, go_sem, q0, q1, q2, q3, q4, q5, q6, q7, hne, hne2, hs1, hs2, hs3]) rfl ⟨rfl, ?_⟩
  have b1 : Below w.heap.size w wa := ((Below.refl _ _).alloc (Nat.le_refl _) _).trans (hb.mono (by simp))
  have b2 : Below w.heap.size w wc := Below.trans (by repeat (first | (with_reducible exact b1) | (with_reducible apply below_alloc) | (with_reducible apply pw_below_drewN) | (with_reducible refine Below.setCell ?_ (by simp; omega) _))) (hb2.mono (by simp; omega))
  repeat (first | (with_reducible exact b2) | (with_reducible apply below_alloc) | (with_reducible apply pw_below_drewN) | (with_reducible refine Below.setCell ?_ (by simp; try omega) _))
theorem says_8 (op a1 : Int) (w : World) (n : ByteArray) (mk mt : Int) (w0 : 0 ≤ a1) (w1 : a1 < 4294967296) (hr : mezzanineref09_RowOf.f op = some (n, mk, mt, 82)) :
    Calls Try.prog 23 #[.int .i64 op, .int .u32 a1] w fun e w' => e = .returned (.agg #[.int .i64 op, .int .i64 (a1 / 128 % 32), .int .i64 (a1 / 32768 % 32), .int .i64 (a1 / 1048576 % 32), .int .i64 0, .int .i64 0, .bool false, .bool false]) ∧ Below w.heap.size w w' := by
  have hu24 := Try.underlying24
  have hu61 := Try.underlying61
  have R0 := Aside0.mk hr
  clear hr
  have F11 := Aside0.mk (rfield_at a1 w0 w1 11 7 7 5 (by decide) (by decide) (by decide) (by decide) 40 (by decide))
  have d11a : 0 ≤ a1 / 2 ^ 7 % 2 ^ 5 := by omega
  have d11b : a1 / 2 ^ 7 % 2 ^ 5 < 32 := by omega
  have F19 := Aside0.mk (rfield_at a1 w0 w1 19 15 15 5 (by decide) (by decide) (by decide) (by decide) 40 (by decide))
  have d19a : 0 ≤ a1 / 2 ^ 15 % 2 ^ 5 := by omega
  have d19b : a1 / 2 ^ 15 % 2 ^ 5 < 32 := by omega
  have F24 := Aside0.mk (rfield_at a1 w0 w1 24 20 20 5 (by decide) (by decide) (by decide) (by decide) 40 (by decide))
  have d24a : 0 ≤ a1 / 2 ^ 20 % 2 ^ 5 := by omega
  have d24b : a1 / 2 ^ 20 % 2 ^ 5 < 32 := by omega
  have Hrd := Aside0.mk (show mezzanineref09_has.f 30 82 ⟨#[85, 74, 73, 72, 87, 82, 76, 65, 67, 90, 86]⟩ = some true from has_rd 8 (by decide) (by decide) 30 (by decide))
  have Ha := Aside0.mk (show mezzanineref09_has.f 30 82 ⟨#[73, 72, 87, 66, 83, 70, 82, 76, 65, 67, 86]⟩ = some true from has_a 8 (by decide) (by decide) 30 (by decide))
  have Hb := Aside0.mk (show mezzanineref09_has.f 30 82 ⟨#[66, 83, 70, 82, 65]⟩ = some true from has_b 8 (by decide) (by decide) 30 (by decide))
  have Hc := Aside0.mk (show mezzanineref09_has.f 30 82 ⟨#[67, 90]⟩ = some false from has_c 8 (by decide) (by decide) 30 (by decide))
  have Ho := Aside0.mk (show mezzanineref09_has.f 30 82 ⟨#[76, 65]⟩ = some false from has_o 8 (by decide) (by decide) 30 (by decide))
  have HF := Aside0.mk (show mezzanineref09_Form.f 82 = some 0 from form_at 8 (by decide) (by decide))
  go_enter Try.func23, Try.ntmps23
  go_wp2_with (first
    | (go_at_call 22; ((with_reducible refine (mezzanineref09_RowOf.calls op n mk mt 82 _ R0.out).mono ?_); rintro e wa ⟨rfl, hb⟩; obtain ⟨hc, hf⟩ := bcell0 hb; have hz := hb.size; have hs1 : w.heap.size < wa.heap.size := (by have := hb.size; simp at this; omega); have hs2 : w.heap.size < wa.heap.size + 1 := (by omega); have hs3 : w.heap.size < wa.heap.size + 1 + 1 := (by omega)))
    | (go_at_call 35; ((with_reducible refine (mezzanineref08_Field.calls 40 a1 11 7 _ _ F11.out).mono ?_); rintro e wb ⟨rfl, ⟨⟨m0, rfl⟩⟩⟩))
    | (go_at_call 35; ((with_reducible refine (mezzanineref08_Field.calls 40 a1 19 15 _ _ F19.out).mono ?_); rintro e wb ⟨rfl, ⟨⟨m0, rfl⟩⟩⟩))
    | (go_at_call 35; ((with_reducible refine (mezzanineref08_Field.calls 40 a1 24 20 _ _ F24.out).mono ?_); rintro e wb ⟨rfl, ⟨⟨m0, rfl⟩⟩⟩))
    | (go_at_call 34; ((with_reducible refine (mezzanineref09_has.calls 30 82 ⟨#[85, 74, 73, 72, 87, 82, 76, 65, 67, 90, 86]⟩ true _ Hrd.out).mono ?_); rintro e wb ⟨rfl, ⟨⟨m0, rfl⟩⟩⟩))
    | (go_at_call 34; ((with_reducible refine (mezzanineref09_has.calls 30 82 ⟨#[73, 72, 87, 66, 83, 70, 82, 76, 65, 67, 86]⟩ true _ Ha.out).mono ?_); rintro e wb ⟨rfl, ⟨⟨m0, rfl⟩⟩⟩))
    | (go_at_call 34; ((with_reducible refine (mezzanineref09_has.calls 30 82 ⟨#[66, 83, 70, 82, 65]⟩ true _ Hb.out).mono ?_); rintro e wb ⟨rfl, ⟨⟨m0, rfl⟩⟩⟩))
    | (go_at_call 34; ((with_reducible refine (mezzanineref09_has.calls 30 82 ⟨#[67, 90]⟩ false _ Hc.out).mono ?_); rintro e wb ⟨rfl, ⟨⟨m0, rfl⟩⟩⟩))
    | (go_at_call 34; ((with_reducible refine (mezzanineref09_has.calls 30 82 ⟨#[76, 65]⟩ false _ Ho.out).mono ?_); rintro e wb ⟨rfl, ⟨⟨m0, rfl⟩⟩⟩))
    | (go_at_call 28; ((with_reducible refine (mezzanineref09_Form.calls 82 0 _ HF.out).mono ?_); rintro e wc ⟨rfl, hd⟩; have hb2 := hd.below; clear hd; obtain ⟨hc2, hf2⟩ := bcell0 hb2; have hz2 := hb2.size)))
  have q0 := hc2 w.heap.size 0 (by simp; try omega)
  have q1 := hc2 w.heap.size 1 (by simp; try omega)
  have q2 := hc2 w.heap.size 2 (by simp; try omega)
  have q3 := hc2 w.heap.size 3 (by simp; try omega)
  have q4 := hc2 w.heap.size 4 (by simp; try omega)
  have q5 := hc2 w.heap.size 5 (by simp; try omega)
  have q6 := hc2 w.heap.size 6 (by simp; try omega)
  have q7 := hc2 w.heap.size 7 (by simp; try omega)
  have hne : wa.heap.size + 1 ≠ w.heap.size := by omega
  have hne2 : wa.heap.size ≠ w.heap.size := by omega
  simp [hc, hs1, hs2, hs3, hne, hne2, go_sem] at q0 q1 q2 q3 q4 q5 q6 q7
  refine bodyPost_ret (v := .agg #[.int .i64 op, .int .i64 (a1 / 128 % 32), .int .i64 (a1 / 32768 % 32), .int .i64 (a1 / 1048576 % 32), .int .i64 0, .int .i64 0, .bool false, .bool false]) (by simp [results, Try.results23, go_sem, q0, q1, q2, q3, q4, q5, q6, q7, hne, hne2, hs1, hs2, hs3]) rfl ⟨rfl, ?_⟩
  have b1 : Below w.heap.size w wa := ((Below.refl _ _).alloc (Nat.le_refl _) _).trans (hb.mono (by simp))
  have b2 : Below w.heap.size w wc := Below.trans (by repeat (first | (with_reducible exact b1) | (with_reducible apply below_alloc) | (with_reducible apply pw_below_drewN) | (with_reducible refine Below.setCell ?_ (by simp; omega) _))) (hb2.mono (by simp; omega))
  repeat (first | (with_reducible exact b2) | (with_reducible apply below_alloc) | (with_reducible apply pw_below_drewN) | (with_reducible refine Below.setCell ?_ (by simp; try omega) _))
theorem says_9 (op a1 : Int) (w : World) (n : ByteArray) (mk mt : Int) (w0 : 0 ≤ a1) (w1 : a1 < 4294967296) (hr : mezzanineref09_RowOf.f op = some (n, mk, mt, 76)) :
    Calls Try.prog 23 #[.int .i64 op, .int .u32 a1] w fun e w' => e = .returned (.agg #[.int .i64 op, .int .i64 (a1 / 128 % 32), .int .i64 (a1 / 32768 % 32), .int .i64 0, .int .i64 0, .int .i64 0, .bool (a1 / 67108864 % 2 == 1), .bool (a1 / 33554432 % 2 == 1)]) ∧ Below w.heap.size w w' := by
  have hu24 := Try.underlying24
  have hu61 := Try.underlying61
  have R0 := Aside0.mk hr
  clear hr
  have F11 := Aside0.mk (rfield_at a1 w0 w1 11 7 7 5 (by decide) (by decide) (by decide) (by decide) 40 (by decide))
  have d11a : 0 ≤ a1 / 2 ^ 7 % 2 ^ 5 := by omega
  have d11b : a1 / 2 ^ 7 % 2 ^ 5 < 32 := by omega
  have F19 := Aside0.mk (rfield_at a1 w0 w1 19 15 15 5 (by decide) (by decide) (by decide) (by decide) 40 (by decide))
  have d19a : 0 ≤ a1 / 2 ^ 15 % 2 ^ 5 := by omega
  have d19b : a1 / 2 ^ 15 % 2 ^ 5 < 32 := by omega
  have F26 := Aside0.mk (rfield_at a1 w0 w1 26 26 26 1 (by decide) (by decide) (by decide) (by decide) 40 (by decide))
  have d26a : 0 ≤ a1 / 2 ^ 26 % 2 ^ 1 := by omega
  have d26b : a1 / 2 ^ 26 % 2 ^ 1 < 2 := by omega
  have F25 := Aside0.mk (rfield_at a1 w0 w1 25 25 25 1 (by decide) (by decide) (by decide) (by decide) 40 (by decide))
  have d25a : 0 ≤ a1 / 2 ^ 25 % 2 ^ 1 := by omega
  have d25b : a1 / 2 ^ 25 % 2 ^ 1 < 2 := by omega
  have Hrd := Aside0.mk (show mezzanineref09_has.f 30 76 ⟨#[85, 74, 73, 72, 87, 82, 76, 65, 67, 90, 86]⟩ = some true from has_rd 9 (by decide) (by decide) 30 (by decide))
  have Ha := Aside0.mk (show mezzanineref09_has.f 30 76 ⟨#[73, 72, 87, 66, 83, 70, 82, 76, 65, 67, 86]⟩ = some true from has_a 9 (by decide) (by decide) 30 (by decide))
  have Hb := Aside0.mk (show mezzanineref09_has.f 30 76 ⟨#[66, 83, 70, 82, 65]⟩ = some false from has_b 9 (by decide) (by decide) 30 (by decide))
  have Hc := Aside0.mk (show mezzanineref09_has.f 30 76 ⟨#[67, 90]⟩ = some false from has_c 9 (by decide) (by decide) 30 (by decide))
  have Ho := Aside0.mk (show mezzanineref09_has.f 30 76 ⟨#[76, 65]⟩ = some true from has_o 9 (by decide) (by decide) 30 (by decide))
  have HF := Aside0.mk (show mezzanineref09_Form.f 76 = some 0 from form_at 9 (by decide) (by decide))
  go_enter Try.func23, Try.ntmps23
  go_wp2_with (first
    | (go_at_call 22; ((with_reducible refine (mezzanineref09_RowOf.calls op n mk mt 76 _ R0.out).mono ?_); rintro e wa ⟨rfl, hb⟩; obtain ⟨hc, hf⟩ := bcell0 hb; have hz := hb.size; have hs1 : w.heap.size < wa.heap.size := (by have := hb.size; simp at this; omega); have hs2 : w.heap.size < wa.heap.size + 1 := (by omega); have hs3 : w.heap.size < wa.heap.size + 1 + 1 := (by omega)))
    | (go_at_call 35; ((with_reducible refine (mezzanineref08_Field.calls 40 a1 11 7 _ _ F11.out).mono ?_); rintro e wb ⟨rfl, ⟨⟨m0, rfl⟩⟩⟩))
    | (go_at_call 35; ((with_reducible refine (mezzanineref08_Field.calls 40 a1 19 15 _ _ F19.out).mono ?_); rintro e wb ⟨rfl, ⟨⟨m0, rfl⟩⟩⟩))
    | (go_at_call 35; ((with_reducible refine (mezzanineref08_Field.calls 40 a1 26 26 _ _ F26.out).mono ?_); rintro e wb ⟨rfl, ⟨⟨m0, rfl⟩⟩⟩))
    | (go_at_call 35; ((with_reducible refine (mezzanineref08_Field.calls 40 a1 25 25 _ _ F25.out).mono ?_); rintro e wb ⟨rfl, ⟨⟨m0, rfl⟩⟩⟩))
    | (go_at_call 34; ((with_reducible refine (mezzanineref09_has.calls 30 76 ⟨#[85, 74, 73, 72, 87, 82, 76, 65, 67, 90, 86]⟩ true _ Hrd.out).mono ?_); rintro e wb ⟨rfl, ⟨⟨m0, rfl⟩⟩⟩))
    | (go_at_call 34; ((with_reducible refine (mezzanineref09_has.calls 30 76 ⟨#[73, 72, 87, 66, 83, 70, 82, 76, 65, 67, 86]⟩ true _ Ha.out).mono ?_); rintro e wb ⟨rfl, ⟨⟨m0, rfl⟩⟩⟩))
    | (go_at_call 34; ((with_reducible refine (mezzanineref09_has.calls 30 76 ⟨#[66, 83, 70, 82, 65]⟩ false _ Hb.out).mono ?_); rintro e wb ⟨rfl, ⟨⟨m0, rfl⟩⟩⟩))
    | (go_at_call 34; ((with_reducible refine (mezzanineref09_has.calls 30 76 ⟨#[67, 90]⟩ false _ Hc.out).mono ?_); rintro e wb ⟨rfl, ⟨⟨m0, rfl⟩⟩⟩))
    | (go_at_call 34; ((with_reducible refine (mezzanineref09_has.calls 30 76 ⟨#[76, 65]⟩ true _ Ho.out).mono ?_); rintro e wb ⟨rfl, ⟨⟨m0, rfl⟩⟩⟩))
    | (go_at_call 28; ((with_reducible refine (mezzanineref09_Form.calls 76 0 _ HF.out).mono ?_); rintro e wc ⟨rfl, hd⟩; have hb2 := hd.below; clear hd; obtain ⟨hc2, hf2⟩ := bcell0 hb2; have hz2 := hb2.size)))
  have q0 := hc2 w.heap.size 0 (by simp; try omega)
  have q1 := hc2 w.heap.size 1 (by simp; try omega)
  have q2 := hc2 w.heap.size 2 (by simp; try omega)
  have q3 := hc2 w.heap.size 3 (by simp; try omega)
  have q4 := hc2 w.heap.size 4 (by simp; try omega)
  have q5 := hc2 w.heap.size 5 (by simp; try omega)
  have q6 := hc2 w.heap.size 6 (by simp; try omega)
  have q7 := hc2 w.heap.size 7 (by simp; try omega)
  have hne : wa.heap.size + 1 ≠ w.heap.size := by omega
  have hne2 : wa.heap.size ≠ w.heap.size := by omega
  simp [hc, hs1, hs2, hs3, hne, hne2, go_sem] at q0 q1 q2 q3 q4 q5 q6 q7
  refine bodyPost_ret (v := .agg #[.int .i64 op, .int .i64 (a1 / 128 % 32), .int .i64 (a1 / 32768 % 32), .int .i64 0, .int .i64 0, .int .i64 0, .bool (a1 / 67108864 % 2 == 1), .bool (a1 / 33554432 % 2 == 1)]) (by simp [results, Try.results23, go_sem, q0, q1, q2, q3, q4, q5, q6, q7, hne, hne2, hs1, hs2, hs3]) rfl ⟨rfl, ?_⟩
  have b1 : Below w.heap.size w wa := ((Below.refl _ _).alloc (Nat.le_refl _) _).trans (hb.mono (by simp))
  have b2 : Below w.heap.size w wc := Below.trans (by repeat (first | (with_reducible exact b1) | (with_reducible apply below_alloc) | (with_reducible apply pw_below_drewN) | (with_reducible refine Below.setCell ?_ (by simp; omega) _))) (hb2.mono (by simp; omega))
  repeat (first | (with_reducible exact b2) | (with_reducible apply below_alloc) | (with_reducible apply pw_below_drewN) | (with_reducible refine Below.setCell ?_ (by simp; try omega) _))
theorem says_10 (op a1 : Int) (w : World) (n : ByteArray) (mk mt : Int) (w0 : 0 ≤ a1) (w1 : a1 < 4294967296) (hr : mezzanineref09_RowOf.f op = some (n, mk, mt, 65)) :
    Calls Try.prog 23 #[.int .i64 op, .int .u32 a1] w fun e w' => e = .returned (.agg #[.int .i64 op, .int .i64 (a1 / 128 % 32), .int .i64 (a1 / 32768 % 32), .int .i64 (a1 / 1048576 % 32), .int .i64 0, .int .i64 0, .bool (a1 / 67108864 % 2 == 1), .bool (a1 / 33554432 % 2 == 1)]) ∧ Below w.heap.size w w' := by
  have hu24 := Try.underlying24
  have hu61 := Try.underlying61
  have R0 := Aside0.mk hr
  clear hr
  have F11 := Aside0.mk (rfield_at a1 w0 w1 11 7 7 5 (by decide) (by decide) (by decide) (by decide) 40 (by decide))
  have d11a : 0 ≤ a1 / 2 ^ 7 % 2 ^ 5 := by omega
  have d11b : a1 / 2 ^ 7 % 2 ^ 5 < 32 := by omega
  have F19 := Aside0.mk (rfield_at a1 w0 w1 19 15 15 5 (by decide) (by decide) (by decide) (by decide) 40 (by decide))
  have d19a : 0 ≤ a1 / 2 ^ 15 % 2 ^ 5 := by omega
  have d19b : a1 / 2 ^ 15 % 2 ^ 5 < 32 := by omega
  have F24 := Aside0.mk (rfield_at a1 w0 w1 24 20 20 5 (by decide) (by decide) (by decide) (by decide) 40 (by decide))
  have d24a : 0 ≤ a1 / 2 ^ 20 % 2 ^ 5 := by omega
  have d24b : a1 / 2 ^ 20 % 2 ^ 5 < 32 := by omega
  have F26 := Aside0.mk (rfield_at a1 w0 w1 26 26 26 1 (by decide) (by decide) (by decide) (by decide) 40 (by decide))
  have d26a : 0 ≤ a1 / 2 ^ 26 % 2 ^ 1 := by omega
  have d26b : a1 / 2 ^ 26 % 2 ^ 1 < 2 := by omega
  have F25 := Aside0.mk (rfield_at a1 w0 w1 25 25 25 1 (by decide) (by decide) (by decide) (by decide) 40 (by decide))
  have d25a : 0 ≤ a1 / 2 ^ 25 % 2 ^ 1 := by omega
  have d25b : a1 / 2 ^ 25 % 2 ^ 1 < 2 := by omega
  have Hrd := Aside0.mk (show mezzanineref09_has.f 30 65 ⟨#[85, 74, 73, 72, 87, 82, 76, 65, 67, 90, 86]⟩ = some true from has_rd 10 (by decide) (by decide) 30 (by decide))
  have Ha := Aside0.mk (show mezzanineref09_has.f 30 65 ⟨#[73, 72, 87, 66, 83, 70, 82, 76, 65, 67, 86]⟩ = some true from has_a 10 (by decide) (by decide) 30 (by decide))
  have Hb := Aside0.mk (show mezzanineref09_has.f 30 65 ⟨#[66, 83, 70, 82, 65]⟩ = some true from has_b 10 (by decide) (by decide) 30 (by decide))
  have Hc := Aside0.mk (show mezzanineref09_has.f 30 65 ⟨#[67, 90]⟩ = some false from has_c 10 (by decide) (by decide) 30 (by decide))
  have Ho := Aside0.mk (show mezzanineref09_has.f 30 65 ⟨#[76, 65]⟩ = some true from has_o 10 (by decide) (by decide) 30 (by decide))
  have HF := Aside0.mk (show mezzanineref09_Form.f 65 = some 0 from form_at 10 (by decide) (by decide))
  go_enter Try.func23, Try.ntmps23
  go_wp2_with (first
    | (go_at_call 22; ((with_reducible refine (mezzanineref09_RowOf.calls op n mk mt 65 _ R0.out).mono ?_); rintro e wa ⟨rfl, hb⟩; obtain ⟨hc, hf⟩ := bcell0 hb; have hz := hb.size; have hs1 : w.heap.size < wa.heap.size := (by have := hb.size; simp at this; omega); have hs2 : w.heap.size < wa.heap.size + 1 := (by omega); have hs3 : w.heap.size < wa.heap.size + 1 + 1 := (by omega)))
    | (go_at_call 35; ((with_reducible refine (mezzanineref08_Field.calls 40 a1 11 7 _ _ F11.out).mono ?_); rintro e wb ⟨rfl, ⟨⟨m0, rfl⟩⟩⟩))
    | (go_at_call 35; ((with_reducible refine (mezzanineref08_Field.calls 40 a1 19 15 _ _ F19.out).mono ?_); rintro e wb ⟨rfl, ⟨⟨m0, rfl⟩⟩⟩))
    | (go_at_call 35; ((with_reducible refine (mezzanineref08_Field.calls 40 a1 24 20 _ _ F24.out).mono ?_); rintro e wb ⟨rfl, ⟨⟨m0, rfl⟩⟩⟩))
    | (go_at_call 35; ((with_reducible refine (mezzanineref08_Field.calls 40 a1 26 26 _ _ F26.out).mono ?_); rintro e wb ⟨rfl, ⟨⟨m0, rfl⟩⟩⟩))
    | (go_at_call 35; ((with_reducible refine (mezzanineref08_Field.calls 40 a1 25 25 _ _ F25.out).mono ?_); rintro e wb ⟨rfl, ⟨⟨m0, rfl⟩⟩⟩))
    | (go_at_call 34; ((with_reducible refine (mezzanineref09_has.calls 30 65 ⟨#[85, 74, 73, 72, 87, 82, 76, 65, 67, 90, 86]⟩ true _ Hrd.out).mono ?_); rintro e wb ⟨rfl, ⟨⟨m0, rfl⟩⟩⟩))
    | (go_at_call 34; ((with_reducible refine (mezzanineref09_has.calls 30 65 ⟨#[73, 72, 87, 66, 83, 70, 82, 76, 65, 67, 86]⟩ true _ Ha.out).mono ?_); rintro e wb ⟨rfl, ⟨⟨m0, rfl⟩⟩⟩))
    | (go_at_call 34; ((with_reducible refine (mezzanineref09_has.calls 30 65 ⟨#[66, 83, 70, 82, 65]⟩ true _ Hb.out).mono ?_); rintro e wb ⟨rfl, ⟨⟨m0, rfl⟩⟩⟩))
    | (go_at_call 34; ((with_reducible refine (mezzanineref09_has.calls 30 65 ⟨#[67, 90]⟩ false _ Hc.out).mono ?_); rintro e wb ⟨rfl, ⟨⟨m0, rfl⟩⟩⟩))
    | (go_at_call 34; ((with_reducible refine (mezzanineref09_has.calls 30 65 ⟨#[76, 65]⟩ true _ Ho.out).mono ?_); rintro e wb ⟨rfl, ⟨⟨m0, rfl⟩⟩⟩))
    | (go_at_call 28; ((with_reducible refine (mezzanineref09_Form.calls 65 0 _ HF.out).mono ?_); rintro e wc ⟨rfl, hd⟩; have hb2 := hd.below; clear hd; obtain ⟨hc2, hf2⟩ := bcell0 hb2; have hz2 := hb2.size)))
  have q0 := hc2 w.heap.size 0 (by simp; try omega)
  have q1 := hc2 w.heap.size 1 (by simp; try omega)
  have q2 := hc2 w.heap.size 2 (by simp; try omega)
  have q3 := hc2 w.heap.size 3 (by simp; try omega)
  have q4 := hc2 w.heap.size 4 (by simp; try omega)
  have q5 := hc2 w.heap.size 5 (by simp; try omega)
  have q6 := hc2 w.heap.size 6 (by simp; try omega)
  have q7 := hc2 w.heap.size 7 (by simp; try omega)
  have hne : wa.heap.size + 1 ≠ w.heap.size := by omega
  have hne2 : wa.heap.size ≠ w.heap.size := by omega
  simp [hc, hs1, hs2, hs3, hne, hne2, go_sem] at q0 q1 q2 q3 q4 q5 q6 q7
  refine bodyPost_ret (v := .agg #[.int .i64 op, .int .i64 (a1 / 128 % 32), .int .i64 (a1 / 32768 % 32), .int .i64 (a1 / 1048576 % 32), .int .i64 0, .int .i64 0, .bool (a1 / 67108864 % 2 == 1), .bool (a1 / 33554432 % 2 == 1)]) (by simp [results, Try.results23, go_sem, q0, q1, q2, q3, q4, q5, q6, q7, hne, hne2, hs1, hs2, hs3]) rfl ⟨rfl, ?_⟩
  have b1 : Below w.heap.size w wa := ((Below.refl _ _).alloc (Nat.le_refl _) _).trans (hb.mono (by simp))
  have b2 : Below w.heap.size w wc := Below.trans (by repeat (first | (with_reducible exact b1) | (with_reducible apply below_alloc) | (with_reducible apply pw_below_drewN) | (with_reducible refine Below.setCell ?_ (by simp; omega) _))) (hb2.mono (by simp; omega))
  repeat (first | (with_reducible exact b2) | (with_reducible apply below_alloc) | (with_reducible apply pw_below_drewN) | (with_reducible refine Below.setCell ?_ (by simp; try omega) _))
end Go.Proofs.Ytknkfimpflodeaa.P
