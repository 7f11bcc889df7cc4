/- asm's item with one instruction: put. -/
import Derived.Test.YtknkfimpflodeaaGreatDoorA11
namespace Go.Proofs.YtknkfimpflodeaaGreatDoor.P
open Go.RowKit Go.Proofs.YtknkfimpflodeaaGreatDoorW.PrintWords Go.Proofs.YtknkfimpflodeaaGreatDoorW.PrintLast Go.Proofs.YtknkfimpflodeaaGreatDoorW.PrintMore
set_option linter.unusedVariables false
set_option linter.unusedSimpArgs false
set_option maxHeartbeats 8000000 in
set_option maxRecDepth 100000 in
theorem put1_calls (line : Int) (b : Nat) (lbl : BL) (i : Ins) (w : World) (hI : InsB w b i) :
  Calls Tryz.prog 59 #[itemV line b lbl] w fun e w' => ∃ v, e = .returned v ∧ w'.ownsRow w.heap.size 39 1 v 1 [.int .u32 (encI i).1] ∧ Below w.heap.size w w' := by
 obtain ⟨s1, d1, d2, d3, d4, d5, s2, s3⟩ := i
 have he := encode_says (s1, d1, d2, d3, d4, d5, s2, s3)
 unfold insV at he
 dsimp only at he
 generalize encI (s1, d1, d2, d3, d4, d5, s2, s3) = EE at he ⊢
 obtain ⟨e1, e2⟩ := EE
 dsimp only at he ⊢
 have he' := Aside0.mk he
 have gb := blk_lt hI
 have I0 : Aside0 (InsB (w.alloc (.cells #[.int .i64 line, .slice (some ⟨b, 0, none⟩) 1 1, sv lbl, .bool false, .int .u32 0, .bool false] 93)) b (s1, d1, d2, d3, d4, d5, s2, s3)) := ⟨blk_alloc hI _⟩
 have B0 := Aside0.mk (below_alloc (Below.refl w.heap.size w) (.cells #[.int .i64 line, .slice (some ⟨b, 0, none⟩) 1 1, sv lbl, .bool false, .int .u32 0, .bool false] 93))
 clear he hI; unfold itemV
 go_enter Tryz.func59, Tryz.ntmps59
 go_wp2_with (fail)
 go_loopg [3, 16] 1 (fun kq v3 v16 wr => ∃ (j : Nat), j + kq = 1 ∧ v16 = .int .i64 (j : Int) ∧ (j = 0 → v3 = .slice none 0 0) ∧ Aside0 (wr.ownsRow w.heap.size 39 1 v3 j (if j = 0 then [] else [.int .u32 e1])) ∧ Aside0 (InsB wr b (s1, d1, d2, d3, d4, d5, s2, s3)) ∧ Aside0 (Below w.heap.size w wr))
 case atStart => exact ⟨0, rfl, rfl, fun _ => rfl, ⟨⟨rfl, .inl ⟨rfl, rfl⟩⟩⟩, I0, B0⟩
 case round =>
  clear I0 B0; obtain ⟨j, hj, rfl, h0, HO, I1, B1⟩ := hrel
  cases gk with
  | zero =>
   obtain rfl : j = 1 := by omega
   clear h0 hj; go_wp2_with (fail)
   go_ret
   exact ⟨_, rfl, HO.out, B1.out⟩
  | succ gk =>
   obtain rfl : j = 0 := by omega
   obtain rfl := h0 rfl
   have ci0 := blk_cell I1.out 0; have ci1 := blk_cell I1.out 1; have ci2 := blk_cell I1.out 2; have ci3 := blk_cell I1.out 3; have ci4 := blk_cell I1.out 4; have ci5 := blk_cell I1.out 5; have ci6 := blk_cell I1.out 6; have ci7 := blk_cell I1.out 7
   simp at ci0 ci1 ci2 ci3 ci4 ci5 ci6 ci7
   have hj' := Aside0.mk hj
   clear hj; go_wp2_with (fail)
   refine (he'.out _).mono ?_
   rintro e w2 ⟨rfl, hb⟩
   have I2 : Aside0 (InsB w2 b (s1, d1, d2, d3, d4, d5, s2, s3)) := ⟨blk_below (blk_alloc I1.out _) hb⟩
   have B2 := Aside0.mk (below_step (below_alloc B1.out _) hb)
   clear hb ci0 ci1 ci2 ci3 ci4 ci5 ci6 ci7; go_wp2_with ((with_reducible refine gate_builtin (b := .append) (xs := #[.tmp 25, .tmp 27]) rfl ?_); at_builtin; refine Aside0.out ?_)
   refine ⟨?_⟩
   refine print_append_cells (w0 := w) w.heap.size rfl (.tmp 25) (.tmp 27) 34 39 (.int .u32 0) 1 4 rfl Tryz.underlying34 (by kernel_rfl) rfl (by decide) (by decide) (.slice none 0 0) 0 [] [.int .u32 e1] rfl rfl rfl (by simp [Value.oneCell']) ⟨rfl, .inl ⟨rfl, rfl⟩⟩ B2.out B2.out.size (by decide) ?_
   intro v1 w3 hown hb3 hg hat
   have O3 := Aside0.mk hown
   have B3 := Aside0.mk hb3
   have I3 : Aside0 (InsB w3 b (s1, d1, d2, d3, d4, d5, s2, s3)) := ⟨(hg.block b (blk_lt I2.out) (by simp [Value.ownBlock])).trans I2.out⟩
   clear hown hb3 hg hat; go_wp2_with (fail)
   go_roundg gk
   case measure => omega
   case rel => exact ⟨1, by have := hj'.out; omega, rfl, fun h => absurd h (by decide), O3, I3, B3⟩
end Go.Proofs.YtknkfimpflodeaaGreatDoor.P
