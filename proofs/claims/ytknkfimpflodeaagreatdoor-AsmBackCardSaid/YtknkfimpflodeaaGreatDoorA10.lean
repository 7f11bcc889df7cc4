/- asm's said, a line that is none of li, la, .word: walked. -/
import Derived.Test.YtknkfimpflodeaaGreatDoorA8
import Derived.Test.YtknkfimpflodeaaGreatDoorA9
namespace Go.Proofs.YtknkfimpflodeaaGreatDoor.P
open Go.RowKit Go.Proofs.YtknkfimpflodeaaGreatDoorW.PrintWords Go.Proofs.YtknkfimpflodeaaGreatDoorW.PrintLast Go.Proofs.YtknkfimpflodeaaGreatDoorW.PrintMore
set_option linter.unusedVariables false
set_option linter.unusedSimpArgs false
set_option maxHeartbeats 8000000 in
set_option maxRecDepth 100000 in
theorem said_read (l : BL) (hl : l.length < 4294967281) (h1 : ((splitS l [108, 105]).2 && decide (((splitS l [108, 105]).1.length : Int) = 2)) = false) (h2 : ((splitS l [108, 97]).2 && decide (((splitS l [108, 97]).1.length : Int) = 2)) = false)
  (h3 : ((splitS l [46, 119, 111, 114, 100]).2 && decide (((splitS l [46, 119, 111, 114, 100]).1.length : Int) = 1)) = false) (i : Ins) (lbl : BL) (hR : readS l = some (i, lbl)) (w : World) (hE : Env w)
  (hrd : ∀ W, Env W → Calls Tryz.prog 72 #[sv l] W fun e w' => e = .returned (readV l) ∧ Below W.heap.size W w') :
  Calls Tryz.prog 56 #[sv l] w fun e w' => ∃ b : Nat, e = .returned (.tuple #[.agg #[.int .i64 0, .slice (some ⟨b, 0, none⟩) 1 1, sv lbl, .bool false, .int .u32 0, .bool false], .bool true]) ∧ w.heap.size ≤ b ∧ b < w'.heap.size ∧ InsB w' b i ∧ Below w.heap.size w w' := by
 have hs1 := fun W h => split_calls l [108, 105] 2 hl (by simp) W h
 have hs2 := fun W h => split_calls l [108, 97] 2 hl (by simp) W h
 have hs3 := fun W h => split_calls l [46, 119, 111, 114, 100] 1 hl (by simp) W h
 rw [h1] at hs1
 rw [h2] at hs2
 rw [h3] at hs3
 unfold readV at hrd
 rw [hR] at hrd
 dsimp only at hrd
 unfold insV at hrd
 obtain ⟨s1, d1, d2, d3, d4, d5, s2, s3⟩ := i
 dsimp only at hrd
 have hE' := Aside0.mk hE
 have hs1' := Aside0.mk hs1
 have hs2' := Aside0.mk hs2
 have hs3' := Aside0.mk hs3
 have hrd' := Aside0.mk hrd
 clear hE hs1 hs2 hs3 hrd h1 h2 h3 hR hl; go_enter Tryz.func56, Tryz.ntmps56
 go_wp2_with (fail)
 refine (hs1'.out _ (hE'.out.alloc _)).mono ?_
 rintro e w1 ⟨rfl, hw⟩
 have I1 := Aside0.mk (blk_alloc (heap_alloc_new w (.cells #[.int .i64 0, .slice none 0 0, .string ⟨#[]⟩, .bool false, .int .u32 0, .bool false] 93)) (.cells (List.map sv (splitS l [108, 105]).fst).toArray 9))
 have B1 := Aside0.mk (below_alloc (below_alloc (Below.refl w.heap.size w) (.cells #[.int .i64 0, .slice none 0 0, .string ⟨#[]⟩, .bool false, .int .u32 0, .bool false] 93)) (.cells (List.map sv (splitS l [108, 105]).fst).toArray 9))
 rw [← hw] at I1 B1
 clear hw; go_wp2_with (fail)
 refine (hs2'.out _ (hE'.out.below B1.out)).mono ?_
 rintro e w2 ⟨rfl, hw⟩
 have I2 := Aside0.mk (blk_alloc I1.out (.cells (List.map sv (splitS l [108, 97]).fst).toArray 9))
 have B2 := Aside0.mk (below_alloc B1.out (.cells (List.map sv (splitS l [108, 97]).fst).toArray 9))
 rw [← hw] at I2 B2
 clear hw; go_wp2_with (fail)
 refine (hs3'.out _ (hE'.out.below B2.out)).mono ?_
 rintro e w3 ⟨rfl, hw⟩
 have I3 := Aside0.mk (blk_alloc I2.out (.cells (List.map sv (splitS l [46, 119, 111, 114, 100]).fst).toArray 9))
 have B3 := Aside0.mk (below_alloc B2.out (.cells (List.map sv (splitS l [46, 119, 111, 114, 100]).fst).toArray 9))
 rw [← hw] at I3 B3
 clear hw I1 I2 B1 B2; go_wp2_with (fail)
 refine (hrd'.out _ (hE'.out.below B3.out)).mono ?_
 rintro e w4 ⟨rfl, hb⟩
 have I4 := Aside0.mk (blk_below I3.out hb)
 have B4 := Aside0.mk (below_step B3.out hb)
 clear hb I3 B3; have gi : ¬ w.heap.size = w4.heap.size := by have := blk_lt I4.out; omega
 have cj0 : ∀ o o', ((w4.alloc o).alloc o').cell? ⟨w.heap.size, 0, none⟩ = some (.int .i64 0) := fun o o' => (blk_cell (blk_alloc (blk_alloc I4.out o) o') 0).trans rfl
 have cj1 : ∀ o o', ((w4.alloc o).alloc o').cell? ⟨w.heap.size, 1, none⟩ = some (.slice none 0 0) := fun o o' => (blk_cell (blk_alloc (blk_alloc I4.out o) o') 1).trans rfl
 have cj2 : ∀ o o', ((w4.alloc o).alloc o').cell? ⟨w.heap.size, 2, none⟩ = some (.string ⟨#[]⟩) := fun o o' => (blk_cell (blk_alloc (blk_alloc I4.out o) o') 2).trans rfl
 have cj3 : ∀ o o', ((w4.alloc o).alloc o').cell? ⟨w.heap.size, 3, none⟩ = some (.bool false) := fun o o' => (blk_cell (blk_alloc (blk_alloc I4.out o) o') 3).trans rfl
 have cj4 : ∀ o o', ((w4.alloc o).alloc o').cell? ⟨w.heap.size, 4, none⟩ = some (.int .u32 0) := fun o o' => (blk_cell (blk_alloc (blk_alloc I4.out o) o') 4).trans rfl
 have cj5 : ∀ o o', ((w4.alloc o).alloc o').cell? ⟨w.heap.size, 5, none⟩ = some (.bool false) := fun o o' => (blk_cell (blk_alloc (blk_alloc I4.out o) o') 5).trans rfl
 have fj : ∀ o o' i, ((w4.alloc o).alloc o').frozen? ⟨w.heap.size, i, none⟩ = false := fun o o' i => blk_frozen (blk_alloc (blk_alloc I4.out o) o') i
 have gj : ¬ w4.heap.size + 1 = w.heap.size := by have := blk_lt I4.out; omega
 go_wp2_with (((with_reducible show bodyPost _ _ _ _ _ _); exact bodyPost_ret (results_ct rfl _ _ w.heap.size 93 _ (0, 0) _ rfl (blk_put (blk_put (blk_put (blk_put (blk_put (blk_put (blk_alloc (blk_alloc I4.out _) _) 0 _ rfl) 1 _ rfl) 2 _ rfl) 3 _ rfl) 4 _ rfl) 5 _ rfl) Tryz.underlying93 rfl (by kernel_rfl)) rfl ⟨w4.heap.size + 1, rfl, by have := blk_lt I4.out; omega, by simp, (blk_far (blk_far (blk_far (blk_far (blk_far (blk_far (two_new w4 _ _) gj _) gj _) gj _) gj _) gj _) gj _), (Below.setCell (Below.setCell (Below.setCell (Below.setCell (Below.setCell (Below.setCell (below_alloc (below_alloc B4.out _) _) (Nat.le_refl _) _) (Nat.le_refl _) _) (Nat.le_refl _) _) (Nat.le_refl _) _) (Nat.le_refl _) _) (Nat.le_refl _) _)⟩))
end Go.Proofs.YtknkfimpflodeaaGreatDoor.P
