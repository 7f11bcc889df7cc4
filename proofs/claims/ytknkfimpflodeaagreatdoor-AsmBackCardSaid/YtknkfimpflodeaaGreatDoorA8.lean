/- asm's Parse: walked, over what read says. -/
import Derived.Test.YtknkfimpflodeaaGreatDoorA7
namespace Go.Proofs.YtknkfimpflodeaaGreatDoor.P
open Go.RowKit Go.Proofs.YtknkfimpflodeaaGreatDoorW.PrintWords Go.Proofs.YtknkfimpflodeaaGreatDoorW.PrintLast Go.Proofs.YtknkfimpflodeaaGreatDoorW.PrintMore
set_option linter.unusedVariables false
set_option linter.unusedSimpArgs false
theorem ne_nil (c : UInt8) (t : BL) : ¬ (⟨(c :: t).toArray⟩ : ByteArray) = ⟨#[]⟩ := by
 intro h
 have := congrArg (fun b : ByteArray => b.data.toList) h
 simp at this
set_option maxHeartbeats 8000000 in
set_option maxRecDepth 100000 in
theorem parse_of (l : BL) (w : World) (hE : Env w) (hrd : ∀ W, Env W → Calls Tryz.prog 72 #[sv l] W fun e w' => e = .returned (readV l) ∧ Below W.heap.size W w') :
  Calls Tryz.prog 25 #[sv l] w fun e w' => e = .returned (.tuple #[insV (parseS l).1, .int .i64 (parseS l).2]) ∧ Below w.heap.size w w' := by
 have hu := Tryz.underlying23
 have hE' := Aside0.mk hE
 clear hE; unfold readV at hrd
 unfold parseS
 cases hR : readS l with
 | none =>
  rw [hR] at hrd
  dsimp only at hrd ⊢
  have hrd' := Aside0.mk hrd
  clear hrd hR; unfold insV ins0
  unfold insV ins0 at hrd'
  dsimp only at hrd' ⊢
  go_enter Tryz.func25, Tryz.ntmps25
  go_wp2_with (fail)
  refine (hrd'.out _ (hE'.out.alloc _)).mono ?_
  rintro e w1 ⟨rfl, hb⟩
  have I1 : Aside0 (InsB w1 w.heap.size ins0) := ⟨blk_below (heap_alloc_new w _) hb⟩
  have B1 := Aside0.mk (below_step (below_alloc (Below.refl _ _) _) hb)
  have gi : ¬ w.heap.size = w1.heap.size := by have := blk_lt I1.out; omega
  clear hb; have cj0 : ∀ o, (w1.alloc o).cell? ⟨w.heap.size, 0, none⟩ = some (.int .i64 0) := fun o => (blk_cell (blk_alloc I1.out o) 0).trans rfl
  have cj1 : ∀ o, (w1.alloc o).cell? ⟨w.heap.size, 1, none⟩ = some (.int .i64 0) := fun o => (blk_cell (blk_alloc I1.out o) 1).trans rfl
  have cj2 : ∀ o, (w1.alloc o).cell? ⟨w.heap.size, 2, none⟩ = some (.int .i64 0) := fun o => (blk_cell (blk_alloc I1.out o) 2).trans rfl
  have cj3 : ∀ o, (w1.alloc o).cell? ⟨w.heap.size, 3, none⟩ = some (.int .i64 0) := fun o => (blk_cell (blk_alloc I1.out o) 3).trans rfl
  have cj4 : ∀ o, (w1.alloc o).cell? ⟨w.heap.size, 4, none⟩ = some (.int .i64 0) := fun o => (blk_cell (blk_alloc I1.out o) 4).trans rfl
  have cj5 : ∀ o, (w1.alloc o).cell? ⟨w.heap.size, 5, none⟩ = some (.int .i64 0) := fun o => (blk_cell (blk_alloc I1.out o) 5).trans rfl
  have cj6 : ∀ o, (w1.alloc o).cell? ⟨w.heap.size, 6, none⟩ = some (.bool false) := fun o => (blk_cell (blk_alloc I1.out o) 6).trans rfl
  have cj7 : ∀ o, (w1.alloc o).cell? ⟨w.heap.size, 7, none⟩ = some (.bool false) := fun o => (blk_cell (blk_alloc I1.out o) 7).trans rfl
  have fj : ∀ o i, (w1.alloc o).frozen? ⟨w.heap.size, i, none⟩ = false := fun o i => blk_frozen (blk_alloc I1.out o) i
  go_wp2_with (((with_reducible show bodyPost _ _ _ _ _ _); exact bodyPost_ret (results_ct rfl _ _ w.heap.size 23 _ (0, 0) _ rfl (put8 (blk_alloc I1.out _) rfl _ _ _ _ _ _ _ _) Tryz.underlying23 rfl (by kernel_rfl)) rfl ⟨rfl, bel8 (below_alloc B1.out _) (Nat.le_refl _) _ _ _ _ _ _ _ _⟩))
 | some r =>
  obtain ⟨⟨s1, d1, d2, d3, d4, d5, s2, s3⟩, lbl⟩ := r
  rw [hR] at hrd
  dsimp only at hrd
  have hrd' := Aside0.mk hrd
  clear hrd hR; unfold insV at hrd'
  dsimp only at hrd'
  cases lbl with
  | nil =>
   unfold insV
   dsimp only; go_enter Tryz.func25, Tryz.ntmps25
   go_wp2_with (fail)
   refine (hrd'.out _ (hE'.out.alloc _)).mono ?_
   rintro e w1 ⟨rfl, hb⟩
   have I1 : Aside0 (InsB w1 w.heap.size ins0) := ⟨blk_below (heap_alloc_new w _) hb⟩
   have B1 := Aside0.mk (below_step (below_alloc (Below.refl _ _) _) hb)
   have gi : ¬ w.heap.size = w1.heap.size := by have := blk_lt I1.out; omega
   clear hb; have cj0 : ∀ o, (w1.alloc o).cell? ⟨w.heap.size, 0, none⟩ = some (.int .i64 0) := fun o => (blk_cell (blk_alloc I1.out o) 0).trans rfl
   have cj1 : ∀ o, (w1.alloc o).cell? ⟨w.heap.size, 1, none⟩ = some (.int .i64 0) := fun o => (blk_cell (blk_alloc I1.out o) 1).trans rfl
   have cj2 : ∀ o, (w1.alloc o).cell? ⟨w.heap.size, 2, none⟩ = some (.int .i64 0) := fun o => (blk_cell (blk_alloc I1.out o) 2).trans rfl
   have cj3 : ∀ o, (w1.alloc o).cell? ⟨w.heap.size, 3, none⟩ = some (.int .i64 0) := fun o => (blk_cell (blk_alloc I1.out o) 3).trans rfl
   have cj4 : ∀ o, (w1.alloc o).cell? ⟨w.heap.size, 4, none⟩ = some (.int .i64 0) := fun o => (blk_cell (blk_alloc I1.out o) 4).trans rfl
   have cj5 : ∀ o, (w1.alloc o).cell? ⟨w.heap.size, 5, none⟩ = some (.int .i64 0) := fun o => (blk_cell (blk_alloc I1.out o) 5).trans rfl
   have cj6 : ∀ o, (w1.alloc o).cell? ⟨w.heap.size, 6, none⟩ = some (.bool false) := fun o => (blk_cell (blk_alloc I1.out o) 6).trans rfl
   have cj7 : ∀ o, (w1.alloc o).cell? ⟨w.heap.size, 7, none⟩ = some (.bool false) := fun o => (blk_cell (blk_alloc I1.out o) 7).trans rfl
   have fj : ∀ o i, (w1.alloc o).frozen? ⟨w.heap.size, i, none⟩ = false := fun o i => blk_frozen (blk_alloc I1.out o) i
   go_wp2_with (((with_reducible show bodyPost _ _ _ _ _ _); exact bodyPost_ret (results_ct rfl _ _ w.heap.size 23 _ (0, 0) _ rfl (put8 (blk_alloc I1.out _) rfl _ _ _ _ _ _ _ _) Tryz.underlying23 rfl (by kernel_rfl)) rfl ⟨rfl, bel8 (below_alloc B1.out _) (Nat.le_refl _) _ _ _ _ _ _ _ _⟩))
  | cons c t =>
   have hne := ne_nil c t
   unfold insV ins0
   dsimp only; go_enter Tryz.func25, Tryz.ntmps25
   go_wp2_with (fail)
   refine (hrd'.out _ (hE'.out.alloc _)).mono ?_
   rintro e w1 ⟨rfl, hb⟩
   have I1 : Aside0 (InsB w1 w.heap.size ins0) := ⟨blk_below (heap_alloc_new w _) hb⟩
   have B1 := Aside0.mk (below_step (below_alloc (Below.refl _ _) _) hb)
   have gi : ¬ w.heap.size = w1.heap.size := by have := blk_lt I1.out; omega
   clear hb; have cj0 : ∀ o, (w1.alloc o).cell? ⟨w.heap.size, 0, none⟩ = some (.int .i64 0) := fun o => (blk_cell (blk_alloc I1.out o) 0).trans rfl
   have cj1 : ∀ o, (w1.alloc o).cell? ⟨w.heap.size, 1, none⟩ = some (.int .i64 0) := fun o => (blk_cell (blk_alloc I1.out o) 1).trans rfl
   have cj2 : ∀ o, (w1.alloc o).cell? ⟨w.heap.size, 2, none⟩ = some (.int .i64 0) := fun o => (blk_cell (blk_alloc I1.out o) 2).trans rfl
   have cj3 : ∀ o, (w1.alloc o).cell? ⟨w.heap.size, 3, none⟩ = some (.int .i64 0) := fun o => (blk_cell (blk_alloc I1.out o) 3).trans rfl
   have cj4 : ∀ o, (w1.alloc o).cell? ⟨w.heap.size, 4, none⟩ = some (.int .i64 0) := fun o => (blk_cell (blk_alloc I1.out o) 4).trans rfl
   have cj5 : ∀ o, (w1.alloc o).cell? ⟨w.heap.size, 5, none⟩ = some (.int .i64 0) := fun o => (blk_cell (blk_alloc I1.out o) 5).trans rfl
   have cj6 : ∀ o, (w1.alloc o).cell? ⟨w.heap.size, 6, none⟩ = some (.bool false) := fun o => (blk_cell (blk_alloc I1.out o) 6).trans rfl
   have cj7 : ∀ o, (w1.alloc o).cell? ⟨w.heap.size, 7, none⟩ = some (.bool false) := fun o => (blk_cell (blk_alloc I1.out o) 7).trans rfl
   have fj : ∀ o i, (w1.alloc o).frozen? ⟨w.heap.size, i, none⟩ = false := fun o i => blk_frozen (blk_alloc I1.out o) i
   go_wp2_with (((with_reducible show bodyPost _ _ _ _ _ _); exact bodyPost_ret (results_ct rfl _ _ w.heap.size 23 _ (0, 0) _ rfl (put8 (blk_alloc I1.out _) rfl _ _ _ _ _ _ _ _) Tryz.underlying23 rfl (by kernel_rfl)) rfl ⟨rfl, bel8 (below_alloc B1.out _) (Nat.le_refl _) _ _ _ _ _ _ _ _⟩))
end Go.Proofs.YtknkfimpflodeaaGreatDoor.P
