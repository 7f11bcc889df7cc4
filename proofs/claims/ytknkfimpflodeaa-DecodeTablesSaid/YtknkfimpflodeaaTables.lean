/- DecodeTables, walked. -/
import Derived.Test.YtknkfimpflodeaaMeth
import Derived.Test.YtknkfimpflodeaaEWake
namespace Go.Proofs.Ytknkfimpflodeaa.P
open Go.RowKit Go.Proofs.YtknkfimpflodeaaW.PrintWords Go.Proofs.YtknkfimpflodeaaW.PrintLast Go.Proofs.YtknkfimpflodeaaW.PrintMore
set_option linter.unusedVariables false
theorem wakes_says (w : World) : Calls Try.prog 12 #[] w fun e w' => e = .returned (.bool true) ∧ Below w.heap.size w w' :=
  mezzaninelaw09_wakes.calls 300 true w (wakes_ok 300 (Nat.le_refl _))
set_option maxHeartbeats 8000000 in
set_option maxRecDepth 100000 in
theorem tables_calls (v u : Int) (v0 : 0 ≤ v) (v1 : v < 4294967296) (u0 : 0 ≤ u) (u1 : u < 4294967296) (w : World) :
    Calls Try.prog 9 #[.int .u32 v, .int .u32 u] w fun e w' => e = .returned (.bool true) ∧ Below w.heap.size w w' := by
  have hu24 := Try.underlying24
  obtain ⟨⟨p1, p2, p3, p4, p5, p6, p7, p8, p9⟩, hD⟩ : ∃ D, decL tabP 1 v = D := ⟨_, rfl⟩
  obtain ⟨⟨r1, r2, r3, r4, r5, r6, r7, r8, r9⟩, hE⟩ : ∃ E, decL tabP 1 u = E := ⟨_, rfl⟩
  have d1 := decode_says v v0 v1
  have d2 := decode_says u u0 u1
  rw [hD] at d1
  rw [hE] at d2
  have d1 := Aside0.mk d1
  have d2 := Aside0.mk d2
  go_enter Try.func9, Try.ntmps9
  go_wp2_with (fail)
  refine (d1.out _).mono ?_
  rintro e w1 ⟨rfl, hb⟩
  have z53 : Try.zeroCells53 = decC 0 0 0 (fun _ => 0) := by kernel_rfl
  have B1 : Aside0 (Blk w1 w.heap.size 0 0 0 (fun _ => 0)) := ⟨by unfold Blk; rw [← z53]; exact blk_below (heap_alloc_new w _) hb⟩
  have L1 := Aside0.mk (below_step (below_alloc (Below.refl _ _) _) hb)
  clear hb
  dsimp only [saidV, insV]
  go_wp2_with (fail)
  -- the second word
  refine (d2.out _).mono ?_
  rintro e w2 ⟨rfl, hb⟩
  have B2 : Aside0 (Blk w2 w.heap.size 0 0 0 (fun _ => 0)) := ⟨blk_below (blk_alloc B1.out _) hb⟩
  have G1 : Aside0 (w2.heap[w1.heap.size]? = some (.cells #[.int .i64 p1, .int .i64 p2, .int .i64 p3, .int .i64 p4, .int .i64 p5, .int .i64 p6, .bool p7, .bool p8] 24 (0, 0))) := ⟨blk_below (heap_alloc_new w1 _) hb⟩
  have L2 := Aside0.mk (below_step (below_alloc L1.out _) hb)
  have b1 := Aside0.mk (blk_lt B1.out)
  clear hb B1 L1
  dsimp only [saidV, insV]
  go_wp2_with (fail)
  -- a decoder, first asked
  refine (meth_some w.heap.size 0 0 _ v v0 v1 _ (blk_alloc B2.out _) (fun w0 h => do_first w.heap.size 0 w0 h)).mono ?_
  rintro e w3 ⟨rfl, hB, hb⟩
  rw [hD]
  have B3 := Aside0.mk hB
  have nb1 : w1.heap.size ≠ w.heap.size := by have := b1.out; omega
  have G1' : Aside0 (w3.heap[w1.heap.size]? = some (.cells #[.int .i64 p1, .int .i64 p2, .int .i64 p3, .int .i64 p4, .int .i64 p5, .int .i64 p6, .bool p7, .bool p8] 24 (0, 0))) := ⟨(hb.block _ (by have := blk_lt G1.out; simp; omega) nb1).trans (blk_alloc G1.out _)⟩
  have b2 := Aside0.mk (blk_lt B2.out)
  have nb2 : w2.heap.size ≠ w.heap.size := by have := b2.out; omega
  have G2 : Aside0 (w3.heap[w2.heap.size]? = some (.cells #[.int .i64 r1, .int .i64 r2, .int .i64 r3, .int .i64 r4, .int .i64 r5, .int .i64 r6, .bool r7, .bool r8] 24 (0, 0))) := ⟨(hb.block _ (by simp) nb2).trans (heap_alloc_new w2 _)⟩
  have L3 := Aside0.mk ((below_alloc L2.out _).trans (hb.below (Nat.le_refl _) (by have := b2.out; simp; omega)))
  clear hb hB B2 L2 G1
  dsimp only [saidV, insV]
  go_wp2_with (fail)
  -- later
  refine (meth_some w.heap.size 1 0 _ u u0 u1 _ (blk_alloc B3.out _) (fun w0 h => (do_done w.heap.size 0 0 _ _ w0 h).mono (fun e w' he => ⟨he.1, he.2 ▸ h, he.2 ▸ OnlyB.refl _ _⟩))).mono ?_
  rintro e w4 ⟨rfl, hB, hb⟩
  rw [hE]
  have B4 := Aside0.mk hB
  have b3 := Aside0.mk (blk_lt B3.out)
  have nb3 : w3.heap.size ≠ w.heap.size := by have := b3.out; omega
  have G1 : Aside0 (w4.heap[w1.heap.size]? = some (.cells #[.int .i64 p1, .int .i64 p2, .int .i64 p3, .int .i64 p4, .int .i64 p5, .int .i64 p6, .bool p7, .bool p8] 24 (0, 0))) := ⟨(hb.block _ (by have := blk_lt G1'.out; simp; omega) nb1).trans (blk_alloc G1'.out _)⟩
  have G2' : Aside0 (w4.heap[w2.heap.size]? = some (.cells #[.int .i64 r1, .int .i64 r2, .int .i64 r3, .int .i64 r4, .int .i64 r5, .int .i64 r6, .bool r7, .bool r8] 24 (0, 0))) := ⟨(hb.block _ (by have := blk_lt G2.out; simp; omega) nb2).trans (blk_alloc G2.out _)⟩
  have G3 : Aside0 (w4.heap[w3.heap.size]? = some (.cells #[.int .i64 p1, .int .i64 p2, .int .i64 p3, .int .i64 p4, .int .i64 p5, .int .i64 p6, .bool p7, .bool p8] 24 (0, 0))) := ⟨(hb.block _ (by simp) nb3).trans (heap_alloc_new w3 _)⟩
  have L4 := Aside0.mk ((below_alloc L3.out _).trans (hb.below (Nat.le_refl _) (by have := b3.out; simp; omega)))
  clear hb hB B3 L3 G1' G2
  dsimp only [saidV, insV]
  go_wp2_with (fail)
  -- nil
  refine (meth_nil v v0 v1 _).mono ?_
  rintro e w5 ⟨rfl, hb⟩
  rw [hD]
  have G1' := Aside0.mk (blk_below (blk_alloc G1.out _) hb)
  have G2 := Aside0.mk (blk_below (blk_alloc G2'.out _) hb)
  have G3' := Aside0.mk (blk_below (blk_alloc G3.out _) hb)
  have G4 : Aside0 (w5.heap[w4.heap.size]? = some (.cells #[.int .i64 r1, .int .i64 r2, .int .i64 r3, .int .i64 r4, .int .i64 r5, .int .i64 r6, .bool r7, .bool r8] 24 (0, 0))) := ⟨blk_below (heap_alloc_new w4 _) hb⟩
  have L5 := Aside0.mk (below_step (below_alloc L4.out _) hb)
  clear hb B4 L4 G1 G2' G3
  dsimp only [saidV, insV]
  have c10 : ∀ o, (w5.alloc o).cell? ⟨w1.heap.size, 0, none⟩ = _ := fun o => (blk_cell (blk_alloc G1'.out o) 0).trans rfl
  have c11 : ∀ o, (w5.alloc o).cell? ⟨w1.heap.size, 1, none⟩ = _ := fun o => (blk_cell (blk_alloc G1'.out o) 1).trans rfl
  have c12 : ∀ o, (w5.alloc o).cell? ⟨w1.heap.size, 2, none⟩ = _ := fun o => (blk_cell (blk_alloc G1'.out o) 2).trans rfl
  have c13 : ∀ o, (w5.alloc o).cell? ⟨w1.heap.size, 3, none⟩ = _ := fun o => (blk_cell (blk_alloc G1'.out o) 3).trans rfl
  have c14 : ∀ o, (w5.alloc o).cell? ⟨w1.heap.size, 4, none⟩ = _ := fun o => (blk_cell (blk_alloc G1'.out o) 4).trans rfl
  have c15 : ∀ o, (w5.alloc o).cell? ⟨w1.heap.size, 5, none⟩ = _ := fun o => (blk_cell (blk_alloc G1'.out o) 5).trans rfl
  have c16 : ∀ o, (w5.alloc o).cell? ⟨w1.heap.size, 6, none⟩ = _ := fun o => (blk_cell (blk_alloc G1'.out o) 6).trans rfl
  have c17 : ∀ o, (w5.alloc o).cell? ⟨w1.heap.size, 7, none⟩ = _ := fun o => (blk_cell (blk_alloc G1'.out o) 7).trans rfl
  have c20 : ∀ o, (w5.alloc o).cell? ⟨w2.heap.size, 0, none⟩ = _ := fun o => (blk_cell (blk_alloc G2.out o) 0).trans rfl
  have c21 : ∀ o, (w5.alloc o).cell? ⟨w2.heap.size, 1, none⟩ = _ := fun o => (blk_cell (blk_alloc G2.out o) 1).trans rfl
  have c22 : ∀ o, (w5.alloc o).cell? ⟨w2.heap.size, 2, none⟩ = _ := fun o => (blk_cell (blk_alloc G2.out o) 2).trans rfl
  have c23 : ∀ o, (w5.alloc o).cell? ⟨w2.heap.size, 3, none⟩ = _ := fun o => (blk_cell (blk_alloc G2.out o) 3).trans rfl
  have c24 : ∀ o, (w5.alloc o).cell? ⟨w2.heap.size, 4, none⟩ = _ := fun o => (blk_cell (blk_alloc G2.out o) 4).trans rfl
  have c25 : ∀ o, (w5.alloc o).cell? ⟨w2.heap.size, 5, none⟩ = _ := fun o => (blk_cell (blk_alloc G2.out o) 5).trans rfl
  have c26 : ∀ o, (w5.alloc o).cell? ⟨w2.heap.size, 6, none⟩ = _ := fun o => (blk_cell (blk_alloc G2.out o) 6).trans rfl
  have c27 : ∀ o, (w5.alloc o).cell? ⟨w2.heap.size, 7, none⟩ = _ := fun o => (blk_cell (blk_alloc G2.out o) 7).trans rfl
  have c30 : ∀ o, (w5.alloc o).cell? ⟨w3.heap.size, 0, none⟩ = _ := fun o => (blk_cell (blk_alloc G3'.out o) 0).trans rfl
  have c31 : ∀ o, (w5.alloc o).cell? ⟨w3.heap.size, 1, none⟩ = _ := fun o => (blk_cell (blk_alloc G3'.out o) 1).trans rfl
  have c32 : ∀ o, (w5.alloc o).cell? ⟨w3.heap.size, 2, none⟩ = _ := fun o => (blk_cell (blk_alloc G3'.out o) 2).trans rfl
  have c33 : ∀ o, (w5.alloc o).cell? ⟨w3.heap.size, 3, none⟩ = _ := fun o => (blk_cell (blk_alloc G3'.out o) 3).trans rfl
  have c34 : ∀ o, (w5.alloc o).cell? ⟨w3.heap.size, 4, none⟩ = _ := fun o => (blk_cell (blk_alloc G3'.out o) 4).trans rfl
  have c35 : ∀ o, (w5.alloc o).cell? ⟨w3.heap.size, 5, none⟩ = _ := fun o => (blk_cell (blk_alloc G3'.out o) 5).trans rfl
  have c36 : ∀ o, (w5.alloc o).cell? ⟨w3.heap.size, 6, none⟩ = _ := fun o => (blk_cell (blk_alloc G3'.out o) 6).trans rfl
  have c37 : ∀ o, (w5.alloc o).cell? ⟨w3.heap.size, 7, none⟩ = _ := fun o => (blk_cell (blk_alloc G3'.out o) 7).trans rfl
  have c40 : ∀ o, (w5.alloc o).cell? ⟨w4.heap.size, 0, none⟩ = _ := fun o => (blk_cell (blk_alloc G4.out o) 0).trans rfl
  have c41 : ∀ o, (w5.alloc o).cell? ⟨w4.heap.size, 1, none⟩ = _ := fun o => (blk_cell (blk_alloc G4.out o) 1).trans rfl
  have c42 : ∀ o, (w5.alloc o).cell? ⟨w4.heap.size, 2, none⟩ = _ := fun o => (blk_cell (blk_alloc G4.out o) 2).trans rfl
  have c43 : ∀ o, (w5.alloc o).cell? ⟨w4.heap.size, 3, none⟩ = _ := fun o => (blk_cell (blk_alloc G4.out o) 3).trans rfl
  have c44 : ∀ o, (w5.alloc o).cell? ⟨w4.heap.size, 4, none⟩ = _ := fun o => (blk_cell (blk_alloc G4.out o) 4).trans rfl
  have c45 : ∀ o, (w5.alloc o).cell? ⟨w4.heap.size, 5, none⟩ = _ := fun o => (blk_cell (blk_alloc G4.out o) 5).trans rfl
  have c46 : ∀ o, (w5.alloc o).cell? ⟨w4.heap.size, 6, none⟩ = _ := fun o => (blk_cell (blk_alloc G4.out o) 6).trans rfl
  have c47 : ∀ o, (w5.alloc o).cell? ⟨w4.heap.size, 7, none⟩ = _ := fun o => (blk_cell (blk_alloc G4.out o) 7).trans rfl
  go_wp2_with (go_at_call 12; refine (wakes_says _).mono ?_; rintro e w6 ⟨rfl, hb⟩; have L6 := Aside0.mk (below_step (below_alloc L5.out _) hb); clear hb)
  go_ret
  exact ⟨rfl, L6.out⟩
end Go.Proofs.Ytknkfimpflodeaa.P
