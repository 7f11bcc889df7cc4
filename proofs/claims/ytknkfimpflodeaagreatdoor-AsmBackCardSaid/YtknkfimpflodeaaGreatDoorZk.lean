/- asm's read: the cells of a state at once. -/
import Derived.Test.YtknkfimpflodeaaGreatDoorA7
namespace Go.Proofs.YtknkfimpflodeaaGreatDoor.P
open Go.RowKit Go.Proofs.YtknkfimpflodeaaGreatDoorW.PrintWords Go.Proofs.YtknkfimpflodeaaGreatDoorW.PrintLast Go.Proofs.YtknkfimpflodeaaGreatDoorW.PrintMore
set_option linter.unusedVariables false
set_option linter.unusedSimpArgs false
theorem all_cells {w : World} {b ga g7 g4 g6 gx : Nat} {t : TypeId} {s1 d1 d2 d3 d4 d5 : Int} {s2 s3 q1 q2 q3 q4 q5 : Bool} {st : St} (hI : InsB w b (s1, d1, d2, d3, d4, d5, s2, s3)) (hR : Rd w ga g7 g4 g6 st)
  (hX : w.heap[gx]? = some (.cells #[.bool q1, .bool q2, .bool q3, .bool q4, .bool q5] t (0, 0))) :
  w.cell? ⟨b, 0, none⟩ = some (.int .i64 s1) ∧ w.cell? ⟨b, 1, none⟩ = some (.int .i64 d1) ∧ w.cell? ⟨b, 2, none⟩ = some (.int .i64 d2) ∧ w.cell? ⟨b, 3, none⟩ = some (.int .i64 d3) ∧ w.cell? ⟨b, 4, none⟩ = some (.int .i64 d4) ∧
  w.cell? ⟨b, 5, none⟩ = some (.int .i64 d5) ∧ w.cell? ⟨b, 6, none⟩ = some (.bool s2) ∧ w.cell? ⟨b, 7, none⟩ = some (.bool s3) ∧ (∀ i, w.frozen? ⟨b, i, none⟩ = false) ∧
  w.cell? ⟨g4, 0, none⟩ = some (.bool st.2.2.1) ∧ w.cell? ⟨g7, 0, none⟩ = some (.bool st.2.1) ∧ w.frozen? ⟨g4, 0, none⟩ = false ∧
  w.cell? ⟨gx, 0, none⟩ = some (.bool q1) ∧ w.cell? ⟨gx, 1, none⟩ = some (.bool q2) ∧ w.cell? ⟨gx, 2, none⟩ = some (.bool q3) ∧ w.cell? ⟨gx, 3, none⟩ = some (.bool q4) ∧ w.cell? ⟨gx, 4, none⟩ = some (.bool q5) :=
 ⟨(blk_cell hI 0).trans rfl, (blk_cell hI 1).trans rfl, (blk_cell hI 2).trans rfl, (blk_cell hI 3).trans rfl, (blk_cell hI 4).trans rfl, (blk_cell hI 5).trans rfl, (blk_cell hI 6).trans rfl, (blk_cell hI 7).trans rfl, blk_frozen hI,
  hR.k.cell, hR.m.cell, blk_frozen hR.k 0, (blk_cell hX 0).trans rfl, (blk_cell hX 1).trans rfl, (blk_cell hX 2).trans rfl, (blk_cell hX 3).trans rfl, (blk_cell hX 4).trans rfl⟩
theorem ins_cell8 {w : World} {b : Nat} {s1 d1 d2 d3 d4 d5 : Int} {s2 s3 : Bool} (hI : InsB w b (s1, d1, d2, d3, d4, d5, s2, s3)) :
  w.cell? ⟨b, 0, none⟩ = some (.int .i64 s1) ∧ w.cell? ⟨b, 1, none⟩ = some (.int .i64 d1) ∧ w.cell? ⟨b, 2, none⟩ = some (.int .i64 d2) ∧ w.cell? ⟨b, 3, none⟩ = some (.int .i64 d3) ∧ w.cell? ⟨b, 4, none⟩ = some (.int .i64 d4) ∧
  w.cell? ⟨b, 5, none⟩ = some (.int .i64 d5) ∧ w.cell? ⟨b, 6, none⟩ = some (.bool s2) ∧ w.cell? ⟨b, 7, none⟩ = some (.bool s3) :=
 ⟨(blk_cell hI 0).trans rfl, (blk_cell hI 1).trans rfl, (blk_cell hI 2).trans rfl, (blk_cell hI 3).trans rfl, (blk_cell hI 4).trans rfl, (blk_cell hI 5).trans rfl, (blk_cell hI 6).trans rfl, (blk_cell hI 7).trans rfl⟩
theorem ins_cells {w : World} {b : Nat} {s1 d1 d2 d3 d4 d5 : Int} {s2 s3 : Bool} (hI : InsB w b (s1, d1, d2, d3, d4, d5, s2, s3)) :
  (∀ o, (w.alloc o).cell? ⟨b, 0, none⟩ = some (.int .i64 s1)) ∧ (∀ o, (w.alloc o).cell? ⟨b, 1, none⟩ = some (.int .i64 d1)) ∧ (∀ o, (w.alloc o).cell? ⟨b, 2, none⟩ = some (.int .i64 d2)) ∧ (∀ o, (w.alloc o).cell? ⟨b, 3, none⟩ = some (.int .i64 d3)) ∧
  (∀ o, (w.alloc o).cell? ⟨b, 4, none⟩ = some (.int .i64 d4)) ∧ (∀ o, (w.alloc o).cell? ⟨b, 5, none⟩ = some (.int .i64 d5)) ∧ (∀ o, (w.alloc o).cell? ⟨b, 6, none⟩ = some (.bool s2)) ∧ (∀ o, (w.alloc o).cell? ⟨b, 7, none⟩ = some (.bool s3)) ∧
  ∀ o i, (w.alloc o).frozen? ⟨b, i, none⟩ = false :=
 ⟨fun o => (blk_cell (blk_alloc hI o) 0).trans rfl, fun o => (blk_cell (blk_alloc hI o) 1).trans rfl, fun o => (blk_cell (blk_alloc hI o) 2).trans rfl, fun o => (blk_cell (blk_alloc hI o) 3).trans rfl, fun o => (blk_cell (blk_alloc hI o) 4).trans rfl,
  fun o => (blk_cell (blk_alloc hI o) 5).trans rfl, fun o => (blk_cell (blk_alloc hI o) 6).trans rfl, fun o => (blk_cell (blk_alloc hI o) 7).trans rfl, fun o i => blk_frozen (blk_alloc hI o) i⟩
end Go.Proofs.YtknkfimpflodeaaGreatDoor.P
