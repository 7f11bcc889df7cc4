/- The wake of layer 10's statements: walked. -/
import Derived.Test.YtknkfimpflodeaaGreatDoorA14
import Derived.Test.YtknkfimpflodeaaGreatDoorA4
import Derived.Test.YtknkfimpflodeaaGreatDoorWr
namespace Go.Proofs.YtknkfimpflodeaaGreatDoor.P
open Go.RowKit Go.Proofs.YtknkfimpflodeaaGreatDoorW.PrintWords Go.Proofs.YtknkfimpflodeaaGreatDoorW.PrintLast Go.Proofs.YtknkfimpflodeaaGreatDoorW.PrintMore
set_option linter.unusedVariables false
set_option linter.unusedSimpArgs false
theorem wake_print : printS (22, 1, 2, 0, -5, 0, false, false) = ([97, 100, 100, 105, 32, 120, 49, 44, 32, 120, 50, 44, 32, 45, 53], 0) := by kernel_rfl
set_option maxHeartbeats 8000000 in
set_option maxRecDepth 100000 in
theorem wakes_calls (w : World) (hE : Env w) : Calls Tryz.prog 16 #[] w fun e w' => e = .returned (.bool true) ∧ Below w.heap.size w w' := by
 have hE' := Aside0.mk hE
 have hwp := Aside0.mk wake_print
 clear hE; go_enter Tryz.func16, Tryz.ntmps16
 go_wp2_with (fail)
 have q := print_calls 22 1 2 0 (-5) 0 false false _ hE'.out
 rw [hwp.out] at q
 refine q.mono ?_
 clear q; rintro e w1 ⟨rfl, hb⟩
 have B1 := Aside0.mk hb
 clear hb; go_wp2_with (fail)
 refine (wake_assemble w1 (hE'.out.below B1.out) wake_reads).mono ?_
 rintro e w2 ⟨v, rfl, hown, hb⟩
 have B2 := Aside0.mk (below_step B1.out hb)
 obtain ⟨g, cap, cur, rfl, -, -, -, hh, hc⟩ := rows_open hown (by decide)
 have c0 := (blk_cell hh 0).trans (hc 0 (by decide))
 have c1 := (blk_cell hh 1).trans (hc 1 (by decide))
 simp at c0 c1
 clear hown hb hh hc; go_wp2_with (fail)
 go_ret
 exact ⟨rfl, B2.out⟩
end Go.Proofs.YtknkfimpflodeaaGreatDoor.P
