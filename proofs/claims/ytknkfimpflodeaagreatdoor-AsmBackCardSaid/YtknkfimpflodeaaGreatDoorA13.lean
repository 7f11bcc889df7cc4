/- Cut, Trim, CutSuffix as lists of bytes. -/
import Derived.Test.YtknkfimpflodeaaGreatDoorA12
import Derived.Shelf.Strings.SlTrimAscii
namespace Go.Proofs.YtknkfimpflodeaaGreatDoor.P
open Go.RowKit Go.Proofs.YtknkfimpflodeaaGreatDoorW.PrintWords Go.Proofs.YtknkfimpflodeaaGreatDoorW.PrintLast Go.Proofs.YtknkfimpflodeaaGreatDoorW.PrintMore
set_option linter.unusedVariables false
set_option linter.unusedSimpArgs false
theorem cut_says (l sep : BL) (hl : l.length < 4294967281) (w : World) (hE : Env w) :
  Calls Tryz.prog 52 #[sv l, sv sep] w fun e w' => e = .returned (.tuple #[sv (Lib.cut l sep).1, sv (Lib.cut l sep).2.1, .bool (Lib.cut l sep).2.2]) ∧ Below w.heap.size w w' := by
 obtain ⟨m, hm⟩ := hE.ml
 refine (Tryz.strings_Cut ⟨l.toArray⟩ ⟨sep.toArray⟩ m w (by rw [sv_size]; exact hl) hm).mono ?_
 rintro e w' ⟨rfl, n, rfl⟩
 exact ⟨rfl, below_drewN (Below.refl _ _) n⟩
theorem trim_says (l : BL) (hl : l.length < 4294967281) (w : World) :
  Calls Tryz.prog 53 #[sv l, sv [32, 9]] w fun e w' => e = .returned (sv (Lib.trimS l [32, 9])) ∧ Below w.heap.size w w' :=
 Any.strings_Trim_laid Tryz.lays160 (by kernel_rfl) ⟨l.toArray⟩ ⟨#[32, 9]⟩ w (by rw [sv_size]; omega) (by decide) (ascii_of_all (by decide))
theorem cutsuf_says (l p : BL) (hl : l.length < 4294967281) (w : World) :
  Calls Tryz.prog 54 #[sv l, sv p] w fun e w' => e = .returned (.tuple #[sv (Lib.trimSuffix l p), .bool (Lib.hasSuffix l p)]) ∧ w' = w :=
 Tryz.strings_CutSuffix ⟨l.toArray⟩ ⟨p.toArray⟩ w (by rw [sv_size]; omega)
/-- the wake's program, and its lines -/
def wakeT : BL := [97, 58, 10, 98, 101, 113, 32, 120, 48, 44, 32, 120, 48, 44, 32, 64, 97, 10, 106, 97, 108, 32, 120, 48, 44, 32, 64, 98, 10, 98, 58]
def wakeA : BL := [97, 58]
def wakeQ : BL := [98, 101, 113, 32, 120, 48, 44, 32, 120, 48, 44, 32, 64, 97]
def wakeJ : BL := [106, 97, 108, 32, 120, 48, 44, 32, 64, 98]
def wakeB : BL := [98, 58]
theorem wake_split : Lib.split wakeT [10] = [wakeA, wakeQ, wakeJ, wakeB] := by decide +kernel
theorem wake_line : lineS wakeA = wakeA ∧ lineS wakeQ = wakeQ ∧ lineS wakeJ = wakeJ ∧ lineS wakeB = wakeB := by decide +kernel
theorem wake_cut : Lib.cut wakeA [35] = (wakeA, [], false) ∧ Lib.cut wakeQ [35] = (wakeQ, [], false) ∧ Lib.cut wakeJ [35] = (wakeJ, [], false) ∧ Lib.cut wakeB [35] = (wakeB, [], false) := by decide +kernel
theorem wake_trim : Lib.trimS wakeA [32, 9] = wakeA ∧ Lib.trimS wakeQ [32, 9] = wakeQ ∧ Lib.trimS wakeJ [32, 9] = wakeJ ∧ Lib.trimS wakeB [32, 9] = wakeB := by decide +kernel
theorem wake_suf : Lib.trimSuffix wakeA [58] = [97] ∧ Lib.hasSuffix wakeA [58] = true ∧ Lib.trimSuffix wakeB [58] = [98] ∧ Lib.hasSuffix wakeB [58] = true ∧ Lib.hasSuffix wakeQ [58] = false ∧ Lib.hasSuffix wakeJ [58] = false := by decide +kernel
theorem wake_named : namedS [97] = true ∧ namedS [98] = true := by decide +kernel
theorem wake_read : readS wakeQ = some ((5, 0, 0, 0, 0, 0, false, false), [97]) ∧ readS wakeJ = some ((3, 0, 0, 0, 0, 0, false, false), [98]) := ⟨by kernel_rfl, by kernel_rfl⟩
theorem wake_no : (∀ s, s = wakeQ ∨ s = wakeJ → ((splitS s [108, 105]).2 && decide (((splitS s [108, 105]).1.length : Int) = 2)) = false ∧ ((splitS s [108, 97]).2 && decide (((splitS s [108, 97]).1.length : Int) = 2)) = false ∧ ((splitS s [46, 119, 111, 114, 100]).2 && decide (((splitS s [46, 119, 111, 114, 100]).1.length : Int) = 1)) = false) := by
 rintro s (rfl | rfl)
 ·decide +kernel
 ·decide +kernel
theorem wake_words : encI (5, 0, 0, 0, 0, 0, false, false) = (99, 0) ∧ encI (3, 0, 0, 0, 4, 0, false, false) = (4194415, 0) := by decide +kernel
end Go.Proofs.YtknkfimpflodeaaGreatDoor.P
