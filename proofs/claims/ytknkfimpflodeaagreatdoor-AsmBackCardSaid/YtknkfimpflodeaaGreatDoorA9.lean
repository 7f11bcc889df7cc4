/- strings.Split as lists of bytes; asm's split. -/
import Derived.Test.YtknkfimpflodeaaGreatDoorA3
import Derived.Lib.SplitLaws
namespace Go.Proofs.YtknkfimpflodeaaGreatDoor.P
open Go.RowKit Go.Proofs.YtknkfimpflodeaaGreatDoorW.PrintWords Go.Proofs.YtknkfimpflodeaaGreatDoorW.PrintLast Go.Proofs.YtknkfimpflodeaaGreatDoorW.PrintMore
set_option linter.unusedVariables false
set_option linter.unusedSimpArgs false
theorem sv_of (b : ByteArray) : Value.string b = sv b.data.toList := rfl
theorem split_cells (l sep : BL) (hs : sep ≠ []) :
  (Lib.splitB ⟨sep.toArray⟩ 0 (Lib.countB ⟨l.toArray⟩ ⟨sep.toArray⟩) ⟨l.toArray⟩).map Value.string = (Lib.split l sep).map sv ∧ Lib.countB ⟨l.toArray⟩ ⟨sep.toArray⟩ + 1 = (Lib.split l sep).length := by
 have e : (Lib.splitB ⟨sep.toArray⟩ 0 (Lib.countB ⟨l.toArray⟩ ⟨sep.toArray⟩) ⟨l.toArray⟩).map (·.data.toList) = Lib.split l sep := Lib.splitB_data _ _ _ _
 have h1 : 1 ≤ (⟨sep.toArray⟩ : ByteArray).size := by
  rw [sv_size]
  cases sep with
  | nil => exact absurd rfl hs
  | cons a t => simp
 refine ⟨?_, ?_⟩
 ·rw [← e, List.map_map]
  rfl
 ·rw [← Lib.splitB_all ⟨sep.toArray⟩ h1 0 _ ⟨l.toArray⟩ rfl, ← e, List.length_map]
theorem split_says (l sep : BL) (hl : l.length < 4294967281) (hs : sep ≠ []) (w : World) (hE : Env w) :
  Calls Tryz.prog 51 #[sv l, sv sep] w fun e w' => e = .returned (.slice (some ⟨w.heap.size, 0, none⟩) (Lib.split l sep).length (Lib.split l sep).length) ∧ w' = w.alloc (.cells ((Lib.split l sep).map sv).toArray 9) := by
 obtain ⟨m, hm⟩ := hE.ml
 have h := Tryz.strings_Split ⟨l.toArray⟩ ⟨sep.toArray⟩ m w (by rw [sv_size]; exact hl) hm (by rw [sv_size]; cases sep with | nil => exact absurd rfl hs | cons a t => simp)
 obtain ⟨e1, e2⟩ := split_cells l sep hs
 rw [e1, e2] at h
 exact h
theorem app_one (a : BL) (c : UInt8) : (⟨a.toArray⟩ : ByteArray) ++ ⟨#[c]⟩ = ⟨(a ++ [c]).toArray⟩ := mk_app' a #[c]
set_option maxHeartbeats 8000000 in
set_option maxRecDepth 100000 in
theorem split_calls (l name : BL) (n : Int) (hl : l.length < 4294967281) (hn : name.length ≤ 100) (w : World) (hE : Env w) :
  Calls Tryz.prog 100 #[sv l, sv name, .int .i64 n] w fun e w' =>
   e = .returned (.tuple #[.slice (some ⟨w.heap.size, 0, none⟩) (splitS l name).1.length (splitS l name).1.length, .bool ((splitS l name).2 && decide (((splitS l name).1.length : Int) = n))]) ∧ w' = w.alloc (.cells ((splitS l name).1.map sv).toArray 9) := by
 unfold splitS
 dsimp only; have hcp := fun W => Tryz.strings_CutPrefix ⟨l.toArray⟩ (⟨name.toArray⟩ ++ ⟨#[32]⟩) W
 rw [app_one, sv_data, sv_data] at hcp
 have hlt : (Lib.trimPrefix l (name ++ [32])).length ≤ l.length := by
  unfold Lib.trimPrefix
  split
  ·simp
  ·exact Nat.le_refl _
 have hsp := fun W h => split_says (Lib.trimPrefix l (name ++ [32])) [44, 32] (by omega) (by simp) W h
 generalize Lib.trimPrefix l (name ++ [32]) = T at hcp hsp ⊢
 generalize Lib.hasPrefix l (name ++ [32]) = P at hcp ⊢
 generalize Lib.split T [44, 32] = L at hsp ⊢
 have hE' := Aside0.mk hE
 have u1 := no_over (a := name.length + 1) (by omega)
 have hcp' := Aside0.mk hcp
 have hsp' := Aside0.mk hsp
 have happ := app_one name 32
 clear hE hcp hsp hlt; cases P
 all_goals
  go_enter Tryz.func100, Tryz.ntmps100
  go_wp2_with (first
   | (go_at_call 103; refine (hcp'.out _).mono ?_; rintro e w1 ⟨rfl, rfl⟩)
   | (go_at_call 51; refine (hsp'.out _ hE'.out).mono ?_; rintro e w2 ⟨rfl, hw⟩; subst hw))
  go_ret2
  exact ⟨rfl, rfl⟩
end Go.Proofs.YtknkfimpflodeaaGreatDoor.P
