/- Names and numbers of instructions: the program's and the document's. No program. -/
import Derived.Test.YtknkfimpflodeaaGreatDoorZPureD0
import Derived.Test.YtknkfimpflodeaaGreatDoorGA
namespace Go.Proofs.YtknkfimpflodeaaGreatDoor.P
open Go.RowKit Go.Proofs.YtknkfimpflodeaaGreatDoorW.PrintWords Go.Proofs.YtknkfimpflodeaaGreatDoorW.PrintLast Go.Proofs.YtknkfimpflodeaaGreatDoorW.PrintMore
set_option linter.unusedVariables false
theorem name_at (a0 : Int) (h0 : -9223372036854775808 ≤ a0) (h1 : a0 ≤ 9223372036854775807) : decode_Name.f a0 = some (rowR a0).1 := by
 unfold decode_Name.f decode_rows.f
 simp only [Option.bind_some]
 by_cases h : a0 < 1
 ·rw [if_pos h]
  unfold rowR
  rw [if_neg (by omega)]
  rfl
 rw [if_neg h]
 by_cases g : a0 > 113
 ·rw [if_pos g]
  unfold rowR
  rw [if_neg (by omega)]
  rfl
 rw [if_neg g]
 obtain ⟨j, rfl⟩ : ∃ j : Nat, a0 = (j : Int) + 1 := ⟨(a0 - 1).toNat, by omega⟩
 rw [show wrap64 ((j : Int) + 1 - 1) = (j : Int) by unfold wrap64; omega, if_pos (by omega), if_pos (by omega), rowAt_nat, rowR_at j (by omega)]
def opL : List (ByteArray × Int × Int × Int) → Int → ByteArray → Int
 | [], _, _ => 0
 | r :: t, op, s => if r.1.toList = s.toList then op else opL t (op + 1) s
theorem opL_cons (r : ByteArray × Int × Int × Int) (t : List (ByteArray × Int × Int × Int)) (op : Int) (s : ByteArray) : opL (r :: t) op s = if r.1.toList = s.toList then op else opL t (op + 1) s := rfl
theorem op_loop (s : ByteArray) : ∀ (d j k : Nat), j + d = 113 → d + 1 ≤ k → decode_Op.l0 k s (j : Int) = some (opL (tabP.drop j) ((j : Int) + 1) s)
 | 0, j, k, hj, hk => by
  obtain ⟨m, rfl⟩ : ∃ m, k = m + 1 := ⟨k - 1, by omega⟩
  have : tabP.drop j = [] := List.drop_eq_nil_of_le (by rw [tab_len]; omega)
  rw [this]
  simp only [decode_Op.l0]
  rw [if_neg (by omega)]
  rfl
 | d + 1, j, k, hj, hk => by
  obtain ⟨m, rfl⟩ : ∃ m, k = m + 1 := ⟨k - 1, by omega⟩
  have hlt : j < 113 := by omega
  have ih := op_loop s d (j + 1) m (by omega) (by omega)
  rw [drop_tab j hlt]
  simp only [decode_Op.l0, decode_rows.f, Option.bind_some]
  rw [if_pos (by omega), if_pos (by omega), rowAt_nat, show wrap64 ((j : Int) + 1) = ((j + 1 : Nat) : Int) by unfold wrap64; omega, ih, show ((j + 1 : Nat) : Int) = (j : Int) + 1 by omega]
  rw [opL_cons]
  split <;> rfl
theorem op_at (s : ByteArray) (k : Nat) (hk : 120 ≤ k) : decode_Op.f k s = some (opL tabP 1 s) := by
 unfold decode_Op.f decode_rows.f
 simp only [Option.bind_some]
 exact op_loop s 113 0 k (by omega) (by omega)
end Go.Proofs.YtknkfimpflodeaaGreatDoor.P
