/- What a word says: the program's Decode and the document's come to the same. No program. -/
import Derived.Test.YtknkfimpflodeaaGreatDoorZPureR0
import Derived.Test.YtknkfimpflodeaaGreatDoorGB
namespace Go.Proofs.YtknkfimpflodeaaGreatDoor.P
open Go.RowKit Go.Proofs.YtknkfimpflodeaaGreatDoorW.PrintWords Go.Proofs.YtknkfimpflodeaaGreatDoorW.PrintLast Go.Proofs.YtknkfimpflodeaaGreatDoorW.PrintMore
set_option linter.unusedVariables false
theorem parts_at (fm : Int) (h1 : 1 ≤ fm) (h2 : fm ≤ 15) (k : Nat) (hk : 20 ≤ k) : decode_parts.f k fm = some (rdB fm, aB fm, bB fm, cB fm, oB fm) := by
 refine at_rounds (fun k => decode_parts.mono _ k) hk ?_
 rcases forms fm h1 h2 with rfl | rfl | rfl | rfl | rfl | rfl | rfl | rfl | rfl | rfl | rfl | rfl | rfl | rfl | rfl <;> decide +kernel
theorem nform_at (fm : Int) (h1 : 1 ≤ fm) (h2 : fm ≤ 15) : decode_number.f fm = some (nF fm) := by
 rcases forms fm h1 h2 with rfl | rfl | rfl | rfl | rfl | rfl | rfl | rfl | rfl | rfl | rfl | rfl | rfl | rfl | rfl <;> decide +kernel
theorem number_any (f w : Int) (w0 : 0 ≤ w) (w1 : w < 4294967296) (f1 : 0 ≤ f) (f2 : f ≤ 9) (k : Nat) (hk : 20 ≤ k) : ∃ b, fields_Number.f k f w = some (numS f w, b) := by
 by_cases h : f = 0
 ·subst h
  refine ⟨false, ?_⟩
  unfold fields_Number.f
  rw [show fields_shapeOf.f 0 = some ([], 0, false) from rfl]
  simp [numS]
 ·exact ⟨true, at_rounds (fun k => fields_Number.mono f w k) hk (number_at f w w0 w1 (by omega) f2)⟩
theorem and_one (w : Int) (w0 : 0 ≤ w) (w1 : w < 4294967296) : Go.bits .and .u32 w 1 = w % 2 := by
 have ha := and_u32 1 (by decide) w w0 w1
 simpa using ha
section
variable {w fm : Int} {a b c o : Bool} {i0 i1 i2 i3 i4 i5 : Int} {i6 i7 : Bool} {k : Nat}
theorem said_j0 (w0 : 0 ≤ w) (w1 : w < 4294967296) : decode_said.j0 (k + 1) w fm a b c o i0 i1 i2 i3 i4 i5 i6 i7 = decode_said.j1 k w fm b c o i0 i1 (if a = true then w / 32768 % 32 else i2) i3 i4 i5 i6 i7 := by
 simp only [decode_said.j0]
 cases a
 ·rw [if_neg (by decide), if_neg (by decide)]
 ·rw [if_pos rfl, if_pos rfl, field_at w w0 w1 19 15 15 5 (by decide) (by decide) (by decide) (by decide) (by decide)]
  simp only [Option.bind_some]
  congr 1
  unfold wrap64; omega
theorem said_j1 (w0 : 0 ≤ w) (w1 : w < 4294967296) : decode_said.j1 (k + 1) w fm b c o i0 i1 i2 i3 i4 i5 i6 i7 = decode_said.j2 k w fm c o i0 i1 i2 (if b = true then w / 1048576 % 32 else i3) i4 i5 i6 i7 := by
 simp only [decode_said.j1]
 cases b
 ·rw [if_neg (by decide), if_neg (by decide)]
 ·rw [if_pos rfl, if_pos rfl, field_at w w0 w1 24 20 20 5 (by decide) (by decide) (by decide) (by decide) (by decide)]
  simp only [Option.bind_some]
  congr 1
  unfold wrap64; omega
theorem said_j2 (w0 : 0 ≤ w) (w1 : w < 4294967296) : decode_said.j2 (k + 1) w fm c o i0 i1 i2 i3 i4 i5 i6 i7 = decode_said.j3 k w fm o i0 i1 i2 i3 i4 (if c = true then w / 1048576 % 4096 else i5) i6 i7 := by
 simp only [decode_said.j2]
 cases c
 ·rw [if_neg (by decide), if_neg (by decide)]
 ·rw [if_pos rfl, if_pos rfl, field_at w w0 w1 31 20 20 12 (by decide) (by decide) (by decide) (by decide) (by decide)]
  simp only [Option.bind_some]
  congr 1
  unfold wrap64; omega
theorem said_j3 (w0 : 0 ≤ w) (w1 : w < 4294967296) (h1 : 1 ≤ fm) (h2 : fm ≤ 15) (hk : 20 ≤ k) : decode_said.j3 (k + 1) w fm o i0 i1 i2 i3 i4 i5 i6 i7 = some (i0, i1, i2, i3, numS (nF fm) w, i5, if o = true then decide (w / 67108864 % 2 = 1) else i6, if o = true then decide (w / 33554432 % 2 = 1) else i7) := by
 obtain ⟨t, ht⟩ := number_any (nF fm) w w0 w1 (nF_range fm).1 (nF_range fm).2 k hk
 simp only [decode_said.j3]
 rw [nform_at fm h1 h2]
 simp only [Option.bind_some]
 rw [ht]
 simp only [Option.bind_some]
 cases o
 ·rw [if_neg (by decide), if_neg (by decide), if_neg (by decide)]
 ·rw [if_pos rfl, if_pos rfl, if_pos rfl, and_one _ (by omega) (by omega), and_one _ (by omega) (by omega)]
  rfl
end
theorem rowAt_nat (j : Nat) : rowAt (j : Int) = tabP.getD j rowZ := by unfold rowAt; rw [Int.toNat_natCast]
theorem said_at (j : Nat) (hj : j < 113) (w : Int) (w0 : 0 ≤ w) (w1 : w < 4294967296) (k : Nat) (hk : 40 ≤ k) : decode_said.f k ((j : Int) + 1) w = some (sayS (tabP.getD j rowZ).2.2.2 ((j : Int) + 1) w) := by
 obtain ⟨f1, f2, _⟩ := row_ok j hj
 obtain ⟨m, rfl⟩ : ∃ m, k = m + 1 + 1 + 1 + 1 := ⟨k - 4, by omega⟩
 unfold decode_said.f decode_rows.f
 simp only [Option.bind_some]
 rw [show wrap64 ((j : Int) + 1 - 1) = (j : Int) by unfold wrap64; omega, if_pos (by omega), if_pos (by omega), rowAt_nat, parts_at _ f1 f2 _ (by omega)]
 simp only [Option.bind_some]
 generalize (tabP.getD j rowZ).2.2.2 = fm at *
 have hrd : (if rdB fm = true then ((fields_Field.f w 11 7).bind fun t196 => decode_said.j0 (m + 1 + 1 + 1 + 1) w fm (aB fm) (bB fm) (cB fm) (oB fm) ((j : Int) + 1) (wrap64 t196) 0 0 0 0 false false) else decode_said.j0 (m + 1 + 1 + 1 + 1) w fm (aB fm) (bB fm) (cB fm) (oB fm) ((j : Int) + 1) 0 0 0 0 0 false false) =
   decode_said.j0 (m + 1 + 1 + 1 + 1) w fm (aB fm) (bB fm) (cB fm) (oB fm) ((j : Int) + 1) (if rdB fm = true then w / 128 % 32 else 0) 0 0 0 0 false false := by
  cases rdB fm
  ·rw [if_neg (by decide), if_neg (by decide)]
  ·rw [if_pos rfl, if_pos rfl, field_at w w0 w1 11 7 7 5 (by decide) (by decide) (by decide) (by decide) (by decide)]
   simp only [Option.bind_some]
   congr 1
   unfold wrap64; omega
 rw [hrd, said_j0 w0 w1, said_j1 w0 w1, said_j2 w0 w1, said_j3 w0 w1 f1 f2 (by omega)]
 unfold sayS
 cases oB fm <;> rfl
theorem drop_tab (j : Nat) (hj : j < 113) : tabP.drop j = tabP.getD j rowZ :: tabP.drop (j + 1) := by
 have h : j < tabP.length := by rw [tab_len]; exact hj
 rw [List.drop_eq_getElem_cons h, List.getD_eq_getElem?_getD, List.getElem?_eq_getElem h]
 rfl
end Go.Proofs.YtknkfimpflodeaaGreatDoor.P
