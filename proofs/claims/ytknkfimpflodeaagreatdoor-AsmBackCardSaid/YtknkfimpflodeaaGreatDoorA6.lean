/- asm's named: walked. -/
import Derived.Test.YtknkfimpflodeaaGreatDoorA1
import Derived.Lib.ConvBytes
namespace Go.Proofs.YtknkfimpflodeaaGreatDoor.P
open Go.RowKit Go.Proofs.YtknkfimpflodeaaGreatDoorW.PrintWords Go.Proofs.YtknkfimpflodeaaGreatDoorW.PrintLast Go.Proofs.YtknkfimpflodeaaGreatDoorW.PrintMore
set_option linter.unusedVariables false
set_option linter.unusedSimpArgs false
theorem namedB_iff (b : UInt8) : namedB b = true ↔ (97 ≤ b.toNat ∧ b.toNat ≤ 122) ∨ (48 ≤ b.toNat ∧ b.toNat ≤ 57) ∨ b.toNat = 95 := by
  unfold namedB
  simp only [Bool.or_eq_true, Bool.and_eq_true, decide_eq_true_eq, UInt8.le_iff_toNat_le, ← UInt8.toNat_inj, or_assoc]
  exact Iff.rfl
set_option maxHeartbeats 8000000 in
set_option maxRecDepth 100000 in
theorem named_calls (l : BL) (hl : l.length < 4294967281) (w : World) :
    Calls Tryz.prog 55 #[sv l] w fun e w' => e = .returned (.bool (namedS l)) ∧ Below w.heap.size w w' := by
  have hsz := sv_size l
  cases l with
  | nil =>
    go_enter Tryz.func55, Tryz.ntmps55
    go_wp2
    go_ret
    exact ⟨by simp [namedS], Below.refl _ _⟩
  | cons c t =>
    have hcv := fun W => Lib.run_convert_string_bytes (P := Tryz.prog) W 9 44 5 ⟨(c :: t).toArray⟩ Tryz.underlying9 Tryz.underlying44 Tryz.underlying5
    rw [hsz] at hcv
    have hc0 : (⟨(c :: t).toArray⟩ : ByteArray)[0]'(by rw [hsz]; simp) = c := rfl
    have hf : ∀ (g : t.length + 1 ≤ 32 ∧ 97 ≤ c.toNat ∧ c.toNat ≤ 122), namedS (c :: t) = (c :: t).all namedB := by
      intro g
      unfold namedS
      rw [decide_eq_true (by simpa using g.1)]
      dsimp only
      rw [decide_eq_true (show (97 : UInt8) ≤ c from UInt8.le_iff_toNat_le.2 g.2.1), decide_eq_true (show c ≤ (122 : UInt8) from UInt8.le_iff_toNat_le.2 g.2.2)]
      rfl
    have hg : ∀ (g : ¬ (t.length + 1 ≤ 32 ∧ 97 ≤ c.toNat ∧ c.toNat ≤ 122)), namedS (c :: t) = false := by
      intro g
      rw [Bool.eq_false_iff]
      intro h
      unfold namedS at h
      simp only [Bool.and_eq_true, decide_eq_true_eq, List.length_cons] at h
      obtain ⟨⟨h1, h2, h3⟩, -⟩ := h
      exact g ⟨h1, UInt8.le_iff_toNat_le.1 h2, UInt8.le_iff_toNat_le.1 h3⟩
    by_cases g1 : t.length + 1 ≤ 32
    rotate_left
    · rw [hg (fun h => g1 h.1)]
      have q1 : (32 : Int) < (t.length : Int) + 1 := by omega
      have q2 : (1 : Int) ≤ (t.length : Int) + 1 := by omega
      clear hf hg g1 hl
      go_enter Tryz.func55, Tryz.ntmps55
      go_wp2
      go_ret
      exact ⟨rfl, Below.refl _ _⟩
    by_cases g2 : 97 ≤ c.toNat
    rotate_left
    · rw [hg (fun h => g2 h.2.1)]
      have q1 : (t.length : Int) + 1 ≤ 32 := by omega
      have q2 : (1 : Int) ≤ (t.length : Int) + 1 := by omega
      have q3 : (c.toNat : Int) < 97 := by omega
      clear hf hg g1 hl g2
      go_enter Tryz.func55, Tryz.ntmps55
      go_wp2
      all_goals
        go_ret
        exact ⟨rfl, Below.refl _ _⟩
    by_cases g3 : c.toNat ≤ 122
    rotate_left
    · rw [hg (fun h => g3 h.2.2)]
      have q1 : (t.length : Int) + 1 ≤ 32 := by omega
      have q2 : (1 : Int) ≤ (t.length : Int) + 1 := by omega
      have q3 : (97 : Int) ≤ (c.toNat : Int) := by omega
      have q4 : (122 : Int) < (c.toNat : Int) := by omega
      clear hf hg g1 hl g2 g3
      go_enter Tryz.func55, Tryz.ntmps55
      go_wp2
      all_goals
        go_ret
        exact ⟨rfl, Below.refl _ _⟩
    rw [hf ⟨g1, g2, g3⟩]
    have q1 : (t.length : Int) + 1 ≤ 32 := by omega
    have q2 : (1 : Int) ≤ (t.length : Int) + 1 := by omega
    have q3 : (97 : Int) ≤ (c.toNat : Int) := by omega
    have q4 : (c.toNat : Int) ≤ 122 := by omega
    obtain ⟨L, hL⟩ : ∃ L, c :: t = L := ⟨_, rfl⟩
    have hLn : L.length = t.length + 1 := by rw [← hL]; rfl
    have hL' := Aside0.mk hL
    have HW : ∀ j, j < L.length → (Lib.bytesWorld w 5 ⟨(c :: t).toArray⟩).cell? ⟨w.heap.size, j, none⟩ = some (.int .u8 (L.getD j 0).toNat) := by
      intro j hj
      rw [Lib.bytesWorld_cell w 5 ⟨(c :: t).toArray⟩ j (by rw [hsz, hL]; exact hj), sv_data, hL]
    have HW' := Aside0.mk HW
    obtain ⟨R, hR⟩ : ∃ R, (c :: t).all namedB = R := ⟨_, rfl⟩
    rw [hR]
    have hR' := Aside0.mk hR
    clear hR
    have HB := Aside0.mk (Lib.bytesWorld_below w 5 ⟨(c :: t).toArray⟩)
    clear hf hg g1 hl g2 g3 HW hL
    go_enter Tryz.func55, Tryz.ntmps55
    go_wp2
    go_loopg [26] (t.length + 1) (fun kq v26 wr => ∃ i : Nat, i + kq = t.length + 1 ∧ v26 = .int .i64 (i : Int) ∧ Aside0 (wr = Lib.bytesWorld w 5 ⟨(c :: t).toArray⟩) ∧ Aside0 ((L.take i).all namedB = true))
    case atStart => exact ⟨0, by omega, rfl, ⟨rfl⟩, ⟨rfl⟩⟩
    case round =>
      obtain ⟨i, hi, rfl, HR, HA⟩ := hrel
      cases gk with
      | zero =>
        have r1 : (t.length : Int) + 1 ≤ (i : Int) := by omega
        have hall : R = true := by
          have := HA.out
          rw [List.take_of_length_le (by omega)] at this
          rw [← hR'.out, hL'.out]; exact this
        subst hall
        have HB2 : Aside0 (Below w.heap.size w wr) := ⟨by rw [HR.out]; exact HB.out⟩
        clear hi
        go_wp2
        go_ret
        exact ⟨rfl, HB2.out⟩
      | succ gk =>
        have r1 : (i : Int) < (t.length : Int) + 1 := by omega
        have r0 : (0 : Int) ≤ (i : Int) := by omega
        have hwr : IntKind.i64.wrap ((i : Int) + 1) = (i : Int) + 1 := by rw [i64_w]; unfold wrap64; omega
        obtain ⟨b, hb⟩ : ∃ b, L[i]? = some b := ⟨L[i]'(by omega), List.getElem?_eq_getElem (by omega)⟩
        have hcell : wr.cell? ⟨w.heap.size, i, none⟩ = some (.int .u8 (b.toNat : Int)) := by
          rw [HR.out, HW'.out i (by omega), List.getD_eq_getElem?_getD, hb]
          rfl
        have hb' := Aside0.mk hb
        have hlt := Aside0.mk (b.toNat_lt)
        have hi' := Aside0.mk hi
        have HB2 : Aside0 (Below w.heap.size w wr) := ⟨by rw [HR.out]; exact HB.out⟩
        have hbad : namedB b = false → R = false := by
          intro h
          rw [← hR'.out, Bool.eq_false_iff]
          intro g
          have hm : b ∈ L := List.mem_of_getElem? hb
          rw [hL'.out] at g
          rw [List.all_eq_true.1 g b hm] at h
          cases h
        have hgood : namedB b = true → (L.take (i + 1)).all namedB = true := by
          intro h
          rw [List.take_add_one, hb, List.all_append, HA.out]
          simp [h]
        have hbad' := Aside0.mk hbad
        have hgood' := Aside0.mk hgood
        clear hb hi hbad hgood
        go_wp2
        all_goals first
          | (go_roundg gk
             case measure => omega
             case rel => exact ⟨i + 1, by have := hi'.out; omega, by simp, HR, ⟨hgood'.out ((namedB_iff b).2 (by (try simp only [Bool.not_eq_true', Bool.not_eq_false', decide_eq_false_iff_not, decide_eq_true_eq, beq_eq_false_iff_ne, beq_iff_eq, ne_eq] at *); omega))⟩⟩)
          | (go_ret
             obtain rfl := hbad'.out (by rw [Bool.eq_false_iff]; exact fun h => absurd ((namedB_iff b).1 h) (by (try simp only [Bool.not_eq_true', Bool.not_eq_false', decide_eq_false_iff_not, decide_eq_true_eq, beq_eq_false_iff_ne, beq_iff_eq, ne_eq] at *); omega))
             exact ⟨rfl, HB2.out⟩)
end Go.Proofs.YtknkfimpflodeaaGreatDoor.P
