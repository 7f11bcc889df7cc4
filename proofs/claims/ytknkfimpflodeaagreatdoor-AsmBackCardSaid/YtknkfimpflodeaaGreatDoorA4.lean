/- asm's Print: walked. -/
import Derived.Test.YtknkfimpflodeaaGreatDoorA3
namespace Go.Proofs.YtknkfimpflodeaaGreatDoor.P
open Go.RowKit Go.Proofs.YtknkfimpflodeaaGreatDoorW.PrintWords Go.Proofs.YtknkfimpflodeaaGreatDoorW.PrintLast Go.Proofs.YtknkfimpflodeaaGreatDoorW.PrintMore
set_option linter.unusedVariables false
set_option linter.unusedSimpArgs false
def wfI (x : Ins) : Prop := (-9223372036854775808 ≤ x.2.1 ∧ x.2.1 ≤ 9223372036854775807) ∧ (-9223372036854775808 ≤ x.2.2.1 ∧ x.2.2.1 ≤ 9223372036854775807) ∧ (-9223372036854775808 ≤ x.2.2.2.1 ∧ x.2.2.2.1 ≤ 9223372036854775807) ∧ (-9223372036854775808 ≤ x.2.2.2.2.1 ∧ x.2.2.2.2.1 ≤ 9223372036854775807) ∧ (-9223372036854775808 ≤ x.2.2.2.2.2.1 ∧ x.2.2.2.2.2.1 ≤ 9223372036854775807)
theorem names_len : (List.range 113).all (fun j => decide ((nameS ((j : Int) + 1)).length ≤ 20)) = true := by decide +kernel
theorem name_len (j : Nat) (hj : j < 113) : (nameS ((j : Int) + 1)).length ≤ 20 := of_decide_eq_true (List.all_eq_true.1 names_len j (List.mem_range.2 hj))
theorem joinF_len : ∀ (L : List BL) (f : Bool) (k : Nat), (∀ o ∈ L, o.length ≤ k) → (joinF f L).length ≤ L.length * (k + 2)
 | [], f, k, h => by simp [joinF]
 | o :: t, f, k, h => by
  have ih := joinF_len t false k (fun p hp => h p (List.mem_cons_of_mem _ hp))
  have h1 := h o List.mem_cons_self
  have h2 : (leadS f).length ≤ 2 := by cases f <;> decide
  simp only [joinF, List.length_append, List.length_cons]
  rw [Nat.add_mul]
  omega
theorem one_mem {x : Bool} {t o : BL} (h : o ∈ one x t) : o = t := by
 cases x
 ·cases h
 ·simpa [one] using h
theorem one_len (x : Bool) (t : BL) : (one x t).length ≤ 1 := by cases x <;> simp [one]
theorem more_len (x : Ins) (b1 : 0 ≤ x.2.1) (b2 : x.2.1 ≤ 31) (b3 : 0 ≤ x.2.2.1) (b4 : x.2.2.1 ≤ 31) (b5 : 0 ≤ x.2.2.2.1) (b6 : x.2.2.2.1 ≤ 31) (b7 : 0 ≤ x.2.2.2.2.2.1) (b8 : x.2.2.2.2.2.1 ≤ 4095) (b9 : -2147483648 ≤ x.2.2.2.2.1) (b10 : x.2.2.2.2.1 < 2147483648) : (moreS x).length ≤ 200 := by
 rw [moreS_eq]
 have e : ∀ n : Int, (120 :: Lib.itoa n).length = (Lib.itoa n).length + 1 := fun n => rfl
 have h := joinF_len (opsL (ofS x.1) x.2.1 x.2.2.1 x.2.2.2.1 x.2.2.2.2.1 x.2.2.2.2.2.1 []) true 22 (by
  intro o ho
  unfold opsL at ho
  simp only [List.mem_append, List.not_mem_nil, or_false] at ho
  rcases ho with h | h | h | h | h
  ·rw [one_mem h, e]; have := itoa_len x.2.1 (by omega) (by omega); omega
  ·rw [one_mem h, e]; have := itoa_len x.2.2.1 (by omega) (by omega); omega
  ·rw [one_mem h, e]; have := itoa_len x.2.2.2.1 (by omega) (by omega); omega
  ·rw [one_mem h]; unfold immT; rw [if_pos rfl]; have := itoa_len x.2.2.2.2.1 (by omega) (by omega); omega
  ·rw [one_mem h]; have := itoa_len x.2.2.2.2.2.1 (by omega) (by omega); omega)
 have hl : (opsL (ofS x.1) x.2.1 x.2.2.1 x.2.2.2.1 x.2.2.2.2.1 x.2.2.2.2.2.1 []).length ≤ 5 := by
  unfold opsL
  simp only [List.length_append, List.length_nil]
  have a1 := one_len (ofS x.1).1 (120 :: Lib.itoa x.2.1)
  have a2 := one_len (ofS x.1).2.1 (120 :: Lib.itoa x.2.2.1)
  have a3 := one_len (ofS x.1).2.2.1 (120 :: Lib.itoa x.2.2.2.1)
  have a4 := one_len (ofS x.1).2.2.2.1 (immT x.2.2.2.2.1 [])
  have a5 := one_len (ofS x.1).2.2.2.2 (Lib.itoa x.2.2.2.2.2.1)
  omega
 omega
theorem five_cells {W : World} {b : Nat} {s1 s2 s3 s4 s5 : BL} {t : TypeId} (h : W.heap[b]? = some (.cells #[sv s1, sv s2, sv s3, sv s4, sv s5] t (0, 0))) : ∀ (j : Nat) x, [s1, s2, s3, s4, s5][j]? = some x → W.cell? ⟨b, j, none⟩ = some (sv x) := by
 intro j x hx
 rw [blk_cell h j]
 match j, hx with
 | 0, hx => obtain rfl : s1 = x := Option.some.inj hx; rfl
 | 1, hx => obtain rfl : s2 = x := Option.some.inj hx; rfl
 | 2, hx => obtain rfl : s3 = x := Option.some.inj hx; rfl
 | 3, hx => obtain rfl : s4 = x := Option.some.inj hx; rfl
 | 4, hx => obtain rfl : s5 = x := Option.some.inj hx; rfl
 | j + 5, hx => simp at hx
set_option maxHeartbeats 8000000 in
set_option maxRecDepth 100000 in
theorem print_calls (x1 x2 x3 x4 x5 x6 : Int) (x7 x8 : Bool) (w : World) (hE : Env w) :
  Calls Tryz.prog 14 #[.agg #[.int .i64 x1, .int .i64 x2, .int .i64 x3, .int .i64 x4, .int .i64 x5, .int .i64 x6, .bool x7, .bool x8]] w fun e w' =>
   e = .returned (.tuple #[sv (printS (x1, x2, x3, x4, x5, x6, x7, x8)).1, .int .i64 (printS (x1, x2, x3, x4, x5, x6, x7, x8)).2]) ∧ Below w.heap.size w w' := by
 have he := encode_says (x1, x2, x3, x4, x5, x6, x7, x8)
 unfold insV at he
 have hE' := Aside0.mk hE
 clear hE; have KG := Aside0.mk (heap_alloc_new w (.cells #[.int .i64 x1, .int .i64 x2, .int .i64 x3, .int .i64 x4, .int .i64 x5, .int .i64 x6, .bool x7, .bool x8] 23))
 have HB := Aside0.mk (below_alloc (Below.refl _ w) (.cells #[.int .i64 x1, .int .i64 x2, .int .i64 x3, .int .i64 x4, .int .i64 x5, .int .i64 x6, .bool x7, .bool x8] 23))
 by_cases hr : rightI (x1, x2, x3, x4, x5, x6, x7, x8) = true
 rotate_left
 ·have hr' : rightI (x1, x2, x3, x4, x5, x6, x7, x8) = false := Bool.eq_false_iff.2 hr
  rw [printS_wrong _ hr']
  have h2 : (encI (x1, x2, x3, x4, x5, x6, x7, x8)).2 = 80 := by
   have a : ¬ (encI (x1, x2, x3, x4, x5, x6, x7, x8)).2 = 0 := of_decide_eq_false hr'
   unfold encI encS at a ⊢
   dsimp only at a ⊢
   by_cases g : 1 ≤ x1 ∧ x1 ≤ 113
   ·rw [if_pos g] at a ⊢
    by_cases g2 : rightS (rowAt (x1 - 1)).2.2.2 x2 x3 x4 x5 x6 x7 x8 = true
    ·rw [if_pos g2] at a; exact absurd rfl a
    ·rw [if_neg g2]
   ·rw [if_neg g]
  generalize encI (x1, x2, x3, x4, x5, x6, x7, x8) = R at he h2
  obtain ⟨r1, r2⟩ := R
  dsimp only at h2
  subst h2; have he' := Aside0.mk he
  clear he; dsimp only at he'
  go_enter Tryz.func14, Tryz.ntmps14
  go_wp2_with (go_at_call 23; refine (he'.out _).mono ?_; rintro e w1 ⟨rfl, hb⟩; have n1 := Aside0.mk (below_step HB.out hb); clear hb)
  go_ret2
  exact ⟨rfl, n1.out⟩
 ·have hp := printS_line _ hr
  obtain ⟨j, hj, hop⟩ := right_op _ hr
  dsimp only at hop
  have hm := moreS_eq (x1, x2, x3, x4, x5, x6, x7, x8)
  obtain ⟨⟨b1, b2, b3, b4, b5, b6, b7, b8⟩, -, -, -, -, -, b9, b10⟩ := right_parts _ hr
  dsimp only at b1 b2 b3 b4 b5 b6 b7 b8 b9 b10
  obtain ⟨N, hN⟩ : ∃ N, nameS x1 = N := ⟨_, rfl⟩
  have hNl : N.length ≤ 20 := by rw [← hN, hop]; exact name_len j hj
  have hx1 : 1 ≤ x1 := by omega
  have hx2 : x1 ≤ 113 := by omega
  clear hop; obtain ⟨⟨q1, q2, q3, q4, q5⟩, hQ⟩ : ∃ Q, ofS x1 = Q := ⟨_, rfl⟩
  obtain ⟨M, hM⟩ : ∃ M, moreS (x1, x2, x3, x4, x5, x6, x7, x8) = M := ⟨_, rfl⟩
  have hMl : M.length ≤ 200 := by rw [← hM]; exact more_len _ b1 b2 b3 b4 b5 b6 b7 b8 b9 b10
  have hM2 : joinS [regS q1 x2, regS q2 x3, regS q3 x4, numT q4 x5, numT q5 x6] = M := by rw [← hM]; unfold moreS; dsimp only; rw [hQ]
  have hP : printS (x1, x2, x3, x4, x5, x6, x7, x8) = (N ++ sufS x7 x8 ++ (if M = [] then [] else 32 :: M), 0) := by
   unfold printS
   rw [if_pos (right_enc _ hr), hM]
   dsimp only; rw [hN]
  rw [hP]
  clear hp hP hm; have h2 : (encI (x1, x2, x3, x4, x5, x6, x7, x8)).2 = 0 := right_enc _ hr
  generalize encI (x1, x2, x3, x4, x5, x6, x7, x8) = R at he h2
  obtain ⟨r1, r2⟩ := R
  dsimp only at h2
  subst h2; have hn := name_says x1 hx1 hx2
  rw [hN] at hn
  have ho := of_calls x1
  rw [hQ] at ho
  unfold opsV at ho
  dsimp only at ho
  have he' := Aside0.mk he
  have hn' := Aside0.mk hn
  have ho' := Aside0.mk ho
  have hM2' := Aside0.mk hM2
  clear he hn ho hM2 hM hN hQ hr; dsimp only at he'
  have u1 := no_over (a := N.length + 5) (by omega)
  have u2 := no_over (a := N.length + 3) (by omega)
  have hI := Aside0.mk (And.intro b1 (And.intro b2 (And.intro b3 (And.intro b4 (And.intro b5 (And.intro b6 (And.intro b7 (And.intro b8 (And.intro b9 b10)))))))))
  clear b1 b2 b3 b4 b5 b6 b7 b8 b9 b10; obtain ⟨N2, hN2⟩ : ∃ N2, N ++ sufS x7 x8 = N2 := ⟨_, rfl⟩
  have hN2l : N2.length ≤ 25 := by
   rw [← hN2, List.length_append]
   have : (sufS x7 x8).length ≤ 5 := by cases x7 <;> cases x8 <;> decide
   omega
  rw [hN2]
  have hN2' := Aside0.mk hN2
  clear hN2; have v1 := no_over (a := 1 + M.length) (by omega)
  have v2 := no_over (a := N2.length + (1 + M.length)) (by omega)
  have hIn := Aside0.mk (show wfI (x1, x2, x3, x4, x5, x6, x7, x8) from by obtain ⟨b1, b2, b3, b4, b5, b6, b7, b8, b9, b10⟩ := hI.out; unfold wfI; dsimp only; omega)
  cases x7 <;> cases x8
  all_goals
   go_enter Tryz.func14, Tryz.ntmps14
   go_wp2_with (first
    | (go_at_call 23; refine (he'.out _).mono ?_; rintro e w1 ⟨rfl, hb⟩; have n1 := Aside0.mk (below_step HB.out hb); have n2 := Aside0.mk (blk_below KG.out hb); clear hb HB KG; have HB := n1; have KG := n2; clear n1 n2; have hg0 := blk_cell KG.out 0; have hg1 := blk_cell KG.out 1; have hg2 := blk_cell KG.out 2; have hg3 := blk_cell KG.out 3; have hg4 := blk_cell KG.out 4; have hg5 := blk_cell KG.out 5; have hg6 := blk_cell KG.out 6; have hg7 := blk_cell KG.out 7; simp at hg0 hg1 hg2 hg3 hg4 hg5 hg6 hg7)
    | (go_at_call 38; refine (hn'.out _).mono ?_; rintro e w2 ⟨rfl, hb⟩; have n1 := Aside0.mk (below_step HB.out hb); have n2 := Aside0.mk (blk_below KG.out hb); clear hb HB KG; have HB := n1; have KG := n2; clear n1 n2; clear hg0 hg1 hg2 hg3 hg4 hg5 hg6 hg7; have hg0 := blk_cell KG.out 0; have hg1 := blk_cell KG.out 1; have hg2 := blk_cell KG.out 2; have hg3 := blk_cell KG.out 3; have hg4 := blk_cell KG.out 4; have hg5 := blk_cell KG.out 5; have hg6 := blk_cell KG.out 6; have hg7 := blk_cell KG.out 7; simp at hg0 hg1 hg2 hg3 hg4 hg5 hg6 hg7)
    | (go_at_call 39; refine (ho'.out _).mono ?_; rintro e w3 ⟨rfl, hb⟩; have n1 := Aside0.mk (below_step HB.out hb); have n2 := Aside0.mk (blk_below KG.out hb); clear hb HB KG; have HB := n1; have KG := n2; clear n1 n2; clear hg0 hg1 hg2 hg3 hg4 hg5 hg6 hg7))
   have KX := Aside0.mk (blk_drew (heap_alloc_new w3 (.cells #[.bool q1, .bool q2, .bool q3, .bool q4, .bool q5] 69)))
   have m1 := Aside0.mk (blk_drew (blk_alloc KG.out (.cells #[.bool q1, .bool q2, .bool q3, .bool q4, .bool q5] 69)))
   have m2 := Aside0.mk (below_drew1 (below_alloc HB.out (.cells #[.bool q1, .bool q2, .bool q3, .bool q4, .bool q5] 69)))
   clear KG HB; have KG := m1; have HB := m2; clear m1 m2; go_region_held3 (fun w' => w'.cell? ⟨w.heap.size, 1, none⟩ = some (.int .i64 x2) ∧ w'.cell? ⟨w.heap.size, 2, none⟩ = some (.int .i64 x3) ∧ w'.cell? ⟨w.heap.size, 3, none⟩ = some (.int .i64 x4) ∧ w'.cell? ⟨w.heap.size, 4, none⟩ = some (.int .i64 x5) ∧ w'.cell? ⟨w.heap.size, 5, none⟩ = some (.int .i64 x6) ∧ w'.cell? ⟨w3.heap.size, 0, none⟩ = some (.bool q1) ∧ w'.cell? ⟨w3.heap.size, 1, none⟩ = some (.bool q2) ∧ w'.cell? ⟨w3.heap.size, 2, none⟩ = some (.bool q3) ∧ w'.cell? ⟨w3.heap.size, 3, none⟩ = some (.bool q4) ∧ w'.cell? ⟨w3.heap.size, 4, none⟩ = some (.bool q5)) ((first | exact ⟨(blk_cell KG.out 1).trans rfl, (blk_cell KG.out 2).trans rfl, (blk_cell KG.out 3).trans rfl, (blk_cell KG.out 4).trans rfl, (blk_cell KG.out 5).trans rfl, (blk_cell KX.out 0).trans rfl, (blk_cell KX.out 1).trans rfl, (blk_cell KX.out 2).trans rfl, (blk_cell KX.out 3).trans rfl, (blk_cell KX.out 4).trans rfl⟩ | exact ⟨(blk_cell (blk_alloc KG.out _) 1).trans rfl, (blk_cell (blk_alloc KG.out _) 2).trans rfl, (blk_cell (blk_alloc KG.out _) 3).trans rfl, (blk_cell (blk_alloc KG.out _) 4).trans rfl, (blk_cell (blk_alloc KG.out _) 5).trans rfl, (blk_cell (blk_alloc KX.out _) 0).trans rfl, (blk_cell (blk_alloc KX.out _) 1).trans rfl, (blk_cell (blk_alloc KX.out _) 2).trans rfl, (blk_cell (blk_alloc KX.out _) 3).trans rfl, (blk_cell (blk_alloc KX.out _) 4).trans rfl⟩ | go_keep)) ((first | (go_at_call 41; refine (reg_calls _ _ (by have hq := hIn.out; unfold wfI at hq; dsimp only at hq; omega) (by have hq := hIn.out; unfold wfI at hq; dsimp only at hq; omega) _ (hE'.out.below HB.out)).mono ?_; rintro e w4 ⟨rfl, hb⟩; have n1 := Aside0.mk (below_step HB.out hb); have n2 := Aside0.mk (blk_below KG.out hb); have n3 := Aside0.mk (blk_below KX.out hb); clear hb HB KG KX; have HB := n1; have KG := n2; have KX := n3; clear n1 n2 n3) | (go_at_call 42; refine (num_calls _ _ (by have hq := hIn.out; unfold wfI at hq; dsimp only at hq; omega) (by have hq := hIn.out; unfold wfI at hq; dsimp only at hq; omega) _ (hE'.out.below HB.out)).mono ?_; rintro e w4 ⟨rfl, hb⟩; have n1 := Aside0.mk (below_step HB.out hb); have n2 := Aside0.mk (blk_below KG.out hb); have n3 := Aside0.mk (blk_below KX.out hb); clear hb HB KG KX; have HB := n1; have KG := n2; have KX := n3; clear n1 n2 n3) | (go_at_call 40; refine (join_calls _ _ [regS q1 x2, regS q2 x3, regS q3 x4, numT q4 x5, numT q5 x6] rfl (by rw [hM2'.out]; omega) _ (by simp) (five_cells (heap_alloc_new _ _))).mono ?_; rw [hM2'.out]; rintro e w5 ⟨rfl, hb⟩; have n1 := Aside0.mk (below_step (below_alloc HB.out _) hb); have n2 := Aside0.mk (blk_below (blk_alloc KG.out _) hb); have n3 := Aside0.mk (blk_below (blk_alloc KX.out _) hb); clear hb HB KG KX; have HB := n1; have KG := n2; have KX := n3; clear n1 n2 n3)))
   all_goals
    by_cases hMz : M = []
    ·subst hMz
     go_wp2
     go_ret2
     exact ⟨by rw [← hN2'.out]; simp [sufS, mk_app', mk_app2], HB.out⟩
    ·have hMe : (M == []) = false := by simpa using hMz
     go_wp2
     go_ret2
     exact ⟨by rw [← hN2'.out]; simp [sufS, mk_app', mk_app2], HB.out⟩
end Go.Proofs.YtknkfimpflodeaaGreatDoor.P
