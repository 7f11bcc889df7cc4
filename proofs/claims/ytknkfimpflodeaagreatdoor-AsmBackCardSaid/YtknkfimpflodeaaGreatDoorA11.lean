/- asm's item with one instruction: words, goes. -/
import Derived.Test.YtknkfimpflodeaaGreatDoorA10
namespace Go.Proofs.YtknkfimpflodeaaGreatDoor.P
open Go.RowKit Go.Proofs.YtknkfimpflodeaaGreatDoorW.PrintWords Go.Proofs.YtknkfimpflodeaaGreatDoorW.PrintLast Go.Proofs.YtknkfimpflodeaaGreatDoorW.PrintMore
set_option linter.unusedVariables false
set_option linter.unusedSimpArgs false
/-- an item with one instruction, which lies at b -/
def itemV (line : Int) (b : Nat) (lbl : BL) : Value := .agg #[.int .i64 line, .slice (some ⟨b, 0, none⟩) 1 1, sv lbl, .bool false, .int .u32 0, .bool false]
set_option maxHeartbeats 8000000 in
set_option maxRecDepth 100000 in
theorem words1_calls (line : Int) (b : Nat) (lbl : BL) (w : World) :
  Calls Tryz.prog 57 #[itemV line b lbl] w fun e w' => e = .returned (.int .u64 1) ∧ Below w.heap.size w w' := by
 unfold itemV
 go_enter Tryz.func57, Tryz.ntmps57
 go_wp2
 go_ret
 exact ⟨rfl, below_alloc (Below.refl _ _) _⟩
set_option maxHeartbeats 8000000 in
set_option maxRecDepth 100000 in
theorem goes1_calls (line : Int) (b : Nat) (lbl : BL) (n : Int) (i : Ins) (w : World) (hI : InsB w b i) :
  Calls Tryz.prog 58 #[itemV line b lbl, .int .i64 n] w fun e w' =>
   e = .returned (.bool (decide ((encI (i.1, i.2.1, i.2.2.1, i.2.2.2.1, n, i.2.2.2.2.2)).2 = 0))) ∧ InsB w' b (i.1, i.2.1, i.2.2.1, i.2.2.2.1, n, i.2.2.2.2.2) ∧ OnlyS [b] w w' := by
 obtain ⟨s1, d1, d2, d3, d4, d5, s2, s3⟩ := i
 dsimp only; have he := encode_says (s1, d1, d2, d3, n, d5, s2, s3)
 unfold insV at he
 dsimp only at he
 generalize encI (s1, d1, d2, d3, n, d5, s2, s3) = EE at he ⊢
 obtain ⟨e1, e2⟩ := EE
 dsimp only at he ⊢
 have he' := Aside0.mk he
 have hI' := Aside0.mk hI
 have gb := blk_lt hI
 have gn : ¬ b = w.heap.size := by omega
 have gm : ¬ w.heap.size = b := by omega
 clear he hI; unfold itemV
 have cj0 : ∀ o, (w.alloc o).cell? ⟨b, 0, none⟩ = some (.int .i64 s1) := fun o => (blk_cell (blk_alloc hI'.out o) 0).trans rfl
 have cj1 : ∀ o, (w.alloc o).cell? ⟨b, 1, none⟩ = some (.int .i64 d1) := fun o => (blk_cell (blk_alloc hI'.out o) 1).trans rfl
 have cj2 : ∀ o, (w.alloc o).cell? ⟨b, 2, none⟩ = some (.int .i64 d2) := fun o => (blk_cell (blk_alloc hI'.out o) 2).trans rfl
 have cj3 : ∀ o, (w.alloc o).cell? ⟨b, 3, none⟩ = some (.int .i64 d3) := fun o => (blk_cell (blk_alloc hI'.out o) 3).trans rfl
 have cj4 : ∀ o, (w.alloc o).cell? ⟨b, 4, none⟩ = some (.int .i64 d4) := fun o => (blk_cell (blk_alloc hI'.out o) 4).trans rfl
 have cj5 : ∀ o, (w.alloc o).cell? ⟨b, 5, none⟩ = some (.int .i64 d5) := fun o => (blk_cell (blk_alloc hI'.out o) 5).trans rfl
 have cj6 : ∀ o, (w.alloc o).cell? ⟨b, 6, none⟩ = some (.bool s2) := fun o => (blk_cell (blk_alloc hI'.out o) 6).trans rfl
 have cj7 : ∀ o, (w.alloc o).cell? ⟨b, 7, none⟩ = some (.bool s3) := fun o => (blk_cell (blk_alloc hI'.out o) 7).trans rfl
 have fj : ∀ o i, (w.alloc o).frozen? ⟨b, i, none⟩ = false := fun o i => blk_frozen (blk_alloc hI'.out o) i
 have ck0 : ∀ o, ((w.setCell ⟨b, 4, none⟩ (.int .i64 n)).alloc o).cell? ⟨b, 0, none⟩ = some (.int .i64 s1) := fun o => (blk_cell (blk_alloc (InsB.put4 hI'.out n) o) 0).trans rfl
 have ck1 : ∀ o, ((w.setCell ⟨b, 4, none⟩ (.int .i64 n)).alloc o).cell? ⟨b, 1, none⟩ = some (.int .i64 d1) := fun o => (blk_cell (blk_alloc (InsB.put4 hI'.out n) o) 1).trans rfl
 have ck2 : ∀ o, ((w.setCell ⟨b, 4, none⟩ (.int .i64 n)).alloc o).cell? ⟨b, 2, none⟩ = some (.int .i64 d2) := fun o => (blk_cell (blk_alloc (InsB.put4 hI'.out n) o) 2).trans rfl
 have ck3 : ∀ o, ((w.setCell ⟨b, 4, none⟩ (.int .i64 n)).alloc o).cell? ⟨b, 3, none⟩ = some (.int .i64 d3) := fun o => (blk_cell (blk_alloc (InsB.put4 hI'.out n) o) 3).trans rfl
 have ck4 : ∀ o, ((w.setCell ⟨b, 4, none⟩ (.int .i64 n)).alloc o).cell? ⟨b, 4, none⟩ = some (.int .i64 n) := fun o => (blk_cell (blk_alloc (InsB.put4 hI'.out n) o) 4).trans rfl
 have ck5 : ∀ o, ((w.setCell ⟨b, 4, none⟩ (.int .i64 n)).alloc o).cell? ⟨b, 5, none⟩ = some (.int .i64 d5) := fun o => (blk_cell (blk_alloc (InsB.put4 hI'.out n) o) 5).trans rfl
 have ck6 : ∀ o, ((w.setCell ⟨b, 4, none⟩ (.int .i64 n)).alloc o).cell? ⟨b, 6, none⟩ = some (.bool s2) := fun o => (blk_cell (blk_alloc (InsB.put4 hI'.out n) o) 6).trans rfl
 have ck7 : ∀ o, ((w.setCell ⟨b, 4, none⟩ (.int .i64 n)).alloc o).cell? ⟨b, 7, none⟩ = some (.bool s3) := fun o => (blk_cell (blk_alloc (InsB.put4 hI'.out n) o) 7).trans rfl
 go_enter Tryz.func58, Tryz.ntmps58
 go_wp2_with (fail)
 refine (he'.out _).mono ?_
 rintro e w1 ⟨rfl, hb⟩
 have I1 : Aside0 (InsB w1 b (s1, d1, d2, d3, n, d5, s2, s3)) := ⟨blk_below (blk_alloc (InsB.put4 hI'.out n) _) hb⟩
 have O1 : Aside0 (OnlyS [b] w w1) := ⟨(((OnlyS.refl _ _).set (by simp) 4 _).trans (OnlyS.of (below_alloc (Below.refl _ _) _))).trans (OnlyS.of hb)⟩
 clear hb; go_wp2_with (fail)
 go_ret
 exact ⟨rfl, I1.out, O1.out⟩
end Go.Proofs.YtknkfimpflodeaaGreatDoor.P
