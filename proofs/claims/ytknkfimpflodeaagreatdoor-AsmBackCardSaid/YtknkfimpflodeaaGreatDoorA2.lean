/- asm's of, join, Print: walked. -/
import Derived.Test.YtknkfimpflodeaaGreatDoorA1
import Derived.Test.YtknkfimpflodeaaGreatDoorRead
import Derived.Test.YtknkfimpflodeaaGreatDoorENames
import Derived.Test.YtknkfimpflodeaaGreatDoorGE
import Derived.Test.YtknkfimpflodeaaGreatDoorGA
import Derived.Maps.AppendAt
import Derived.Deep.AppendLies
namespace Go.Proofs.YtknkfimpflodeaaGreatDoor.P
open Go.RowKit Go.Proofs.YtknkfimpflodeaaGreatDoorW.PrintWords Go.Proofs.YtknkfimpflodeaaGreatDoorW.PrintLast Go.Proofs.YtknkfimpflodeaaGreatDoorW.PrintMore
set_option linter.unusedVariables false
/-- an instruction as a value -/
def insV (x : Ins) : Value := .agg #[.int .i64 x.1, .int .i64 x.2.1, .int .i64 x.2.2.1, .int .i64 x.2.2.2.1, .int .i64 x.2.2.2.2.1, .int .i64 x.2.2.2.2.2.1, .bool x.2.2.2.2.2.2.1, .bool x.2.2.2.2.2.2.2]
theorem encode_says (x : Ins) (w : World) : Calls Tryz.prog 23 #[insV x] w fun e w' => e = .returned (.tuple #[.int .u32 (encI x).1, .int .i64 (encI x).2]) ∧ Below w.heap.size w w' :=
 decode_Encode.calls 100 _ _ _ _ _ _ _ _ _ _ w (encode_at _ _ _ _ _ _ _ _ 100 (Nat.le_refl _))
theorem opL_opB (s : ByteArray) : ∀ (l : List (ByteArray × Int × Int × Int)) (op : Int), opL l op s = opOf.opB l op s.data.toList
 | [], op => rfl
 | r :: t, op => by
  unfold opL opOf.opB
  rw [opL_opB s t, Lib.toList_data, Lib.toList_data]
theorem op_says (s : ByteArray) (w : World) : Calls Tryz.prog 112 #[.string s] w fun e w' => e = .returned (.int .i64 (opOf s.data.toList)) ∧ Below w.heap.size w w' :=
 decode_Op.calls 120 s _ w (by rw [op_at s 120 (Nat.le_refl _), opL_opB]; rfl)
theorem name_says (op : Int) (h0 : 1 ≤ op) (h1 : op ≤ 113) (w : World) : Calls Tryz.prog 38 #[.int .i64 op] w fun e w' => e = .returned (sv (nameS op)) ∧ Below w.heap.size w w' := by
 have e : (rowR op).1 = ⟨(nameS op).toArray⟩ := by
  obtain ⟨j, rfl⟩ : ∃ j : Nat, op = (j : Int) + 1 := ⟨(op - 1).toNat, by omega⟩
  rw [rowR_at j (by omega)]
  unfold nameS rowAt
  rw [if_pos (by omega), show (j : Int) + 1 - 1 = (j : Int) by omega, Int.toNat_natCast]
 exact decode_Name.calls op _ w (by rw [name_at op (by omega) (by omega), e])
theorem far_says (op : Int) (w : World) : Calls Tryz.prog 117 #[.int .i64 op] w fun e w' => e = .returned (.bool (farS op)) ∧ Below w.heap.size w w' := by
 refine (asm_far.calls op (farS op) w ?_).mono fun e w' h => ⟨h.1, ?_⟩
 ·unfold asm_far.f farS
  by_cases h : op = 3
  ·rw [if_pos h, decide_eq_true h]; rfl
  ·rw [if_neg h]
   by_cases g : op ≥ 5
   ·rw [if_pos g, decide_eq_false h, decide_eq_true g]; rfl
   ·rw [if_neg g, decide_eq_false h, decide_eq_false g]; rfl
 ·obtain ⟨n, rfl⟩ := h.2
  exact below_drewN (Below.refl _ _) n
set_option maxHeartbeats 8000000 in
set_option maxRecDepth 100000 in
theorem of1_calls (x1 x2 x3 x4 x5 x6 : Int) (x7 x8 : Bool) (w : World) :
  Calls Tryz.prog 83 #[.agg #[.int .i64 x1, .int .i64 x2, .int .i64 x3, .int .i64 x4, .int .i64 x5, .int .i64 x6, .bool x7, .bool x8]] w fun e w' => e = .returned (.bool (rightI (x1, x2, x3, x4, x5, x6, x7, x8))) ∧ Below w.heap.size w w' := by
 unfold rightI
 have he := encode_says (x1, x2, x3, x4, x5, x6, x7, x8)
 unfold insV at he
 generalize encI (x1, x2, x3, x4, x5, x6, x7, x8) = R at he ⊢
 obtain ⟨r1, r2⟩ := R
 have he' := Aside0.mk he
 clear he; dsimp only; go_enter Tryz.func83, Tryz.ntmps83
 go_wp2_with (go_at_call 23; refine (he'.out _).mono ?_; rintro e w1 ⟨rfl, hb⟩; have hb1 := Aside0.mk (below_step (below_alloc (Below.refl _ _) _) hb); clear hb)
 go_ret
 exact ⟨by simp; rfl, hb1.out⟩
/-- operands as a value -/
def opsV (x : Bool × Bool × Bool × Bool × Bool) : Value := .agg #[.bool x.1, .bool x.2.1, .bool x.2.2.1, .bool x.2.2.2.1, .bool x.2.2.2.2]
set_option maxHeartbeats 8000000 in
set_option maxRecDepth 100000 in
theorem of_calls (op : Int) (w : World) :
  Calls Tryz.prog 39 #[.int .i64 op] w fun e w' => e = .returned (opsV (ofS op)) ∧ Below w.heap.size w w' := by
 unfold ofS opsV
 dsimp only; have hu := Tryz.underlying69
 obtain ⟨q1, e1⟩ : ∃ q, rightI (op, 1, 0, 0, 0, 0, false, false) = q := ⟨_, rfl⟩
 obtain ⟨q2, e2⟩ : ∃ q, rightI (op, 0, 1, 0, 0, 0, false, false) = q := ⟨_, rfl⟩
 obtain ⟨q3, e3⟩ : ∃ q, rightI (op, 0, 0, 1, 0, 0, false, false) = q := ⟨_, rfl⟩
 obtain ⟨q4, e4⟩ : ∃ q, rightI (op, 0, 0, 0, 4, 0, false, false) = q := ⟨_, rfl⟩
 obtain ⟨q5, e5⟩ : ∃ q, rightI (op, 0, 0, 0, 4096, 0, false, false) = q := ⟨_, rfl⟩
 obtain ⟨q6, e6⟩ : ∃ q, rightI (op, 0, 0, 0, 0, 1, false, false) = q := ⟨_, rfl⟩
 have e1' := Aside0.mk e1
 have e2' := Aside0.mk e2
 have e3' := Aside0.mk e3
 have e4' := Aside0.mk e4
 have e5' := Aside0.mk e5
 have e6' := Aside0.mk e6
 rw [e1, e2, e3, e4, e5, e6]
 clear e1 e2 e3 e4 e5 e6; have KG := Aside0.mk (heap_alloc_new w (.cells #[.bool false, .bool false, .bool false, .bool false, .bool false] 69))
 have HB := Aside0.mk (below_alloc (Below.refl _ w) (.cells #[.bool false, .bool false, .bool false, .bool false, .bool false] 69))
 cases q4
 all_goals
  go_enter Tryz.func39, Tryz.ntmps39
  go_wp2_with (go_at_call 83; refine (of1_calls _ _ _ _ _ _ _ _ _).mono ?_; rintro e w1 ⟨rfl, hb⟩; (try clear hg0 hg1 hg2 hg3 hg4 hgf); have n1 := Aside0.mk (blk_below KG.out hb); have n2 := Aside0.mk (below_step HB.out hb); clear hb KG HB; have KG := n1; have HB := n2; clear n1 n2; (try rw [e1'.out]); (try rw [e2'.out]); (try rw [e3'.out]); (try rw [e4'.out]); (try rw [e5'.out]); (try rw [e6'.out]); have hg0 := blk_cell KG.out 0; have hg1 := blk_cell KG.out 1; have hg2 := blk_cell KG.out 2; have hg3 := blk_cell KG.out 3; have hg4 := blk_cell KG.out 4; simp at hg0 hg1 hg2 hg3 hg4; have hgf := blk_frozen KG.out)
  refine bodyPost_ret (results_cell_row rfl _ _ w.heap.size 69 _ (0, 0) _ rfl (put5 KG.out rfl _ _ _ _ _) hu rfl (by kernel_rfl)) rfl ⟨rfl, bel5 HB.out (Nat.le_refl _) _ _ _ _ _⟩
end Go.Proofs.YtknkfimpflodeaaGreatDoor.P
