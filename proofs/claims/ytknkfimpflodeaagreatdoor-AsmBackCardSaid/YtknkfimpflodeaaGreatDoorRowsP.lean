/- What decode.rows hands back: the program's table as a value. -/
import Derived.Test.YtknkfimpflodeaaGreatDoorProg
import Derived.Test.YtknkfimpflodeaaGreatDoorTab
import Derived.Below
import Derived.WalkKit
import Derived.KernelRfl
import Derived.RowKit3
import Derived.Laws.Rows
import Derived.Laws.CopyOwn
import Derived.Handy
namespace Go.Proofs.YtknkfimpflodeaaGreatDoor.P
open Go.RowKit
set_option maxRecDepth 100000
set_option maxHeartbeats 4000000
def runB (P : Program) : List Oper → Act → Option Act
  | [], a => some a
  | o :: r, a => match o.guard, o.op with
    | none, .build t parts => (match P.built t (parts.map fun (i, x) => (i, a.eval x)).toList with
      | some cs => runB P r (a.put o.dst (.agg cs))
      | none => none)
    | _, _ => none
theorem wpList_runB {P : Program} {ops : Array Oper} {rest : List Oper} {Q : Exit → Act → World → Prop} {w : World} : ∀ (l : List Oper) (a a' : Act), runB P l a = some a' → wpList P ops Q rest a' w → wpList P ops Q (l ++ rest) a w
  | [], a, a', h, hq => by
    obtain rfl := Option.some.inj h
    exact hq
  | o :: r, a, a', h, hq => by
    unfold runB at h
    split at h
    · rename_i t parts hg ho
      split at h
      · rename_i cs hcs
        refine wpList_build hg t parts ho (by rw [hcs]; rfl) ?_
        rw [hcs]
        exact wpList_runB r _ a' h hq
      · cases h
    · cases h
theorem wpList_cut {P : Program} {ops : Array Oper} {l : List Oper} {Q : Exit → Act → World → Prop} {a : Act} {w : World} (n : Nat) (h : wpList P ops Q (l.take n ++ l.drop n) a w) : wpList P ops Q l a w := by
  rwa [List.take_append_drop] at h
theorem bind_of_map {α β : Type} {o : Option α} {f : α → β} {b : β} (h : o.map f = some b) : ∃ a, o = some a ∧ f a = b := by
  cases o with
  | none => cases h
  | some a => exact ⟨a, rfl, Option.some.inj h⟩
def flat (t : List (ByteArray × Int × Int × Int)) : List Value := t.flatMap fun r => [.string r.1, .int .u32 r.2.1, .int .u32 r.2.2.1, .int .i64 r.2.2.2]
def cellsP : Array Value := (flat tabP).toArray
theorem rows_calls (w : World) : Calls Tryz.prog 67 #[] w fun e w' => e = .returned (.agg cellsP) ∧ Below w.heap.size w w' := by
  go_enter Tryz.func67, Tryz.ntmps67
  refine wp_seq (wp_region_list ?_)
  refine wpList_plain rfl fun K hK => ?_
  unfold Oper.wp
  have hal : ∀ a : Act, (execOp a.eval { dst := some 0, op := Op.alloc 107, type := 0, pos := "rows.go:30", after := #[], guard := none }).run Tryz.prog w = .ok (.value (.pointer (some ⟨w.heap.size, 0, none⟩))) (w.alloc (.cells (((Tryz.prog.info? 107).bind (·.zero)).getD undef).cells 107)) := by
    intro a
    kernel_rfl
  rw [hal]
  refine hK _ _ ?_
  show Code.wp _ _ _ _ _
  refine wp_seq (wp_region_list (wpList_cut 114 ?_))
  obtain ⟨a', ha, he⟩ := bind_of_map (o := runB Tryz.prog _ _) (f := fun a : Act => (a.eval (.tmp 0), a.eval (.tmp 114), a.defers, a.tmps.getD 0 undef)) (b := (.pointer (some ⟨w.heap.size, 0, none⟩), .agg cellsP, [], .pointer (some ⟨w.heap.size, 0, none⟩))) (by kernel_rfl)
  simp only [Prod.mk.injEq] at he
  obtain ⟨h0, h1, h2, h3⟩ := he
  refine wpList_runB _ _ a' ha ?_
  clear ha
  have hd : ∀ (ops : Array Oper) (l : List Oper) (n : Nat) (o : Oper) (Q : Exit → Act → World → Prop) (W : World), (l.drop n).head? = some o → (l.drop n).tail = [] → wpList Tryz.prog ops Q [o] a' W → wpList Tryz.prog ops Q (l.drop n) a' W := by
    intro ops l n o Q W ho ht h
    cases e : l.drop n with
    | nil => rw [e] at ho; cases ho
    | cons x r =>
      rw [e] at ho ht
      obtain rfl := Option.some.inj ho
      obtain rfl : r = [] := ht
      exact h
  refine hd _ _ _ { dst := none, op := Op.store 107 (.tmp 0) (.tmp 114), type := 0, pos := "rows.go:31", after := _, guard := none } _ _ rfl rfl ?_
  refine wpList_store_row rfl 107 (.tmp 0) (.tmp 114) rfl w.heap.size cellsP h0 h1 107 _ (heap_alloc_new _ _) (by kernel_rfl) (by kernel_rfl) (by kernel_rfl) ?_
  refine wp_ret ?_
  refine bodyPost_ret (v := .agg cellsP) (results_cell_row Tryz.results67 _ _ w.heap.size 107 cellsP (0, 0) _ h3 (setRow_heap _ _ _ _ _ _ (heap_alloc_new _ _)) Tryz.underlying107 rfl (by kernel_rfl)) h2 ⟨rfl, ?_⟩
  exact below_setRow ((Below.refl _ _).alloc (Nat.le_refl _) _) (Nat.le_refl _) _
def rowCells (r : ByteArray × Int × Int × Int) : List Value := [.string r.1, .int .u32 r.2.1, .int .u32 r.2.2.1, .int .i64 r.2.2.2]
theorem flat_at : ∀ (t : List (ByteArray × Int × Int × Int)) (i : Nat), i < t.length → ((flat t).drop (4 * i)).take 4 = rowCells (t.getD i rowZ)
  | [], i, h => by simp at h
  | r :: t, 0, _ => by simp [flat, rowCells]
  | r :: t, i + 1, h => by
    have ih := flat_at t i (by simpa using h)
    have e : flat (r :: t) = rowCells r ++ flat t := rfl
    rw [e, show 4 * (i + 1) = (rowCells r).length + 4 * i by simp [rowCells]; omega, ← List.drop_drop, List.drop_left]
    simpa using ih
theorem tabP_length : tabP.length = 113 := by decide +kernel
def rowAt (i : Int) : ByteArray × Int × Int × Int := tabP.getD i.toNat rowZ
theorem run_rowAt (i : Int) (h0 : 0 ≤ i) (h1 : i < 113) (W : World) : (Instr.index 107 (.agg cellsP) (.int .i64 i)).run Tryz.prog W = .ok (.agg #[.string (rowAt i).1, .int .u32 (rowAt i).2.1, .int .u32 (rowAt i).2.2.1, .int .i64 (rowAt i).2.2.2]) W := by
  have e : cellsP.extract (i.toNat * 4) (i.toNat * 4 + 4) = (rowCells (tabP.getD i.toNat rowZ)).toArray := by
    have := flat_at tabP i.toNat (by rw [tabP_length]; omega)
    rw [← this]
    unfold cellsP
    simp [Nat.mul_comm]
  have hi : (Tryz.prog.info? 106).map (·.size) = some 4 := by kernel_rfl
  have hagg : (isAgg 106).run Tryz.prog W = .ok true W := by
    unfold isAgg
    rw [Sem.run_bind, run_underlying Tryz.underlying106 W]
    rfl
  cases hq : Tryz.prog.info? 106 with
  | none => simp [hq] at hi
  | some inf =>
    have hs : inf.size = 4 := by simpa [hq] using hi
    simp [Instr.index, run_underlying Tryz.underlying107, asIntOf, Sem.run_bind, go_sem, h0, h1, part, sizeOf, typeInfo, hq, hs, e, rowAt, rowCells]
theorem run_f0 (a b c d : Value) (W : World) : (Instr.field 106 (.agg #[a, b, c, d]) 0).run Tryz.prog W = .ok a W := by kernel_rfl
theorem run_f1 (a b c d : Value) (W : World) : (Instr.field 106 (.agg #[a, b, c, d]) 1).run Tryz.prog W = .ok b W := by kernel_rfl
theorem run_f2 (a b c d : Value) (W : World) : (Instr.field 106 (.agg #[a, b, c, d]) 2).run Tryz.prog W = .ok c W := by kernel_rfl
theorem run_f3 (a b c d : Value) (W : World) : (Instr.field 106 (.agg #[a, b, c, d]) 3).run Tryz.prog W = .ok d W := by kernel_rfl
theorem run_g0 (a b c d : Value) (W : World) : (Instr.field 75 (.agg #[a, b, c, d]) 0).run Tryz.prog W = .ok a W := by kernel_rfl
theorem run_g1 (a b c d : Value) (W : World) : (Instr.field 75 (.agg #[a, b, c, d]) 1).run Tryz.prog W = .ok b W := by kernel_rfl
theorem run_g2 (a b c d : Value) (W : World) : (Instr.field 75 (.agg #[a, b, c, d]) 2).run Tryz.prog W = .ok c W := by kernel_rfl
theorem run_g3 (a b c d : Value) (W : World) : (Instr.field 75 (.agg #[a, b, c, d]) 3).run Tryz.prog W = .ok d W := by kernel_rfl
def decode_rows.f : Option Unit := some ()
theorem decode_rows.calls (r : Unit) (w : World) (_h : decode_rows.f = some r) : Calls Tryz.prog 67 #[] w fun e w' => e = .returned (.agg cellsP) ∧ Below w.heap.size w w' := rows_calls w
end Go.Proofs.YtknkfimpflodeaaGreatDoor.P
