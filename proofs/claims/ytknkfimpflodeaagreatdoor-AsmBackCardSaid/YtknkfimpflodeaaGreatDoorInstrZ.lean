/- An instruction that comes in by value (a struct of eight cells): what it is, and that it reads the same in whatever world. No function's walk. -/
import Derived.Test.YtknkfimpflodeaaGreatDoorProg
import Derived.WalkKit
import Derived.ProofKit
import Derived.OpenShut
import Derived.ChangeOld
namespace Go.Proofs.YtknkfimpflodeaaGreatDoor.P
open Go.ChangeShapes Go.WideShapes Go.ChangeAt Go.RowKit
set_option linter.unusedVariables false
theorem array8 {α : Type} {cs : Array α} (h : cs.size = 8) : ∃ c0 c1 c2 c3 c4 c5 c6 c7, cs = #[c0, c1, c2, c3, c4, c5, c6, c7] := by
 obtain ⟨l⟩ := cs
 match l, h with
 | [c0, c1, c2, c3, c4, c5, c6, c7], _ => exact ⟨c0, c1, c2, c3, c4, c5, c6, c7, rfl⟩
theorem list8 {α : Type} {l : List α} (h : l.length = 8) : ∃ c0 c1 c2 c3 c4 c5 c6 c7, l = [c0, c1, c2, c3, c4, c5, c6, c7] := by
 match l, h with
 | [c0, c1, c2, c3, c4, c5, c6, c7], _ => exact ⟨c0, c1, c2, c3, c4, c5, c6, c7, rfl⟩
section
variable {H : Type} {enc : TypeId × Value → H}
theorem trod_i64 {w : World} {base : Nat} {spare : Nat → Bool} {held : Bool} {t : TypeId} {k : IntKind} {n : Int} (ht : Tryz.prog.underlying t = some (.int k)) (hw : (Lit.int k n).wf = true) :
  DataW.trod enc Tryz.prog w base spare held 1 t [.int k n] = some (.lit (.int k n), []) := by simp [DataW.trod, ht, hw]
theorem trod_b {w : World} {base : Nat} {spare : Nat → Bool} {held : Bool} {t : TypeId} {b : Bool} (ht : Tryz.prog.underlying t = some .bool) :
  DataW.trod enc Tryz.prog w base spare held 1 t [.bool b] = some (.lit (.bool b), []) := by simp [DataW.trod, ht]
set_option maxRecDepth 100000 in
theorem open_instr {w : World} {base : Nat} {spare : Nat → Bool} {held : Bool} {r : Reach} {b0 : Nat} {v : Value} {d : DataW H} {p : List MemPlace} (hv : Value.okWide Tryz.prog w r b0 23 v) (h : DataW.Trod enc Tryz.prog w base spare held 23 v d p) :
  ∃ (x0 x1 x2 x3 x4 x5 : Int) (x6 x7 : Bool), v = .agg #[.int .i64 x0, .int .i64 x1, .int .i64 x2, .int .i64 x3, .int .i64 x4, .int .i64 x5, .bool x6, .bool x7] ∧ p = [] ∧
   ((Lit.int .i64 x0).wf = true ∧ (Lit.int .i64 x1).wf = true ∧ (Lit.int .i64 x2).wf = true ∧ (Lit.int .i64 x3).wf = true ∧ (Lit.int .i64 x4).wf = true ∧ (Lit.int .i64 x5).wf = true) ∧
   ∀ w' base' spare' held', DataW.Trod enc Tryz.prog w' base' spare' held' 23 v d [] := by
 have hc : Tryz.prog.cellsOf 23 = 8 := by kernel_rfl
 have c3 : Tryz.prog.cellsOf 3 = 1 := by kernel_rfl
 have c2 : Tryz.prog.cellsOf 2 = 1 := by kernel_rfl
 have c4 : Tryz.prog.cellsOf 4 = 1 := by kernel_rfl
 obtain ⟨cs, rfl, hsz⟩ := okWide_struct Tryz.underlying23 hv
 obtain ⟨v0, v1, v2, v3, v4, v5, v6, v7, rfl⟩ := array8 (hsz.trans hc)
 obtain ⟨fuel, hf⟩ := h
 obtain ⟨xs, n, -, hx, -, hlen, hfs⟩ := DataW.trod_struct Tryz.underlying23 hf
 obtain ⟨y0, y1, y2, y3, y4, y5, y6, y7, rfl⟩ := list8 hlen
 have g0 := hfs 0 _ rfl
 have g1 := hfs 1 _ rfl
 have g2 := hfs 2 _ rfl
 have g3 := hfs 3 _ rfl
 have g4 := hfs 4 _ rfl
 have g5 := hfs 5 _ rfl
 have g6 := hfs 6 _ rfl
 have g7 := hfs 7 _ rfl
 clear hfs; simp [Value.cells, c3, c2, c4] at g0 g1 g2 g3 g4 g5 g6 g7
 obtain ⟨x0, e0, rfl, w0⟩ := DataW.trod_int Tryz.underlying3 g0
 obtain ⟨x1, e1, rfl, w1⟩ := DataW.trod_int Tryz.underlying3 g1
 obtain ⟨x2, e2, rfl, w2⟩ := DataW.trod_int Tryz.underlying3 g2
 obtain ⟨x3, e3, rfl, w3⟩ := DataW.trod_int Tryz.underlying3 g3
 obtain ⟨x4, e4, rfl, w4⟩ := DataW.trod_int Tryz.underlying2 g4
 obtain ⟨x5, e5, rfl, w5⟩ := DataW.trod_int Tryz.underlying3 g5
 obtain ⟨x6, e6, rfl⟩ := DataW.trod_bool Tryz.underlying4 g6
 obtain ⟨x7, e7, rfl⟩ := DataW.trod_bool Tryz.underlying4 g7
 simp only [List.cons.injEq, and_true] at e0 e1 e2 e3 e4 e5 e6 e7
 subst e0; subst e1; subst e2; subst e3; subst e4; subst e5; subst e6; subst e7
 simp only [Prod.mk.injEq] at hx
 obtain ⟨rfl, rfl⟩ := hx
 refine ⟨x0, x1, x2, x3, x4, x5, x6, x7, rfl, rfl, ⟨w0, w1, w2, w3, w4, w5⟩, fun w' base' spare' held' => ⟨2, ?_⟩⟩
 refine trod_struct_mk (enc := enc) (w := w') (base := base') (spare := spare') (held := held') (n := 1) (xs := [(.lit (.int .i64 x0), []), (.lit (.int .i64 x1), []), (.lit (.int .i64 x2), []), (.lit (.int .i64 x3), []), (.lit (.int .i64 x4), []), (.lit (.int .i64 x5), []), (.lit (.bool x6), []), (.lit (.bool x7), [])]) Tryz.underlying23 (by rw [hc]; rfl) ?_
 simp [Value.cells, c3, c2, c4, trod_i64 Tryz.underlying3 w0, trod_i64 Tryz.underlying3 w1, trod_i64 Tryz.underlying3 w2, trod_i64 Tryz.underlying3 w3, trod_i64 Tryz.underlying2 w4, trod_i64 Tryz.underlying3 w5, trod_b Tryz.underlying4]
end
end Go.Proofs.YtknkfimpflodeaaGreatDoor.P
