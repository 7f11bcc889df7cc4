/- AsmBack: walked, its eight ways, and joined. -/
import Derived.Test.YtknkfimpflodeaaGreatDoorWk
import Derived.Test.YtknkfimpflodeaaGreatDoorA4
import Derived.Test.YtknkfimpflodeaaGreatDoorA8
import Derived.Test.YtknkfimpflodeaaGreatDoorZk
import Derived.Test.YtknkfimpflodeaaGreatDoorG0
import Derived.Test.YtknkfimpflodeaaGreatDoorZk0
import Derived.Test.YtknkfimpflodeaaGreatDoorZk1
import Derived.Test.YtknkfimpflodeaaGreatDoorZk2
import Derived.Test.YtknkfimpflodeaaGreatDoorZk3
import Derived.Test.YtknkfimpflodeaaGreatDoorZk4
import Derived.Test.YtknkfimpflodeaaGreatDoorZk5
import Derived.Test.YtknkfimpflodeaaGreatDoorZk6
import Derived.Test.YtknkfimpflodeaaGreatDoorZk7
import Derived.Test.YtknkfimpflodeaaGreatDoorZk8
import Derived.Test.YtknkfimpflodeaaGreatDoorZkN
namespace Go.Proofs.YtknkfimpflodeaaGreatDoor.P
open Go.RowKit Go.Proofs.YtknkfimpflodeaaGreatDoorW.PrintWords Go.Proofs.YtknkfimpflodeaaGreatDoorW.PrintLast Go.Proofs.YtknkfimpflodeaaGreatDoorW.PrintMore
set_option linter.unusedVariables false
theorem read_calls (l : BL) (hl : l.length < 4294967281) (w : World) (hE : Env w) :
  Calls Tryz.prog 72 #[sv l] w fun e w' => e = .returned (readV l) ∧ Below w.heap.size w w' := by
 by_cases hz : (opS (Lib.cut l [32]).1).1 = 0
 ·exact read_none l hl hz w hE
 ·obtain ⟨j, h1, h2, -⟩ := opS_inv _ hz
  rcases of_nine _ j h1 h2 with h | h | h | h | h | h | h | h | h
  ·exact read_k0 l hl hz h w hE
  ·exact read_k1 l hl hz h w hE
  ·exact read_k2 l hl hz h w hE
  ·exact read_k3 l hl hz h w hE
  ·exact read_k4 l hl hz h w hE
  ·exact read_k5 l hl hz h w hE
  ·exact read_k6 l hl hz h w hE
  ·exact read_k7 l hl hz h w hE
  ·exact read_k8 l hl hz h w hE

set_option linter.unusedSimpArgs false
attribute [local go_sem high] eqA23
/-- an instruction is read as it was written -/
theorem back_print (i : Ins) : (∃ p : BL, p.length ≤ 1000 ∧ printS i = (p, 0) ∧ parseS p = (i, 0)) ∨ printS i = ([], 80) := by
 by_cases h : rightI i = true
 ·left
  have h1 := printS_line i h
  refine ⟨lineOf i [], ?_, h1, ?_⟩
  ·obtain ⟨⟨b1, b2, b3, b4, b5, b6, b7, b8⟩, -, -, -, -, -, b9, b10⟩ := right_parts _ h
   obtain ⟨j, hj, e⟩ := right_op _ h
   have hN : (nameS i.1).length ≤ 20 := by rw [e]; exact name_len j hj
   have hM := more_len i b1 b2 b3 b4 b5 b6 b7 b8 b9 b10
   rw [moreS_eq] at hM
   have hs : ∀ x y : Bool, (sufS x y).length ≤ 5 := by decide
   have := hs i.2.2.2.2.2.2.1 i.2.2.2.2.2.2.2
   unfold lineOf
   split
   ·simp only [List.length_append, List.length_cons]; omega
   ·simp only [List.length_append, List.length_nil]; omega
  ·unfold parseS
   rw [read_line i [] h (.inl rfl)]
 ·exact .inr (printS_wrong i (Bool.eq_false_iff.2 h))
/-- a line that is read is written as it stands -/
theorem back_parse (l : BL) : parseS l = (ins0, 100) ∨ ∃ k, parseS l = (k, 0) ∧ printS k = (l, 0) := by
 unfold parseS
 cases h : readS l with
 | none => exact .inl rfl
 | some r =>
  obtain ⟨k, lbl⟩ := r
  cases lbl with
  | cons c t => exact .inl rfl
  | nil =>
   obtain ⟨h1, h2, -⟩ := read_back l k [] h
   exact .inr ⟨k, rfl, by rw [printS_line k h1, ← h2]⟩
theorem take_sv (l : BL) : (⟨l.toArray⟩ : ByteArray).extract 0 5000 = ⟨(l.take 5000).toArray⟩ := by
 have h := Lib.extract_data ⟨l.toArray⟩ 0 5000
 have e : ∀ b : ByteArray, b = ⟨b.data.toList.toArray⟩ := fun b => rfl
 rw [e (ByteArray.extract _ 0 5000), h]
 rfl
set_option maxHeartbeats 8000000 in
set_option maxRecDepth 100000 in
theorem back_acs (x0 x1 x2 x3 x4 x5 : Int) (x6 x7 : Bool) (p : BL) (l : BL) (hl : l.length ≤ 5000) (w : World) (hE : Env w) (hwk : ∀ W, Env W → Calls Tryz.prog 16 #[] W fun e w' => e = .returned (.bool true) ∧ Below W.heap.size W w')
  (q1 : ∀ W, Env W → Calls Tryz.prog 14 #[.agg #[.int .i64 x0, .int .i64 x1, .int .i64 x2, .int .i64 x3, .int .i64 x4, .int .i64 x5, .bool x6, .bool x7]] W fun e w' => e = .returned (.tuple #[sv p, .int .i64 0]) ∧ Below W.heap.size W w')
  (q2 : ∀ W, Env W → Calls Tryz.prog 25 #[sv p] W fun e w' => e = .returned (.tuple #[.agg #[.int .i64 x0, .int .i64 x1, .int .i64 x2, .int .i64 x3, .int .i64 x4, .int .i64 x5, .bool x6, .bool x7], .int .i64 0]) ∧ Below W.heap.size W w')
  (q3 : ∀ W, Env W → Calls Tryz.prog 25 #[sv l] W fun e w' => e = .returned (.tuple #[.agg #[.int .i64 0, .int .i64 0, .int .i64 0, .int .i64 0, .int .i64 0, .int .i64 0, .bool false, .bool false], .int .i64 100]) ∧ Below W.heap.size W w') :
  Calls Tryz.prog 9 #[.agg #[.int .i64 x0, .int .i64 x1, .int .i64 x2, .int .i64 x3, .int .i64 x4, .int .i64 x5, .bool x6, .bool x7], sv l] w fun e w' => e = .returned (.bool true) ∧ Below w.heap.size w w' := by
 have hsz : (⟨l.toArray⟩ : ByteArray).size = l.length := sv_size l
 have c5 : decide ((l.length : Int) > 5000) = false := decide_eq_false (by omega)
 have q1' := Aside0.mk q1
 have q2' := Aside0.mk q2
 have q3' := Aside0.mk q3
 have hwk' := Aside0.mk hwk
 have hE' := Aside0.mk hE
 clear q1 q2 q3 hE hl hwk; have KG := Aside0.mk (heap_alloc_new w (.cells #[.int .i64 x0, .int .i64 x1, .int .i64 x2, .int .i64 x3, .int .i64 x4, .int .i64 x5, .bool x6, .bool x7] 23))
 have HB := Aside0.mk (below_alloc (Below.refl w.heap.size w) (.cells #[.int .i64 x0, .int .i64 x1, .int .i64 x2, .int .i64 x3, .int .i64 x4, .int .i64 x5, .bool x6, .bool x7] 23))
 go_enter Tryz.func9, Tryz.ntmps9
 go_wp2_with (fail)
 refine (q1'.out _ (hE'.out.below HB.out)).mono ?_
 rintro _ w1 ⟨rfl, hb⟩
 have K1 : Aside0 (InsB w1 w.heap.size (x0, x1, x2, x3, x4, x5, x6, x7)) := ⟨blk_below KG.out hb⟩
 have B1 := Aside0.mk (below_step HB.out hb)
 clear hb KG HB; go_wp2_with (fail)
 refine (q2'.out _ (hE'.out.below B1.out)).mono ?_
 rintro _ w2 ⟨rfl, hb⟩
 have K2 : Aside0 (InsB w2 w.heap.size (x0, x1, x2, x3, x4, x5, x6, x7)) := ⟨blk_below K1.out hb⟩
 have B2 := Aside0.mk (below_step B1.out hb)
 clear hb K1 B1; obtain ⟨cj0, cj1, cj2, cj3, cj4, cj5, cj6, cj7, fj⟩ := ins_cells K2.out
 have gi : ¬ w2.heap.size = w.heap.size := by have := blk_lt K2.out; omega
 have gi2 : ¬ w.heap.size = w2.heap.size := by have := blk_lt K2.out; omega
 go_wp2_with (fail)
 refine (q3'.out _ ((hE'.out.below B2.out).alloc _)).mono ?_
 rintro _ w3 ⟨rfl, hb⟩
 have B3 := Aside0.mk (below_step (below_alloc B2.out _) hb)
 clear hb cj0 cj1 cj2 cj3 cj4 cj5 cj6 cj7 fj gi gi2 K2 B2; go_wp2_with (fail)
 refine (hwk'.out _ (hE'.out.below (below_alloc B3.out _))).mono ?_
 rintro _ w8 ⟨rfl, hb⟩
 have B8 := Aside0.mk (below_step (below_alloc B3.out _) hb)
 clear hb; go_wp2_with (fail)
 go_ret
 exact ⟨rfl, B8.out⟩
set_option maxHeartbeats 8000000 in
set_option maxRecDepth 100000 in
theorem back_acl (x0 x1 x2 x3 x4 x5 : Int) (x6 x7 : Bool) (p : BL) (l : BL) (s : ByteArray) (hs : 5000 < s.size) (hx : s.extract 0 5000 = ⟨l.toArray⟩) (w : World) (hE : Env w) (hwk : ∀ W, Env W → Calls Tryz.prog 16 #[] W fun e w' => e = .returned (.bool true) ∧ Below W.heap.size W w')
  (q1 : ∀ W, Env W → Calls Tryz.prog 14 #[.agg #[.int .i64 x0, .int .i64 x1, .int .i64 x2, .int .i64 x3, .int .i64 x4, .int .i64 x5, .bool x6, .bool x7]] W fun e w' => e = .returned (.tuple #[sv p, .int .i64 0]) ∧ Below W.heap.size W w')
  (q2 : ∀ W, Env W → Calls Tryz.prog 25 #[sv p] W fun e w' => e = .returned (.tuple #[.agg #[.int .i64 x0, .int .i64 x1, .int .i64 x2, .int .i64 x3, .int .i64 x4, .int .i64 x5, .bool x6, .bool x7], .int .i64 0]) ∧ Below W.heap.size W w')
  (q3 : ∀ W, Env W → Calls Tryz.prog 25 #[sv l] W fun e w' => e = .returned (.tuple #[.agg #[.int .i64 0, .int .i64 0, .int .i64 0, .int .i64 0, .int .i64 0, .int .i64 0, .bool false, .bool false], .int .i64 100]) ∧ Below W.heap.size W w') :
  Calls Tryz.prog 9 #[.agg #[.int .i64 x0, .int .i64 x1, .int .i64 x2, .int .i64 x3, .int .i64 x4, .int .i64 x5, .bool x6, .bool x7], .string s] w fun e w' => e = .returned (.bool true) ∧ Below w.heap.size w w' := by
 have c5 : decide ((s.size : Int) > 5000) = true := decide_eq_true (by omega)
 have c6 : ((5000 : Nat) : Int) ≤ (s.size : Int) := by omega
 have c7 : (5000 : Nat) ≤ s.size := by omega
 have c8 : (5000 : Int) ≤ (s.size : Int) := by omega
 have q1' := Aside0.mk q1
 have q2' := Aside0.mk q2
 have q3' := Aside0.mk q3
 have hwk' := Aside0.mk hwk
 have hE' := Aside0.mk hE
 clear q1 q2 q3 hE hs hwk; have KG := Aside0.mk (heap_alloc_new w (.cells #[.int .i64 x0, .int .i64 x1, .int .i64 x2, .int .i64 x3, .int .i64 x4, .int .i64 x5, .bool x6, .bool x7] 23))
 have HB := Aside0.mk (below_alloc (Below.refl w.heap.size w) (.cells #[.int .i64 x0, .int .i64 x1, .int .i64 x2, .int .i64 x3, .int .i64 x4, .int .i64 x5, .bool x6, .bool x7] 23))
 have hx' := Aside0.mk hx
 go_enter Tryz.func9, Tryz.ntmps9
 go_wp2_with (fail)
 refine (q1'.out _ (hE'.out.below HB.out)).mono ?_
 rintro _ w1 ⟨rfl, hb⟩
 have K1 : Aside0 (InsB w1 w.heap.size (x0, x1, x2, x3, x4, x5, x6, x7)) := ⟨blk_below KG.out hb⟩
 have B1 := Aside0.mk (below_step HB.out hb)
 clear hb KG HB; go_wp2_with (fail)
 refine (q2'.out _ (hE'.out.below B1.out)).mono ?_
 rintro _ w2 ⟨rfl, hb⟩
 have K2 : Aside0 (InsB w2 w.heap.size (x0, x1, x2, x3, x4, x5, x6, x7)) := ⟨blk_below K1.out hb⟩
 have B2 := Aside0.mk (below_step B1.out hb)
 clear hb K1 B1; obtain ⟨cj0, cj1, cj2, cj3, cj4, cj5, cj6, cj7, fj⟩ := ins_cells K2.out
 have gi : ¬ w2.heap.size = w.heap.size := by have := blk_lt K2.out; omega
 have gi2 : ¬ w.heap.size = w2.heap.size := by have := blk_lt K2.out; omega
 go_wp2_with (fail)
 refine (q3'.out _ ((hE'.out.below B2.out).alloc _)).mono ?_
 rintro _ w3 ⟨rfl, hb⟩
 have B3 := Aside0.mk (below_step (below_alloc B2.out _) hb)
 clear hb cj0 cj1 cj2 cj3 cj4 cj5 cj6 cj7 fj gi gi2 K2 B2; go_wp2_with (fail)
 refine (hwk'.out _ (hE'.out.below (below_alloc B3.out _))).mono ?_
 rintro _ w8 ⟨rfl, hb⟩
 have B8 := Aside0.mk (below_step (below_alloc B3.out _) hb)
 clear hb; go_wp2_with (fail)
 go_ret
 exact ⟨rfl, B8.out⟩
set_option maxHeartbeats 8000000 in
set_option maxRecDepth 100000 in
theorem back_ads (x0 x1 x2 x3 x4 x5 : Int) (x6 x7 : Bool) (p : BL) (k0 k1 k2 k3 k4 k5 : Int) (k6 k7 : Bool) (l : BL) (hl : l.length ≤ 5000) (w : World) (hE : Env w) (hwk : ∀ W, Env W → Calls Tryz.prog 16 #[] W fun e w' => e = .returned (.bool true) ∧ Below W.heap.size W w')
  (q1 : ∀ W, Env W → Calls Tryz.prog 14 #[.agg #[.int .i64 x0, .int .i64 x1, .int .i64 x2, .int .i64 x3, .int .i64 x4, .int .i64 x5, .bool x6, .bool x7]] W fun e w' => e = .returned (.tuple #[sv p, .int .i64 0]) ∧ Below W.heap.size W w')
  (q2 : ∀ W, Env W → Calls Tryz.prog 25 #[sv p] W fun e w' => e = .returned (.tuple #[.agg #[.int .i64 x0, .int .i64 x1, .int .i64 x2, .int .i64 x3, .int .i64 x4, .int .i64 x5, .bool x6, .bool x7], .int .i64 0]) ∧ Below W.heap.size W w')
  (q3 : ∀ W, Env W → Calls Tryz.prog 25 #[sv l] W fun e w' => e = .returned (.tuple #[.agg #[.int .i64 k0, .int .i64 k1, .int .i64 k2, .int .i64 k3, .int .i64 k4, .int .i64 k5, .bool k6, .bool k7], .int .i64 0]) ∧ Below W.heap.size W w')
  (q4 : ∀ W, Env W → Calls Tryz.prog 14 #[.agg #[.int .i64 k0, .int .i64 k1, .int .i64 k2, .int .i64 k3, .int .i64 k4, .int .i64 k5, .bool k6, .bool k7]] W fun e w' => e = .returned (.tuple #[sv l, .int .i64 0]) ∧ Below W.heap.size W w') :
  Calls Tryz.prog 9 #[.agg #[.int .i64 x0, .int .i64 x1, .int .i64 x2, .int .i64 x3, .int .i64 x4, .int .i64 x5, .bool x6, .bool x7], sv l] w fun e w' => e = .returned (.bool true) ∧ Below w.heap.size w w' := by
 have hsz : (⟨l.toArray⟩ : ByteArray).size = l.length := sv_size l
 have c5 : decide ((l.length : Int) > 5000) = false := decide_eq_false (by omega)
 have q1' := Aside0.mk q1
 have q2' := Aside0.mk q2
 have q3' := Aside0.mk q3
 have q4' := Aside0.mk q4
 have hwk' := Aside0.mk hwk
 have hE' := Aside0.mk hE
 clear q1 q2 q3 q4 hE hl hwk; have KG := Aside0.mk (heap_alloc_new w (.cells #[.int .i64 x0, .int .i64 x1, .int .i64 x2, .int .i64 x3, .int .i64 x4, .int .i64 x5, .bool x6, .bool x7] 23))
 have HB := Aside0.mk (below_alloc (Below.refl w.heap.size w) (.cells #[.int .i64 x0, .int .i64 x1, .int .i64 x2, .int .i64 x3, .int .i64 x4, .int .i64 x5, .bool x6, .bool x7] 23))
 go_enter Tryz.func9, Tryz.ntmps9
 go_wp2_with (fail)
 refine (q1'.out _ (hE'.out.below HB.out)).mono ?_
 rintro _ w1 ⟨rfl, hb⟩
 have K1 : Aside0 (InsB w1 w.heap.size (x0, x1, x2, x3, x4, x5, x6, x7)) := ⟨blk_below KG.out hb⟩
 have B1 := Aside0.mk (below_step HB.out hb)
 clear hb KG HB; go_wp2_with (fail)
 refine (q2'.out _ (hE'.out.below B1.out)).mono ?_
 rintro _ w2 ⟨rfl, hb⟩
 have K2 : Aside0 (InsB w2 w.heap.size (x0, x1, x2, x3, x4, x5, x6, x7)) := ⟨blk_below K1.out hb⟩
 have B2 := Aside0.mk (below_step B1.out hb)
 clear hb K1 B1; obtain ⟨cj0, cj1, cj2, cj3, cj4, cj5, cj6, cj7, fj⟩ := ins_cells K2.out
 have gi : ¬ w2.heap.size = w.heap.size := by have := blk_lt K2.out; omega
 have gi2 : ¬ w.heap.size = w2.heap.size := by have := blk_lt K2.out; omega
 go_wp2_with (fail)
 refine (q3'.out _ ((hE'.out.below B2.out).alloc _)).mono ?_
 rintro _ w3 ⟨rfl, hb⟩
 have B3 := Aside0.mk (below_step (below_alloc B2.out _) hb)
 clear hb cj0 cj1 cj2 cj3 cj4 cj5 cj6 cj7 fj gi gi2 K2 B2; go_wp2_with (fail)
 refine (q4'.out _ ((hE'.out.below B3.out).alloc _)).mono ?_
 rintro _ w4 ⟨rfl, hb⟩
 have B4 := Aside0.mk (below_step (below_alloc B3.out _) hb)
 clear hb B3; go_wp2_with (fail)
 refine (hwk'.out _ (hE'.out.below B4.out)).mono ?_
 rintro _ w8 ⟨rfl, hb⟩
 have B8 := Aside0.mk (below_step B4.out hb)
 clear hb; go_wp2_with (fail)
 go_ret
 exact ⟨rfl, B8.out⟩
set_option maxHeartbeats 8000000 in
set_option maxRecDepth 100000 in
theorem back_adl (x0 x1 x2 x3 x4 x5 : Int) (x6 x7 : Bool) (p : BL) (k0 k1 k2 k3 k4 k5 : Int) (k6 k7 : Bool) (l : BL) (s : ByteArray) (hs : 5000 < s.size) (hx : s.extract 0 5000 = ⟨l.toArray⟩) (w : World) (hE : Env w) (hwk : ∀ W, Env W → Calls Tryz.prog 16 #[] W fun e w' => e = .returned (.bool true) ∧ Below W.heap.size W w')
  (q1 : ∀ W, Env W → Calls Tryz.prog 14 #[.agg #[.int .i64 x0, .int .i64 x1, .int .i64 x2, .int .i64 x3, .int .i64 x4, .int .i64 x5, .bool x6, .bool x7]] W fun e w' => e = .returned (.tuple #[sv p, .int .i64 0]) ∧ Below W.heap.size W w')
  (q2 : ∀ W, Env W → Calls Tryz.prog 25 #[sv p] W fun e w' => e = .returned (.tuple #[.agg #[.int .i64 x0, .int .i64 x1, .int .i64 x2, .int .i64 x3, .int .i64 x4, .int .i64 x5, .bool x6, .bool x7], .int .i64 0]) ∧ Below W.heap.size W w')
  (q3 : ∀ W, Env W → Calls Tryz.prog 25 #[sv l] W fun e w' => e = .returned (.tuple #[.agg #[.int .i64 k0, .int .i64 k1, .int .i64 k2, .int .i64 k3, .int .i64 k4, .int .i64 k5, .bool k6, .bool k7], .int .i64 0]) ∧ Below W.heap.size W w')
  (q4 : ∀ W, Env W → Calls Tryz.prog 14 #[.agg #[.int .i64 k0, .int .i64 k1, .int .i64 k2, .int .i64 k3, .int .i64 k4, .int .i64 k5, .bool k6, .bool k7]] W fun e w' => e = .returned (.tuple #[sv l, .int .i64 0]) ∧ Below W.heap.size W w') :
  Calls Tryz.prog 9 #[.agg #[.int .i64 x0, .int .i64 x1, .int .i64 x2, .int .i64 x3, .int .i64 x4, .int .i64 x5, .bool x6, .bool x7], .string s] w fun e w' => e = .returned (.bool true) ∧ Below w.heap.size w w' := by
 have c5 : decide ((s.size : Int) > 5000) = true := decide_eq_true (by omega)
 have c6 : ((5000 : Nat) : Int) ≤ (s.size : Int) := by omega
 have c7 : (5000 : Nat) ≤ s.size := by omega
 have c8 : (5000 : Int) ≤ (s.size : Int) := by omega
 have q1' := Aside0.mk q1
 have q2' := Aside0.mk q2
 have q3' := Aside0.mk q3
 have q4' := Aside0.mk q4
 have hwk' := Aside0.mk hwk
 have hE' := Aside0.mk hE
 clear q1 q2 q3 q4 hE hs hwk; have KG := Aside0.mk (heap_alloc_new w (.cells #[.int .i64 x0, .int .i64 x1, .int .i64 x2, .int .i64 x3, .int .i64 x4, .int .i64 x5, .bool x6, .bool x7] 23))
 have HB := Aside0.mk (below_alloc (Below.refl w.heap.size w) (.cells #[.int .i64 x0, .int .i64 x1, .int .i64 x2, .int .i64 x3, .int .i64 x4, .int .i64 x5, .bool x6, .bool x7] 23))
 have hx' := Aside0.mk hx
 go_enter Tryz.func9, Tryz.ntmps9
 go_wp2_with (fail)
 refine (q1'.out _ (hE'.out.below HB.out)).mono ?_
 rintro _ w1 ⟨rfl, hb⟩
 have K1 : Aside0 (InsB w1 w.heap.size (x0, x1, x2, x3, x4, x5, x6, x7)) := ⟨blk_below KG.out hb⟩
 have B1 := Aside0.mk (below_step HB.out hb)
 clear hb KG HB; go_wp2_with (fail)
 refine (q2'.out _ (hE'.out.below B1.out)).mono ?_
 rintro _ w2 ⟨rfl, hb⟩
 have K2 : Aside0 (InsB w2 w.heap.size (x0, x1, x2, x3, x4, x5, x6, x7)) := ⟨blk_below K1.out hb⟩
 have B2 := Aside0.mk (below_step B1.out hb)
 clear hb K1 B1; obtain ⟨cj0, cj1, cj2, cj3, cj4, cj5, cj6, cj7, fj⟩ := ins_cells K2.out
 have gi : ¬ w2.heap.size = w.heap.size := by have := blk_lt K2.out; omega
 have gi2 : ¬ w.heap.size = w2.heap.size := by have := blk_lt K2.out; omega
 go_wp2_with (fail)
 refine (q3'.out _ ((hE'.out.below B2.out).alloc _)).mono ?_
 rintro _ w3 ⟨rfl, hb⟩
 have B3 := Aside0.mk (below_step (below_alloc B2.out _) hb)
 clear hb cj0 cj1 cj2 cj3 cj4 cj5 cj6 cj7 fj gi gi2 K2 B2; go_wp2_with (fail)
 refine (q4'.out _ ((hE'.out.below B3.out).alloc _)).mono ?_
 rintro _ w4 ⟨rfl, hb⟩
 have B4 := Aside0.mk (below_step (below_alloc B3.out _) hb)
 clear hb B3; go_wp2_with (fail)
 refine (hwk'.out _ (hE'.out.below B4.out)).mono ?_
 rintro _ w8 ⟨rfl, hb⟩
 have B8 := Aside0.mk (below_step B4.out hb)
 clear hb; go_wp2_with (fail)
 go_ret
 exact ⟨rfl, B8.out⟩
set_option maxHeartbeats 8000000 in
set_option maxRecDepth 100000 in
theorem back_bcs (x0 x1 x2 x3 x4 x5 : Int) (x6 x7 : Bool) (l : BL) (hl : l.length ≤ 5000) (w : World) (hE : Env w) (hwk : ∀ W, Env W → Calls Tryz.prog 16 #[] W fun e w' => e = .returned (.bool true) ∧ Below W.heap.size W w')
  (q1 : ∀ W, Env W → Calls Tryz.prog 14 #[.agg #[.int .i64 x0, .int .i64 x1, .int .i64 x2, .int .i64 x3, .int .i64 x4, .int .i64 x5, .bool x6, .bool x7]] W fun e w' => e = .returned (.tuple #[sv [], .int .i64 80]) ∧ Below W.heap.size W w')
  (q3 : ∀ W, Env W → Calls Tryz.prog 25 #[sv l] W fun e w' => e = .returned (.tuple #[.agg #[.int .i64 0, .int .i64 0, .int .i64 0, .int .i64 0, .int .i64 0, .int .i64 0, .bool false, .bool false], .int .i64 100]) ∧ Below W.heap.size W w') :
  Calls Tryz.prog 9 #[.agg #[.int .i64 x0, .int .i64 x1, .int .i64 x2, .int .i64 x3, .int .i64 x4, .int .i64 x5, .bool x6, .bool x7], sv l] w fun e w' => e = .returned (.bool true) ∧ Below w.heap.size w w' := by
 have hsz : (⟨l.toArray⟩ : ByteArray).size = l.length := sv_size l
 have c5 : decide ((l.length : Int) > 5000) = false := decide_eq_false (by omega)
 have q1' := Aside0.mk q1
 have q3' := Aside0.mk q3
 have hwk' := Aside0.mk hwk
 have hE' := Aside0.mk hE
 clear q1 q3 hE hl hwk; have KG := Aside0.mk (heap_alloc_new w (.cells #[.int .i64 x0, .int .i64 x1, .int .i64 x2, .int .i64 x3, .int .i64 x4, .int .i64 x5, .bool x6, .bool x7] 23))
 have HB := Aside0.mk (below_alloc (Below.refl w.heap.size w) (.cells #[.int .i64 x0, .int .i64 x1, .int .i64 x2, .int .i64 x3, .int .i64 x4, .int .i64 x5, .bool x6, .bool x7] 23))
 go_enter Tryz.func9, Tryz.ntmps9
 go_wp2_with (fail)
 refine (q1'.out _ (hE'.out.below HB.out)).mono ?_
 rintro _ w1 ⟨rfl, hb⟩
 have K1 : Aside0 (InsB w1 w.heap.size (x0, x1, x2, x3, x4, x5, x6, x7)) := ⟨blk_below KG.out hb⟩
 have B1 := Aside0.mk (below_step HB.out hb)
 clear hb KG HB; go_wp2_with (fail)
 refine (q3'.out _ (hE'.out.below B1.out)).mono ?_
 rintro _ w3 ⟨rfl, hb⟩
 have B3 := Aside0.mk (below_step B1.out hb)
 clear hb K1 B1; go_wp2_with (fail)
 refine (hwk'.out _ (hE'.out.below (below_alloc B3.out _))).mono ?_
 rintro _ w8 ⟨rfl, hb⟩
 have B8 := Aside0.mk (below_step (below_alloc B3.out _) hb)
 clear hb; go_wp2_with (fail)
 go_ret
 exact ⟨rfl, B8.out⟩
set_option maxHeartbeats 8000000 in
set_option maxRecDepth 100000 in
theorem back_bcl (x0 x1 x2 x3 x4 x5 : Int) (x6 x7 : Bool) (l : BL) (s : ByteArray) (hs : 5000 < s.size) (hx : s.extract 0 5000 = ⟨l.toArray⟩) (w : World) (hE : Env w) (hwk : ∀ W, Env W → Calls Tryz.prog 16 #[] W fun e w' => e = .returned (.bool true) ∧ Below W.heap.size W w')
  (q1 : ∀ W, Env W → Calls Tryz.prog 14 #[.agg #[.int .i64 x0, .int .i64 x1, .int .i64 x2, .int .i64 x3, .int .i64 x4, .int .i64 x5, .bool x6, .bool x7]] W fun e w' => e = .returned (.tuple #[sv [], .int .i64 80]) ∧ Below W.heap.size W w')
  (q3 : ∀ W, Env W → Calls Tryz.prog 25 #[sv l] W fun e w' => e = .returned (.tuple #[.agg #[.int .i64 0, .int .i64 0, .int .i64 0, .int .i64 0, .int .i64 0, .int .i64 0, .bool false, .bool false], .int .i64 100]) ∧ Below W.heap.size W w') :
  Calls Tryz.prog 9 #[.agg #[.int .i64 x0, .int .i64 x1, .int .i64 x2, .int .i64 x3, .int .i64 x4, .int .i64 x5, .bool x6, .bool x7], .string s] w fun e w' => e = .returned (.bool true) ∧ Below w.heap.size w w' := by
 have c5 : decide ((s.size : Int) > 5000) = true := decide_eq_true (by omega)
 have c6 : ((5000 : Nat) : Int) ≤ (s.size : Int) := by omega
 have c7 : (5000 : Nat) ≤ s.size := by omega
 have c8 : (5000 : Int) ≤ (s.size : Int) := by omega
 have q1' := Aside0.mk q1
 have q3' := Aside0.mk q3
 have hwk' := Aside0.mk hwk
 have hE' := Aside0.mk hE
 clear q1 q3 hE hs hwk; have KG := Aside0.mk (heap_alloc_new w (.cells #[.int .i64 x0, .int .i64 x1, .int .i64 x2, .int .i64 x3, .int .i64 x4, .int .i64 x5, .bool x6, .bool x7] 23))
 have HB := Aside0.mk (below_alloc (Below.refl w.heap.size w) (.cells #[.int .i64 x0, .int .i64 x1, .int .i64 x2, .int .i64 x3, .int .i64 x4, .int .i64 x5, .bool x6, .bool x7] 23))
 have hx' := Aside0.mk hx
 go_enter Tryz.func9, Tryz.ntmps9
 go_wp2_with (fail)
 refine (q1'.out _ (hE'.out.below HB.out)).mono ?_
 rintro _ w1 ⟨rfl, hb⟩
 have K1 : Aside0 (InsB w1 w.heap.size (x0, x1, x2, x3, x4, x5, x6, x7)) := ⟨blk_below KG.out hb⟩
 have B1 := Aside0.mk (below_step HB.out hb)
 clear hb KG HB; go_wp2_with (fail)
 refine (q3'.out _ (hE'.out.below B1.out)).mono ?_
 rintro _ w3 ⟨rfl, hb⟩
 have B3 := Aside0.mk (below_step B1.out hb)
 clear hb K1 B1; go_wp2_with (fail)
 refine (hwk'.out _ (hE'.out.below (below_alloc B3.out _))).mono ?_
 rintro _ w8 ⟨rfl, hb⟩
 have B8 := Aside0.mk (below_step (below_alloc B3.out _) hb)
 clear hb; go_wp2_with (fail)
 go_ret
 exact ⟨rfl, B8.out⟩
set_option maxHeartbeats 8000000 in
set_option maxRecDepth 100000 in
theorem back_bds (x0 x1 x2 x3 x4 x5 : Int) (x6 x7 : Bool) (k0 k1 k2 k3 k4 k5 : Int) (k6 k7 : Bool) (l : BL) (hl : l.length ≤ 5000) (w : World) (hE : Env w) (hwk : ∀ W, Env W → Calls Tryz.prog 16 #[] W fun e w' => e = .returned (.bool true) ∧ Below W.heap.size W w')
  (q1 : ∀ W, Env W → Calls Tryz.prog 14 #[.agg #[.int .i64 x0, .int .i64 x1, .int .i64 x2, .int .i64 x3, .int .i64 x4, .int .i64 x5, .bool x6, .bool x7]] W fun e w' => e = .returned (.tuple #[sv [], .int .i64 80]) ∧ Below W.heap.size W w')
  (q3 : ∀ W, Env W → Calls Tryz.prog 25 #[sv l] W fun e w' => e = .returned (.tuple #[.agg #[.int .i64 k0, .int .i64 k1, .int .i64 k2, .int .i64 k3, .int .i64 k4, .int .i64 k5, .bool k6, .bool k7], .int .i64 0]) ∧ Below W.heap.size W w')
  (q4 : ∀ W, Env W → Calls Tryz.prog 14 #[.agg #[.int .i64 k0, .int .i64 k1, .int .i64 k2, .int .i64 k3, .int .i64 k4, .int .i64 k5, .bool k6, .bool k7]] W fun e w' => e = .returned (.tuple #[sv l, .int .i64 0]) ∧ Below W.heap.size W w') :
  Calls Tryz.prog 9 #[.agg #[.int .i64 x0, .int .i64 x1, .int .i64 x2, .int .i64 x3, .int .i64 x4, .int .i64 x5, .bool x6, .bool x7], sv l] w fun e w' => e = .returned (.bool true) ∧ Below w.heap.size w w' := by
 have hsz : (⟨l.toArray⟩ : ByteArray).size = l.length := sv_size l
 have c5 : decide ((l.length : Int) > 5000) = false := decide_eq_false (by omega)
 have q1' := Aside0.mk q1
 have q3' := Aside0.mk q3
 have q4' := Aside0.mk q4
 have hwk' := Aside0.mk hwk
 have hE' := Aside0.mk hE
 clear q1 q3 q4 hE hl hwk; have KG := Aside0.mk (heap_alloc_new w (.cells #[.int .i64 x0, .int .i64 x1, .int .i64 x2, .int .i64 x3, .int .i64 x4, .int .i64 x5, .bool x6, .bool x7] 23))
 have HB := Aside0.mk (below_alloc (Below.refl w.heap.size w) (.cells #[.int .i64 x0, .int .i64 x1, .int .i64 x2, .int .i64 x3, .int .i64 x4, .int .i64 x5, .bool x6, .bool x7] 23))
 go_enter Tryz.func9, Tryz.ntmps9
 go_wp2_with (fail)
 refine (q1'.out _ (hE'.out.below HB.out)).mono ?_
 rintro _ w1 ⟨rfl, hb⟩
 have K1 : Aside0 (InsB w1 w.heap.size (x0, x1, x2, x3, x4, x5, x6, x7)) := ⟨blk_below KG.out hb⟩
 have B1 := Aside0.mk (below_step HB.out hb)
 clear hb KG HB; go_wp2_with (fail)
 refine (q3'.out _ (hE'.out.below B1.out)).mono ?_
 rintro _ w3 ⟨rfl, hb⟩
 have B3 := Aside0.mk (below_step B1.out hb)
 clear hb K1 B1; go_wp2_with (fail)
 refine (q4'.out _ ((hE'.out.below B3.out).alloc _)).mono ?_
 rintro _ w4 ⟨rfl, hb⟩
 have B4 := Aside0.mk (below_step (below_alloc B3.out _) hb)
 clear hb B3; go_wp2_with (fail)
 refine (hwk'.out _ (hE'.out.below B4.out)).mono ?_
 rintro _ w8 ⟨rfl, hb⟩
 have B8 := Aside0.mk (below_step B4.out hb)
 clear hb; go_wp2_with (fail)
 go_ret
 exact ⟨rfl, B8.out⟩
set_option maxHeartbeats 8000000 in
set_option maxRecDepth 100000 in
theorem back_bdl (x0 x1 x2 x3 x4 x5 : Int) (x6 x7 : Bool) (k0 k1 k2 k3 k4 k5 : Int) (k6 k7 : Bool) (l : BL) (s : ByteArray) (hs : 5000 < s.size) (hx : s.extract 0 5000 = ⟨l.toArray⟩) (w : World) (hE : Env w) (hwk : ∀ W, Env W → Calls Tryz.prog 16 #[] W fun e w' => e = .returned (.bool true) ∧ Below W.heap.size W w')
  (q1 : ∀ W, Env W → Calls Tryz.prog 14 #[.agg #[.int .i64 x0, .int .i64 x1, .int .i64 x2, .int .i64 x3, .int .i64 x4, .int .i64 x5, .bool x6, .bool x7]] W fun e w' => e = .returned (.tuple #[sv [], .int .i64 80]) ∧ Below W.heap.size W w')
  (q3 : ∀ W, Env W → Calls Tryz.prog 25 #[sv l] W fun e w' => e = .returned (.tuple #[.agg #[.int .i64 k0, .int .i64 k1, .int .i64 k2, .int .i64 k3, .int .i64 k4, .int .i64 k5, .bool k6, .bool k7], .int .i64 0]) ∧ Below W.heap.size W w')
  (q4 : ∀ W, Env W → Calls Tryz.prog 14 #[.agg #[.int .i64 k0, .int .i64 k1, .int .i64 k2, .int .i64 k3, .int .i64 k4, .int .i64 k5, .bool k6, .bool k7]] W fun e w' => e = .returned (.tuple #[sv l, .int .i64 0]) ∧ Below W.heap.size W w') :
  Calls Tryz.prog 9 #[.agg #[.int .i64 x0, .int .i64 x1, .int .i64 x2, .int .i64 x3, .int .i64 x4, .int .i64 x5, .bool x6, .bool x7], .string s] w fun e w' => e = .returned (.bool true) ∧ Below w.heap.size w w' := by
 have c5 : decide ((s.size : Int) > 5000) = true := decide_eq_true (by omega)
 have c6 : ((5000 : Nat) : Int) ≤ (s.size : Int) := by omega
 have c7 : (5000 : Nat) ≤ s.size := by omega
 have c8 : (5000 : Int) ≤ (s.size : Int) := by omega
 have q1' := Aside0.mk q1
 have q3' := Aside0.mk q3
 have q4' := Aside0.mk q4
 have hwk' := Aside0.mk hwk
 have hE' := Aside0.mk hE
 clear q1 q3 q4 hE hs hwk; have KG := Aside0.mk (heap_alloc_new w (.cells #[.int .i64 x0, .int .i64 x1, .int .i64 x2, .int .i64 x3, .int .i64 x4, .int .i64 x5, .bool x6, .bool x7] 23))
 have HB := Aside0.mk (below_alloc (Below.refl w.heap.size w) (.cells #[.int .i64 x0, .int .i64 x1, .int .i64 x2, .int .i64 x3, .int .i64 x4, .int .i64 x5, .bool x6, .bool x7] 23))
 have hx' := Aside0.mk hx
 go_enter Tryz.func9, Tryz.ntmps9
 go_wp2_with (fail)
 refine (q1'.out _ (hE'.out.below HB.out)).mono ?_
 rintro _ w1 ⟨rfl, hb⟩
 have K1 : Aside0 (InsB w1 w.heap.size (x0, x1, x2, x3, x4, x5, x6, x7)) := ⟨blk_below KG.out hb⟩
 have B1 := Aside0.mk (below_step HB.out hb)
 clear hb KG HB; go_wp2_with (fail)
 refine (q3'.out _ (hE'.out.below B1.out)).mono ?_
 rintro _ w3 ⟨rfl, hb⟩
 have B3 := Aside0.mk (below_step B1.out hb)
 clear hb K1 B1; go_wp2_with (fail)
 refine (q4'.out _ ((hE'.out.below B3.out).alloc _)).mono ?_
 rintro _ w4 ⟨rfl, hb⟩
 have B4 := Aside0.mk (below_step (below_alloc B3.out _) hb)
 clear hb B3; go_wp2_with (fail)
 refine (hwk'.out _ (hE'.out.below B4.out)).mono ?_
 rintro _ w8 ⟨rfl, hb⟩
 have B8 := Aside0.mk (below_step B4.out hb)
 clear hb; go_wp2_with (fail)
 go_ret
 exact ⟨rfl, B8.out⟩

theorem back_join (x0 x1 x2 x3 x4 x5 : Int) (x6 x7 : Bool) (s : ByteArray) (l : BL) (hl : l.length ≤ 5000) (hs : (s = ⟨l.toArray⟩) ∨ (5000 < s.size ∧ s.extract 0 5000 = ⟨l.toArray⟩)) (w : World) (hE : Env w) :
  Calls Tryz.prog 9 #[.agg #[.int .i64 x0, .int .i64 x1, .int .i64 x2, .int .i64 x3, .int .i64 x4, .int .i64 x5, .bool x6, .bool x7], .string s] w fun e w' => e = .returned (.bool true) ∧ Below w.heap.size w w' := by
 have q1 := fun W h => print_calls x0 x1 x2 x3 x4 x5 x6 x7 W h
 have q3 := fun W h => parse_of l W h (fun V hV => read_calls l (by omega) V hV)
 have hpr := back_print (x0, x1, x2, x3, x4, x5, x6, x7)
 have hpa := back_parse l
 generalize parseS l = R at q3 hpa
 rcases hpr with ⟨p, hp, hP, hPa⟩ | hP
 ·rw [hP] at q1
  have q2 := fun W h => parse_of p W h (fun V hV => read_calls p (by omega) V hV)
  rw [hPa] at q2
  rcases hpa with rfl | ⟨⟨k0, k1, k2, k3, k4, k5, k6, k7⟩, rfl, hK⟩
  ·rcases hs with rfl | ⟨h5, hx⟩
   ·exact back_acs x0 x1 x2 x3 x4 x5 x6 x7 p l hl w hE wakes_calls q1 q2 q3
   ·exact back_acl x0 x1 x2 x3 x4 x5 x6 x7 p l s h5 hx w hE wakes_calls q1 q2 q3
  ·have q4 := fun W h => print_calls k0 k1 k2 k3 k4 k5 k6 k7 W h
   rw [hK] at q4
   rcases hs with rfl | ⟨h5, hx⟩
   ·exact back_ads x0 x1 x2 x3 x4 x5 x6 x7 p k0 k1 k2 k3 k4 k5 k6 k7 l hl w hE wakes_calls q1 q2 q3 q4
   ·exact back_adl x0 x1 x2 x3 x4 x5 x6 x7 p k0 k1 k2 k3 k4 k5 k6 k7 l s h5 hx w hE wakes_calls q1 q2 q3 q4
 ·rw [hP] at q1
  rcases hpa with rfl | ⟨⟨k0, k1, k2, k3, k4, k5, k6, k7⟩, rfl, hK⟩
  ·rcases hs with rfl | ⟨h5, hx⟩
   ·exact back_bcs x0 x1 x2 x3 x4 x5 x6 x7 l hl w hE wakes_calls q1 q3
   ·exact back_bcl x0 x1 x2 x3 x4 x5 x6 x7 l s h5 hx w hE wakes_calls q1 q3
  ·have q4 := fun W h => print_calls k0 k1 k2 k3 k4 k5 k6 k7 W h
   rw [hK] at q4
   rcases hs with rfl | ⟨h5, hx⟩
   ·exact back_bds x0 x1 x2 x3 x4 x5 x6 x7 k0 k1 k2 k3 k4 k5 k6 k7 l hl w hE wakes_calls q1 q3 q4
   ·exact back_bdl x0 x1 x2 x3 x4 x5 x6 x7 k0 k1 k2 k3 k4 k5 k6 k7 l s h5 hx w hE wakes_calls q1 q3 q4
theorem asmBack_calls (x0 x1 x2 x3 x4 x5 : Int) (x6 x7 : Bool)
  (hw : (Lit.int .i64 x0).wf = true ∧ (Lit.int .i64 x1).wf = true ∧ (Lit.int .i64 x2).wf = true ∧ (Lit.int .i64 x3).wf = true ∧ (Lit.int .i64 x4).wf = true ∧ (Lit.int .i64 x5).wf = true) (s : ByteArray) (w : World) (hE : Env w) :
  Calls Tryz.prog 9 #[.agg #[.int .i64 x0, .int .i64 x1, .int .i64 x2, .int .i64 x3, .int .i64 x4, .int .i64 x5, .bool x6, .bool x7], .string s] w fun e w' => e = .returned (.bool true) ∧ Below w.heap.size w w' := by
 by_cases h : s.size ≤ 5000
 ·have hsz : s.data.toList.length = s.size := by rw [Lib.size_eq]
  exact back_join x0 x1 x2 x3 x4 x5 x6 x7 s s.data.toList (by omega) (.inl rfl) w hE
 ·refine back_join x0 x1 x2 x3 x4 x5 x6 x7 s (s.data.toList.take 5000) (by rw [List.length_take]; omega) (.inr ⟨by omega, ?_⟩) w hE
  exact take_sv s.data.toList
end Go.Proofs.YtknkfimpflodeaaGreatDoor.P
