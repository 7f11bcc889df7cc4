/- asm's read, a name that no instruction has: walked. -/
import Derived.Test.YtknkfimpflodeaaGreatDoorZk
namespace Go.Proofs.YtknkfimpflodeaaGreatDoor.P
open Go.RowKit Go.Proofs.YtknkfimpflodeaaGreatDoorW.PrintWords Go.Proofs.YtknkfimpflodeaaGreatDoorW.PrintLast Go.Proofs.YtknkfimpflodeaaGreatDoorW.PrintMore
set_option linter.unusedVariables false
set_option linter.unusedSimpArgs false
set_option maxHeartbeats 8000000 in
set_option maxRecDepth 100000 in
theorem read_none (l : BL) (hl : l.length < 4294967281) (hz0 : (opS (Lib.cut l [32]).1).1 = 0) (w : World) (hE : Env w) :
  Calls Tryz.prog 72 #[sv l] w fun e w' => e = .returned (readV l) ∧ Below w.heap.size w w' := by
 have hu := Tryz.underlying23
 obtain ⟨mx, hmx⟩ := ((hE.alloc (.cells #[.int .i64 0, .int .i64 0, .int .i64 0, .int .i64 0, .int .i64 0, .int .i64 0, .bool false, .bool false] 23)).alloc (.cells #[.bool false] 4)).ml
 have hE' := Aside0.mk hE
 have hl' := Aside0.mk hl
 have hcl := Aside0.mk (cut_len l [32])
 clear hE hl; obtain ⟨n1, r1, m1, hC⟩ : ∃ n1 r1 m1, Lib.cut l [32] = (n1, r1, m1) := ⟨_, _, _, rfl⟩
 rw [hC] at hz0
 dsimp only at hz0
 have hz1 := Aside0.mk hz0
 clear hz0; have hC' := Aside0.mk hC
 clear hC; go_enter Tryz.func72, Tryz.ntmps72
 go_wp2_with (fail)
 refine (Tryz.strings_Cut _ _ mx _ (by rw [sv_size]; exact hl'.out) hmx).mono ?_
 rw [sv_data, show (⟨#[32]⟩ : ByteArray).data.toList = [32] from rfl, hC'.out]
 rintro e w1 ⟨rfl, n, hw⟩
 have I0 : Aside0 (InsB w1 w.heap.size ins0) := ⟨by rw [hw]; exact blk_alloc (heap_alloc_new w _) _⟩
 have K0 : Aside0 (BoolB w1 (w.heap.size + 1) false) := ⟨by rw [hw]; exact two_new w _ _⟩
 have B0 : Aside0 (Below w.heap.size w w1) := ⟨by rw [hw]; exact below_drewN (below_alloc (below_alloc (Below.refl _ _) _) _) n⟩
 have S0 : w1.heap.size = w.heap.size + 2 := by rw [hw]; simp
 clear hw hmx; dsimp only; go_wp2_with (fail)
 -- the name
 refine (op_says _ _).mono ?_
 obtain ⟨op, hop⟩ : ∃ op, opOf n1 = op := ⟨_, rfl⟩
 rw [sv_data, hop]
 have hop' := Aside0.mk hop
 clear hop; rintro e w2 ⟨rfl, hb⟩
 have I1 : Aside0 (InsB w2 w.heap.size ins0) := ⟨blk_below (blk_alloc (blk_alloc I0.out _) _) hb⟩
 have K1 : Aside0 (BoolB w2 (w.heap.size + 1) false) := ⟨blk_below (blk_alloc (blk_alloc K0.out _) _) hb⟩
 have R1 : Aside0 (StrB w2 (w.heap.size + 2) r1) := ⟨by have := blk_below (blk_alloc (heap_alloc_new w1 (.cells #[sv r1] 9)) (.cells #[.bool m1] 4)) hb; rw [S0] at this; exact this⟩
 have M1 : Aside0 (BoolB w2 (w.heap.size + 2 + 1) m1) := ⟨by have := blk_below (two_new w1 (.cells #[sv r1] 9) (.cells #[.bool m1] 4)) hb; rw [S0] at this; exact this⟩
 have B1 := Aside0.mk (below_step (below_alloc (below_alloc B0.out _) _) hb)
 have S1 : w.heap.size + 4 ≤ w2.heap.size := by have := hb.size; simp at this; omega
 clear hb I0 K0 B0 S0; generalize hg7 : w.heap.size + 2 + 1 = g7 at *
 generalize hg6 : w.heap.size + 2 = g6 at *
 generalize hg4 : w.heap.size + 1 = g4 at *
 have G := Aside0.mk (show w.heap.size < g4 ∧ g4 < g6 ∧ g6 < g7 ∧ g7 < w2.heap.size by omega)
 clear hg7 hg6 hg4 S1; have ci := I1.out.cell0; have fi := blk_frozen I1.out
 go_wp2_with (fail)
 have I2 : Aside0 (InsB ((w2.setCell ⟨w.heap.size, 0, none⟩ (.int .i64 op)).alloc (.cells sufArr 164)) w.heap.size (op, 0, 0, 0, 0, 0, false, false)) := ⟨blk_alloc (I1.out.put0 op) _⟩
 have K2 : Aside0 (BoolB ((w2.setCell ⟨w.heap.size, 0, none⟩ (.int .i64 op)).alloc (.cells sufArr 164)) g4 false) := ⟨blk_alloc (K1.out.far (by have := G.out; omega) 0 _) _⟩
 have R2 : Aside0 (StrB ((w2.setCell ⟨w.heap.size, 0, none⟩ (.int .i64 op)).alloc (.cells sufArr 164)) g6 r1) := ⟨blk_alloc (R1.out.far (by have := G.out; omega) 0 _) _⟩
 have M2 : Aside0 (BoolB ((w2.setCell ⟨w.heap.size, 0, none⟩ (.int .i64 op)).alloc (.cells sufArr 164)) g7 m1) := ⟨blk_alloc (M1.out.far (by have := G.out; omega) 0 _) _⟩
 have A2 : Aside0 (((w2.setCell ⟨w.heap.size, 0, none⟩ (.int .i64 op)).alloc (.cells sufArr 164)).heap[w2.heap.size]? = some (.cells sufArr 164 (0, 0))) := ⟨by have := heap_alloc_new (w2.setCell ⟨w.heap.size, 0, none⟩ (.int .i64 op)) (.cells sufArr 164); simpa using this⟩
 have B2 : Aside0 (Below w.heap.size w ((w2.setCell ⟨w.heap.size, 0, none⟩ (.int .i64 op)).alloc (.cells sufArr 164))) := ⟨below_alloc (B1.out.setCell (Nat.le_refl _) _) _⟩
 unfold sufArr at I2 K2 R2 M2 B2
 clear I1 K1 R1 M1 B1 ci fi; go_loopg [35] 3 (fun kq v35 wr => ∃ (i : Nat) (s1 : Int) (s2 s3 : Bool), i + kq = 3 ∧ v35 = .int .i64 (i : Int) ∧ Aside0 (sufAt n1 op i = (s1, s2, s3)) ∧ Aside0 (InsB wr w.heap.size (s1, 0, 0, 0, 0, 0, s2, s3)) ∧ Aside0 (BoolB wr g4 false) ∧ Aside0 (StrB wr g6 r1) ∧ Aside0 (BoolB wr g7 m1) ∧ Aside0 (wr.heap[w2.heap.size]? = some (.cells sufArr 164 (0, 0))) ∧ Aside0 (Below w.heap.size w wr))
 case atStart => exact ⟨0, op, false, false, rfl, rfl, ⟨rfl⟩, I2, K2, R2, M2, A2, B2⟩
 case round =>
  clear I2 K2 R2 M2 A2 B2; obtain ⟨i, s1, s2, s3, hi, rfl, hS, I2, K2, R2, M2, A2, B2⟩ := hrel
  cases gk with
  | zero =>
   obtain rfl : i = 3 := by omega
   have hO : opS n1 = (s1, s2, s3) := by rw [← sufAt_end, hop'.out]; exact hS.out
   have hO' := Aside0.mk hO
   have ci := I2.out.cell0; have fi := blk_frozen I2.out
   have ck := K2.out.cell; have fk := blk_frozen K2.out
   have gk' : ¬ g4 = w.heap.size := by have := G.out; omega
   have gk2 : ¬ w.heap.size = g4 := by have := G.out; omega
   clear hO hS hi; by_cases hz : s1 = 0
   ·subst hz
    have hread : readV l = .tuple #[insV ins0, sv [], .bool false] := by
     unfold readV readS; rw [hC'.out]; dsimp only; rw [hO'.out, if_pos rfl]
    have cj0 := blk_cell I2.out 0; have cj1 := blk_cell I2.out 1; have cj2 := blk_cell I2.out 2; have cj3 := blk_cell I2.out 3; have cj4 := blk_cell I2.out 4; have cj5 := blk_cell I2.out 5; have cj6 := blk_cell I2.out 6; have cj7 := blk_cell I2.out 7; simp at cj0 cj1 cj2 cj3 cj4 cj5 cj6 cj7
    go_wp2_with (fail)
    have KF := Aside0.mk (blk_put (cs' := #[.bool false]) ((far8 gk' (.int .i64 0) (.int .i64 0) (.int .i64 0) (.int .i64 0) (.int .i64 0) (.int .i64 0) (.bool false) (.bool false)).trans K2.out) 0 (.bool false) rfl)
    have IF := Aside0.mk (blk_far (put8 I2.out rfl (.int .i64 0) (.int .i64 0) (.int .i64 0) (.int .i64 0) (.int .i64 0) (.int .i64 0) (.bool false) (.bool false)) (p := ⟨g4, 0, none⟩) gk2 (.bool false))
    exact bodyPost_ret (results_ctb rfl _ _ w.heap.size g4 _ rfl IF.out rfl rfl _ ((blk_cell KF.out 0).trans rfl)) rfl ⟨rfl, (bel8 B2.out (Nat.le_refl _) _ _ _ _ _ _ _ _).setCell (by have := G.out; show w.heap.size ≤ g4; omega) _⟩
   ·exact absurd (by have := hz1.out; rw [hO'.out] at this; exact this) hz
  | succ gk =>
   obtain ⟨⟨sx, sa, sr⟩, hx⟩ : ∃ x, sufTab[i]? = some x := ⟨sufTab[i]'(by simp [sufTab]; omega), List.getElem?_eq_getElem (by simp [sufTab]; omega)⟩
   obtain ⟨hx0, hx1, hx2⟩ := suf_cells A2.out i _ hx
   have hsucc := Aside0.mk (sufAt_succ n1 op i _ hx)
   have h0 : (0 : Int) ≤ (i : Int) := by omega
   have h1 : (i : Int) < 3 := by omega
   have hwr : IntKind.i64.wrap ((i : Int) + 1) = (i : Int) + 1 := by rw [i64_w]; unfold wrap64; omega
   have hi' := Aside0.mk hi
   have hx' := Aside0.mk hx
   have ci := I2.out.cell0; have gw : w.heap.size < wr.heap.size := blk_lt I2.out
   have gn : ¬ w.heap.size = wr.heap.size := by omega
   clear hi hx; by_cases hz : s1 = 0
   rotate_left
   ·have hzb : (s1 == 0) = false := beq_eq_false_iff_ne.2 hz
    go_wp2_with (fail)
    go_roundg gk
    case measure => omega
    case rel =>
     refine ⟨i + 1, s1, s2, s3, by have := hi'.out; omega, by simp, ⟨?_⟩, ⟨blk_alloc I2.out _⟩, ⟨blk_alloc K2.out _⟩, ⟨blk_alloc R2.out _⟩, ⟨blk_alloc M2.out _⟩, ⟨blk_alloc A2.out _⟩, ⟨below_alloc B2.out _⟩⟩
     rw [hsucc.out, hS.out]
     unfold sufStep
     rw [if_neg (fun c => hz c.1)]
   ·subst hz
    have hnl : (⟨n1.toArray⟩ : ByteArray).size ≤ 9223372036854775807 := by
     rw [sv_size]
     have z1 := hcl.out.1; rw [hC'.out] at z1
     dsimp only at z1
     have z2 := hl'.out; omega
    have hnl' := Aside0.mk hnl
    clear hnl; have hsuf := fun W => Tryz.strings_HasSuffix ⟨n1.toArray⟩ ⟨sx.toArray⟩ W hnl'.out
    simp only at hsuf
    by_cases hq : Lib.hasSuffix n1 sx = true
    rotate_left
    ·have hq' : Lib.hasSuffix n1 sx = false := Bool.eq_false_iff.2 hq
     have hsuf' := Aside0.mk hsuf
     clear hsuf hq; go_wp2_with (go_at_call 113; refine (hsuf'.out _).mono ?_; rintro e w3 ⟨rfl, rfl⟩)
     go_roundg gk
     case measure => omega
     case rel =>
      refine ⟨i + 1, 0, s2, s3, by have := hi'.out; omega, by simp, ⟨?_⟩, ⟨blk_alloc I2.out _⟩, ⟨blk_alloc K2.out _⟩, ⟨blk_alloc R2.out _⟩, ⟨blk_alloc M2.out _⟩, ⟨blk_alloc A2.out _⟩, ⟨below_alloc B2.out _⟩⟩
      rw [hsucc.out, hS.out]
      unfold sufStep
      rw [if_neg (fun c => by rw [hq'] at c; cases c.2)]
    ·have hsuf' := Aside0.mk hsuf
     clear hsuf; have hS2 : sufAt n1 op (i + 1) = (opOf (Lib.trimSuffix n1 sx), sa, sr) := by
      rw [hsucc.out, hS.out]
      unfold sufStep
      rw [if_pos ⟨rfl, hq⟩]
     have htr := Aside0.mk (fun W => Tryz.strings_TrimSuffix ⟨n1.toArray⟩ ⟨sx.toArray⟩ W hnl'.out)
     obtain ⟨op2, hop2⟩ : ∃ o, opOf (Lib.trimSuffix n1 sx) = o := ⟨_, rfl⟩
     rw [hop2] at hS2
     have hS2' := Aside0.mk hS2
     have hop2' := Aside0.mk hop2
     clear hS2 hop2; go_wp2_with (go_at_call 113; refine (hsuf'.out _).mono ?_; rintro e w3 ⟨rfl, rfl⟩)
     have I3 : Aside0 (InsB (wr.alloc (.cells #[.string ⟨sx.toArray⟩, .bool sa, .bool sr] 164)).drew w.heap.size (0, 0, 0, 0, 0, 0, s2, s3)) := ⟨blk_drew (blk_alloc I2.out _)⟩
     have K3 : Aside0 (BoolB (wr.alloc (.cells #[.string ⟨sx.toArray⟩, .bool sa, .bool sr] 164)).drew g4 false) := ⟨blk_drew (blk_alloc K2.out _)⟩
     have R3 : Aside0 (StrB (wr.alloc (.cells #[.string ⟨sx.toArray⟩, .bool sa, .bool sr] 164)).drew g6 r1) := ⟨blk_drew (blk_alloc R2.out _)⟩
     have M3 : Aside0 (BoolB (wr.alloc (.cells #[.string ⟨sx.toArray⟩, .bool sa, .bool sr] 164)).drew g7 m1) := ⟨blk_drew (blk_alloc M2.out _)⟩
     have A3 : Aside0 ((wr.alloc (.cells #[.string ⟨sx.toArray⟩, .bool sa, .bool sr] 164)).drew.heap[w2.heap.size]? = some (.cells sufArr 164 (0, 0))) := ⟨blk_drew (blk_alloc A2.out _)⟩
     have B3 := Aside0.mk (below_drew1 (below_alloc B2.out (.cells #[.string ⟨sx.toArray⟩, .bool sa, .bool sr] 164)))
     have X3 := Aside0.mk (blk_drew (heap_alloc_new wr (.cells #[.string ⟨sx.toArray⟩, .bool sa, .bool sr] 164)))
     clear I2 K2 R2 M2 A2 B2; go_region_held3 (fun w' => w'.cell? ⟨wr.heap.size, 0, none⟩ = some (sv sx) ∧ w'.cell? ⟨wr.heap.size, 1, none⟩ = some (.bool sa) ∧ w'.cell? ⟨wr.heap.size, 2, none⟩ = some (.bool sr)) (first | exact ⟨(blk_cell X3.out 0).trans rfl, (blk_cell X3.out 1).trans rfl, (blk_cell X3.out 2).trans rfl⟩ | go_keep)
      ((first
       | (go_at_call 114; refine (htr.out _).mono ?_; rintro e w4 ⟨rfl, hw4⟩; subst hw4)
       | (go_at_call 112; refine (op_says _ _).mono ?_; rw [hop2'.out]; rintro e w5 ⟨rfl, hb⟩; have n1 := Aside0.mk (blk_below X3.out hb); clear X3; have X3 := n1; clear n1; have I4 : Aside0 (InsB w5 w.heap.size (0, 0, 0, 0, 0, 0, s2, s3)) := ⟨blk_below I3.out hb⟩; have K4 : Aside0 (BoolB w5 g4 false) := ⟨blk_below K3.out hb⟩; have R4 : Aside0 (StrB w5 g6 r1) := ⟨blk_below R3.out hb⟩; have M4 : Aside0 (BoolB w5 g7 m1) := ⟨blk_below M3.out hb⟩; have A4 := Aside0.mk (blk_below A3.out hb); have B4 := Aside0.mk (below_step B3.out hb); clear hb I3 K3 R3 M3 A3 B3; have ci0 := I4.out.cell0; have ci6 := blk_cell I4.out 6; have ci7 := blk_cell I4.out 7; simp at ci6 ci7; have fi := blk_frozen I4.out)))
     go_wp2
     go_roundg gk
     case measure => omega
     case rel =>
      have g1 := G.out; exact ⟨i + 1, op2, sa, sr, by have := hi'.out; omega, by simp, hS2', ⟨((I4.out.put0 op2).put6 sa).put7 sr⟩, ⟨((K4.out.far (by omega) 0 _).far (by omega) 6 _).far (by omega) 7 _⟩, ⟨((R4.out.far (by omega) 0 _).far (by omega) 6 _).far (by omega) 7 _⟩, ⟨((M4.out.far (by omega) 0 _).far (by omega) 6 _).far (by omega) 7 _⟩, ⟨blk_far (blk_far (blk_far A4.out (by show w2.heap.size ≠ w.heap.size; omega) _) (by show w2.heap.size ≠ w.heap.size; omega) _) (by show w2.heap.size ≠ w.heap.size; omega) _⟩, ⟨((B4.out.setCell (Nat.le_refl _) _).setCell (Nat.le_refl _) _).setCell (Nat.le_refl _) _⟩⟩
end Go.Proofs.YtknkfimpflodeaaGreatDoor.P
