/- asm's read, an instruction with the operands rd a imm : walked. -/
import Derived.Test.YtknkfimpflodeaaGreatDoorZk
namespace Go.Proofs.YtknkfimpflodeaaGreatDoor.P
open Go.RowKit Go.Proofs.YtknkfimpflodeaaGreatDoorW.PrintWords Go.Proofs.YtknkfimpflodeaaGreatDoorW.PrintLast Go.Proofs.YtknkfimpflodeaaGreatDoorW.PrintMore
set_option linter.unusedVariables false
set_option linter.unusedSimpArgs false
set_option maxHeartbeats 8000000 in
set_option maxRecDepth 100000 in
theorem read_k1 (l : BL) (hl : l.length < 4294967281) (hz0 : (opS (Lib.cut l [32]).1).1 ≠ 0) (hX0 : ofS (opS (Lib.cut l [32]).1).1 = (true, true, false, true, false)) (w : World) (hE : Env w) :
  Calls Tryz.prog 72 #[sv l] w fun e w' => e = .returned (readV l) ∧ Below w.heap.size w w' := by
 have hu := Tryz.underlying23
 obtain ⟨mx, hmx⟩ := ((hE.alloc (.cells #[.int .i64 0, .int .i64 0, .int .i64 0, .int .i64 0, .int .i64 0, .int .i64 0, .bool false, .bool false] 23)).alloc (.cells #[.bool false] 4)).ml
 have hE' := Aside0.mk hE
 have hl' := Aside0.mk hl
 have hcl := Aside0.mk (cut_len l [32])
 clear hE hl; obtain ⟨n1, r1, m1, hC⟩ : ∃ n1 r1 m1, Lib.cut l [32] = (n1, r1, m1) := ⟨_, _, _, rfl⟩
 rw [hC] at hz0 hX0
 dsimp only at hz0 hX0
 have hz1 := Aside0.mk hz0
 have hX1 := Aside0.mk hX0
 clear hz0 hX0; have hC' := Aside0.mk hC
 clear hC; go_enter Tryz.func72, Tryz.ntmps72
 go_wp2_with (fail)
 refine (Tryz.strings_Cut _ _ mx _ (by rw [sv_size]; exact hl'.out) hmx).mono ?_
 rw [sv_data, show (⟨#[32]⟩ : ByteArray).data.toList = [32] from rfl, hC'.out]
 rintro e w1 ⟨rfl, n, hw⟩
 have I0 : Aside0 (InsB w1 w.heap.size ins0) := ⟨by rw [hw]; exact blk_alloc (heap_alloc_new w _) _⟩
 have K0 : Aside0 (BoolB w1 (w.heap.size + 1) false) := ⟨by rw [hw]; exact two_new w _ _⟩
 have B0 : Aside0 (Below w.heap.size w w1) := ⟨by rw [hw]; exact below_drewN (below_alloc (below_alloc (Below.refl _ _) _) _) n⟩
 have S0 : w1.heap.size = w.heap.size + 2 := by rw [hw]; simp
 clear hw hmx; dsimp only; go_wp2_with (fail)
 -- the name
 refine (op_says _ _).mono ?_
 obtain ⟨op, hop⟩ : ∃ op, opOf n1 = op := ⟨_, rfl⟩
 rw [sv_data, hop]
 have hop' := Aside0.mk hop
 clear hop; rintro e w2 ⟨rfl, hb⟩
 have I1 : Aside0 (InsB w2 w.heap.size ins0) := ⟨blk_below (blk_alloc (blk_alloc I0.out _) _) hb⟩
 have K1 : Aside0 (BoolB w2 (w.heap.size + 1) false) := ⟨blk_below (blk_alloc (blk_alloc K0.out _) _) hb⟩
 have R1 : Aside0 (StrB w2 (w.heap.size + 2) r1) := ⟨by have := blk_below (blk_alloc (heap_alloc_new w1 (.cells #[sv r1] 9)) (.cells #[.bool m1] 4)) hb; rw [S0] at this; exact this⟩
 have M1 : Aside0 (BoolB w2 (w.heap.size + 2 + 1) m1) := ⟨by have := blk_below (two_new w1 (.cells #[sv r1] 9) (.cells #[.bool m1] 4)) hb; rw [S0] at this; exact this⟩
 have B1 := Aside0.mk (below_step (below_alloc (below_alloc B0.out _) _) hb)
 have S1 : w.heap.size + 4 ≤ w2.heap.size := by have := hb.size; simp at this; omega
 clear hb I0 K0 B0 S0; generalize hg7 : w.heap.size + 2 + 1 = g7 at *
 generalize hg6 : w.heap.size + 2 = g6 at *
 generalize hg4 : w.heap.size + 1 = g4 at *
 have G := Aside0.mk (show w.heap.size < g4 ∧ g4 < g6 ∧ g6 < g7 ∧ g7 < w2.heap.size by omega)
 clear hg7 hg6 hg4 S1; have ci := I1.out.cell0; have fi := blk_frozen I1.out
 go_wp2_with (fail)
 have I2 : Aside0 (InsB ((w2.setCell ⟨w.heap.size, 0, none⟩ (.int .i64 op)).alloc (.cells sufArr 164)) w.heap.size (op, 0, 0, 0, 0, 0, false, false)) := ⟨blk_alloc (I1.out.put0 op) _⟩
 have K2 : Aside0 (BoolB ((w2.setCell ⟨w.heap.size, 0, none⟩ (.int .i64 op)).alloc (.cells sufArr 164)) g4 false) := ⟨blk_alloc (K1.out.far (by have := G.out; omega) 0 _) _⟩
 have R2 : Aside0 (StrB ((w2.setCell ⟨w.heap.size, 0, none⟩ (.int .i64 op)).alloc (.cells sufArr 164)) g6 r1) := ⟨blk_alloc (R1.out.far (by have := G.out; omega) 0 _) _⟩
 have M2 : Aside0 (BoolB ((w2.setCell ⟨w.heap.size, 0, none⟩ (.int .i64 op)).alloc (.cells sufArr 164)) g7 m1) := ⟨blk_alloc (M1.out.far (by have := G.out; omega) 0 _) _⟩
 have A2 : Aside0 (((w2.setCell ⟨w.heap.size, 0, none⟩ (.int .i64 op)).alloc (.cells sufArr 164)).heap[w2.heap.size]? = some (.cells sufArr 164 (0, 0))) := ⟨by have := heap_alloc_new (w2.setCell ⟨w.heap.size, 0, none⟩ (.int .i64 op)) (.cells sufArr 164); simpa using this⟩
 have B2 : Aside0 (Below w.heap.size w ((w2.setCell ⟨w.heap.size, 0, none⟩ (.int .i64 op)).alloc (.cells sufArr 164))) := ⟨below_alloc (B1.out.setCell (Nat.le_refl _) _) _⟩
 unfold sufArr at I2 K2 R2 M2 B2
 clear I1 K1 R1 M1 B1 ci fi; go_loopg [35] 3 (fun kq v35 wr => ∃ (i : Nat) (s1 : Int) (s2 s3 : Bool), i + kq = 3 ∧ v35 = .int .i64 (i : Int) ∧ Aside0 (sufAt n1 op i = (s1, s2, s3)) ∧ Aside0 (InsB wr w.heap.size (s1, 0, 0, 0, 0, 0, s2, s3)) ∧ Aside0 (BoolB wr g4 false) ∧ Aside0 (StrB wr g6 r1) ∧ Aside0 (BoolB wr g7 m1) ∧ Aside0 (wr.heap[w2.heap.size]? = some (.cells sufArr 164 (0, 0))) ∧ Aside0 (Below w.heap.size w wr))
 case atStart => exact ⟨0, op, false, false, rfl, rfl, ⟨rfl⟩, I2, K2, R2, M2, A2, B2⟩
 case round =>
  clear I2 K2 R2 M2 A2 B2; obtain ⟨i, s1, s2, s3, hi, rfl, hS, I2, K2, R2, M2, A2, B2⟩ := hrel
  cases gk with
  | zero =>
   obtain rfl : i = 3 := by omega
   have hO : opS n1 = (s1, s2, s3) := by rw [← sufAt_end, hop'.out]; exact hS.out
   have hO' := Aside0.mk hO
   have ci := I2.out.cell0; have fi := blk_frozen I2.out
   have ck := K2.out.cell; have fk := blk_frozen K2.out
   have gk' : ¬ g4 = w.heap.size := by have := G.out; omega
   have gk2 : ¬ w.heap.size = g4 := by have := G.out; omega
   clear hO hS hi; by_cases hz : s1 = 0
   ·exact absurd (by rw [hO'.out]; exact hz) hz1.out
   ·have hzb : (s1 == 0) = false := beq_eq_false_iff_ne.2 hz
    have hmf : ∀ (fn : Fn) (first cap : Array Value) (w : World), (Instr.makeFunc fn first cap).run Tryz.prog w = .ok (.func fn first cap) w := fun _ _ _ _ => rfl
    have gw : w.heap.size < wr.heap.size := blk_lt I2.out
    have gw4 : g4 < wr.heap.size := blk_lt K2.out
    have gn : ¬ w.heap.size = wr.heap.size := by omega
    have gn2 : ¬ w.heap.size = wr.heap.size + 1 := by omega
    have hsz : ((wr.setCell ⟨g4, 0, none⟩ (.bool true)).heap.size) = wr.heap.size := by simp
    have cb0 := two_new (wr.setCell ⟨g4, 0, none⟩ (.bool true)) (.cells #[.bool true] 4) (.cells #[.nilFunc] 167)
    rw [hsz] at cb0
    have cb := blk_cell cb0 0
    simp at cb
    have cbf := blk_frozen cb0 0
    have cb0' := Aside0.mk cb0
    clear cb0; go_wp2_with (fail)
    have hX : ofS s1 = (true, true, false, true, false) := by have := hX1.out; rw [hO'.out] at this; exact this
    refine (of_calls s1 _).mono ?_
    rw [hX]
    unfold opsV
    have hX' := Aside0.mk hX
    clear hX; rintro e w4 ⟨rfl, hb⟩
    have I4 : Aside0 (InsB w4 w.heap.size (s1, 0, 0, 0, 0, 0, s2, s3)) := ⟨blk_below (blk_alloc (blk_alloc (I2.out.far gk2 0 _) _) _) hb⟩
    have K4 : Aside0 (BoolB w4 g4 true) := ⟨blk_below (blk_alloc (blk_alloc (K2.out.put true) _) _) hb⟩
    have R4 : Aside0 (StrB w4 g6 r1) := ⟨blk_below (blk_alloc (blk_alloc (R2.out.far (by have := G.out; omega) 0 _) _) _) hb⟩
    have M4 : Aside0 (BoolB w4 g7 m1) := ⟨blk_below (blk_alloc (blk_alloc (M2.out.far (by have := G.out; omega) 0 _) _) _) hb⟩
    have F4 : Aside0 (BoolB w4 wr.heap.size true) := ⟨blk_below (blk_alloc (by have := heap_alloc_new (wr.setCell ⟨g4, 0, none⟩ (.bool true)) (.cells #[.bool true] 4); rw [hsz] at this; exact this) _) hb⟩
    have N4 : Aside0 (FnB w4 (wr.heap.size + 1) wr.heap.size g7 g4 g6) := ⟨blk_below (by have := two_new (wr.setCell ⟨g4, 0, none⟩ (.bool true)) (.cells #[.bool true] 4) (.cells #[.func (.func 115) #[] #[.pointer (some ⟨wr.heap.size, 0, none⟩), .pointer (some ⟨g7, 0, none⟩), .pointer (some ⟨g4, 0, none⟩), .pointer (some ⟨g6, 0, none⟩)]] 167); rw [hsz] at this; exact this) hb⟩
    have B4 : Aside0 (Below w.heap.size w w4) := ⟨below_step (below_alloc (below_alloc (B2.out.setCell (by have := G.out; show w.heap.size ≤ g4; omega) _) _) _) hb⟩
    have S4 : wr.heap.size + 2 ≤ w4.heap.size := by have := hb.size; simp at this; omega
    have S5 : g7 < wr.heap.size := blk_lt M2.out
    clear hb I2 K2 R2 M2 A2 B2 ci fi ck fk cb cbf cb0' hsz gn gn2 gk' gk2 gw gw4; generalize hgb : wr.heap.size + 1 = gb at *
    generalize hga : wr.heap.size = ga at *
    have G2 := Aside0.mk (show w.heap.size < g4 ∧ g4 < g6 ∧ g6 < g7 ∧ g7 < ga ∧ ga < gb ∧ gb < w4.heap.size by have := G.out; omega)
    clear hga hgb S4 S5 wr; dsimp only; have ci := I4.out.cell0; have cm : ∀ o, (w4.alloc o).cell? ⟨g7, 0, none⟩ = some (.bool m1) := fun o => (blk_cell (blk_alloc M4.out o) 0).trans rfl
    have gm : ¬ g7 = w4.heap.size := by have := G2.out; omega
    have G3 := Aside0.mk (show 8 ≤ w.heap.size ∧ w.heap.size < g4 ∧ g4 < g6 ∧ g6 < g7 ∧ g7 < ga from by have := G2.out; have := hE'.out.size; omega)
    by_cases hm : true = m1
    rotate_left
    ·have hread : readV l = .tuple #[insV ins0, sv [], .bool false] := by
      unfold readV readS; rw [hC'.out]; dsimp only; rw [hO'.out]; dsimp only; rw [if_neg hz, hX'.out, if_pos (show anyS (true, true, false, true, false) ≠ m1 from hm)]
     have hnm : m1 = !true := by cases m1 <;> first | rfl | exact absurd rfl hm
     subst hnm; obtain ⟨cj0, cj1, cj2, cj3, cj4, cj5, cj6, cj7, fj⟩ := ins_cells I4.out
     have ck : ∀ o, (w4.alloc o).cell? ⟨g4, 0, none⟩ = some (.bool true) := fun o => (blk_cell (blk_alloc K4.out o) 0).trans rfl
     have fk : ∀ o, (w4.alloc o).frozen? ⟨g4, 0, none⟩ = false := fun o => blk_frozen (blk_alloc K4.out o) 0
     have hk1 : ¬ w.heap.size = g4 := by have := G2.out; omega
     have hk2 : ¬ g4 = w.heap.size := by have := G2.out; omega
     have hi4 : ¬ w.heap.size = w4.heap.size := by have := G2.out; omega
     have hk4 : ¬ g4 = w4.heap.size := by have := G2.out; omega
     clear hm ci; go_wp2_with (fail)
     exact bodyPost_ret (results_ctb rfl _ _ w.heap.size g4 _ rfl (blk_far (put8 (blk_alloc I4.out _) rfl _ _ _ _ _ _ _ _) (p := ⟨g4, 0, none⟩) hk1 _) rfl rfl _ ((blk_cell (blk_put (cs' := #[.bool false]) ((far8 hk2 _ _ _ _ _ _ _ _).trans (blk_alloc K4.out _)) 0 (.bool false) rfl) 0).trans rfl)) rfl ⟨(by first | (rw [hread]; done) | (rw [hread]; rfl) | rfl), (bel8 (below_alloc B4.out _) (Nat.le_refl _) _ _ _ _ _ _ _ _).setCell (by have := G2.out; show w.heap.size ≤ g4; omega) _⟩
    ·subst hm
     go_wp2_with (fail)
     have G4 := Aside0.mk (show w.heap.size < g4 ∧ g4 < g6 ∧ g6 < g7 ∧ g7 < ga ∧ ga < gb ∧ gb < w4.heap.size from G2.out)
     have hlr : r1.length < 4294967281 := by
      have z1 := hcl.out.2; rw [hC'.out] at z1
      dsimp only at z1
      have z2 := hl'.out; omega
     have I5 : Aside0 (InsB (w4.alloc (.cells #[.bool true, .bool true, .bool false, .bool true, .bool false] 69)).drew w.heap.size (s1, 0, 0, 0, 0, 0, s2, s3)) := ⟨blk_drew (blk_alloc I4.out _)⟩
     have RD : Aside0 (Rd (w4.alloc (.cells #[.bool true, .bool true, .bool false, .bool true, .bool false] 69)).drew ga g7 g4 g6 (true, true, true, r1)) := ⟨⟨blk_drew (blk_alloc F4.out _), blk_drew (blk_alloc M4.out _), blk_drew (blk_alloc K4.out _), blk_drew (blk_alloc R4.out _)⟩⟩
     have N5 : Aside0 (FnB (w4.alloc (.cells #[.bool true, .bool true, .bool false, .bool true, .bool false] 69)).drew gb ga g7 g4 g6) := ⟨blk_drew (blk_alloc N4.out _)⟩
     have X5 := Aside0.mk (blk_drew (heap_alloc_new w4 (.cells #[.bool true, .bool true, .bool false, .bool true, .bool false] 69)))
     have B5 := Aside0.mk (below_drew1 (below_alloc B4.out (.cells #[.bool true, .bool true, .bool false, .bool true, .bool false] 69)))
     have LEN : Aside0 (((true, true, true, r1) : St).2.2.2.length < 4294967281) := ⟨hlr⟩
     have TK : Aside0 (∀ (said : Bool) (st : St) (W : World), st.2.2.2.length < 4294967281 → Env W → Rd W ga g7 g4 g6 st → FnB W gb ga g7 g4 g6 → Calls Tryz.prog 116 #[.bool said, .pointer (some ⟨gb, 0, none⟩), .pointer (some ⟨g4, 0, none⟩)] W fun e w' => e = .returned (.int .i64 (takeS said st).1) ∧ Rd w' ga g7 g4 g6 (takeS said st).2 ∧ OnlyS [ga, g7, g4, g6] W w') := by
      have q := G2.out; have q3 := G3.out; exact ⟨fun said st W h1 h2 h3 h4 => take_calls said gb ga g7 g4 g6 st h1 (by omega) (by omega) (by omega) (by omega) (by omega) (by omega) (by omega) (by omega) (by omega) (by omega) W h2 h3 h4 (by simp; omega)⟩
     have OK1 : Aside0 (gb ∉ [ga, g7, g4, g6] ∧ w4.heap.size ∉ [ga, g7, g4, g6] ∧ w.heap.size ∉ [ga, g7, g4, g6] ∧ ∀ b ∈ [ga, g7, g4, g6], w.heap.size ≤ b) := by
      have q := G2.out; exact ⟨by simp; omega, by simp; omega, by simp; omega, by simp; omega⟩
     clear hlr I4 K4 R4 M4 F4 N4 B4 ci cm gm; have hx4 : ¬ w4.heap.size = w.heap.size := by have := G2.out; omega
     have hx5 : ¬ w.heap.size = w4.heap.size := by have := G2.out; omega
     go_region_held3 (fun w' => w'.cell? ⟨w4.heap.size, 0, none⟩ = some (.bool true) ∧ w'.cell? ⟨w4.heap.size, 1, none⟩ = some (.bool true) ∧ w'.cell? ⟨w4.heap.size, 2, none⟩ = some (.bool false)) (first | exact ⟨(blk_cell X5.out 0).trans rfl, (blk_cell X5.out 1).trans rfl, (blk_cell X5.out 2).trans rfl⟩ | go_keep) (((go_at_call 116; refine (TK.out _ _ _ LEN.out (hE'.out.below B5.out) RD.out N5.out).mono ?_; rintro e w5 ⟨rfl, hR, hO⟩; have n1 := Aside0.mk (rd_len hR _ LEN.out); have n2 := Aside0.mk hR; have n3 : Aside0 (FnB w5 gb ga g7 g4 g6) := ⟨hO.keep N5.out OK1.out.1⟩; have n4 := Aside0.mk (hO.keep X5.out OK1.out.2.1); have n5 : Aside0 (InsB w5 w.heap.size (s1, 0, 0, 0, 0, 0, s2, s3)) := ⟨hO.keep I5.out OK1.out.2.2.1⟩; have n6 := Aside0.mk (B5.out.trans (hO.below (n := w.heap.size) OK1.out.2.2.2 B5.out.size)); clear hO hR LEN RD N5 X5 I5 B5; have LEN := n1; have RD := n2; have N5 := n3; have X5 := n4; have I5 := n5; have B5 := n6; clear n1 n2 n3 n4 n5 n6; (try clear cj0 cj1 cj2 cj3 cj4 cj5 cj6 cj7 fj); have cj0 := blk_cell I5.out 0; have cj1 := blk_cell I5.out 1; have cj2 := blk_cell I5.out 2; have cj3 := blk_cell I5.out 3; have cj4 := blk_cell I5.out 4; have cj5 := blk_cell I5.out 5; have cj6 := blk_cell I5.out 6; have cj7 := blk_cell I5.out 7; simp at cj0 cj1 cj2 cj3 cj4 cj5 cj6 cj7; have fj := blk_frozen I5.out)))
     obtain ⟨⟨d1, S1⟩, hT1⟩ : ∃ T, takeS true (true, true, true, r1) = T := ⟨_, rfl⟩
     obtain ⟨⟨d2, S2⟩, hT2⟩ : ∃ T, takeS true S1 = T := ⟨_, rfl⟩
     obtain ⟨⟨d3, S3⟩, hT3⟩ : ∃ T, takeS false S2 = T := ⟨_, rfl⟩
     simp only [hT1, hT2, hT3] at LEN RD ⊢
     have HT := Aside0.mk (And.intro hT1 (And.intro hT2 hT3))
     have q := G2.out; have I6 : Aside0 (InsB (((w5.setCell ⟨w.heap.size, 1, none⟩ (.int .i64 d1)).setCell ⟨w.heap.size, 2, none⟩ (.int .i64 d2)).setCell ⟨w.heap.size, 3, none⟩ (.int .i64 d3)) w.heap.size (s1, d1, d2, d3, 0, 0, s2, s3)) := ⟨((I5.out.put1 d1).put2 d2).put3 d3⟩
     have R6 : Aside0 (Rd (((w5.setCell ⟨w.heap.size, 1, none⟩ (.int .i64 d1)).setCell ⟨w.heap.size, 2, none⟩ (.int .i64 d2)).setCell ⟨w.heap.size, 3, none⟩ (.int .i64 d3)) ga g7 g4 g6 S3) := ⟨((RD.out.far (by omega) (by omega) (by omega) (by omega) 1 _).far (by omega) (by omega) (by omega) (by omega) 2 _).far (by omega) (by omega) (by omega) (by omega) 3 _⟩
     have N6 : Aside0 (FnB (((w5.setCell ⟨w.heap.size, 1, none⟩ (.int .i64 d1)).setCell ⟨w.heap.size, 2, none⟩ (.int .i64 d2)).setCell ⟨w.heap.size, 3, none⟩ (.int .i64 d3)) gb ga g7 g4 g6) := ⟨blk_far (blk_far (blk_far N5.out (by show gb ≠ w.heap.size; omega) _) (by show gb ≠ w.heap.size; omega) _) (by show gb ≠ w.heap.size; omega) _⟩
     have X6 : Aside0 ((((w5.setCell ⟨w.heap.size, 1, none⟩ (.int .i64 d1)).setCell ⟨w.heap.size, 2, none⟩ (.int .i64 d2)).setCell ⟨w.heap.size, 3, none⟩ (.int .i64 d3)).heap[w4.heap.size]? = some (.cells #[.bool true, .bool true, .bool false, .bool true, .bool false] 69 (0, 0))) := ⟨blk_far (blk_far (blk_far X5.out hx4 _) hx4 _) hx4 _⟩
     have B6 : Aside0 (Below w.heap.size w (((w5.setCell ⟨w.heap.size, 1, none⟩ (.int .i64 d1)).setCell ⟨w.heap.size, 2, none⟩ (.int .i64 d2)).setCell ⟨w.heap.size, 3, none⟩ (.int .i64 d3))) := ⟨((B5.out.setCell (Nat.le_refl _) _).setCell (Nat.le_refl _) _).setCell (Nat.le_refl _) _⟩
     clear hT1 hT2 hT3 I5 RD N5 X5 B5 TK cj0 cj1 cj2 cj3 cj4 cj5 cj6 cj7 fj q; generalize (((w5.setCell ⟨w.heap.size, 1, none⟩ (.int .i64 d1)).setCell ⟨w.heap.size, 2, none⟩ (.int .i64 d2)).setCell ⟨w.heap.size, 3, none⟩ (.int .i64 d3)) = w6 at I6 R6 N6 X6 B6 ⊢
     have cx3 := (blk_cell X6.out 3).trans (rfl : _ = some (Value.bool true))
     have cx4 := (blk_cell X6.out 4).trans (rfl : _ = some (Value.bool false))
     have cn := blk_cell N6.out 0
     simp at cn
     have KI := I6; have KR := R6; have KX := X6; have KB := B6; have KN := N6; clear I6 R6 X6 B6 N6 cx3 cx4; have hk1 : ¬ w.heap.size = g4 := by have := G2.out; omega
     have hk2 : ¬ g4 = w.heap.size := by have := G2.out; omega
     have hk3 : ¬ w4.heap.size = g4 := by have := G2.out; omega
     have hk5 : ¬ g4 = w4.heap.size := by have := G2.out; omega
     have hk6 : ¬ g7 = g4 := by have := G2.out; omega
     have hk7 : ¬ g4 = g7 := by have := G2.out; omega
     have hk8 : ¬ g7 = w.heap.size := by have := G2.out; omega
     have hk9 : ¬ w.heap.size = g7 := by have := G2.out; omega
     clear cn; have q := G2.out; have q3 := G3.out; obtain ⟨ci0, ci1, ci2, ci3, ci4, ci5, ci6, ci7, fi, ck, cm, fk, cx0, cx1, cx2, cx3, cx4⟩ := all_cells KI.out KR.out KX.out
     have cn := blk_cell KN.out 0
     simp at cn
     go_wp2_with (fail)
     refine (next_calls ga g7 g4 g6 S3 LEN.out (by omega) (by omega) (by omega) (by omega) (by omega) (by omega) (by omega) (by omega) (by omega) (by omega) _ (hE'.out.below KB.out) KR.out).mono ?_
     have htl := (next_len S3).1
     obtain ⟨⟨tx, sf, sm, sk, sr⟩, hT4⟩ : ∃ T, nextS S3 = T := ⟨_, rfl⟩
     rw [hT4] at htl ⊢
     dsimp only at htl ⊢
     have htx : tx.length < 4294967281 := Nat.lt_of_le_of_lt htl LEN.out
     have htr := (next_len S3).2
     rw [hT4] at htr
     dsimp only at htr
     have HTR : Aside0 (sr.length < 4294967281) := ⟨Nat.lt_of_le_of_lt htr LEN.out⟩
     clear htr; have HTX := Aside0.mk htx
     have HT4 := Aside0.mk hT4
     clear htl htx hT4; clear ci0 ci1 ci2 ci3 ci4 ci5 ci6 ci7 fi ck cm fk cx0 cx1 cx2 cx3 cx4 cn; rintro e w7 ⟨rfl, hR, hO⟩
     replace KI : Aside0 (InsB w7 w.heap.size (s1, d1, d2, d3, 0, 0, s2, s3)) := ⟨hO.keep KI.out OK1.out.2.2.1⟩
     replace KR := Aside0.mk hR
     replace KX := Aside0.mk (hO.keep KX.out OK1.out.2.1)
     replace KB := Aside0.mk (Below.trans KB.out (hO.below (n := w.heap.size) OK1.out.2.2.2 (Below.size KB.out)))
     replace KN : Aside0 (FnB w7 gb ga g7 g4 g6) := ⟨hO.keep KN.out OK1.out.1⟩
     clear hO hR; clear q q3; obtain ⟨s, hs1, hs2⟩ : ∃ s : ByteArray, sv tx = .string s ∧ s.data.toList = tx := ⟨⟨tx.toArray⟩, rfl, by simp⟩
     rw [hs1]
     have hss : s.size = tx.length := by rw [Lib.size_eq s, hs2]
     have hnum := fun W h => number_calls s (by rw [hss]; have := HTX.out; omega) W h
     rw [hs2] at hnum
     have hpr := fun W => Tryz.strings_HasPrefix s ⟨#[64]⟩ W
     rw [hs2, show (⟨#[64]⟩ : ByteArray).data.toList = [64] from rfl] at hpr
     have hsl : sv (tx.drop 1) = .string (s.extract 1 s.size) := by
      have e := data_drop s 1
      rw [hs2] at e
      rw [← e]
     have hnm := fun W => named_calls (tx.drop 1) (by have := HTX.out; simp; omega) W
     rw [hsl] at hnm
     obtain ⟨⟨nv, good⟩, hNV⟩ : ∃ T, numberS tx = T := ⟨_, rfl⟩
     rw [hNV] at hnum
     dsimp only at hnum
     obtain ⟨nm, hNM⟩ : ∃ T, namedS (tx.drop 1) = T := ⟨_, rfl⟩
     rw [hNM] at hnm
     have HNV := Aside0.mk hNV
     have HNM := Aside0.mk hNM
     have hnum' := Aside0.mk hnum
     have hnm' := Aside0.mk hnm
     have hslA := Aside0.mk hsl
     have hssA := Aside0.mk hss
     clear hs1 hNV hNM hnum hnm hsl hss hs2; obtain ⟨ci0, ci1, ci2, ci3, ci4, ci5, ci6, ci7, fi, ck, cm, fk, cx0, cx1, cx2, cx3, cx4⟩ := all_cells KI.out KR.out KX.out
     go_wp2_with (fail)
     refine (far_says s1 _).mono ?_
     rintro e w8 ⟨rfl, hb⟩
     clear ci0 ci1 ci2 ci3 ci4 ci5 ci6 ci7 fi ck cm fk cx0 cx1 cx2 cx3 cx4; replace KI : Aside0 (InsB w8 w.heap.size (s1, d1, d2, d3, 0, 0, s2, s3)) := ⟨blk_below KI.out hb⟩
     replace KR := Aside0.mk (Rd.below KR.out hb)
     replace KX := Aside0.mk (blk_below KX.out hb)
     replace KB := Aside0.mk (below_step KB.out hb)
     replace KN : Aside0 (FnB w8 gb ga g7 g4 g6) := ⟨blk_below KN.out hb⟩
     clear hb; by_cases hf0 : farS s1 = true
     ·rw [hf0]
      by_cases hf1 : Lib.hasPrefix tx [64] = true
      ·have hf : Aside0 (farS s1 = true ∧ Lib.hasPrefix tx [64] = true) := ⟨⟨hf0, hf1⟩⟩
       have h1 : 1 ≤ s.size := by
        rw [hssA.out]
        cases tx with
        | nil => cases hf1
        | cons a b => simp
       have h1' : ((1 : Nat) : Int) ≤ (s.size : Int) := by omega
       rw [hf1] at hpr
       have hpr' := Aside0.mk hpr
       clear hpr hf0 hf1; have HI : Aside0 (immS true s1 S3 = (0, tx.drop 1, (sf, sm, sk && nm, sr))) := ⟨by unfold immS; rw [if_pos rfl, HT4.out]; dsimp only; rw [if_pos hf.out, HNM.out]; rfl⟩
       have HQ : Aside0 (csrS false ((sf, sm, sk && nm, sr) : St) = (0, (sf, sm, sk && nm, sr))) := ⟨rfl⟩
       cases sk
       ·skip
        obtain ⟨ci0, ci1, ci2, ci3, ci4, ci5, ci6, ci7, fi, ck, cm, fk, cx0, cx1, cx2, cx3, cx4⟩ := all_cells KI.out KR.out KX.out
        have hread : readV l = .tuple #[insV ins0, sv [], .bool false] := by
         unfold readV readS; rw [hC'.out]; dsimp only; rw [hO'.out]; dsimp only; rw [if_neg hz, hX'.out, if_neg (by decide)]; dsimp only; rw [HT.out.1]; dsimp only; rw [HT.out.2.1]; dsimp only; rw [HT.out.2.2]; dsimp only; rw [HI.out]; dsimp only; rw [HQ.out]; dsimp only; rw [if_pos (by simp)]
        go_wp2_with (first | ((with_reducible show bodyPost _ _ _ _ _ _); exact bodyPost_ret (results_ctb rfl _ _ w.heap.size g4 _ rfl (blk_far (put8 (KI.out.far hk1 0 _) rfl _ _ _ _ _ _ _ _) (p := ⟨g4, 0, none⟩) hk1 _) rfl rfl _ ((blk_cell (blk_put (cs' := #[.bool false]) ((far8 hk2 _ _ _ _ _ _ _ _).trans (KR.out.k.put _)) 0 (.bool false) rfl) 0).trans rfl)) rfl ⟨(by first | (rw [hread]; done) | (rw [hread]; rfl) | rfl), (bel8 (KB.out.setCell (by have := G2.out; show w.heap.size ≤ g4; omega) _) (Nat.le_refl _) _ _ _ _ _ _ _ _).setCell (by have := G2.out; show w.heap.size ≤ g4; omega) _⟩) | (go_at_call 118; refine (hpr'.out _).mono ?_; rintro e w0 ⟨rfl, rfl⟩))
       ·skip
        obtain ⟨ci0, ci1, ci2, ci3, ci4, ci5, ci6, ci7, fi, ck, cm, fk, cx0, cx1, cx2, cx3, cx4⟩ := all_cells KI.out KR.out KX.out
        go_wp2_with ((go_at_call 118; refine (hpr'.out _).mono ?_; rintro e w0 ⟨rfl, rfl⟩))
        refine (hnm'.out _).mono ?_
        rintro e w9 ⟨rfl, hb⟩
        clear ci0 ci1 ci2 ci3 ci4 ci5 ci6 ci7 fi ck cm fk cx0 cx1 cx2 cx3 cx4; replace KI : Aside0 (InsB w9 w.heap.size (s1, d1, d2, d3, 0, 0, s2, s3)) := ⟨blk_below KI.out hb⟩
        replace KR := Aside0.mk (Rd.below KR.out hb)
        replace KX := Aside0.mk (blk_below KX.out hb)
        replace KB := Aside0.mk (below_step KB.out hb)
        replace KN : Aside0 (FnB w9 gb ga g7 g4 g6) := ⟨blk_below KN.out hb⟩
        clear hb; cases nm
        ·skip
         obtain ⟨ci0, ci1, ci2, ci3, ci4, ci5, ci6, ci7, fi, ck, cm, fk, cx0, cx1, cx2, cx3, cx4⟩ := all_cells KI.out KR.out KX.out
         have hread : readV l = .tuple #[insV ins0, sv [], .bool false] := by
          unfold readV readS; rw [hC'.out]; dsimp only; rw [hO'.out]; dsimp only; rw [if_neg hz, hX'.out, if_neg (by decide)]; dsimp only; rw [HT.out.1]; dsimp only; rw [HT.out.2.1]; dsimp only; rw [HT.out.2.2]; dsimp only; rw [HI.out]; dsimp only; rw [HQ.out]; dsimp only; rw [if_pos (by simp)]
         go_wp2_with (((with_reducible show bodyPost _ _ _ _ _ _); exact bodyPost_ret (results_ctb rfl _ _ w.heap.size g4 _ rfl (blk_far (put8 (KI.out.far hk1 0 _) rfl _ _ _ _ _ _ _ _) (p := ⟨g4, 0, none⟩) hk1 _) rfl rfl _ ((blk_cell (blk_put (cs' := #[.bool false]) ((far8 hk2 _ _ _ _ _ _ _ _).trans (KR.out.k.put _)) 0 (.bool false) rfl) 0).trans rfl)) rfl ⟨(by first | (rw [hread]; done) | (rw [hread]; rfl) | rfl), (bel8 (KB.out.setCell (by have := G2.out; show w.heap.size ≤ g4; omega) _) (Nat.le_refl _) _ _ _ _ _ _ _ _).setCell (by have := G2.out; show w.heap.size ≤ g4; omega) _⟩))
        ·cases sm
         ·skip
          obtain ⟨ci0, ci1, ci2, ci3, ci4, ci5, ci6, ci7, fi, ck, cm, fk, cx0, cx1, cx2, cx3, cx4⟩ := all_cells KI.out KR.out KX.out
          have hr1 : (encI (s1, d1, d2, d3, 0, 0, s2, s3)).2 ≠ 0 → readV l = .tuple #[insV ins0, sv [], .bool false] := by
           intro h0
           unfold readV readS; rw [hC'.out]; dsimp only; rw [hO'.out]; dsimp only; rw [if_neg hz, hX'.out, if_neg (by decide)]; dsimp only; rw [HT.out.1]; dsimp only; rw [HT.out.2.1]; dsimp only; rw [HT.out.2.2]; dsimp only; rw [HI.out]; dsimp only; rw [HQ.out]; dsimp only; rw [if_neg (by decide), if_neg (by decide), if_neg h0]
          have hr2 : (encI (s1, d1, d2, d3, 0, 0, s2, s3)).2 = 0 → readV l = .tuple #[insV (s1, d1, d2, d3, 0, 0, s2, s3), .string (s.extract 1 s.size), .bool true] := by
           intro h0
           unfold readV readS; rw [hC'.out]; dsimp only; rw [hO'.out]; dsimp only; rw [if_neg hz, hX'.out, if_neg (by decide)]; dsimp only; rw [HT.out.1]; dsimp only; rw [HT.out.2.1]; dsimp only; rw [HT.out.2.2]; dsimp only; rw [HI.out]; dsimp only; rw [HQ.out]; dsimp only; rw [if_neg (by decide), if_neg (by decide), if_pos h0]; dsimp only; rw [hslA.out]
          have he := encode_says (s1, d1, d2, d3, 0, 0, s2, s3)
          unfold insV at he hr2
          dsimp only at he hr2
          generalize encI (s1, d1, d2, d3, 0, 0, s2, s3) = EE at he hr1 hr2
          obtain ⟨e1, e2⟩ := EE
          dsimp only at he hr1 hr2
          have he' := Aside0.mk he
          have hr1' := Aside0.mk hr1
          have hr2' := Aside0.mk hr2
          clear he hr1 hr2; go_wp2_with (fail)
          refine (he'.out _).mono ?_
          rintro e wz ⟨rfl, hb⟩
          have ZI : Aside0 (InsB wz w.heap.size (s1, d1, d2, d3, 0, 0, s2, s3)) := ⟨blk_below (KI.out.far hk1 0 _) hb⟩
          have ZK : Aside0 (BoolB wz g4 true) := ⟨blk_below (KR.out.k.put _) hb⟩
          have ZB := Aside0.mk (below_step (KB.out.setCell (by have := G2.out; show w.heap.size ≤ g4; omega) _) hb)
          clear hb; clear ci0 ci1 ci2 ci3 ci4 ci5 ci6 ci7 fi ck cm fk cx0 cx1 cx2 cx3 cx4; by_cases h0 : e2 = 0
          ·subst h0
           have hread := hr2'.out rfl
           obtain ⟨ci0, ci1, ci2, ci3, ci4, ci5, ci6, ci7⟩ := ins_cell8 ZI.out
           have fi := blk_frozen ZI.out
           have ck := ZK.out.cell; have fk := blk_frozen ZK.out 0
           go_wp2_with (((with_reducible show bodyPost _ _ _ _ _ _); exact bodyPost_ret (results_ctb rfl _ _ w.heap.size g4 _ rfl (blk_far (put8 ZI.out rfl _ _ _ _ _ _ _ _) (p := ⟨g4, 0, none⟩) hk1 _) rfl rfl _ ((blk_cell (blk_put (cs' := #[.bool true]) ((far8 hk2 _ _ _ _ _ _ _ _).trans ZK.out) 0 (.bool true) rfl) 0).trans rfl)) rfl ⟨(by first | (rw [hread]; done) | (rw [hread]; rfl) | rfl), (bel8 ZB.out (Nat.le_refl _) _ _ _ _ _ _ _ _).setCell (by have := G2.out; show w.heap.size ≤ g4; omega) _⟩))
          ·have hread := hr1'.out h0
           have h0b : (e2 == 0) = false := beq_eq_false_iff_ne.2 h0
           obtain ⟨ci0, ci1, ci2, ci3, ci4, ci5, ci6, ci7⟩ := ins_cell8 ZI.out
           have fi := blk_frozen ZI.out
           have ck := ZK.out.cell; have fk := blk_frozen ZK.out 0
           go_wp2_with (((with_reducible show bodyPost _ _ _ _ _ _); exact bodyPost_ret (results_ctb rfl _ _ w.heap.size g4 _ rfl (blk_far (put8 ZI.out rfl _ _ _ _ _ _ _ _) (p := ⟨g4, 0, none⟩) hk1 _) rfl rfl _ ((blk_cell (blk_put (cs' := #[.bool false]) ((far8 hk2 _ _ _ _ _ _ _ _).trans ZK.out) 0 (.bool false) rfl) 0).trans rfl)) rfl ⟨(by first | (rw [hread]; done) | (rw [hread]; rfl) | rfl), (bel8 ZB.out (Nat.le_refl _) _ _ _ _ _ _ _ _).setCell (by have := G2.out; show w.heap.size ≤ g4; omega) _⟩))
         ·skip
          obtain ⟨ci0, ci1, ci2, ci3, ci4, ci5, ci6, ci7, fi, ck, cm, fk, cx0, cx1, cx2, cx3, cx4⟩ := all_cells KI.out KR.out KX.out
          have hread : readV l = .tuple #[insV ins0, sv [], .bool false] := by
           unfold readV readS; rw [hC'.out]; dsimp only; rw [hO'.out]; dsimp only; rw [if_neg hz, hX'.out, if_neg (by decide)]; dsimp only; rw [HT.out.1]; dsimp only; rw [HT.out.2.1]; dsimp only; rw [HT.out.2.2]; dsimp only; rw [HI.out]; dsimp only; rw [HQ.out]; dsimp only; rw [if_neg (by decide), if_pos ⟨rfl, by decide⟩]
          go_wp2_with (((with_reducible show bodyPost _ _ _ _ _ _); exact bodyPost_ret (results_ctb rfl _ _ w.heap.size g4 _ rfl (blk_far (put8 (KI.out.far hk1 0 _) rfl _ _ _ _ _ _ _ _) (p := ⟨g4, 0, none⟩) hk1 _) rfl rfl _ ((blk_cell (blk_put (cs' := #[.bool false]) ((far8 hk2 _ _ _ _ _ _ _ _).trans (KR.out.k.put _)) 0 (.bool false) rfl) 0).trans rfl)) rfl ⟨(by first | (rw [hread]; done) | (rw [hread]; rfl) | rfl), (bel8 (KB.out.setCell (by have := G2.out; show w.heap.size ≤ g4; omega) _) (Nat.le_refl _) _ _ _ _ _ _ _ _).setCell (by have := G2.out; show w.heap.size ≤ g4; omega) _⟩))
      ·have hf : Aside0 (¬ (farS s1 = true ∧ Lib.hasPrefix tx [64] = true)) := ⟨fun c => hf1 c.2⟩
       have hf2 : Lib.hasPrefix tx [64] = false := Bool.eq_false_iff.2 hf1
       rw [hf2] at hpr
       have hpr' := Aside0.mk hpr
       clear hpr hf0 hf1 hf2; obtain ⟨ci0, ci1, ci2, ci3, ci4, ci5, ci6, ci7, fi, ck, cm, fk, cx0, cx1, cx2, cx3, cx4⟩ := all_cells KI.out KR.out KX.out
       go_wp2_with ((go_at_call 118; refine (hpr'.out _).mono ?_; rintro e w0 ⟨rfl, rfl⟩))
       refine (hnum'.out _ (hE'.out.below KB.out)).mono ?_
       rintro e w9 ⟨rfl, hb⟩
       clear ci0 ci1 ci2 ci3 ci4 ci5 ci6 ci7 fi ck cm fk cx0 cx1 cx2 cx3 cx4; replace KI : Aside0 (InsB w9 w.heap.size (s1, d1, d2, d3, 0, 0, s2, s3)) := ⟨blk_below KI.out hb⟩
       replace KR := Aside0.mk (Rd.below KR.out hb)
       replace KX := Aside0.mk (blk_below KX.out hb)
       replace KB := Aside0.mk (below_step KB.out hb)
       replace KN : Aside0 (FnB w9 gb ga g7 g4 g6) := ⟨blk_below KN.out hb⟩
       clear hb; have HI : Aside0 (immS true s1 S3 = (nv, [], (sf, sm, sk && good, sr))) := ⟨by unfold immS; rw [if_pos rfl, HT4.out]; dsimp only; rw [if_neg hf.out, HNV.out]; rfl⟩
       have HQ : Aside0 (csrS false ((sf, sm, sk && good, sr) : St) = (0, (sf, sm, sk && good, sr))) := ⟨rfl⟩
       cases sk
       ·skip
        obtain ⟨ci0, ci1, ci2, ci3, ci4, ci5, ci6, ci7, fi, ck, cm, fk, cx0, cx1, cx2, cx3, cx4⟩ := all_cells KI.out KR.out KX.out
        have hread : readV l = .tuple #[insV ins0, sv [], .bool false] := by
         unfold readV readS; rw [hC'.out]; dsimp only; rw [hO'.out]; dsimp only; rw [if_neg hz, hX'.out, if_neg (by decide)]; dsimp only; rw [HT.out.1]; dsimp only; rw [HT.out.2.1]; dsimp only; rw [HT.out.2.2]; dsimp only; rw [HI.out]; dsimp only; rw [HQ.out]; dsimp only; rw [if_pos (by simp)]
        go_wp2_with (((with_reducible show bodyPost _ _ _ _ _ _); exact bodyPost_ret (results_ctb rfl _ _ w.heap.size g4 _ rfl (blk_far (put8 ((KI.out.put4 _).far hk1 0 _) rfl _ _ _ _ _ _ _ _) (p := ⟨g4, 0, none⟩) hk1 _) rfl rfl _ ((blk_cell (blk_put (cs' := #[.bool false]) ((far8 hk2 _ _ _ _ _ _ _ _).trans ((KR.out.k.far hk2 4 _).put _)) 0 (.bool false) rfl) 0).trans rfl)) rfl ⟨(by first | (rw [hread]; done) | (rw [hread]; rfl) | rfl), (bel8 ((KB.out.setCell (Nat.le_refl _) _).setCell (by have := G2.out; show w.heap.size ≤ g4; omega) _) (Nat.le_refl _) _ _ _ _ _ _ _ _).setCell (by have := G2.out; show w.heap.size ≤ g4; omega) _⟩))
       ·cases good
        ·skip
         obtain ⟨ci0, ci1, ci2, ci3, ci4, ci5, ci6, ci7, fi, ck, cm, fk, cx0, cx1, cx2, cx3, cx4⟩ := all_cells KI.out KR.out KX.out
         have hread : readV l = .tuple #[insV ins0, sv [], .bool false] := by
          unfold readV readS; rw [hC'.out]; dsimp only; rw [hO'.out]; dsimp only; rw [if_neg hz, hX'.out, if_neg (by decide)]; dsimp only; rw [HT.out.1]; dsimp only; rw [HT.out.2.1]; dsimp only; rw [HT.out.2.2]; dsimp only; rw [HI.out]; dsimp only; rw [HQ.out]; dsimp only; rw [if_pos (by simp)]
         go_wp2_with (((with_reducible show bodyPost _ _ _ _ _ _); exact bodyPost_ret (results_ctb rfl _ _ w.heap.size g4 _ rfl (blk_far (put8 ((KI.out.put4 _).far hk1 0 _) rfl _ _ _ _ _ _ _ _) (p := ⟨g4, 0, none⟩) hk1 _) rfl rfl _ ((blk_cell (blk_put (cs' := #[.bool false]) ((far8 hk2 _ _ _ _ _ _ _ _).trans ((KR.out.k.far hk2 4 _).put _)) 0 (.bool false) rfl) 0).trans rfl)) rfl ⟨(by first | (rw [hread]; done) | (rw [hread]; rfl) | rfl), (bel8 ((KB.out.setCell (Nat.le_refl _) _).setCell (by have := G2.out; show w.heap.size ≤ g4; omega) _) (Nat.le_refl _) _ _ _ _ _ _ _ _).setCell (by have := G2.out; show w.heap.size ≤ g4; omega) _⟩))
        ·cases sm
         ·skip
          obtain ⟨ci0, ci1, ci2, ci3, ci4, ci5, ci6, ci7, fi, ck, cm, fk, cx0, cx1, cx2, cx3, cx4⟩ := all_cells KI.out KR.out KX.out
          have hr1 : (encI (s1, d1, d2, d3, nv, 0, s2, s3)).2 ≠ 0 → readV l = .tuple #[insV ins0, sv [], .bool false] := by
           intro h0
           unfold readV readS; rw [hC'.out]; dsimp only; rw [hO'.out]; dsimp only; rw [if_neg hz, hX'.out, if_neg (by decide)]; dsimp only; rw [HT.out.1]; dsimp only; rw [HT.out.2.1]; dsimp only; rw [HT.out.2.2]; dsimp only; rw [HI.out]; dsimp only; rw [HQ.out]; dsimp only; rw [if_neg (by decide), if_neg (by decide), if_neg h0]
          have hr2 : (encI (s1, d1, d2, d3, nv, 0, s2, s3)).2 = 0 → readV l = .tuple #[insV (s1, d1, d2, d3, nv, 0, s2, s3), sv [], .bool true] := by
           intro h0
           unfold readV readS; rw [hC'.out]; dsimp only; rw [hO'.out]; dsimp only; rw [if_neg hz, hX'.out, if_neg (by decide)]; dsimp only; rw [HT.out.1]; dsimp only; rw [HT.out.2.1]; dsimp only; rw [HT.out.2.2]; dsimp only; rw [HI.out]; dsimp only; rw [HQ.out]; dsimp only; rw [if_neg (by decide), if_neg (by decide), if_pos h0]
          have he := encode_says (s1, d1, d2, d3, nv, 0, s2, s3)
          unfold insV at he hr2
          dsimp only at he hr2
          generalize encI (s1, d1, d2, d3, nv, 0, s2, s3) = EE at he hr1 hr2
          obtain ⟨e1, e2⟩ := EE
          dsimp only at he hr1 hr2
          have he' := Aside0.mk he
          have hr1' := Aside0.mk hr1
          have hr2' := Aside0.mk hr2
          clear he hr1 hr2; go_wp2_with (fail)
          refine (he'.out _).mono ?_
          rintro e wz ⟨rfl, hb⟩
          have ZI : Aside0 (InsB wz w.heap.size (s1, d1, d2, d3, nv, 0, s2, s3)) := ⟨blk_below ((KI.out.put4 _).far hk1 0 _) hb⟩
          have ZK : Aside0 (BoolB wz g4 true) := ⟨blk_below ((KR.out.k.far hk2 4 _).put _) hb⟩
          have ZB := Aside0.mk (below_step ((KB.out.setCell (Nat.le_refl _) _).setCell (by have := G2.out; show w.heap.size ≤ g4; omega) _) hb)
          clear hb; clear ci0 ci1 ci2 ci3 ci4 ci5 ci6 ci7 fi ck cm fk cx0 cx1 cx2 cx3 cx4; by_cases h0 : e2 = 0
          ·subst h0
           have hread := hr2'.out rfl
           obtain ⟨ci0, ci1, ci2, ci3, ci4, ci5, ci6, ci7⟩ := ins_cell8 ZI.out
           have fi := blk_frozen ZI.out
           have ck := ZK.out.cell; have fk := blk_frozen ZK.out 0
           go_wp2_with (((with_reducible show bodyPost _ _ _ _ _ _); exact bodyPost_ret (results_ctb rfl _ _ w.heap.size g4 _ rfl (blk_far (put8 ZI.out rfl _ _ _ _ _ _ _ _) (p := ⟨g4, 0, none⟩) hk1 _) rfl rfl _ ((blk_cell (blk_put (cs' := #[.bool true]) ((far8 hk2 _ _ _ _ _ _ _ _).trans ZK.out) 0 (.bool true) rfl) 0).trans rfl)) rfl ⟨(by first | (rw [hread]; done) | (rw [hread]; rfl) | rfl), (bel8 ZB.out (Nat.le_refl _) _ _ _ _ _ _ _ _).setCell (by have := G2.out; show w.heap.size ≤ g4; omega) _⟩))
          ·have hread := hr1'.out h0
           have h0b : (e2 == 0) = false := beq_eq_false_iff_ne.2 h0
           obtain ⟨ci0, ci1, ci2, ci3, ci4, ci5, ci6, ci7⟩ := ins_cell8 ZI.out
           have fi := blk_frozen ZI.out
           have ck := ZK.out.cell; have fk := blk_frozen ZK.out 0
           go_wp2_with (((with_reducible show bodyPost _ _ _ _ _ _); exact bodyPost_ret (results_ctb rfl _ _ w.heap.size g4 _ rfl (blk_far (put8 ZI.out rfl _ _ _ _ _ _ _ _) (p := ⟨g4, 0, none⟩) hk1 _) rfl rfl _ ((blk_cell (blk_put (cs' := #[.bool false]) ((far8 hk2 _ _ _ _ _ _ _ _).trans ZK.out) 0 (.bool false) rfl) 0).trans rfl)) rfl ⟨(by first | (rw [hread]; done) | (rw [hread]; rfl) | rfl), (bel8 ZB.out (Nat.le_refl _) _ _ _ _ _ _ _ _).setCell (by have := G2.out; show w.heap.size ≤ g4; omega) _⟩))
         ·skip
          obtain ⟨ci0, ci1, ci2, ci3, ci4, ci5, ci6, ci7, fi, ck, cm, fk, cx0, cx1, cx2, cx3, cx4⟩ := all_cells KI.out KR.out KX.out
          have hread : readV l = .tuple #[insV ins0, sv [], .bool false] := by
           unfold readV readS; rw [hC'.out]; dsimp only; rw [hO'.out]; dsimp only; rw [if_neg hz, hX'.out, if_neg (by decide)]; dsimp only; rw [HT.out.1]; dsimp only; rw [HT.out.2.1]; dsimp only; rw [HT.out.2.2]; dsimp only; rw [HI.out]; dsimp only; rw [HQ.out]; dsimp only; rw [if_neg (by decide), if_pos ⟨rfl, by decide⟩]
          go_wp2_with (((with_reducible show bodyPost _ _ _ _ _ _); exact bodyPost_ret (results_ctb rfl _ _ w.heap.size g4 _ rfl (blk_far (put8 ((KI.out.put4 _).far hk1 0 _) rfl _ _ _ _ _ _ _ _) (p := ⟨g4, 0, none⟩) hk1 _) rfl rfl _ ((blk_cell (blk_put (cs' := #[.bool false]) ((far8 hk2 _ _ _ _ _ _ _ _).trans ((KR.out.k.far hk2 4 _).put _)) 0 (.bool false) rfl) 0).trans rfl)) rfl ⟨(by first | (rw [hread]; done) | (rw [hread]; rfl) | rfl), (bel8 ((KB.out.setCell (Nat.le_refl _) _).setCell (by have := G2.out; show w.heap.size ≤ g4; omega) _) (Nat.le_refl _) _ _ _ _ _ _ _ _).setCell (by have := G2.out; show w.heap.size ≤ g4; omega) _⟩))
     ·have hf : Aside0 (¬ (farS s1 = true ∧ Lib.hasPrefix tx [64] = true)) := ⟨fun c => hf0 c.1⟩
      rw [Bool.eq_false_iff.2 hf0]
      clear hpr hf0; obtain ⟨ci0, ci1, ci2, ci3, ci4, ci5, ci6, ci7, fi, ck, cm, fk, cx0, cx1, cx2, cx3, cx4⟩ := all_cells KI.out KR.out KX.out
      go_wp2_with (fail)
      refine (hnum'.out _ (hE'.out.below KB.out)).mono ?_
      rintro e w9 ⟨rfl, hb⟩
      clear ci0 ci1 ci2 ci3 ci4 ci5 ci6 ci7 fi ck cm fk cx0 cx1 cx2 cx3 cx4; replace KI : Aside0 (InsB w9 w.heap.size (s1, d1, d2, d3, 0, 0, s2, s3)) := ⟨blk_below KI.out hb⟩
      replace KR := Aside0.mk (Rd.below KR.out hb)
      replace KX := Aside0.mk (blk_below KX.out hb)
      replace KB := Aside0.mk (below_step KB.out hb)
      replace KN : Aside0 (FnB w9 gb ga g7 g4 g6) := ⟨blk_below KN.out hb⟩
      clear hb; have HI : Aside0 (immS true s1 S3 = (nv, [], (sf, sm, sk && good, sr))) := ⟨by unfold immS; rw [if_pos rfl, HT4.out]; dsimp only; rw [if_neg hf.out, HNV.out]; rfl⟩
      have HQ : Aside0 (csrS false ((sf, sm, sk && good, sr) : St) = (0, (sf, sm, sk && good, sr))) := ⟨rfl⟩
      cases sk
      ·skip
       obtain ⟨ci0, ci1, ci2, ci3, ci4, ci5, ci6, ci7, fi, ck, cm, fk, cx0, cx1, cx2, cx3, cx4⟩ := all_cells KI.out KR.out KX.out
       have hread : readV l = .tuple #[insV ins0, sv [], .bool false] := by
        unfold readV readS; rw [hC'.out]; dsimp only; rw [hO'.out]; dsimp only; rw [if_neg hz, hX'.out, if_neg (by decide)]; dsimp only; rw [HT.out.1]; dsimp only; rw [HT.out.2.1]; dsimp only; rw [HT.out.2.2]; dsimp only; rw [HI.out]; dsimp only; rw [HQ.out]; dsimp only; rw [if_pos (by simp)]
       go_wp2_with (((with_reducible show bodyPost _ _ _ _ _ _); exact bodyPost_ret (results_ctb rfl _ _ w.heap.size g4 _ rfl (blk_far (put8 ((KI.out.put4 _).far hk1 0 _) rfl _ _ _ _ _ _ _ _) (p := ⟨g4, 0, none⟩) hk1 _) rfl rfl _ ((blk_cell (blk_put (cs' := #[.bool false]) ((far8 hk2 _ _ _ _ _ _ _ _).trans ((KR.out.k.far hk2 4 _).put _)) 0 (.bool false) rfl) 0).trans rfl)) rfl ⟨(by first | (rw [hread]; done) | (rw [hread]; rfl) | rfl), (bel8 ((KB.out.setCell (Nat.le_refl _) _).setCell (by have := G2.out; show w.heap.size ≤ g4; omega) _) (Nat.le_refl _) _ _ _ _ _ _ _ _).setCell (by have := G2.out; show w.heap.size ≤ g4; omega) _⟩))
      ·cases good
       ·skip
        obtain ⟨ci0, ci1, ci2, ci3, ci4, ci5, ci6, ci7, fi, ck, cm, fk, cx0, cx1, cx2, cx3, cx4⟩ := all_cells KI.out KR.out KX.out
        have hread : readV l = .tuple #[insV ins0, sv [], .bool false] := by
         unfold readV readS; rw [hC'.out]; dsimp only; rw [hO'.out]; dsimp only; rw [if_neg hz, hX'.out, if_neg (by decide)]; dsimp only; rw [HT.out.1]; dsimp only; rw [HT.out.2.1]; dsimp only; rw [HT.out.2.2]; dsimp only; rw [HI.out]; dsimp only; rw [HQ.out]; dsimp only; rw [if_pos (by simp)]
        go_wp2_with (((with_reducible show bodyPost _ _ _ _ _ _); exact bodyPost_ret (results_ctb rfl _ _ w.heap.size g4 _ rfl (blk_far (put8 ((KI.out.put4 _).far hk1 0 _) rfl _ _ _ _ _ _ _ _) (p := ⟨g4, 0, none⟩) hk1 _) rfl rfl _ ((blk_cell (blk_put (cs' := #[.bool false]) ((far8 hk2 _ _ _ _ _ _ _ _).trans ((KR.out.k.far hk2 4 _).put _)) 0 (.bool false) rfl) 0).trans rfl)) rfl ⟨(by first | (rw [hread]; done) | (rw [hread]; rfl) | rfl), (bel8 ((KB.out.setCell (Nat.le_refl _) _).setCell (by have := G2.out; show w.heap.size ≤ g4; omega) _) (Nat.le_refl _) _ _ _ _ _ _ _ _).setCell (by have := G2.out; show w.heap.size ≤ g4; omega) _⟩))
       ·cases sm
        ·skip
         obtain ⟨ci0, ci1, ci2, ci3, ci4, ci5, ci6, ci7, fi, ck, cm, fk, cx0, cx1, cx2, cx3, cx4⟩ := all_cells KI.out KR.out KX.out
         have hr1 : (encI (s1, d1, d2, d3, nv, 0, s2, s3)).2 ≠ 0 → readV l = .tuple #[insV ins0, sv [], .bool false] := by
          intro h0
          unfold readV readS; rw [hC'.out]; dsimp only; rw [hO'.out]; dsimp only; rw [if_neg hz, hX'.out, if_neg (by decide)]; dsimp only; rw [HT.out.1]; dsimp only; rw [HT.out.2.1]; dsimp only; rw [HT.out.2.2]; dsimp only; rw [HI.out]; dsimp only; rw [HQ.out]; dsimp only; rw [if_neg (by decide), if_neg (by decide), if_neg h0]
         have hr2 : (encI (s1, d1, d2, d3, nv, 0, s2, s3)).2 = 0 → readV l = .tuple #[insV (s1, d1, d2, d3, nv, 0, s2, s3), sv [], .bool true] := by
          intro h0
          unfold readV readS; rw [hC'.out]; dsimp only; rw [hO'.out]; dsimp only; rw [if_neg hz, hX'.out, if_neg (by decide)]; dsimp only; rw [HT.out.1]; dsimp only; rw [HT.out.2.1]; dsimp only; rw [HT.out.2.2]; dsimp only; rw [HI.out]; dsimp only; rw [HQ.out]; dsimp only; rw [if_neg (by decide), if_neg (by decide), if_pos h0]
         have he := encode_says (s1, d1, d2, d3, nv, 0, s2, s3)
         unfold insV at he hr2
         dsimp only at he hr2
         generalize encI (s1, d1, d2, d3, nv, 0, s2, s3) = EE at he hr1 hr2
         obtain ⟨e1, e2⟩ := EE
         dsimp only at he hr1 hr2
         have he' := Aside0.mk he
         have hr1' := Aside0.mk hr1
         have hr2' := Aside0.mk hr2
         clear he hr1 hr2; go_wp2_with (fail)
         refine (he'.out _).mono ?_
         rintro e wz ⟨rfl, hb⟩
         have ZI : Aside0 (InsB wz w.heap.size (s1, d1, d2, d3, nv, 0, s2, s3)) := ⟨blk_below ((KI.out.put4 _).far hk1 0 _) hb⟩
         have ZK : Aside0 (BoolB wz g4 true) := ⟨blk_below ((KR.out.k.far hk2 4 _).put _) hb⟩
         have ZB := Aside0.mk (below_step ((KB.out.setCell (Nat.le_refl _) _).setCell (by have := G2.out; show w.heap.size ≤ g4; omega) _) hb)
         clear hb; clear ci0 ci1 ci2 ci3 ci4 ci5 ci6 ci7 fi ck cm fk cx0 cx1 cx2 cx3 cx4; by_cases h0 : e2 = 0
         ·subst h0
          have hread := hr2'.out rfl
          obtain ⟨ci0, ci1, ci2, ci3, ci4, ci5, ci6, ci7⟩ := ins_cell8 ZI.out
          have fi := blk_frozen ZI.out
          have ck := ZK.out.cell; have fk := blk_frozen ZK.out 0
          go_wp2_with (((with_reducible show bodyPost _ _ _ _ _ _); exact bodyPost_ret (results_ctb rfl _ _ w.heap.size g4 _ rfl (blk_far (put8 ZI.out rfl _ _ _ _ _ _ _ _) (p := ⟨g4, 0, none⟩) hk1 _) rfl rfl _ ((blk_cell (blk_put (cs' := #[.bool true]) ((far8 hk2 _ _ _ _ _ _ _ _).trans ZK.out) 0 (.bool true) rfl) 0).trans rfl)) rfl ⟨(by first | (rw [hread]; done) | (rw [hread]; rfl) | rfl), (bel8 ZB.out (Nat.le_refl _) _ _ _ _ _ _ _ _).setCell (by have := G2.out; show w.heap.size ≤ g4; omega) _⟩))
         ·have hread := hr1'.out h0
          have h0b : (e2 == 0) = false := beq_eq_false_iff_ne.2 h0
          obtain ⟨ci0, ci1, ci2, ci3, ci4, ci5, ci6, ci7⟩ := ins_cell8 ZI.out
          have fi := blk_frozen ZI.out
          have ck := ZK.out.cell; have fk := blk_frozen ZK.out 0
          go_wp2_with (((with_reducible show bodyPost _ _ _ _ _ _); exact bodyPost_ret (results_ctb rfl _ _ w.heap.size g4 _ rfl (blk_far (put8 ZI.out rfl _ _ _ _ _ _ _ _) (p := ⟨g4, 0, none⟩) hk1 _) rfl rfl _ ((blk_cell (blk_put (cs' := #[.bool false]) ((far8 hk2 _ _ _ _ _ _ _ _).trans ZK.out) 0 (.bool false) rfl) 0).trans rfl)) rfl ⟨(by first | (rw [hread]; done) | (rw [hread]; rfl) | rfl), (bel8 ZB.out (Nat.le_refl _) _ _ _ _ _ _ _ _).setCell (by have := G2.out; show w.heap.size ≤ g4; omega) _⟩))
        ·skip
         obtain ⟨ci0, ci1, ci2, ci3, ci4, ci5, ci6, ci7, fi, ck, cm, fk, cx0, cx1, cx2, cx3, cx4⟩ := all_cells KI.out KR.out KX.out
         have hread : readV l = .tuple #[insV ins0, sv [], .bool false] := by
          unfold readV readS; rw [hC'.out]; dsimp only; rw [hO'.out]; dsimp only; rw [if_neg hz, hX'.out, if_neg (by decide)]; dsimp only; rw [HT.out.1]; dsimp only; rw [HT.out.2.1]; dsimp only; rw [HT.out.2.2]; dsimp only; rw [HI.out]; dsimp only; rw [HQ.out]; dsimp only; rw [if_neg (by decide), if_pos ⟨rfl, by decide⟩]
         go_wp2_with (((with_reducible show bodyPost _ _ _ _ _ _); exact bodyPost_ret (results_ctb rfl _ _ w.heap.size g4 _ rfl (blk_far (put8 ((KI.out.put4 _).far hk1 0 _) rfl _ _ _ _ _ _ _ _) (p := ⟨g4, 0, none⟩) hk1 _) rfl rfl _ ((blk_cell (blk_put (cs' := #[.bool false]) ((far8 hk2 _ _ _ _ _ _ _ _).trans ((KR.out.k.far hk2 4 _).put _)) 0 (.bool false) rfl) 0).trans rfl)) rfl ⟨(by first | (rw [hread]; done) | (rw [hread]; rfl) | rfl), (bel8 ((KB.out.setCell (Nat.le_refl _) _).setCell (by have := G2.out; show w.heap.size ≤ g4; omega) _) (Nat.le_refl _) _ _ _ _ _ _ _ _).setCell (by have := G2.out; show w.heap.size ≤ g4; omega) _⟩))
  | succ gk =>
   obtain ⟨⟨sx, sa, sr⟩, hx⟩ : ∃ x, sufTab[i]? = some x := ⟨sufTab[i]'(by simp [sufTab]; omega), List.getElem?_eq_getElem (by simp [sufTab]; omega)⟩
   obtain ⟨hx0, hx1, hx2⟩ := suf_cells A2.out i _ hx
   have hsucc := Aside0.mk (sufAt_succ n1 op i _ hx)
   have h0 : (0 : Int) ≤ (i : Int) := by omega
   have h1 : (i : Int) < 3 := by omega
   have hwr : IntKind.i64.wrap ((i : Int) + 1) = (i : Int) + 1 := by rw [i64_w]; unfold wrap64; omega
   have hi' := Aside0.mk hi
   have hx' := Aside0.mk hx
   have ci := I2.out.cell0; have gw : w.heap.size < wr.heap.size := blk_lt I2.out
   have gn : ¬ w.heap.size = wr.heap.size := by omega
   clear hi hx; by_cases hz : s1 = 0
   rotate_left
   ·have hzb : (s1 == 0) = false := beq_eq_false_iff_ne.2 hz
    go_wp2_with (fail)
    go_roundg gk
    case measure => omega
    case rel =>
     refine ⟨i + 1, s1, s2, s3, by have := hi'.out; omega, by simp, ⟨?_⟩, ⟨blk_alloc I2.out _⟩, ⟨blk_alloc K2.out _⟩, ⟨blk_alloc R2.out _⟩, ⟨blk_alloc M2.out _⟩, ⟨blk_alloc A2.out _⟩, ⟨below_alloc B2.out _⟩⟩
     rw [hsucc.out, hS.out]
     unfold sufStep
     rw [if_neg (fun c => hz c.1)]
   ·subst hz
    have hnl : (⟨n1.toArray⟩ : ByteArray).size ≤ 9223372036854775807 := by
     rw [sv_size]
     have z1 := hcl.out.1; rw [hC'.out] at z1
     dsimp only at z1
     have z2 := hl'.out; omega
    have hnl' := Aside0.mk hnl
    clear hnl; have hsuf := fun W => Tryz.strings_HasSuffix ⟨n1.toArray⟩ ⟨sx.toArray⟩ W hnl'.out
    simp only at hsuf
    by_cases hq : Lib.hasSuffix n1 sx = true
    rotate_left
    ·have hq' : Lib.hasSuffix n1 sx = false := Bool.eq_false_iff.2 hq
     have hsuf' := Aside0.mk hsuf
     clear hsuf hq; go_wp2_with (go_at_call 113; refine (hsuf'.out _).mono ?_; rintro e w3 ⟨rfl, rfl⟩)
     go_roundg gk
     case measure => omega
     case rel =>
      refine ⟨i + 1, 0, s2, s3, by have := hi'.out; omega, by simp, ⟨?_⟩, ⟨blk_alloc I2.out _⟩, ⟨blk_alloc K2.out _⟩, ⟨blk_alloc R2.out _⟩, ⟨blk_alloc M2.out _⟩, ⟨blk_alloc A2.out _⟩, ⟨below_alloc B2.out _⟩⟩
      rw [hsucc.out, hS.out]
      unfold sufStep
      rw [if_neg (fun c => by rw [hq'] at c; cases c.2)]
    ·have hsuf' := Aside0.mk hsuf
     clear hsuf; have hS2 : sufAt n1 op (i + 1) = (opOf (Lib.trimSuffix n1 sx), sa, sr) := by
      rw [hsucc.out, hS.out]
      unfold sufStep
      rw [if_pos ⟨rfl, hq⟩]
     have htr := Aside0.mk (fun W => Tryz.strings_TrimSuffix ⟨n1.toArray⟩ ⟨sx.toArray⟩ W hnl'.out)
     obtain ⟨op2, hop2⟩ : ∃ o, opOf (Lib.trimSuffix n1 sx) = o := ⟨_, rfl⟩
     rw [hop2] at hS2
     have hS2' := Aside0.mk hS2
     have hop2' := Aside0.mk hop2
     clear hS2 hop2; go_wp2_with (go_at_call 113; refine (hsuf'.out _).mono ?_; rintro e w3 ⟨rfl, rfl⟩)
     have I3 : Aside0 (InsB (wr.alloc (.cells #[.string ⟨sx.toArray⟩, .bool sa, .bool sr] 164)).drew w.heap.size (0, 0, 0, 0, 0, 0, s2, s3)) := ⟨blk_drew (blk_alloc I2.out _)⟩
     have K3 : Aside0 (BoolB (wr.alloc (.cells #[.string ⟨sx.toArray⟩, .bool sa, .bool sr] 164)).drew g4 false) := ⟨blk_drew (blk_alloc K2.out _)⟩
     have R3 : Aside0 (StrB (wr.alloc (.cells #[.string ⟨sx.toArray⟩, .bool sa, .bool sr] 164)).drew g6 r1) := ⟨blk_drew (blk_alloc R2.out _)⟩
     have M3 : Aside0 (BoolB (wr.alloc (.cells #[.string ⟨sx.toArray⟩, .bool sa, .bool sr] 164)).drew g7 m1) := ⟨blk_drew (blk_alloc M2.out _)⟩
     have A3 : Aside0 ((wr.alloc (.cells #[.string ⟨sx.toArray⟩, .bool sa, .bool sr] 164)).drew.heap[w2.heap.size]? = some (.cells sufArr 164 (0, 0))) := ⟨blk_drew (blk_alloc A2.out _)⟩
     have B3 := Aside0.mk (below_drew1 (below_alloc B2.out (.cells #[.string ⟨sx.toArray⟩, .bool sa, .bool sr] 164)))
     have X3 := Aside0.mk (blk_drew (heap_alloc_new wr (.cells #[.string ⟨sx.toArray⟩, .bool sa, .bool sr] 164)))
     clear I2 K2 R2 M2 A2 B2; go_region_held3 (fun w' => w'.cell? ⟨wr.heap.size, 0, none⟩ = some (sv sx) ∧ w'.cell? ⟨wr.heap.size, 1, none⟩ = some (.bool sa) ∧ w'.cell? ⟨wr.heap.size, 2, none⟩ = some (.bool sr)) (first | exact ⟨(blk_cell X3.out 0).trans rfl, (blk_cell X3.out 1).trans rfl, (blk_cell X3.out 2).trans rfl⟩ | go_keep)
      ((first
       | (go_at_call 114; refine (htr.out _).mono ?_; rintro e w4 ⟨rfl, hw4⟩; subst hw4)
       | (go_at_call 112; refine (op_says _ _).mono ?_; rw [hop2'.out]; rintro e w5 ⟨rfl, hb⟩; have n1 := Aside0.mk (blk_below X3.out hb); clear X3; have X3 := n1; clear n1; have I4 : Aside0 (InsB w5 w.heap.size (0, 0, 0, 0, 0, 0, s2, s3)) := ⟨blk_below I3.out hb⟩; have K4 : Aside0 (BoolB w5 g4 false) := ⟨blk_below K3.out hb⟩; have R4 : Aside0 (StrB w5 g6 r1) := ⟨blk_below R3.out hb⟩; have M4 : Aside0 (BoolB w5 g7 m1) := ⟨blk_below M3.out hb⟩; have A4 := Aside0.mk (blk_below A3.out hb); have B4 := Aside0.mk (below_step B3.out hb); clear hb I3 K3 R3 M3 A3 B3; have ci0 := I4.out.cell0; have ci6 := blk_cell I4.out 6; have ci7 := blk_cell I4.out 7; simp at ci6 ci7; have fi := blk_frozen I4.out)))
     go_wp2
     go_roundg gk
     case measure => omega
     case rel =>
      have g1 := G.out; exact ⟨i + 1, op2, sa, sr, by have := hi'.out; omega, by simp, hS2', ⟨((I4.out.put0 op2).put6 sa).put7 sr⟩, ⟨((K4.out.far (by omega) 0 _).far (by omega) 6 _).far (by omega) 7 _⟩, ⟨((R4.out.far (by omega) 0 _).far (by omega) 6 _).far (by omega) 7 _⟩, ⟨((M4.out.far (by omega) 0 _).far (by omega) 6 _).far (by omega) 7 _⟩, ⟨blk_far (blk_far (blk_far A4.out (by show w2.heap.size ≠ w.heap.size; omega) _) (by show w2.heap.size ≠ w.heap.size; omega) _) (by show w2.heap.size ≠ w.heap.size; omega) _⟩, ⟨((B4.out.setCell (Nat.le_refl _) _).setCell (Nat.le_refl _) _).setCell (Nat.le_refl _) _⟩⟩
end Go.Proofs.YtknkfimpflodeaaGreatDoor.P
