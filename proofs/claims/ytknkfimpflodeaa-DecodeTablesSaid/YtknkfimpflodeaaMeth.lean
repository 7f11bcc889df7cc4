/- (*Decoder).Decode, walked: nil; the first time; later: it says what Decode says. -/
import Derived.Test.YtknkfimpflodeaaDoOnce
import Derived.Test.YtknkfimpflodeaaF5
namespace Go.Proofs.Ytknkfimpflodeaa.P
open Go.RowKit Go.Proofs.YtknkfimpflodeaaW.PrintWords Go.Proofs.YtknkfimpflodeaaW.PrintLast Go.Proofs.YtknkfimpflodeaaW.PrintMore
set_option linter.unusedVariables false
attribute [local go_sem] run_f0 run_f1 run_f2 run_f3 run_g0 run_g1 run_g2 run_g3
def insV (x : Int × Int × Int × Int × Int × Int × Bool × Bool × Bool) : Value := .agg #[.int .i64 x.1, .int .i64 x.2.1, .int .i64 x.2.2.1, .int .i64 x.2.2.2.1, .int .i64 x.2.2.2.2.1, .int .i64 x.2.2.2.2.2.1, .bool x.2.2.2.2.2.2.1, .bool x.2.2.2.2.2.2.2.1]
def saidV (x : Int × Int × Int × Int × Int × Int × Bool × Bool × Bool) : Value := .tuple #[insV x, .bool x.2.2.2.2.2.2.2.2]
theorem decode_says (v : Int) (v0 : 0 ≤ v) (v1 : v < 4294967296) (w : World) :
    Calls Try.prog 10 #[.int .u32 v] w fun e w' => e = .returned (saidV (decL tabP 1 v)) ∧ Below w.heap.size w w' :=
  decode_Decode.calls 200 v _ _ _ _ _ _ _ _ _ w (decode_at v v0 v1 200 (Nat.le_refl _))
theorem arr8 {cs : Array Value} (h : cs.size = 8) : ∃ c0 c1 c2 c3 c4 c5 c6 c7, cs = #[c0, c1, c2, c3, c4, c5, c6, c7] := by
  obtain ⟨l⟩ := cs
  match l, h with
  | [c0, c1, c2, c3, c4, c5, c6, c7], _ => exact ⟨c0, c1, c2, c3, c4, c5, c6, c7, rfl⟩
theorem put8 {w : World} {g : Nat} {t : TypeId} {cs : Array Value} (h : w.heap[g]? = some (.cells cs t (0, 0))) (hs : cs.size = 8) (x0 x1 x2 x3 x4 x5 x6 x7 : Value) :
    ((((((((w.setCell ⟨g, 0, none⟩ x0).setCell ⟨g, 1, none⟩ x1).setCell ⟨g, 2, none⟩ x2).setCell ⟨g, 3, none⟩ x3).setCell ⟨g, 4, none⟩ x4).setCell ⟨g, 5, none⟩ x5).setCell ⟨g, 6, none⟩ x6).setCell ⟨g, 7, none⟩ x7).heap[g]? = some (.cells #[x0, x1, x2, x3, x4, x5, x6, x7] t (0, 0)) := by
  obtain ⟨c0, c1, c2, c3, c4, c5, c6, c7, rfl⟩ := arr8 hs
  have h0 := blk_put (cs' := #[x0, c1, c2, c3, c4, c5, c6, c7]) h 0 x0 rfl
  have h1 := blk_put (cs' := #[x0, x1, c2, c3, c4, c5, c6, c7]) h0 1 x1 rfl
  have h2 := blk_put (cs' := #[x0, x1, x2, c3, c4, c5, c6, c7]) h1 2 x2 rfl
  have h3 := blk_put (cs' := #[x0, x1, x2, x3, c4, c5, c6, c7]) h2 3 x3 rfl
  have h4 := blk_put (cs' := #[x0, x1, x2, x3, x4, c5, c6, c7]) h3 4 x4 rfl
  have h5 := blk_put (cs' := #[x0, x1, x2, x3, x4, x5, c6, c7]) h4 5 x5 rfl
  have h6 := blk_put (cs' := #[x0, x1, x2, x3, x4, x5, x6, c7]) h5 6 x6 rfl
  have h7 := blk_put (cs' := #[x0, x1, x2, x3, x4, x5, x6, x7]) h6 7 x7 rfl
  exact h7
theorem far8 {w : World} {g k : Nat} (h : k ≠ g) (x0 x1 x2 x3 x4 x5 x6 x7 : Value) : ((((((((w.setCell ⟨g, 0, none⟩ x0).setCell ⟨g, 1, none⟩ x1).setCell ⟨g, 2, none⟩ x2).setCell ⟨g, 3, none⟩ x3).setCell ⟨g, 4, none⟩ x4).setCell ⟨g, 5, none⟩ x5).setCell ⟨g, 6, none⟩ x6).setCell ⟨g, 7, none⟩ x7).heap[k]? = w.heap[k]? := by
  have f := fun (v : World) (i : Nat) (x : Value) => Below.heap_setCell v ⟨g, i, none⟩ x k h
  rw [f, f, f, f, f, f, f, f]
theorem OnlyB.new {b : Nat} {u v : World} (h : OnlyB b u v) {g : Nat} (hg : u.heap.size ≤ g) (i : Nat) (x : Value) : OnlyB b u (v.setCell ⟨g, i, none⟩ x) :=
  ⟨h.os, h.tape, h.output, by simpa using h.size, fun k hk hb => (Below.heap_setCell v ⟨g, i, none⟩ x k (by simp; omega)).trans (h.block k hk hb)⟩
theorem only8 {b : Nat} {u w : World} {g : Nat} (h : OnlyB b u w) (hg : u.heap.size ≤ g) (x0 x1 x2 x3 x4 x5 x6 x7 : Value) : OnlyB b u ((((((((w.setCell ⟨g, 0, none⟩ x0).setCell ⟨g, 1, none⟩ x1).setCell ⟨g, 2, none⟩ x2).setCell ⟨g, 3, none⟩ x3).setCell ⟨g, 4, none⟩ x4).setCell ⟨g, 5, none⟩ x5).setCell ⟨g, 6, none⟩ x6).setCell ⟨g, 7, none⟩ x7) :=
  (((((((h.new hg _ _).new hg _ _).new hg _ _).new hg _ _).new hg _ _).new hg _ _).new hg _ _).new hg _ _
theorem below8 {B : Nat} {a w : World} {g : Nat} (h : Below B a w) (hg : B ≤ g) (x0 x1 x2 x3 x4 x5 x6 x7 : Value) :
    Below B a ((((((((w.setCell ⟨g, 0, none⟩ x0).setCell ⟨g, 1, none⟩ x1).setCell ⟨g, 2, none⟩ x2).setCell ⟨g, 3, none⟩ x3).setCell ⟨g, 4, none⟩ x4).setCell ⟨g, 5, none⟩ x5).setCell ⟨g, 6, none⟩ x6).setCell ⟨g, 7, none⟩ x7) :=
  (((((((h.setCell hg _).setCell hg _).setCell hg _).setCell hg _).setCell hg _).setCell hg _).setCell hg _).setCell hg _
set_option maxHeartbeats 8000000 in
set_option maxRecDepth 100000 in
/-- A nil decoder. -/
theorem meth_nil (v : Int) (v0 : 0 ≤ v) (v1 : v < 4294967296) (w : World) :
    Calls Try.prog 19 #[.pointer none, .int .u32 v] w fun e w' => e = .returned (saidV (decL tabP 1 v)) ∧ Below w.heap.size w w' := by
  have hu24 := Try.underlying24
  go_enter Try.func19, Try.ntmps19
  go_wp2_with (go_at_call 10; refine (decode_says v v0 v1 _).mono ?_; rintro e w2 ⟨rfl, hb⟩; have KG := Aside0.mk (blk_below (heap_alloc_new w _) hb); have KL := Aside0.mk (below_step (below_alloc (Below.refl _ _) _) hb); clear hb; unfold saidV insV; (have hc0 := blk_cell KG.out 0; have hc1 := blk_cell KG.out 1; have hc2 := blk_cell KG.out 2; have hc3 := blk_cell KG.out 3; have hc4 := blk_cell KG.out 4; have hc5 := blk_cell KG.out 5; have hc6 := blk_cell KG.out 6; have hc7 := blk_cell KG.out 7; simp at hc0 hc1 hc2 hc3 hc4 hc5 hc6 hc7); have hf := blk_frozen KG.out)
  refine bodyPost_ret (results_ct rfl _ _ w.heap.size 24 _ (0, 0) _ rfl (put8 KG.out rfl _ _ _ _ _ _ _ _) hu24 rfl (by kernel_rfl)) rfl ⟨rfl, below8 KL.out (Nat.le_refl _) _ _ _ _ _ _ _ _⟩
theorem rows_says (w : World) : Calls Try.prog 20 #[] w fun e w' => e = .returned (.agg cellsP) ∧ Below w.heap.size w w' := rows_calls w
theorem said_says (j : Nat) (hj : j < 113) (v : Int) (v0 : 0 ≤ v) (v1 : v < 4294967296) (w : World) :
    Calls Try.prog 21 #[.int .i64 ((j : Int) + 1), .int .u32 v] w fun e w' =>
      e = .returned (.agg #[.int .i64 ((j : Int) + 1), .int .i64 (sayS (tabP.getD j rowZ).2.2.2 ((j : Int) + 1) v).2.1, .int .i64 (sayS (tabP.getD j rowZ).2.2.2 ((j : Int) + 1) v).2.2.1, .int .i64 (sayS (tabP.getD j rowZ).2.2.2 ((j : Int) + 1) v).2.2.2.1, .int .i64 (sayS (tabP.getD j rowZ).2.2.2 ((j : Int) + 1) v).2.2.2.2.1, .int .i64 (sayS (tabP.getD j rowZ).2.2.2 ((j : Int) + 1) v).2.2.2.2.2.1, .bool (sayS (tabP.getD j rowZ).2.2.2 ((j : Int) + 1) v).2.2.2.2.2.2.1, .bool (sayS (tabP.getD j rowZ).2.2.2 ((j : Int) + 1) v).2.2.2.2.2.2.2]) ∧ Below w.heap.size w w' :=
  decode_said.calls 40 _ v _ _ _ _ _ _ _ _ w (said_at j hj v v0 v1 40 (Nat.le_refl _))
set_option maxHeartbeats 8000000 in
set_option maxRecDepth 100000 in
/-- A decoder that is there: whatever its Once does, the table is filled behind it. -/
theorem meth_some (b : Nat) (d q : Int) (T : Nat → Int) (v : Int) (v0 : 0 ≤ v) (v1 : v < 4294967296) (w : World) (hB : Blk w b d 0 q T)
    (hDo : ∀ w0, Blk w0 b d 0 q T → Calls Try.prog 30 #[.pointer (some ⟨b, 0, none⟩), .func (.func 31) #[.pointer (some ⟨b, 0, none⟩)] #[]] w0 fun e w' => e = .returned (.tuple #[]) ∧ Blk w' b 1 0 q firstT ∧ OnlyB b w0 w') :
    Calls Try.prog 19 #[.pointer (some ⟨b, 0, none⟩), .int .u32 v] w fun e w' => e = .returned (saidV (decL tabP 1 v)) ∧ Blk w' b 1 0 q firstT ∧ OnlyB b w w' := by
  have hu24 := Try.underlying24
  have KB := Aside0.mk hB
  have hDo' := Aside0.mk hDo
  clear hB hDo
  have hmf : ∀ (fn : Fn) (first cap : Array Value) (w : World), (Instr.makeFunc fn first cap).run Try.prog w = .ok (.func fn first cap) w := fun _ _ _ _ => rfl
  have hand : Go.bits .and .u32 v 127 = (((v % 128).toNat : Nat) : Int) := by rw [and_low _ v0 v1]; omega
  have hlt : (v % 128).toNat < 128 := by omega
  have hlt' : ((((v % 128).toNat : Nat)) : Int) < 128 := by omega
  have hge' : (0 : Int) ≤ ((((v % 128).toNat : Nat)) : Int) := by omega
  have hM := Aside0.mk (show v % 128 = (((v % 128).toNat : Nat) : Int) by omega)
  generalize (v % 128).toNat = M at hand hlt hlt' hge' hM
  have hfr := Aside0.mk (firstL_range (M : Int) 113 0 rfl)
  obtain ⟨F, hF⟩ : ∃ F, F = firstT M := ⟨_, rfl⟩
  have hF0 : 0 ≤ F := by rw [hF]; exact hfr.out.1
  have hF1 : F ≤ 113 := by rw [hF]; exact hfr.out.2
  have hF' := Aside0.mk hF
  clear hF hfr
  by_cases hz : F = 0
  · have hzb : (F == 0) = true := beq_iff_eq.2 hz
    go_enter Try.func19, Try.ntmps19
    go_wp2_with (go_at_call 30; go_loud (refine (hDo'.out _ (blk_alloc KB.out _)).mono ?_; rintro e w2 ⟨rfl, hB2, hb⟩; have KL := Aside0.mk ((OnlyB.of (below_alloc (Below.refl _ w) _)).trans hb); have KG := Aside0.mk ((hb.block w.heap.size (by simp) (Nat.ne_of_gt (blk_lt KB.out))).trans (heap_alloc_new w _)); clear hb; have KB2 := Aside0.mk hB2; have hce := Blk.cell hB2 M hlt; rw [← hF'.out] at hce; clear hB2; have hg0 := blk_cell KG.out 0; have hg1 := blk_cell KG.out 1; have hg2 := blk_cell KG.out 2; have hg3 := blk_cell KG.out 3; have hg4 := blk_cell KG.out 4; have hg5 := blk_cell KG.out 5; have hg6 := blk_cell KG.out 6; have hg7 := blk_cell KG.out 7; simp at hg0 hg1 hg2 hg3 hg4 hg5 hg6 hg7; have hgf := blk_frozen KG.out))
    have e := first_zero v v0 v1 113 0 rfl (by rw [hM.out]; exact hF'.out.symm.trans hz)
    rw [List.drop_zero] at e
    have e' : decL tabP 1 v = _ := e
    refine bodyPost_ret (results_ct rfl _ _ w.heap.size 24 _ (0, 0) _ rfl (put8 KG.out rfl _ _ _ _ _ _ _ _) hu24 rfl (by kernel_rfl)) rfl ⟨?_, ?_, ?_⟩
    · rw [e']; rfl
    · exact (far8 (Nat.ne_of_lt (blk_lt KB.out)) _ _ _ _ _ _ _ _).trans KB2.out
    · exact only8 KL.out (Nat.le_refl _) _ _ _ _ _ _ _ _
  · have hzb : (F == 0) = false := beq_eq_false_iff_ne.2 hz
    go_enter Try.func19, Try.ntmps19
    go_wp2_with (go_at_call 30; go_loud (refine (hDo'.out _ (blk_alloc KB.out _)).mono ?_; rintro e w2 ⟨rfl, hB2, hb⟩; have KL := Aside0.mk ((OnlyB.of (below_alloc (Below.refl _ w) _)).trans hb); have KG := Aside0.mk ((hb.block w.heap.size (by simp) (Nat.ne_of_gt (blk_lt KB.out))).trans (heap_alloc_new w _)); clear hb; have KB2 := Aside0.mk hB2; have hce := Blk.cell hB2 M hlt; rw [← hF'.out] at hce; clear hB2))
    obtain ⟨i, -, hi, hi1, hi2⟩ := first_some v v0 v1 113 0 rfl (by rw [hM.out]; exact fun h => hz (hF'.out.trans h))
    rw [List.drop_zero] at hi1 hi2
    have hFi : F = (i : Int) + 1 := by rw [hF'.out, ← hi1, hM.out]; rfl
    have hE := Aside0.mk (show decL tabP 1 v = decL (tabP.drop i) ((i : Int) + 1) v from hi2)
    clear hi1 hi2
    have hbw : b < w.heap.size := blk_lt KB.out
    subst hFi
    go_loopg [6] (113 - i) (fun kq v6 wr => ∃ j : Nat, j + kq = 113 ∧ v6 = .int .i64 ((j : Int) + 1) ∧ Aside0 (decL tabP 1 v = decL (tabP.drop j) ((j : Int) + 1) v) ∧ Aside0 (Blk wr b 1 0 q firstT) ∧ Aside0 (wr.heap[w.heap.size]? = some (.cells #[.int .i64 0, .int .i64 0, .int .i64 0, .int .i64 0, .int .i64 0, .int .i64 0, .bool false, .bool false] 24 (0, 0))) ∧ Aside0 (OnlyB b w wr))
    case atStart => exact ⟨i, by omega, rfl, hE, KB2, KG, KL⟩
    case round =>
      clear KB2 KG KL hE hce
      obtain ⟨j, hj, rfl, hE, KB2, KG, KL⟩ := hrel
      cases gk with
      | zero =>
        obtain rfl : j = 113 := by omega
        go_wp2_with (first | (go_at_call 20; refine (rows_says _).mono ?_; rintro e w3 ⟨rfl, hb⟩; have KB3 := Aside0.mk (blk_below KB2.out hb); have KG3 := Aside0.mk (blk_below KG.out hb); have KL3 := Aside0.mk (KL.out.trans (OnlyB.of hb)); clear hb KB2 KG KL; have hg0 := blk_cell KG3.out 0; have hg1 := blk_cell KG3.out 1; have hg2 := blk_cell KG3.out 2; have hg3 := blk_cell KG3.out 3; have hg4 := blk_cell KG3.out 4; have hg5 := blk_cell KG3.out 5; have hg6 := blk_cell KG3.out 6; have hg7 := blk_cell KG3.out 7; simp at hg0 hg1 hg2 hg3 hg4 hg5 hg6 hg7; have hgf := blk_frozen KG3.out))
        have e' : decL tabP 1 v = (0, 0, 0, 0, 0, 0, false, false, false) := hE.out.trans (by rw [show tabP.drop 113 = [] from List.drop_eq_nil_of_le (by rw [tab_len]; omega)]; rfl)
        refine bodyPost_ret (results_ct rfl _ _ w.heap.size 24 _ (0, 0) _ rfl (put8 KG3.out rfl _ _ _ _ _ _ _ _) hu24 rfl (by kernel_rfl)) rfl ⟨?_, ?_, ?_⟩
        · rw [e']; rfl
        · exact (far8 (Nat.ne_of_lt hbw) _ _ _ _ _ _ _ _).trans KB3.out
        · exact only8 KL3.out (Nat.le_refl _) _ _ _ _ _ _ _ _
      | succ gk =>
        have hj' : j < 113 := by omega
        have h0 : (0 : Int) ≤ (j : Int) := by omega
        have h1 : (j : Int) < 113 := by omega
        have hrow := run_rowAt (j : Int) h0 h1
        go_wp2_with (go_at_call 20; refine (rows_says _).mono ?_; rintro e w3 ⟨rfl, hb⟩; have KB3 := Aside0.mk (blk_below KB2.out hb); have KG3 := Aside0.mk (blk_below KG.out hb); have KL3 := Aside0.mk (KL.out.trans (OnlyB.of hb)); clear hb KB2 KG KL)
        have hwr : IntKind.i64.wrap (j : Int) = (j : Int) := by rw [i64_w]; unfold wrap64; omega
        obtain ⟨f1, f2, hm, _⟩ := row_ok j hj'
        have hstep : decL tabP 1 v = if Go.bits .and .u32 v (rowAt (j : Int)).2.1 = (rowAt (j : Int)).2.2.1 then ((j : Int) + 1, (sayS (tabP.getD j rowZ).2.2.2 ((j : Int) + 1) v).2.1, (sayS (tabP.getD j rowZ).2.2.2 ((j : Int) + 1) v).2.2.1, (sayS (tabP.getD j rowZ).2.2.2 ((j : Int) + 1) v).2.2.2.1, (sayS (tabP.getD j rowZ).2.2.2 ((j : Int) + 1) v).2.2.2.2.1, (sayS (tabP.getD j rowZ).2.2.2 ((j : Int) + 1) v).2.2.2.2.2.1, (sayS (tabP.getD j rowZ).2.2.2 ((j : Int) + 1) v).2.2.2.2.2.2.1, (sayS (tabP.getD j rowZ).2.2.2 ((j : Int) + 1) v).2.2.2.2.2.2.2, true) else decL (tabP.drop (j + 1)) (((j + 1 : Nat) : Int) + 1) v := by
          rw [hE.out, drop_tab j hj', decL, rowAt_nat, hm, and_maskF _ v v0 v1]
          rfl
        have hS := Aside0.mk hstep
        clear hstep hm f1 f2
        by_cases c : Go.bits .and .u32 v (rowAt (j : Int)).2.1 = (rowAt (j : Int)).2.2.1
        · have cb : (Go.bits .and .u32 v (rowAt (j : Int)).2.1 == (rowAt (j : Int)).2.2.1) = true := beq_iff_eq.2 c
          have hT := Aside0.mk (hS.out.trans (if_pos c))
          clear hS c
          go_region_held3 (fun w' => True) (trivial) ((go_at_call 20; refine (rows_says _).mono ?_; rintro e w4 ⟨rfl, hb⟩; have n1 : Aside0 (Blk w4 b 1 0 q firstT) := ⟨blk_below (by first | exact KB3.out | exact blk_drew KB3.out) hb⟩; have n2 : Aside0 (w4.heap[w.heap.size]? = some (.cells #[.int .i64 0, .int .i64 0, .int .i64 0, .int .i64 0, .int .i64 0, .int .i64 0, .bool false, .bool false] 24 (0, 0))) := ⟨blk_below (by first | exact KG3.out | exact blk_drew KG3.out) hb⟩; have n3 : Aside0 (OnlyB b w w4) := ⟨OnlyB.trans (by first | exact KL3.out | exact KL3.out.drew) (OnlyB.of hb)⟩; clear hb KB3 KG3 KL3; have KB3 := n1; have KG3 := n2; have KL3 := n3; clear n1 n2 n3))
          all_goals
            go_wp2_with (go_at_call 21; refine (said_says j hj' v v0 v1 _).mono ?_; rintro e w4 ⟨rfl, hb⟩; have n1 : Aside0 (Blk w4 b 1 0 q firstT) := ⟨blk_below (by first | exact KB3.out | exact blk_drew KB3.out) hb⟩; have n2 : Aside0 (w4.heap[w.heap.size]? = some (.cells #[.int .i64 0, .int .i64 0, .int .i64 0, .int .i64 0, .int .i64 0, .int .i64 0, .bool false, .bool false] 24 (0, 0))) := ⟨blk_below (by first | exact KG3.out | exact blk_drew KG3.out) hb⟩; have n3 : Aside0 (OnlyB b w w4) := ⟨OnlyB.trans (by first | exact KL3.out | exact KL3.out.drew) (OnlyB.of hb)⟩; clear hb KB3 KG3 KL3; have KB3 := n1; have KG3 := n2; have KL3 := n3; clear n1 n2 n3; have hg0 := blk_cell KG3.out 0; have hg1 := blk_cell KG3.out 1; have hg2 := blk_cell KG3.out 2; have hg3 := blk_cell KG3.out 3; have hg4 := blk_cell KG3.out 4; have hg5 := blk_cell KG3.out 5; have hg6 := blk_cell KG3.out 6; have hg7 := blk_cell KG3.out 7; simp at hg0 hg1 hg2 hg3 hg4 hg5 hg6 hg7; have hgf := blk_frozen KG3.out)
            refine bodyPost_ret (results_ct rfl _ _ w.heap.size 24 _ (0, 0) _ rfl (put8 KG3.out rfl _ _ _ _ _ _ _ _) hu24 rfl (by kernel_rfl)) rfl ⟨?_, ?_, ?_⟩
            · rw [hT.out]; rfl
            · exact (far8 (Nat.ne_of_lt hbw) _ _ _ _ _ _ _ _).trans KB3.out
            · exact only8 KL3.out (Nat.le_refl _) _ _ _ _ _ _ _ _
        · have cb : (Go.bits .and .u32 v (rowAt (j : Int)).2.1 == (rowAt (j : Int)).2.2.1) = false := beq_eq_false_iff_ne.2 c
          have hT := Aside0.mk (hS.out.trans (if_neg c))
          clear hS c
          go_region_held3 (fun w' => True) (trivial) ((go_at_call 20; refine (rows_says _).mono ?_; rintro e w4 ⟨rfl, hb⟩; have n1 : Aside0 (Blk w4 b 1 0 q firstT) := ⟨blk_below (by first | exact KB3.out | exact blk_drew KB3.out) hb⟩; have n2 : Aside0 (w4.heap[w.heap.size]? = some (.cells #[.int .i64 0, .int .i64 0, .int .i64 0, .int .i64 0, .int .i64 0, .int .i64 0, .bool false, .bool false] 24 (0, 0))) := ⟨blk_below (by first | exact KG3.out | exact blk_drew KG3.out) hb⟩; have n3 : Aside0 (OnlyB b w w4) := ⟨OnlyB.trans (by first | exact KL3.out | exact KL3.out.drew) (OnlyB.of hb)⟩; clear hb KB3 KG3 KL3; have KB3 := n1; have KG3 := n2; have KL3 := n3; clear n1 n2 n3))
          all_goals
            go_wp2
            go_roundg gk
            case measure => omega
            case rel => exact ⟨j + 1, by omega, by simp, hT, KB3, KG3, KL3⟩
end Go.Proofs.Ytknkfimpflodeaa.P
