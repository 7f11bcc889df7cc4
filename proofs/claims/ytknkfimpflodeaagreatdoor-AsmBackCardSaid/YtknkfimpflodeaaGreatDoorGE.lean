-- written by a program of this place (wip/lay.sh, wip/print2.py over the kit's print; wip/regroup.py); Lean checks it
import Derived.Test.YtknkfimpflodeaaGreatDoorG0
import Derived.Test.YtknkfimpflodeaaGreatDoorGA
import Derived.Test.YtknkfimpflodeaaGreatDoorGB
namespace Go.Proofs.YtknkfimpflodeaaGreatDoor.P
open Go.RowKit Go.Proofs.YtknkfimpflodeaaGreatDoorW.PrintWords Go.Proofs.YtknkfimpflodeaaGreatDoorW.PrintLast Go.Proofs.YtknkfimpflodeaaGreatDoorW.PrintMore
attribute [local go_sem] max2_int min2_int max_two min_two max_three min_three max_four min_four
set_option linter.unusedVariables false
set_option linter.unusedSimpArgs false
attribute [local go_sem] run_f0 run_f1 run_f2 run_f3 run_g0 run_g1 run_g2 run_g3
attribute [local go_sem high] eqA23
/-! ### decode_Encode: function 23 -/
mutual
def decode_Encode.j0 : Nat → Bool → Int → Int → Int → Int → Int → Int → Bool → Bool → Option (Int × Int)
 | 0, _, _, _, _, _, _, _, _, _ => none
 | k + 1, x23, x224000, x224001, x224002, x224003, x224004, x224005, x224006, x224007 => if x23 = true then (some (0, 80)) else (if x224001 < 0 then (decode_Encode.j1 k true x224000 x224001 x224002 x224003 x224004 x224005 x224006 x224007) else (if x224001 > 31 then (decode_Encode.j1 k true x224000 x224001 x224002 x224003 x224004 x224005 x224006 x224007) else (if x224002 < 0 then (decode_Encode.j1 k true x224000 x224001 x224002 x224003 x224004 x224005 x224006 x224007) else (if x224002 > 31 then (decode_Encode.j1 k true x224000 x224001 x224002 x224003 x224004 x224005 x224006 x224007) else (if x224003 < 0 then (decode_Encode.j1 k true x224000 x224001 x224002 x224003 x224004 x224005 x224006 x224007) else (if x224003 > 31 then (decode_Encode.j1 k true x224000 x224001 x224002 x224003 x224004 x224005 x224006 x224007) else (if x224005 < 0 then (decode_Encode.j1 k true x224000 x224001 x224002 x224003 x224004 x224005 x224006 x224007) else (decode_Encode.j1 k (decide (x224005 > 4095)) x224000 x224001 x224002 x224003 x224004 x224005 x224006 x224007))))))))
def decode_Encode.j1 : Nat → Bool → Int → Int → Int → Int → Int → Int → Bool → Bool → Option (Int × Int)
 | 0, _, _, _, _, _, _, _, _, _ => none
 | k + 1, x61, x224000, x224001, x224002, x224003, x224004, x224005, x224006, x224007 => if x61 = true then (some (0, 80)) else ((decode_rows.f).bind fun t225 => (if 0 ≤ (wrap64 (x224000 - 1)) then (if (wrap64 (x224000 - 1)) < 113 then ((decode_parts.f k ((rowAt (wrap64 (x224000 - 1))).2.2.2)).bind fun bt227 => (if bt227.2.2.2.1 = true then (decode_Encode.j2 k (Go.bits .or .u32 (Go.bits .or .u32 (Go.bits .or .u32 (Go.bits .or .u32 ((rowAt (wrap64 (x224000 - 1))).2.2.1) ((((x224001) % 4294967296) * 128) % 4294967296)) ((((x224002) % 4294967296) * 32768) % 4294967296)) ((((x224003) % 4294967296) * 1048576) % 4294967296)) ((((x224005) % 4294967296) * 1048576) % 4294967296)) bt227.2.2.2.2 x224000 x224001 x224002 x224003 x224004 x224005 x224006 x224007 ((rowAt (wrap64 (x224000 - 1))).1) ((rowAt (wrap64 (x224000 - 1))).2.1) ((rowAt (wrap64 (x224000 - 1))).2.2.1) ((rowAt (wrap64 (x224000 - 1))).2.2.2)) else (decode_Encode.j2 k (Go.bits .or .u32 (Go.bits .or .u32 (Go.bits .or .u32 ((rowAt (wrap64 (x224000 - 1))).2.2.1) ((((x224001) % 4294967296) * 128) % 4294967296)) ((((x224002) % 4294967296) * 32768) % 4294967296)) ((((x224003) % 4294967296) * 1048576) % 4294967296)) bt227.2.2.2.2 x224000 x224001 x224002 x224003 x224004 x224005 x224006 x224007 ((rowAt (wrap64 (x224000 - 1))).1) ((rowAt (wrap64 (x224000 - 1))).2.1) ((rowAt (wrap64 (x224000 - 1))).2.2.1) ((rowAt (wrap64 (x224000 - 1))).2.2.2)))) else (none)) else (none)))
def decode_Encode.j2 : Nat → Int → Bool → Int → Int → Int → Int → Int → Int → Bool → Bool → ByteArray → Int → Int → Int → Option (Int × Int)
 | 0, _, _, _, _, _, _, _, _, _, _, _, _, _, _ => none
 | k + 1, x5, x10, x224000, x224001, x224002, x224003, x224004, x224005, x224006, x224007, x227000, x227001, x227002, x227003 => if x10 = true then (decode_Encode.j3 k x5 x10 x224006 x224000 x224001 x224002 x224003 x224004 x224005 x224006 x224007 x227000 x227001 x227002 x227003) else (decode_Encode.j3 k x5 x10 false x224000 x224001 x224002 x224003 x224004 x224005 x224006 x224007 x227000 x227001 x227002 x227003)
def decode_Encode.j3 : Nat → Int → Bool → Bool → Int → Int → Int → Int → Int → Int → Bool → Bool → ByteArray → Int → Int → Int → Option (Int × Int)
 | 0, _, _, _, _, _, _, _, _, _, _, _, _, _, _, _ => none
 | k + 1, x5, x10, x104, x224000, x224001, x224002, x224003, x224004, x224005, x224006, x224007, x227000, x227001, x227002, x227003 => if x104 = true then (decode_Encode.j4 k (Go.bits .or .u32 x5 67108864) x10 x224000 x224001 x224002 x224003 x224004 x224005 x224006 x224007 x227000 x227001 x227002 x227003) else (decode_Encode.j4 k x5 x10 x224000 x224001 x224002 x224003 x224004 x224005 x224006 x224007 x227000 x227001 x227002 x227003)
def decode_Encode.j4 : Nat → Int → Bool → Int → Int → Int → Int → Int → Int → Bool → Bool → ByteArray → Int → Int → Int → Option (Int × Int)
 | 0, _, _, _, _, _, _, _, _, _, _, _, _, _, _ => none
 | k + 1, x5, x10, x224000, x224001, x224002, x224003, x224004, x224005, x224006, x224007, x227000, x227001, x227002, x227003 => if x10 = true then (decode_Encode.j5 k x5 x224007 x224000 x224001 x224002 x224003 x224004 x224005 x224006 x224007 x227000 x227001 x227002 x227003) else (decode_Encode.j5 k x5 false x224000 x224001 x224002 x224003 x224004 x224005 x224006 x224007 x227000 x227001 x227002 x227003)
def decode_Encode.j5 : Nat → Int → Bool → Int → Int → Int → Int → Int → Int → Bool → Bool → ByteArray → Int → Int → Int → Option (Int × Int)
 | 0, _, _, _, _, _, _, _, _, _, _, _, _, _, _ => none
 | k + 1, x5, x111, x224000, x224001, x224002, x224003, x224004, x224005, x224006, x224007, x227000, x227001, x227002, x227003 => if x111 = true then (decode_Encode.j6 k (Go.bits .or .u32 x5 33554432) x224000 x224001 x224002 x224003 x224004 x224005 x224006 x224007 x227000 x227001 x227002 x227003) else (decode_Encode.j6 k x5 x224000 x224001 x224002 x224003 x224004 x224005 x224006 x224007 x227000 x227001 x227002 x227003)
def decode_Encode.j6 : Nat → Int → Int → Int → Int → Int → Int → Int → Bool → Bool → ByteArray → Int → Int → Int → Option (Int × Int)
 | 0, _, _, _, _, _, _, _, _, _, _, _, _, _ => none
 | k + 1, x5, x224000, x224001, x224002, x224003, x224004, x224005, x224006, x224007, x227000, x227001, x227002, x227003 => (decode_number.f x227003).bind fun t232 => (if t232 = 0 then (if (Go.bits .and .u32 x5 x227001) = x227002 then ((decode_said.f k x224000 x5).bind fun bt233 => (if (!(bt233.1 == x224000) || (!(bt233.2.1 == x224001) || (!(bt233.2.2.1 == x224002) || (!(bt233.2.2.2.1 == x224003) || (!(bt233.2.2.2.2.1 == x224004) || (!(bt233.2.2.2.2.2.1 == x224005) || (!(bt233.2.2.2.2.2.2.1 == x224006) || (!(bt233.2.2.2.2.2.2.2 == x224007))))))))) = true then (some (0, 80)) else (some (x5, 0)))) else (some (0, 80))) else ((fields_Put.f k t232 x224004).bind fun bt241 => (if bt241.2 = true then (if (Go.bits .and .u32 (Go.bits .or .u32 x5 bt241.1) x227001) = x227002 then ((decode_said.f k x224000 (Go.bits .or .u32 x5 bt241.1)).bind fun bt243 => (if (!(bt243.1 == x224000) || (!(bt243.2.1 == x224001) || (!(bt243.2.2.1 == x224002) || (!(bt243.2.2.2.1 == x224003) || (!(bt243.2.2.2.2.1 == x224004) || (!(bt243.2.2.2.2.2.1 == x224005) || (!(bt243.2.2.2.2.2.2.1 == x224006) || (!(bt243.2.2.2.2.2.2.2 == x224007))))))))) = true then (some (0, 80)) else (some (Go.bits .or .u32 x5 bt241.1, 0)))) else (some (0, 80))) else (some (0, 80)))))
end
def decode_Encode.f (k : Nat) (a0_0 : Int) (a0_1 : Int) (a0_2 : Int) (a0_3 : Int) (a0_4 : Int) (a0_5 : Int) (a0_6 : Bool) (a0_7 : Bool) : Option (Int × Int) := if a0_0 < 1 then (decode_Encode.j0 k true a0_0 a0_1 a0_2 a0_3 a0_4 a0_5 a0_6 a0_7) else ((decode_rows.f).bind fun t224 => (decode_Encode.j0 k (decide (a0_0 > 113)) a0_0 a0_1 a0_2 a0_3 a0_4 a0_5 a0_6 a0_7))
def decode_Encode.T1 : Bool × List (List Nat × List Nat) := (true, [([], []), ([0], [0]), ([1], [1]), ([2], [2]), ([3], [3]), ([4, 3], [3, 4]), ([3, 3], [3]), ([3, 6], [3]), ([5, 7, 3], [3, 5, 7]), ([3, 8], [3, 8])])
def decode_Encode.B1 : List Nat := [0, 1, 3, 7, 15, 31, 15, 79, 255, 511]
theorem decode_Encode.tab1 : rtab .any (opsOf Tryz.f23 1) = decode_Encode.T1 := by kernel_rfl
theorem decode_Encode.bits1 : waitsOk decode_Encode.T1.2 decode_Encode.B1 = true := by kernel_rfl
def decode_Encode.T20 : Bool × List (List Nat × List Nat) := (true, [([], []), ([], []), ([1], [1]), ([0, 2], [0, 2]), ([], []), ([4], [4]), ([3, 5], [3, 5]), ([6], [6]), ([7], [7]), ([8, 7], [7, 8]), ([7], [7]), ([9, 10, 7, 7], [7, 9, 10]), ([7], [7]), ([11, 12, 7], [7, 11, 12]), ([7, 13], [7, 13])])
def decode_Encode.B20 : List Nat := [0, 0, 2, 7, 0, 16, 63, 127, 255, 511, 255, 2047, 255, 8191, 16383]
theorem decode_Encode.tab20 : rtab .any (opsOf Tryz.f23 20) = decode_Encode.T20 := by kernel_rfl
theorem decode_Encode.bits20 : waitsOk decode_Encode.T20.2 decode_Encode.B20 = true := by kernel_rfl
set_option maxHeartbeats 8000000 in
set_option maxRecDepth 100000 in
theorem decode_Encode.calls (k : Nat) (a0_0 : Int) (a0_1 : Int) (a0_2 : Int) (a0_3 : Int) (a0_4 : Int) (a0_5 : Int) (a0_6 : Bool) (a0_7 : Bool) (r1 : Int) (r2 : Int) (w : World) (h : decode_Encode.f k a0_0 a0_1 a0_2 a0_3 a0_4 a0_5 a0_6 a0_7 = some (r1, r2)) :
  Calls Tryz.prog 23 #[.agg #[.int .i64 a0_0, .int .i64 a0_1, .int .i64 a0_2, .int .i64 a0_3, .int .i64 a0_4, .int .i64 a0_5, .bool a0_6, .bool a0_7]] w fun e w' => e = .returned (.tuple #[.int .u32 r1, .int .i64 r2]) ∧ Below w.heap.size w w' := by
 have hu23 := Tryz.underlying23; have hu106 := Tryz.underlying106; have HB := Aside0.mk (Below.refl w.heap.size w)
 have H : (if a0_0 < 1 then (decode_Encode.j0 k true a0_0 a0_1 a0_2 a0_3 a0_4 a0_5 a0_6 a0_7) else ((decode_rows.f).bind fun t224 => (decode_Encode.j0 k (decide (a0_0 > 113)) a0_0 a0_1 a0_2 a0_3 a0_4 a0_5 a0_6 a0_7))) = some (r1, r2) := h
 clear h; have HC2 := Aside0.mk H
 clear H; go_enter Tryz.func23, Tryz.ntmps23
 go_upto_region 1 with (first | ((with_reducible refine gate_dst (N := 1) rfl ?_); refine box_event ?hg (N := 1) ?hd (cs := #[.int .i64 a0_0, .int .i64 a0_1, .int .i64 a0_2, .int .i64 a0_3, .int .i64 a0_4, .int .i64 a0_5, .bool a0_6, .bool a0_7]) (t := 23) ?hr ?_; (case hd => rfl); (case hg => rfl); (case hr => first | (go_simp; done) | (go_simp; rfl)); intro gb223 hg w3 hbox hb; have n0_ := Aside0.mk (below_step (by repeat (first | (with_reducible first | exact HB.out | apply below_alloc | apply pw_below_drewN | apply below_drew1) | exact HB.out)) hb); have n1_ := Aside0.mk (hbox); have n2_ := Aside0.mk ((by rw [hg]; exact (below_size (by repeat (first | (with_reducible first | exact HB.out | apply below_alloc | apply pw_below_drewN | apply below_drew1) | exact HB.out))) : w.heap.size ≤ gb223)); have n3_ := Aside0.mk ((by rw [hg]; exact (below_size (by repeat (first | (with_reducible first | exact HB.out | apply below_alloc | apply pw_below_drewN | apply below_drew1) | exact HB.out))) : w.heap.size ≤ gb223)); clear HB; have HB := n0_; have BK223 := n1_; have GW223 := n2_; have GE223 := n3_; clear n0_ n1_ n2_ n3_ hb hbox hg))
 (try simp only [Act.put, List.setIfInBounds_toArray, List.set_cons_zero, List.set_cons_succ])
 go_cut [23] (fun v23 wc => ∃ (kq : Nat) (x23_1 : Bool), v23 = .bool x23_1 ∧ Aside0 (decode_Encode.j0 kq x23_1 a0_0 a0_1 a0_2 a0_3 a0_4 a0_5 a0_6 a0_7 = some (r1, r2)) ∧ Aside0 (kq ≤ k) ∧ Aside0 (wc.heap[gb223]? = some (.cells #[.int .i64 a0_0, .int .i64 a0_1, .int .i64 a0_2, .int .i64 a0_3, .int .i64 a0_4, .int .i64 a0_5, .bool a0_6, .bool a0_7] 23 (0, 0))) ∧ Aside0 (Below w.heap.size w wc))
 case first =>
  have H := HC2.out; clear HC2; by_cases c4 : a0_0 < 1
  ·rw [if_pos c4] at H
   have c4b0 : decide (a0_0 < 1) = true := decide_eq_true c4
   clear c4; (first | rw [c4b0] | (simp only [i64_w, i32_w]; rw [c4b0]) | skip)
   have H' := Aside0.mk H
   clear H; try go_wp2
   have n0_ := Aside0.mk (blk_drew BK223.out)
   have n1_ := Aside0.mk (below_drew1 HB.out)
   clear BK223 HB; have BK223 := n0_; have HB := n1_; clear n0_ n1_; refine start_ (n := 10) (S := fun w' => w'.cell? ⟨gb223, 0, none⟩ = some (.int .i64 a0_0) ∧ w'.cell? ⟨gb223, 1, none⟩ = some (.int .i64 a0_1) ∧ w'.cell? ⟨gb223, 2, none⟩ = some (.int .i64 a0_2) ∧ w'.cell? ⟨gb223, 3, none⟩ = some (.int .i64 a0_3) ∧ w'.cell? ⟨gb223, 4, none⟩ = some (.int .i64 a0_4) ∧ w'.cell? ⟨gb223, 5, none⟩ = some (.int .i64 a0_5) ∧ w'.cell? ⟨gb223, 6, none⟩ = some (.bool a0_6) ∧ w'.cell? ⟨gb223, 7, none⟩ = some (.bool a0_7)) (ds := []) #[false, false, false, false, false, false, false, false, false, false] (by kernel_rfl) rfl rfl ⟨(blk_cell BK223.out 0).trans rfl, (blk_cell BK223.out 1).trans rfl, (blk_cell BK223.out 2).trans rfl, (blk_cell BK223.out 3).trans rfl, (blk_cell BK223.out 4).trans rfl, (blk_cell BK223.out 5).trans rfl, (blk_cell BK223.out 6).trans rfl, (blk_cell BK223.out 7).trans rfl⟩ (fun hHeld => ?_); refine with_tabW decode_Encode.tab1 decode_Encode.bits1 (fun HT_ HW_ => ?_)
   generalize w3.drew = w5 at BK223 HB hHeld ⊢
   refine pure_ (i := 0) (N := some 14) (v := ?_) (a' := ?_) #[true, false, false, false, false, false, false, false, false, false] rfl rfl (any_of HT_.out (by kernel_rfl)) (fun _ _ _ h => h) (Or.inl ⟨by rfl, ?_⟩) ?_ ?_
   rotate_left
   ·intro w'
    go_simp; with_reducible rfl
   rotate_left
   ·simp only [Act.put, List.setIfInBounds_toArray, List.set_cons_zero, List.set_cons_succ, i64_w, i32_w]
    rfl
   refine take_ (i := 1) (N := some 15) (v := ?_) (a' := ?_) #[true, true, false, false, false, false, false, false, false, false] rfl rfl (take_ofW HT_.out HW_.out (by kernel_rfl)) (fun _ _ _ h => h) (Or.inl ⟨by rfl, ?_⟩) hHeld ?_ ?_
   rotate_left
   ·rintro w' ⟨s0, s1, s2, s3, s4, s5, s6, s7⟩
    go_simp; with_reducible rfl
   rotate_left
   ·simp only [Act.put, List.setIfInBounds_toArray, List.set_cons_zero, List.set_cons_succ, i64_w, i32_w]
    rfl
   refine pure_ (i := 2) (N := some 16) (v := ?_) (a' := ?_) #[true, true, true, false, false, false, false, false, false, false] rfl rfl (any_of HT_.out (by kernel_rfl)) (fun _ _ _ h => h) (Or.inl ⟨by rfl, ?_⟩) ?_ ?_
   rotate_left
   ·intro w'
    go_simp; with_reducible rfl
   rotate_left
   ·simp only [Act.put, List.setIfInBounds_toArray, List.set_cons_zero, List.set_cons_succ, i64_w, i32_w]
    rfl
   refine pure_ (i := 3) (N := some 17) (v := ?_) (a' := ?_) #[true, true, true, true, false, false, false, false, false, false] rfl rfl (any_of HT_.out (by kernel_rfl)) (fun _ _ _ h => h) (Or.inl ⟨by rfl, ?_⟩) ?_ ?_
   rotate_left
   ·intro w'
    go_simp; with_reducible rfl
   rotate_left
   ·simp only [Act.put, List.setIfInBounds_toArray, List.set_cons_zero, List.set_cons_succ, i64_w, i32_w]
    rfl
   refine pure_ (i := 4) (N := some 18) (v := undef) (a' := ?_) #[true, true, true, true, true, false, false, false, false, false] rfl rfl (any_of HT_.out (by kernel_rfl)) (fun _ _ _ h => h) (Or.inr ⟨by rfl, rfl⟩) ?_ ?_
   rotate_left
   ·simp only [Act.put, List.setIfInBounds_toArray, List.set_cons_zero, List.set_cons_succ, i64_w, i32_w]
    rfl
   refine pure_ (i := 5) (N := some 19) (v := undef) (a' := ?_) #[true, true, true, true, true, true, false, false, false, false] rfl rfl (any_of HT_.out (by kernel_rfl)) (fun _ _ _ h => h) (Or.inr ⟨by rfl, rfl⟩) ?_ ?_
   rotate_left
   ·simp only [Act.put, List.setIfInBounds_toArray, List.set_cons_zero, List.set_cons_succ, i64_w, i32_w]
    rfl
   refine pure_ (i := 6) (N := some 20) (v := undef) (a' := ?_) #[true, true, true, true, true, true, true, false, false, false] rfl rfl (any_of HT_.out (by kernel_rfl)) (fun _ _ _ h => h) (Or.inr ⟨by rfl, rfl⟩) ?_ ?_
   rotate_left
   ·simp only [Act.put, List.setIfInBounds_toArray, List.set_cons_zero, List.set_cons_succ, i64_w, i32_w]
    rfl
   refine pure_ (i := 7) (N := some 21) (v := undef) (a' := ?_) #[true, true, true, true, true, true, true, true, false, false] rfl rfl (any_of HT_.out (by kernel_rfl)) (fun _ _ _ h => h) (Or.inr ⟨by rfl, rfl⟩) ?_ ?_
   rotate_left
   ·simp only [Act.put, List.setIfInBounds_toArray, List.set_cons_zero, List.set_cons_succ, i64_w, i32_w]
    rfl
   refine pure_ (i := 8) (N := some 22) (v := undef) (a' := ?_) #[true, true, true, true, true, true, true, true, true, false] rfl rfl (any_of HT_.out (by kernel_rfl)) (fun _ _ _ h => h) (Or.inr ⟨by rfl, rfl⟩) ?_ ?_
   rotate_left
   ·simp only [Act.put, List.setIfInBounds_toArray, List.set_cons_zero, List.set_cons_succ, i64_w, i32_w]
    rfl
   refine pure_ (i := 9) (N := some 23) (v := ?_) (a' := ?_) #[true, true, true, true, true, true, true, true, true, true] rfl rfl (any_of HT_.out (by kernel_rfl)) (fun _ _ _ h => h) (Or.inl ⟨by rfl, ?_⟩) ?_ ?_
   rotate_left
   ·intro w'
    go_simp; with_reducible rfl
   rotate_left
   ·simp only [Act.put, List.setIfInBounds_toArray, List.set_cons_zero, List.set_cons_succ, i64_w, i32_w]
    rfl
   refine done_ (done_of HT_.out (by kernel_rfl)) ?_
   try go_wp2
   go_meet
   case rel => exact ⟨_, (true), (by first | rfl | (simp; done) | (simp [*]; done)), H', ⟨by first | omega | exact Nat.le_refl _⟩, ⟨by (with_reducible repeat (first | refine blk_drewN ?_ _ | refine blk_drew ?_ | refine blk_alloc ?_ _)); exact BK223.out⟩, ⟨by repeat (first | (with_reducible first | exact HB.out | apply below_alloc | apply pw_below_drewN | apply below_drew1 | refine below_set ?_ GE223.out) | exact HB.out)⟩⟩
  ·rw [if_neg c4] at H
   have c4b0 : decide (a0_0 < 1) = false := decide_eq_false c4
   clear c4; (first | rw [c4b0] | (simp only [i64_w, i32_w]; rw [c4b0]) | skip)
   replace H := Option.bind_eq_some_iff.mp H
   obtain ⟨t224, A60, H⟩ := H
   replace H : (decode_Encode.j0 k (decide (a0_0 > 113)) a0_0 a0_1 a0_2 a0_3 a0_4 a0_5 a0_6 a0_7) = some (r1, r2) := H
   have A6 := Aside0.mk A60
   clear A60; have H' := Aside0.mk H
   clear H; try go_wp2
   have n0_ := Aside0.mk (blk_drew BK223.out)
   have n1_ := Aside0.mk (below_drew1 HB.out)
   clear BK223 HB; have BK223 := n0_; have HB := n1_; clear n0_ n1_; refine start_ (n := 10) (S := fun w' => w'.cell? ⟨gb223, 0, none⟩ = some (.int .i64 a0_0) ∧ w'.cell? ⟨gb223, 1, none⟩ = some (.int .i64 a0_1) ∧ w'.cell? ⟨gb223, 2, none⟩ = some (.int .i64 a0_2) ∧ w'.cell? ⟨gb223, 3, none⟩ = some (.int .i64 a0_3) ∧ w'.cell? ⟨gb223, 4, none⟩ = some (.int .i64 a0_4) ∧ w'.cell? ⟨gb223, 5, none⟩ = some (.int .i64 a0_5) ∧ w'.cell? ⟨gb223, 6, none⟩ = some (.bool a0_6) ∧ w'.cell? ⟨gb223, 7, none⟩ = some (.bool a0_7)) (ds := []) #[false, false, false, false, false, false, false, false, false, false] (by kernel_rfl) rfl rfl ⟨(blk_cell BK223.out 0).trans rfl, (blk_cell BK223.out 1).trans rfl, (blk_cell BK223.out 2).trans rfl, (blk_cell BK223.out 3).trans rfl, (blk_cell BK223.out 4).trans rfl, (blk_cell BK223.out 5).trans rfl, (blk_cell BK223.out 6).trans rfl, (blk_cell BK223.out 7).trans rfl⟩ (fun hHeld => ?_); refine with_tabW decode_Encode.tab1 decode_Encode.bits1 (fun HT_ HW_ => ?_)
   generalize w3.drew = w7 at BK223 HB hHeld ⊢
   refine pure_ (i := 0) (N := some 14) (v := ?_) (a' := ?_) #[true, false, false, false, false, false, false, false, false, false] rfl rfl (any_of HT_.out (by kernel_rfl)) (fun _ _ _ h => h) (Or.inl ⟨by rfl, ?_⟩) ?_ ?_
   rotate_left
   ·intro w'
    go_simp; with_reducible rfl
   rotate_left
   ·simp only [Act.put, List.setIfInBounds_toArray, List.set_cons_zero, List.set_cons_succ, i64_w, i32_w]
    rfl
   refine take_ (i := 1) (N := some 15) (v := ?_) (a' := ?_) #[true, true, false, false, false, false, false, false, false, false] rfl rfl (take_ofW HT_.out HW_.out (by kernel_rfl)) (fun _ _ _ h => h) (Or.inl ⟨by rfl, ?_⟩) hHeld ?_ ?_
   rotate_left
   ·rintro w' ⟨s0, s1, s2, s3, s4, s5, s6, s7⟩
    go_simp; with_reducible rfl
   rotate_left
   ·simp only [Act.put, List.setIfInBounds_toArray, List.set_cons_zero, List.set_cons_succ, i64_w, i32_w]
    rfl
   refine pure_ (i := 2) (N := some 16) (v := ?_) (a' := ?_) #[true, true, true, false, false, false, false, false, false, false] rfl rfl (any_of HT_.out (by kernel_rfl)) (fun _ _ _ h => h) (Or.inl ⟨by rfl, ?_⟩) ?_ ?_
   rotate_left
   ·intro w'
    go_simp; with_reducible rfl
   rotate_left
   ·simp only [Act.put, List.setIfInBounds_toArray, List.set_cons_zero, List.set_cons_succ, i64_w, i32_w]
    rfl
   refine pure_ (i := 3) (N := some 17) (v := ?_) (a' := ?_) #[true, true, true, true, false, false, false, false, false, false] rfl rfl (any_of HT_.out (by kernel_rfl)) (fun _ _ _ h => h) (Or.inl ⟨by rfl, ?_⟩) ?_ ?_
   rotate_left
   ·intro w'
    go_simp; with_reducible rfl
   rotate_left
   ·simp only [Act.put, List.setIfInBounds_toArray, List.set_cons_zero, List.set_cons_succ, i64_w, i32_w]
    rfl
   refine pure_ (i := 4) (N := some 18) (v := ?_) (a' := ?_) #[true, true, true, true, true, false, false, false, false, false] rfl rfl (any_of HT_.out (by kernel_rfl)) (fun _ _ _ h => h) (Or.inl ⟨by rfl, ?_⟩) ?_ ?_
   rotate_left
   ·intro w'
    go_simp; with_reducible rfl
   rotate_left
   ·simp only [Act.put, List.setIfInBounds_toArray, List.set_cons_zero, List.set_cons_succ, i64_w, i32_w]
    rfl
   refine take_ (i := 5) (N := some 19) (v := ?_) (a' := ?_) #[true, true, true, true, true, true, false, false, false, false] rfl rfl (take_ofW HT_.out HW_.out (by kernel_rfl)) (fun _ _ _ h => h) (Or.inl ⟨by rfl, ?_⟩) hHeld ?_ ?_
   rotate_left
   ·rintro w' ⟨s0, s1, s2, s3, s4, s5, s6, s7⟩
    go_simp; with_reducible rfl
   rotate_left
   ·simp only [Act.put, List.setIfInBounds_toArray, List.set_cons_zero, List.set_cons_succ, i64_w, i32_w]
    rfl
   refine one_ (i := 6) (N := some 20) #[true, true, true, true, true, true, true, false, false, false] rfl rfl (one_of HT_.out (by kernel_rfl)) (by decide) (fun K hK => ?_)
   refine goes_ Tryz.func67 (by kernel_rfl) rfl #[] (by rfl) rfl rfl (by (try simp only [List.map_toArray, List.map_cons, List.map_nil]); first | done | rfl | (simp only [List.length_drop, List.length_take]; rfl)) ?_
   with_reducible refine (decode_rows.calls  t224 _ A6.out).mono ?_
   rintro e w8 ⟨rfl, hb⟩
   refine ⟨_, rfl, ?_⟩
   have n0_ := Aside0.mk (blk_below (g := gb223) (o := .cells #[.int .i64 a0_0, .int .i64 a0_1, .int .i64 a0_2, .int .i64 a0_3, .int .i64 a0_4, .int .i64 a0_5, .bool a0_6, .bool a0_7] 23 (0, 0)) (by (with_reducible repeat (first | refine blk_drewN ?_ _ | refine blk_drew ?_ | refine blk_alloc ?_ _)); exact BK223.out) hb)
   have n1_ := Aside0.mk (below_step (by repeat (first | (with_reducible first | exact HB.out | apply below_alloc | apply pw_below_drewN | apply below_drew1 | refine below_set ?_ GE223.out) | exact HB.out)) hb)
   clear BK223 HB; have BK223 := n0_; have HB := n1_; clear n0_ n1_ hb; refine hK.out _ _ ⟨(blk_cell BK223.out 0).trans rfl, (blk_cell BK223.out 1).trans rfl, (blk_cell BK223.out 2).trans rfl, (blk_cell BK223.out 3).trans rfl, (blk_cell BK223.out 4).trans rfl, (blk_cell BK223.out 5).trans rfl, (blk_cell BK223.out 6).trans rfl, (blk_cell BK223.out 7).trans rfl⟩ (fun hHeld => ?_)
   clear hK K; refine norm_ (a' := ?_) ?_ ?_
   rotate_left
   ·show Act.put _ (some 20) _ = _
    simp only [Act.put, List.setIfInBounds_toArray, List.set_cons_zero, List.set_cons_succ, i64_w, i32_w]
    rfl
   refine pure_ (i := 7) (N := some 21) (v := ?_) (a' := ?_) #[true, true, true, true, true, true, true, true, false, false] rfl rfl (any_of HT_.out (by kernel_rfl)) (fun _ _ _ h => h) (Or.inl ⟨by rfl, ?_⟩) ?_ ?_
   rotate_left
   ·intro w'
    go_simp; with_reducible rfl
   rotate_left
   ·simp only [Act.put, List.setIfInBounds_toArray, List.set_cons_zero, List.set_cons_succ, i64_w, i32_w]
    rfl
   refine pure_ (i := 8) (N := some 22) (v := ?_) (a' := ?_) #[true, true, true, true, true, true, true, true, true, false] rfl rfl (any_of HT_.out (by kernel_rfl)) (fun _ _ _ h => h) (Or.inl ⟨by rfl, ?_⟩) ?_ ?_
   rotate_left
   ·intro w'
    go_simp; with_reducible rfl
   rotate_left
   ·simp only [Act.put, List.setIfInBounds_toArray, List.set_cons_zero, List.set_cons_succ, i64_w, i32_w]
    rfl
   refine pure_ (i := 9) (N := some 23) (v := ?_) (a' := ?_) #[true, true, true, true, true, true, true, true, true, true] rfl rfl (any_of HT_.out (by kernel_rfl)) (fun _ _ _ h => h) (Or.inl ⟨by rfl, ?_⟩) ?_ ?_
   rotate_left
   ·intro w'
    go_simp; with_reducible rfl
   rotate_left
   ·simp only [Act.put, List.setIfInBounds_toArray, List.set_cons_zero, List.set_cons_succ, i64_w, i32_w]
    rfl
   refine done_ (done_of HT_.out (by kernel_rfl)) ?_
   try go_wp2
   go_meet
   case rel => exact ⟨_, (decide (a0_0 > 113)), (by first | rfl | (simp; done) | (simp [*]; done)), H', ⟨by first | omega | exact Nat.le_refl _⟩, ⟨by (with_reducible repeat (first | refine blk_drewN ?_ _ | refine blk_drew ?_ | refine blk_alloc ?_ _)); exact BK223.out⟩, ⟨by repeat (first | (with_reducible first | exact HB.out | apply below_alloc | apply pw_below_drewN | apply below_drew1 | refine below_set ?_ GE223.out) | exact HB.out)⟩⟩
 case rest =>
  clear HC2; obtain ⟨kq, x23_1, rfl, HA, HJ1, BK223, HB⟩ := hcut
  cases kq with
  | zero => exact absurd HA.out (by simp [decode_Encode.j0])
  | succ kj1 =>
   have H := HA.out; clear HA; simp only [decode_Encode.j0] at H
   by_cases c9 : x23_1 = true
   ·subst c9
    have H1 : (some (0, 80)) = some (r1, r2) := by rw [if_pos rfl] at H; exact H
    clear H; have H := H1; clear H1; simp only [Option.some.injEq, Prod.mk.injEq] at H
    obtain ⟨rfl, rfl⟩ := H
    go_wp2
    go_ret2
    exact ⟨by first | rfl | (simp [errW_none, errW_some] <;> rfl) | (simp [*, errW_none, errW_some] <;> rfl), by repeat (first | (with_reducible first | exact HB.out | apply below_alloc | apply pw_below_drewN | apply below_drew1 | refine below_set ?_ GE223.out) | exact HB.out)⟩
   ·replace c9 := Bool.eq_false_iff.mpr c9
    subst c9; have H1 : (if a0_1 < 0 then (decode_Encode.j1 kj1 true a0_0 a0_1 a0_2 a0_3 a0_4 a0_5 a0_6 a0_7) else (if a0_1 > 31 then (decode_Encode.j1 kj1 true a0_0 a0_1 a0_2 a0_3 a0_4 a0_5 a0_6 a0_7) else (if a0_2 < 0 then (decode_Encode.j1 kj1 true a0_0 a0_1 a0_2 a0_3 a0_4 a0_5 a0_6 a0_7) else (if a0_2 > 31 then (decode_Encode.j1 kj1 true a0_0 a0_1 a0_2 a0_3 a0_4 a0_5 a0_6 a0_7) else (if a0_3 < 0 then (decode_Encode.j1 kj1 true a0_0 a0_1 a0_2 a0_3 a0_4 a0_5 a0_6 a0_7) else (if a0_3 > 31 then (decode_Encode.j1 kj1 true a0_0 a0_1 a0_2 a0_3 a0_4 a0_5 a0_6 a0_7) else (if a0_5 < 0 then (decode_Encode.j1 kj1 true a0_0 a0_1 a0_2 a0_3 a0_4 a0_5 a0_6 a0_7) else (decode_Encode.j1 kj1 (decide (a0_5 > 4095)) a0_0 a0_1 a0_2 a0_3 a0_4 a0_5 a0_6 a0_7)))))))) = some (r1, r2) := by rw [if_neg (show ¬ (false = true) by decide)] at H; exact H
    clear H; have H := H1; clear H1; have HC10 := Aside0.mk H
    clear H; go_upto_region 3 with (fail)
    go_cut [61] (fun v61 wc => ∃ (kq : Nat) (x61_9 : Bool), v61 = .bool x61_9 ∧ Aside0 (decode_Encode.j1 kq x61_9 a0_0 a0_1 a0_2 a0_3 a0_4 a0_5 a0_6 a0_7 = some (r1, r2)) ∧ Aside0 (kq ≤ kj1) ∧ Aside0 (wc.heap[gb223]? = some (.cells #[.int .i64 a0_0, .int .i64 a0_1, .int .i64 a0_2, .int .i64 a0_3, .int .i64 a0_4, .int .i64 a0_5, .bool a0_6, .bool a0_7] 23 (0, 0))) ∧ Aside0 (Below w.heap.size w wc))
    case first =>
     have H := HC10.out; clear HC10; by_cases c11 : a0_1 < 0
     ·rw [if_pos c11] at H
      have c11b0 : decide (a0_1 < 0) = true := decide_eq_true c11
      clear c11; (first | rw [c11b0] | (simp only [i64_w, i32_w]; rw [c11b0]) | skip)
      have H' := Aside0.mk H
      clear H; have hcz12_0 : wc.cell? ⟨gb223, 0, none⟩ = some (.int .i64 a0_0) := (blk_cell BK223.out 0).trans rfl
      have hcz12_1 : wc.cell? ⟨gb223, 1, none⟩ = some (.int .i64 a0_1) := (blk_cell BK223.out 1).trans rfl
      have hcz12_2 : wc.cell? ⟨gb223, 2, none⟩ = some (.int .i64 a0_2) := (blk_cell BK223.out 2).trans rfl
      have hcz12_3 : wc.cell? ⟨gb223, 3, none⟩ = some (.int .i64 a0_3) := (blk_cell BK223.out 3).trans rfl
      have hcz12_4 : wc.cell? ⟨gb223, 4, none⟩ = some (.int .i64 a0_4) := (blk_cell BK223.out 4).trans rfl
      have hcz12_5 : wc.cell? ⟨gb223, 5, none⟩ = some (.int .i64 a0_5) := (blk_cell BK223.out 5).trans rfl
      have hcz12_6 : wc.cell? ⟨gb223, 6, none⟩ = some (.bool a0_6) := (blk_cell BK223.out 6).trans rfl
      have hcz12_7 : wc.cell? ⟨gb223, 7, none⟩ = some (.bool a0_7) := (blk_cell BK223.out 7).trans rfl
      have hfz12_0 := blk_frozen BK223.out 0
      have hfz12_1 := blk_frozen BK223.out 1
      have hfz12_2 := blk_frozen BK223.out 2
      have hfz12_3 := blk_frozen BK223.out 3
      have hfz12_4 := blk_frozen BK223.out 4
      have hfz12_5 := blk_frozen BK223.out 5
      have hfz12_6 := blk_frozen BK223.out 6
      have hfz12_7 := blk_frozen BK223.out 7
      go_wp2
      go_meet
      case rel => exact ⟨_, (true), (by first | rfl | (simp; done) | (simp [*]; done)), H', ⟨by have := HJ1.out; first | omega | exact Nat.le_refl _⟩, ⟨by (with_reducible repeat (first | refine blk_drewN ?_ _ | refine blk_drew ?_ | refine blk_alloc ?_ _)); exact BK223.out⟩, ⟨by repeat (first | (with_reducible first | exact HB.out | apply below_alloc | apply pw_below_drewN | apply below_drew1 | refine below_set ?_ GE223.out) | exact HB.out)⟩⟩
     ·rw [if_neg c11] at H
      have c11b0 : decide (a0_1 < 0) = false := decide_eq_false c11
      clear c11; (first | rw [c11b0] | (simp only [i64_w, i32_w]; rw [c11b0]) | skip)
      by_cases c13 : a0_1 > 31
      ·rw [if_pos c13] at H
       have c13b0 : decide (31 < a0_1) = true := decide_eq_true c13
       clear c13; have H' := Aside0.mk H
       clear H; have hcz14_0 : wc.cell? ⟨gb223, 0, none⟩ = some (.int .i64 a0_0) := (blk_cell BK223.out 0).trans rfl
       have hcz14_1 : wc.cell? ⟨gb223, 1, none⟩ = some (.int .i64 a0_1) := (blk_cell BK223.out 1).trans rfl
       have hcz14_2 : wc.cell? ⟨gb223, 2, none⟩ = some (.int .i64 a0_2) := (blk_cell BK223.out 2).trans rfl
       have hcz14_3 : wc.cell? ⟨gb223, 3, none⟩ = some (.int .i64 a0_3) := (blk_cell BK223.out 3).trans rfl
       have hcz14_4 : wc.cell? ⟨gb223, 4, none⟩ = some (.int .i64 a0_4) := (blk_cell BK223.out 4).trans rfl
       have hcz14_5 : wc.cell? ⟨gb223, 5, none⟩ = some (.int .i64 a0_5) := (blk_cell BK223.out 5).trans rfl
       have hcz14_6 : wc.cell? ⟨gb223, 6, none⟩ = some (.bool a0_6) := (blk_cell BK223.out 6).trans rfl
       have hcz14_7 : wc.cell? ⟨gb223, 7, none⟩ = some (.bool a0_7) := (blk_cell BK223.out 7).trans rfl
       have hfz14_0 := blk_frozen BK223.out 0
       have hfz14_1 := blk_frozen BK223.out 1
       have hfz14_2 := blk_frozen BK223.out 2
       have hfz14_3 := blk_frozen BK223.out 3
       have hfz14_4 := blk_frozen BK223.out 4
       have hfz14_5 := blk_frozen BK223.out 5
       have hfz14_6 := blk_frozen BK223.out 6
       have hfz14_7 := blk_frozen BK223.out 7
       go_wp2
       go_meet
       case rel => exact ⟨_, (true), (by first | rfl | (simp; done) | (simp [*]; done)), H', ⟨by have := HJ1.out; first | omega | exact Nat.le_refl _⟩, ⟨by (with_reducible repeat (first | refine blk_drewN ?_ _ | refine blk_drew ?_ | refine blk_alloc ?_ _)); exact BK223.out⟩, ⟨by repeat (first | (with_reducible first | exact HB.out | apply below_alloc | apply pw_below_drewN | apply below_drew1 | refine below_set ?_ GE223.out) | exact HB.out)⟩⟩
      ·rw [if_neg c13] at H
       have c13b0 : decide (31 < a0_1) = false := decide_eq_false c13
       clear c13; by_cases c15 : a0_2 < 0
       ·rw [if_pos c15] at H
        have c15b0 : decide (a0_2 < 0) = true := decide_eq_true c15
        clear c15; have H' := Aside0.mk H
        clear H; have hcz16_0 : wc.cell? ⟨gb223, 0, none⟩ = some (.int .i64 a0_0) := (blk_cell BK223.out 0).trans rfl
        have hcz16_1 : wc.cell? ⟨gb223, 1, none⟩ = some (.int .i64 a0_1) := (blk_cell BK223.out 1).trans rfl
        have hcz16_2 : wc.cell? ⟨gb223, 2, none⟩ = some (.int .i64 a0_2) := (blk_cell BK223.out 2).trans rfl
        have hcz16_3 : wc.cell? ⟨gb223, 3, none⟩ = some (.int .i64 a0_3) := (blk_cell BK223.out 3).trans rfl
        have hcz16_4 : wc.cell? ⟨gb223, 4, none⟩ = some (.int .i64 a0_4) := (blk_cell BK223.out 4).trans rfl
        have hcz16_5 : wc.cell? ⟨gb223, 5, none⟩ = some (.int .i64 a0_5) := (blk_cell BK223.out 5).trans rfl
        have hcz16_6 : wc.cell? ⟨gb223, 6, none⟩ = some (.bool a0_6) := (blk_cell BK223.out 6).trans rfl
        have hcz16_7 : wc.cell? ⟨gb223, 7, none⟩ = some (.bool a0_7) := (blk_cell BK223.out 7).trans rfl
        have hfz16_0 := blk_frozen BK223.out 0
        have hfz16_1 := blk_frozen BK223.out 1
        have hfz16_2 := blk_frozen BK223.out 2
        have hfz16_3 := blk_frozen BK223.out 3
        have hfz16_4 := blk_frozen BK223.out 4
        have hfz16_5 := blk_frozen BK223.out 5
        have hfz16_6 := blk_frozen BK223.out 6
        have hfz16_7 := blk_frozen BK223.out 7
        go_wp2
        go_meet
        case rel => exact ⟨_, (true), (by first | rfl | (simp; done) | (simp [*]; done)), H', ⟨by have := HJ1.out; first | omega | exact Nat.le_refl _⟩, ⟨by (with_reducible repeat (first | refine blk_drewN ?_ _ | refine blk_drew ?_ | refine blk_alloc ?_ _)); exact BK223.out⟩, ⟨by repeat (first | (with_reducible first | exact HB.out | apply below_alloc | apply pw_below_drewN | apply below_drew1 | refine below_set ?_ GE223.out) | exact HB.out)⟩⟩
       ·rw [if_neg c15] at H
        have c15b0 : decide (a0_2 < 0) = false := decide_eq_false c15
        clear c15; by_cases c17 : a0_2 > 31
        ·rw [if_pos c17] at H
         have c17b0 : decide (31 < a0_2) = true := decide_eq_true c17
         clear c17; have H' := Aside0.mk H
         clear H; have hcz18_0 : wc.cell? ⟨gb223, 0, none⟩ = some (.int .i64 a0_0) := (blk_cell BK223.out 0).trans rfl
         have hcz18_1 : wc.cell? ⟨gb223, 1, none⟩ = some (.int .i64 a0_1) := (blk_cell BK223.out 1).trans rfl
         have hcz18_2 : wc.cell? ⟨gb223, 2, none⟩ = some (.int .i64 a0_2) := (blk_cell BK223.out 2).trans rfl
         have hcz18_3 : wc.cell? ⟨gb223, 3, none⟩ = some (.int .i64 a0_3) := (blk_cell BK223.out 3).trans rfl
         have hcz18_4 : wc.cell? ⟨gb223, 4, none⟩ = some (.int .i64 a0_4) := (blk_cell BK223.out 4).trans rfl
         have hcz18_5 : wc.cell? ⟨gb223, 5, none⟩ = some (.int .i64 a0_5) := (blk_cell BK223.out 5).trans rfl
         have hcz18_6 : wc.cell? ⟨gb223, 6, none⟩ = some (.bool a0_6) := (blk_cell BK223.out 6).trans rfl
         have hcz18_7 : wc.cell? ⟨gb223, 7, none⟩ = some (.bool a0_7) := (blk_cell BK223.out 7).trans rfl
         have hfz18_0 := blk_frozen BK223.out 0
         have hfz18_1 := blk_frozen BK223.out 1
         have hfz18_2 := blk_frozen BK223.out 2
         have hfz18_3 := blk_frozen BK223.out 3
         have hfz18_4 := blk_frozen BK223.out 4
         have hfz18_5 := blk_frozen BK223.out 5
         have hfz18_6 := blk_frozen BK223.out 6
         have hfz18_7 := blk_frozen BK223.out 7
         go_wp2
         go_meet
         case rel => exact ⟨_, (true), (by first | rfl | (simp; done) | (simp [*]; done)), H', ⟨by have := HJ1.out; first | omega | exact Nat.le_refl _⟩, ⟨by (with_reducible repeat (first | refine blk_drewN ?_ _ | refine blk_drew ?_ | refine blk_alloc ?_ _)); exact BK223.out⟩, ⟨by repeat (first | (with_reducible first | exact HB.out | apply below_alloc | apply pw_below_drewN | apply below_drew1 | refine below_set ?_ GE223.out) | exact HB.out)⟩⟩
        ·rw [if_neg c17] at H
         have c17b0 : decide (31 < a0_2) = false := decide_eq_false c17
         clear c17; by_cases c19 : a0_3 < 0
         ·rw [if_pos c19] at H
          have c19b0 : decide (a0_3 < 0) = true := decide_eq_true c19
          clear c19; have H' := Aside0.mk H
          clear H; have hcz20_0 : wc.cell? ⟨gb223, 0, none⟩ = some (.int .i64 a0_0) := (blk_cell BK223.out 0).trans rfl
          have hcz20_1 : wc.cell? ⟨gb223, 1, none⟩ = some (.int .i64 a0_1) := (blk_cell BK223.out 1).trans rfl
          have hcz20_2 : wc.cell? ⟨gb223, 2, none⟩ = some (.int .i64 a0_2) := (blk_cell BK223.out 2).trans rfl
          have hcz20_3 : wc.cell? ⟨gb223, 3, none⟩ = some (.int .i64 a0_3) := (blk_cell BK223.out 3).trans rfl
          have hcz20_4 : wc.cell? ⟨gb223, 4, none⟩ = some (.int .i64 a0_4) := (blk_cell BK223.out 4).trans rfl
          have hcz20_5 : wc.cell? ⟨gb223, 5, none⟩ = some (.int .i64 a0_5) := (blk_cell BK223.out 5).trans rfl
          have hcz20_6 : wc.cell? ⟨gb223, 6, none⟩ = some (.bool a0_6) := (blk_cell BK223.out 6).trans rfl
          have hcz20_7 : wc.cell? ⟨gb223, 7, none⟩ = some (.bool a0_7) := (blk_cell BK223.out 7).trans rfl
          have hfz20_0 := blk_frozen BK223.out 0
          have hfz20_1 := blk_frozen BK223.out 1
          have hfz20_2 := blk_frozen BK223.out 2
          have hfz20_3 := blk_frozen BK223.out 3
          have hfz20_4 := blk_frozen BK223.out 4
          have hfz20_5 := blk_frozen BK223.out 5
          have hfz20_6 := blk_frozen BK223.out 6
          have hfz20_7 := blk_frozen BK223.out 7
          go_wp2
          go_meet
          case rel => exact ⟨_, (true), (by first | rfl | (simp; done) | (simp [*]; done)), H', ⟨by have := HJ1.out; first | omega | exact Nat.le_refl _⟩, ⟨by (with_reducible repeat (first | refine blk_drewN ?_ _ | refine blk_drew ?_ | refine blk_alloc ?_ _)); exact BK223.out⟩, ⟨by repeat (first | (with_reducible first | exact HB.out | apply below_alloc | apply pw_below_drewN | apply below_drew1 | refine below_set ?_ GE223.out) | exact HB.out)⟩⟩
         ·rw [if_neg c19] at H
          have c19b0 : decide (a0_3 < 0) = false := decide_eq_false c19
          clear c19; by_cases c21 : a0_3 > 31
          ·rw [if_pos c21] at H
           have c21b0 : decide (31 < a0_3) = true := decide_eq_true c21
           clear c21; have H' := Aside0.mk H
           clear H; have hcz22_0 : wc.cell? ⟨gb223, 0, none⟩ = some (.int .i64 a0_0) := (blk_cell BK223.out 0).trans rfl
           have hcz22_1 : wc.cell? ⟨gb223, 1, none⟩ = some (.int .i64 a0_1) := (blk_cell BK223.out 1).trans rfl
           have hcz22_2 : wc.cell? ⟨gb223, 2, none⟩ = some (.int .i64 a0_2) := (blk_cell BK223.out 2).trans rfl
           have hcz22_3 : wc.cell? ⟨gb223, 3, none⟩ = some (.int .i64 a0_3) := (blk_cell BK223.out 3).trans rfl
           have hcz22_4 : wc.cell? ⟨gb223, 4, none⟩ = some (.int .i64 a0_4) := (blk_cell BK223.out 4).trans rfl
           have hcz22_5 : wc.cell? ⟨gb223, 5, none⟩ = some (.int .i64 a0_5) := (blk_cell BK223.out 5).trans rfl
           have hcz22_6 : wc.cell? ⟨gb223, 6, none⟩ = some (.bool a0_6) := (blk_cell BK223.out 6).trans rfl
           have hcz22_7 : wc.cell? ⟨gb223, 7, none⟩ = some (.bool a0_7) := (blk_cell BK223.out 7).trans rfl
           have hfz22_0 := blk_frozen BK223.out 0
           have hfz22_1 := blk_frozen BK223.out 1
           have hfz22_2 := blk_frozen BK223.out 2
           have hfz22_3 := blk_frozen BK223.out 3
           have hfz22_4 := blk_frozen BK223.out 4
           have hfz22_5 := blk_frozen BK223.out 5
           have hfz22_6 := blk_frozen BK223.out 6
           have hfz22_7 := blk_frozen BK223.out 7
           go_wp2
           go_meet
           case rel => exact ⟨_, (true), (by first | rfl | (simp; done) | (simp [*]; done)), H', ⟨by have := HJ1.out; first | omega | exact Nat.le_refl _⟩, ⟨by (with_reducible repeat (first | refine blk_drewN ?_ _ | refine blk_drew ?_ | refine blk_alloc ?_ _)); exact BK223.out⟩, ⟨by repeat (first | (with_reducible first | exact HB.out | apply below_alloc | apply pw_below_drewN | apply below_drew1 | refine below_set ?_ GE223.out) | exact HB.out)⟩⟩
          ·rw [if_neg c21] at H
           have c21b0 : decide (31 < a0_3) = false := decide_eq_false c21
           clear c21; by_cases c23 : a0_5 < 0
           ·rw [if_pos c23] at H
            have c23b0 : decide (a0_5 < 0) = true := decide_eq_true c23
            clear c23; have H' := Aside0.mk H
            clear H; have hcz24_0 : wc.cell? ⟨gb223, 0, none⟩ = some (.int .i64 a0_0) := (blk_cell BK223.out 0).trans rfl
            have hcz24_1 : wc.cell? ⟨gb223, 1, none⟩ = some (.int .i64 a0_1) := (blk_cell BK223.out 1).trans rfl
            have hcz24_2 : wc.cell? ⟨gb223, 2, none⟩ = some (.int .i64 a0_2) := (blk_cell BK223.out 2).trans rfl
            have hcz24_3 : wc.cell? ⟨gb223, 3, none⟩ = some (.int .i64 a0_3) := (blk_cell BK223.out 3).trans rfl
            have hcz24_4 : wc.cell? ⟨gb223, 4, none⟩ = some (.int .i64 a0_4) := (blk_cell BK223.out 4).trans rfl
            have hcz24_5 : wc.cell? ⟨gb223, 5, none⟩ = some (.int .i64 a0_5) := (blk_cell BK223.out 5).trans rfl
            have hcz24_6 : wc.cell? ⟨gb223, 6, none⟩ = some (.bool a0_6) := (blk_cell BK223.out 6).trans rfl
            have hcz24_7 : wc.cell? ⟨gb223, 7, none⟩ = some (.bool a0_7) := (blk_cell BK223.out 7).trans rfl
            have hfz24_0 := blk_frozen BK223.out 0
            have hfz24_1 := blk_frozen BK223.out 1
            have hfz24_2 := blk_frozen BK223.out 2
            have hfz24_3 := blk_frozen BK223.out 3
            have hfz24_4 := blk_frozen BK223.out 4
            have hfz24_5 := blk_frozen BK223.out 5
            have hfz24_6 := blk_frozen BK223.out 6
            have hfz24_7 := blk_frozen BK223.out 7
            go_wp2
            go_meet
            case rel => exact ⟨_, (true), (by first | rfl | (simp; done) | (simp [*]; done)), H', ⟨by have := HJ1.out; first | omega | exact Nat.le_refl _⟩, ⟨by (with_reducible repeat (first | refine blk_drewN ?_ _ | refine blk_drew ?_ | refine blk_alloc ?_ _)); exact BK223.out⟩, ⟨by repeat (first | (with_reducible first | exact HB.out | apply below_alloc | apply pw_below_drewN | apply below_drew1 | refine below_set ?_ GE223.out) | exact HB.out)⟩⟩
           ·rw [if_neg c23] at H
            have c23b0 : decide (a0_5 < 0) = false := decide_eq_false c23
            clear c23; have H' := Aside0.mk H
            clear H; have hcz25_0 : wc.cell? ⟨gb223, 0, none⟩ = some (.int .i64 a0_0) := (blk_cell BK223.out 0).trans rfl
            have hcz25_1 : wc.cell? ⟨gb223, 1, none⟩ = some (.int .i64 a0_1) := (blk_cell BK223.out 1).trans rfl
            have hcz25_2 : wc.cell? ⟨gb223, 2, none⟩ = some (.int .i64 a0_2) := (blk_cell BK223.out 2).trans rfl
            have hcz25_3 : wc.cell? ⟨gb223, 3, none⟩ = some (.int .i64 a0_3) := (blk_cell BK223.out 3).trans rfl
            have hcz25_4 : wc.cell? ⟨gb223, 4, none⟩ = some (.int .i64 a0_4) := (blk_cell BK223.out 4).trans rfl
            have hcz25_5 : wc.cell? ⟨gb223, 5, none⟩ = some (.int .i64 a0_5) := (blk_cell BK223.out 5).trans rfl
            have hcz25_6 : wc.cell? ⟨gb223, 6, none⟩ = some (.bool a0_6) := (blk_cell BK223.out 6).trans rfl
            have hcz25_7 : wc.cell? ⟨gb223, 7, none⟩ = some (.bool a0_7) := (blk_cell BK223.out 7).trans rfl
            have hfz25_0 := blk_frozen BK223.out 0
            have hfz25_1 := blk_frozen BK223.out 1
            have hfz25_2 := blk_frozen BK223.out 2
            have hfz25_3 := blk_frozen BK223.out 3
            have hfz25_4 := blk_frozen BK223.out 4
            have hfz25_5 := blk_frozen BK223.out 5
            have hfz25_6 := blk_frozen BK223.out 6
            have hfz25_7 := blk_frozen BK223.out 7
            go_wp2
            go_meet
            case rel => exact ⟨_, (decide (a0_5 > 4095)), (by first | rfl | (simp; done) | (simp [*]; done)), H', ⟨by have := HJ1.out; first | omega | exact Nat.le_refl _⟩, ⟨by (with_reducible repeat (first | refine blk_drewN ?_ _ | refine blk_drew ?_ | refine blk_alloc ?_ _)); exact BK223.out⟩, ⟨by repeat (first | (with_reducible first | exact HB.out | apply below_alloc | apply pw_below_drewN | apply below_drew1 | refine below_set ?_ GE223.out) | exact HB.out)⟩⟩
    case rest =>
     clear HC10; obtain ⟨kq, x61_9, rfl, HA, HJ9, BK223, HB⟩ := hcut
     cases kq with
     | zero => exact absurd HA.out (by simp [decode_Encode.j1])
     | succ kj9 =>
      have H := HA.out; clear HA; simp only [decode_Encode.j1] at H
      by_cases c26 : x61_9 = true
      ·subst c26
       have H1 : (some (0, 80)) = some (r1, r2) := by rw [if_pos rfl] at H; exact H
       clear H; have H := H1; clear H1; simp only [Option.some.injEq, Prod.mk.injEq] at H
       obtain ⟨rfl, rfl⟩ := H
       go_wp2
       go_ret2
       exact ⟨by first | rfl | (simp [errW_none, errW_some] <;> rfl) | (simp [*, errW_none, errW_some] <;> rfl), by repeat (first | (with_reducible first | exact HB.out | apply below_alloc | apply pw_below_drewN | apply below_drew1 | refine below_set ?_ GE223.out) | exact HB.out)⟩
      ·replace c26 := Bool.eq_false_iff.mpr c26
       subst c26; have H1 : ((decode_rows.f).bind fun t225 => (if 0 ≤ (wrap64 (a0_0 - 1)) then (if (wrap64 (a0_0 - 1)) < 113 then ((decode_parts.f kj9 ((rowAt (wrap64 (a0_0 - 1))).2.2.2)).bind fun bt227 => (if bt227.2.2.2.1 = true then (decode_Encode.j2 kj9 (Go.bits .or .u32 (Go.bits .or .u32 (Go.bits .or .u32 (Go.bits .or .u32 ((rowAt (wrap64 (a0_0 - 1))).2.2.1) ((((a0_1) % 4294967296) * 128) % 4294967296)) ((((a0_2) % 4294967296) * 32768) % 4294967296)) ((((a0_3) % 4294967296) * 1048576) % 4294967296)) ((((a0_5) % 4294967296) * 1048576) % 4294967296)) bt227.2.2.2.2 a0_0 a0_1 a0_2 a0_3 a0_4 a0_5 a0_6 a0_7 ((rowAt (wrap64 (a0_0 - 1))).1) ((rowAt (wrap64 (a0_0 - 1))).2.1) ((rowAt (wrap64 (a0_0 - 1))).2.2.1) ((rowAt (wrap64 (a0_0 - 1))).2.2.2)) else (decode_Encode.j2 kj9 (Go.bits .or .u32 (Go.bits .or .u32 (Go.bits .or .u32 ((rowAt (wrap64 (a0_0 - 1))).2.2.1) ((((a0_1) % 4294967296) * 128) % 4294967296)) ((((a0_2) % 4294967296) * 32768) % 4294967296)) ((((a0_3) % 4294967296) * 1048576) % 4294967296)) bt227.2.2.2.2 a0_0 a0_1 a0_2 a0_3 a0_4 a0_5 a0_6 a0_7 ((rowAt (wrap64 (a0_0 - 1))).1) ((rowAt (wrap64 (a0_0 - 1))).2.1) ((rowAt (wrap64 (a0_0 - 1))).2.2.1) ((rowAt (wrap64 (a0_0 - 1))).2.2.2)))) else (none)) else (none))) = some (r1, r2) := by rw [if_neg (show ¬ (false = true) by decide)] at H; exact H
       clear H; have H := H1; clear H1; replace H := Option.bind_eq_some_iff.mp H
       obtain ⟨t225, A270, H⟩ := H
       replace H : (if 0 ≤ (wrap64 (a0_0 - 1)) then (if (wrap64 (a0_0 - 1)) < 113 then ((decode_parts.f kj9 ((rowAt (wrap64 (a0_0 - 1))).2.2.2)).bind fun bt227 => (if bt227.2.2.2.1 = true then (decode_Encode.j2 kj9 (Go.bits .or .u32 (Go.bits .or .u32 (Go.bits .or .u32 (Go.bits .or .u32 ((rowAt (wrap64 (a0_0 - 1))).2.2.1) ((((a0_1) % 4294967296) * 128) % 4294967296)) ((((a0_2) % 4294967296) * 32768) % 4294967296)) ((((a0_3) % 4294967296) * 1048576) % 4294967296)) ((((a0_5) % 4294967296) * 1048576) % 4294967296)) bt227.2.2.2.2 a0_0 a0_1 a0_2 a0_3 a0_4 a0_5 a0_6 a0_7 ((rowAt (wrap64 (a0_0 - 1))).1) ((rowAt (wrap64 (a0_0 - 1))).2.1) ((rowAt (wrap64 (a0_0 - 1))).2.2.1) ((rowAt (wrap64 (a0_0 - 1))).2.2.2)) else (decode_Encode.j2 kj9 (Go.bits .or .u32 (Go.bits .or .u32 (Go.bits .or .u32 ((rowAt (wrap64 (a0_0 - 1))).2.2.1) ((((a0_1) % 4294967296) * 128) % 4294967296)) ((((a0_2) % 4294967296) * 32768) % 4294967296)) ((((a0_3) % 4294967296) * 1048576) % 4294967296)) bt227.2.2.2.2 a0_0 a0_1 a0_2 a0_3 a0_4 a0_5 a0_6 a0_7 ((rowAt (wrap64 (a0_0 - 1))).1) ((rowAt (wrap64 (a0_0 - 1))).2.1) ((rowAt (wrap64 (a0_0 - 1))).2.2.1) ((rowAt (wrap64 (a0_0 - 1))).2.2.2)))) else (none)) else (none)) = some (r1, r2) := H
       have A27 := Aside0.mk A270
       clear A270; obtain ⟨ji28, hji28⟩ : ∃ j_ : Int, (wrap64 (a0_0 - 1)) = j_ := ⟨_, rfl⟩
       replace H : (if 0 ≤ (ji28) then (if (ji28) < 113 then ((decode_parts.f kj9 ((rowAt (ji28)).2.2.2)).bind fun bt227 => (if bt227.2.2.2.1 = true then (decode_Encode.j2 kj9 (Go.bits .or .u32 (Go.bits .or .u32 (Go.bits .or .u32 (Go.bits .or .u32 ((rowAt (ji28)).2.2.1) ((((a0_1) % 4294967296) * 128) % 4294967296)) ((((a0_2) % 4294967296) * 32768) % 4294967296)) ((((a0_3) % 4294967296) * 1048576) % 4294967296)) ((((a0_5) % 4294967296) * 1048576) % 4294967296)) bt227.2.2.2.2 a0_0 a0_1 a0_2 a0_3 a0_4 a0_5 a0_6 a0_7 ((rowAt (ji28)).1) ((rowAt (ji28)).2.1) ((rowAt (ji28)).2.2.1) ((rowAt (ji28)).2.2.2)) else (decode_Encode.j2 kj9 (Go.bits .or .u32 (Go.bits .or .u32 (Go.bits .or .u32 ((rowAt (ji28)).2.2.1) ((((a0_1) % 4294967296) * 128) % 4294967296)) ((((a0_2) % 4294967296) * 32768) % 4294967296)) ((((a0_3) % 4294967296) * 1048576) % 4294967296)) bt227.2.2.2.2 a0_0 a0_1 a0_2 a0_3 a0_4 a0_5 a0_6 a0_7 ((rowAt (ji28)).1) ((rowAt (ji28)).2.1) ((rowAt (ji28)).2.2.1) ((rowAt (ji28)).2.2.2)))) else (none)) else (none)) = some (r1, r2) := by first | (rw [hji28] at H; exact H) | (simp only [hji28] at H ⊢; exact H)
       (try rw [hji28] at A27)
       have hji28w : (IntKind.i64.wrap (a0_0 - 1)) = ji28 := (i64_w _).trans hji28
       by_cases c29 : 0 ≤ (ji28)
       ·rw [if_pos c29] at H
        have c29b0 : decide (0 ≤ (ji28)) = true := decide_eq_true c29
        clear c29; by_cases c30 : (ji28) < 113
        ·rw [if_pos c30] at H
         have c30b0 : decide ((ji28) < 113) = true := decide_eq_true c30
         clear c30; have hxtq31 := run_rowAt (ji28) (of_decide_eq_true (by first | (with_reducible assumption) | assumption)) (of_decide_eq_true (by first | (with_reducible assumption) | assumption))
         replace H := Option.bind_eq_some_iff.mp H
         obtain ⟨⟨t227, t228, t229, t230, t231⟩, A320, H⟩ := H
         replace H : (if t230 = true then (decode_Encode.j2 kj9 (Go.bits .or .u32 (Go.bits .or .u32 (Go.bits .or .u32 (Go.bits .or .u32 ((rowAt (ji28)).2.2.1) ((((a0_1) % 4294967296) * 128) % 4294967296)) ((((a0_2) % 4294967296) * 32768) % 4294967296)) ((((a0_3) % 4294967296) * 1048576) % 4294967296)) ((((a0_5) % 4294967296) * 1048576) % 4294967296)) t231 a0_0 a0_1 a0_2 a0_3 a0_4 a0_5 a0_6 a0_7 ((rowAt (ji28)).1) ((rowAt (ji28)).2.1) ((rowAt (ji28)).2.2.1) ((rowAt (ji28)).2.2.2)) else (decode_Encode.j2 kj9 (Go.bits .or .u32 (Go.bits .or .u32 (Go.bits .or .u32 ((rowAt (ji28)).2.2.1) ((((a0_1) % 4294967296) * 128) % 4294967296)) ((((a0_2) % 4294967296) * 32768) % 4294967296)) ((((a0_3) % 4294967296) * 1048576) % 4294967296)) t231 a0_0 a0_1 a0_2 a0_3 a0_4 a0_5 a0_6 a0_7 ((rowAt (ji28)).1) ((rowAt (ji28)).2.1) ((rowAt (ji28)).2.2.1) ((rowAt (ji28)).2.2.2))) = some (r1, r2) := H
         have A32 := Aside0.mk A320
         clear A320; have HC33 := Aside0.mk H
         clear H; try go_wp2
         have n0_ := Aside0.mk (blk_drew BK223.out)
         have n1_ := Aside0.mk (below_drew1 HB.out)
         clear BK223 HB; have BK223 := n0_; have HB := n1_; clear n0_ n1_; refine start_ (n := 7) (S := fun w' => w'.cell? ⟨gb223, 0, none⟩ = some (.int .i64 a0_0) ∧ w'.cell? ⟨gb223, 1, none⟩ = some (.int .i64 a0_1) ∧ w'.cell? ⟨gb223, 2, none⟩ = some (.int .i64 a0_2) ∧ w'.cell? ⟨gb223, 3, none⟩ = some (.int .i64 a0_3) ∧ w'.cell? ⟨gb223, 4, none⟩ = some (.int .i64 a0_4) ∧ w'.cell? ⟨gb223, 5, none⟩ = some (.int .i64 a0_5) ∧ w'.cell? ⟨gb223, 6, none⟩ = some (.bool a0_6) ∧ w'.cell? ⟨gb223, 7, none⟩ = some (.bool a0_7)) (ds := []) #[false, false, false, false, false, false, false] (by kernel_rfl) rfl rfl ⟨(blk_cell BK223.out 0).trans rfl, (blk_cell BK223.out 1).trans rfl, (blk_cell BK223.out 2).trans rfl, (blk_cell BK223.out 3).trans rfl, (blk_cell BK223.out 4).trans rfl, (blk_cell BK223.out 5).trans rfl, (blk_cell BK223.out 6).trans rfl, (blk_cell BK223.out 7).trans rfl⟩ (fun hHeld => ?_)
         generalize wc.drew = w34 at BK223 HB hHeld ⊢
         refine pure_ (i := 1) (N := some 63) (v := ?_) (a' := ?_) #[false, true, false, false, false, false, false] rfl rfl (by kernel_rfl) (fun _ _ _ h => h) (Or.inl ⟨by rfl, ?_⟩) ?_ ?_
         rotate_left
         ·intro w'
          go_simp; with_reducible rfl
         rotate_left
         ·simp only [Act.put, List.setIfInBounds_toArray, List.set_cons_zero, List.set_cons_succ, i64_w, i32_w]
          rfl
         refine take_ (i := 2) (N := some 64) (v := ?_) (a' := ?_) #[false, true, true, false, false, false, false] rfl rfl (by kernel_rfl) (fun _ _ _ h => h) (Or.inl ⟨by rfl, ?_⟩) hHeld ?_ ?_
         rotate_left
         ·rintro w' ⟨s0, s1, s2, s3, s4, s5, s6, s7⟩
          go_simp; with_reducible rfl
         rotate_left
         ·simp only [Act.put, List.setIfInBounds_toArray, List.set_cons_zero, List.set_cons_succ, i64_w, i32_w]
          rfl
         refine pure_ (i := 3) (N := some 65) (v := ?_) (a' := ?_) #[false, true, true, true, false, false, false] rfl rfl (by kernel_rfl) (fun _ _ _ h => h) (Or.inl ⟨by rfl, ?_⟩) ?_ ?_
         rotate_left
         ·intro w'
          go_simp; with_reducible rfl
         rotate_left
         ·simp only [Act.put, List.setIfInBounds_toArray, List.set_cons_zero, List.set_cons_succ, i64_w, i32_w]
          rfl
         refine join_ (σ := Nat) 1 #[true, true, true, true, true, true, false] (fun s_ => [(62, .agg cellsP), (4, .pointer (some ⟨s_, 0, none⟩)), (66, .agg #[.string ((rowAt (ji28)).1), .int .u32 ((rowAt (ji28)).2.1), .int .u32 ((rowAt (ji28)).2.2.1), .int .i64 ((rowAt (ji28)).2.2.2)])]) (fun s_ w' => (w'.cell? ⟨gb223, 0, none⟩ = some (.int .i64 a0_0) ∧ w'.cell? ⟨gb223, 1, none⟩ = some (.int .i64 a0_1) ∧ w'.cell? ⟨gb223, 2, none⟩ = some (.int .i64 a0_2) ∧ w'.cell? ⟨gb223, 3, none⟩ = some (.int .i64 a0_3) ∧ w'.cell? ⟨gb223, 4, none⟩ = some (.int .i64 a0_4) ∧ w'.cell? ⟨gb223, 5, none⟩ = some (.int .i64 a0_5) ∧ w'.cell? ⟨gb223, 6, none⟩ = some (.bool a0_6) ∧ w'.cell? ⟨gb223, 7, none⟩ = some (.bool a0_7)) ∧ (w'.heap[gb223]? = some (.cells #[.int .i64 a0_0, .int .i64 a0_1, .int .i64 a0_2, .int .i64 a0_3, .int .i64 a0_4, .int .i64 a0_5, .bool a0_6, .bool a0_7] 23 (0, 0))) ∧ (w'.heap[s_]? = some (.cells #[.string (⟨#[]⟩ : ByteArray), .int .u32 0, .int .u32 0, .int .i64 0] 106 (0, 0))) ∧ (w.heap.size ≤ s_) ∧ (w.heap.size ≤ s_) ∧ (gb223 ≠ s_) ∧ (s_ ≠ gb223) ∧ (Below w.heap.size w w')) ?_ ?_
         rotate_left
         ·intro hCont
          refine two_ (i := 0) (j := 5) (Ni := some 62) (Nj := some 4) #[true, true, true, true, false, false, false] #[false, true, true, true, false, true, false] rfl rfl rfl rfl (by kernel_rfl) (by decide) (by decide) (fun K hK => ?_) (fun K hK => ?_)
          ·skip
           refine goes_ Tryz.func67 (by kernel_rfl) rfl #[] (by rfl) rfl rfl (by (try simp only [List.map_toArray, List.map_cons, List.map_nil]); first | done | rfl | (simp only [List.length_drop, List.length_take]; rfl)) ?_
           with_reducible refine (decode_rows.calls  t225 _ A27.out).mono ?_
           rintro e w35 ⟨rfl, hb⟩
           refine ⟨_, rfl, ?_⟩
           have n0_ := Aside0.mk (blk_below (g := gb223) (o := .cells #[.int .i64 a0_0, .int .i64 a0_1, .int .i64 a0_2, .int .i64 a0_3, .int .i64 a0_4, .int .i64 a0_5, .bool a0_6, .bool a0_7] 23 (0, 0)) (by (with_reducible repeat (first | refine blk_drewN ?_ _ | refine blk_drew ?_ | refine blk_alloc ?_ _)); exact BK223.out) hb)
           have n1_ := Aside0.mk (below_step (by repeat (first | (with_reducible first | exact HB.out | apply below_alloc | apply pw_below_drewN | apply below_drew1 | refine below_set ?_ GE223.out) | exact HB.out)) hb)
           clear BK223 HB; have BK223 := n0_; have HB := n1_; clear n0_ n1_ hb; refine hK.out _ _ ⟨(blk_cell BK223.out 0).trans rfl, (blk_cell BK223.out 1).trans rfl, (blk_cell BK223.out 2).trans rfl, (blk_cell BK223.out 3).trans rfl, (blk_cell BK223.out 4).trans rfl, (blk_cell BK223.out 5).trans rfl, (blk_cell BK223.out 6).trans rfl, (blk_cell BK223.out 7).trans rfl⟩ (fun hHeld => ?_)
           clear hK K; refine norm_ (a' := ?_) ?_ ?_
           rotate_left
           ·show Act.put _ (some 62) _ = _
            simp only [Act.put, List.setIfInBounds_toArray, List.set_cons_zero, List.set_cons_succ, i64_w, i32_w]
            rfl
           refine take_ (i := 4) (N := some 66) (v := ?_) (a' := ?_) #[true, true, true, true, true, false, false] rfl rfl (by kernel_rfl) (fun _ _ _ h => h) (Or.inl ⟨by rfl, ?_⟩) hHeld ?_ ?_
           rotate_left
           ·rintro w' ⟨s0, s1, s2, s3, s4, s5, s6, s7⟩
            go_simp; with_reducible rfl
           rotate_left
           ·simp only [Act.put, List.setIfInBounds_toArray, List.set_cons_zero, List.set_cons_succ, i64_w, i32_w]
            rfl
           refine one_ (i := 5) (N := some 4) #[true, true, true, true, true, true, false] rfl rfl (by kernel_rfl) (by decide) (fun K hK => ?_)
           refine box_step ?hg (N := 4) ?hd (cs := #[.string (⟨#[]⟩ : ByteArray), .int .u32 0, .int .u32 0, .int .i64 0]) (t := 106) ?hr ?_; (case hd => rfl); (case hg => rfl); (case hr => first | (go_simp; done) | (go_simp; rfl))
           intro gb226 hg w36 hbox hb
           have n0_ := Aside0.mk (blk_below (g := gb223) (o := .cells #[.int .i64 a0_0, .int .i64 a0_1, .int .i64 a0_2, .int .i64 a0_3, .int .i64 a0_4, .int .i64 a0_5, .bool a0_6, .bool a0_7] 23 (0, 0)) (by (with_reducible repeat (first | refine blk_drewN ?_ _ | refine blk_drew ?_ | refine blk_alloc ?_ _)); exact BK223.out) hb)
           have n1_ := Aside0.mk (below_step (by repeat (first | (with_reducible first | exact HB.out | apply below_alloc | apply pw_below_drewN | apply below_drew1 | refine below_set ?_ GE223.out) | exact HB.out)) hb)
           have n2_ := Aside0.mk (hbox)
           have n3_ := Aside0.mk ((by rw [hg]; exact (below_size (by repeat (first | (with_reducible first | exact HB.out | apply below_alloc | apply pw_below_drewN | apply below_drew1 | refine below_set ?_ GE223.out) | exact HB.out))) : w.heap.size ≤ gb226))
           have n4_ := Aside0.mk ((by rw [hg]; exact (below_size (by repeat (first | (with_reducible first | exact HB.out | apply below_alloc | apply pw_below_drewN | apply below_drew1 | refine below_set ?_ GE223.out) | exact HB.out))) : w.heap.size ≤ gb226))
           have n5_ := Aside0.mk ((by rw [hg]; exact Nat.ne_of_lt (blk_lt (g := gb223) (o := .cells #[.int .i64 a0_0, .int .i64 a0_1, .int .i64 a0_2, .int .i64 a0_3, .int .i64 a0_4, .int .i64 a0_5, .bool a0_6, .bool a0_7] 23 (0, 0)) (by (with_reducible repeat (first | refine blk_drewN ?_ _ | refine blk_drew ?_ | refine blk_alloc ?_ _)); exact BK223.out)) : gb223 ≠ gb226))
           have n6_ := Aside0.mk ((by rw [hg]; exact Nat.ne_of_gt (blk_lt (g := gb223) (o := .cells #[.int .i64 a0_0, .int .i64 a0_1, .int .i64 a0_2, .int .i64 a0_3, .int .i64 a0_4, .int .i64 a0_5, .bool a0_6, .bool a0_7] 23 (0, 0)) (by (with_reducible repeat (first | refine blk_drewN ?_ _ | refine blk_drew ?_ | refine blk_alloc ?_ _)); exact BK223.out)) : gb226 ≠ gb223))
           clear BK223 HB; have BK223 := n0_; have HB := n1_; have BK226 := n2_; have GW226 := n3_; have GE226 := n4_; have NB223_226 := n5_; have NB226_223 := n6_; clear n0_ n1_ n2_ n3_ n4_ n5_ n6_ hb hbox hg; refine hK.out _ _ ⟨(blk_cell BK223.out 0).trans rfl, (blk_cell BK223.out 1).trans rfl, (blk_cell BK223.out 2).trans rfl, (blk_cell BK223.out 3).trans rfl, (blk_cell BK223.out 4).trans rfl, (blk_cell BK223.out 5).trans rfl, (blk_cell BK223.out 6).trans rfl, (blk_cell BK223.out 7).trans rfl⟩ (fun hHeld => ?_)
           clear hK K; refine norm_ (a' := ?_) ?_ ?_
           rotate_left
           ·show Act.put _ (some 4) _ = _
            simp only [Act.put, List.setIfInBounds_toArray, List.set_cons_zero, List.set_cons_succ, i64_w, i32_w]
            rfl
           exact norm_ (by simp only [putAll, Act.put, List.setIfInBounds_toArray, List.set_cons_zero, List.set_cons_succ]) (hCont (gb226) _ ⟨hHeld, (by (with_reducible repeat (first | refine blk_drewN ?_ _ | refine blk_drew ?_ | refine blk_alloc ?_ _)); exact BK223.out), (by (with_reducible repeat (first | refine blk_drewN ?_ _ | refine blk_drew ?_ | refine blk_alloc ?_ _)); exact BK226.out), GW226.out, GE226.out, NB223_226.out, NB226_223.out, (by repeat (first | (with_reducible first | exact HB.out | apply below_alloc | apply pw_below_drewN | apply below_drew1 | refine below_set ?_ GE223.out | refine below_set ?_ GE226.out) | exact HB.out))⟩)
          ·skip
           refine box_step ?hg (N := 4) ?hd (cs := #[.string (⟨#[]⟩ : ByteArray), .int .u32 0, .int .u32 0, .int .i64 0]) (t := 106) ?hr ?_; (case hd => rfl); (case hg => rfl); (case hr => first | (go_simp; done) | (go_simp; rfl))
           intro gb226 hg w35 hbox hb
           have n0_ := Aside0.mk (blk_below (g := gb223) (o := .cells #[.int .i64 a0_0, .int .i64 a0_1, .int .i64 a0_2, .int .i64 a0_3, .int .i64 a0_4, .int .i64 a0_5, .bool a0_6, .bool a0_7] 23 (0, 0)) (by (with_reducible repeat (first | refine blk_drewN ?_ _ | refine blk_drew ?_ | refine blk_alloc ?_ _)); exact BK223.out) hb)
           have n1_ := Aside0.mk (below_step (by repeat (first | (with_reducible first | exact HB.out | apply below_alloc | apply pw_below_drewN | apply below_drew1 | refine below_set ?_ GE223.out) | exact HB.out)) hb)
           have n2_ := Aside0.mk (hbox)
           have n3_ := Aside0.mk ((by rw [hg]; exact (below_size (by repeat (first | (with_reducible first | exact HB.out | apply below_alloc | apply pw_below_drewN | apply below_drew1 | refine below_set ?_ GE223.out) | exact HB.out))) : w.heap.size ≤ gb226))
           have n4_ := Aside0.mk ((by rw [hg]; exact (below_size (by repeat (first | (with_reducible first | exact HB.out | apply below_alloc | apply pw_below_drewN | apply below_drew1 | refine below_set ?_ GE223.out) | exact HB.out))) : w.heap.size ≤ gb226))
           have n5_ := Aside0.mk ((by rw [hg]; exact Nat.ne_of_lt (blk_lt (g := gb223) (o := .cells #[.int .i64 a0_0, .int .i64 a0_1, .int .i64 a0_2, .int .i64 a0_3, .int .i64 a0_4, .int .i64 a0_5, .bool a0_6, .bool a0_7] 23 (0, 0)) (by (with_reducible repeat (first | refine blk_drewN ?_ _ | refine blk_drew ?_ | refine blk_alloc ?_ _)); exact BK223.out)) : gb223 ≠ gb226))
           have n6_ := Aside0.mk ((by rw [hg]; exact Nat.ne_of_gt (blk_lt (g := gb223) (o := .cells #[.int .i64 a0_0, .int .i64 a0_1, .int .i64 a0_2, .int .i64 a0_3, .int .i64 a0_4, .int .i64 a0_5, .bool a0_6, .bool a0_7] 23 (0, 0)) (by (with_reducible repeat (first | refine blk_drewN ?_ _ | refine blk_drew ?_ | refine blk_alloc ?_ _)); exact BK223.out)) : gb226 ≠ gb223))
           clear BK223 HB; have BK223 := n0_; have HB := n1_; have BK226 := n2_; have GW226 := n3_; have GE226 := n4_; have NB223_226 := n5_; have NB226_223 := n6_; clear n0_ n1_ n2_ n3_ n4_ n5_ n6_ hb hbox hg; refine hK.out _ _ ⟨(blk_cell BK223.out 0).trans rfl, (blk_cell BK223.out 1).trans rfl, (blk_cell BK223.out 2).trans rfl, (blk_cell BK223.out 3).trans rfl, (blk_cell BK223.out 4).trans rfl, (blk_cell BK223.out 5).trans rfl, (blk_cell BK223.out 6).trans rfl, (blk_cell BK223.out 7).trans rfl⟩ (fun hHeld => ?_)
           clear hK K; refine norm_ (a' := ?_) ?_ ?_
           rotate_left
           ·show Act.put _ (some 4) _ = _
            simp only [Act.put, List.setIfInBounds_toArray, List.set_cons_zero, List.set_cons_succ, i64_w, i32_w]
            rfl
           refine one_ (i := 0) (N := some 62) #[true, true, true, true, false, true, false] rfl rfl (by kernel_rfl) (by decide) (fun K hK => ?_)
           refine goes_ Tryz.func67 (by kernel_rfl) rfl #[] (by rfl) rfl rfl (by (try simp only [List.map_toArray, List.map_cons, List.map_nil]); first | done | rfl | (simp only [List.length_drop, List.length_take]; rfl)) ?_
           with_reducible refine (decode_rows.calls  t225 _ A27.out).mono ?_
           rintro e w36 ⟨rfl, hb⟩
           refine ⟨_, rfl, ?_⟩
           have n0_ := Aside0.mk (blk_below (g := gb223) (o := .cells #[.int .i64 a0_0, .int .i64 a0_1, .int .i64 a0_2, .int .i64 a0_3, .int .i64 a0_4, .int .i64 a0_5, .bool a0_6, .bool a0_7] 23 (0, 0)) (by (with_reducible repeat (first | refine blk_drewN ?_ _ | refine blk_drew ?_ | refine blk_alloc ?_ _)); exact BK223.out) hb)
           have n1_ := Aside0.mk (blk_below (g := gb226) (o := .cells #[.string (⟨#[]⟩ : ByteArray), .int .u32 0, .int .u32 0, .int .i64 0] 106 (0, 0)) (by (with_reducible repeat (first | refine blk_drewN ?_ _ | refine blk_drew ?_ | refine blk_alloc ?_ _)); exact BK226.out) hb)
           have n2_ := Aside0.mk (below_step (by repeat (first | (with_reducible first | exact HB.out | apply below_alloc | apply pw_below_drewN | apply below_drew1 | refine below_set ?_ GE223.out | refine below_set ?_ GE226.out) | exact HB.out)) hb)
           clear BK223 BK226 HB; have BK223 := n0_; have BK226 := n1_; have HB := n2_; clear n0_ n1_ n2_ hb; refine hK.out _ _ ⟨(blk_cell BK223.out 0).trans rfl, (blk_cell BK223.out 1).trans rfl, (blk_cell BK223.out 2).trans rfl, (blk_cell BK223.out 3).trans rfl, (blk_cell BK223.out 4).trans rfl, (blk_cell BK223.out 5).trans rfl, (blk_cell BK223.out 6).trans rfl, (blk_cell BK223.out 7).trans rfl⟩ (fun hHeld => ?_)
           clear hK K; refine norm_ (a' := ?_) ?_ ?_
           rotate_left
           ·show Act.put _ (some 62) _ = _
            simp only [Act.put, List.setIfInBounds_toArray, List.set_cons_zero, List.set_cons_succ, i64_w, i32_w]
            rfl
           refine take_ (i := 4) (N := some 66) (v := ?_) (a' := ?_) #[true, true, true, true, true, true, false] rfl rfl (by kernel_rfl) (fun _ _ _ h => h) (Or.inl ⟨by rfl, ?_⟩) hHeld ?_ ?_
           rotate_left
           ·rintro w' ⟨s0, s1, s2, s3, s4, s5, s6, s7⟩
            go_simp; with_reducible rfl
           rotate_left
           ·simp only [Act.put, List.setIfInBounds_toArray, List.set_cons_zero, List.set_cons_succ, i64_w, i32_w]
            rfl
           exact norm_ (by simp only [putAll, Act.put, List.setIfInBounds_toArray, List.set_cons_zero, List.set_cons_succ]) (hCont (gb226) _ ⟨hHeld, (by (with_reducible repeat (first | refine blk_drewN ?_ _ | refine blk_drew ?_ | refine blk_alloc ?_ _)); exact BK223.out), (by (with_reducible repeat (first | refine blk_drewN ?_ _ | refine blk_drew ?_ | refine blk_alloc ?_ _)); exact BK226.out), GW226.out, GE226.out, NB223_226.out, NB226_223.out, (by repeat (first | (with_reducible first | exact HB.out | apply below_alloc | apply pw_below_drewN | apply below_drew1 | refine below_set ?_ GE223.out | refine below_set ?_ GE226.out) | exact HB.out))⟩)
         rintro gb226 w37 ⟨hS_, h0_, h1_, h2_, h3_, h4_, h5_, h6_⟩
         have n0_ : Aside0 (w37.heap[gb223]? = some (.cells #[.int .i64 a0_0, .int .i64 a0_1, .int .i64 a0_2, .int .i64 a0_3, .int .i64 a0_4, .int .i64 a0_5, .bool a0_6, .bool a0_7] 23 (0, 0))) := ⟨h0_⟩
         have n1_ : Aside0 (w37.heap[gb226]? = some (.cells #[.string (⟨#[]⟩ : ByteArray), .int .u32 0, .int .u32 0, .int .i64 0] 106 (0, 0))) := ⟨h1_⟩
         have n2_ : Aside0 (w.heap.size ≤ gb226) := ⟨h2_⟩
         have n3_ : Aside0 (w.heap.size ≤ gb226) := ⟨h3_⟩
         have n4_ : Aside0 (gb223 ≠ gb226) := ⟨h4_⟩
         have n5_ : Aside0 (gb226 ≠ gb223) := ⟨h5_⟩
         have n6_ : Aside0 (Below w.heap.size w w37) := ⟨h6_⟩
         clear BK223 HB h0_ h1_ h2_ h3_ h4_ h5_ h6_; have BK223 := n0_; have BK226 := n1_; have GW226 := n2_; have GE226 := n3_; have NB223_226 := n4_; have NB226_223 := n5_; have HB := n6_; clear n0_ n1_ n2_ n3_ n4_ n5_ n6_; have hHeld : w37.cell? ⟨gb223, 0, none⟩ = some (.int .i64 a0_0) ∧ w37.cell? ⟨gb223, 1, none⟩ = some (.int .i64 a0_1) ∧ w37.cell? ⟨gb223, 2, none⟩ = some (.int .i64 a0_2) ∧ w37.cell? ⟨gb223, 3, none⟩ = some (.int .i64 a0_3) ∧ w37.cell? ⟨gb223, 4, none⟩ = some (.int .i64 a0_4) ∧ w37.cell? ⟨gb223, 5, none⟩ = some (.int .i64 a0_5) ∧ w37.cell? ⟨gb223, 6, none⟩ = some (.bool a0_6) ∧ w37.cell? ⟨gb223, 7, none⟩ = some (.bool a0_7) := hS_
         refine norm_ (a' := ?_) ?_ ?_
         rotate_left
         ·simp only [putAll, Act.put, List.setIfInBounds_toArray, List.set_cons_zero, List.set_cons_succ]
          rfl
         refine one_ (i := 6) (N := none) #[true, true, true, true, true, true, true] rfl rfl (by kernel_rfl) (by decide) (fun K hK => ?_)
         have hs38 : w37.cell? ⟨gb226, 0, none⟩ = some (.string (⟨#[]⟩ : ByteArray)) := (blk_cell BK226.out 0).trans rfl
         have hfs38 := blk_frozen BK226.out 0
         have hns38_0 := NB223_226.out; have hms38_0 := NB226_223.out; have hs39 : w37.cell? ⟨gb226, 1, none⟩ = some (.int .u32 0) := (blk_cell BK226.out 1).trans rfl
         have hfs39 := blk_frozen BK226.out 1
         have hns39_0 := NB223_226.out; have hms39_0 := NB226_223.out; have hs40 : w37.cell? ⟨gb226, 2, none⟩ = some (.int .u32 0) := (blk_cell BK226.out 2).trans rfl
         have hfs40 := blk_frozen BK226.out 2
         have hns40_0 := NB223_226.out; have hms40_0 := NB226_223.out; have hs41 : w37.cell? ⟨gb226, 3, none⟩ = some (.int .i64 0) := (blk_cell BK226.out 3).trans rfl
         have hfs41 := blk_frozen BK226.out 3
         have hns41_0 := NB223_226.out; have hms41_0 := NB226_223.out; refine skip_ (w1 := ?_) (by rfl) rfl ?_ ?_
         rotate_left
         ·go_simp
          rfl
         refine hK.out _ _ ⟨((cell_far (p := ⟨gb226, _, none⟩) NB223_226.out _).trans (((cell_far (p := ⟨gb226, _, none⟩) NB223_226.out _).trans (((cell_far (p := ⟨gb226, _, none⟩) NB223_226.out _).trans (((cell_far (p := ⟨gb226, _, none⟩) NB223_226.out _).trans (hHeld.1)))))))), ((cell_far (p := ⟨gb226, _, none⟩) NB223_226.out _).trans (((cell_far (p := ⟨gb226, _, none⟩) NB223_226.out _).trans (((cell_far (p := ⟨gb226, _, none⟩) NB223_226.out _).trans (((cell_far (p := ⟨gb226, _, none⟩) NB223_226.out _).trans (hHeld.2.1)))))))), ((cell_far (p := ⟨gb226, _, none⟩) NB223_226.out _).trans (((cell_far (p := ⟨gb226, _, none⟩) NB223_226.out _).trans (((cell_far (p := ⟨gb226, _, none⟩) NB223_226.out _).trans (((cell_far (p := ⟨gb226, _, none⟩) NB223_226.out _).trans (hHeld.2.2.1)))))))), ((cell_far (p := ⟨gb226, _, none⟩) NB223_226.out _).trans (((cell_far (p := ⟨gb226, _, none⟩) NB223_226.out _).trans (((cell_far (p := ⟨gb226, _, none⟩) NB223_226.out _).trans (((cell_far (p := ⟨gb226, _, none⟩) NB223_226.out _).trans (hHeld.2.2.2.1)))))))), ((cell_far (p := ⟨gb226, _, none⟩) NB223_226.out _).trans (((cell_far (p := ⟨gb226, _, none⟩) NB223_226.out _).trans (((cell_far (p := ⟨gb226, _, none⟩) NB223_226.out _).trans (((cell_far (p := ⟨gb226, _, none⟩) NB223_226.out _).trans (hHeld.2.2.2.2.1)))))))), ((cell_far (p := ⟨gb226, _, none⟩) NB223_226.out _).trans (((cell_far (p := ⟨gb226, _, none⟩) NB223_226.out _).trans (((cell_far (p := ⟨gb226, _, none⟩) NB223_226.out _).trans (((cell_far (p := ⟨gb226, _, none⟩) NB223_226.out _).trans (hHeld.2.2.2.2.2.1)))))))), ((cell_far (p := ⟨gb226, _, none⟩) NB223_226.out _).trans (((cell_far (p := ⟨gb226, _, none⟩) NB223_226.out _).trans (((cell_far (p := ⟨gb226, _, none⟩) NB223_226.out _).trans (((cell_far (p := ⟨gb226, _, none⟩) NB223_226.out _).trans (hHeld.2.2.2.2.2.2.1)))))))), ((cell_far (p := ⟨gb226, _, none⟩) NB223_226.out _).trans (((cell_far (p := ⟨gb226, _, none⟩) NB223_226.out _).trans (((cell_far (p := ⟨gb226, _, none⟩) NB223_226.out _).trans (((cell_far (p := ⟨gb226, _, none⟩) NB223_226.out _).trans (hHeld.2.2.2.2.2.2.2))))))))⟩ (fun hHeld => ?_)
         clear hK K; refine done_ (by kernel_rfl) ?_
         have hnb42 := NB226_223.out; have hnc42 := NB223_226.out; have hcz43_0 : w37.cell? ⟨gb226, 0, none⟩ = some (.string (⟨#[]⟩ : ByteArray)) := (blk_cell BK226.out 0).trans rfl
         have hcz43_1 : w37.cell? ⟨gb226, 1, none⟩ = some (.int .u32 0) := (blk_cell BK226.out 1).trans rfl
         have hcz43_2 : w37.cell? ⟨gb226, 2, none⟩ = some (.int .u32 0) := (blk_cell BK226.out 2).trans rfl
         have hcz43_3 : w37.cell? ⟨gb226, 3, none⟩ = some (.int .i64 0) := (blk_cell BK226.out 3).trans rfl
         have hfz43_0 := blk_frozen BK226.out 0
         have hfz43_1 := blk_frozen BK226.out 1
         have hfz43_2 := blk_frozen BK226.out 2
         have hfz43_3 := blk_frozen BK226.out 3
         have hcz44_0 : w37.cell? ⟨gb223, 0, none⟩ = some (.int .i64 a0_0) := (blk_cell BK223.out 0).trans rfl
         have hcz44_1 : w37.cell? ⟨gb223, 1, none⟩ = some (.int .i64 a0_1) := (blk_cell BK223.out 1).trans rfl
         have hcz44_2 : w37.cell? ⟨gb223, 2, none⟩ = some (.int .i64 a0_2) := (blk_cell BK223.out 2).trans rfl
         have hcz44_3 : w37.cell? ⟨gb223, 3, none⟩ = some (.int .i64 a0_3) := (blk_cell BK223.out 3).trans rfl
         have hcz44_4 : w37.cell? ⟨gb223, 4, none⟩ = some (.int .i64 a0_4) := (blk_cell BK223.out 4).trans rfl
         have hcz44_5 : w37.cell? ⟨gb223, 5, none⟩ = some (.int .i64 a0_5) := (blk_cell BK223.out 5).trans rfl
         have hcz44_6 : w37.cell? ⟨gb223, 6, none⟩ = some (.bool a0_6) := (blk_cell BK223.out 6).trans rfl
         have hcz44_7 : w37.cell? ⟨gb223, 7, none⟩ = some (.bool a0_7) := (blk_cell BK223.out 7).trans rfl
         have hfz44_0 := blk_frozen BK223.out 0
         have hfz44_1 := blk_frozen BK223.out 1
         have hfz44_2 := blk_frozen BK223.out 2
         have hfz44_3 := blk_frozen BK223.out 3
         have hfz44_4 := blk_frozen BK223.out 4
         have hfz44_5 := blk_frozen BK223.out 5
         have hfz44_6 := blk_frozen BK223.out 6
         have hfz44_7 := blk_frozen BK223.out 7
         go_upto_if 93 with (first | ((with_reducible refine gate_callee (f := 68) rfl ?_); refine goesL_ (some 87) rfl rfl Tryz.func68 (by kernel_rfl) rfl #[.int .i64 ((rowAt (ji28)).2.2.2)] rfl (by (try simp only [List.map_toArray, List.map_cons, List.map_nil]); first | done | (simp only [hji28]; rfl) | rfl | (simp only [List.length_drop, List.length_take]; rfl)) ?_; (with_reducible refine (decode_parts.calls kj9 ((rowAt (ji28)).2.2.2) t227 t228 t229 t230 t231 _ A32.out).mono ?_); rintro e w' ⟨rfl, ⟨nd, rfl⟩⟩; refine ⟨_, rfl, ?_⟩))
         (try simp only [Act.put, List.setIfInBounds_toArray, List.set_cons_zero, List.set_cons_succ])
         go_cut [5] (fun v5 wc => ∃ (kq : Nat) (x5_32 : Int), v5 = .int .u32 x5_32 ∧ Aside0 (decode_Encode.j2 kq x5_32 t231 a0_0 a0_1 a0_2 a0_3 a0_4 a0_5 a0_6 a0_7 ((rowAt (ji28)).1) ((rowAt (ji28)).2.1) ((rowAt (ji28)).2.2.1) ((rowAt (ji28)).2.2.2) = some (r1, r2)) ∧ Aside0 (kq ≤ kj9) ∧ Aside0 (wc.heap[gb223]? = some (.cells #[.int .i64 a0_0, .int .i64 a0_1, .int .i64 a0_2, .int .i64 a0_3, .int .i64 a0_4, .int .i64 a0_5, .bool a0_6, .bool a0_7] 23 (0, 0))) ∧ Aside0 (wc.heap[gb226]? = some (.cells #[.string ((rowAt (ji28)).1), .int .u32 ((rowAt (ji28)).2.1), .int .u32 ((rowAt (ji28)).2.2.1), .int .i64 ((rowAt (ji28)).2.2.2)] 106 (0, 0))) ∧ Aside0 (Below w.heap.size w wc))
         case first =>
          have H := HC33.out; clear HC33; by_cases c45 : t230 = true
          ·subst c45
           have H1 : (decode_Encode.j2 kj9 (Go.bits .or .u32 (Go.bits .or .u32 (Go.bits .or .u32 (Go.bits .or .u32 ((rowAt (ji28)).2.2.1) ((((a0_1) % 4294967296) * 128) % 4294967296)) ((((a0_2) % 4294967296) * 32768) % 4294967296)) ((((a0_3) % 4294967296) * 1048576) % 4294967296)) ((((a0_5) % 4294967296) * 1048576) % 4294967296)) t231 a0_0 a0_1 a0_2 a0_3 a0_4 a0_5 a0_6 a0_7 ((rowAt (ji28)).1) ((rowAt (ji28)).2.1) ((rowAt (ji28)).2.2.1) ((rowAt (ji28)).2.2.2)) = some (r1, r2) := by rw [if_pos rfl] at H; exact H
           clear H; have H := H1; clear H1; have H' := Aside0.mk H
           clear H; have hnb46 := NB223_226.out; have hnc46 := NB226_223.out; have hcz47_0 : w37.cell? ⟨gb223, 0, none⟩ = some (.int .i64 a0_0) := (blk_cell BK223.out 0).trans rfl
           have hcz47_1 : w37.cell? ⟨gb223, 1, none⟩ = some (.int .i64 a0_1) := (blk_cell BK223.out 1).trans rfl
           have hcz47_2 : w37.cell? ⟨gb223, 2, none⟩ = some (.int .i64 a0_2) := (blk_cell BK223.out 2).trans rfl
           have hcz47_3 : w37.cell? ⟨gb223, 3, none⟩ = some (.int .i64 a0_3) := (blk_cell BK223.out 3).trans rfl
           have hcz47_4 : w37.cell? ⟨gb223, 4, none⟩ = some (.int .i64 a0_4) := (blk_cell BK223.out 4).trans rfl
           have hcz47_5 : w37.cell? ⟨gb223, 5, none⟩ = some (.int .i64 a0_5) := (blk_cell BK223.out 5).trans rfl
           have hcz47_6 : w37.cell? ⟨gb223, 6, none⟩ = some (.bool a0_6) := (blk_cell BK223.out 6).trans rfl
           have hcz47_7 : w37.cell? ⟨gb223, 7, none⟩ = some (.bool a0_7) := (blk_cell BK223.out 7).trans rfl
           have hfz47_0 := blk_frozen BK223.out 0
           have hfz47_1 := blk_frozen BK223.out 1
           have hfz47_2 := blk_frozen BK223.out 2
           have hfz47_3 := blk_frozen BK223.out 3
           have hfz47_4 := blk_frozen BK223.out 4
           have hfz47_5 := blk_frozen BK223.out 5
           have hfz47_6 := blk_frozen BK223.out 6
           have hfz47_7 := blk_frozen BK223.out 7
           go_wp2
           go_meet
           case rel => exact ⟨_, (Go.bits .or .u32 (Go.bits .or .u32 (Go.bits .or .u32 (Go.bits .or .u32 ((rowAt (ji28)).2.2.1) ((((a0_1) % 4294967296) * 128) % 4294967296)) ((((a0_2) % 4294967296) * 32768) % 4294967296)) ((((a0_3) % 4294967296) * 1048576) % 4294967296)) ((((a0_5) % 4294967296) * 1048576) % 4294967296)), (by first | rfl | (simp; done) | (simp only [← hji28] <;> (first | rfl | simp)) | (simp [*]; done)), H', ⟨by have := HJ1.out; have := HJ9.out; first | omega | exact Nat.le_refl _⟩, ⟨by (with_reducible repeat (first | refine blk_drewN ?_ _ | refine blk_drew ?_ | refine blk_alloc ?_ _)); refine blk_far ?_ NB223_226.out _; (with_reducible repeat (first | refine blk_drewN ?_ _ | refine blk_drew ?_ | refine blk_alloc ?_ _)); refine blk_far ?_ NB223_226.out _; (with_reducible repeat (first | refine blk_drewN ?_ _ | refine blk_drew ?_ | refine blk_alloc ?_ _)); refine blk_far ?_ NB223_226.out _; (with_reducible repeat (first | refine blk_drewN ?_ _ | refine blk_drew ?_ | refine blk_alloc ?_ _)); refine blk_far ?_ NB223_226.out _; (with_reducible repeat (first | refine blk_drewN ?_ _ | refine blk_drew ?_ | refine blk_alloc ?_ _)); exact BK223.out⟩, ⟨by (with_reducible repeat (first | refine blk_drewN ?_ _ | refine blk_drew ?_ | refine blk_alloc ?_ _)); refine blk_put (cs := #[.string ((rowAt (ji28)).1), .int .u32 ((rowAt (ji28)).2.1), .int .u32 ((rowAt (ji28)).2.2.1), .int .i64 0]) ?_ 3 _ rfl; (with_reducible repeat (first | refine blk_drewN ?_ _ | refine blk_drew ?_ | refine blk_alloc ?_ _)); refine blk_put (cs := #[.string ((rowAt (ji28)).1), .int .u32 ((rowAt (ji28)).2.1), .int .u32 0, .int .i64 0]) ?_ 2 _ rfl; (with_reducible repeat (first | refine blk_drewN ?_ _ | refine blk_drew ?_ | refine blk_alloc ?_ _)); refine blk_put (cs := #[.string ((rowAt (ji28)).1), .int .u32 0, .int .u32 0, .int .i64 0]) ?_ 1 _ rfl; (with_reducible repeat (first | refine blk_drewN ?_ _ | refine blk_drew ?_ | refine blk_alloc ?_ _)); refine blk_put (cs := #[.string (⟨#[]⟩ : ByteArray), .int .u32 0, .int .u32 0, .int .i64 0]) ?_ 0 _ rfl; (with_reducible repeat (first | refine blk_drewN ?_ _ | refine blk_drew ?_ | refine blk_alloc ?_ _)); exact BK226.out⟩, ⟨by repeat (first | (with_reducible first | exact HB.out | apply below_alloc | apply pw_below_drewN | apply below_drew1 | refine below_set ?_ GE223.out | refine below_set ?_ GE226.out) | exact HB.out)⟩⟩
          ·replace c45 := Bool.eq_false_iff.mpr c45
           subst c45; have H1 : (decode_Encode.j2 kj9 (Go.bits .or .u32 (Go.bits .or .u32 (Go.bits .or .u32 ((rowAt (ji28)).2.2.1) ((((a0_1) % 4294967296) * 128) % 4294967296)) ((((a0_2) % 4294967296) * 32768) % 4294967296)) ((((a0_3) % 4294967296) * 1048576) % 4294967296)) t231 a0_0 a0_1 a0_2 a0_3 a0_4 a0_5 a0_6 a0_7 ((rowAt (ji28)).1) ((rowAt (ji28)).2.1) ((rowAt (ji28)).2.2.1) ((rowAt (ji28)).2.2.2)) = some (r1, r2) := by rw [if_neg (show ¬ (false = true) by decide)] at H; exact H
           clear H; have H := H1; clear H1; have H' := Aside0.mk H
           clear H; go_wp2
           go_meet
           case rel => exact ⟨_, (Go.bits .or .u32 (Go.bits .or .u32 (Go.bits .or .u32 ((rowAt (ji28)).2.2.1) ((((a0_1) % 4294967296) * 128) % 4294967296)) ((((a0_2) % 4294967296) * 32768) % 4294967296)) ((((a0_3) % 4294967296) * 1048576) % 4294967296)), (by first | rfl | (simp; done) | (simp only [← hji28] <;> (first | rfl | simp)) | (simp [*]; done)), H', ⟨by have := HJ1.out; have := HJ9.out; first | omega | exact Nat.le_refl _⟩, ⟨by (with_reducible repeat (first | refine blk_drewN ?_ _ | refine blk_drew ?_ | refine blk_alloc ?_ _)); refine blk_far ?_ NB223_226.out _; (with_reducible repeat (first | refine blk_drewN ?_ _ | refine blk_drew ?_ | refine blk_alloc ?_ _)); refine blk_far ?_ NB223_226.out _; (with_reducible repeat (first | refine blk_drewN ?_ _ | refine blk_drew ?_ | refine blk_alloc ?_ _)); refine blk_far ?_ NB223_226.out _; (with_reducible repeat (first | refine blk_drewN ?_ _ | refine blk_drew ?_ | refine blk_alloc ?_ _)); refine blk_far ?_ NB223_226.out _; (with_reducible repeat (first | refine blk_drewN ?_ _ | refine blk_drew ?_ | refine blk_alloc ?_ _)); exact BK223.out⟩, ⟨by (with_reducible repeat (first | refine blk_drewN ?_ _ | refine blk_drew ?_ | refine blk_alloc ?_ _)); refine blk_put (cs := #[.string ((rowAt (ji28)).1), .int .u32 ((rowAt (ji28)).2.1), .int .u32 ((rowAt (ji28)).2.2.1), .int .i64 0]) ?_ 3 _ rfl; (with_reducible repeat (first | refine blk_drewN ?_ _ | refine blk_drew ?_ | refine blk_alloc ?_ _)); refine blk_put (cs := #[.string ((rowAt (ji28)).1), .int .u32 ((rowAt (ji28)).2.1), .int .u32 0, .int .i64 0]) ?_ 2 _ rfl; (with_reducible repeat (first | refine blk_drewN ?_ _ | refine blk_drew ?_ | refine blk_alloc ?_ _)); refine blk_put (cs := #[.string ((rowAt (ji28)).1), .int .u32 0, .int .u32 0, .int .i64 0]) ?_ 1 _ rfl; (with_reducible repeat (first | refine blk_drewN ?_ _ | refine blk_drew ?_ | refine blk_alloc ?_ _)); refine blk_put (cs := #[.string (⟨#[]⟩ : ByteArray), .int .u32 0, .int .u32 0, .int .i64 0]) ?_ 0 _ rfl; (with_reducible repeat (first | refine blk_drewN ?_ _ | refine blk_drew ?_ | refine blk_alloc ?_ _)); exact BK226.out⟩, ⟨by repeat (first | (with_reducible first | exact HB.out | apply below_alloc | apply pw_below_drewN | apply below_drew1 | refine below_set ?_ GE223.out | refine below_set ?_ GE226.out) | exact HB.out)⟩⟩
         case rest =>
          clear HC33 c29b0 c30b0 hcz43_0 hcz43_1 hcz43_2 hcz43_3 hcz44_0 hcz44_1 hcz44_2 hcz44_3 hcz44_4 hcz44_5 hcz44_6 hcz44_7 hfz43_0 hfz43_1 hfz43_2 hfz43_3 hfz44_0 hfz44_1 hfz44_2 hfz44_3 hfz44_4 hfz44_5 hfz44_6 hfz44_7; obtain ⟨kq, x5_32, rfl, HA, HJ32, BK223, BK226, HB⟩ := hcut
          cases kq with
          | zero => exact absurd HA.out (by simp [decode_Encode.j2])
          | succ kj32 =>
           have H := HA.out; clear HA; simp only [decode_Encode.j2] at H
           have HC48 := Aside0.mk H
           clear H; go_upto_region 10 with (fail)
           go_cut [104] (fun v104 wc => ∃ (kq : Nat) (x104_47 : Bool), v104 = .bool x104_47 ∧ Aside0 (decode_Encode.j3 kq x5_32 t231 x104_47 a0_0 a0_1 a0_2 a0_3 a0_4 a0_5 a0_6 a0_7 ((rowAt (ji28)).1) ((rowAt (ji28)).2.1) ((rowAt (ji28)).2.2.1) ((rowAt (ji28)).2.2.2) = some (r1, r2)) ∧ Aside0 (kq ≤ kj32) ∧ Aside0 (wc.heap[gb223]? = some (.cells #[.int .i64 a0_0, .int .i64 a0_1, .int .i64 a0_2, .int .i64 a0_3, .int .i64 a0_4, .int .i64 a0_5, .bool a0_6, .bool a0_7] 23 (0, 0))) ∧ Aside0 (wc.heap[gb226]? = some (.cells #[.string ((rowAt (ji28)).1), .int .u32 ((rowAt (ji28)).2.1), .int .u32 ((rowAt (ji28)).2.2.1), .int .i64 ((rowAt (ji28)).2.2.2)] 106 (0, 0))) ∧ Aside0 (Below w.heap.size w wc))
           case first =>
            have H := HC48.out; clear HC48; by_cases c49 : t231 = true
            ·subst c49
             have H1 : (decode_Encode.j3 kj32 x5_32 true a0_6 a0_0 a0_1 a0_2 a0_3 a0_4 a0_5 a0_6 a0_7 ((rowAt (ji28)).1) ((rowAt (ji28)).2.1) ((rowAt (ji28)).2.2.1) ((rowAt (ji28)).2.2.2)) = some (r1, r2) := by rw [if_pos rfl] at H; exact H
             clear H; have H := H1; clear H1; have H' := Aside0.mk H
             clear H; have hnb50 := NB223_226.out; have hnc50 := NB226_223.out; have hcz51_0 : wc.cell? ⟨gb223, 0, none⟩ = some (.int .i64 a0_0) := (blk_cell BK223.out 0).trans rfl
             have hcz51_1 : wc.cell? ⟨gb223, 1, none⟩ = some (.int .i64 a0_1) := (blk_cell BK223.out 1).trans rfl
             have hcz51_2 : wc.cell? ⟨gb223, 2, none⟩ = some (.int .i64 a0_2) := (blk_cell BK223.out 2).trans rfl
             have hcz51_3 : wc.cell? ⟨gb223, 3, none⟩ = some (.int .i64 a0_3) := (blk_cell BK223.out 3).trans rfl
             have hcz51_4 : wc.cell? ⟨gb223, 4, none⟩ = some (.int .i64 a0_4) := (blk_cell BK223.out 4).trans rfl
             have hcz51_5 : wc.cell? ⟨gb223, 5, none⟩ = some (.int .i64 a0_5) := (blk_cell BK223.out 5).trans rfl
             have hcz51_6 : wc.cell? ⟨gb223, 6, none⟩ = some (.bool a0_6) := (blk_cell BK223.out 6).trans rfl
             have hcz51_7 : wc.cell? ⟨gb223, 7, none⟩ = some (.bool a0_7) := (blk_cell BK223.out 7).trans rfl
             have hfz51_0 := blk_frozen BK223.out 0
             have hfz51_1 := blk_frozen BK223.out 1
             have hfz51_2 := blk_frozen BK223.out 2
             have hfz51_3 := blk_frozen BK223.out 3
             have hfz51_4 := blk_frozen BK223.out 4
             have hfz51_5 := blk_frozen BK223.out 5
             have hfz51_6 := blk_frozen BK223.out 6
             have hfz51_7 := blk_frozen BK223.out 7
             go_wp2
             go_meet
             case rel => exact ⟨_, (a0_6), (by first | rfl | (simp; done) | (simp [*]; done)), H', ⟨by have := HJ1.out; have := HJ9.out; have := HJ32.out; first | omega | exact Nat.le_refl _⟩, ⟨by (with_reducible repeat (first | refine blk_drewN ?_ _ | refine blk_drew ?_ | refine blk_alloc ?_ _)); exact BK223.out⟩, ⟨by (with_reducible repeat (first | refine blk_drewN ?_ _ | refine blk_drew ?_ | refine blk_alloc ?_ _)); exact BK226.out⟩, ⟨by repeat (first | (with_reducible first | exact HB.out | apply below_alloc | apply pw_below_drewN | apply below_drew1 | refine below_set ?_ GE223.out | refine below_set ?_ GE226.out) | exact HB.out)⟩⟩
            ·replace c49 := Bool.eq_false_iff.mpr c49
             subst c49; have H1 : (decode_Encode.j3 kj32 x5_32 false false a0_0 a0_1 a0_2 a0_3 a0_4 a0_5 a0_6 a0_7 ((rowAt (ji28)).1) ((rowAt (ji28)).2.1) ((rowAt (ji28)).2.2.1) ((rowAt (ji28)).2.2.2)) = some (r1, r2) := by rw [if_neg (show ¬ (false = true) by decide)] at H; exact H
             clear H; have H := H1; clear H1; have H' := Aside0.mk H
             clear H; go_wp2
             go_meet
             case rel => exact ⟨_, (false), (by first | rfl | (simp; done) | (simp [*]; done)), H', ⟨by have := HJ1.out; have := HJ9.out; have := HJ32.out; first | omega | exact Nat.le_refl _⟩, ⟨by (with_reducible repeat (first | refine blk_drewN ?_ _ | refine blk_drew ?_ | refine blk_alloc ?_ _)); exact BK223.out⟩, ⟨by (with_reducible repeat (first | refine blk_drewN ?_ _ | refine blk_drew ?_ | refine blk_alloc ?_ _)); exact BK226.out⟩, ⟨by repeat (first | (with_reducible first | exact HB.out | apply below_alloc | apply pw_below_drewN | apply below_drew1 | refine below_set ?_ GE223.out | refine below_set ?_ GE226.out) | exact HB.out)⟩⟩
           case rest =>
            clear HC48; obtain ⟨kq, x104_47, rfl, HA, HJ47, BK223, BK226, HB⟩ := hcut
            cases kq with
            | zero => exact absurd HA.out (by simp [decode_Encode.j3])
            | succ kj47 =>
             have H := HA.out; clear HA; simp only [decode_Encode.j3] at H
             have HC52 := Aside0.mk H
             clear H; go_upto_if 104 with (fail)
             go_cut [5] (fun v5 wc => ∃ (kq : Nat) (x5_51 : Int), v5 = .int .u32 x5_51 ∧ Aside0 (decode_Encode.j4 kq x5_51 t231 a0_0 a0_1 a0_2 a0_3 a0_4 a0_5 a0_6 a0_7 ((rowAt (ji28)).1) ((rowAt (ji28)).2.1) ((rowAt (ji28)).2.2.1) ((rowAt (ji28)).2.2.2) = some (r1, r2)) ∧ Aside0 (kq ≤ kj47) ∧ Aside0 (wc.heap[gb223]? = some (.cells #[.int .i64 a0_0, .int .i64 a0_1, .int .i64 a0_2, .int .i64 a0_3, .int .i64 a0_4, .int .i64 a0_5, .bool a0_6, .bool a0_7] 23 (0, 0))) ∧ Aside0 (wc.heap[gb226]? = some (.cells #[.string ((rowAt (ji28)).1), .int .u32 ((rowAt (ji28)).2.1), .int .u32 ((rowAt (ji28)).2.2.1), .int .i64 ((rowAt (ji28)).2.2.2)] 106 (0, 0))) ∧ Aside0 (Below w.heap.size w wc))
             case first =>
              have H := HC52.out; clear HC52; by_cases c53 : x104_47 = true
              ·subst c53
               have H1 : (decode_Encode.j4 kj47 (Go.bits .or .u32 x5_32 67108864) t231 a0_0 a0_1 a0_2 a0_3 a0_4 a0_5 a0_6 a0_7 ((rowAt (ji28)).1) ((rowAt (ji28)).2.1) ((rowAt (ji28)).2.2.1) ((rowAt (ji28)).2.2.2)) = some (r1, r2) := by rw [if_pos rfl] at H; exact H
               clear H; have H := H1; clear H1; have H' := Aside0.mk H
               clear H; go_wp2
               go_meet
               case rel => exact ⟨_, (Go.bits .or .u32 x5_32 67108864), (by first | rfl | (simp; done) | (simp [*]; done)), H', ⟨by have := HJ1.out; have := HJ9.out; have := HJ32.out; have := HJ47.out; first | omega | exact Nat.le_refl _⟩, ⟨by (with_reducible repeat (first | refine blk_drewN ?_ _ | refine blk_drew ?_ | refine blk_alloc ?_ _)); exact BK223.out⟩, ⟨by (with_reducible repeat (first | refine blk_drewN ?_ _ | refine blk_drew ?_ | refine blk_alloc ?_ _)); exact BK226.out⟩, ⟨by repeat (first | (with_reducible first | exact HB.out | apply below_alloc | apply pw_below_drewN | apply below_drew1 | refine below_set ?_ GE223.out | refine below_set ?_ GE226.out) | exact HB.out)⟩⟩
              ·replace c53 := Bool.eq_false_iff.mpr c53
               subst c53; have H1 : (decode_Encode.j4 kj47 x5_32 t231 a0_0 a0_1 a0_2 a0_3 a0_4 a0_5 a0_6 a0_7 ((rowAt (ji28)).1) ((rowAt (ji28)).2.1) ((rowAt (ji28)).2.2.1) ((rowAt (ji28)).2.2.2)) = some (r1, r2) := by rw [if_neg (show ¬ (false = true) by decide)] at H; exact H
               clear H; have H := H1; clear H1; have H' := Aside0.mk H
               clear H; go_wp2
               go_meet
               case rel => exact ⟨_, (x5_32), (by first | rfl | (simp; done) | (simp [*]; done)), H', ⟨by have := HJ1.out; have := HJ9.out; have := HJ32.out; have := HJ47.out; first | omega | exact Nat.le_refl _⟩, ⟨by (with_reducible repeat (first | refine blk_drewN ?_ _ | refine blk_drew ?_ | refine blk_alloc ?_ _)); exact BK223.out⟩, ⟨by (with_reducible repeat (first | refine blk_drewN ?_ _ | refine blk_drew ?_ | refine blk_alloc ?_ _)); exact BK226.out⟩, ⟨by repeat (first | (with_reducible first | exact HB.out | apply below_alloc | apply pw_below_drewN | apply below_drew1 | refine below_set ?_ GE223.out | refine below_set ?_ GE226.out) | exact HB.out)⟩⟩
             case rest =>
              clear HC52; obtain ⟨kq, x5_51, rfl, HA, HJ51, BK223, BK226, HB⟩ := hcut
              cases kq with
              | zero => exact absurd HA.out (by simp [decode_Encode.j4])
              | succ kj51 =>
               have H := HA.out; clear HA; simp only [decode_Encode.j4] at H
               have HC54 := Aside0.mk H
               clear H; go_upto_region 12 with (fail)
               go_cut [111] (fun v111 wc => ∃ (kq : Nat) (x111_53 : Bool), v111 = .bool x111_53 ∧ Aside0 (decode_Encode.j5 kq x5_51 x111_53 a0_0 a0_1 a0_2 a0_3 a0_4 a0_5 a0_6 a0_7 ((rowAt (ji28)).1) ((rowAt (ji28)).2.1) ((rowAt (ji28)).2.2.1) ((rowAt (ji28)).2.2.2) = some (r1, r2)) ∧ Aside0 (kq ≤ kj51) ∧ Aside0 (wc.heap[gb223]? = some (.cells #[.int .i64 a0_0, .int .i64 a0_1, .int .i64 a0_2, .int .i64 a0_3, .int .i64 a0_4, .int .i64 a0_5, .bool a0_6, .bool a0_7] 23 (0, 0))) ∧ Aside0 (wc.heap[gb226]? = some (.cells #[.string ((rowAt (ji28)).1), .int .u32 ((rowAt (ji28)).2.1), .int .u32 ((rowAt (ji28)).2.2.1), .int .i64 ((rowAt (ji28)).2.2.2)] 106 (0, 0))) ∧ Aside0 (Below w.heap.size w wc))
               case first =>
                have H := HC54.out; clear HC54; by_cases c55 : t231 = true
                ·subst c55
                 have H1 : (decode_Encode.j5 kj51 x5_51 a0_7 a0_0 a0_1 a0_2 a0_3 a0_4 a0_5 a0_6 a0_7 ((rowAt (ji28)).1) ((rowAt (ji28)).2.1) ((rowAt (ji28)).2.2.1) ((rowAt (ji28)).2.2.2)) = some (r1, r2) := by rw [if_pos rfl] at H; exact H
                 clear H; have H := H1; clear H1; have H' := Aside0.mk H
                 clear H; have hnb56 := NB223_226.out; have hnc56 := NB226_223.out; have hcz57_0 : wc.cell? ⟨gb223, 0, none⟩ = some (.int .i64 a0_0) := (blk_cell BK223.out 0).trans rfl
                 have hcz57_1 : wc.cell? ⟨gb223, 1, none⟩ = some (.int .i64 a0_1) := (blk_cell BK223.out 1).trans rfl
                 have hcz57_2 : wc.cell? ⟨gb223, 2, none⟩ = some (.int .i64 a0_2) := (blk_cell BK223.out 2).trans rfl
                 have hcz57_3 : wc.cell? ⟨gb223, 3, none⟩ = some (.int .i64 a0_3) := (blk_cell BK223.out 3).trans rfl
                 have hcz57_4 : wc.cell? ⟨gb223, 4, none⟩ = some (.int .i64 a0_4) := (blk_cell BK223.out 4).trans rfl
                 have hcz57_5 : wc.cell? ⟨gb223, 5, none⟩ = some (.int .i64 a0_5) := (blk_cell BK223.out 5).trans rfl
                 have hcz57_6 : wc.cell? ⟨gb223, 6, none⟩ = some (.bool a0_6) := (blk_cell BK223.out 6).trans rfl
                 have hcz57_7 : wc.cell? ⟨gb223, 7, none⟩ = some (.bool a0_7) := (blk_cell BK223.out 7).trans rfl
                 have hfz57_0 := blk_frozen BK223.out 0
                 have hfz57_1 := blk_frozen BK223.out 1
                 have hfz57_2 := blk_frozen BK223.out 2
                 have hfz57_3 := blk_frozen BK223.out 3
                 have hfz57_4 := blk_frozen BK223.out 4
                 have hfz57_5 := blk_frozen BK223.out 5
                 have hfz57_6 := blk_frozen BK223.out 6
                 have hfz57_7 := blk_frozen BK223.out 7
                 go_wp2
                 go_meet
                 case rel => exact ⟨_, (a0_7), (by first | rfl | (simp; done) | (simp [*]; done)), H', ⟨by have := HJ1.out; have := HJ9.out; have := HJ32.out; have := HJ47.out; have := HJ51.out; first | omega | exact Nat.le_refl _⟩, ⟨by (with_reducible repeat (first | refine blk_drewN ?_ _ | refine blk_drew ?_ | refine blk_alloc ?_ _)); exact BK223.out⟩, ⟨by (with_reducible repeat (first | refine blk_drewN ?_ _ | refine blk_drew ?_ | refine blk_alloc ?_ _)); exact BK226.out⟩, ⟨by repeat (first | (with_reducible first | exact HB.out | apply below_alloc | apply pw_below_drewN | apply below_drew1 | refine below_set ?_ GE223.out | refine below_set ?_ GE226.out) | exact HB.out)⟩⟩
                ·replace c55 := Bool.eq_false_iff.mpr c55
                 subst c55; have H1 : (decode_Encode.j5 kj51 x5_51 false a0_0 a0_1 a0_2 a0_3 a0_4 a0_5 a0_6 a0_7 ((rowAt (ji28)).1) ((rowAt (ji28)).2.1) ((rowAt (ji28)).2.2.1) ((rowAt (ji28)).2.2.2)) = some (r1, r2) := by rw [if_neg (show ¬ (false = true) by decide)] at H; exact H
                 clear H; have H := H1; clear H1; have H' := Aside0.mk H
                 clear H; go_wp2
                 go_meet
                 case rel => exact ⟨_, (false), (by first | rfl | (simp; done) | (simp [*]; done)), H', ⟨by have := HJ1.out; have := HJ9.out; have := HJ32.out; have := HJ47.out; have := HJ51.out; first | omega | exact Nat.le_refl _⟩, ⟨by (with_reducible repeat (first | refine blk_drewN ?_ _ | refine blk_drew ?_ | refine blk_alloc ?_ _)); exact BK223.out⟩, ⟨by (with_reducible repeat (first | refine blk_drewN ?_ _ | refine blk_drew ?_ | refine blk_alloc ?_ _)); exact BK226.out⟩, ⟨by repeat (first | (with_reducible first | exact HB.out | apply below_alloc | apply pw_below_drewN | apply below_drew1 | refine below_set ?_ GE223.out | refine below_set ?_ GE226.out) | exact HB.out)⟩⟩
               case rest =>
                clear HC54; obtain ⟨kq, x111_53, rfl, HA, HJ53, BK223, BK226, HB⟩ := hcut
                cases kq with
                | zero => exact absurd HA.out (by simp [decode_Encode.j5])
                | succ kj53 =>
                 have H := HA.out; clear HA; simp only [decode_Encode.j5] at H
                 have HC58 := Aside0.mk H
                 clear H; go_upto_if 111 with (fail)
                 go_cut [5] (fun v5 wc => ∃ (kq : Nat) (x5_57 : Int), v5 = .int .u32 x5_57 ∧ Aside0 (decode_Encode.j6 kq x5_57 a0_0 a0_1 a0_2 a0_3 a0_4 a0_5 a0_6 a0_7 ((rowAt (ji28)).1) ((rowAt (ji28)).2.1) ((rowAt (ji28)).2.2.1) ((rowAt (ji28)).2.2.2) = some (r1, r2)) ∧ Aside0 (kq ≤ kj53) ∧ Aside0 (wc.heap[gb223]? = some (.cells #[.int .i64 a0_0, .int .i64 a0_1, .int .i64 a0_2, .int .i64 a0_3, .int .i64 a0_4, .int .i64 a0_5, .bool a0_6, .bool a0_7] 23 (0, 0))) ∧ Aside0 (wc.heap[gb226]? = some (.cells #[.string ((rowAt (ji28)).1), .int .u32 ((rowAt (ji28)).2.1), .int .u32 ((rowAt (ji28)).2.2.1), .int .i64 ((rowAt (ji28)).2.2.2)] 106 (0, 0))) ∧ Aside0 (Below w.heap.size w wc))
                 case first =>
                  have H := HC58.out; clear HC58; by_cases c59 : x111_53 = true
                  ·subst c59
                   have H1 : (decode_Encode.j6 kj53 (Go.bits .or .u32 x5_51 33554432) a0_0 a0_1 a0_2 a0_3 a0_4 a0_5 a0_6 a0_7 ((rowAt (ji28)).1) ((rowAt (ji28)).2.1) ((rowAt (ji28)).2.2.1) ((rowAt (ji28)).2.2.2)) = some (r1, r2) := by rw [if_pos rfl] at H; exact H
                   clear H; have H := H1; clear H1; have H' := Aside0.mk H
                   clear H; go_wp2
                   go_meet
                   case rel => exact ⟨_, (Go.bits .or .u32 x5_51 33554432), (by first | rfl | (simp; done) | (simp [*]; done)), H', ⟨by have := HJ1.out; have := HJ9.out; have := HJ32.out; have := HJ47.out; have := HJ51.out; have := HJ53.out; first | omega | exact Nat.le_refl _⟩, ⟨by (with_reducible repeat (first | refine blk_drewN ?_ _ | refine blk_drew ?_ | refine blk_alloc ?_ _)); exact BK223.out⟩, ⟨by (with_reducible repeat (first | refine blk_drewN ?_ _ | refine blk_drew ?_ | refine blk_alloc ?_ _)); exact BK226.out⟩, ⟨by repeat (first | (with_reducible first | exact HB.out | apply below_alloc | apply pw_below_drewN | apply below_drew1 | refine below_set ?_ GE223.out | refine below_set ?_ GE226.out) | exact HB.out)⟩⟩
                  ·replace c59 := Bool.eq_false_iff.mpr c59
                   subst c59; have H1 : (decode_Encode.j6 kj53 x5_51 a0_0 a0_1 a0_2 a0_3 a0_4 a0_5 a0_6 a0_7 ((rowAt (ji28)).1) ((rowAt (ji28)).2.1) ((rowAt (ji28)).2.2.1) ((rowAt (ji28)).2.2.2)) = some (r1, r2) := by rw [if_neg (show ¬ (false = true) by decide)] at H; exact H
                   clear H; have H := H1; clear H1; have H' := Aside0.mk H
                   clear H; go_wp2
                   go_meet
                   case rel => exact ⟨_, (x5_51), (by first | rfl | (simp; done) | (simp [*]; done)), H', ⟨by have := HJ1.out; have := HJ9.out; have := HJ32.out; have := HJ47.out; have := HJ51.out; have := HJ53.out; first | omega | exact Nat.le_refl _⟩, ⟨by (with_reducible repeat (first | refine blk_drewN ?_ _ | refine blk_drew ?_ | refine blk_alloc ?_ _)); exact BK223.out⟩, ⟨by (with_reducible repeat (first | refine blk_drewN ?_ _ | refine blk_drew ?_ | refine blk_alloc ?_ _)); exact BK226.out⟩, ⟨by repeat (first | (with_reducible first | exact HB.out | apply below_alloc | apply pw_below_drewN | apply below_drew1 | refine below_set ?_ GE223.out | refine below_set ?_ GE226.out) | exact HB.out)⟩⟩
                 case rest =>
                  clear HC58; obtain ⟨kq, x5_57, rfl, HA, HJ57, BK223, BK226, HB⟩ := hcut
                  cases kq with
                  | zero => exact absurd HA.out (by simp [decode_Encode.j6])
                  | succ kj57 =>
                   have H := HA.out; clear HA; simp only [decode_Encode.j6] at H
                   replace H := Option.bind_eq_some_iff.mp H
                   obtain ⟨t232, A600, H⟩ := H
                   replace H : (if t232 = 0 then (if (Go.bits .and .u32 x5_57 ((rowAt (ji28)).2.1)) = ((rowAt (ji28)).2.2.1) then ((decode_said.f kj57 a0_0 x5_57).bind fun bt233 => (if (!(bt233.1 == a0_0) || (!(bt233.2.1 == a0_1) || (!(bt233.2.2.1 == a0_2) || (!(bt233.2.2.2.1 == a0_3) || (!(bt233.2.2.2.2.1 == a0_4) || (!(bt233.2.2.2.2.2.1 == a0_5) || (!(bt233.2.2.2.2.2.2.1 == a0_6) || (!(bt233.2.2.2.2.2.2.2 == a0_7))))))))) = true then (some (0, 80)) else (some (x5_57, 0)))) else (some (0, 80))) else ((fields_Put.f kj57 t232 a0_4).bind fun bt241 => (if bt241.2 = true then (if (Go.bits .and .u32 (Go.bits .or .u32 x5_57 bt241.1) ((rowAt (ji28)).2.1)) = ((rowAt (ji28)).2.2.1) then ((decode_said.f kj57 a0_0 (Go.bits .or .u32 x5_57 bt241.1)).bind fun bt243 => (if (!(bt243.1 == a0_0) || (!(bt243.2.1 == a0_1) || (!(bt243.2.2.1 == a0_2) || (!(bt243.2.2.2.1 == a0_3) || (!(bt243.2.2.2.2.1 == a0_4) || (!(bt243.2.2.2.2.2.1 == a0_5) || (!(bt243.2.2.2.2.2.2.1 == a0_6) || (!(bt243.2.2.2.2.2.2.2 == a0_7))))))))) = true then (some (0, 80)) else (some (Go.bits .or .u32 x5_57 bt241.1, 0)))) else (some (0, 80))) else (some (0, 80))))) = some (r1, r2) := H
                   have A60 := Aside0.mk A600
                   clear A600; by_cases c61 : t232 = 0
                   ·rw [if_pos c61] at H
                    have c61b0 : (t232 == 0) = true := beq_iff_eq.mpr c61
                    have c61b1 : (t232 != 0) = false := bne_eq_false_iff_eq.mpr c61
                    clear c61; by_cases c62 : (Go.bits .and .u32 x5_57 ((rowAt (ji28)).2.1)) = ((rowAt (ji28)).2.2.1)
                    ·rw [if_pos c62] at H
                     have c62b0 : ((Go.bits .and .u32 x5_57 ((rowAt (ji28)).2.1)) == ((rowAt (ji28)).2.2.1)) = true := beq_iff_eq.mpr c62
                     have c62b1 : ((Go.bits .and .u32 x5_57 ((rowAt (ji28)).2.1)) != ((rowAt (ji28)).2.2.1)) = false := bne_eq_false_iff_eq.mpr c62
                     clear c62; replace H := Option.bind_eq_some_iff.mp H
                     obtain ⟨⟨t233, t234, t235, t236, t237, t238, t239, t240⟩, A630, H⟩ := H
                     replace H : (if (!(t233 == a0_0) || (!(t234 == a0_1) || (!(t235 == a0_2) || (!(t236 == a0_3) || (!(t237 == a0_4) || (!(t238 == a0_5) || (!(t239 == a0_6) || (!(t240 == a0_7))))))))) = true then (some (0, 80)) else (some (x5_57, 0))) = some (r1, r2) := H
                     have A63 := Aside0.mk A630
                     clear A630; by_cases c64 : (!(t233 == a0_0) || (!(t234 == a0_1) || (!(t235 == a0_2) || (!(t236 == a0_3) || (!(t237 == a0_4) || (!(t238 == a0_5) || (!(t239 == a0_6) || (!(t240 == a0_7))))))))) = true
                     ·rw [if_pos c64] at H
                      have c64b0 : (!(t233 == a0_0) || (!(t234 == a0_1) || (!(t235 == a0_2) || (!(t236 == a0_3) || (!(t237 == a0_4) || (!(t238 == a0_5) || (!(t239 == a0_6) || (!(t240 == a0_7))))))))) = true := c64
                      clear c64; simp only [Option.some.injEq, Prod.mk.injEq] at H
                      obtain ⟨rfl, rfl⟩ := H
                      have hnb65 := NB226_223.out; have hnc65 := NB223_226.out; have hcz66_0 : wc.cell? ⟨gb226, 0, none⟩ = some (.string ((rowAt (ji28)).1)) := (blk_cell BK226.out 0).trans rfl
                      have hcz66_1 : wc.cell? ⟨gb226, 1, none⟩ = some (.int .u32 ((rowAt (ji28)).2.1)) := (blk_cell BK226.out 1).trans rfl
                      have hcz66_2 : wc.cell? ⟨gb226, 2, none⟩ = some (.int .u32 ((rowAt (ji28)).2.2.1)) := (blk_cell BK226.out 2).trans rfl
                      have hcz66_3 : wc.cell? ⟨gb226, 3, none⟩ = some (.int .i64 ((rowAt (ji28)).2.2.2)) := (blk_cell BK226.out 3).trans rfl
                      have hfz66_0 := blk_frozen BK226.out 0
                      have hfz66_1 := blk_frozen BK226.out 1
                      have hfz66_2 := blk_frozen BK226.out 2
                      have hfz66_3 := blk_frozen BK226.out 3
                      try go_wp2_with (first | ((with_reducible refine gate_callee (f := 69) rfl ?_); refine goesL_ (some 116) rfl rfl Tryz.func69 (by kernel_rfl) rfl #[.int .i64 ((rowAt (ji28)).2.2.2)] rfl (by (try simp only [List.map_toArray, List.map_cons, List.map_nil]); first | done | (simp only [hji28]; rfl) | rfl | (simp only [List.length_drop, List.length_take]; rfl)) ?_; (with_reducible refine (decode_number.calls ((rowAt (ji28)).2.2.2) t232 _ A60.out).mono ?_); rintro e w' ⟨rfl, ⟨nd, rfl⟩⟩; refine ⟨_, rfl, ?_⟩))
                      (try (rw [drewN_self wc]; generalize hq_ : World.drewN wc _ = wc; have n0_ : Aside0 (wc.heap[gb223]? = some (.cells #[.int .i64 a0_0, .int .i64 a0_1, .int .i64 a0_2, .int .i64 a0_3, .int .i64 a0_4, .int .i64 a0_5, .bool a0_6, .bool a0_7] 23 (0, 0))) := ⟨by rw [← hq_]; exact (by (with_reducible repeat (first | refine blk_drewN ?_ _ | refine blk_drew ?_ | refine blk_alloc ?_ _)); exact BK223.out)⟩; have n1_ : Aside0 (wc.heap[gb226]? = some (.cells #[.string ((rowAt (ji28)).1), .int .u32 ((rowAt (ji28)).2.1), .int .u32 ((rowAt (ji28)).2.2.1), .int .i64 ((rowAt (ji28)).2.2.2)] 106 (0, 0))) := ⟨by rw [← hq_]; exact (by (with_reducible repeat (first | refine blk_drewN ?_ _ | refine blk_drew ?_ | refine blk_alloc ?_ _)); exact BK226.out)⟩; have n2_ : Aside0 (Below w.heap.size w wc) := ⟨by rw [← hq_]; exact (by repeat (first | (with_reducible first | exact HB.out | apply below_alloc | apply pw_below_drewN | apply below_drew1 | refine below_set ?_ GE223.out | refine below_set ?_ GE226.out) | exact HB.out))⟩; clear BK223 BK226 HB hq_; have BK223 := n0_; have BK226 := n1_; have HB := n2_; clear n0_ n1_ n2_))
                      have n0_ := Aside0.mk (blk_drew BK223.out)
                      have n1_ := Aside0.mk (blk_drew BK226.out)
                      have n2_ := Aside0.mk (below_drew1 HB.out)
                      clear BK223 BK226 HB; have BK223 := n0_; have BK226 := n1_; have HB := n2_; clear n0_ n1_ n2_; refine start_ (n := 15) (S := fun w' => w'.cell? ⟨gb226, 0, none⟩ = some (.string ((rowAt (ji28)).1)) ∧ w'.cell? ⟨gb226, 1, none⟩ = some (.int .u32 ((rowAt (ji28)).2.1)) ∧ w'.cell? ⟨gb226, 2, none⟩ = some (.int .u32 ((rowAt (ji28)).2.2.1)) ∧ w'.cell? ⟨gb226, 3, none⟩ = some (.int .i64 ((rowAt (ji28)).2.2.2)) ∧ w'.cell? ⟨gb223, 0, none⟩ = some (.int .i64 a0_0) ∧ w'.cell? ⟨gb223, 1, none⟩ = some (.int .i64 a0_1) ∧ w'.cell? ⟨gb223, 2, none⟩ = some (.int .i64 a0_2) ∧ w'.cell? ⟨gb223, 3, none⟩ = some (.int .i64 a0_3) ∧ w'.cell? ⟨gb223, 4, none⟩ = some (.int .i64 a0_4) ∧ w'.cell? ⟨gb223, 5, none⟩ = some (.int .i64 a0_5) ∧ w'.cell? ⟨gb223, 6, none⟩ = some (.bool a0_6) ∧ w'.cell? ⟨gb223, 7, none⟩ = some (.bool a0_7)) (ds := []) #[false, false, false, false, false, false, false, false, false, false, false, false, false, false, false] (by kernel_rfl) rfl rfl ⟨(blk_cell BK226.out 0).trans rfl, (blk_cell BK226.out 1).trans rfl, (blk_cell BK226.out 2).trans rfl, (blk_cell BK226.out 3).trans rfl, (blk_cell BK223.out 0).trans rfl, (blk_cell BK223.out 1).trans rfl, (blk_cell BK223.out 2).trans rfl, (blk_cell BK223.out 3).trans rfl, (blk_cell BK223.out 4).trans rfl, (blk_cell BK223.out 5).trans rfl, (blk_cell BK223.out 6).trans rfl, (blk_cell BK223.out 7).trans rfl⟩ (fun hHeld => ?_); refine with_tabW decode_Encode.tab20 decode_Encode.bits20 (fun HT_ HW_ => ?_)
                      generalize wc.drew = w67 at BK223 BK226 HB hHeld ⊢
                      refine pure_ (i := 0) (N := some 131) (v := ?_) (a' := ?_) #[true, false, false, false, false, false, false, false, false, false, false, false, false, false, false] rfl rfl (any_of HT_.out (by kernel_rfl)) (fun _ _ _ h => h) (Or.inl ⟨by rfl, ?_⟩) ?_ ?_
                      rotate_left
                      ·intro w'
                       go_simp; with_reducible rfl
                      rotate_left
                      ·simp only [Act.put, List.setIfInBounds_toArray, List.set_cons_zero, List.set_cons_succ, i64_w, i32_w]
                       rfl
                      refine pure_ (i := 1) (N := some 132) (v := ?_) (a' := ?_) #[true, true, false, false, false, false, false, false, false, false, false, false, false, false, false] rfl rfl (any_of HT_.out (by kernel_rfl)) (fun _ _ _ h => h) (Or.inl ⟨by rfl, ?_⟩) ?_ ?_
                      rotate_left
                      ·intro w'
                       go_simp; with_reducible rfl
                      rotate_left
                      ·simp only [Act.put, List.setIfInBounds_toArray, List.set_cons_zero, List.set_cons_succ, i64_w, i32_w]
                       rfl
                      refine pure_ (i := 4) (N := some 135) (v := ?_) (a' := ?_) #[true, true, false, false, true, false, false, false, false, false, false, false, false, false, false] rfl rfl (any_of HT_.out (by kernel_rfl)) (fun _ _ _ h => h) (Or.inl ⟨by rfl, ?_⟩) ?_ ?_
                      rotate_left
                      ·intro w'
                       go_simp; with_reducible rfl
                      rotate_left
                      ·simp only [Act.put, List.setIfInBounds_toArray, List.set_cons_zero, List.set_cons_succ, i64_w, i32_w]
                       rfl
                      refine take_ (i := 2) (N := some 133) (v := ?_) (a' := ?_) #[true, true, true, false, true, false, false, false, false, false, false, false, false, false, false] rfl rfl (take_ofW HT_.out HW_.out (by kernel_rfl)) (fun _ _ _ h => h) (Or.inl ⟨by rfl, ?_⟩) hHeld ?_ ?_
                      rotate_left
                      ·rintro w' ⟨s0, s1, s2, s3, s4, s5, s6, s7, s8, s9, s10, s11⟩
                       go_simp; with_reducible rfl
                      rotate_left
                      ·simp only [Act.put, List.setIfInBounds_toArray, List.set_cons_zero, List.set_cons_succ, i64_w, i32_w]
                       rfl
                      refine pure_ (i := 3) (N := some 134) (v := ?_) (a' := ?_) #[true, true, true, true, true, false, false, false, false, false, false, false, false, false, false] rfl rfl (any_of HT_.out (by kernel_rfl)) (fun _ _ _ h => h) (Or.inl ⟨by rfl, ?_⟩) ?_ ?_
                      rotate_left
                      ·intro w'
                       go_simp; with_reducible rfl
                      rotate_left
                      ·simp only [Act.put, List.setIfInBounds_toArray, List.set_cons_zero, List.set_cons_succ, i64_w, i32_w]
                       rfl
                      refine take_ (i := 5) (N := some 136) (v := ?_) (a' := ?_) #[true, true, true, true, true, true, false, false, false, false, false, false, false, false, false] rfl rfl (take_ofW HT_.out HW_.out (by kernel_rfl)) (fun _ _ _ h => h) (Or.inl ⟨by rfl, ?_⟩) hHeld ?_ ?_
                      rotate_left
                      ·rintro w' ⟨s0, s1, s2, s3, s4, s5, s6, s7, s8, s9, s10, s11⟩
                       go_simp; with_reducible rfl
                      rotate_left
                      ·simp only [Act.put, List.setIfInBounds_toArray, List.set_cons_zero, List.set_cons_succ, i64_w, i32_w]
                       rfl
                      refine pure_ (i := 6) (N := some 137) (v := ?_) (a' := ?_) #[true, true, true, true, true, true, true, false, false, false, false, false, false, false, false] rfl rfl (any_of HT_.out (by kernel_rfl)) (fun _ _ _ h => h) (Or.inl ⟨by rfl, ?_⟩) ?_ ?_
                      rotate_left
                      ·intro w'
                       go_simp; with_reducible rfl
                      rotate_left
                      ·simp only [Act.put, List.setIfInBounds_toArray, List.set_cons_zero, List.set_cons_succ, i64_w, i32_w]
                       rfl
                      refine pure_ (i := 7) (N := some 138) (v := ?_) (a' := ?_) #[true, true, true, true, true, true, true, true, false, false, false, false, false, false, false] rfl rfl (any_of HT_.out (by kernel_rfl)) (fun _ _ _ h => h) (Or.inl ⟨by rfl, ?_⟩) ?_ ?_
                      rotate_left
                      ·intro w'
                       go_simp; with_reducible rfl
                      rotate_left
                      ·simp only [Act.put, List.setIfInBounds_toArray, List.set_cons_zero, List.set_cons_succ, i64_w, i32_w]
                       rfl
                      refine pure_ (i := 8) (N := some 139) (v := ?_) (a' := ?_) #[true, true, true, true, true, true, true, true, true, false, false, false, false, false, false] rfl rfl (any_of HT_.out (by kernel_rfl)) (fun _ _ _ h => h) (Or.inl ⟨by rfl, ?_⟩) ?_ ?_
                      rotate_left
                      ·intro w'
                       go_simp; with_reducible rfl
                      rotate_left
                      ·simp only [Act.put, List.setIfInBounds_toArray, List.set_cons_zero, List.set_cons_succ, i64_w, i32_w]
                       rfl
                      refine pure_ (i := 10) (N := some 141) (v := ?_) (a' := ?_) #[true, true, true, true, true, true, true, true, true, false, true, false, false, false, false] rfl rfl (any_of HT_.out (by kernel_rfl)) (fun _ _ _ h => h) (Or.inl ⟨by rfl, ?_⟩) ?_ ?_
                      rotate_left
                      ·intro w'
                       go_simp; with_reducible rfl
                      rotate_left
                      ·simp only [Act.put, List.setIfInBounds_toArray, List.set_cons_zero, List.set_cons_succ, i64_w, i32_w]
                       rfl
                      refine take_ (i := 9) (N := some 140) (v := ?_) (a' := ?_) #[true, true, true, true, true, true, true, true, true, true, true, false, false, false, false] rfl rfl (take_ofW HT_.out HW_.out (by kernel_rfl)) (fun _ _ _ h => h) (Or.inl ⟨by rfl, ?_⟩) hHeld ?_ ?_
                      rotate_left
                      ·rintro w' ⟨s0, s1, s2, s3, s4, s5, s6, s7, s8, s9, s10, s11⟩
                       go_simp; with_reducible rfl
                      rotate_left
                      ·simp only [Act.put, List.setIfInBounds_toArray, List.set_cons_zero, List.set_cons_succ, i64_w, i32_w]
                       rfl
                      refine take_ (i := 12) (N := some 143) (v := ?_) (a' := ?_) #[true, true, true, true, true, true, true, true, true, true, true, false, true, false, false] rfl rfl (take_ofW HT_.out HW_.out (by kernel_rfl)) (fun _ _ _ h => h) (Or.inl ⟨by rfl, ?_⟩) hHeld ?_ ?_
                      rotate_left
                      ·rintro w' ⟨s0, s1, s2, s3, s4, s5, s6, s7, s8, s9, s10, s11⟩
                       go_simp; with_reducible rfl
                      rotate_left
                      ·simp only [Act.put, List.setIfInBounds_toArray, List.set_cons_zero, List.set_cons_succ, i64_w, i32_w]
                       rfl
                      refine one_ (i := 11) (N := some 142) #[true, true, true, true, true, true, true, true, true, true, true, true, true, false, false] rfl rfl (one_of HT_.out (by kernel_rfl)) (by decide) (fun K hK => ?_)
                      refine goes_ Tryz.func71 (by kernel_rfl) rfl #[.int .i64 a0_0, .int .u32 x5_57] (by rfl) rfl rfl (by (try simp only [List.map_toArray, List.map_cons, List.map_nil]); first | done | rfl | (simp only [List.length_drop, List.length_take]; rfl)) ?_
                      with_reducible refine (decode_said.calls kj57 a0_0 x5_57 t233 t234 t235 t236 t237 t238 t239 t240 _ A63.out).mono ?_
                      rintro e w68 ⟨rfl, hb⟩
                      refine ⟨_, rfl, ?_⟩
                      have n0_ := Aside0.mk (blk_below (g := gb223) (o := .cells #[.int .i64 a0_0, .int .i64 a0_1, .int .i64 a0_2, .int .i64 a0_3, .int .i64 a0_4, .int .i64 a0_5, .bool a0_6, .bool a0_7] 23 (0, 0)) (by (with_reducible repeat (first | refine blk_drewN ?_ _ | refine blk_drew ?_ | refine blk_alloc ?_ _)); exact BK223.out) hb)
                      have n1_ := Aside0.mk (blk_below (g := gb226) (o := .cells #[.string ((rowAt (ji28)).1), .int .u32 ((rowAt (ji28)).2.1), .int .u32 ((rowAt (ji28)).2.2.1), .int .i64 ((rowAt (ji28)).2.2.2)] 106 (0, 0)) (by (with_reducible repeat (first | refine blk_drewN ?_ _ | refine blk_drew ?_ | refine blk_alloc ?_ _)); exact BK226.out) hb)
                      have n2_ := Aside0.mk (below_step (by repeat (first | (with_reducible first | exact HB.out | apply below_alloc | apply pw_below_drewN | apply below_drew1 | refine below_set ?_ GE223.out | refine below_set ?_ GE226.out) | exact HB.out)) hb)
                      clear BK223 BK226 HB; have BK223 := n0_; have BK226 := n1_; have HB := n2_; clear n0_ n1_ n2_ hb; refine hK.out _ _ ⟨(blk_cell BK226.out 0).trans rfl, (blk_cell BK226.out 1).trans rfl, (blk_cell BK226.out 2).trans rfl, (blk_cell BK226.out 3).trans rfl, (blk_cell BK223.out 0).trans rfl, (blk_cell BK223.out 1).trans rfl, (blk_cell BK223.out 2).trans rfl, (blk_cell BK223.out 3).trans rfl, (blk_cell BK223.out 4).trans rfl, (blk_cell BK223.out 5).trans rfl, (blk_cell BK223.out 6).trans rfl, (blk_cell BK223.out 7).trans rfl⟩ (fun hHeld => ?_)
                      clear hK K; refine norm_ (a' := ?_) ?_ ?_
                      rotate_left
                      ·show Act.put _ (some 142) _ = _
                       simp only [Act.put, List.setIfInBounds_toArray, List.set_cons_zero, List.set_cons_succ, i64_w, i32_w]
                       rfl
                      refine pure_ (i := 13) (N := some 144) (v := ?_) (a' := ?_) #[true, true, true, true, true, true, true, true, true, true, true, true, true, true, false] rfl rfl (any_of HT_.out (by kernel_rfl)) (fun _ _ _ h => h) (Or.inl ⟨by rfl, ?_⟩) ?_ ?_
                      rotate_left
                      ·intro w'
                       go_simp; with_reducible rfl
                      rotate_left
                      ·simp only [Act.put, List.setIfInBounds_toArray, List.set_cons_zero, List.set_cons_succ, i64_w, i32_w]
                       rfl
                      refine pure_ (i := 14) (N := some 145) (v := ?_) (a' := ?_) #[true, true, true, true, true, true, true, true, true, true, true, true, true, true, true] rfl rfl (any_of HT_.out (by kernel_rfl)) (fun _ _ _ h => h) (Or.inl ⟨by rfl, ?_⟩) ?_ ?_
                      rotate_left
                      ·intro w'
                       go_simp; with_reducible rfl
                      rotate_left
                      ·simp only [Act.put, List.setIfInBounds_toArray, List.set_cons_zero, List.set_cons_succ, i64_w, i32_w]
                       rfl
                      refine done_ (done_of HT_.out (by kernel_rfl)) ?_
                      try go_wp2
                      go_ret2
                      exact ⟨by first | rfl | (simp [errW_none, errW_some] <;> rfl) | (simp only [← hji28]; first | rfl | (simp [errW_none, errW_some] <;> rfl)) | (simp [*, errW_none, errW_some] <;> rfl), by repeat (first | (with_reducible first | exact HB.out | apply below_alloc | apply pw_below_drewN | apply below_drew1 | refine below_set ?_ GE223.out | refine below_set ?_ GE226.out) | exact HB.out)⟩
                     ·rw [if_neg c64] at H
                      have c64b0 : (!(t233 == a0_0) || (!(t234 == a0_1) || (!(t235 == a0_2) || (!(t236 == a0_3) || (!(t237 == a0_4) || (!(t238 == a0_5) || (!(t239 == a0_6) || (!(t240 == a0_7))))))))) = false := by simpa using c64
                      clear c64; simp only [Option.some.injEq, Prod.mk.injEq] at H
                      obtain ⟨rfl, rfl⟩ := H
                      have hnb69 := NB226_223.out; have hnc69 := NB223_226.out; have hcz70_0 : wc.cell? ⟨gb226, 0, none⟩ = some (.string ((rowAt (ji28)).1)) := (blk_cell BK226.out 0).trans rfl
                      have hcz70_1 : wc.cell? ⟨gb226, 1, none⟩ = some (.int .u32 ((rowAt (ji28)).2.1)) := (blk_cell BK226.out 1).trans rfl
                      have hcz70_2 : wc.cell? ⟨gb226, 2, none⟩ = some (.int .u32 ((rowAt (ji28)).2.2.1)) := (blk_cell BK226.out 2).trans rfl
                      have hcz70_3 : wc.cell? ⟨gb226, 3, none⟩ = some (.int .i64 ((rowAt (ji28)).2.2.2)) := (blk_cell BK226.out 3).trans rfl
                      have hfz70_0 := blk_frozen BK226.out 0
                      have hfz70_1 := blk_frozen BK226.out 1
                      have hfz70_2 := blk_frozen BK226.out 2
                      have hfz70_3 := blk_frozen BK226.out 3
                      try go_wp2_with (first | ((with_reducible refine gate_callee (f := 69) rfl ?_); refine goesL_ (some 116) rfl rfl Tryz.func69 (by kernel_rfl) rfl #[.int .i64 ((rowAt (ji28)).2.2.2)] rfl (by (try simp only [List.map_toArray, List.map_cons, List.map_nil]); first | done | (simp only [hji28]; rfl) | rfl | (simp only [List.length_drop, List.length_take]; rfl)) ?_; (with_reducible refine (decode_number.calls ((rowAt (ji28)).2.2.2) t232 _ A60.out).mono ?_); rintro e w' ⟨rfl, ⟨nd, rfl⟩⟩; refine ⟨_, rfl, ?_⟩))
                      (try (rw [drewN_self wc]; generalize hq_ : World.drewN wc _ = wc; have n0_ : Aside0 (wc.heap[gb223]? = some (.cells #[.int .i64 a0_0, .int .i64 a0_1, .int .i64 a0_2, .int .i64 a0_3, .int .i64 a0_4, .int .i64 a0_5, .bool a0_6, .bool a0_7] 23 (0, 0))) := ⟨by rw [← hq_]; exact (by (with_reducible repeat (first | refine blk_drewN ?_ _ | refine blk_drew ?_ | refine blk_alloc ?_ _)); exact BK223.out)⟩; have n1_ : Aside0 (wc.heap[gb226]? = some (.cells #[.string ((rowAt (ji28)).1), .int .u32 ((rowAt (ji28)).2.1), .int .u32 ((rowAt (ji28)).2.2.1), .int .i64 ((rowAt (ji28)).2.2.2)] 106 (0, 0))) := ⟨by rw [← hq_]; exact (by (with_reducible repeat (first | refine blk_drewN ?_ _ | refine blk_drew ?_ | refine blk_alloc ?_ _)); exact BK226.out)⟩; have n2_ : Aside0 (Below w.heap.size w wc) := ⟨by rw [← hq_]; exact (by repeat (first | (with_reducible first | exact HB.out | apply below_alloc | apply pw_below_drewN | apply below_drew1 | refine below_set ?_ GE223.out | refine below_set ?_ GE226.out) | exact HB.out))⟩; clear BK223 BK226 HB hq_; have BK223 := n0_; have BK226 := n1_; have HB := n2_; clear n0_ n1_ n2_))
                      have n0_ := Aside0.mk (blk_drew BK223.out)
                      have n1_ := Aside0.mk (blk_drew BK226.out)
                      have n2_ := Aside0.mk (below_drew1 HB.out)
                      clear BK223 BK226 HB; have BK223 := n0_; have BK226 := n1_; have HB := n2_; clear n0_ n1_ n2_; refine start_ (n := 15) (S := fun w' => w'.cell? ⟨gb226, 0, none⟩ = some (.string ((rowAt (ji28)).1)) ∧ w'.cell? ⟨gb226, 1, none⟩ = some (.int .u32 ((rowAt (ji28)).2.1)) ∧ w'.cell? ⟨gb226, 2, none⟩ = some (.int .u32 ((rowAt (ji28)).2.2.1)) ∧ w'.cell? ⟨gb226, 3, none⟩ = some (.int .i64 ((rowAt (ji28)).2.2.2)) ∧ w'.cell? ⟨gb223, 0, none⟩ = some (.int .i64 a0_0) ∧ w'.cell? ⟨gb223, 1, none⟩ = some (.int .i64 a0_1) ∧ w'.cell? ⟨gb223, 2, none⟩ = some (.int .i64 a0_2) ∧ w'.cell? ⟨gb223, 3, none⟩ = some (.int .i64 a0_3) ∧ w'.cell? ⟨gb223, 4, none⟩ = some (.int .i64 a0_4) ∧ w'.cell? ⟨gb223, 5, none⟩ = some (.int .i64 a0_5) ∧ w'.cell? ⟨gb223, 6, none⟩ = some (.bool a0_6) ∧ w'.cell? ⟨gb223, 7, none⟩ = some (.bool a0_7)) (ds := []) #[false, false, false, false, false, false, false, false, false, false, false, false, false, false, false] (by kernel_rfl) rfl rfl ⟨(blk_cell BK226.out 0).trans rfl, (blk_cell BK226.out 1).trans rfl, (blk_cell BK226.out 2).trans rfl, (blk_cell BK226.out 3).trans rfl, (blk_cell BK223.out 0).trans rfl, (blk_cell BK223.out 1).trans rfl, (blk_cell BK223.out 2).trans rfl, (blk_cell BK223.out 3).trans rfl, (blk_cell BK223.out 4).trans rfl, (blk_cell BK223.out 5).trans rfl, (blk_cell BK223.out 6).trans rfl, (blk_cell BK223.out 7).trans rfl⟩ (fun hHeld => ?_); refine with_tabW decode_Encode.tab20 decode_Encode.bits20 (fun HT_ HW_ => ?_)
                      generalize wc.drew = w71 at BK223 BK226 HB hHeld ⊢
                      refine pure_ (i := 0) (N := some 131) (v := ?_) (a' := ?_) #[true, false, false, false, false, false, false, false, false, false, false, false, false, false, false] rfl rfl (any_of HT_.out (by kernel_rfl)) (fun _ _ _ h => h) (Or.inl ⟨by rfl, ?_⟩) ?_ ?_
                      rotate_left
                      ·intro w'
                       go_simp; with_reducible rfl
                      rotate_left
                      ·simp only [Act.put, List.setIfInBounds_toArray, List.set_cons_zero, List.set_cons_succ, i64_w, i32_w]
                       rfl
                      refine pure_ (i := 1) (N := some 132) (v := ?_) (a' := ?_) #[true, true, false, false, false, false, false, false, false, false, false, false, false, false, false] rfl rfl (any_of HT_.out (by kernel_rfl)) (fun _ _ _ h => h) (Or.inl ⟨by rfl, ?_⟩) ?_ ?_
                      rotate_left
                      ·intro w'
                       go_simp; with_reducible rfl
                      rotate_left
                      ·simp only [Act.put, List.setIfInBounds_toArray, List.set_cons_zero, List.set_cons_succ, i64_w, i32_w]
                       rfl
                      refine pure_ (i := 4) (N := some 135) (v := ?_) (a' := ?_) #[true, true, false, false, true, false, false, false, false, false, false, false, false, false, false] rfl rfl (any_of HT_.out (by kernel_rfl)) (fun _ _ _ h => h) (Or.inl ⟨by rfl, ?_⟩) ?_ ?_
                      rotate_left
                      ·intro w'
                       go_simp; with_reducible rfl
                      rotate_left
                      ·simp only [Act.put, List.setIfInBounds_toArray, List.set_cons_zero, List.set_cons_succ, i64_w, i32_w]
                       rfl
                      refine take_ (i := 2) (N := some 133) (v := ?_) (a' := ?_) #[true, true, true, false, true, false, false, false, false, false, false, false, false, false, false] rfl rfl (take_ofW HT_.out HW_.out (by kernel_rfl)) (fun _ _ _ h => h) (Or.inl ⟨by rfl, ?_⟩) hHeld ?_ ?_
                      rotate_left
                      ·rintro w' ⟨s0, s1, s2, s3, s4, s5, s6, s7, s8, s9, s10, s11⟩
                       go_simp; with_reducible rfl
                      rotate_left
                      ·simp only [Act.put, List.setIfInBounds_toArray, List.set_cons_zero, List.set_cons_succ, i64_w, i32_w]
                       rfl
                      refine pure_ (i := 3) (N := some 134) (v := ?_) (a' := ?_) #[true, true, true, true, true, false, false, false, false, false, false, false, false, false, false] rfl rfl (any_of HT_.out (by kernel_rfl)) (fun _ _ _ h => h) (Or.inl ⟨by rfl, ?_⟩) ?_ ?_
                      rotate_left
                      ·intro w'
                       go_simp; with_reducible rfl
                      rotate_left
                      ·simp only [Act.put, List.setIfInBounds_toArray, List.set_cons_zero, List.set_cons_succ, i64_w, i32_w]
                       rfl
                      refine take_ (i := 5) (N := some 136) (v := ?_) (a' := ?_) #[true, true, true, true, true, true, false, false, false, false, false, false, false, false, false] rfl rfl (take_ofW HT_.out HW_.out (by kernel_rfl)) (fun _ _ _ h => h) (Or.inl ⟨by rfl, ?_⟩) hHeld ?_ ?_
                      rotate_left
                      ·rintro w' ⟨s0, s1, s2, s3, s4, s5, s6, s7, s8, s9, s10, s11⟩
                       go_simp; with_reducible rfl
                      rotate_left
                      ·simp only [Act.put, List.setIfInBounds_toArray, List.set_cons_zero, List.set_cons_succ, i64_w, i32_w]
                       rfl
                      refine pure_ (i := 6) (N := some 137) (v := ?_) (a' := ?_) #[true, true, true, true, true, true, true, false, false, false, false, false, false, false, false] rfl rfl (any_of HT_.out (by kernel_rfl)) (fun _ _ _ h => h) (Or.inl ⟨by rfl, ?_⟩) ?_ ?_
                      rotate_left
                      ·intro w'
                       go_simp; with_reducible rfl
                      rotate_left
                      ·simp only [Act.put, List.setIfInBounds_toArray, List.set_cons_zero, List.set_cons_succ, i64_w, i32_w]
                       rfl
                      refine pure_ (i := 7) (N := some 138) (v := ?_) (a' := ?_) #[true, true, true, true, true, true, true, true, false, false, false, false, false, false, false] rfl rfl (any_of HT_.out (by kernel_rfl)) (fun _ _ _ h => h) (Or.inl ⟨by rfl, ?_⟩) ?_ ?_
                      rotate_left
                      ·intro w'
                       go_simp; with_reducible rfl
                      rotate_left
                      ·simp only [Act.put, List.setIfInBounds_toArray, List.set_cons_zero, List.set_cons_succ, i64_w, i32_w]
                       rfl
                      refine pure_ (i := 8) (N := some 139) (v := ?_) (a' := ?_) #[true, true, true, true, true, true, true, true, true, false, false, false, false, false, false] rfl rfl (any_of HT_.out (by kernel_rfl)) (fun _ _ _ h => h) (Or.inl ⟨by rfl, ?_⟩) ?_ ?_
                      rotate_left
                      ·intro w'
                       go_simp; with_reducible rfl
                      rotate_left
                      ·simp only [Act.put, List.setIfInBounds_toArray, List.set_cons_zero, List.set_cons_succ, i64_w, i32_w]
                       rfl
                      refine pure_ (i := 10) (N := some 141) (v := ?_) (a' := ?_) #[true, true, true, true, true, true, true, true, true, false, true, false, false, false, false] rfl rfl (any_of HT_.out (by kernel_rfl)) (fun _ _ _ h => h) (Or.inl ⟨by rfl, ?_⟩) ?_ ?_
                      rotate_left
                      ·intro w'
                       go_simp; with_reducible rfl
                      rotate_left
                      ·simp only [Act.put, List.setIfInBounds_toArray, List.set_cons_zero, List.set_cons_succ, i64_w, i32_w]
                       rfl
                      refine take_ (i := 9) (N := some 140) (v := ?_) (a' := ?_) #[true, true, true, true, true, true, true, true, true, true, true, false, false, false, false] rfl rfl (take_ofW HT_.out HW_.out (by kernel_rfl)) (fun _ _ _ h => h) (Or.inl ⟨by rfl, ?_⟩) hHeld ?_ ?_
                      rotate_left
                      ·rintro w' ⟨s0, s1, s2, s3, s4, s5, s6, s7, s8, s9, s10, s11⟩
                       go_simp; with_reducible rfl
                      rotate_left
                      ·simp only [Act.put, List.setIfInBounds_toArray, List.set_cons_zero, List.set_cons_succ, i64_w, i32_w]
                       rfl
                      refine take_ (i := 12) (N := some 143) (v := ?_) (a' := ?_) #[true, true, true, true, true, true, true, true, true, true, true, false, true, false, false] rfl rfl (take_ofW HT_.out HW_.out (by kernel_rfl)) (fun _ _ _ h => h) (Or.inl ⟨by rfl, ?_⟩) hHeld ?_ ?_
                      rotate_left
                      ·rintro w' ⟨s0, s1, s2, s3, s4, s5, s6, s7, s8, s9, s10, s11⟩
                       go_simp; with_reducible rfl
                      rotate_left
                      ·simp only [Act.put, List.setIfInBounds_toArray, List.set_cons_zero, List.set_cons_succ, i64_w, i32_w]
                       rfl
                      refine one_ (i := 11) (N := some 142) #[true, true, true, true, true, true, true, true, true, true, true, true, true, false, false] rfl rfl (one_of HT_.out (by kernel_rfl)) (by decide) (fun K hK => ?_)
                      refine goes_ Tryz.func71 (by kernel_rfl) rfl #[.int .i64 a0_0, .int .u32 x5_57] (by rfl) rfl rfl (by (try simp only [List.map_toArray, List.map_cons, List.map_nil]); first | done | rfl | (simp only [List.length_drop, List.length_take]; rfl)) ?_
                      with_reducible refine (decode_said.calls kj57 a0_0 x5_57 t233 t234 t235 t236 t237 t238 t239 t240 _ A63.out).mono ?_
                      rintro e w72 ⟨rfl, hb⟩
                      refine ⟨_, rfl, ?_⟩
                      have n0_ := Aside0.mk (blk_below (g := gb223) (o := .cells #[.int .i64 a0_0, .int .i64 a0_1, .int .i64 a0_2, .int .i64 a0_3, .int .i64 a0_4, .int .i64 a0_5, .bool a0_6, .bool a0_7] 23 (0, 0)) (by (with_reducible repeat (first | refine blk_drewN ?_ _ | refine blk_drew ?_ | refine blk_alloc ?_ _)); exact BK223.out) hb)
                      have n1_ := Aside0.mk (blk_below (g := gb226) (o := .cells #[.string ((rowAt (ji28)).1), .int .u32 ((rowAt (ji28)).2.1), .int .u32 ((rowAt (ji28)).2.2.1), .int .i64 ((rowAt (ji28)).2.2.2)] 106 (0, 0)) (by (with_reducible repeat (first | refine blk_drewN ?_ _ | refine blk_drew ?_ | refine blk_alloc ?_ _)); exact BK226.out) hb)
                      have n2_ := Aside0.mk (below_step (by repeat (first | (with_reducible first | exact HB.out | apply below_alloc | apply pw_below_drewN | apply below_drew1 | refine below_set ?_ GE223.out | refine below_set ?_ GE226.out) | exact HB.out)) hb)
                      clear BK223 BK226 HB; have BK223 := n0_; have BK226 := n1_; have HB := n2_; clear n0_ n1_ n2_ hb; refine hK.out _ _ ⟨(blk_cell BK226.out 0).trans rfl, (blk_cell BK226.out 1).trans rfl, (blk_cell BK226.out 2).trans rfl, (blk_cell BK226.out 3).trans rfl, (blk_cell BK223.out 0).trans rfl, (blk_cell BK223.out 1).trans rfl, (blk_cell BK223.out 2).trans rfl, (blk_cell BK223.out 3).trans rfl, (blk_cell BK223.out 4).trans rfl, (blk_cell BK223.out 5).trans rfl, (blk_cell BK223.out 6).trans rfl, (blk_cell BK223.out 7).trans rfl⟩ (fun hHeld => ?_)
                      clear hK K; refine norm_ (a' := ?_) ?_ ?_
                      rotate_left
                      ·show Act.put _ (some 142) _ = _
                       simp only [Act.put, List.setIfInBounds_toArray, List.set_cons_zero, List.set_cons_succ, i64_w, i32_w]
                       rfl
                      refine pure_ (i := 13) (N := some 144) (v := ?_) (a' := ?_) #[true, true, true, true, true, true, true, true, true, true, true, true, true, true, false] rfl rfl (any_of HT_.out (by kernel_rfl)) (fun _ _ _ h => h) (Or.inl ⟨by rfl, ?_⟩) ?_ ?_
                      rotate_left
                      ·intro w'
                       go_simp; with_reducible rfl
                      rotate_left
                      ·simp only [Act.put, List.setIfInBounds_toArray, List.set_cons_zero, List.set_cons_succ, i64_w, i32_w]
                       rfl
                      refine pure_ (i := 14) (N := some 145) (v := ?_) (a' := ?_) #[true, true, true, true, true, true, true, true, true, true, true, true, true, true, true] rfl rfl (any_of HT_.out (by kernel_rfl)) (fun _ _ _ h => h) (Or.inl ⟨by rfl, ?_⟩) ?_ ?_
                      rotate_left
                      ·intro w'
                       go_simp; with_reducible rfl
                      rotate_left
                      ·simp only [Act.put, List.setIfInBounds_toArray, List.set_cons_zero, List.set_cons_succ, i64_w, i32_w]
                       rfl
                      refine done_ (done_of HT_.out (by kernel_rfl)) ?_
                      try go_wp2
                      go_ret2
                      exact ⟨by first | rfl | (simp [errW_none, errW_some] <;> rfl) | (simp only [← hji28]; first | rfl | (simp [errW_none, errW_some] <;> rfl)) | (simp [*, errW_none, errW_some] <;> rfl), by repeat (first | (with_reducible first | exact HB.out | apply below_alloc | apply pw_below_drewN | apply below_drew1 | refine below_set ?_ GE223.out | refine below_set ?_ GE226.out) | exact HB.out)⟩
                    ·rw [if_neg c62] at H
                     have c62b0 : ((Go.bits .and .u32 x5_57 ((rowAt (ji28)).2.1)) == ((rowAt (ji28)).2.2.1)) = false := beq_eq_false_iff_ne.mpr c62
                     have c62b1 : ((Go.bits .and .u32 x5_57 ((rowAt (ji28)).2.1)) != ((rowAt (ji28)).2.2.1)) = true := bne_iff_ne.mpr c62
                     simp only [Option.some.injEq, Prod.mk.injEq] at H
                     obtain ⟨rfl, rfl⟩ := H
                     have hnb73 := NB226_223.out; have hnc73 := NB223_226.out; have hcz74_0 : wc.cell? ⟨gb226, 0, none⟩ = some (.string ((rowAt (ji28)).1)) := (blk_cell BK226.out 0).trans rfl
                     have hcz74_1 : wc.cell? ⟨gb226, 1, none⟩ = some (.int .u32 ((rowAt (ji28)).2.1)) := (blk_cell BK226.out 1).trans rfl
                     have hcz74_2 : wc.cell? ⟨gb226, 2, none⟩ = some (.int .u32 ((rowAt (ji28)).2.2.1)) := (blk_cell BK226.out 2).trans rfl
                     have hcz74_3 : wc.cell? ⟨gb226, 3, none⟩ = some (.int .i64 ((rowAt (ji28)).2.2.2)) := (blk_cell BK226.out 3).trans rfl
                     have hfz74_0 := blk_frozen BK226.out 0
                     have hfz74_1 := blk_frozen BK226.out 1
                     have hfz74_2 := blk_frozen BK226.out 2
                     have hfz74_3 := blk_frozen BK226.out 3
                     try go_wp2_with (first | ((with_reducible refine gate_callee (f := 69) rfl ?_); refine goesL_ (some 116) rfl rfl Tryz.func69 (by kernel_rfl) rfl #[.int .i64 ((rowAt (ji28)).2.2.2)] rfl (by (try simp only [List.map_toArray, List.map_cons, List.map_nil]); first | done | (simp only [hji28]; rfl) | rfl | (simp only [List.length_drop, List.length_take]; rfl)) ?_; (with_reducible refine (decode_number.calls ((rowAt (ji28)).2.2.2) t232 _ A60.out).mono ?_); rintro e w' ⟨rfl, ⟨nd, rfl⟩⟩; refine ⟨_, rfl, ?_⟩))
                     (try (rw [drewN_self wc]; generalize hq_ : World.drewN wc _ = wc; have n0_ : Aside0 (wc.heap[gb223]? = some (.cells #[.int .i64 a0_0, .int .i64 a0_1, .int .i64 a0_2, .int .i64 a0_3, .int .i64 a0_4, .int .i64 a0_5, .bool a0_6, .bool a0_7] 23 (0, 0))) := ⟨by rw [← hq_]; exact (by (with_reducible repeat (first | refine blk_drewN ?_ _ | refine blk_drew ?_ | refine blk_alloc ?_ _)); exact BK223.out)⟩; have n1_ : Aside0 (wc.heap[gb226]? = some (.cells #[.string ((rowAt (ji28)).1), .int .u32 ((rowAt (ji28)).2.1), .int .u32 ((rowAt (ji28)).2.2.1), .int .i64 ((rowAt (ji28)).2.2.2)] 106 (0, 0))) := ⟨by rw [← hq_]; exact (by (with_reducible repeat (first | refine blk_drewN ?_ _ | refine blk_drew ?_ | refine blk_alloc ?_ _)); exact BK226.out)⟩; have n2_ : Aside0 (Below w.heap.size w wc) := ⟨by rw [← hq_]; exact (by repeat (first | (with_reducible first | exact HB.out | apply below_alloc | apply pw_below_drewN | apply below_drew1 | refine below_set ?_ GE223.out | refine below_set ?_ GE226.out) | exact HB.out))⟩; clear BK223 BK226 HB hq_; have BK223 := n0_; have BK226 := n1_; have HB := n2_; clear n0_ n1_ n2_))
                     have n0_ := Aside0.mk (blk_drew BK223.out)
                     have n1_ := Aside0.mk (blk_drew BK226.out)
                     have n2_ := Aside0.mk (below_drew1 HB.out)
                     clear BK223 BK226 HB; have BK223 := n0_; have BK226 := n1_; have HB := n2_; clear n0_ n1_ n2_; refine start_ (n := 15) (S := fun w' => w'.cell? ⟨gb226, 0, none⟩ = some (.string ((rowAt (ji28)).1)) ∧ w'.cell? ⟨gb226, 1, none⟩ = some (.int .u32 ((rowAt (ji28)).2.1)) ∧ w'.cell? ⟨gb226, 2, none⟩ = some (.int .u32 ((rowAt (ji28)).2.2.1)) ∧ w'.cell? ⟨gb226, 3, none⟩ = some (.int .i64 ((rowAt (ji28)).2.2.2))) (ds := []) #[false, false, false, false, false, false, false, false, false, false, false, false, false, false, false] (by kernel_rfl) rfl rfl ⟨(blk_cell BK226.out 0).trans rfl, (blk_cell BK226.out 1).trans rfl, (blk_cell BK226.out 2).trans rfl, (blk_cell BK226.out 3).trans rfl⟩ (fun hHeld => ?_); refine with_tabW decode_Encode.tab20 decode_Encode.bits20 (fun HT_ HW_ => ?_)
                     generalize wc.drew = w75 at BK223 BK226 HB hHeld ⊢
                     refine pure_ (i := 0) (N := some 131) (v := ?_) (a' := ?_) #[true, false, false, false, false, false, false, false, false, false, false, false, false, false, false] rfl rfl (any_of HT_.out (by kernel_rfl)) (fun _ _ _ h => h) (Or.inl ⟨by rfl, ?_⟩) ?_ ?_
                     rotate_left
                     ·intro w'
                      go_simp; with_reducible rfl
                     rotate_left
                     ·simp only [Act.put, List.setIfInBounds_toArray, List.set_cons_zero, List.set_cons_succ, i64_w, i32_w]
                      rfl
                     refine pure_ (i := 1) (N := some 132) (v := ?_) (a' := ?_) #[true, true, false, false, false, false, false, false, false, false, false, false, false, false, false] rfl rfl (any_of HT_.out (by kernel_rfl)) (fun _ _ _ h => h) (Or.inl ⟨by rfl, ?_⟩) ?_ ?_
                     rotate_left
                     ·intro w'
                      go_simp; with_reducible rfl
                     rotate_left
                     ·simp only [Act.put, List.setIfInBounds_toArray, List.set_cons_zero, List.set_cons_succ, i64_w, i32_w]
                      rfl
                     refine pure_ (i := 4) (N := some 135) (v := ?_) (a' := ?_) #[true, true, false, false, true, false, false, false, false, false, false, false, false, false, false] rfl rfl (any_of HT_.out (by kernel_rfl)) (fun _ _ _ h => h) (Or.inl ⟨by rfl, ?_⟩) ?_ ?_
                     rotate_left
                     ·intro w'
                      go_simp; with_reducible rfl
                     rotate_left
                     ·simp only [Act.put, List.setIfInBounds_toArray, List.set_cons_zero, List.set_cons_succ, i64_w, i32_w]
                      rfl
                     refine take_ (i := 2) (N := some 133) (v := ?_) (a' := ?_) #[true, true, true, false, true, false, false, false, false, false, false, false, false, false, false] rfl rfl (take_ofW HT_.out HW_.out (by kernel_rfl)) (fun _ _ _ h => h) (Or.inl ⟨by rfl, ?_⟩) hHeld ?_ ?_
                     rotate_left
                     ·rintro w' ⟨s0, s1, s2, s3⟩
                      go_simp; with_reducible rfl
                     rotate_left
                     ·simp only [Act.put, List.setIfInBounds_toArray, List.set_cons_zero, List.set_cons_succ, i64_w, i32_w]
                      rfl
                     refine pure_ (i := 3) (N := some 134) (v := ?_) (a' := ?_) #[true, true, true, true, true, false, false, false, false, false, false, false, false, false, false] rfl rfl (any_of HT_.out (by kernel_rfl)) (fun _ _ _ h => h) (Or.inl ⟨by rfl, ?_⟩) ?_ ?_
                     rotate_left
                     ·intro w'
                      go_simp; with_reducible rfl
                     rotate_left
                     ·simp only [Act.put, List.setIfInBounds_toArray, List.set_cons_zero, List.set_cons_succ, i64_w, i32_w]
                      rfl
                     refine take_ (i := 5) (N := some 136) (v := ?_) (a' := ?_) #[true, true, true, true, true, true, false, false, false, false, false, false, false, false, false] rfl rfl (take_ofW HT_.out HW_.out (by kernel_rfl)) (fun _ _ _ h => h) (Or.inl ⟨by rfl, ?_⟩) hHeld ?_ ?_
                     rotate_left
                     ·rintro w' ⟨s0, s1, s2, s3⟩
                      go_simp; with_reducible rfl
                     rotate_left
                     ·simp only [Act.put, List.setIfInBounds_toArray, List.set_cons_zero, List.set_cons_succ, i64_w, i32_w]
                      rfl
                     refine pure_ (i := 6) (N := some 137) (v := ?_) (a' := ?_) #[true, true, true, true, true, true, true, false, false, false, false, false, false, false, false] rfl rfl (any_of HT_.out (by kernel_rfl)) (fun _ _ _ h => h) (Or.inl ⟨by rfl, ?_⟩) ?_ ?_
                     rotate_left
                     ·intro w'
                      go_simp; with_reducible rfl
                     rotate_left
                     ·simp only [Act.put, List.setIfInBounds_toArray, List.set_cons_zero, List.set_cons_succ, i64_w, i32_w]
                      rfl
                     refine pure_ (i := 7) (N := some 138) (v := ?_) (a' := ?_) #[true, true, true, true, true, true, true, true, false, false, false, false, false, false, false] rfl rfl (any_of HT_.out (by kernel_rfl)) (fun _ _ _ h => h) (Or.inl ⟨by rfl, ?_⟩) ?_ ?_
                     rotate_left
                     ·intro w'
                      go_simp; with_reducible rfl
                     rotate_left
                     ·simp only [Act.put, List.setIfInBounds_toArray, List.set_cons_zero, List.set_cons_succ, i64_w, i32_w]
                      rfl
                     refine pure_ (i := 8) (N := some 139) (v := undef) (a' := ?_) #[true, true, true, true, true, true, true, true, true, false, false, false, false, false, false] rfl rfl (any_of HT_.out (by kernel_rfl)) (fun _ _ _ h => h) (Or.inr ⟨by rfl, rfl⟩) ?_ ?_
                     rotate_left
                     ·simp only [Act.put, List.setIfInBounds_toArray, List.set_cons_zero, List.set_cons_succ, i64_w, i32_w]
                      rfl
                     refine pure_ (i := 9) (N := some 140) (v := undef) (a' := ?_) #[true, true, true, true, true, true, true, true, true, true, false, false, false, false, false] rfl rfl (any_of HT_.out (by kernel_rfl)) (fun _ _ _ h => h) (Or.inr ⟨by rfl, rfl⟩) ?_ ?_
                     rotate_left
                     ·simp only [Act.put, List.setIfInBounds_toArray, List.set_cons_zero, List.set_cons_succ, i64_w, i32_w]
                      rfl
                     refine pure_ (i := 10) (N := some 141) (v := undef) (a' := ?_) #[true, true, true, true, true, true, true, true, true, true, true, false, false, false, false] rfl rfl (any_of HT_.out (by kernel_rfl)) (fun _ _ _ h => h) (Or.inr ⟨by rfl, rfl⟩) ?_ ?_
                     rotate_left
                     ·simp only [Act.put, List.setIfInBounds_toArray, List.set_cons_zero, List.set_cons_succ, i64_w, i32_w]
                      rfl
                     refine pure_ (i := 11) (N := some 142) (v := undef) (a' := ?_) #[true, true, true, true, true, true, true, true, true, true, true, true, false, false, false] rfl rfl (any_of HT_.out (by kernel_rfl)) (fun _ _ _ h => h) (Or.inr ⟨by rfl, rfl⟩) ?_ ?_
                     rotate_left
                     ·simp only [Act.put, List.setIfInBounds_toArray, List.set_cons_zero, List.set_cons_succ, i64_w, i32_w]
                      rfl
                     refine pure_ (i := 12) (N := some 143) (v := undef) (a' := ?_) #[true, true, true, true, true, true, true, true, true, true, true, true, true, false, false] rfl rfl (any_of HT_.out (by kernel_rfl)) (fun _ _ _ h => h) (Or.inr ⟨by rfl, rfl⟩) ?_ ?_
                     rotate_left
                     ·simp only [Act.put, List.setIfInBounds_toArray, List.set_cons_zero, List.set_cons_succ, i64_w, i32_w]
                      rfl
                     refine pure_ (i := 13) (N := some 144) (v := undef) (a' := ?_) #[true, true, true, true, true, true, true, true, true, true, true, true, true, true, false] rfl rfl (any_of HT_.out (by kernel_rfl)) (fun _ _ _ h => h) (Or.inr ⟨by rfl, rfl⟩) ?_ ?_
                     rotate_left
                     ·simp only [Act.put, List.setIfInBounds_toArray, List.set_cons_zero, List.set_cons_succ, i64_w, i32_w]
                      rfl
                     refine pure_ (i := 14) (N := some 145) (v := ?_) (a' := ?_) #[true, true, true, true, true, true, true, true, true, true, true, true, true, true, true] rfl rfl (any_of HT_.out (by kernel_rfl)) (fun _ _ _ h => h) (Or.inl ⟨by rfl, ?_⟩) ?_ ?_
                     rotate_left
                     ·intro w'
                      go_simp; with_reducible rfl
                     rotate_left
                     ·simp only [Act.put, List.setIfInBounds_toArray, List.set_cons_zero, List.set_cons_succ, i64_w, i32_w]
                      rfl
                     refine done_ (done_of HT_.out (by kernel_rfl)) ?_
                     try go_wp2
                     go_ret2
                     exact ⟨by first | rfl | (simp [errW_none, errW_some] <;> rfl) | (simp only [← hji28]; first | rfl | (simp [errW_none, errW_some] <;> rfl)) | (simp [*, errW_none, errW_some] <;> rfl), by repeat (first | (with_reducible first | exact HB.out | apply below_alloc | apply pw_below_drewN | apply below_drew1 | refine below_set ?_ GE223.out | refine below_set ?_ GE226.out) | exact HB.out)⟩
                   ·rw [if_neg c61] at H
                    have c61b0 : (t232 == 0) = false := beq_eq_false_iff_ne.mpr c61
                    have c61b1 : (t232 != 0) = true := bne_iff_ne.mpr c61
                    replace H := Option.bind_eq_some_iff.mp H
                    obtain ⟨⟨t241, t242⟩, A760, H⟩ := H
                    replace H : (if t242 = true then (if (Go.bits .and .u32 (Go.bits .or .u32 x5_57 t241) ((rowAt (ji28)).2.1)) = ((rowAt (ji28)).2.2.1) then ((decode_said.f kj57 a0_0 (Go.bits .or .u32 x5_57 t241)).bind fun bt243 => (if (!(bt243.1 == a0_0) || (!(bt243.2.1 == a0_1) || (!(bt243.2.2.1 == a0_2) || (!(bt243.2.2.2.1 == a0_3) || (!(bt243.2.2.2.2.1 == a0_4) || (!(bt243.2.2.2.2.2.1 == a0_5) || (!(bt243.2.2.2.2.2.2.1 == a0_6) || (!(bt243.2.2.2.2.2.2.2 == a0_7))))))))) = true then (some (0, 80)) else (some (Go.bits .or .u32 x5_57 t241, 0)))) else (some (0, 80))) else (some (0, 80))) = some (r1, r2) := H
                    have A76 := Aside0.mk A760
                    clear A760; by_cases c77 : t242 = true
                    ·subst c77
                     have H1 : (if (Go.bits .and .u32 (Go.bits .or .u32 x5_57 t241) ((rowAt (ji28)).2.1)) = ((rowAt (ji28)).2.2.1) then ((decode_said.f kj57 a0_0 (Go.bits .or .u32 x5_57 t241)).bind fun bt243 => (if (!(bt243.1 == a0_0) || (!(bt243.2.1 == a0_1) || (!(bt243.2.2.1 == a0_2) || (!(bt243.2.2.2.1 == a0_3) || (!(bt243.2.2.2.2.1 == a0_4) || (!(bt243.2.2.2.2.2.1 == a0_5) || (!(bt243.2.2.2.2.2.2.1 == a0_6) || (!(bt243.2.2.2.2.2.2.2 == a0_7))))))))) = true then (some (0, 80)) else (some (Go.bits .or .u32 x5_57 t241, 0)))) else (some (0, 80))) = some (r1, r2) := by rw [if_pos rfl] at H; exact H
                     clear H; have H := H1; clear H1; by_cases c78 : (Go.bits .and .u32 (Go.bits .or .u32 x5_57 t241) ((rowAt (ji28)).2.1)) = ((rowAt (ji28)).2.2.1)
                     ·rw [if_pos c78] at H
                      have c78b0 : ((Go.bits .and .u32 (Go.bits .or .u32 x5_57 t241) ((rowAt (ji28)).2.1)) == ((rowAt (ji28)).2.2.1)) = true := beq_iff_eq.mpr c78
                      have c78b1 : ((Go.bits .and .u32 (Go.bits .or .u32 x5_57 t241) ((rowAt (ji28)).2.1)) != ((rowAt (ji28)).2.2.1)) = false := bne_eq_false_iff_eq.mpr c78
                      clear c78; replace H := Option.bind_eq_some_iff.mp H
                      obtain ⟨⟨t243, t244, t245, t246, t247, t248, t249, t250⟩, A790, H⟩ := H
                      replace H : (if (!(t243 == a0_0) || (!(t244 == a0_1) || (!(t245 == a0_2) || (!(t246 == a0_3) || (!(t247 == a0_4) || (!(t248 == a0_5) || (!(t249 == a0_6) || (!(t250 == a0_7))))))))) = true then (some (0, 80)) else (some (Go.bits .or .u32 x5_57 t241, 0))) = some (r1, r2) := H
                      have A79 := Aside0.mk A790
                      clear A790; by_cases c80 : (!(t243 == a0_0) || (!(t244 == a0_1) || (!(t245 == a0_2) || (!(t246 == a0_3) || (!(t247 == a0_4) || (!(t248 == a0_5) || (!(t249 == a0_6) || (!(t250 == a0_7))))))))) = true
                      ·rw [if_pos c80] at H
                       have c80b0 : (!(t243 == a0_0) || (!(t244 == a0_1) || (!(t245 == a0_2) || (!(t246 == a0_3) || (!(t247 == a0_4) || (!(t248 == a0_5) || (!(t249 == a0_6) || (!(t250 == a0_7))))))))) = true := c80
                       clear c80; simp only [Option.some.injEq, Prod.mk.injEq] at H
                       obtain ⟨rfl, rfl⟩ := H
                       have hnb81 := NB226_223.out; have hnc81 := NB223_226.out; have hcz82_0 : wc.cell? ⟨gb226, 0, none⟩ = some (.string ((rowAt (ji28)).1)) := (blk_cell BK226.out 0).trans rfl
                       have hcz82_1 : wc.cell? ⟨gb226, 1, none⟩ = some (.int .u32 ((rowAt (ji28)).2.1)) := (blk_cell BK226.out 1).trans rfl
                       have hcz82_2 : wc.cell? ⟨gb226, 2, none⟩ = some (.int .u32 ((rowAt (ji28)).2.2.1)) := (blk_cell BK226.out 2).trans rfl
                       have hcz82_3 : wc.cell? ⟨gb226, 3, none⟩ = some (.int .i64 ((rowAt (ji28)).2.2.2)) := (blk_cell BK226.out 3).trans rfl
                       have hfz82_0 := blk_frozen BK226.out 0
                       have hfz82_1 := blk_frozen BK226.out 1
                       have hfz82_2 := blk_frozen BK226.out 2
                       have hfz82_3 := blk_frozen BK226.out 3
                       try go_wp2_with (first | ((with_reducible refine gate_callee (f := 69) rfl ?_); refine goesL_ (some 116) rfl rfl Tryz.func69 (by kernel_rfl) rfl #[.int .i64 ((rowAt (ji28)).2.2.2)] rfl (by (try simp only [List.map_toArray, List.map_cons, List.map_nil]); first | done | (simp only [hji28]; rfl) | rfl | (simp only [List.length_drop, List.length_take]; rfl)) ?_; (with_reducible refine (decode_number.calls ((rowAt (ji28)).2.2.2) t232 _ A60.out).mono ?_); rintro e w' ⟨rfl, ⟨nd, rfl⟩⟩; refine ⟨_, rfl, ?_⟩; have hcz83_0 : wc.cell? ⟨gb223, 0, none⟩ = some (.int .i64 a0_0) := (blk_cell BK223.out 0).trans rfl; have hcz83_1 : wc.cell? ⟨gb223, 1, none⟩ = some (.int .i64 a0_1) := (blk_cell BK223.out 1).trans rfl; have hcz83_2 : wc.cell? ⟨gb223, 2, none⟩ = some (.int .i64 a0_2) := (blk_cell BK223.out 2).trans rfl; have hcz83_3 : wc.cell? ⟨gb223, 3, none⟩ = some (.int .i64 a0_3) := (blk_cell BK223.out 3).trans rfl; have hcz83_4 : wc.cell? ⟨gb223, 4, none⟩ = some (.int .i64 a0_4) := (blk_cell BK223.out 4).trans rfl; have hcz83_5 : wc.cell? ⟨gb223, 5, none⟩ = some (.int .i64 a0_5) := (blk_cell BK223.out 5).trans rfl; have hcz83_6 : wc.cell? ⟨gb223, 6, none⟩ = some (.bool a0_6) := (blk_cell BK223.out 6).trans rfl; have hcz83_7 : wc.cell? ⟨gb223, 7, none⟩ = some (.bool a0_7) := (blk_cell BK223.out 7).trans rfl; have hfz83_0 := blk_frozen BK223.out 0; have hfz83_1 := blk_frozen BK223.out 1; have hfz83_2 := blk_frozen BK223.out 2; have hfz83_3 := blk_frozen BK223.out 3; have hfz83_4 := blk_frozen BK223.out 4; have hfz83_5 := blk_frozen BK223.out 5; have hfz83_6 := blk_frozen BK223.out 6; have hfz83_7 := blk_frozen BK223.out 7) | ((with_reducible refine gate_callee (f := 70) rfl ?_); refine goesL_ (some 123) rfl rfl Tryz.func70 (by kernel_rfl) rfl #[.int .i64 t232, .int .i64 a0_4] rfl (by (try simp only [List.map_toArray, List.map_cons, List.map_nil]); first | done | rfl | (simp only [List.length_drop, List.length_take]; rfl)) ?_; (with_reducible refine (fields_Put.calls kj57 t232 a0_4 t241 true _ A76.out).mono ?_); rintro e w84 ⟨rfl, hb⟩; refine ⟨_, rfl, ?_⟩; have n0_ := Aside0.mk (blk_below (g := gb223) (o := .cells #[.int .i64 a0_0, .int .i64 a0_1, .int .i64 a0_2, .int .i64 a0_3, .int .i64 a0_4, .int .i64 a0_5, .bool a0_6, .bool a0_7] 23 (0, 0)) (by (with_reducible repeat (first | refine blk_drewN ?_ _ | refine blk_drew ?_ | refine blk_alloc ?_ _)); exact BK223.out) hb); have n1_ := Aside0.mk (blk_below (g := gb226) (o := .cells #[.string ((rowAt (ji28)).1), .int .u32 ((rowAt (ji28)).2.1), .int .u32 ((rowAt (ji28)).2.2.1), .int .i64 ((rowAt (ji28)).2.2.2)] 106 (0, 0)) (by (with_reducible repeat (first | refine blk_drewN ?_ _ | refine blk_drew ?_ | refine blk_alloc ?_ _)); exact BK226.out) hb); have n2_ := Aside0.mk (below_step (by repeat (first | (with_reducible first | exact HB.out | apply below_alloc | apply pw_below_drewN | apply below_drew1 | refine below_set ?_ GE223.out | refine below_set ?_ GE226.out) | exact HB.out)) hb); clear BK223 BK226 HB; have BK223 := n0_; have BK226 := n1_; have HB := n2_; clear n0_ n1_ n2_ hb))
                       have n0_ := Aside0.mk (blk_drew BK223.out)
                       have n1_ := Aside0.mk (blk_drew BK226.out)
                       have n2_ := Aside0.mk (below_drew1 HB.out)
                       clear BK223 BK226 HB; have BK223 := n0_; have BK226 := n1_; have HB := n2_; clear n0_ n1_ n2_; refine start_ (n := 15) (S := fun w' => w'.cell? ⟨gb226, 0, none⟩ = some (.string ((rowAt (ji28)).1)) ∧ w'.cell? ⟨gb226, 1, none⟩ = some (.int .u32 ((rowAt (ji28)).2.1)) ∧ w'.cell? ⟨gb226, 2, none⟩ = some (.int .u32 ((rowAt (ji28)).2.2.1)) ∧ w'.cell? ⟨gb226, 3, none⟩ = some (.int .i64 ((rowAt (ji28)).2.2.2)) ∧ w'.cell? ⟨gb223, 0, none⟩ = some (.int .i64 a0_0) ∧ w'.cell? ⟨gb223, 1, none⟩ = some (.int .i64 a0_1) ∧ w'.cell? ⟨gb223, 2, none⟩ = some (.int .i64 a0_2) ∧ w'.cell? ⟨gb223, 3, none⟩ = some (.int .i64 a0_3) ∧ w'.cell? ⟨gb223, 4, none⟩ = some (.int .i64 a0_4) ∧ w'.cell? ⟨gb223, 5, none⟩ = some (.int .i64 a0_5) ∧ w'.cell? ⟨gb223, 6, none⟩ = some (.bool a0_6) ∧ w'.cell? ⟨gb223, 7, none⟩ = some (.bool a0_7)) (ds := []) #[false, false, false, false, false, false, false, false, false, false, false, false, false, false, false] (by kernel_rfl) rfl rfl ⟨(blk_cell BK226.out 0).trans rfl, (blk_cell BK226.out 1).trans rfl, (blk_cell BK226.out 2).trans rfl, (blk_cell BK226.out 3).trans rfl, (blk_cell BK223.out 0).trans rfl, (blk_cell BK223.out 1).trans rfl, (blk_cell BK223.out 2).trans rfl, (blk_cell BK223.out 3).trans rfl, (blk_cell BK223.out 4).trans rfl, (blk_cell BK223.out 5).trans rfl, (blk_cell BK223.out 6).trans rfl, (blk_cell BK223.out 7).trans rfl⟩ (fun hHeld => ?_); refine with_tabW decode_Encode.tab20 decode_Encode.bits20 (fun HT_ HW_ => ?_)
                       generalize w84.drew = w85 at BK223 BK226 HB hHeld ⊢
                       refine pure_ (i := 0) (N := some 131) (v := ?_) (a' := ?_) #[true, false, false, false, false, false, false, false, false, false, false, false, false, false, false] rfl rfl (any_of HT_.out (by kernel_rfl)) (fun _ _ _ h => h) (Or.inl ⟨by rfl, ?_⟩) ?_ ?_
                       rotate_left
                       ·intro w'
                        go_simp; with_reducible rfl
                       rotate_left
                       ·simp only [Act.put, List.setIfInBounds_toArray, List.set_cons_zero, List.set_cons_succ, i64_w, i32_w]
                        rfl
                       refine pure_ (i := 1) (N := some 132) (v := ?_) (a' := ?_) #[true, true, false, false, false, false, false, false, false, false, false, false, false, false, false] rfl rfl (any_of HT_.out (by kernel_rfl)) (fun _ _ _ h => h) (Or.inl ⟨by rfl, ?_⟩) ?_ ?_
                       rotate_left
                       ·intro w'
                        go_simp; with_reducible rfl
                       rotate_left
                       ·simp only [Act.put, List.setIfInBounds_toArray, List.set_cons_zero, List.set_cons_succ, i64_w, i32_w]
                        rfl
                       refine pure_ (i := 4) (N := some 135) (v := ?_) (a' := ?_) #[true, true, false, false, true, false, false, false, false, false, false, false, false, false, false] rfl rfl (any_of HT_.out (by kernel_rfl)) (fun _ _ _ h => h) (Or.inl ⟨by rfl, ?_⟩) ?_ ?_
                       rotate_left
                       ·intro w'
                        go_simp; with_reducible rfl
                       rotate_left
                       ·simp only [Act.put, List.setIfInBounds_toArray, List.set_cons_zero, List.set_cons_succ, i64_w, i32_w]
                        rfl
                       refine take_ (i := 2) (N := some 133) (v := ?_) (a' := ?_) #[true, true, true, false, true, false, false, false, false, false, false, false, false, false, false] rfl rfl (take_ofW HT_.out HW_.out (by kernel_rfl)) (fun _ _ _ h => h) (Or.inl ⟨by rfl, ?_⟩) hHeld ?_ ?_
                       rotate_left
                       ·rintro w' ⟨s0, s1, s2, s3, s4, s5, s6, s7, s8, s9, s10, s11⟩
                        go_simp; with_reducible rfl
                       rotate_left
                       ·simp only [Act.put, List.setIfInBounds_toArray, List.set_cons_zero, List.set_cons_succ, i64_w, i32_w]
                        rfl
                       refine pure_ (i := 3) (N := some 134) (v := ?_) (a' := ?_) #[true, true, true, true, true, false, false, false, false, false, false, false, false, false, false] rfl rfl (any_of HT_.out (by kernel_rfl)) (fun _ _ _ h => h) (Or.inl ⟨by rfl, ?_⟩) ?_ ?_
                       rotate_left
                       ·intro w'
                        go_simp; with_reducible rfl
                       rotate_left
                       ·simp only [Act.put, List.setIfInBounds_toArray, List.set_cons_zero, List.set_cons_succ, i64_w, i32_w]
                        rfl
                       refine take_ (i := 5) (N := some 136) (v := ?_) (a' := ?_) #[true, true, true, true, true, true, false, false, false, false, false, false, false, false, false] rfl rfl (take_ofW HT_.out HW_.out (by kernel_rfl)) (fun _ _ _ h => h) (Or.inl ⟨by rfl, ?_⟩) hHeld ?_ ?_
                       rotate_left
                       ·rintro w' ⟨s0, s1, s2, s3, s4, s5, s6, s7, s8, s9, s10, s11⟩
                        go_simp; with_reducible rfl
                       rotate_left
                       ·simp only [Act.put, List.setIfInBounds_toArray, List.set_cons_zero, List.set_cons_succ, i64_w, i32_w]
                        rfl
                       refine pure_ (i := 6) (N := some 137) (v := ?_) (a' := ?_) #[true, true, true, true, true, true, true, false, false, false, false, false, false, false, false] rfl rfl (any_of HT_.out (by kernel_rfl)) (fun _ _ _ h => h) (Or.inl ⟨by rfl, ?_⟩) ?_ ?_
                       rotate_left
                       ·intro w'
                        go_simp; with_reducible rfl
                       rotate_left
                       ·simp only [Act.put, List.setIfInBounds_toArray, List.set_cons_zero, List.set_cons_succ, i64_w, i32_w]
                        rfl
                       refine pure_ (i := 7) (N := some 138) (v := ?_) (a' := ?_) #[true, true, true, true, true, true, true, true, false, false, false, false, false, false, false] rfl rfl (any_of HT_.out (by kernel_rfl)) (fun _ _ _ h => h) (Or.inl ⟨by rfl, ?_⟩) ?_ ?_
                       rotate_left
                       ·intro w'
                        go_simp; with_reducible rfl
                       rotate_left
                       ·simp only [Act.put, List.setIfInBounds_toArray, List.set_cons_zero, List.set_cons_succ, i64_w, i32_w]
                        rfl
                       refine pure_ (i := 8) (N := some 139) (v := ?_) (a' := ?_) #[true, true, true, true, true, true, true, true, true, false, false, false, false, false, false] rfl rfl (any_of HT_.out (by kernel_rfl)) (fun _ _ _ h => h) (Or.inl ⟨by rfl, ?_⟩) ?_ ?_
                       rotate_left
                       ·intro w'
                        go_simp; with_reducible rfl
                       rotate_left
                       ·simp only [Act.put, List.setIfInBounds_toArray, List.set_cons_zero, List.set_cons_succ, i64_w, i32_w]
                        rfl
                       refine pure_ (i := 10) (N := some 141) (v := ?_) (a' := ?_) #[true, true, true, true, true, true, true, true, true, false, true, false, false, false, false] rfl rfl (any_of HT_.out (by kernel_rfl)) (fun _ _ _ h => h) (Or.inl ⟨by rfl, ?_⟩) ?_ ?_
                       rotate_left
                       ·intro w'
                        go_simp; with_reducible rfl
                       rotate_left
                       ·simp only [Act.put, List.setIfInBounds_toArray, List.set_cons_zero, List.set_cons_succ, i64_w, i32_w]
                        rfl
                       refine take_ (i := 9) (N := some 140) (v := ?_) (a' := ?_) #[true, true, true, true, true, true, true, true, true, true, true, false, false, false, false] rfl rfl (take_ofW HT_.out HW_.out (by kernel_rfl)) (fun _ _ _ h => h) (Or.inl ⟨by rfl, ?_⟩) hHeld ?_ ?_
                       rotate_left
                       ·rintro w' ⟨s0, s1, s2, s3, s4, s5, s6, s7, s8, s9, s10, s11⟩
                        go_simp; with_reducible rfl
                       rotate_left
                       ·simp only [Act.put, List.setIfInBounds_toArray, List.set_cons_zero, List.set_cons_succ, i64_w, i32_w]
                        rfl
                       refine take_ (i := 12) (N := some 143) (v := ?_) (a' := ?_) #[true, true, true, true, true, true, true, true, true, true, true, false, true, false, false] rfl rfl (take_ofW HT_.out HW_.out (by kernel_rfl)) (fun _ _ _ h => h) (Or.inl ⟨by rfl, ?_⟩) hHeld ?_ ?_
                       rotate_left
                       ·rintro w' ⟨s0, s1, s2, s3, s4, s5, s6, s7, s8, s9, s10, s11⟩
                        go_simp; with_reducible rfl
                       rotate_left
                       ·simp only [Act.put, List.setIfInBounds_toArray, List.set_cons_zero, List.set_cons_succ, i64_w, i32_w]
                        rfl
                       refine one_ (i := 11) (N := some 142) #[true, true, true, true, true, true, true, true, true, true, true, true, true, false, false] rfl rfl (one_of HT_.out (by kernel_rfl)) (by decide) (fun K hK => ?_)
                       refine goes_ Tryz.func71 (by kernel_rfl) rfl #[.int .i64 a0_0, .int .u32 (Go.bits .or .u32 x5_57 t241)] (by rfl) rfl rfl (by (try simp only [List.map_toArray, List.map_cons, List.map_nil]); first | done | rfl | (simp only [List.length_drop, List.length_take]; rfl)) ?_
                       with_reducible refine (decode_said.calls kj57 a0_0 (Go.bits .or .u32 x5_57 t241) t243 t244 t245 t246 t247 t248 t249 t250 _ A79.out).mono ?_
                       rintro e w86 ⟨rfl, hb⟩
                       refine ⟨_, rfl, ?_⟩
                       have n0_ := Aside0.mk (blk_below (g := gb223) (o := .cells #[.int .i64 a0_0, .int .i64 a0_1, .int .i64 a0_2, .int .i64 a0_3, .int .i64 a0_4, .int .i64 a0_5, .bool a0_6, .bool a0_7] 23 (0, 0)) (by (with_reducible repeat (first | refine blk_drewN ?_ _ | refine blk_drew ?_ | refine blk_alloc ?_ _)); exact BK223.out) hb)
                       have n1_ := Aside0.mk (blk_below (g := gb226) (o := .cells #[.string ((rowAt (ji28)).1), .int .u32 ((rowAt (ji28)).2.1), .int .u32 ((rowAt (ji28)).2.2.1), .int .i64 ((rowAt (ji28)).2.2.2)] 106 (0, 0)) (by (with_reducible repeat (first | refine blk_drewN ?_ _ | refine blk_drew ?_ | refine blk_alloc ?_ _)); exact BK226.out) hb)
                       have n2_ := Aside0.mk (below_step (by repeat (first | (with_reducible first | exact HB.out | apply below_alloc | apply pw_below_drewN | apply below_drew1 | refine below_set ?_ GE223.out | refine below_set ?_ GE226.out) | exact HB.out)) hb)
                       clear BK223 BK226 HB; have BK223 := n0_; have BK226 := n1_; have HB := n2_; clear n0_ n1_ n2_ hb; refine hK.out _ _ ⟨(blk_cell BK226.out 0).trans rfl, (blk_cell BK226.out 1).trans rfl, (blk_cell BK226.out 2).trans rfl, (blk_cell BK226.out 3).trans rfl, (blk_cell BK223.out 0).trans rfl, (blk_cell BK223.out 1).trans rfl, (blk_cell BK223.out 2).trans rfl, (blk_cell BK223.out 3).trans rfl, (blk_cell BK223.out 4).trans rfl, (blk_cell BK223.out 5).trans rfl, (blk_cell BK223.out 6).trans rfl, (blk_cell BK223.out 7).trans rfl⟩ (fun hHeld => ?_)
                       clear hK K; refine norm_ (a' := ?_) ?_ ?_
                       rotate_left
                       ·show Act.put _ (some 142) _ = _
                        simp only [Act.put, List.setIfInBounds_toArray, List.set_cons_zero, List.set_cons_succ, i64_w, i32_w]
                        rfl
                       refine pure_ (i := 13) (N := some 144) (v := ?_) (a' := ?_) #[true, true, true, true, true, true, true, true, true, true, true, true, true, true, false] rfl rfl (any_of HT_.out (by kernel_rfl)) (fun _ _ _ h => h) (Or.inl ⟨by rfl, ?_⟩) ?_ ?_
                       rotate_left
                       ·intro w'
                        go_simp; with_reducible rfl
                       rotate_left
                       ·simp only [Act.put, List.setIfInBounds_toArray, List.set_cons_zero, List.set_cons_succ, i64_w, i32_w]
                        rfl
                       refine pure_ (i := 14) (N := some 145) (v := ?_) (a' := ?_) #[true, true, true, true, true, true, true, true, true, true, true, true, true, true, true] rfl rfl (any_of HT_.out (by kernel_rfl)) (fun _ _ _ h => h) (Or.inl ⟨by rfl, ?_⟩) ?_ ?_
                       rotate_left
                       ·intro w'
                        go_simp; with_reducible rfl
                       rotate_left
                       ·simp only [Act.put, List.setIfInBounds_toArray, List.set_cons_zero, List.set_cons_succ, i64_w, i32_w]
                        rfl
                       refine done_ (done_of HT_.out (by kernel_rfl)) ?_
                       try go_wp2
                       go_ret2
                       exact ⟨by first | rfl | (simp [errW_none, errW_some] <;> rfl) | (simp only [← hji28]; first | rfl | (simp [errW_none, errW_some] <;> rfl)) | (simp [*, errW_none, errW_some] <;> rfl), by repeat (first | (with_reducible first | exact HB.out | apply below_alloc | apply pw_below_drewN | apply below_drew1 | refine below_set ?_ GE223.out | refine below_set ?_ GE226.out) | exact HB.out)⟩
                      ·rw [if_neg c80] at H
                       have c80b0 : (!(t243 == a0_0) || (!(t244 == a0_1) || (!(t245 == a0_2) || (!(t246 == a0_3) || (!(t247 == a0_4) || (!(t248 == a0_5) || (!(t249 == a0_6) || (!(t250 == a0_7))))))))) = false := by simpa using c80
                       clear c80; simp only [Option.some.injEq, Prod.mk.injEq] at H
                       obtain ⟨rfl, rfl⟩ := H
                       have hnb87 := NB226_223.out; have hnc87 := NB223_226.out; have hcz88_0 : wc.cell? ⟨gb226, 0, none⟩ = some (.string ((rowAt (ji28)).1)) := (blk_cell BK226.out 0).trans rfl
                       have hcz88_1 : wc.cell? ⟨gb226, 1, none⟩ = some (.int .u32 ((rowAt (ji28)).2.1)) := (blk_cell BK226.out 1).trans rfl
                       have hcz88_2 : wc.cell? ⟨gb226, 2, none⟩ = some (.int .u32 ((rowAt (ji28)).2.2.1)) := (blk_cell BK226.out 2).trans rfl
                       have hcz88_3 : wc.cell? ⟨gb226, 3, none⟩ = some (.int .i64 ((rowAt (ji28)).2.2.2)) := (blk_cell BK226.out 3).trans rfl
                       have hfz88_0 := blk_frozen BK226.out 0
                       have hfz88_1 := blk_frozen BK226.out 1
                       have hfz88_2 := blk_frozen BK226.out 2
                       have hfz88_3 := blk_frozen BK226.out 3
                       try go_wp2_with (first | ((with_reducible refine gate_callee (f := 69) rfl ?_); refine goesL_ (some 116) rfl rfl Tryz.func69 (by kernel_rfl) rfl #[.int .i64 ((rowAt (ji28)).2.2.2)] rfl (by (try simp only [List.map_toArray, List.map_cons, List.map_nil]); first | done | (simp only [hji28]; rfl) | rfl | (simp only [List.length_drop, List.length_take]; rfl)) ?_; (with_reducible refine (decode_number.calls ((rowAt (ji28)).2.2.2) t232 _ A60.out).mono ?_); rintro e w' ⟨rfl, ⟨nd, rfl⟩⟩; refine ⟨_, rfl, ?_⟩; have hcz89_0 : wc.cell? ⟨gb223, 0, none⟩ = some (.int .i64 a0_0) := (blk_cell BK223.out 0).trans rfl; have hcz89_1 : wc.cell? ⟨gb223, 1, none⟩ = some (.int .i64 a0_1) := (blk_cell BK223.out 1).trans rfl; have hcz89_2 : wc.cell? ⟨gb223, 2, none⟩ = some (.int .i64 a0_2) := (blk_cell BK223.out 2).trans rfl; have hcz89_3 : wc.cell? ⟨gb223, 3, none⟩ = some (.int .i64 a0_3) := (blk_cell BK223.out 3).trans rfl; have hcz89_4 : wc.cell? ⟨gb223, 4, none⟩ = some (.int .i64 a0_4) := (blk_cell BK223.out 4).trans rfl; have hcz89_5 : wc.cell? ⟨gb223, 5, none⟩ = some (.int .i64 a0_5) := (blk_cell BK223.out 5).trans rfl; have hcz89_6 : wc.cell? ⟨gb223, 6, none⟩ = some (.bool a0_6) := (blk_cell BK223.out 6).trans rfl; have hcz89_7 : wc.cell? ⟨gb223, 7, none⟩ = some (.bool a0_7) := (blk_cell BK223.out 7).trans rfl; have hfz89_0 := blk_frozen BK223.out 0; have hfz89_1 := blk_frozen BK223.out 1; have hfz89_2 := blk_frozen BK223.out 2; have hfz89_3 := blk_frozen BK223.out 3; have hfz89_4 := blk_frozen BK223.out 4; have hfz89_5 := blk_frozen BK223.out 5; have hfz89_6 := blk_frozen BK223.out 6; have hfz89_7 := blk_frozen BK223.out 7) | ((with_reducible refine gate_callee (f := 70) rfl ?_); refine goesL_ (some 123) rfl rfl Tryz.func70 (by kernel_rfl) rfl #[.int .i64 t232, .int .i64 a0_4] rfl (by (try simp only [List.map_toArray, List.map_cons, List.map_nil]); first | done | rfl | (simp only [List.length_drop, List.length_take]; rfl)) ?_; (with_reducible refine (fields_Put.calls kj57 t232 a0_4 t241 true _ A76.out).mono ?_); rintro e w90 ⟨rfl, hb⟩; refine ⟨_, rfl, ?_⟩; have n0_ := Aside0.mk (blk_below (g := gb223) (o := .cells #[.int .i64 a0_0, .int .i64 a0_1, .int .i64 a0_2, .int .i64 a0_3, .int .i64 a0_4, .int .i64 a0_5, .bool a0_6, .bool a0_7] 23 (0, 0)) (by (with_reducible repeat (first | refine blk_drewN ?_ _ | refine blk_drew ?_ | refine blk_alloc ?_ _)); exact BK223.out) hb); have n1_ := Aside0.mk (blk_below (g := gb226) (o := .cells #[.string ((rowAt (ji28)).1), .int .u32 ((rowAt (ji28)).2.1), .int .u32 ((rowAt (ji28)).2.2.1), .int .i64 ((rowAt (ji28)).2.2.2)] 106 (0, 0)) (by (with_reducible repeat (first | refine blk_drewN ?_ _ | refine blk_drew ?_ | refine blk_alloc ?_ _)); exact BK226.out) hb); have n2_ := Aside0.mk (below_step (by repeat (first | (with_reducible first | exact HB.out | apply below_alloc | apply pw_below_drewN | apply below_drew1 | refine below_set ?_ GE223.out | refine below_set ?_ GE226.out) | exact HB.out)) hb); clear BK223 BK226 HB; have BK223 := n0_; have BK226 := n1_; have HB := n2_; clear n0_ n1_ n2_ hb))
                       have n0_ := Aside0.mk (blk_drew BK223.out)
                       have n1_ := Aside0.mk (blk_drew BK226.out)
                       have n2_ := Aside0.mk (below_drew1 HB.out)
                       clear BK223 BK226 HB; have BK223 := n0_; have BK226 := n1_; have HB := n2_; clear n0_ n1_ n2_; refine start_ (n := 15) (S := fun w' => w'.cell? ⟨gb226, 0, none⟩ = some (.string ((rowAt (ji28)).1)) ∧ w'.cell? ⟨gb226, 1, none⟩ = some (.int .u32 ((rowAt (ji28)).2.1)) ∧ w'.cell? ⟨gb226, 2, none⟩ = some (.int .u32 ((rowAt (ji28)).2.2.1)) ∧ w'.cell? ⟨gb226, 3, none⟩ = some (.int .i64 ((rowAt (ji28)).2.2.2)) ∧ w'.cell? ⟨gb223, 0, none⟩ = some (.int .i64 a0_0) ∧ w'.cell? ⟨gb223, 1, none⟩ = some (.int .i64 a0_1) ∧ w'.cell? ⟨gb223, 2, none⟩ = some (.int .i64 a0_2) ∧ w'.cell? ⟨gb223, 3, none⟩ = some (.int .i64 a0_3) ∧ w'.cell? ⟨gb223, 4, none⟩ = some (.int .i64 a0_4) ∧ w'.cell? ⟨gb223, 5, none⟩ = some (.int .i64 a0_5) ∧ w'.cell? ⟨gb223, 6, none⟩ = some (.bool a0_6) ∧ w'.cell? ⟨gb223, 7, none⟩ = some (.bool a0_7)) (ds := []) #[false, false, false, false, false, false, false, false, false, false, false, false, false, false, false] (by kernel_rfl) rfl rfl ⟨(blk_cell BK226.out 0).trans rfl, (blk_cell BK226.out 1).trans rfl, (blk_cell BK226.out 2).trans rfl, (blk_cell BK226.out 3).trans rfl, (blk_cell BK223.out 0).trans rfl, (blk_cell BK223.out 1).trans rfl, (blk_cell BK223.out 2).trans rfl, (blk_cell BK223.out 3).trans rfl, (blk_cell BK223.out 4).trans rfl, (blk_cell BK223.out 5).trans rfl, (blk_cell BK223.out 6).trans rfl, (blk_cell BK223.out 7).trans rfl⟩ (fun hHeld => ?_); refine with_tabW decode_Encode.tab20 decode_Encode.bits20 (fun HT_ HW_ => ?_)
                       generalize w90.drew = w91 at BK223 BK226 HB hHeld ⊢
                       refine pure_ (i := 0) (N := some 131) (v := ?_) (a' := ?_) #[true, false, false, false, false, false, false, false, false, false, false, false, false, false, false] rfl rfl (any_of HT_.out (by kernel_rfl)) (fun _ _ _ h => h) (Or.inl ⟨by rfl, ?_⟩) ?_ ?_
                       rotate_left
                       ·intro w'
                        go_simp; with_reducible rfl
                       rotate_left
                       ·simp only [Act.put, List.setIfInBounds_toArray, List.set_cons_zero, List.set_cons_succ, i64_w, i32_w]
                        rfl
                       refine pure_ (i := 1) (N := some 132) (v := ?_) (a' := ?_) #[true, true, false, false, false, false, false, false, false, false, false, false, false, false, false] rfl rfl (any_of HT_.out (by kernel_rfl)) (fun _ _ _ h => h) (Or.inl ⟨by rfl, ?_⟩) ?_ ?_
                       rotate_left
                       ·intro w'
                        go_simp; with_reducible rfl
                       rotate_left
                       ·simp only [Act.put, List.setIfInBounds_toArray, List.set_cons_zero, List.set_cons_succ, i64_w, i32_w]
                        rfl
                       refine pure_ (i := 4) (N := some 135) (v := ?_) (a' := ?_) #[true, true, false, false, true, false, false, false, false, false, false, false, false, false, false] rfl rfl (any_of HT_.out (by kernel_rfl)) (fun _ _ _ h => h) (Or.inl ⟨by rfl, ?_⟩) ?_ ?_
                       rotate_left
                       ·intro w'
                        go_simp; with_reducible rfl
                       rotate_left
                       ·simp only [Act.put, List.setIfInBounds_toArray, List.set_cons_zero, List.set_cons_succ, i64_w, i32_w]
                        rfl
                       refine take_ (i := 2) (N := some 133) (v := ?_) (a' := ?_) #[true, true, true, false, true, false, false, false, false, false, false, false, false, false, false] rfl rfl (take_ofW HT_.out HW_.out (by kernel_rfl)) (fun _ _ _ h => h) (Or.inl ⟨by rfl, ?_⟩) hHeld ?_ ?_
                       rotate_left
                       ·rintro w' ⟨s0, s1, s2, s3, s4, s5, s6, s7, s8, s9, s10, s11⟩
                        go_simp; with_reducible rfl
                       rotate_left
                       ·simp only [Act.put, List.setIfInBounds_toArray, List.set_cons_zero, List.set_cons_succ, i64_w, i32_w]
                        rfl
                       refine pure_ (i := 3) (N := some 134) (v := ?_) (a' := ?_) #[true, true, true, true, true, false, false, false, false, false, false, false, false, false, false] rfl rfl (any_of HT_.out (by kernel_rfl)) (fun _ _ _ h => h) (Or.inl ⟨by rfl, ?_⟩) ?_ ?_
                       rotate_left
                       ·intro w'
                        go_simp; with_reducible rfl
                       rotate_left
                       ·simp only [Act.put, List.setIfInBounds_toArray, List.set_cons_zero, List.set_cons_succ, i64_w, i32_w]
                        rfl
                       refine take_ (i := 5) (N := some 136) (v := ?_) (a' := ?_) #[true, true, true, true, true, true, false, false, false, false, false, false, false, false, false] rfl rfl (take_ofW HT_.out HW_.out (by kernel_rfl)) (fun _ _ _ h => h) (Or.inl ⟨by rfl, ?_⟩) hHeld ?_ ?_
                       rotate_left
                       ·rintro w' ⟨s0, s1, s2, s3, s4, s5, s6, s7, s8, s9, s10, s11⟩
                        go_simp; with_reducible rfl
                       rotate_left
                       ·simp only [Act.put, List.setIfInBounds_toArray, List.set_cons_zero, List.set_cons_succ, i64_w, i32_w]
                        rfl
                       refine pure_ (i := 6) (N := some 137) (v := ?_) (a' := ?_) #[true, true, true, true, true, true, true, false, false, false, false, false, false, false, false] rfl rfl (any_of HT_.out (by kernel_rfl)) (fun _ _ _ h => h) (Or.inl ⟨by rfl, ?_⟩) ?_ ?_
                       rotate_left
                       ·intro w'
                        go_simp; with_reducible rfl
                       rotate_left
                       ·simp only [Act.put, List.setIfInBounds_toArray, List.set_cons_zero, List.set_cons_succ, i64_w, i32_w]
                        rfl
                       refine pure_ (i := 7) (N := some 138) (v := ?_) (a' := ?_) #[true, true, true, true, true, true, true, true, false, false, false, false, false, false, false] rfl rfl (any_of HT_.out (by kernel_rfl)) (fun _ _ _ h => h) (Or.inl ⟨by rfl, ?_⟩) ?_ ?_
                       rotate_left
                       ·intro w'
                        go_simp; with_reducible rfl
                       rotate_left
                       ·simp only [Act.put, List.setIfInBounds_toArray, List.set_cons_zero, List.set_cons_succ, i64_w, i32_w]
                        rfl
                       refine pure_ (i := 8) (N := some 139) (v := ?_) (a' := ?_) #[true, true, true, true, true, true, true, true, true, false, false, false, false, false, false] rfl rfl (any_of HT_.out (by kernel_rfl)) (fun _ _ _ h => h) (Or.inl ⟨by rfl, ?_⟩) ?_ ?_
                       rotate_left
                       ·intro w'
                        go_simp; with_reducible rfl
                       rotate_left
                       ·simp only [Act.put, List.setIfInBounds_toArray, List.set_cons_zero, List.set_cons_succ, i64_w, i32_w]
                        rfl
                       refine pure_ (i := 10) (N := some 141) (v := ?_) (a' := ?_) #[true, true, true, true, true, true, true, true, true, false, true, false, false, false, false] rfl rfl (any_of HT_.out (by kernel_rfl)) (fun _ _ _ h => h) (Or.inl ⟨by rfl, ?_⟩) ?_ ?_
                       rotate_left
                       ·intro w'
                        go_simp; with_reducible rfl
                       rotate_left
                       ·simp only [Act.put, List.setIfInBounds_toArray, List.set_cons_zero, List.set_cons_succ, i64_w, i32_w]
                        rfl
                       refine take_ (i := 9) (N := some 140) (v := ?_) (a' := ?_) #[true, true, true, true, true, true, true, true, true, true, true, false, false, false, false] rfl rfl (take_ofW HT_.out HW_.out (by kernel_rfl)) (fun _ _ _ h => h) (Or.inl ⟨by rfl, ?_⟩) hHeld ?_ ?_
                       rotate_left
                       ·rintro w' ⟨s0, s1, s2, s3, s4, s5, s6, s7, s8, s9, s10, s11⟩
                        go_simp; with_reducible rfl
                       rotate_left
                       ·simp only [Act.put, List.setIfInBounds_toArray, List.set_cons_zero, List.set_cons_succ, i64_w, i32_w]
                        rfl
                       refine take_ (i := 12) (N := some 143) (v := ?_) (a' := ?_) #[true, true, true, true, true, true, true, true, true, true, true, false, true, false, false] rfl rfl (take_ofW HT_.out HW_.out (by kernel_rfl)) (fun _ _ _ h => h) (Or.inl ⟨by rfl, ?_⟩) hHeld ?_ ?_
                       rotate_left
                       ·rintro w' ⟨s0, s1, s2, s3, s4, s5, s6, s7, s8, s9, s10, s11⟩
                        go_simp; with_reducible rfl
                       rotate_left
                       ·simp only [Act.put, List.setIfInBounds_toArray, List.set_cons_zero, List.set_cons_succ, i64_w, i32_w]
                        rfl
                       refine one_ (i := 11) (N := some 142) #[true, true, true, true, true, true, true, true, true, true, true, true, true, false, false] rfl rfl (one_of HT_.out (by kernel_rfl)) (by decide) (fun K hK => ?_)
                       refine goes_ Tryz.func71 (by kernel_rfl) rfl #[.int .i64 a0_0, .int .u32 (Go.bits .or .u32 x5_57 t241)] (by rfl) rfl rfl (by (try simp only [List.map_toArray, List.map_cons, List.map_nil]); first | done | rfl | (simp only [List.length_drop, List.length_take]; rfl)) ?_
                       with_reducible refine (decode_said.calls kj57 a0_0 (Go.bits .or .u32 x5_57 t241) t243 t244 t245 t246 t247 t248 t249 t250 _ A79.out).mono ?_
                       rintro e w92 ⟨rfl, hb⟩
                       refine ⟨_, rfl, ?_⟩
                       have n0_ := Aside0.mk (blk_below (g := gb223) (o := .cells #[.int .i64 a0_0, .int .i64 a0_1, .int .i64 a0_2, .int .i64 a0_3, .int .i64 a0_4, .int .i64 a0_5, .bool a0_6, .bool a0_7] 23 (0, 0)) (by (with_reducible repeat (first | refine blk_drewN ?_ _ | refine blk_drew ?_ | refine blk_alloc ?_ _)); exact BK223.out) hb)
                       have n1_ := Aside0.mk (blk_below (g := gb226) (o := .cells #[.string ((rowAt (ji28)).1), .int .u32 ((rowAt (ji28)).2.1), .int .u32 ((rowAt (ji28)).2.2.1), .int .i64 ((rowAt (ji28)).2.2.2)] 106 (0, 0)) (by (with_reducible repeat (first | refine blk_drewN ?_ _ | refine blk_drew ?_ | refine blk_alloc ?_ _)); exact BK226.out) hb)
                       have n2_ := Aside0.mk (below_step (by repeat (first | (with_reducible first | exact HB.out | apply below_alloc | apply pw_below_drewN | apply below_drew1 | refine below_set ?_ GE223.out | refine below_set ?_ GE226.out) | exact HB.out)) hb)
                       clear BK223 BK226 HB; have BK223 := n0_; have BK226 := n1_; have HB := n2_; clear n0_ n1_ n2_ hb; refine hK.out _ _ ⟨(blk_cell BK226.out 0).trans rfl, (blk_cell BK226.out 1).trans rfl, (blk_cell BK226.out 2).trans rfl, (blk_cell BK226.out 3).trans rfl, (blk_cell BK223.out 0).trans rfl, (blk_cell BK223.out 1).trans rfl, (blk_cell BK223.out 2).trans rfl, (blk_cell BK223.out 3).trans rfl, (blk_cell BK223.out 4).trans rfl, (blk_cell BK223.out 5).trans rfl, (blk_cell BK223.out 6).trans rfl, (blk_cell BK223.out 7).trans rfl⟩ (fun hHeld => ?_)
                       clear hK K; refine norm_ (a' := ?_) ?_ ?_
                       rotate_left
                       ·show Act.put _ (some 142) _ = _
                        simp only [Act.put, List.setIfInBounds_toArray, List.set_cons_zero, List.set_cons_succ, i64_w, i32_w]
                        rfl
                       refine pure_ (i := 13) (N := some 144) (v := ?_) (a' := ?_) #[true, true, true, true, true, true, true, true, true, true, true, true, true, true, false] rfl rfl (any_of HT_.out (by kernel_rfl)) (fun _ _ _ h => h) (Or.inl ⟨by rfl, ?_⟩) ?_ ?_
                       rotate_left
                       ·intro w'
                        go_simp; with_reducible rfl
                       rotate_left
                       ·simp only [Act.put, List.setIfInBounds_toArray, List.set_cons_zero, List.set_cons_succ, i64_w, i32_w]
                        rfl
                       refine pure_ (i := 14) (N := some 145) (v := ?_) (a' := ?_) #[true, true, true, true, true, true, true, true, true, true, true, true, true, true, true] rfl rfl (any_of HT_.out (by kernel_rfl)) (fun _ _ _ h => h) (Or.inl ⟨by rfl, ?_⟩) ?_ ?_
                       rotate_left
                       ·intro w'
                        go_simp; with_reducible rfl
                       rotate_left
                       ·simp only [Act.put, List.setIfInBounds_toArray, List.set_cons_zero, List.set_cons_succ, i64_w, i32_w]
                        rfl
                       refine done_ (done_of HT_.out (by kernel_rfl)) ?_
                       try go_wp2
                       go_ret2
                       exact ⟨by first | rfl | (simp [errW_none, errW_some] <;> rfl) | (simp only [← hji28]; first | rfl | (simp [errW_none, errW_some] <;> rfl)) | (simp [*, errW_none, errW_some] <;> rfl), by repeat (first | (with_reducible first | exact HB.out | apply below_alloc | apply pw_below_drewN | apply below_drew1 | refine below_set ?_ GE223.out | refine below_set ?_ GE226.out) | exact HB.out)⟩
                     ·rw [if_neg c78] at H
                      have c78b0 : ((Go.bits .and .u32 (Go.bits .or .u32 x5_57 t241) ((rowAt (ji28)).2.1)) == ((rowAt (ji28)).2.2.1)) = false := beq_eq_false_iff_ne.mpr c78
                      have c78b1 : ((Go.bits .and .u32 (Go.bits .or .u32 x5_57 t241) ((rowAt (ji28)).2.1)) != ((rowAt (ji28)).2.2.1)) = true := bne_iff_ne.mpr c78
                      simp only [Option.some.injEq, Prod.mk.injEq] at H
                      obtain ⟨rfl, rfl⟩ := H
                      have hnb93 := NB226_223.out; have hnc93 := NB223_226.out; have hcz94_0 : wc.cell? ⟨gb226, 0, none⟩ = some (.string ((rowAt (ji28)).1)) := (blk_cell BK226.out 0).trans rfl
                      have hcz94_1 : wc.cell? ⟨gb226, 1, none⟩ = some (.int .u32 ((rowAt (ji28)).2.1)) := (blk_cell BK226.out 1).trans rfl
                      have hcz94_2 : wc.cell? ⟨gb226, 2, none⟩ = some (.int .u32 ((rowAt (ji28)).2.2.1)) := (blk_cell BK226.out 2).trans rfl
                      have hcz94_3 : wc.cell? ⟨gb226, 3, none⟩ = some (.int .i64 ((rowAt (ji28)).2.2.2)) := (blk_cell BK226.out 3).trans rfl
                      have hfz94_0 := blk_frozen BK226.out 0
                      have hfz94_1 := blk_frozen BK226.out 1
                      have hfz94_2 := blk_frozen BK226.out 2
                      have hfz94_3 := blk_frozen BK226.out 3
                      try go_wp2_with (first | ((with_reducible refine gate_callee (f := 69) rfl ?_); refine goesL_ (some 116) rfl rfl Tryz.func69 (by kernel_rfl) rfl #[.int .i64 ((rowAt (ji28)).2.2.2)] rfl (by (try simp only [List.map_toArray, List.map_cons, List.map_nil]); first | done | (simp only [hji28]; rfl) | rfl | (simp only [List.length_drop, List.length_take]; rfl)) ?_; (with_reducible refine (decode_number.calls ((rowAt (ji28)).2.2.2) t232 _ A60.out).mono ?_); rintro e w' ⟨rfl, ⟨nd, rfl⟩⟩; refine ⟨_, rfl, ?_⟩; have hcz95_0 : wc.cell? ⟨gb223, 0, none⟩ = some (.int .i64 a0_0) := (blk_cell BK223.out 0).trans rfl; have hcz95_1 : wc.cell? ⟨gb223, 1, none⟩ = some (.int .i64 a0_1) := (blk_cell BK223.out 1).trans rfl; have hcz95_2 : wc.cell? ⟨gb223, 2, none⟩ = some (.int .i64 a0_2) := (blk_cell BK223.out 2).trans rfl; have hcz95_3 : wc.cell? ⟨gb223, 3, none⟩ = some (.int .i64 a0_3) := (blk_cell BK223.out 3).trans rfl; have hcz95_4 : wc.cell? ⟨gb223, 4, none⟩ = some (.int .i64 a0_4) := (blk_cell BK223.out 4).trans rfl; have hcz95_5 : wc.cell? ⟨gb223, 5, none⟩ = some (.int .i64 a0_5) := (blk_cell BK223.out 5).trans rfl; have hcz95_6 : wc.cell? ⟨gb223, 6, none⟩ = some (.bool a0_6) := (blk_cell BK223.out 6).trans rfl; have hcz95_7 : wc.cell? ⟨gb223, 7, none⟩ = some (.bool a0_7) := (blk_cell BK223.out 7).trans rfl; have hfz95_0 := blk_frozen BK223.out 0; have hfz95_1 := blk_frozen BK223.out 1; have hfz95_2 := blk_frozen BK223.out 2; have hfz95_3 := blk_frozen BK223.out 3; have hfz95_4 := blk_frozen BK223.out 4; have hfz95_5 := blk_frozen BK223.out 5; have hfz95_6 := blk_frozen BK223.out 6; have hfz95_7 := blk_frozen BK223.out 7) | ((with_reducible refine gate_callee (f := 70) rfl ?_); refine goesL_ (some 123) rfl rfl Tryz.func70 (by kernel_rfl) rfl #[.int .i64 t232, .int .i64 a0_4] rfl (by (try simp only [List.map_toArray, List.map_cons, List.map_nil]); first | done | rfl | (simp only [List.length_drop, List.length_take]; rfl)) ?_; (with_reducible refine (fields_Put.calls kj57 t232 a0_4 t241 true _ A76.out).mono ?_); rintro e w96 ⟨rfl, hb⟩; refine ⟨_, rfl, ?_⟩; have n0_ := Aside0.mk (blk_below (g := gb223) (o := .cells #[.int .i64 a0_0, .int .i64 a0_1, .int .i64 a0_2, .int .i64 a0_3, .int .i64 a0_4, .int .i64 a0_5, .bool a0_6, .bool a0_7] 23 (0, 0)) (by (with_reducible repeat (first | refine blk_drewN ?_ _ | refine blk_drew ?_ | refine blk_alloc ?_ _)); exact BK223.out) hb); have n1_ := Aside0.mk (blk_below (g := gb226) (o := .cells #[.string ((rowAt (ji28)).1), .int .u32 ((rowAt (ji28)).2.1), .int .u32 ((rowAt (ji28)).2.2.1), .int .i64 ((rowAt (ji28)).2.2.2)] 106 (0, 0)) (by (with_reducible repeat (first | refine blk_drewN ?_ _ | refine blk_drew ?_ | refine blk_alloc ?_ _)); exact BK226.out) hb); have n2_ := Aside0.mk (below_step (by repeat (first | (with_reducible first | exact HB.out | apply below_alloc | apply pw_below_drewN | apply below_drew1 | refine below_set ?_ GE223.out | refine below_set ?_ GE226.out) | exact HB.out)) hb); clear BK223 BK226 HB; have BK223 := n0_; have BK226 := n1_; have HB := n2_; clear n0_ n1_ n2_ hb))
                      have n0_ := Aside0.mk (blk_drew BK223.out)
                      have n1_ := Aside0.mk (blk_drew BK226.out)
                      have n2_ := Aside0.mk (below_drew1 HB.out)
                      clear BK223 BK226 HB; have BK223 := n0_; have BK226 := n1_; have HB := n2_; clear n0_ n1_ n2_; refine start_ (n := 15) (S := fun w' => w'.cell? ⟨gb226, 0, none⟩ = some (.string ((rowAt (ji28)).1)) ∧ w'.cell? ⟨gb226, 1, none⟩ = some (.int .u32 ((rowAt (ji28)).2.1)) ∧ w'.cell? ⟨gb226, 2, none⟩ = some (.int .u32 ((rowAt (ji28)).2.2.1)) ∧ w'.cell? ⟨gb226, 3, none⟩ = some (.int .i64 ((rowAt (ji28)).2.2.2))) (ds := []) #[false, false, false, false, false, false, false, false, false, false, false, false, false, false, false] (by kernel_rfl) rfl rfl ⟨(blk_cell BK226.out 0).trans rfl, (blk_cell BK226.out 1).trans rfl, (blk_cell BK226.out 2).trans rfl, (blk_cell BK226.out 3).trans rfl⟩ (fun hHeld => ?_); refine with_tabW decode_Encode.tab20 decode_Encode.bits20 (fun HT_ HW_ => ?_)
                      generalize w96.drew = w97 at BK223 BK226 HB hHeld ⊢
                      refine pure_ (i := 0) (N := some 131) (v := ?_) (a' := ?_) #[true, false, false, false, false, false, false, false, false, false, false, false, false, false, false] rfl rfl (any_of HT_.out (by kernel_rfl)) (fun _ _ _ h => h) (Or.inl ⟨by rfl, ?_⟩) ?_ ?_
                      rotate_left
                      ·intro w'
                       go_simp; with_reducible rfl
                      rotate_left
                      ·simp only [Act.put, List.setIfInBounds_toArray, List.set_cons_zero, List.set_cons_succ, i64_w, i32_w]
                       rfl
                      refine pure_ (i := 1) (N := some 132) (v := ?_) (a' := ?_) #[true, true, false, false, false, false, false, false, false, false, false, false, false, false, false] rfl rfl (any_of HT_.out (by kernel_rfl)) (fun _ _ _ h => h) (Or.inl ⟨by rfl, ?_⟩) ?_ ?_
                      rotate_left
                      ·intro w'
                       go_simp; with_reducible rfl
                      rotate_left
                      ·simp only [Act.put, List.setIfInBounds_toArray, List.set_cons_zero, List.set_cons_succ, i64_w, i32_w]
                       rfl
                      refine pure_ (i := 4) (N := some 135) (v := ?_) (a' := ?_) #[true, true, false, false, true, false, false, false, false, false, false, false, false, false, false] rfl rfl (any_of HT_.out (by kernel_rfl)) (fun _ _ _ h => h) (Or.inl ⟨by rfl, ?_⟩) ?_ ?_
                      rotate_left
                      ·intro w'
                       go_simp; with_reducible rfl
                      rotate_left
                      ·simp only [Act.put, List.setIfInBounds_toArray, List.set_cons_zero, List.set_cons_succ, i64_w, i32_w]
                       rfl
                      refine take_ (i := 2) (N := some 133) (v := ?_) (a' := ?_) #[true, true, true, false, true, false, false, false, false, false, false, false, false, false, false] rfl rfl (take_ofW HT_.out HW_.out (by kernel_rfl)) (fun _ _ _ h => h) (Or.inl ⟨by rfl, ?_⟩) hHeld ?_ ?_
                      rotate_left
                      ·rintro w' ⟨s0, s1, s2, s3⟩
                       go_simp; with_reducible rfl
                      rotate_left
                      ·simp only [Act.put, List.setIfInBounds_toArray, List.set_cons_zero, List.set_cons_succ, i64_w, i32_w]
                       rfl
                      refine pure_ (i := 3) (N := some 134) (v := ?_) (a' := ?_) #[true, true, true, true, true, false, false, false, false, false, false, false, false, false, false] rfl rfl (any_of HT_.out (by kernel_rfl)) (fun _ _ _ h => h) (Or.inl ⟨by rfl, ?_⟩) ?_ ?_
                      rotate_left
                      ·intro w'
                       go_simp; with_reducible rfl
                      rotate_left
                      ·simp only [Act.put, List.setIfInBounds_toArray, List.set_cons_zero, List.set_cons_succ, i64_w, i32_w]
                       rfl
                      refine take_ (i := 5) (N := some 136) (v := ?_) (a' := ?_) #[true, true, true, true, true, true, false, false, false, false, false, false, false, false, false] rfl rfl (take_ofW HT_.out HW_.out (by kernel_rfl)) (fun _ _ _ h => h) (Or.inl ⟨by rfl, ?_⟩) hHeld ?_ ?_
                      rotate_left
                      ·rintro w' ⟨s0, s1, s2, s3⟩
                       go_simp; with_reducible rfl
                      rotate_left
                      ·simp only [Act.put, List.setIfInBounds_toArray, List.set_cons_zero, List.set_cons_succ, i64_w, i32_w]
                       rfl
                      refine pure_ (i := 6) (N := some 137) (v := ?_) (a' := ?_) #[true, true, true, true, true, true, true, false, false, false, false, false, false, false, false] rfl rfl (any_of HT_.out (by kernel_rfl)) (fun _ _ _ h => h) (Or.inl ⟨by rfl, ?_⟩) ?_ ?_
                      rotate_left
                      ·intro w'
                       go_simp; with_reducible rfl
                      rotate_left
                      ·simp only [Act.put, List.setIfInBounds_toArray, List.set_cons_zero, List.set_cons_succ, i64_w, i32_w]
                       rfl
                      refine pure_ (i := 7) (N := some 138) (v := ?_) (a' := ?_) #[true, true, true, true, true, true, true, true, false, false, false, false, false, false, false] rfl rfl (any_of HT_.out (by kernel_rfl)) (fun _ _ _ h => h) (Or.inl ⟨by rfl, ?_⟩) ?_ ?_
                      rotate_left
                      ·intro w'
                       go_simp; with_reducible rfl
                      rotate_left
                      ·simp only [Act.put, List.setIfInBounds_toArray, List.set_cons_zero, List.set_cons_succ, i64_w, i32_w]
                       rfl
                      refine pure_ (i := 8) (N := some 139) (v := undef) (a' := ?_) #[true, true, true, true, true, true, true, true, true, false, false, false, false, false, false] rfl rfl (any_of HT_.out (by kernel_rfl)) (fun _ _ _ h => h) (Or.inr ⟨by rfl, rfl⟩) ?_ ?_
                      rotate_left
                      ·simp only [Act.put, List.setIfInBounds_toArray, List.set_cons_zero, List.set_cons_succ, i64_w, i32_w]
                       rfl
                      refine pure_ (i := 9) (N := some 140) (v := undef) (a' := ?_) #[true, true, true, true, true, true, true, true, true, true, false, false, false, false, false] rfl rfl (any_of HT_.out (by kernel_rfl)) (fun _ _ _ h => h) (Or.inr ⟨by rfl, rfl⟩) ?_ ?_
                      rotate_left
                      ·simp only [Act.put, List.setIfInBounds_toArray, List.set_cons_zero, List.set_cons_succ, i64_w, i32_w]
                       rfl
                      refine pure_ (i := 10) (N := some 141) (v := undef) (a' := ?_) #[true, true, true, true, true, true, true, true, true, true, true, false, false, false, false] rfl rfl (any_of HT_.out (by kernel_rfl)) (fun _ _ _ h => h) (Or.inr ⟨by rfl, rfl⟩) ?_ ?_
                      rotate_left
                      ·simp only [Act.put, List.setIfInBounds_toArray, List.set_cons_zero, List.set_cons_succ, i64_w, i32_w]
                       rfl
                      refine pure_ (i := 11) (N := some 142) (v := undef) (a' := ?_) #[true, true, true, true, true, true, true, true, true, true, true, true, false, false, false] rfl rfl (any_of HT_.out (by kernel_rfl)) (fun _ _ _ h => h) (Or.inr ⟨by rfl, rfl⟩) ?_ ?_
                      rotate_left
                      ·simp only [Act.put, List.setIfInBounds_toArray, List.set_cons_zero, List.set_cons_succ, i64_w, i32_w]
                       rfl
                      refine pure_ (i := 12) (N := some 143) (v := undef) (a' := ?_) #[true, true, true, true, true, true, true, true, true, true, true, true, true, false, false] rfl rfl (any_of HT_.out (by kernel_rfl)) (fun _ _ _ h => h) (Or.inr ⟨by rfl, rfl⟩) ?_ ?_
                      rotate_left
                      ·simp only [Act.put, List.setIfInBounds_toArray, List.set_cons_zero, List.set_cons_succ, i64_w, i32_w]
                       rfl
                      refine pure_ (i := 13) (N := some 144) (v := undef) (a' := ?_) #[true, true, true, true, true, true, true, true, true, true, true, true, true, true, false] rfl rfl (any_of HT_.out (by kernel_rfl)) (fun _ _ _ h => h) (Or.inr ⟨by rfl, rfl⟩) ?_ ?_
                      rotate_left
                      ·simp only [Act.put, List.setIfInBounds_toArray, List.set_cons_zero, List.set_cons_succ, i64_w, i32_w]
                       rfl
                      refine pure_ (i := 14) (N := some 145) (v := ?_) (a' := ?_) #[true, true, true, true, true, true, true, true, true, true, true, true, true, true, true] rfl rfl (any_of HT_.out (by kernel_rfl)) (fun _ _ _ h => h) (Or.inl ⟨by rfl, ?_⟩) ?_ ?_
                      rotate_left
                      ·intro w'
                       go_simp; with_reducible rfl
                      rotate_left
                      ·simp only [Act.put, List.setIfInBounds_toArray, List.set_cons_zero, List.set_cons_succ, i64_w, i32_w]
                       rfl
                      refine done_ (done_of HT_.out (by kernel_rfl)) ?_
                      try go_wp2
                      go_ret2
                      exact ⟨by first | rfl | (simp [errW_none, errW_some] <;> rfl) | (simp only [← hji28]; first | rfl | (simp [errW_none, errW_some] <;> rfl)) | (simp [*, errW_none, errW_some] <;> rfl), by repeat (first | (with_reducible first | exact HB.out | apply below_alloc | apply pw_below_drewN | apply below_drew1 | refine below_set ?_ GE223.out | refine below_set ?_ GE226.out) | exact HB.out)⟩
                    ·replace c77 := Bool.eq_false_iff.mpr c77
                     subst c77; have H1 : (some (0, 80)) = some (r1, r2) := by rw [if_neg (show ¬ (false = true) by decide)] at H; exact H
                     clear H; have H := H1; clear H1; simp only [Option.some.injEq, Prod.mk.injEq] at H
                     obtain ⟨rfl, rfl⟩ := H
                     have hnb98 := NB226_223.out; have hnc98 := NB223_226.out; have hcz99_0 : wc.cell? ⟨gb226, 0, none⟩ = some (.string ((rowAt (ji28)).1)) := (blk_cell BK226.out 0).trans rfl
                     have hcz99_1 : wc.cell? ⟨gb226, 1, none⟩ = some (.int .u32 ((rowAt (ji28)).2.1)) := (blk_cell BK226.out 1).trans rfl
                     have hcz99_2 : wc.cell? ⟨gb226, 2, none⟩ = some (.int .u32 ((rowAt (ji28)).2.2.1)) := (blk_cell BK226.out 2).trans rfl
                     have hcz99_3 : wc.cell? ⟨gb226, 3, none⟩ = some (.int .i64 ((rowAt (ji28)).2.2.2)) := (blk_cell BK226.out 3).trans rfl
                     have hfz99_0 := blk_frozen BK226.out 0
                     have hfz99_1 := blk_frozen BK226.out 1
                     have hfz99_2 := blk_frozen BK226.out 2
                     have hfz99_3 := blk_frozen BK226.out 3
                     go_wp2_with (first | ((with_reducible refine gate_callee (f := 69) rfl ?_); refine goesL_ (some 116) rfl rfl Tryz.func69 (by kernel_rfl) rfl #[.int .i64 ((rowAt (ji28)).2.2.2)] rfl (by (try simp only [List.map_toArray, List.map_cons, List.map_nil]); first | done | (simp only [hji28]; rfl) | rfl | (simp only [List.length_drop, List.length_take]; rfl)) ?_; (with_reducible refine (decode_number.calls ((rowAt (ji28)).2.2.2) t232 _ A60.out).mono ?_); rintro e w' ⟨rfl, ⟨nd, rfl⟩⟩; refine ⟨_, rfl, ?_⟩; have hcz100_0 : wc.cell? ⟨gb223, 0, none⟩ = some (.int .i64 a0_0) := (blk_cell BK223.out 0).trans rfl; have hcz100_1 : wc.cell? ⟨gb223, 1, none⟩ = some (.int .i64 a0_1) := (blk_cell BK223.out 1).trans rfl; have hcz100_2 : wc.cell? ⟨gb223, 2, none⟩ = some (.int .i64 a0_2) := (blk_cell BK223.out 2).trans rfl; have hcz100_3 : wc.cell? ⟨gb223, 3, none⟩ = some (.int .i64 a0_3) := (blk_cell BK223.out 3).trans rfl; have hcz100_4 : wc.cell? ⟨gb223, 4, none⟩ = some (.int .i64 a0_4) := (blk_cell BK223.out 4).trans rfl; have hcz100_5 : wc.cell? ⟨gb223, 5, none⟩ = some (.int .i64 a0_5) := (blk_cell BK223.out 5).trans rfl; have hcz100_6 : wc.cell? ⟨gb223, 6, none⟩ = some (.bool a0_6) := (blk_cell BK223.out 6).trans rfl; have hcz100_7 : wc.cell? ⟨gb223, 7, none⟩ = some (.bool a0_7) := (blk_cell BK223.out 7).trans rfl; have hfz100_0 := blk_frozen BK223.out 0; have hfz100_1 := blk_frozen BK223.out 1; have hfz100_2 := blk_frozen BK223.out 2; have hfz100_3 := blk_frozen BK223.out 3; have hfz100_4 := blk_frozen BK223.out 4; have hfz100_5 := blk_frozen BK223.out 5; have hfz100_6 := blk_frozen BK223.out 6; have hfz100_7 := blk_frozen BK223.out 7) | ((with_reducible refine gate_callee (f := 70) rfl ?_); refine goesL_ (some 123) rfl rfl Tryz.func70 (by kernel_rfl) rfl #[.int .i64 t232, .int .i64 a0_4] rfl (by (try simp only [List.map_toArray, List.map_cons, List.map_nil]); first | done | rfl | (simp only [List.length_drop, List.length_take]; rfl)) ?_; (with_reducible refine (fields_Put.calls kj57 t232 a0_4 t241 false _ A76.out).mono ?_); rintro e w101 ⟨rfl, hb⟩; refine ⟨_, rfl, ?_⟩; have n0_ := Aside0.mk (blk_below (g := gb223) (o := .cells #[.int .i64 a0_0, .int .i64 a0_1, .int .i64 a0_2, .int .i64 a0_3, .int .i64 a0_4, .int .i64 a0_5, .bool a0_6, .bool a0_7] 23 (0, 0)) (by (with_reducible repeat (first | refine blk_drewN ?_ _ | refine blk_drew ?_ | refine blk_alloc ?_ _)); exact BK223.out) hb); have n1_ := Aside0.mk (blk_below (g := gb226) (o := .cells #[.string ((rowAt (ji28)).1), .int .u32 ((rowAt (ji28)).2.1), .int .u32 ((rowAt (ji28)).2.2.1), .int .i64 ((rowAt (ji28)).2.2.2)] 106 (0, 0)) (by (with_reducible repeat (first | refine blk_drewN ?_ _ | refine blk_drew ?_ | refine blk_alloc ?_ _)); exact BK226.out) hb); have n2_ := Aside0.mk (below_step (by repeat (first | (with_reducible first | exact HB.out | apply below_alloc | apply pw_below_drewN | apply below_drew1 | refine below_set ?_ GE223.out | refine below_set ?_ GE226.out) | exact HB.out)) hb); clear BK223 BK226 HB; have BK223 := n0_; have BK226 := n1_; have HB := n2_; clear n0_ n1_ n2_ hb))
                     go_ret2
                     exact ⟨by first | rfl | (simp [errW_none, errW_some] <;> rfl) | (simp only [← hji28]; first | rfl | (simp [errW_none, errW_some] <;> rfl)) | (simp [*, errW_none, errW_some] <;> rfl), by repeat (first | (with_reducible first | exact HB.out | apply below_alloc | apply pw_below_drewN | apply below_drew1 | refine below_set ?_ GE223.out | refine below_set ?_ GE226.out) | exact HB.out)⟩
        ·rw [if_neg c30] at H
         exact absurd H (by simp)
       ·rw [if_neg c29] at H
        exact absurd H (by simp)
end Go.Proofs.YtknkfimpflodeaaGreatDoor.P
