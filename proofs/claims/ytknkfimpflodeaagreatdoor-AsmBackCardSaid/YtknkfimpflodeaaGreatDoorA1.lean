/- asm's number, register, reg, num: walked. -/
import Derived.Test.YtknkfimpflodeaaGreatDoorEnv
import Derived.Tactics
import Derived.WalkKit
import Derived.RowKit3
import Derived.Deep.RegionHeld3
namespace Go.Proofs.YtknkfimpflodeaaGreatDoor.P
open Go.RowKit Go.Proofs.YtknkfimpflodeaaGreatDoorW.PrintWords Go.Proofs.YtknkfimpflodeaaGreatDoorW.PrintLast Go.Proofs.YtknkfimpflodeaaGreatDoorW.PrintMore
set_option linter.unusedVariables false
set_option maxHeartbeats 8000000 in
set_option maxRecDepth 100000 in
theorem number_calls (s : ByteArray) (hs : s.size ≤ 281474976710656) (w : World) (hE : Env w) :
  Calls Tryz.prog 102 #[.string s] w fun e w' => e = .returned (.tuple #[.int .i64 (numberS s.data.toList).1, .bool (numberS s.data.toList).2]) ∧ Below w.heap.size w w' := by
 unfold numberS
 cases h : Lib.parseIntB 64 s.data.toList with
 | ok v =>
  obtain ⟨v0, v1⟩ := parse_range _ _ h
  have hE' := Aside0.mk hE
  have h' := Aside0.mk h
  clear h hE; go_enter Tryz.func102, Tryz.ntmps102
  go_wp2_with (first
   | (go_at_call 141; refine (Tryz.strconv_ParseInt_10_at64_ok s (by omega) v h'.out _).mono ?_; rintro e w1 ⟨rfl, hb⟩; have hb1 : Aside0 (Below w.heap.size w w1) := ⟨by (rcases hb with rfl | ⟨t, rfl⟩; exact Below.refl _ _; exact Lib.bytesWorld_below _ _ _)⟩; clear hb)
   | (go_at_call 86; refine (Tryz.strconv_FormatInt_10 v v0 v1 _ (hE'.out.below hb1.out).pow).mono ?_; rintro e w2 ⟨rfl, hb⟩; have hb2 := Aside0.mk (below_step hb1.out (grow_below hb)); clear hb))
  go_ret2
  refine ⟨?_, hb2.out⟩
  rw [Lib.toList_data, show (Lib.itoa v == s.data.toList) = decide (Lib.itoa v = s.data.toList) from by rw [Bool.eq_iff_iff]; simp]
  rfl
 | range =>
  obtain ⟨ev, hv, hev⟩ := hE.er
  have h' := Aside0.mk h
  clear h; go_enter Tryz.func102, Tryz.ntmps102
  go_wp2_with (go_at_call 141; refine (Tryz.strconv_ParseInt_10_at64_range s hs h'.out ev _ hv hev).mono ?_; rintro e w1 ⟨N, rfl, h1, h2, hb⟩; have hb1 := Aside0.mk hb; clear hb)
  go_ret2
  exact ⟨rfl, hb1.out⟩
 | _ =>
  obtain ⟨ev, hv, hev⟩ := hE.es
  have h' := Aside0.mk (show (∀ v, Lib.parseIntB 64 s.data.toList ≠ .ok v) ∧ Lib.parseIntB 64 s.data.toList ≠ .range from ⟨fun v e => (by rw [h] at e; cases e), fun e => (by rw [h] at e; cases e)⟩)
  clear h; go_enter Tryz.func102, Tryz.ntmps102
  go_wp2_with (go_at_call 141; refine (Tryz.strconv_ParseInt_10_at64_none s hs h'.out.1 h'.out.2 ev _ hv hev).mono ?_; rintro e w1 ⟨N, rfl, h1, h2, hb⟩; have hb1 := Aside0.mk hb; clear hb)
  go_ret2
  exact ⟨rfl, hb1.out⟩
theorem data_drop (s : ByteArray) (n : Nat) : (s.extract n s.size).data.toList = s.data.toList.drop n := by
 rw [Lib.extract_data]
 rw [Lib.size_eq s, List.take_of_length_le (by simp)]
set_option maxHeartbeats 8000000 in
set_option maxRecDepth 100000 in
theorem register_calls (s : ByteArray) (hs : s.size ≤ 281474976710656) (w : World) (hE : Env w) :
  Calls Tryz.prog 101 #[.string s] w fun e w' => e = .returned (.tuple #[.int .i64 (registerS s.data.toList).1, .bool (registerS s.data.toList).2]) ∧ Below w.heap.size w w' := by
 have hE' := Aside0.mk hE
 clear hE; unfold registerS
 by_cases h : Lib.hasPrefix s.data.toList [120] = true
 ·rw [if_pos h]
  have h1 : 1 ≤ s.size := by
   have e := Lib.size_eq s
   cases q : s.data.toList with
   | nil => rw [q] at h; cases h
   | cons a b => rw [q] at e; simp at e; omega
  have hd : (s.extract 1 s.size).data.toList = s.data.toList.drop 1 := data_drop s 1
  have hn := number_calls (s.extract 1 s.size) (by rw [ByteArray.size_extract]; omega)
  rw [hd] at hn
  generalize numberS (s.data.toList.drop 1) = R at hn ⊢
  obtain ⟨n, ok⟩ := R
  have hn' := Aside0.mk hn
  clear hn hd; have h1' : ((1 : Nat) : Int) ≤ (s.size : Int) := by omega
  go_enter Tryz.func101, Tryz.ntmps101
  go_wp2_with (first
   | (go_at_call 118; refine (Tryz.strings_HasPrefix s ⟨#[120]⟩ _).mono ?_; rintro e w1 ⟨rfl, rfl⟩)
   | (go_at_call 102; refine (hn'.out _ hE'.out).mono ?_; rintro e w2 ⟨rfl, hb⟩; have hb2 := Aside0.mk hb; clear hb))
  all_goals
   go_ret2
   exact ⟨by first | (simp [*]; done) | (simp [*]; omega), hb2.out⟩
 ·rw [if_neg h]
  have h' : Lib.hasPrefix s.data.toList [120] = false := Bool.eq_false_iff.2 h
  clear h; go_enter Tryz.func101, Tryz.ntmps101
  go_wp2_with (go_at_call 118; refine (Tryz.strings_HasPrefix s ⟨#[120]⟩ _).mono ?_; rintro e w1 ⟨rfl, rfl⟩)
  go_ret2
  exact ⟨rfl, Below.refl _ _⟩
set_option maxHeartbeats 8000000 in
set_option maxRecDepth 100000 in
theorem reg_calls (said : Bool) (n : Int) (h0 : -9223372036854775808 ≤ n) (h1 : n ≤ 9223372036854775807) (w : World) (hE : Env w) :
  Calls Tryz.prog 41 #[.bool said, .int .i64 n] w fun e w' => e = .returned (sv (regS said n)) ∧ Below w.heap.size w w' := by
 have hE' := Aside0.mk hE
 clear hE; cases said
 ·go_enter Tryz.func41, Tryz.ntmps41
  go_wp2
  go_ret
  exact ⟨rfl, Below.refl _ _⟩
 ·have hl := itoa_len n h0 h1
  have hx := no_over (a := 1 + (Lib.itoa n).length) (by omega)
  go_enter Tryz.func41, Tryz.ntmps41
  go_wp2_with (go_at_call 85; refine (Tryz.strconv_Itoa n h0 h1 _ hE'.out.pow).mono ?_; rintro e w1 ⟨rfl, hb⟩; have hb1 := Aside0.mk (grow_below hb); clear hb)
  go_ret
  exact ⟨by rw [show (⟨#[120]⟩ : ByteArray) = ⟨([120] : BL).toArray⟩ from rfl, mk_app]; rfl, hb1.out⟩
set_option maxHeartbeats 8000000 in
set_option maxRecDepth 100000 in
theorem num_calls (said : Bool) (n : Int) (h0 : -9223372036854775808 ≤ n) (h1 : n ≤ 9223372036854775807) (w : World) (hE : Env w) :
  Calls Tryz.prog 42 #[.bool said, .int .i64 n] w fun e w' => e = .returned (sv (numT said n)) ∧ Below w.heap.size w w' := by
 have hE' := Aside0.mk hE
 clear hE; cases said
 ·go_enter Tryz.func42, Tryz.ntmps42
  go_wp2
  go_ret
  exact ⟨rfl, Below.refl _ _⟩
 ·go_enter Tryz.func42, Tryz.ntmps42
  go_wp2_with (go_at_call 86; refine (Tryz.strconv_FormatInt_10 n h0 h1 _ hE'.out.pow).mono ?_; rintro e w1 ⟨rfl, hb⟩; have hb1 := Aside0.mk (grow_below hb); clear hb)
  go_ret
  exact ⟨rfl, hb1.out⟩
end Go.Proofs.YtknkfimpflodeaaGreatDoor.P
