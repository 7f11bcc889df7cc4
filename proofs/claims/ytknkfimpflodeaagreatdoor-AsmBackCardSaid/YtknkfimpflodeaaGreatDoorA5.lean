/- asm's read: its two closures, walked. -/
import Derived.Test.YtknkfimpflodeaaGreatDoorA2
namespace Go.Proofs.YtknkfimpflodeaaGreatDoor.P
open Go.RowKit Go.Proofs.YtknkfimpflodeaaGreatDoorW.PrintWords Go.Proofs.YtknkfimpflodeaaGreatDoorW.PrintLast Go.Proofs.YtknkfimpflodeaaGreatDoorW.PrintMore
set_option linter.unusedVariables false
/-- nothing is touched but the blocks of S and what is new -/
structure OnlyS (S : List Nat) (w w' : World) : Prop where
 os : w'.os = w.os
 tape : w'.tape = w.tape
 output : w'.output = w.output
 size : w.heap.size ≤ w'.heap.size
 block : ∀ k, k < w.heap.size → k ∉ S → w'.heap[k]? = w.heap[k]?
theorem OnlyS.refl (S : List Nat) (w : World) : OnlyS S w w := ⟨rfl, rfl, rfl, Nat.le_refl _, fun _ _ _ => rfl⟩
theorem OnlyS.trans {S : List Nat} {u v w : World} (h : OnlyS S u v) (k : OnlyS S v w) : OnlyS S u w :=
 ⟨k.os.trans h.os, k.tape.trans h.tape, k.output.trans h.output, Nat.le_trans h.size k.size, fun i hi hb => (k.block i (Nat.lt_of_lt_of_le hi h.size) hb).trans (h.block i hi hb)⟩
theorem OnlyS.of {S : List Nat} {u v : World} (h : Below u.heap.size u v) : OnlyS S u v := ⟨h.os, h.tape, h.output, h.size, fun i hi _ => h.block i hi⟩
theorem OnlyS.set {S : List Nat} {u v : World} (h : OnlyS S u v) {b : Nat} (hb : b ∈ S) (i : Nat) (x : Value) : OnlyS S u (v.setCell ⟨b, i, none⟩ x) :=
 ⟨h.os, h.tape, h.output, by simpa using h.size, fun k hk hn => (Below.heap_setCell v ⟨b, i, none⟩ x k (fun e => hn (by rw [e]; exact hb))).trans (h.block k hk hn)⟩
theorem OnlyS.below {S : List Nat} {n : Nat} {u v : World} (h : OnlyS S u v) (hn : ∀ b ∈ S, n ≤ b) (hs : n ≤ u.heap.size) : Below n u v :=
 ⟨h.os, h.tape, h.output, h.size, fun k hk => h.block k (Nat.lt_of_lt_of_le hk hs) (fun hm => absurd (hn k hm) (by omega))⟩
theorem OnlyS.keep {S : List Nat} {u v : World} (h : OnlyS S u v) {g : Nat} {o : Obj} (hg : u.heap[g]? = some o) (hn : g ∉ S) : v.heap[g]? = some o := (h.block g (blk_lt hg) hn).trans hg
theorem cut_len (s sep : BL) : (Lib.cut s sep).1.length ≤ s.length ∧ (Lib.cut s sep).2.1.length ≤ s.length := by
 rcases cut_spec s sep with ⟨-, h⟩ | h
 ·have := congrArg List.length h
  simp only [List.length_append] at this
  constructor <;> omega
 ·rw [h]; simp
def BoolB (w : World) (b : Nat) (x : Bool) : Prop := w.heap[b]? = some (.cells #[.bool x] 4 (0, 0))
def StrB (w : World) (b : Nat) (x : BL) : Prop := w.heap[b]? = some (.cells #[sv x] 9 (0, 0))
theorem OnlyS.drewN {S : List Nat} {u v : World} (h : OnlyS S u v) (n : Nat) : OnlyS S u (v.drewN n) := ⟨h.os, h.tape, h.output, h.size, h.block⟩
theorem BoolB.far {w : World} {b c : Nat} {x : Bool} (h : BoolB w b x) (hn : b ≠ c) (i : Nat) (v : Value) : BoolB (w.setCell ⟨c, i, none⟩ v) b x := blk_far h hn v
theorem StrB.far {w : World} {b c : Nat} {x : BL} (h : StrB w b x) (hn : b ≠ c) (i : Nat) (v : Value) : StrB (w.setCell ⟨c, i, none⟩ v) b x := blk_far h hn v
theorem BoolB.put {w : World} {b : Nat} {x : Bool} (h : BoolB w b x) (y : Bool) : BoolB (w.setCell ⟨b, 0, none⟩ (.bool y)) b y := blk_put h 0 _ rfl
theorem StrB.put {w : World} {b : Nat} {x : BL} (h : StrB w b x) (y : BL) : StrB (w.setCell ⟨b, 0, none⟩ (sv y)) b y := blk_put h 0 _ rfl
theorem BoolB.cell {w : World} {b : Nat} {x : Bool} (h : BoolB w b x) : w.cell? ⟨b, 0, none⟩ = some (.bool x) := (blk_cell h 0).trans rfl
theorem StrB.cell {w : World} {b : Nat} {x : BL} (h : StrB w b x) : w.cell? ⟨b, 0, none⟩ = some (sv x) := (blk_cell h 0).trans rfl
/-- where the reading stands, in memory -/
structure Rd (w : World) (bf bm bk br : Nat) (st : St) : Prop where
 f : BoolB w bf st.1
 m : BoolB w bm st.2.1
 k : BoolB w bk st.2.2.1
 r : StrB w br st.2.2.2
set_option maxHeartbeats 8000000 in
set_option maxRecDepth 100000 in
theorem next_calls (bf bm bk br : Nat) (st : St) (hs : st.2.2.2.length < 4294967281) (d1 : bf ≠ bm) (d2 : bf ≠ bk) (d3 : bf ≠ br) (d4 : bm ≠ bk) (d5 : bm ≠ br) (d6 : bk ≠ br) (g1 : 8 ≤ bf) (g2 : 8 ≤ bm) (g3 : 8 ≤ bk) (g4 : 8 ≤ br) (w : World) (hE : Env w) (hR : Rd w bf bm bk br st) :
  Calls Tryz.prog 115 #[.bool true, .pointer (some ⟨bf, 0, none⟩), .pointer (some ⟨bm, 0, none⟩), .pointer (some ⟨bk, 0, none⟩), .pointer (some ⟨br, 0, none⟩)] w fun e w' =>
   e = .returned (sv (nextS st).1) ∧ Rd w' bf bm bk br (nextS st).2 ∧ OnlyS [bf, bm, bk, br] w w' := by
 obtain ⟨f, m, k, r⟩ := st
 have cf := hR.f.cell; have cm := hR.m.cell; have ck := hR.k.cell; have ff := blk_frozen hR.f 0
 have fm := blk_frozen hR.m 0
 have fk := blk_frozen hR.k 0
 have cr := hR.r.cell; have fr := blk_frozen hR.r 0
 have hR' := Aside0.mk hR
 have hE' := Aside0.mk hE
 have hml : ∀ W, OnlyS [bf, bm, bk, br] w W → ∃ mx, W.cell? ⟨1, 0, none⟩ = some (.int .i64 mx) := fun W h => (hE.to (h.below (n := 8) (by simp; omega) hE.size) (Nat.le_refl _)).ml
 have hml' := Aside0.mk hml
 clear hR hE hml; have hs' := Aside0.mk hs
 clear hs g1 g2 g3 g4; obtain ⟨x1, x2, x3, hX⟩ : ∃ x1 x2 x3, Lib.cut r [44, 32] = (x1, x2, x3) := ⟨_, _, _, rfl⟩
 have hN : nextS (f, m, k, r) = (x1, false, x3, k && (f || m), x2) := by unfold nextS; dsimp only; rw [hX]
 rw [hN]
 clear hN; have hX' := Aside0.mk hX
 clear hX; have DD := Aside0.mk (And.intro d1 (And.intro d2 (And.intro d3 (And.intro d4 (And.intro d5 d6)))))
 cases f <;> cases m
 ·go_enter Tryz.func115, Tryz.ntmps115
  go_wp2_with (fail)
  have O1 : Aside0 (OnlyS [bf, bm, bk, br] w ((w.setCell ⟨bk, 0, none⟩ (.bool false)).setCell ⟨bf, 0, none⟩ (.bool false))) := ⟨((OnlyS.refl _ w).set (b := bk) (by simp) 0 _).set (b := bf) (by simp) 0 _⟩
  have R1 : Aside0 (StrB ((w.setCell ⟨bk, 0, none⟩ (.bool false)).setCell ⟨bf, 0, none⟩ (.bool false)) br r) := ⟨(hR'.out.r.far DD.out.2.2.2.2.2.symm 0 _).far DD.out.2.2.1.symm 0 _⟩
  have M1 : Aside0 (BoolB ((w.setCell ⟨bk, 0, none⟩ (.bool false)).setCell ⟨bf, 0, none⟩ (.bool false)) bm _) := ⟨(hR'.out.m.far DD.out.2.2.2.1 0 _).far DD.out.1.symm 0 _⟩
  have F1 : Aside0 (BoolB ((w.setCell ⟨bk, 0, none⟩ (.bool false)).setCell ⟨bf, 0, none⟩ (.bool false)) bf false) := ⟨(hR'.out.f.far DD.out.2.1 0 _).put false⟩
  have K1 : Aside0 (BoolB ((w.setCell ⟨bk, 0, none⟩ (.bool false)).setCell ⟨bf, 0, none⟩ (.bool false)) bk false) := ⟨(hR'.out.k.put false).far DD.out.2.1.symm 0 _⟩
  obtain ⟨mx, hmx⟩ := hml'.out _ O1.out
  clear cf cm ck ff fm fk cr fr; refine (Tryz.strings_Cut _ _ mx _ (by rw [sv_size]; exact hs'.out) hmx).mono ?_
  clear hmx; generalize ((w.setCell ⟨bk, 0, none⟩ (.bool false)).setCell ⟨bf, 0, none⟩ (.bool false)) = W1 at O1 R1 M1 F1 K1
  rintro e w1 ⟨rfl, n, hw⟩
  rw [sv_data, show (⟨#[44, 32]⟩ : ByteArray).data.toList = [44, 32] from rfl, hX'.out]
  have O2 : Aside0 (OnlyS [bf, bm, bk, br] w w1) := ⟨by rw [hw]; exact O1.out.drewN n⟩
  have R2 : Aside0 (StrB w1 br r) := ⟨by rw [hw]; exact R1.out⟩
  have M2 : Aside0 (BoolB w1 bm _) := ⟨by rw [hw]; exact M1.out⟩
  have F2 : Aside0 (BoolB w1 bf false) := ⟨by rw [hw]; exact F1.out⟩
  have K2 : Aside0 (BoolB w1 bk false) := ⟨by rw [hw]; exact K1.out⟩
  clear hw O1 R1 M1 F1 K1 W1; have cr := R2.out.cell; have fr := blk_frozen R2.out 0
  have cm := M2.out.cell; have fm := blk_frozen M2.out 0
  go_wp2
  go_ret
  exact ⟨rfl, ⟨(F2.out.far DD.out.2.2.1 0 _).far DD.out.1 0 _, (M2.out.far DD.out.2.2.2.2.1 0 _).put _, by simpa using (K2.out.far DD.out.2.2.2.2.2 0 _).far DD.out.2.2.2.1.symm 0 _, (R2.out.put _).far DD.out.2.2.2.2.1.symm 0 _⟩, (O2.out.set (b := br) (by simp) 0 _).set (b := bm) (by simp) 0 _⟩
 ·go_enter Tryz.func115, Tryz.ntmps115
  go_wp2_with (fail)
  have O1 : Aside0 (OnlyS [bf, bm, bk, br] w (w.setCell ⟨bf, 0, none⟩ (.bool false))) := ⟨(OnlyS.refl _ w).set (b := bf) (by simp) 0 _⟩
  have R1 : Aside0 (StrB (w.setCell ⟨bf, 0, none⟩ (.bool false)) br r) := ⟨hR'.out.r.far DD.out.2.2.1.symm 0 _⟩
  have M1 : Aside0 (BoolB (w.setCell ⟨bf, 0, none⟩ (.bool false)) bm _) := ⟨hR'.out.m.far DD.out.1.symm 0 _⟩
  have F1 : Aside0 (BoolB (w.setCell ⟨bf, 0, none⟩ (.bool false)) bf false) := ⟨hR'.out.f.put false⟩
  have K1 : Aside0 (BoolB (w.setCell ⟨bf, 0, none⟩ (.bool false)) bk k) := ⟨hR'.out.k.far DD.out.2.1.symm 0 _⟩
  obtain ⟨mx, hmx⟩ := hml'.out _ O1.out
  clear cf cm ck ff fm fk cr fr; refine (Tryz.strings_Cut _ _ mx _ (by rw [sv_size]; exact hs'.out) hmx).mono ?_
  clear hmx; generalize (w.setCell ⟨bf, 0, none⟩ (.bool false)) = W1 at O1 R1 M1 F1 K1
  rintro e w1 ⟨rfl, n, hw⟩
  rw [sv_data, show (⟨#[44, 32]⟩ : ByteArray).data.toList = [44, 32] from rfl, hX'.out]
  have O2 : Aside0 (OnlyS [bf, bm, bk, br] w w1) := ⟨by rw [hw]; exact O1.out.drewN n⟩
  have R2 : Aside0 (StrB w1 br r) := ⟨by rw [hw]; exact R1.out⟩
  have M2 : Aside0 (BoolB w1 bm _) := ⟨by rw [hw]; exact M1.out⟩
  have F2 : Aside0 (BoolB w1 bf false) := ⟨by rw [hw]; exact F1.out⟩
  have K2 : Aside0 (BoolB w1 bk k) := ⟨by rw [hw]; exact K1.out⟩
  clear hw O1 R1 M1 F1 K1 W1; have cr := R2.out.cell; have fr := blk_frozen R2.out 0
  have cm := M2.out.cell; have fm := blk_frozen M2.out 0
  go_wp2
  go_ret
  exact ⟨rfl, ⟨(F2.out.far DD.out.2.2.1 0 _).far DD.out.1 0 _, (M2.out.far DD.out.2.2.2.2.1 0 _).put _, by simpa using (K2.out.far DD.out.2.2.2.2.2 0 _).far DD.out.2.2.2.1.symm 0 _, (R2.out.put _).far DD.out.2.2.2.2.1.symm 0 _⟩, (O2.out.set (b := br) (by simp) 0 _).set (b := bm) (by simp) 0 _⟩
 ·go_enter Tryz.func115, Tryz.ntmps115
  go_wp2_with (fail)
  have O1 : Aside0 (OnlyS [bf, bm, bk, br] w (w.setCell ⟨bf, 0, none⟩ (.bool false))) := ⟨(OnlyS.refl _ w).set (b := bf) (by simp) 0 _⟩
  have R1 : Aside0 (StrB (w.setCell ⟨bf, 0, none⟩ (.bool false)) br r) := ⟨hR'.out.r.far DD.out.2.2.1.symm 0 _⟩
  have M1 : Aside0 (BoolB (w.setCell ⟨bf, 0, none⟩ (.bool false)) bm _) := ⟨hR'.out.m.far DD.out.1.symm 0 _⟩
  have F1 : Aside0 (BoolB (w.setCell ⟨bf, 0, none⟩ (.bool false)) bf false) := ⟨hR'.out.f.put false⟩
  have K1 : Aside0 (BoolB (w.setCell ⟨bf, 0, none⟩ (.bool false)) bk k) := ⟨hR'.out.k.far DD.out.2.1.symm 0 _⟩
  obtain ⟨mx, hmx⟩ := hml'.out _ O1.out
  clear cf cm ck ff fm fk cr fr; refine (Tryz.strings_Cut _ _ mx _ (by rw [sv_size]; exact hs'.out) hmx).mono ?_
  clear hmx; generalize (w.setCell ⟨bf, 0, none⟩ (.bool false)) = W1 at O1 R1 M1 F1 K1
  rintro e w1 ⟨rfl, n, hw⟩
  rw [sv_data, show (⟨#[44, 32]⟩ : ByteArray).data.toList = [44, 32] from rfl, hX'.out]
  have O2 : Aside0 (OnlyS [bf, bm, bk, br] w w1) := ⟨by rw [hw]; exact O1.out.drewN n⟩
  have R2 : Aside0 (StrB w1 br r) := ⟨by rw [hw]; exact R1.out⟩
  have M2 : Aside0 (BoolB w1 bm _) := ⟨by rw [hw]; exact M1.out⟩
  have F2 : Aside0 (BoolB w1 bf false) := ⟨by rw [hw]; exact F1.out⟩
  have K2 : Aside0 (BoolB w1 bk k) := ⟨by rw [hw]; exact K1.out⟩
  clear hw O1 R1 M1 F1 K1 W1; have cr := R2.out.cell; have fr := blk_frozen R2.out 0
  have cm := M2.out.cell; have fm := blk_frozen M2.out 0
  go_wp2
  go_ret
  exact ⟨rfl, ⟨(F2.out.far DD.out.2.2.1 0 _).far DD.out.1 0 _, (M2.out.far DD.out.2.2.2.2.1 0 _).put _, by simpa using (K2.out.far DD.out.2.2.2.2.2 0 _).far DD.out.2.2.2.1.symm 0 _, (R2.out.put _).far DD.out.2.2.2.2.1.symm 0 _⟩, (O2.out.set (b := br) (by simp) 0 _).set (b := bm) (by simp) 0 _⟩
 ·go_enter Tryz.func115, Tryz.ntmps115
  go_wp2_with (fail)
  have O1 : Aside0 (OnlyS [bf, bm, bk, br] w (w.setCell ⟨bf, 0, none⟩ (.bool false))) := ⟨(OnlyS.refl _ w).set (b := bf) (by simp) 0 _⟩
  have R1 : Aside0 (StrB (w.setCell ⟨bf, 0, none⟩ (.bool false)) br r) := ⟨hR'.out.r.far DD.out.2.2.1.symm 0 _⟩
  have M1 : Aside0 (BoolB (w.setCell ⟨bf, 0, none⟩ (.bool false)) bm _) := ⟨hR'.out.m.far DD.out.1.symm 0 _⟩
  have F1 : Aside0 (BoolB (w.setCell ⟨bf, 0, none⟩ (.bool false)) bf false) := ⟨hR'.out.f.put false⟩
  have K1 : Aside0 (BoolB (w.setCell ⟨bf, 0, none⟩ (.bool false)) bk k) := ⟨hR'.out.k.far DD.out.2.1.symm 0 _⟩
  obtain ⟨mx, hmx⟩ := hml'.out _ O1.out
  clear cf cm ck ff fm fk cr fr; refine (Tryz.strings_Cut _ _ mx _ (by rw [sv_size]; exact hs'.out) hmx).mono ?_
  clear hmx; generalize (w.setCell ⟨bf, 0, none⟩ (.bool false)) = W1 at O1 R1 M1 F1 K1
  rintro e w1 ⟨rfl, n, hw⟩
  rw [sv_data, show (⟨#[44, 32]⟩ : ByteArray).data.toList = [44, 32] from rfl, hX'.out]
  have O2 : Aside0 (OnlyS [bf, bm, bk, br] w w1) := ⟨by rw [hw]; exact O1.out.drewN n⟩
  have R2 : Aside0 (StrB w1 br r) := ⟨by rw [hw]; exact R1.out⟩
  have M2 : Aside0 (BoolB w1 bm _) := ⟨by rw [hw]; exact M1.out⟩
  have F2 : Aside0 (BoolB w1 bf false) := ⟨by rw [hw]; exact F1.out⟩
  have K2 : Aside0 (BoolB w1 bk k) := ⟨by rw [hw]; exact K1.out⟩
  clear hw O1 R1 M1 F1 K1 W1; have cr := R2.out.cell; have fr := blk_frozen R2.out 0
  have cm := M2.out.cell; have fm := blk_frozen M2.out 0
  go_wp2
  go_ret
  exact ⟨rfl, ⟨(F2.out.far DD.out.2.2.1 0 _).far DD.out.1 0 _, (M2.out.far DD.out.2.2.2.2.1 0 _).put _, by simpa using (K2.out.far DD.out.2.2.2.2.2 0 _).far DD.out.2.2.2.1.symm 0 _, (R2.out.put _).far DD.out.2.2.2.2.1.symm 0 _⟩, (O2.out.set (b := br) (by simp) 0 _).set (b := bm) (by simp) 0 _⟩
theorem next_len (st : St) : (nextS st).1.length ≤ st.2.2.2.length ∧ (nextS st).2.2.2.2.length ≤ st.2.2.2.length := cut_len st.2.2.2 [44, 32]
/-- the closure 'next', as it lies in its variable -/
def FnB (w : World) (bn bf bm bk br : Nat) : Prop := w.heap[bn]? = some (.cells #[.func (.func 115) #[] #[.pointer (some ⟨bf, 0, none⟩), .pointer (some ⟨bm, 0, none⟩), .pointer (some ⟨bk, 0, none⟩), .pointer (some ⟨br, 0, none⟩)]] 167 (0, 0))
theorem wellS_eq (good : Bool) (st : St) : wellS good st = (st.1, st.2.1, st.2.2.1 && good, st.2.2.2) := rfl
theorem Rd.well {w : World} {bf bm bk br : Nat} {st : St} (h : Rd w bf bm bk br st) (good : Bool) (d2 : bf ≠ bk) (d4 : bm ≠ bk) (d6 : bk ≠ br) (x : Bool) (hx : x = (st.2.2.1 && good)) : Rd (w.setCell ⟨bk, 0, none⟩ (.bool x)) bf bm bk br (wellS good st) :=
 ⟨h.f.far d2 0 _, h.m.far d4 0 _, hx ▸ h.k.put _, h.r.far d6.symm 0 _⟩
set_option maxHeartbeats 8000000 in
set_option maxRecDepth 100000 in
theorem take_calls (said : Bool) (bn bf bm bk br : Nat) (st : St) (hs : st.2.2.2.length < 4294967281) (d1 : bf ≠ bm) (d2 : bf ≠ bk) (d3 : bf ≠ br) (d4 : bm ≠ bk) (d5 : bm ≠ br) (d6 : bk ≠ br) (g1 : 8 ≤ bf) (g2 : 8 ≤ bm) (g3 : 8 ≤ bk) (g4 : 8 ≤ br)
  (w : World) (hE : Env w) (hR : Rd w bf bm bk br st) (hn : FnB w bn bf bm bk br) (hnn : bn ∉ [bf, bm, bk, br]) :
  Calls Tryz.prog 116 #[.bool said, .pointer (some ⟨bn, 0, none⟩), .pointer (some ⟨bk, 0, none⟩)] w fun e w' =>
   e = .returned (.int .i64 (takeS said st).1) ∧ Rd w' bf bm bk br (takeS said st).2 ∧ OnlyS [bf, bm, bk, br] w w' := by
 cases said
 ·have hR' := Aside0.mk hR
  clear hR hn hE; go_enter Tryz.func116, Tryz.ntmps116
  go_wp2
  go_ret
  exact ⟨rfl, hR'.out, OnlyS.refl _ _⟩
 ·have cn := (blk_cell hn 0)
  simp at cn
  have hN := next_calls bf bm bk br st hs d1 d2 d3 d4 d5 d6 g1 g2 g3 g4 w hE hR
  have hN' := Aside0.mk hN
  have hl := (next_len st).1
  have hG := Aside0.mk (fun W (h : OnlyS [bf, bm, bk, br] w W) => hE.to (h.below (n := 8) (by simp; omega) hE.size) (Nat.le_refl _))
  have DD := Aside0.mk (And.intro d2 (And.intro d4 d6))
  clear hR hE hN hn d1 d2 d3 d4 d5 d6 g1 g2 g3 g4 hnn; unfold takeS
  rw [if_pos rfl]
  generalize nextS st = NS at hN' hl ⊢
  obtain ⟨s, st'⟩ := NS
  dsimp only at hN' hl ⊢
  have hr := fun W h => register_calls ⟨s.toArray⟩ (by rw [sv_size]; omega) W h
  simp only at hr
  have hr' := Aside0.mk hr
  clear hr; generalize registerS s = RS at hr' ⊢
  obtain ⟨n, good⟩ := RS
  dsimp only at hr' ⊢
  have hl' := Aside0.mk hl
  have hs' := Aside0.mk hs
  clear hl hs; go_enter Tryz.func116, Tryz.ntmps116
  go_wp2_with (first
   | (go_at_call 115; refine hN'.out.mono ?_; rintro e w1 ⟨rfl, hR1, hO1⟩; have R1 := Aside0.mk hR1; have O1 := Aside0.mk hO1; clear hR1 hO1)
   | (go_at_call 101; refine (hr'.out _ (hG.out _ O1.out)).mono ?_; rintro e w2 ⟨rfl, hb⟩; have R2 : Aside0 (Rd w2 bf bm bk br st') := ⟨⟨blk_below R1.out.f hb, blk_below R1.out.m hb, blk_below R1.out.k hb, blk_below R1.out.r hb⟩⟩; have O2 := Aside0.mk (O1.out.trans (OnlyS.of (S := [bf, bm, bk, br]) hb)); clear hb R1 O1; have ck := R2.out.k.cell; have fk := blk_frozen R2.out.k 0))
  all_goals
   go_ret
   exact ⟨rfl, R2.out.well good DD.out.1 DD.out.2.1 DD.out.2.2 _ (by simp [*]), O2.out.set (b := bk) (by simp) 0 _⟩
end Go.Proofs.YtknkfimpflodeaaGreatDoor.P
