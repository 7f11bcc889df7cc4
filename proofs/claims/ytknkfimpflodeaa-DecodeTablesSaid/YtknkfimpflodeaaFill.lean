/- The decoder's table is made: (*Decoder).fill, walked. -/
import Derived.Test.YtknkfimpflodeaaFirst
import Derived.Test.YtknkfimpflodeaaOnce
import Derived.Test.YtknkfimpflodeaaF0
import Derived.Deep.RegionHeld3
namespace Go.Proofs.Ytknkfimpflodeaa.P
open Go.RowKit Go.Proofs.YtknkfimpflodeaaW.PrintWords Go.Proofs.YtknkfimpflodeaaW.PrintLast Go.Proofs.YtknkfimpflodeaaW.PrintMore
set_option linter.unusedVariables false
attribute [local go_sem] run_f0 run_f1 run_f2 run_f3 run_g0 run_g1 run_g2 run_g3
/-- a decoder's cells: is it done, the lock's two, the table -/
def decC (d s q : Int) (T : Nat → Int) : Array Value := (Value.int .u32 d :: Value.int .i32 s :: Value.int .u32 q :: (List.range 128).map fun m => Value.int .u8 (T m)).toArray
def Blk (w : World) (b : Nat) (d s q : Int) (T : Nat → Int) : Prop := w.heap[b]? = some (.cells (decC d s q T) 53 (0, 0))
theorem decC_at (d s q : Int) (T : Nat → Int) (m : Nat) (h : m < 128) : (decC d s q T)[3 + m]? = some (.int .u8 (T m)) := by
  unfold decC
  rw [List.getElem?_toArray, show 3 + m = m + 1 + 1 + 1 by omega, List.getElem?_cons_succ, List.getElem?_cons_succ, List.getElem?_cons_succ, List.getElem?_map, List.getElem?_range h]
  rfl
theorem decC_set (d s q : Int) (T : Nat → Int) (m : Nat) (v : Int) : (decC d s q T).setIfInBounds (3 + m) (.int .u8 v) = decC d s q (fun k => if k = m then v else T k) := by
  unfold decC
  rw [List.setIfInBounds_toArray]
  congr 1
  rw [show 3 + m = m + 1 + 1 + 1 by omega, List.set_cons_succ, List.set_cons_succ, List.set_cons_succ]
  congr 3
  apply List.ext_getElem?
  intro i
  rw [List.getElem?_set, List.getElem?_map, List.getElem?_map]
  by_cases e : m = i
  · subst e
    rw [if_pos rfl]
    by_cases h : m < 128
    · simp [h]
    · simp [h]
  · rw [if_neg e]
    by_cases h : i < 128
    · simp [h, Ne.symm e]
    · simp [h]
theorem decC_ext (d s q : Int) (T U : Nat → Int) (h : ∀ m, m < 128 → T m = U m) : decC d s q T = decC d s q U := by
  unfold decC
  congr 4
  refine List.map_congr_left fun m hm => ?_
  rw [h m (List.mem_range.1 hm)]
theorem Blk.cell {w : World} {b : Nat} {d s q : Int} {T : Nat → Int} (h : Blk w b d s q T) (m : Nat) (hm : m < 128) : w.cell? ⟨b, 3 + m, none⟩ = some (.int .u8 (T m)) := (blk_cell h _).trans (decC_at d s q T m hm)
theorem Blk.free {w : World} {b : Nat} {d s q : Int} {T : Nat → Int} (h : Blk w b d s q T) (i : Nat) : w.frozen? ⟨b, i, none⟩ = false := blk_frozen h i
theorem Blk.put {w : World} {b : Nat} {d s q : Int} {T : Nat → Int} (h : Blk w b d s q T) (m : Nat) (v : Int) : Blk (w.setCell ⟨b, 3 + m, none⟩ (.int .u8 v)) b d s q (fun k => if k = m then v else T k) := blk_put h _ _ (decC_set d s q T m v)
theorem and_low (w : Int) (w0 : 0 ≤ w) (w1 : w < 4294967296) : Go.bits .and .u32 w 127 = w % 128 := by
  have ha := and_u32 7 (by decide) w w0 w1
  simpa using ha
/-- nothing is touched but block b and what is new -/
structure OnlyB (b : Nat) (w w' : World) : Prop where
  os : w'.os = w.os
  tape : w'.tape = w.tape
  output : w'.output = w.output
  size : w.heap.size ≤ w'.heap.size
  block : ∀ k, k < w.heap.size → k ≠ b → w'.heap[k]? = w.heap[k]?
theorem OnlyB.refl (b : Nat) (w : World) : OnlyB b w w := ⟨rfl, rfl, rfl, Nat.le_refl _, fun _ _ _ => rfl⟩
theorem OnlyB.trans {b : Nat} {u v w : World} (h : OnlyB b u v) (k : OnlyB b v w) : OnlyB b u w :=
  ⟨k.os.trans h.os, k.tape.trans h.tape, k.output.trans h.output, Nat.le_trans h.size k.size, fun i hi hb => (k.block i (Nat.lt_of_lt_of_le hi h.size) hb).trans (h.block i hi hb)⟩
theorem OnlyB.of {b : Nat} {u v : World} (h : Below u.heap.size u v) : OnlyB b u v := ⟨h.os, h.tape, h.output, h.size, fun i hi _ => h.block i hi⟩
theorem OnlyB.drew {b : Nat} {u v : World} (h : OnlyB b u v) : OnlyB b u v.drew := ⟨h.os, h.tape, h.output, h.size, h.block⟩
theorem OnlyB.set {b : Nat} {u v : World} (h : OnlyB b u v) (i : Nat) (x : Value) : OnlyB b u (v.setCell ⟨b, i, none⟩ x) :=
  ⟨h.os, h.tape, h.output, by simpa using h.size, fun k hk hb => (Below.heap_setCell v ⟨b, i, none⟩ x k hb).trans (h.block k hk hb)⟩
theorem OnlyB.below {b n : Nat} {u v : World} (h : OnlyB b u v) (hn : n ≤ b) (hb : b < u.heap.size) : Below n u v :=
  ⟨h.os, h.tape, h.output, h.size, fun k hk => h.block k (by omega) (by omega)⟩
set_option maxHeartbeats 8000000 in
set_option maxRecDepth 100000 in
theorem fill_calls (b : Nat) (d s q : Int) (w : World) (hB : Blk w b d s q (fun _ => 0)) :
    Calls Try.prog 31 #[.pointer (some ⟨b, 0, none⟩)] w fun e w' => e = .returned (.tuple #[]) ∧ Blk w' b d s q (fun m => firstL tabP 1 m) ∧ OnlyB b w w' := by
  have KB0 := Aside0.mk hB
  clear hB
  go_enter Try.func31, Try.ntmps31
  go_wp2_with (go_at_call 20; refine (rows_calls _).mono ?_; rintro e w1 ⟨rfl, hb⟩; have KB := Aside0.mk (blk_below KB0.out hb); have KL := Aside0.mk (OnlyB.of (b := b) hb); clear hb)
  go_loopg [2] 113 (fun kq v2 wr => v2 = .int .i64 ((kq : Int) - 1) ∧ kq ≤ 113 ∧ Aside0 (Blk wr b d s q (fun m => firstL (tabP.drop kq) ((kq : Int) + 1) m)) ∧ Aside0 (OnlyB b w wr))
  case atStart =>
    refine ⟨rfl, Nat.le_refl _, ⟨?_⟩, KL⟩
    have := KB.out
    unfold Blk
    rw [decC_ext d s q (fun m => firstL (tabP.drop 113) (((113 : Nat) : Int) + 1) m) (fun _ => 0) (fun m _ => first_end m)]
    exact this
  case round =>
    clear KB KL KB0
    obtain ⟨rfl, hle, KB, KL⟩ := hrel
    cases gk with
    | zero =>
      go_wp2
      go_end0
      exact ⟨rfl, KB.out, KL.out⟩
    | succ i =>
      have hi : i < 113 := by omega
      have hx : ((i + 1 : Nat) : Int) - 1 = (i : Int) := by omega
      rw [hx]
      have h0 : (0 : Int) ≤ (i : Int) := by omega
      have h1 : (i : Int) < 113 := by omega
      have hrow := run_rowAt (i : Int) h0 h1
      obtain ⟨-, -, -, -, m0, m1⟩ := row_ok i hi
      have hand : Go.bits .and .u32 (rowAt (i : Int)).2.2.1 127 = (((tabP.getD i rowZ).2.2.1 % 128).toNat : Int) := by
        rw [rowAt_nat, and_low _ m0 m1]; omega
      have hlt : ((tabP.getD i rowZ).2.2.1 % 128).toNat < 128 := by omega
      have hlt' : ((((tabP.getD i rowZ).2.2.1 % 128).toNat : Nat) : Int) < 128 := by omega
      have hge' : (0 : Int) ≤ ((((tabP.getD i rowZ).2.2.1 % 128).toNat : Nat) : Int) := by omega
      have hM : (tabP.getD i rowZ).2.2.1 % 128 = ((((tabP.getD i rowZ).2.2.1 % 128).toNat : Nat) : Int) := by omega
      generalize ((tabP.getD i rowZ).2.2.1 % 128).toNat = M at *
      have hM' := Aside0.mk hM
      clear hM
      go_wp2
      go_region_held3 (fun w' => True) (trivial) ((go_at_call 20; refine (rows_calls _).mono ?_; rintro e w2 ⟨rfl, hb⟩; have KB2 := Aside0.mk (blk_below (blk_drew KB.out) hb); have KL2 := Aside0.mk (KL.out.drew.trans (OnlyB.of hb)); clear hb; have hce := Blk.cell KB2.out M hlt; have hfe := Blk.free KB2.out (3 + M)))
      go_wp2
      go_roundg i
      case measure => omega
      case rel =>
        refine ⟨by simp, by omega, ⟨?_⟩, ⟨KL2.out.set _ _⟩⟩
        have h3 := Blk.put KB2.out M ((i : Int) + 1)
        unfold Blk at h3 ⊢
        rw [h3]
        congr 2
        refine decC_ext d s q _ _ (fun m _ => ?_)
        rw [first_step (m : Int) i hi, hM'.out]
        by_cases e : m = M
        · rw [if_pos e, if_pos (by omega)]
        · rw [if_neg e, if_neg (by omega)]
end Go.Proofs.Ytknkfimpflodeaa.P
