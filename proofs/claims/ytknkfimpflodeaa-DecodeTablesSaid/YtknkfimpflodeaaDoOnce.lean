/- sync.Once over the decoder's fill: the first time and later. -/
import Derived.Test.YtknkfimpflodeaaFill
namespace Go.Proofs.Ytknkfimpflodeaa.P
open Go.RowKit Go.Proofs.YtknkfimpflodeaaW.PrintWords Go.Proofs.YtknkfimpflodeaaW.PrintLast Go.Proofs.YtknkfimpflodeaaW.PrintMore
set_option linter.unusedVariables false
theorem decC_d (d s q v : Int) (T : Nat → Int) : (decC d s q T).setIfInBounds 0 (.int .u32 v) = decC v s q T := by
  unfold decC
  rw [List.setIfInBounds_toArray]
  rfl
theorem decC_s (d s q v : Int) (T : Nat → Int) : (decC d s q T).setIfInBounds 1 (.int .i32 v) = decC d v q T := by
  unfold decC
  rw [List.setIfInBounds_toArray]
  rfl
theorem Blk.put0 {w : World} {b : Nat} {d s q : Int} {T : Nat → Int} (h : Blk w b d s q T) (v : Int) : Blk (w.setCell ⟨b, 0, none⟩ (.int .u32 v)) b v s q T := blk_put h _ _ (decC_d d s q v T)
theorem Blk.put1 {w : World} {b : Nat} {d s q : Int} {T : Nat → Int} (h : Blk w b d s q T) (v : Int) : Blk (w.setCell ⟨b, 1, none⟩ (.int .i32 v)) b d v q T := blk_put h _ _ (decC_s d s q v T)
theorem Blk.cell0 {w : World} {b : Nat} {d s q : Int} {T : Nat → Int} (h : Blk w b d s q T) : w.cell? ⟨b, 0, none⟩ = some (.int .u32 d) := (blk_cell h 0).trans rfl
theorem Blk.cell1 {w : World} {b : Nat} {d s q : Int} {T : Nat → Int} (h : Blk w b d s q T) : w.cell? ⟨b, 1, none⟩ = some (.int .i32 s) := (blk_cell h 1).trans rfl
def firstT (m : Nat) : Int := firstL tabP 1 m
set_option maxHeartbeats 8000000 in
set_option maxRecDepth 100000 in
theorem slow_calls (b : Nat) (q : Int) (w : World) (hB : Blk w b 0 0 q (fun _ => 0)) :
    Calls Try.prog 42 #[.pointer (some ⟨b, 0, none⟩), .func (.func 31) #[.pointer (some ⟨b, 0, none⟩)] #[]] w fun e w' => e = .returned (.tuple #[]) ∧ Blk w' b 1 0 q firstT ∧ OnlyB b w w' := by
  have KB := Aside0.mk hB
  have c0 := Blk.cell0 hB
  have c1 := Blk.cell1 hB
  have f0 := Blk.free hB 0
  have f1 := Blk.free hB 1
  have KB1 := Aside0.mk (Blk.put1 hB 1)
  have g0 := Blk.cell0 KB1.out
  clear hB
  have hl := run_call_load (P := Try.prog) Try.func47 (by kernel_rfl) (by kernel_rfl) (by kernel_rfl) .u32 (by kernel_rfl) g0
  have hnot : ∀ (x : Bool) (w : World), (Op.unary .not (.bool x)).run Try.prog w = .ok (.bool (!x)) w := fun _ _ => rfl
  go_enter_defers Try.func42, Try.ntmps42
  go_wp2_with (go_at_call 48; refine (lock_free ⟨b, 1, none⟩ _ c1 f1).mono ?_; rintro e w' ⟨rfl, rfl⟩)
  go_wp2_with (first | (go_at_call 31; refine (fill_calls b 0 1 q _ KB1.out).mono ?_; rintro e w2 ⟨rfl, hB2, hb2⟩; have KB2 := Aside0.mk hB2; have KL2 := Aside0.mk hb2; clear hB2 hb2) | go_in)
  go_wp2
  refine leaves_cons (f := 50) (args := #[.pointer (some ⟨b, 0, none⟩), .bool true]) (by simp) (by simp [go_sem]) ?_
  refine (store_deferred ⟨b, 0, none⟩ (.int .u32 0) .returning _ (Blk.cell0 KB2.out) (Blk.free KB2.out 0)).mono ?_
  rintro e u' w'' ⟨rfl, rfl, rfl⟩
  have KB3 : Blk (w2.drew.setCell ⟨b, 0, none⟩ (.int .u32 1)) b 1 1 q (fun m => firstL tabP 1 m) := Blk.put0 (blk_drew KB2.out) 1
  refine leaves_cons (f := 49) (args := #[.pointer (some ⟨b, 1, none⟩)]) (by simp [settle]) (by simp [go_sem]) ?_
  refine (unlock_deferred ⟨b, 1, none⟩ _ _ (Blk.cell1 KB3) (Blk.free KB3 1)).mono ?_
  rintro e u' w'' ⟨rfl, rfl, rfl⟩
  have KB4 := Blk.put1 KB3 0
  have KL4 : OnlyB b w ((w2.drew.setCell ⟨b, 0, none⟩ (.int .u32 1)).setCell ⟨b, 1, none⟩ (.int .i32 0)) := ((((OnlyB.refl b w).set 1 _).trans KL2.out).drew.set 0 _).set 1 _
  simp [Leaves, settle, results, Try.results42]
  exact ⟨KB4, KL4⟩
set_option maxHeartbeats 8000000 in
set_option maxRecDepth 100000 in
/-- '(*sync.Once).Do', not yet done, the lock free. -/
theorem do_first (b : Nat) (q : Int) (w : World) (hB : Blk w b 0 0 q (fun _ => 0)) :
    Calls Try.prog 30 #[.pointer (some ⟨b, 0, none⟩), .func (.func 31) #[.pointer (some ⟨b, 0, none⟩)] #[]] w fun e w' => e = .returned (.tuple #[]) ∧ Blk w' b 1 0 q firstT ∧ OnlyB b w w' := by
  have KB := Aside0.mk hB
  have c0 := Blk.cell0 hB
  clear hB
  have hl := run_call_load (P := Try.prog) Try.func47 (by kernel_rfl) (by kernel_rfl) (by kernel_rfl) .u32 (by kernel_rfl) c0
  have hnot : ∀ (x : Bool) (w : World), (Op.unary .not (.bool x)).run Try.prog w = .ok (.bool (!x)) w := fun _ _ => rfl
  go_enter Try.func30, Try.ntmps30
  go_wp2_with (first | (go_at_call 42; refine (slow_calls b q _ KB.out).mono ?_; rintro e w2 ⟨rfl, hB2, hb2⟩; have KB2 := Aside0.mk hB2; have KL2 := Aside0.mk hb2; clear hB2 hb2) | (go_at_call 41; go_in))
  go_end0
  exact ⟨rfl, KB2.out, KL2.out⟩
/-- '(*sync.Once).Do', done already: the function is not called. -/
theorem do_done (b : Nat) (s q : Int) (T : Nat → Int) (fv : Value) (w : World) (hB : Blk w b 1 s q T) :
    Calls Try.prog 30 #[.pointer (some ⟨b, 0, none⟩), fv] w fun e w' => e = .returned (.tuple #[]) ∧ w' = w := by
  have c0 := Blk.cell0 hB
  clear hB
  have hl := run_call_load (P := Try.prog) Try.func47 (by kernel_rfl) (by kernel_rfl) (by kernel_rfl) .u32 (by kernel_rfl) c0
  have hnot : ∀ (x : Bool) (w : World), (Op.unary .not (.bool x)).run Try.prog w = .ok (.bool (!x)) w := fun _ _ => rfl
  go_enter Try.func30, Try.ntmps30
  go_wp2
  go_end0
  exact ⟨rfl, rfl⟩
end Go.Proofs.Ytknkfimpflodeaa.P
