/- What the library's tables hold, and that it stays so; bytes and lists of bytes. No walk. -/
import Derived.Test.YtknkfimpflodeaaGreatDoorShelf
import Derived.Test.YtknkfimpflodeaaGreatDoorWordMore
import Derived.Test.YtknkfimpflodeaaGreatDoorAsm
import Derived.WalkSmall
namespace Go.Proofs.YtknkfimpflodeaaGreatDoor.P
open Go.RowKit Go.Proofs.YtknkfimpflodeaaGreatDoorW.PrintWords Go.Proofs.YtknkfimpflodeaaGreatDoorW.PrintLast Go.Proofs.YtknkfimpflodeaaGreatDoorW.PrintMore
set_option linter.unusedVariables false
structure Env (w : World) : Prop where
 size : 8 ≤ w.heap.size
 ml : ∃ m, w.cell? ⟨1, 0, none⟩ = some (.int .i64 m)
 pow : Lib.TabIs Tryz.prog w "internal/strconv.uint64pow10" .u64 Lib.pow10Tab
 es : ∃ ev, w.cell? ⟨5, 0, none⟩ = some ev ∧ (ev = .nilIface ∨ ∃ te pe, ev = .iface te pe)
 er : ∃ ev, w.cell? ⟨6, 0, none⟩ = some ev ∧ (ev = .nilIface ∨ ∃ te pe, ev = .iface te pe)
 db : TabAt 0 Lib.deBruijn64tab w
theorem Env.to {n : Nat} {w w' : World} (h : Env w) (hb : Below n w w') (hn : 8 ≤ n) : Env w' where
 size := Nat.le_trans h.size hb.size
 ml := by
  obtain ⟨m, e⟩ := h.ml
  exact ⟨m, (hb.cell (p := ⟨1, 0, none⟩) (by show 1 < n; omega)).trans e⟩
 pow := by
  have := h.pow
  unfold Lib.TabIs at this ⊢
  exact var?_below hb (g := 2) (by kernel_rfl) (by omega) this
 es := by
  obtain ⟨m, e, f⟩ := h.es
  exact ⟨m, (hb.cell (p := ⟨5, 0, none⟩) (by show 5 < n; omega)).trans e, f⟩
 er := by
  obtain ⟨m, e, f⟩ := h.er
  exact ⟨m, (hb.cell (p := ⟨6, 0, none⟩) (by show 6 < n; omega)).trans e, f⟩
 db := by
  intro j hj
  exact (hb.cell (p := ⟨0, j, none⟩) (by show 0 < n; omega)).trans (h.db j hj)
theorem Env.below {w w' : World} (h : Env w) (hb : Below w.heap.size w w') : Env w' := h.to hb h.size
theorem Env.drew {w : World} (h : Env w) : Env w.drew := h.below ((Below.refl _ _).drew)
theorem Env.alloc {w : World} (h : Env w) (o : Obj) : Env (w.alloc o) := h.below (below_alloc (Below.refl _ _) o)
/-- a text's value -/
abbrev sv (l : BL) : Value := .string ⟨l.toArray⟩
theorem sv_data (l : BL) : (⟨l.toArray⟩ : ByteArray).data.toList = l := rfl
theorem sv_size (l : BL) : (⟨l.toArray⟩ : ByteArray).size = l.length := by
 show l.toArray.size = l.length
 simp
theorem grow_below {w w' : World} (h : ∃ k os, w' = Go.Sort.grow (w.drewN k) os) : Below w.heap.size w w' := by
 obtain ⟨k, os, rfl⟩ := h
 refine ⟨rfl, rfl, rfl, ?_, fun i hi => ?_⟩
 ·show w.heap.size ≤ (w.heap ++ os).size
  simp
 ·show (w.heap ++ os)[i]? = w.heap[i]?
  rw [Array.getElem?_append_left hi]
theorem parseU_le (M : Nat) : ∀ (l : List UInt8) (acc u : Nat), acc ≤ M → Lib.parseUintM M acc l = .ok u → u ≤ M
 | [], acc, u, h, e => by
  obtain rfl : acc = u := by simpa [Lib.parseUintM] using e
  exact h
 | c :: l, acc, u, h, e => by
  unfold Lib.parseUintM at e
  split at e
  ·split at e
   ·cases e
   ·split at e
    ·cases e
    ·exact parseU_le M l _ u (by omega) e
  ·cases e
theorem parse_range (l : BL) (v : Int) (h : Lib.parseIntB 64 l = .ok v) : -9223372036854775808 ≤ v ∧ v ≤ 9223372036854775807 := by
 unfold Lib.parseIntB at h
 split at h
 ·cases h
 ·dsimp only at h
  split at h
  ·cases h
  ·cases h
  ·simp only [show (2 : Nat) ^ (64 - 1) = 9223372036854775808 from rfl] at h
   split at h
   ·cases h
   ·split at h
    ·cases h
    ·injection h with h
     rename_i h1 h2
     split at h <;> omega
theorem arr5 {cs : Array Value} (h : cs.size = 5) : ∃ c0 c1 c2 c3 c4, cs = #[c0, c1, c2, c3, c4] := by
 obtain ⟨l⟩ := cs
 match l, h with
 | [c0, c1, c2, c3, c4], _ => exact ⟨c0, c1, c2, c3, c4, rfl⟩
theorem put5 {w : World} {g : Nat} {t : TypeId} {cs : Array Value} (h : w.heap[g]? = some (.cells cs t (0, 0))) (hs : cs.size = 5) (x0 x1 x2 x3 x4 : Value) :
  (((((w.setCell ⟨g, 0, none⟩ x0).setCell ⟨g, 1, none⟩ x1).setCell ⟨g, 2, none⟩ x2).setCell ⟨g, 3, none⟩ x3).setCell ⟨g, 4, none⟩ x4).heap[g]? = some (.cells #[x0, x1, x2, x3, x4] t (0, 0)) := by
 obtain ⟨c0, c1, c2, c3, c4, rfl⟩ := arr5 hs
 have h0 := blk_put (cs' := #[x0, c1, c2, c3, c4]) h 0 x0 rfl
 have h1 := blk_put (cs' := #[x0, x1, c2, c3, c4]) h0 1 x1 rfl
 have h2 := blk_put (cs' := #[x0, x1, x2, c3, c4]) h1 2 x2 rfl
 have h3 := blk_put (cs' := #[x0, x1, x2, x3, c4]) h2 3 x3 rfl
 have h4 := blk_put (cs' := #[x0, x1, x2, x3, x4]) h3 4 x4 rfl
 exact h4
theorem bel5 {B : Nat} {a w : World} {g : Nat} (h : Below B a w) (hg : B ≤ g) (x0 x1 x2 x3 x4 : Value) : Below B a (((((w.setCell ⟨g, 0, none⟩ x0).setCell ⟨g, 1, none⟩ x1).setCell ⟨g, 2, none⟩ x2).setCell ⟨g, 3, none⟩ x3).setCell ⟨g, 4, none⟩ x4) :=
 (((((h.setCell hg _).setCell hg _).setCell hg _).setCell hg _).setCell hg _)
theorem far5 {w : World} {g k : Nat} (h : k ≠ g) (x0 x1 x2 x3 x4 : Value) : (((((w.setCell ⟨g, 0, none⟩ x0).setCell ⟨g, 1, none⟩ x1).setCell ⟨g, 2, none⟩ x2).setCell ⟨g, 3, none⟩ x3).setCell ⟨g, 4, none⟩ x4).heap[k]? = w.heap[k]? := by
 have f := fun (v : World) (i : Nat) (x : Value) => Below.heap_setCell v ⟨g, i, none⟩ x k h
 rw [f, f, f, f, f]
theorem arr6 {cs : Array Value} (h : cs.size = 6) : ∃ c0 c1 c2 c3 c4 c5, cs = #[c0, c1, c2, c3, c4, c5] := by
 obtain ⟨l⟩ := cs
 match l, h with
 | [c0, c1, c2, c3, c4, c5], _ => exact ⟨c0, c1, c2, c3, c4, c5, rfl⟩
theorem put6 {w : World} {g : Nat} {t : TypeId} {cs : Array Value} (h : w.heap[g]? = some (.cells cs t (0, 0))) (hs : cs.size = 6) (x0 x1 x2 x3 x4 x5 : Value) :
  ((((((w.setCell ⟨g, 0, none⟩ x0).setCell ⟨g, 1, none⟩ x1).setCell ⟨g, 2, none⟩ x2).setCell ⟨g, 3, none⟩ x3).setCell ⟨g, 4, none⟩ x4).setCell ⟨g, 5, none⟩ x5).heap[g]? = some (.cells #[x0, x1, x2, x3, x4, x5] t (0, 0)) := by
 obtain ⟨c0, c1, c2, c3, c4, c5, rfl⟩ := arr6 hs
 have h0 := blk_put (cs' := #[x0, c1, c2, c3, c4, c5]) h 0 x0 rfl
 have h1 := blk_put (cs' := #[x0, x1, c2, c3, c4, c5]) h0 1 x1 rfl
 have h2 := blk_put (cs' := #[x0, x1, x2, c3, c4, c5]) h1 2 x2 rfl
 have h3 := blk_put (cs' := #[x0, x1, x2, x3, c4, c5]) h2 3 x3 rfl
 have h4 := blk_put (cs' := #[x0, x1, x2, x3, x4, c5]) h3 4 x4 rfl
 have h5 := blk_put (cs' := #[x0, x1, x2, x3, x4, x5]) h4 5 x5 rfl
 exact h5
theorem bel6 {B : Nat} {a w : World} {g : Nat} (h : Below B a w) (hg : B ≤ g) (x0 x1 x2 x3 x4 x5 : Value) : Below B a ((((((w.setCell ⟨g, 0, none⟩ x0).setCell ⟨g, 1, none⟩ x1).setCell ⟨g, 2, none⟩ x2).setCell ⟨g, 3, none⟩ x3).setCell ⟨g, 4, none⟩ x4).setCell ⟨g, 5, none⟩ x5) :=
 ((((((h.setCell hg _).setCell hg _).setCell hg _).setCell hg _).setCell hg _).setCell hg _)
theorem far6 {w : World} {g k : Nat} (h : k ≠ g) (x0 x1 x2 x3 x4 x5 : Value) : ((((((w.setCell ⟨g, 0, none⟩ x0).setCell ⟨g, 1, none⟩ x1).setCell ⟨g, 2, none⟩ x2).setCell ⟨g, 3, none⟩ x3).setCell ⟨g, 4, none⟩ x4).setCell ⟨g, 5, none⟩ x5).heap[k]? = w.heap[k]? := by
 have f := fun (v : World) (i : Nat) (x : Value) => Below.heap_setCell v ⟨g, i, none⟩ x k h
 rw [f, f, f, f, f, f]
theorem arr8 {cs : Array Value} (h : cs.size = 8) : ∃ c0 c1 c2 c3 c4 c5 c6 c7, cs = #[c0, c1, c2, c3, c4, c5, c6, c7] := by
 obtain ⟨l⟩ := cs
 match l, h with
 | [c0, c1, c2, c3, c4, c5, c6, c7], _ => exact ⟨c0, c1, c2, c3, c4, c5, c6, c7, rfl⟩
theorem put8 {w : World} {g : Nat} {t : TypeId} {cs : Array Value} (h : w.heap[g]? = some (.cells cs t (0, 0))) (hs : cs.size = 8) (x0 x1 x2 x3 x4 x5 x6 x7 : Value) :
  ((((((((w.setCell ⟨g, 0, none⟩ x0).setCell ⟨g, 1, none⟩ x1).setCell ⟨g, 2, none⟩ x2).setCell ⟨g, 3, none⟩ x3).setCell ⟨g, 4, none⟩ x4).setCell ⟨g, 5, none⟩ x5).setCell ⟨g, 6, none⟩ x6).setCell ⟨g, 7, none⟩ x7).heap[g]? = some (.cells #[x0, x1, x2, x3, x4, x5, x6, x7] t (0, 0)) := by
 obtain ⟨c0, c1, c2, c3, c4, c5, c6, c7, rfl⟩ := arr8 hs
 have h0 := blk_put (cs' := #[x0, c1, c2, c3, c4, c5, c6, c7]) h 0 x0 rfl
 have h1 := blk_put (cs' := #[x0, x1, c2, c3, c4, c5, c6, c7]) h0 1 x1 rfl
 have h2 := blk_put (cs' := #[x0, x1, x2, c3, c4, c5, c6, c7]) h1 2 x2 rfl
 have h3 := blk_put (cs' := #[x0, x1, x2, x3, c4, c5, c6, c7]) h2 3 x3 rfl
 have h4 := blk_put (cs' := #[x0, x1, x2, x3, x4, c5, c6, c7]) h3 4 x4 rfl
 have h5 := blk_put (cs' := #[x0, x1, x2, x3, x4, x5, c6, c7]) h4 5 x5 rfl
 have h6 := blk_put (cs' := #[x0, x1, x2, x3, x4, x5, x6, c7]) h5 6 x6 rfl
 have h7 := blk_put (cs' := #[x0, x1, x2, x3, x4, x5, x6, x7]) h6 7 x7 rfl
 exact h7
theorem bel8 {B : Nat} {a w : World} {g : Nat} (h : Below B a w) (hg : B ≤ g) (x0 x1 x2 x3 x4 x5 x6 x7 : Value) : Below B a ((((((((w.setCell ⟨g, 0, none⟩ x0).setCell ⟨g, 1, none⟩ x1).setCell ⟨g, 2, none⟩ x2).setCell ⟨g, 3, none⟩ x3).setCell ⟨g, 4, none⟩ x4).setCell ⟨g, 5, none⟩ x5).setCell ⟨g, 6, none⟩ x6).setCell ⟨g, 7, none⟩ x7) :=
 ((((((((h.setCell hg _).setCell hg _).setCell hg _).setCell hg _).setCell hg _).setCell hg _).setCell hg _).setCell hg _)
theorem far8 {w : World} {g k : Nat} (h : k ≠ g) (x0 x1 x2 x3 x4 x5 x6 x7 : Value) : ((((((((w.setCell ⟨g, 0, none⟩ x0).setCell ⟨g, 1, none⟩ x1).setCell ⟨g, 2, none⟩ x2).setCell ⟨g, 3, none⟩ x3).setCell ⟨g, 4, none⟩ x4).setCell ⟨g, 5, none⟩ x5).setCell ⟨g, 6, none⟩ x6).setCell ⟨g, 7, none⟩ x7).heap[k]? = w.heap[k]? := by
 have f := fun (v : World) (i : Nat) (x : Value) => Below.heap_setCell v ⟨g, i, none⟩ x k h
 rw [f, f, f, f, f, f, f, f]
theorem mk_app' (a : BL) (b : Array UInt8) : (⟨a.toArray⟩ : ByteArray) ++ ⟨b⟩ = ⟨(a ++ b.toList).toArray⟩ := by
 apply ByteArray.ext
 simp
theorem mk_app2 (a : Array UInt8) (b : BL) : (⟨a⟩ : ByteArray) ++ ⟨b.toArray⟩ = ⟨(a.toList ++ b).toArray⟩ := by
 apply ByteArray.ext
 simp
theorem nDigits_le : ∀ (k u : Nat), u < 10 ^ (k + 1) → Lib.nDigits u ≤ k + 1
 | 0, u, h => by rw [Lib.nDigits_small (by simpa using h)]; exact Nat.le_refl _
 | k + 1, u, h => by
  by_cases g : u < 10
  ·rw [Lib.nDigits_small g]; omega
  ·rw [Lib.nDigits_big g]
   have := nDigits_le k (u / 10) (by rw [Nat.pow_succ] at h; omega)
   omega
theorem itoa_len (n : Int) (h0 : -9223372036854775808 ≤ n) (h1 : n ≤ 9223372036854775807) : (Lib.itoa n).length ≤ 21 := by
 unfold Lib.itoa
 split
 ·rw [List.length_cons, Lib.decDigits_length]
  have := nDigits_le 19 n.natAbs (by omega)
  omega
 ·rw [Lib.decDigits_length]
  have := nDigits_le 19 n.toNat (by omega)
  omega
theorem no_over {a : Nat} (h : a ≤ 9223372036854775807) : (9223372036854775807 < a) = False := eq_false (Nat.not_lt.2 h)
theorem mk_app (a b : BL) : (⟨a.toArray⟩ : ByteArray) ++ ⟨b.toArray⟩ = ⟨(a ++ b).toArray⟩ := by
 apply ByteArray.ext
 simp
end Go.Proofs.YtknkfimpflodeaaGreatDoor.P
