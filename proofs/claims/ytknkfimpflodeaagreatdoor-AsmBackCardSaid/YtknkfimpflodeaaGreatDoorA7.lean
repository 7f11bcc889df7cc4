/- asm's read: walked. -/
import Derived.Test.YtknkfimpflodeaaGreatDoorA5
import Derived.Test.YtknkfimpflodeaaGreatDoorA6
import Derived.Laws.EntriesVeiled
namespace Go.Proofs.YtknkfimpflodeaaGreatDoor.P
open Go.RowKit Go.Proofs.YtknkfimpflodeaaGreatDoorW.PrintWords Go.Proofs.YtknkfimpflodeaaGreatDoorW.PrintLast Go.Proofs.YtknkfimpflodeaaGreatDoorW.PrintMore
set_option linter.unusedVariables false
set_option linter.unusedSimpArgs false
theorem two_new (w : World) (a b : Obj) : ((w.alloc a).alloc b).heap[w.heap.size + 1]? = some b := by
 have := heap_alloc_new (w.alloc a) b
 have e : (w.alloc a).heap.size = w.heap.size + 1 := by simp
 rw [e] at this
 exact this
def sufTab : List (BL × Bool × Bool) := [([46, 97, 113, 114, 108], true, true), ([46, 97, 113], true, false), ([46, 114, 108], false, true)]
def sufAt (n : BL) (op : Int) (i : Nat) : Int × Bool × Bool := (sufTab.take i).foldl (fun s x => sufStep n x s) (op, false, false)
theorem sufAt_succ (n : BL) (op : Int) (i : Nat) (x : BL × Bool × Bool) (h : sufTab[i]? = some x) : sufAt n op (i + 1) = sufStep n x (sufAt n op i) := by
 unfold sufAt
 rw [List.take_add_one, h, List.foldl_append]
 rfl
theorem sufAt_end (n : BL) : sufAt n (opOf n) 3 = opS n := rfl
/-- where the suffixes lie -/
def sufArr : Array Value := #[.string ⟨#[46, 97, 113, 114, 108]⟩, .bool true, .bool true, .string ⟨#[46, 97, 113]⟩, .bool true, .bool false, .string ⟨#[46, 114, 108]⟩, .bool false, .bool true]
theorem suf_cells {w : World} {g : Nat} {t : TypeId} (h : w.heap[g]? = some (.cells sufArr t (0, 0))) (i : Nat) (x : BL × Bool × Bool) (hx : sufTab[i]? = some x) :
  w.cell? ⟨g, i * 3, none⟩ = some (sv x.1) ∧ w.cell? ⟨g, i * 3 + 1, none⟩ = some (.bool x.2.1) ∧ w.cell? ⟨g, i * 3 + 2, none⟩ = some (.bool x.2.2) := by
 match i, hx with
 | 0, hx => obtain rfl := Option.some.inj hx; exact ⟨(blk_cell h 0).trans rfl, (blk_cell h 1).trans rfl, (blk_cell h 2).trans rfl⟩
 | 1, hx => obtain rfl := Option.some.inj hx; exact ⟨(blk_cell h 3).trans rfl, (blk_cell h 4).trans rfl, (blk_cell h 5).trans rfl⟩
 | 2, hx => obtain rfl := Option.some.inj hx; exact ⟨(blk_cell h 6).trans rfl, (blk_cell h 7).trans rfl, (blk_cell h 8).trans rfl⟩
 | i + 3, hx => simp [sufTab] at hx
theorem results_ctb {fn : Func} {p u v : Tmp} (h : fn.results = #[.cell p 23, .tmp u, .cell v 4]) (tmps : Array Value) (w : World) (g g' : Nat) (cs : Array Value)
  (hp : tmps.getD p undef = .pointer (some ⟨g, 0, none⟩)) (hg : w.heap[g]? = some (.cells cs 23 (0, 0))) (hs : cs.size = 8)
  (hp' : tmps.getD v undef = .pointer (some ⟨g', 0, none⟩)) (x : Value) (hc : w.cell? ⟨g', 0, none⟩ = some x) :
  (results fn tmps).run Tryz.prog w = .ok (.tuple #[.agg cs, tmps.getD u undef, x]) w := by
 have h1 : tmps[p]?.getD undef = .pointer (some ⟨g, 0, none⟩) := by simpa using hp
 have h2 : tmps[v]?.getD undef = .pointer (some ⟨g', 0, none⟩) := by simpa using hp'
 have hi : (Tryz.prog.info? 23).map (·.size) = some cs.size := by rw [hs]; kernel_rfl
 have hrow := run_loadVar_row (P := Tryz.prog) w g 23 23 cs (0, 0) _ hg Tryz.underlying23 rfl hi
 have h3 := Tryz.isAgg4
 have h4 : (loadVar 4 ⟨g', 0, none⟩).run Tryz.prog w = .ok x w := by simp [loadVar, h3, hc, go_sem]
 simp [results, h, h1, h2, asAddr, hrow, h4]
/-- the operands that an instruction may have: nine kinds -/
theorem of_nine (op : Int) (j : Nat) (hj : j < 113) (h : op = (j : Int) + 1) : ofS op = (true, false, false, true, false) ∨ ofS op = (true, true, false, true, false) ∨ ofS op = (false, true, true, true, false) ∨ ofS op = (true, true, true, false, false) ∨ ofS op = (true, true, false, false, false) ∨ ofS op = (false, false, false, false, false) ∨ ofS op = (false, true, true, false, false) ∨ ofS op = (true, true, false, false, true) ∨ ofS op = (true, false, false, true, true) := by
 obtain ⟨f1, f2, -⟩ := row_ok j hj
 rw [h, ofS_at j hj, fmOf_at]
 rcases forms _ f1 f2 with e | e | e | e | e | e | e | e | e | e | e | e | e | e | e <;> rw [e] <;> first | exact Or.inl rfl | exact Or.inr (Or.inl rfl) | exact Or.inr (Or.inr (Or.inl rfl)) | exact Or.inr (Or.inr (Or.inr (Or.inl rfl))) | exact Or.inr (Or.inr (Or.inr (Or.inr (Or.inl rfl)))) | exact Or.inr (Or.inr (Or.inr (Or.inr (Or.inr (Or.inl rfl))))) | exact Or.inr (Or.inr (Or.inr (Or.inr (Or.inr (Or.inr (Or.inl rfl)))))) | exact Or.inr (Or.inr (Or.inr (Or.inr (Or.inr (Or.inr (Or.inr (Or.inl rfl))))))) | exact Or.inr (Or.inr (Or.inr (Or.inr (Or.inr (Or.inr (Or.inr (Or.inr (rfl))))))))
def readV (l : BL) : Value := match readS l with
 | some (i, s) => .tuple #[insV i, sv s, .bool true]
 | none => .tuple #[insV ins0, sv [], .bool false]
/-- an instruction in its variable -/
def InsB (w : World) (b : Nat) (x : Ins) : Prop := w.heap[b]? = some (.cells #[.int .i64 x.1, .int .i64 x.2.1, .int .i64 x.2.2.1, .int .i64 x.2.2.2.1, .int .i64 x.2.2.2.2.1, .int .i64 x.2.2.2.2.2.1, .bool x.2.2.2.2.2.2.1, .bool x.2.2.2.2.2.2.2] 23 (0, 0))
theorem InsB.cell0 {w : World} {b : Nat} {x : Ins} (h : InsB w b x) : w.cell? ⟨b, 0, none⟩ = some (.int .i64 x.1) := (blk_cell h 0).trans rfl
theorem InsB.far {w : World} {b c : Nat} {x : Ins} (h : InsB w b x) (hn : b ≠ c) (i : Nat) (v : Value) : InsB (w.setCell ⟨c, i, none⟩ v) b x := blk_far h hn v
theorem InsB.put0 {w : World} {b : Nat} {x : Ins} (h : InsB w b x) (y : Int) : InsB (w.setCell ⟨b, 0, none⟩ (.int .i64 y)) b (y, x.2) := blk_put h 0 _ rfl
theorem InsB.put6 {w : World} {b : Nat} {x : Ins} (h : InsB w b x) (y : Bool) : InsB (w.setCell ⟨b, 6, none⟩ (.bool y)) b (x.1, x.2.1, x.2.2.1, x.2.2.2.1, x.2.2.2.2.1, x.2.2.2.2.2.1, y, x.2.2.2.2.2.2.2) := blk_put h 6 _ rfl
theorem InsB.put7 {w : World} {b : Nat} {x : Ins} (h : InsB w b x) (y : Bool) : InsB (w.setCell ⟨b, 7, none⟩ (.bool y)) b (x.1, x.2.1, x.2.2.1, x.2.2.2.1, x.2.2.2.2.1, x.2.2.2.2.2.1, x.2.2.2.2.2.2.1, y) := blk_put h 7 _ rfl
theorem take_len (said : Bool) (st : St) (B : Nat) (h : st.2.2.2.length < B) : (takeS said st).2.2.2.2.length < B := by
 cases said
 ·exact h
 ·unfold takeS
  rw [if_pos rfl]
  exact Nat.lt_of_le_of_lt (next_len st).2 h
theorem InsB.put1 {w : World} {b : Nat} {x : Ins} (h : InsB w b x) (y : Int) : InsB (w.setCell ⟨b, 1, none⟩ (.int .i64 y)) b (x.1, y, x.2.2) := blk_put h 1 _ rfl
theorem InsB.put2 {w : World} {b : Nat} {x : Ins} (h : InsB w b x) (y : Int) : InsB (w.setCell ⟨b, 2, none⟩ (.int .i64 y)) b (x.1, x.2.1, y, x.2.2.2) := blk_put h 2 _ rfl
theorem InsB.put3 {w : World} {b : Nat} {x : Ins} (h : InsB w b x) (y : Int) : InsB (w.setCell ⟨b, 3, none⟩ (.int .i64 y)) b (x.1, x.2.1, x.2.2.1, y, x.2.2.2.2) := blk_put h 3 _ rfl
theorem InsB.put4 {w : World} {b : Nat} {x : Ins} (h : InsB w b x) (y : Int) : InsB (w.setCell ⟨b, 4, none⟩ (.int .i64 y)) b (x.1, x.2.1, x.2.2.1, x.2.2.2.1, y, x.2.2.2.2.2) := blk_put h 4 _ rfl
theorem InsB.put5 {w : World} {b : Nat} {x : Ins} (h : InsB w b x) (y : Int) : InsB (w.setCell ⟨b, 5, none⟩ (.int .i64 y)) b (x.1, x.2.1, x.2.2.1, x.2.2.2.1, x.2.2.2.2.1, y, x.2.2.2.2.2.2) := blk_put h 5 _ rfl
theorem Rd.far {w : World} {a b c d g : Nat} {st : St} (h : Rd w a b c d st) (h1 : a ≠ g) (h2 : b ≠ g) (h3 : c ≠ g) (h4 : d ≠ g) (i : Nat) (v : Value) : Rd (w.setCell ⟨g, i, none⟩ v) a b c d st := ⟨h.f.far h1 i v, h.m.far h2 i v, h.k.far h3 i v, h.r.far h4 i v⟩
theorem Rd.below {w w' : World} {a b c d : Nat} {st : St} (h : Rd w a b c d st) (hb : Below w.heap.size w w') : Rd w' a b c d st := ⟨blk_below h.f hb, blk_below h.m hb, blk_below h.k hb, blk_below h.r hb⟩
theorem rd_len {w : World} {a b c d : Nat} {said : Bool} {st : St} (h : Rd w a b c d (takeS said st).2) (B : Nat) (hl : st.2.2.2.length < B) : (takeS said st).2.2.2.2.length < B := take_len said st B hl
end Go.Proofs.YtknkfimpflodeaaGreatDoor.P
