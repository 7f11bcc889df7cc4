/- asm's join: walked. -/
import Derived.Test.YtknkfimpflodeaaGreatDoorA2
namespace Go.Proofs.YtknkfimpflodeaaGreatDoor.P
open Go.RowKit Go.Proofs.YtknkfimpflodeaaGreatDoorW.PrintWords Go.Proofs.YtknkfimpflodeaaGreatDoorW.PrintLast Go.Proofs.YtknkfimpflodeaaGreatDoorW.PrintMore
set_option linter.unusedVariables false
def neB (s : BL) : Bool := decide (s ≠ [])
theorem sv_one (l : List BL) : ∀ u ∈ l.map sv, u.oneCell' = true := by
 intro u hu
 obtain ⟨x, -, rfl⟩ := List.mem_map.1 hu
 rfl
theorem owns_below {w w' : World} {base : Nat} {e : TypeId} {size : Nat} {v : Value} {n : Nat} {xs : List Value} (h : w.ownsRow base e size v n xs) (hb : Below w.heap.size w w') : w'.ownsRow base e size v n xs := by
 refine ⟨h.1, ?_⟩
 rcases h.2 with h2 | ⟨g, cap, cur, h1, h2, h3, h4⟩
 ·exact Or.inl h2
 ·exact Or.inr ⟨g, cap, cur, h1, h2, blk_below h3 hb, h4⟩
theorem owns_alloc {w : World} {base : Nat} {e : TypeId} {size : Nat} {v : Value} {n : Nat} {xs : List Value} (h : w.ownsRow base e size v n xs) (o : Obj) : (w.alloc o).ownsRow base e size v n xs := owns_below h (below_alloc (Below.refl _ _) o)
theorem owns_base {w : World} {base : Nat} {e : TypeId} {size : Nat} {v : Value} {n : Nat} {xs : List Value} (h : w.ownsRow base e size v n xs) (k : Nat) (hk : v.ownBlock = some k) : base ≤ k := by
 rcases h.2 with ⟨h2, -⟩ | ⟨g, cap, cur, h1, h2, -⟩
 ·rw [h2] at hk; cases hk
 ·rw [h1] at hk
  injection hk with hk
  exact hk ▸ h2
theorem infoS : ∃ i, Tryz.prog.info? 9 = some i ∧ i.zero = some (.string ⟨#[]⟩) ∧ i.size = 1 ∧ i.bytes = 16 := by
 have h : (Tryz.prog.info? 9).map (fun i => (i.zero, i.size, i.bytes)) = some (some (.string ⟨#[]⟩), 1, 16) := by kernel_rfl
 cases e : Tryz.prog.info? 9 with
 | none => rw [e] at h; cases h
 | some i =>
  rw [e] at h
  simp only [Option.map_some, Option.some.injEq, Prod.mk.injEq] at h
  exact ⟨i, rfl, h.1, h.2.1, h.2.2⟩
theorem take_filter (l : List BL) (i : Nat) (x : BL) (h : l[i]? = some x) : (l.take (i + 1)).filter neB = (l.take i).filter neB ++ (if x = [] then [] else [x]) := by
 rw [List.take_add_one, h, List.filter_append]
 congr 1
 by_cases e : x = []
 ·subst e; simp [neB]
 ·simp [neB, e]
theorem owns_cells {w : World} {base : Nat} {e : TypeId} {v : Value} {xs : List Value} (h : w.ownsRow base e 1 v xs.length xs) :
  (v = .slice none 0 0 ∧ xs = []) ∨ ∃ g cap, v = .slice (some ⟨g, 0, none⟩) xs.length cap ∧ base ≤ g ∧ g < w.heap.size ∧ xs.length ≤ cap ∧ ∀ (j : Nat) u, xs[j]? = some u → w.cell? ⟨g, j, none⟩ = some u := by
 rcases h.2 with ⟨h1, h2⟩ | ⟨g, cap, cur, h1, h2, h3, h4, h5, h6, h7⟩
 ·exact Or.inl ⟨h1, List.length_eq_zero_iff.1 h2⟩
 ·refine Or.inr ⟨g, cap, h1, h2, blk_lt h3, h4, fun j u hu => ?_⟩
  rw [blk_cell h3 j]
  rw [← h7] at hu
  have hj : j < xs.length * 1 := by
   rcases Nat.lt_or_ge j (xs.length * 1) with q | q
   ·exact q
   ·rw [List.getElem?_eq_none (by rw [List.length_take]; omega)] at hu; cases hu
  rw [List.getElem?_take_of_lt hj] at hu
  simpa using hu
theorem join_says (v : Value) (xs : List BL) (base : Nat) (w : World) (h : w.ownsRow base 9 1 v xs.length (xs.map sv)) (hN : xs.length ≤ 5) (hlen : (Lib.join xs [44, 32]).length ≤ 140737488355328) :
  Calls Tryz.prog 84 #[v, .string ⟨#[44, 32]⟩] w fun e w' => e = .returned (sv (Lib.join xs [44, 32])) ∧ Below w.heap.size w w' := by
 have h' : w.ownsRow base 9 1 v (xs.map sv).length (xs.map sv) := by rw [List.length_map]; exact h
 rcases owns_cells h' with ⟨rfl, e⟩ | ⟨g, cap, rfl, -, hlt, hcap, hcell⟩
 ·obtain rfl : xs = [] := by simpa using e
  refine (Any.strings_Join_none Tryz.lays156 Tryz.Builder_Extra_156 none 0 ⟨#[44, 32]⟩ w).mono fun e w' hh => ⟨hh.1, hh.2 ▸ Below.refl _ _⟩
 ·have hm : (xs.map (fun l => (⟨l.toArray⟩ : ByteArray))).map (·.data.toList) = xs := by
   rw [List.map_map]
   exact List.map_id'' (fun l => rfl) xs
  have := Tryz.strings_Join g 0 cap (xs.map fun l => (⟨l.toArray⟩ : ByteArray)) ⟨#[44, 32]⟩ w (fun j x hx => by
   rw [List.getElem?_map] at hx
   cases q : xs[j]? with
   | none => rw [q] at hx; cases hx
   | some y =>
    rw [q] at hx
    obtain rfl : (⟨y.toArray⟩ : ByteArray) = x := by simpa using hx
    have := hcell j (sv y) (by rw [List.getElem?_map, q]; rfl)
    simpa using this) hlt (by rw [List.length_map]; omega) (by rw [List.length_map] at hcap ⊢; exact hcap) (by rw [hm]; exact hlen)
  rw [hm, List.length_map] at this
  rw [List.length_map]
  exact this
set_option maxHeartbeats 8000000 in
set_option maxRecDepth 100000 in
theorem join_calls (b cap : Nat) (l : List BL) (hl : l.length = 5) (hlen : (joinS l).length ≤ 140737488355328) (w : World) (hb0 : b < w.heap.size) (hc : ∀ (j : Nat) x, l[j]? = some x → w.cell? ⟨b, j, none⟩ = some (sv x)) :
  Calls Tryz.prog 40 #[.slice (some ⟨b, 0, none⟩) 5 cap] w fun e w' => e = .returned (sv (joinS l)) ∧ Below w.heap.size w w' := by
 have hu := Tryz.underlying84
 have hc' := Aside0.mk hc
 have hlen' := Aside0.mk hlen
 clear hc hlen; have KO : Aside0 (w.ownsRow w.heap.size 9 1 (.slice none 0 0) 0 (((l.take 0).filter neB).map sv)) := ⟨⟨rfl, Or.inl ⟨rfl, rfl⟩⟩⟩
 have HB := Aside0.mk (Below.refl w.heap.size w)
 go_enter Tryz.func40, Tryz.ntmps40
 go_wp2
 go_loopg [3, 8] 5 (fun kq v3 v8 wr => ∃ i : Nat, i + kq = 5 ∧ v8 = .int .i64 (i : Int) ∧ Aside0 (wr.ownsRow w.heap.size 9 1 v3 ((l.take i).filter neB).length (((l.take i).filter neB).map sv)) ∧ Aside0 (Below w.heap.size w wr))
 case atStart => exact ⟨0, rfl, rfl, KO, HB⟩
 case round =>
  clear KO HB; obtain ⟨i, hi, rfl, KO, HB⟩ := hrel
  cases gk with
  | zero =>
   obtain rfl : i = 5 := by omega
   have ht : l.take 5 = l := List.take_of_length_le (by omega)
   rw [ht] at KO
   have hJ := fun (W : World) (h : Below wr.heap.size wr W) => join_says u3 (l.filter neB) w.heap.size W (owns_below KO.out h) (by rw [← hl]; exact List.length_filter_le _ _) hlen'.out
   have hJ' := Aside0.mk hJ
   clear hJ; go_wp2_with (go_at_call 84; refine (hJ'.out _ (Below.refl _ _)).mono ?_; rintro e w2 ⟨rfl, hb⟩; have HB2 := Aside0.mk (below_step HB.out hb); clear hb)
   go_ret
   exact ⟨rfl, HB2.out⟩
  | succ gk =>
   have hi5 : i < 5 := by omega
   obtain ⟨x, hx⟩ : ∃ x, l[i]? = some x := ⟨l[i]'(by omega), List.getElem?_eq_getElem (by omega)⟩
   have hcell : wr.cell? ⟨b, i, none⟩ = some (sv x) := (HB.out.cell (show (⟨b, i, none⟩ : Addr).block < w.heap.size from hb0)).trans (hc'.out i x hx)
   have hx' := Aside0.mk hx
   clear hx; have h0 : (0 : Int) ≤ (i : Int) := by omega
   have h1 : (i : Int) < 5 := by omega
   have hwr : IntKind.i64.wrap ((i : Int) + 1) = (i : Int) + 1 := by rw [i64_w]; unfold wrap64; omega
   by_cases h : x = []
   ·subst h
    have hs := take_filter l i [] hx'.out
    rw [if_pos rfl, List.append_nil] at hs
    rw [← hs] at KO
    go_wp2
    go_roundg gk
    case measure => omega
    case rel => exact ⟨i + 1, by omega, by simp, KO, HB⟩
   ·have hxe : (x == []) = false := by simpa using h
    have hs := take_filter l i x hx'.out
    rw [if_neg h] at hs
    have hs' := Aside0.mk hs
    have hn' := Aside0.mk (show ((l.take i).filter neB).length ≤ 5 from Nat.le_trans (List.length_filter_le _ _) (by rw [List.length_take]; omega))
    clear hs; obtain ⟨i9, j1, j2, j3, j4⟩ := infoS
    have J := Aside0.mk (And.intro j1 (And.intro j2 (And.intro j3 j4)))
    clear j1 j2 j3 j4; go_wp2_with (at_builtin; (refine wpList_append_lies _ rfl _ _ _ rfl w.heap.size 9 i9 (.string ⟨#[]⟩) 1 16 hu J.out.1 J.out.2.1 J.out.2.2.1 J.out.2.2.2 rfl (by omega) u3 _ _ rfl (owns_alloc KO.out _) ⟨wr.heap.size, 0, none⟩ 1 1 [sv x] rfl rfl (World.news_of_block (heap_alloc_new wr _)) (sv_one [x]) (by omega) (by have := hn'.out; unfold maxLen; omega) (by have := hn'.out; omega) (Nat.le_trans HB.out.size (by simp)) (wr.heap.size + 1) (by simp) ?_; intro g cap2 w2 hown hgrow hat hlt; have KO2 := Aside0.mk hown; have HB2 := Aside0.mk (Below.grown (below_alloc HB.out _) hgrow (Nat.le_trans HB.out.size (by simp)) (fun k hk => owns_base KO.out k hk)); clear hown hgrow hat hlt))
    go_roundg gk
    case measure => omega
    case rel =>
     refine ⟨i + 1, by omega, by simp, ⟨?_⟩, HB2⟩
     rw [hs'.out, List.length_append, List.map_append]
     exact KO2.out
end Go.Proofs.YtknkfimpflodeaaGreatDoor.P
