/- asm's Assemble at the wake's program: walked. -/
import Derived.Test.YtknkfimpflodeaaGreatDoorA13
import Derived.LoopN
import Derived.Maps.Own
import Derived.Maps.OwnOps
import Derived.Maps.OwnSet
namespace Go.Proofs.YtknkfimpflodeaaGreatDoor.P
open Go.Maps Go.RowKit Go.Proofs.YtknkfimpflodeaaGreatDoorW.PrintWords Go.Proofs.YtknkfimpflodeaaGreatDoorW.PrintLast Go.Proofs.YtknkfimpflodeaaGreatDoorW.PrintMore
set_option linter.unusedVariables false
set_option linter.unusedSimpArgs false
theorem map_below {H : Type} {w w' : World} {k : TypeId} {R : Value → Option (DataW H × List MemPlace)} {b n : Nat} {D : DataW H} (h : w.ownsMap Tryz.prog k R b n D) (hb : Below w.heap.size w w') : w'.ownsMap Tryz.prog k R b n D := by
 obtain ⟨es, c, h1, h2⟩ := h
 exact ⟨es, c, blk_below h1 hb, h2⟩
theorem own_lt {w : World} {base : Nat} {e : TypeId} {size : Nat} {v : Value} {n : Nat} {xs : List Value} (h : w.ownsRow base e size v n xs) (k : Nat) (hk : v.ownBlock = some k) : k < w.heap.size := by
 rcases h.2 with ⟨rfl, _⟩ | ⟨g, cap, cur, rfl, _, hh, _⟩
 ·simp [Value.ownBlock] at hk
 ·have : g = k := by simpa [Value.ownBlock] using hk
  subst this; exact blk_lt hh
theorem map_own_ne {H : Type} {w : World} {k : TypeId} {R : Value → Option (DataW H × List MemPlace)} {b n : Nat} {D : DataW H} (h : w.ownsMap Tryz.prog k R b n D) {base : Nat} {e : TypeId} {size : Nat} {v : Value} {m : Nat} {xs : List Value} (hv : w.ownsRow base e size v m xs) : some b ≠ v.ownBlock := by
 obtain ⟨es, c, h1, -⟩ := h
 rcases hv.2 with ⟨rfl, _⟩ | ⟨g, cap, cur, rfl, _, hh, _⟩
 ·simp [Value.ownBlock]
 ·intro he
  have : b = g := by simpa [Value.ownBlock] using he
  subst this; rw [h1] at hh
  cases hh
theorem map_cells_ne {H : Type} {w : World} {k : TypeId} {R : Value → Option (DataW H × List MemPlace)} {b n : Nat} {D : DataW H} (h : w.ownsMap Tryz.prog k R b n D) {g : Nat} {t : TypeId} {cs : Array Value} (hg : w.heap[g]? = some (.cells cs t (0, 0))) : some g ≠ some b := by
 obtain ⟨es, c, h1, -⟩ := h
 intro he
 obtain rfl := Option.some.inj he
 rw [h1] at hg
 cases hg
theorem owns_grown {w w' : World} {base : Nat} {e : TypeId} {size : Nat} {v : Value} {n : Nat} {xs : List Value} {r : Option Nat} (h : w.ownsRow base e size v n xs) (hg : w.grownBy w' r) (hr : r ≠ v.ownBlock ∨ v.ownBlock = none) : w'.ownsRow base e size v n xs := by
 refine ⟨h.1, ?_⟩
 rcases h.2 with h2 | ⟨g, cap, cur, rfl, h3, hh, h4⟩
 ·exact .inl h2
 ·refine .inr ⟨g, cap, cur, rfl, h3, (hg.block g (blk_lt hh) ?_).trans hh, h4⟩
  intro he
  rcases hr with hr | hr
  ·exact hr (by rw [← he]; rfl)
  ·simp [Value.ownBlock] at hr
theorem rows_open {w : World} {base : Nat} {e : TypeId} {size : Nat} {v : Value} {n : Nat} {xs : List Value} (h : w.ownsRow base e size v n xs) (hn : 0 < n) : ∃ (g cap : Nat) (cur : Array Value), v = .slice (some ⟨g, 0, none⟩) n cap ∧ base ≤ g ∧ n ≤ cap ∧ cap ≤ maxLen ∧ w.heap[g]? = some (.cells cur e (0, 0)) ∧ ∀ j, j < n * size → cur[j]? = xs[j]? := by
 rcases h.2 with ⟨-, h2⟩ | ⟨g, cap, cur, rfl, h3, hh, h4, h5, h6, h7⟩
 ·omega
 ·refine ⟨g, cap, cur, rfl, h3, h4, h5, hh, fun j hj => ?_⟩
  rw [← h7, List.getElem?_take_of_lt hj, Array.getElem?_toList]
theorem blk_ne {w : World} {a b : Nat} {x y : Obj} (ha : w.heap[a]? = some x) (hb : w.heap[b]? = some y) (hn : x ≠ y) : a ≠ b := by
 rintro rfl
 rw [ha] at hb
 exact hn (Option.some.inj hb)
theorem map_keepS {H : Type} {w w' : World} {k : TypeId} {R : Value → Option (DataW H × List MemPlace)} {b n : Nat} {D : DataW H} {S : List Nat} (h : w.ownsMap Tryz.prog k R b n D) (ho : OnlyS S w w') (hb : b ∉ S) : w'.ownsMap Tryz.prog k R b n D := by
 obtain ⟨es, c, h1, h2⟩ := h
 exact ⟨es, c, ho.keep h1 hb, h2⟩
/-- a slice of one cell appended to one's own -/
theorem app_one_own {w0 W : World} {ops : Array Oper} {rest : List Oper} {o : Oper} {a : Act} {Q : Exit → Act → World → Prop} (base : Nat) (hgd : o.guard = none) (s x : Operand)
  (ho : o.op = .call { callee := .builtin .append, args := #[s, x], argTypes := #[34, 34] }) (v : Value) (n : Nat) (xs : List Value) (hs : a.eval s = v) (HO : W.ownsRow base 39 1 v n xs)
  (g cap : Nat) (cur : Array Value) (y : Value) (hx : a.eval x = .slice (some ⟨g, 0, none⟩) 1 cap) (hg : W.heap[g]? = some (.cells cur 39 (0, 0))) (hy : cur[0]? = some y) (h1 : y.oneCell' = true)
  (HB : Below base w0 W) (hbase : base ≤ W.heap.size) (hn : n ≤ 100)
  (h : ∀ v1 w1, w1.ownsRow base 39 1 v1 (n + 1) (xs ++ [y]) → Below base w0 w1 → W.grownBy w1 v.ownBlock → wpList Tryz.prog ops Q rest (a.put o.dst v1) w1) :
  wpList Tryz.prog ops Q (o :: rest) a W := by
 obtain ⟨i, hi, hz, hsz, hby⟩ : ∃ i, Tryz.prog.info? 39 = some i ∧ i.zero = some (.int .u32 0) ∧ i.size = 1 ∧ i.bytes = 4 := by
  have h : (Tryz.prog.info? 39).map (fun i => (i.zero, i.size, i.bytes)) = some (some (.int .u32 0), 1, 4) := by kernel_rfl
  obtain ⟨i, hi, h2⟩ := Option.map_eq_some_iff.1 h
  simp only [Prod.mk.injEq] at h2
  exact ⟨i, hi, h2.1, h2.2.1, h2.2.2⟩
 refine wpList_append_own_at W hgd s x _ ho base _ i _ 1 4 Tryz.underlying34 hi hz hsz hby rfl (by decide) v n xs hs HO ⟨g, 0, none⟩ 1 cap [y] hx rfl ?_ (by simpa using h1) (by unfold maxLen; omega) (by omega) hbase ?_
 ·intro j u hu
  cases j with
  | zero =>
   have e : u = y := by simpa using hu.symm
   subst e; exact (blk_cell hg 0).trans hy
  | succ j => simp at hu
 ·intro v1 w1 hown hg _ _
  exact h v1 w1 hown (HB.grown hg hbase (own_base HO)) hg
theorem owns_keepS {w w' : World} {base : Nat} {e : TypeId} {size : Nat} {v : Value} {n : Nat} {xs : List Value} {S : List Nat} (h : w.ownsRow base e size v n xs) (ho : OnlyS S w w') (hb : ∀ k, v.ownBlock = some k → k ∉ S) : w'.ownsRow base e size v n xs := by
 refine ⟨h.1, ?_⟩
 rcases h.2 with h2 | ⟨g, cap, cur, rfl, h3, hh, h4⟩
 ·exact .inl h2
 ·exact .inr ⟨g, cap, cur, rfl, h3, ho.keep hh (hb g rfl), h4⟩
theorem keyS : Keyed Tryz.prog 9 := string_keyed Tryz.underlying9
theorem zeroU (w : World) : (zeroValue 33).run Tryz.prog w = .ok (.int .u64 0) w := by kernel_rfl
theorem wakeA_ne : ¬ (⟨wakeA.toArray⟩ : ByteArray) = ⟨#[]⟩ := ne_nil _ _
set_option maxHeartbeats 8000000 in
set_option maxRecDepth 100000 in
theorem wake_assemble (w : World) (hE : Env w)
  (hrd : ∀ (l : BL), l = wakeQ ∨ l = wakeJ → ∀ W, Env W → Calls Tryz.prog 72 #[sv l] W fun e w' => e = .returned (readV l) ∧ Below W.heap.size W w') :
  Calls Tryz.prog 20 #[sv wakeT, .int .u64 0] w fun e w' => ∃ v, e = .returned (.tuple #[v, .int .i64 0, .int .i64 0]) ∧ w'.ownsRow w.heap.size 39 1 v 2 [.int .u32 99, .int .u32 4194415] ∧ Below w.heap.size w w' := by
 have hE' := Aside0.mk hE
 have hrd' := Aside0.mk hrd
 have hsp : Aside0 (∀ W, Env W → Calls Tryz.prog 51 #[sv wakeT, .string ⟨#[10]⟩] W fun e w' => e = .returned (.slice (some ⟨W.heap.size, 0, none⟩) 4 4) ∧ w' = W.alloc (.cells #[sv wakeA, sv wakeQ, sv wakeJ, sv wakeB] 9)) := ⟨fun W h => by
  have q := split_says wakeT [10] (by decide) (by simp) W h
  rw [wake_split] at q
  exact q⟩
 have hlen : (⟨wakeT.toArray⟩ : ByteArray).size = 31 := rfl
 have hmm := @run_makeMap Tryz.prog
 have hcut := Aside0.mk wake_cut
 have htr := Aside0.mk wake_trim
 have hsu := Aside0.mk wake_suf
 clear hE hrd; go_enter Tryz.func20, Tryz.ntmps20
 go_wp2_with (fail)
 refine (hsp.out _ (hE'.out.alloc _)).mono ?_
 rintro e w1 ⟨rfl, hw⟩
 have S1 : Aside0 (w1.heap[w.heap.size + 1]? = some (.cells #[sv wakeA, sv wakeQ, sv wakeJ, sv wakeB] 9 (0, 0))) := ⟨by rw [hw]; exact two_new w _ _⟩
 have M1 : Aside0 (w1.ownsMap (H := Unit) Tryz.prog 9 (plainElem Tryz.prog 33) w.heap.size 0 (.map [])) := ⟨by rw [hw]; exact (World.ownsMap_made w _ _ _).alloc _⟩
 have B1 : Aside0 (Below w.heap.size w w1) := ⟨by rw [hw]; exact below_alloc (below_alloc (Below.refl _ _) _) _⟩
 have hw1 : (w.alloc (.map #[] 0)).heap.size = w.heap.size + 1 := by simp
 clear hw; rw [hw1]
 go_wp2_with (fail)
 refine wp_loop_rounds 5 ?_
 rw [rounds_succ]
 have cs0 := blk_cell S1.out 0
 simp at cs0
 go_wp2_with (fail)
 have q := cut_says wakeA [35] (by decide) w1 (hE'.out.below B1.out)
 rw [hcut.out.1] at q
 refine q.mono ?_
 clear q cs0; rintro e w2 ⟨rfl, hb⟩
 have S2 := Aside0.mk (blk_below S1.out hb)
 have M2 := Aside0.mk (map_below M1.out hb)
 have B2 := Aside0.mk (below_step B1.out hb)
 clear hb S1 M1 B1; go_wp2_with (fail)
 have q := trim_says wakeA (by decide) w2
 rw [htr.out.1] at q
 refine q.mono ?_
 clear q; rintro e w3 ⟨rfl, hb⟩
 have S3 := Aside0.mk (blk_below S2.out hb)
 have M3 := Aside0.mk (map_below M2.out hb)
 have B3 := Aside0.mk (below_step B2.out hb)
 clear hb S2 M2 B2; have hne := wakeA_ne; go_wp2_with (fail)
 have q := cutsuf_says wakeA [58] (by decide) w3
 rw [hsu.out.1, hsu.out.2.1] at q
 refine q.mono ?_
 clear q hne; rintro e w4 ⟨rfl, rfl⟩
 go_wp2_with (fail)
 have q := named_calls [97] (by decide) w4
 rw [wake_named.1] at q
 refine q.mono ?_
 clear q; rintro e w5 ⟨rfl, hb⟩
 have S5 := Aside0.mk (blk_below S3.out hb)
 have M5 := Aside0.mk (map_below M3.out hb)
 have B5 := Aside0.mk (below_step B3.out hb)
 clear hb S3 M3 B3; go_wp2_with (at_lookup; refine Aside0.out ?_)
 refine ⟨?_⟩
 refine wpList_lookup_own_ok_int _ rfl _ _ 83 rfl 9 33 .u64 keyS Tryz.underlying83 Tryz.underlying33 (zeroU _) w.heap.size 0 _ rfl M5.out _ _ rfl (WideMaps.keyOf_string_mk Tryz.underlying9 (by decide)) ?_
 intro c hat hwc
 rw [show Maps.has (DataW.map ([] : List (Lit × DataW Unit))) (.string (⟨#[97]⟩ : ByteArray).data.toList) = false from rfl]
 clear hat hwc; go_wp2_with (at_mapUpdate; refine Aside0.out ?_)
 refine ⟨?_⟩
 refine wpList_mapUpdate_own _ rfl _ _ _ 83 rfl 9 33 keyS Tryz.underlying83 _ w.heap.size 0 _ rfl M5.out (by decide) _ _ _ rfl rfl (WideMaps.keyOf_string_mk Tryz.underlying9 (by decide)) _ [] (plainElem_int Tryz.underlying33 (by decide)) ?_
 intro w6 hown1 hgrow1
 have S6 : Aside0 (w6.heap[w.heap.size + 1]? = some (.cells #[sv wakeA, sv wakeQ, sv wakeJ, sv wakeB] 9 (0, 0))) := ⟨(hgrow1.block _ (blk_lt S5.out) (by simp)).trans S5.out⟩
 have M6 := Aside0.mk hown1
 have B6 := Aside0.mk (B5.out.grown hgrow1 B5.out.size (fun j hj => by cases hj; exact Nat.le_refl _))
 clear hown1 hgrow1 S5 M5 B5; go_wp2_with (fail)
 rw [rounds_succ]
 have cs0 := blk_cell S6.out 1
 simp at cs0
 go_wp2_with (fail)
 have q := cut_says wakeQ [35] (by decide) w6 (hE'.out.below B6.out)
 rw [hcut.out.2.1] at q
 refine q.mono ?_
 clear q cs0; rintro e w7 ⟨rfl, hb⟩
 have S7 := Aside0.mk (blk_below S6.out hb)
 have M7 := Aside0.mk (map_below M6.out hb)
 have B7 := Aside0.mk (below_step B6.out hb)
 clear hb S6 M6 B6; go_wp2_with (fail)
 have q := trim_says wakeQ (by decide) w7
 rw [htr.out.2.1] at q
 refine q.mono ?_
 clear q; rintro e w8 ⟨rfl, hb⟩
 have S8 := Aside0.mk (blk_below S7.out hb)
 have M8 := Aside0.mk (map_below M7.out hb)
 have B8 := Aside0.mk (below_step B7.out hb)
 clear hb S7 M7 B7; have hne : ¬ (⟨wakeQ.toArray⟩ : ByteArray) = ⟨#[]⟩ := ne_nil _ _
 go_wp2_with (fail)
 have q := cutsuf_says wakeQ [58] (by decide) w8
 rw [hsu.out.2.2.2.2.1] at q
 refine q.mono ?_
 clear q hne; rintro e w9 ⟨rfl, rfl⟩
 go_wp2_with (fail)
 have q := said_read wakeQ (by decide) (wake_no _ (.inl rfl)).1 (wake_no _ (.inl rfl)).2.1 (wake_no _ (.inl rfl)).2.2 _ _ wake_read.1 w9 (hE'.out.below B8.out) (fun W h => hrd'.out wakeQ (.inl rfl) W h)
 refine q.mono ?_
 clear q; rintro e w10 ⟨b1, rfl, hb0, hb1, hI, hb⟩
 have S9 := Aside0.mk (blk_below S8.out hb)
 have M9 := Aside0.mk (map_below M8.out hb)
 have B9 := Aside0.mk (below_step B8.out hb)
 have I9 := Aside0.mk hI
 have P9 := Aside0.mk (And.intro hb0 hb1)
 have Q1 := Aside0.mk (Nat.le_trans B8.out.size hb0)
 clear hb S8 M8 B8 hI hb0 hb1; go_wp2_with ((with_reducible refine gate_builtin (b := .append) (xs := #[.tmp 89, .tmp 91]) rfl ?_); at_builtin; refine Aside0.out ?_)
 refine ⟨?_⟩
 refine print_append_cells (w0 := w) w.heap.size rfl (.tmp 89) (.tmp 91) 82 93 (.agg #[.int .i64 0, .slice none 0 0, .string ⟨#[]⟩, .bool false, .int .u32 0, .bool false]) 6 64 rfl Tryz.underlying82 (by kernel_rfl) rfl (by decide) (by decide) (.slice none 0 0) 0 [] [.int .i64 2, .slice (some ⟨b1, 0, none⟩) 1 1, sv [97], .bool false, .int .u32 0, .bool false] rfl (by rw [show ∀ o, (w10.alloc o).heap.size = w10.heap.size + 1 from fun o => by simp]; rfl) rfl (by simp [Value.oneCell']) ⟨rfl, .inl ⟨rfl, rfl⟩⟩ (below_alloc B9.out _) (below_alloc B9.out _).size (by decide) ?_
 intro v1 w11 hown hb3 hg hat
 have X11 := Aside0.mk hown
 have B11 := Aside0.mk hb3
 have S11 : Aside0 (w11.heap[w.heap.size + 1]? = some (.cells #[sv wakeA, sv wakeQ, sv wakeJ, sv wakeB] 9 (0, 0))) := ⟨(hg.block _ (blk_lt (blk_alloc S9.out _)) (by simp [Value.ownBlock])).trans (blk_alloc S9.out _)⟩
 have M11 := Aside0.mk ((M9.out.alloc (.cells #[.int .i64 2, .slice (some ⟨b1, 0, none⟩) 1 1, sv [97], .bool false, .int .u32 0, .bool false] 93)).kept hg (by simp [Value.ownBlock]))
 have I11 : Aside0 (InsB w11 b1 (5, 0, 0, 0, 0, 0, false, false)) := ⟨(hg.block _ (blk_lt (blk_alloc I9.out _)) (by simp [Value.ownBlock])).trans (blk_alloc I9.out _)⟩
 have T11 := Aside0.mk ((hg.block _ (blk_lt (heap_alloc_new w10 (.cells #[.int .i64 2, .slice (some ⟨b1, 0, none⟩) 1 1, sv [97], .bool false, .int .u32 0, .bool false] 93))) (by simp [Value.ownBlock])).trans (heap_alloc_new w10 (.cells #[.int .i64 2, .slice (some ⟨b1, 0, none⟩) 1 1, sv [97], .bool false, .int .u32 0, .bool false] 93)))
 clear hown hb3 hg hat S9 M9 B9 I9; have ct0 := blk_cell T11.out 0; have ct1 := blk_cell T11.out 1; have ct2 := blk_cell T11.out 2; have ct3 := blk_cell T11.out 3; have ct4 := blk_cell T11.out 4; have ct5 := blk_cell T11.out 5
 simp at ct0 ct1 ct2 ct3 ct4 ct5
 go_wp2_with (fail)
 refine (words1_calls 2 b1 [97] _).mono ?_
 rintro e w12 ⟨rfl, hb⟩
 have S12 := Aside0.mk (blk_below S11.out hb)
 have M12 := Aside0.mk (map_below M11.out hb)
 have B12 := Aside0.mk (below_step B11.out hb)
 have I12 : Aside0 (InsB w12 b1 (5, 0, 0, 0, 0, 0, false, false)) := ⟨blk_below I11.out hb⟩
 have X12 := Aside0.mk (owns_below X11.out hb)
 clear hb S11 M11 B11 I11 X11 T11 ct0 ct1 ct2 ct3 ct4 ct5; go_wp2_with (fail)
 rw [rounds_succ]
 have cs0 := blk_cell S12.out 2
 simp at cs0
 go_wp2_with (fail)
 have q := cut_says wakeJ [35] (by decide) w12 (hE'.out.below B12.out)
 rw [hcut.out.2.2.1] at q
 refine q.mono ?_
 clear q cs0; rintro e w13 ⟨rfl, hb⟩
 have S13 := Aside0.mk (blk_below S12.out hb)
 have M13 := Aside0.mk (map_below M12.out hb)
 have B13 := Aside0.mk (below_step B12.out hb)
 have I13 : Aside0 (InsB w13 b1 (5, 0, 0, 0, 0, 0, false, false)) := ⟨blk_below I12.out hb⟩
 have X13 := Aside0.mk (owns_below X12.out hb)
 clear hb S12 M12 B12 I12 X12; go_wp2_with (fail)
 have q := trim_says wakeJ (by decide) w13
 rw [htr.out.2.2.1] at q
 refine q.mono ?_
 clear q; rintro e w14 ⟨rfl, hb⟩
 have S14 := Aside0.mk (blk_below S13.out hb)
 have M14 := Aside0.mk (map_below M13.out hb)
 have B14 := Aside0.mk (below_step B13.out hb)
 have I14 : Aside0 (InsB w14 b1 (5, 0, 0, 0, 0, 0, false, false)) := ⟨blk_below I13.out hb⟩
 have X14 := Aside0.mk (owns_below X13.out hb)
 clear hb S13 M13 B13 I13 X13; have hne : ¬ (⟨wakeJ.toArray⟩ : ByteArray) = ⟨#[]⟩ := ne_nil _ _
 go_wp2_with (fail)
 have q := cutsuf_says wakeJ [58] (by decide) w14
 rw [hsu.out.2.2.2.2.2] at q
 refine q.mono ?_
 clear q hne; rintro e w15 ⟨rfl, rfl⟩
 go_wp2_with (fail)
 have q := said_read wakeJ (by decide) (wake_no _ (.inr rfl)).1 (wake_no _ (.inr rfl)).2.1 (wake_no _ (.inr rfl)).2.2 _ _ wake_read.2 w15 (hE'.out.below B14.out) (fun W h => hrd'.out wakeJ (.inr rfl) W h)
 refine q.mono ?_
 clear q; rintro e w16 ⟨b2, rfl, hb0, hb1, hI, hb⟩
 have S16 := Aside0.mk (blk_below S14.out hb)
 have M16 := Aside0.mk (map_below M14.out hb)
 have B16 := Aside0.mk (below_step B14.out hb)
 have I16 : Aside0 (InsB w16 b1 (5, 0, 0, 0, 0, 0, false, false)) := ⟨blk_below I14.out hb⟩
 have X16 := Aside0.mk (owns_below X14.out hb)
 have J16 := Aside0.mk hI
 have P16 := Aside0.mk (And.intro hb0 hb1)
 have Q2 := Aside0.mk (Nat.le_trans B14.out.size hb0)
 clear hb S14 M14 B14 I14 X14 hI hb0 hb1; go_wp2_with ((with_reducible refine gate_builtin (b := .append) (xs := #[.tmp 89, .tmp 91]) rfl ?_); at_builtin; refine Aside0.out ?_)
 refine ⟨?_⟩
 refine print_append_cells (w0 := w) w.heap.size rfl (.tmp 89) (.tmp 91) 82 93 (.agg #[.int .i64 0, .slice none 0 0, .string ⟨#[]⟩, .bool false, .int .u32 0, .bool false]) 6 64 rfl Tryz.underlying82 (by kernel_rfl) rfl (by decide) (by decide) v1 1 _ [.int .i64 3, .slice (some ⟨b2, 0, none⟩) 1 1, sv [98], .bool false, .int .u32 0, .bool false] rfl (by rw [show ∀ o, (w16.alloc o).heap.size = w16.heap.size + 1 from fun o => by simp]; rfl) rfl (by simp [Value.oneCell']) (owns_alloc X16.out _) (below_alloc B16.out _) (below_alloc B16.out _).size (by decide) ?_
 intro v2 w17 hown hb3 hg hat
 have hX := Aside0.mk (owns_alloc X16.out (.cells #[.int .i64 3, .slice (some ⟨b2, 0, none⟩) 1 1, sv [98], .bool false, .int .u32 0, .bool false] 93))
 have X17 := Aside0.mk hown
 have B17 := Aside0.mk hb3
 have S17 : Aside0 (w17.heap[w.heap.size + 1]? = some (.cells #[sv wakeA, sv wakeQ, sv wakeJ, sv wakeB] 9 (0, 0))) := ⟨(hg.block _ (blk_lt (blk_alloc S16.out _)) (own_ne hX.out (blk_alloc S16.out _) (by decide))).trans (blk_alloc S16.out _)⟩
 have M17 := Aside0.mk ((M16.out.alloc (.cells #[.int .i64 3, .slice (some ⟨b2, 0, none⟩) 1 1, sv [98], .bool false, .int .u32 0, .bool false] 93)).kept hg (map_own_ne (M16.out.alloc _) hX.out))
 have I17 : Aside0 (InsB w17 b1 (5, 0, 0, 0, 0, 0, false, false)) := ⟨(hg.block _ (blk_lt (blk_alloc I16.out _)) (own_ne hX.out (blk_alloc I16.out _) (by decide))).trans (blk_alloc I16.out _)⟩
 have J17 : Aside0 (InsB w17 b2 (3, 0, 0, 0, 0, 0, false, false)) := ⟨(hg.block _ (blk_lt (blk_alloc J16.out _)) (own_ne hX.out (blk_alloc J16.out _) (by decide))).trans (blk_alloc J16.out _)⟩
 have T17 := Aside0.mk ((hg.block _ (blk_lt (heap_alloc_new w16 (.cells #[.int .i64 3, .slice (some ⟨b2, 0, none⟩) 1 1, sv [98], .bool false, .int .u32 0, .bool false] 93))) (fun e => absurd (own_lt X16.out _ e.symm) (Nat.lt_irrefl _))).trans (heap_alloc_new w16 (.cells #[.int .i64 3, .slice (some ⟨b2, 0, none⟩) 1 1, sv [98], .bool false, .int .u32 0, .bool false] 93)))
 clear hown hb3 hg hat hX S16 M16 B16 I16 J16 X16; have ct0 := blk_cell T17.out 0; have ct1 := blk_cell T17.out 1; have ct2 := blk_cell T17.out 2; have ct3 := blk_cell T17.out 3; have ct4 := blk_cell T17.out 4; have ct5 := blk_cell T17.out 5
 simp at ct0 ct1 ct2 ct3 ct4 ct5
 go_wp2_with (fail)
 refine (words1_calls 3 b2 [98] _).mono ?_
 rintro e w18 ⟨rfl, hb⟩
 have S18 := Aside0.mk (blk_below S17.out hb)
 have M18 := Aside0.mk (map_below M17.out hb)
 have B18 := Aside0.mk (below_step B17.out hb)
 have I18 : Aside0 (InsB w18 b1 (5, 0, 0, 0, 0, 0, false, false)) := ⟨blk_below I17.out hb⟩
 have J18 : Aside0 (InsB w18 b2 (3, 0, 0, 0, 0, 0, false, false)) := ⟨blk_below J17.out hb⟩
 have X18 := Aside0.mk (owns_below X17.out hb)
 clear hb S17 M17 B17 I17 J17 X17 T17 ct0 ct1 ct2 ct3 ct4 ct5; go_wp2_with (fail)
 rw [rounds_succ]
 have cs0 := blk_cell S18.out 3
 simp at cs0
 go_wp2_with (fail)
 have q := cut_says wakeB [35] (by decide) w18 (hE'.out.below B18.out)
 rw [hcut.out.2.2.2] at q
 refine q.mono ?_
 clear q cs0; rintro e w19 ⟨rfl, hb⟩
 have S19 := Aside0.mk (blk_below S18.out hb)
 have M19 := Aside0.mk (map_below M18.out hb)
 have B19 := Aside0.mk (below_step B18.out hb)
 have I19 : Aside0 (InsB w19 b1 (5, 0, 0, 0, 0, 0, false, false)) := ⟨blk_below I18.out hb⟩
 have J19 : Aside0 (InsB w19 b2 (3, 0, 0, 0, 0, 0, false, false)) := ⟨blk_below J18.out hb⟩
 have X19 := Aside0.mk (owns_below X18.out hb)
 clear hb S18 M18 B18 I18 J18 X18; go_wp2_with (fail)
 have q := trim_says wakeB (by decide) w19
 rw [htr.out.2.2.2] at q
 refine q.mono ?_
 clear q; rintro e w20 ⟨rfl, hb⟩
 have S20 := Aside0.mk (blk_below S19.out hb)
 have M20 := Aside0.mk (map_below M19.out hb)
 have B20 := Aside0.mk (below_step B19.out hb)
 have I20 : Aside0 (InsB w20 b1 (5, 0, 0, 0, 0, 0, false, false)) := ⟨blk_below I19.out hb⟩
 have J20 : Aside0 (InsB w20 b2 (3, 0, 0, 0, 0, 0, false, false)) := ⟨blk_below J19.out hb⟩
 have X20 := Aside0.mk (owns_below X19.out hb)
 clear hb S19 M19 B19 I19 J19 X19; have hne : ¬ (⟨wakeB.toArray⟩ : ByteArray) = ⟨#[]⟩ := ne_nil _ _
 go_wp2_with (fail)
 have q := cutsuf_says wakeB [58] (by decide) w20
 rw [hsu.out.2.2.1, hsu.out.2.2.2.1] at q
 refine q.mono ?_
 clear q hne; rintro e w21 ⟨rfl, rfl⟩
 go_wp2_with (fail)
 have q := named_calls [98] (by decide) w21
 rw [wake_named.2] at q
 refine q.mono ?_
 clear q; rintro e w22 ⟨rfl, hb⟩
 have S22 := Aside0.mk (blk_below S20.out hb)
 have M22 := Aside0.mk (map_below M20.out hb)
 have B22 := Aside0.mk (below_step B20.out hb)
 have I22 : Aside0 (InsB w22 b1 (5, 0, 0, 0, 0, 0, false, false)) := ⟨blk_below I20.out hb⟩
 have J22 : Aside0 (InsB w22 b2 (3, 0, 0, 0, 0, 0, false, false)) := ⟨blk_below J20.out hb⟩
 have X22 := Aside0.mk (owns_below X20.out hb)
 clear hb S20 M20 B20 I20 J20 X20; go_wp2_with (at_lookup; refine Aside0.out ?_)
 refine ⟨?_⟩
 refine wpList_lookup_own_ok_int _ rfl _ _ 83 rfl 9 33 .u64 keyS Tryz.underlying83 Tryz.underlying33 (zeroU _) w.heap.size _ _ rfl M22.out _ _ rfl (WideMaps.keyOf_string_mk Tryz.underlying9 (by decide)) ?_
 intro c2 hat hwc
 rw [show Maps.has (DataW.put (DataW.map ([] : List (Lit × DataW Unit))) (.string (⟨#[97]⟩ : ByteArray).data.toList) (.lit (.int .u64 0))) (.string (⟨#[98]⟩ : ByteArray).data.toList) = false from by kernel_rfl]
 clear hat hwc; go_wp2_with (at_mapUpdate; refine Aside0.out ?_)
 refine ⟨?_⟩
 refine wpList_mapUpdate_own _ rfl _ _ _ 83 rfl 9 33 keyS Tryz.underlying83 _ w.heap.size _ _ rfl M22.out (by decide) _ _ _ rfl rfl (WideMaps.keyOf_string_mk Tryz.underlying9 (by decide)) _ [] (plainElem_int Tryz.underlying33 (by decide)) ?_
 intro w23 hown1 hgrow1
 have M23 := Aside0.mk hown1
 have B23 := Aside0.mk (B22.out.grown hgrow1 B22.out.size (fun j hj => by cases hj; exact Nat.le_refl _))
 have I23 : Aside0 (InsB w23 b1 (5, 0, 0, 0, 0, 0, false, false)) := ⟨(hgrow1.block _ (blk_lt I22.out) (map_cells_ne M22.out I22.out)).trans I22.out⟩
 have J23 : Aside0 (InsB w23 b2 (3, 0, 0, 0, 0, 0, false, false)) := ⟨(hgrow1.block _ (blk_lt J22.out) (map_cells_ne M22.out J22.out)).trans J22.out⟩
 have X23 := Aside0.mk (owns_grown X22.out hgrow1 (.inl (map_own_ne M22.out X22.out)))
 clear hown1 hgrow1 S22 M22 B22 I22 J22 X22; go_wp2_with (fail)
 rw [rounds_succ]
 obtain ⟨g, cap, cur, rfl, hg0, hg1, hg2, hgc, hcu⟩ := rows_open X23.out (by decide)
 have G23 := Aside0.mk hgc
 have U23 := Aside0.mk hcu
 have hg3 := Aside0.mk (And.intro hg0 (And.intro hg1 hg2))
 clear hgc hcu hg0 hg1 hg2 X23; go_wp2_with (fail)
 refine wp_loop_rounds 3 ?_
 rw [rounds_succ]
 have ct0 := (blk_cell G23.out 0).trans (U23.out 0 (by decide)); have ct1 := (blk_cell G23.out 1).trans (U23.out 1 (by decide)); have ct2 := (blk_cell G23.out 2).trans (U23.out 2 (by decide)); have ct3 := (blk_cell G23.out 3).trans (U23.out 3 (by decide)); have ct4 := (blk_cell G23.out 4).trans (U23.out 4 (by decide)); have ct5 := (blk_cell G23.out 5).trans (U23.out 5 (by decide))
 simp at ct0 ct1 ct2 ct3 ct4 ct5
 have hga : ¬ (⟨#[97]⟩ : ByteArray) = ⟨#[]⟩ := ne_nil 97 []
 go_wp2_with (at_lookup; refine Aside0.out ?_)
 refine ⟨?_⟩
 refine wpList_lookup_own_ok_int _ rfl _ _ 83 rfl 9 33 .u64 keyS Tryz.underlying83 Tryz.underlying33 (zeroU _) w.heap.size _ _ rfl (M23.out.alloc _) _ _ rfl (WideMaps.keyOf_string_mk Tryz.underlying9 (by decide)) ?_
 intro c3 hat hwc
 have hc3 : (DataW.lit (Lit.int .u64 c3) : DataW Unit) = DataW.lit (Lit.int .u64 0) := hat.symm.trans (by kernel_rfl)
 obtain rfl : c3 = 0 := by injection hc3 with hc3; injection hc3
 rw [show Maps.has (DataW.put (DataW.put (DataW.map ([] : List (Lit × DataW Unit))) (.string (⟨#[97]⟩ : ByteArray).data.toList) (.lit (.int .u64 0))) (.string (⟨#[98]⟩ : ByteArray).data.toList) (.lit (.int .u64 8))) (.string (⟨#[97]⟩ : ByteArray).data.toList) = true from by kernel_rfl]
 clear hat hwc hc3; go_wp2_with (fail)
 have q := goes1_calls 2 b1 [97] 0 _ _ (blk_alloc I23.out (.cells #[.int .i64 2, .slice (some ⟨b1, 0, none⟩) 1 1, sv [97], .bool false, .int .u32 0, .bool false] 93))
 dsimp only at q
 rw [wake_words.1, show decide (((99, 0) : Int × Int).2 = 0) = true from rfl] at q
 refine q.mono ?_
 clear q; rintro e w24 ⟨rfl, hI, hO⟩
 have nJ : b2 ∉ [b1] := by
  intro h
  exact blk_ne J23.out I23.out (by intro c; injection c with c; simp at c) (List.mem_singleton.1 h)
 have nG : g ∉ [b1] := by
  intro h
  exact blk_ne G23.out I23.out (by intro c; injection c with _ c; exact absurd c (by decide)) (List.mem_singleton.1 h)
 have nM : w.heap.size ∉ [b1] := by
  intro h
  exact map_cells_ne M23.out I23.out (by rw [List.mem_singleton.1 h])
 have nT : w23.heap.size ∉ [b1] := by
  intro h
  have h1 := blk_lt I23.out
  have h2 := List.mem_singleton.1 h
  omega
 have I24 : Aside0 (InsB w24 b1 (5, 0, 0, 0, 0, 0, false, false)) := ⟨hI⟩
 have J24 : Aside0 (InsB w24 b2 (3, 0, 0, 0, 0, 0, false, false)) := ⟨hO.keep (blk_alloc J23.out _) nJ⟩
 have G24 := Aside0.mk (hO.keep (blk_alloc G23.out _) nG)
 have M24 := Aside0.mk (map_keepS (M23.out.alloc _) hO nM)
 have T24 := Aside0.mk (hO.keep (heap_alloc_new w23 _) nT)
 have B24 := Aside0.mk (Below.trans (below_alloc B23.out _) (hO.below (n := w.heap.size) (by intro b h; rw [List.mem_singleton.1 h]; exact Q1.out) (below_alloc B23.out _).size))
 clear hI hO nJ nG nM nT M23 B23 I23 J23 G23 ct0 ct1 ct2 ct3 ct4 ct5; have ct0 := blk_cell T24.out 0; have ct1 := blk_cell T24.out 1; have ct2 := blk_cell T24.out 2; have ct3 := blk_cell T24.out 3; have ct4 := blk_cell T24.out 4; have ct5 := blk_cell T24.out 5
 simp at ct0 ct1 ct2 ct3 ct4 ct5
 go_wp2_with (fail)
 have q := put1_calls 2 b1 [97] _ w24 I24.out
 rw [wake_words.1] at q
 refine q.mono ?_
 clear q; rintro e w25 ⟨v3, rfl, hown, hb⟩
 obtain ⟨g3, cap3, cur3, rfl, -, -, -, hh3, hc3⟩ := rows_open hown (by decide)
 have N25 := Aside0.mk hh3
 have V25 := Aside0.mk (hc3 0 (by decide))
 have I25 : Aside0 (InsB w25 b1 (5, 0, 0, 0, 0, 0, false, false)) := ⟨blk_below I24.out hb⟩
 have J25 : Aside0 (InsB w25 b2 (3, 0, 0, 0, 0, 0, false, false)) := ⟨blk_below J24.out hb⟩
 have G25 := Aside0.mk (blk_below G24.out hb)
 have M25 := Aside0.mk (map_below M24.out hb)
 have T25 := Aside0.mk (blk_below T24.out hb)
 have B25 := Aside0.mk (below_step B24.out hb)
 clear hown hb hh3 hc3 I24 J24 G24 M24 T24 B24 ct0 ct1 ct2 ct3 ct4 ct5; go_wp2_with ((with_reducible refine gate_builtin (b := .append) (xs := #[.tmp 132, .tmp 134]) rfl ?_); at_builtin; refine Aside0.out ?_)
 refine ⟨?_⟩
 refine app_one_own (w0 := w) w.heap.size rfl (.tmp 132) (.tmp 134) rfl (.slice none 0 0) 0 [] rfl ⟨rfl, .inl ⟨rfl, rfl⟩⟩ g3 cap3 cur3 _ rfl N25.out V25.out rfl B25.out B25.out.size (by decide) ?_
 intro v4 w26 hown hb3 hg
 have I26 : Aside0 (InsB w26 b1 (5, 0, 0, 0, 0, 0, false, false)) := ⟨(hg.block _ (blk_lt I25.out) (by simp [Value.ownBlock])).trans I25.out⟩
 have J26 : Aside0 (InsB w26 b2 (3, 0, 0, 0, 0, 0, false, false)) := ⟨(hg.block _ (blk_lt J25.out) (by simp [Value.ownBlock])).trans J25.out⟩
 have G26 := Aside0.mk ((hg.block _ (blk_lt G25.out) (by simp [Value.ownBlock])).trans G25.out)
 have T26 := Aside0.mk ((hg.block _ (blk_lt T25.out) (by simp [Value.ownBlock])).trans T25.out)
 have M26 := Aside0.mk (M25.out.kept hg (by simp [Value.ownBlock]))
 have B26 := Aside0.mk hb3
 have W26 := Aside0.mk hown
 clear hown hb3 hg I25 J25 G25 T25 M25 B25 N25 V25; have ct0 := blk_cell T26.out 0; have ct1 := blk_cell T26.out 1; have ct2 := blk_cell T26.out 2; have ct3 := blk_cell T26.out 3; have ct4 := blk_cell T26.out 4; have ct5 := blk_cell T26.out 5
 simp at ct0 ct1 ct2 ct3 ct4 ct5
 go_wp2_with (fail)
 refine (words1_calls 2 b1 [97] _).mono ?_
 rintro e w27 ⟨rfl, hb⟩
 have I27 : Aside0 (InsB w27 b1 (5, 0, 0, 0, 0, 0, false, false)) := ⟨blk_below I26.out hb⟩
 have J27 : Aside0 (InsB w27 b2 (3, 0, 0, 0, 0, 0, false, false)) := ⟨blk_below J26.out hb⟩
 have G27 := Aside0.mk (blk_below G26.out hb)
 have M27 := Aside0.mk (map_below M26.out hb)
 have B27 := Aside0.mk (below_step B26.out hb)
 have W27 := Aside0.mk (owns_below W26.out hb)
 clear hb I26 J26 G26 M26 T26 B26 W26 ct0 ct1 ct2 ct3 ct4 ct5; go_wp2_with (fail)
 rw [rounds_succ]
 have ct0 := (blk_cell G27.out 6).trans (U23.out 6 (by decide)); have ct1 := (blk_cell G27.out 7).trans (U23.out 7 (by decide)); have ct2 := (blk_cell G27.out 8).trans (U23.out 8 (by decide)); have ct3 := (blk_cell G27.out 9).trans (U23.out 9 (by decide)); have ct4 := (blk_cell G27.out 10).trans (U23.out 10 (by decide)); have ct5 := (blk_cell G27.out 11).trans (U23.out 11 (by decide))
 simp at ct0 ct1 ct2 ct3 ct4 ct5
 have hgb : ¬ (⟨#[98]⟩ : ByteArray) = ⟨#[]⟩ := ne_nil 98 []
 go_wp2_with (at_lookup; refine Aside0.out ?_)
 refine ⟨?_⟩
 refine wpList_lookup_own_ok_int _ rfl _ _ 83 rfl 9 33 .u64 keyS Tryz.underlying83 Tryz.underlying33 (zeroU _) w.heap.size _ _ rfl (M27.out.alloc _) _ _ rfl (WideMaps.keyOf_string_mk Tryz.underlying9 (by decide)) ?_
 intro c4 hat hwc
 have hc4 : (DataW.lit (Lit.int .u64 c4) : DataW Unit) = DataW.lit (Lit.int .u64 8) := hat.symm.trans (by kernel_rfl)
 obtain rfl : c4 = 8 := by injection hc4 with hc4; injection hc4
 rw [show Maps.has (DataW.put (DataW.put (DataW.map ([] : List (Lit × DataW Unit))) (.string (⟨#[97]⟩ : ByteArray).data.toList) (.lit (.int .u64 0))) (.string (⟨#[98]⟩ : ByteArray).data.toList) (.lit (.int .u64 8))) (.string (⟨#[98]⟩ : ByteArray).data.toList) = true from by kernel_rfl]
 clear hat hwc hc4; go_wp2_with (fail)
 have q := goes1_calls 3 b2 [98] 4 _ _ (blk_alloc J27.out (.cells #[.int .i64 3, .slice (some ⟨b2, 0, none⟩) 1 1, sv [98], .bool false, .int .u32 0, .bool false] 93))
 dsimp only at q
 rw [wake_words.2, show decide (((4194415, 0) : Int × Int).2 = 0) = true from rfl] at q
 refine q.mono ?_
 clear q; rintro e w28 ⟨rfl, hI, hO⟩
 have nI : b1 ∉ [b2] := by
  intro h
  exact blk_ne I27.out J27.out (by intro c; injection c with c; simp at c) (List.mem_singleton.1 h)
 have nM : w.heap.size ∉ [b2] := by
  intro h
  exact map_cells_ne M27.out J27.out (by rw [List.mem_singleton.1 h])
 have nT : w27.heap.size ∉ [b2] := by
  intro h
  have h1 := blk_lt J27.out
  have h2 := List.mem_singleton.1 h
  omega
 have J28 : Aside0 (InsB w28 b2 (3, 0, 0, 0, 4, 0, false, false)) := ⟨hI⟩
 have T28 := Aside0.mk (hO.keep (heap_alloc_new w27 _) nT)
 have B28 := Aside0.mk (Below.trans (below_alloc B27.out _) (hO.below (n := w.heap.size) (by intro b h; rw [List.mem_singleton.1 h]; exact Q2.out) (below_alloc B27.out _).size))
 have W28 := Aside0.mk (owns_keepS (owns_alloc W27.out _) hO (by
  intro k hk h
  have h2 := List.mem_singleton.1 h
  subst h2; exact own_ne W27.out J27.out (by decide) hk.symm))
 clear hI hO nI nM nT M27 B27 I27 J27 G27 W27 ct0 ct1 ct2 ct3 ct4 ct5; have ct0 := blk_cell T28.out 0; have ct1 := blk_cell T28.out 1; have ct2 := blk_cell T28.out 2; have ct3 := blk_cell T28.out 3; have ct4 := blk_cell T28.out 4; have ct5 := blk_cell T28.out 5
 simp at ct0 ct1 ct2 ct3 ct4 ct5
 go_wp2_with (fail)
 have q := put1_calls 3 b2 [98] _ w28 J28.out
 rw [wake_words.2] at q
 refine q.mono ?_
 clear q; rintro e w29 ⟨v5, rfl, hown, hb⟩
 obtain ⟨g5, cap5, cur5, rfl, -, -, -, hh5, hc5⟩ := rows_open hown (by decide)
 have N29 := Aside0.mk hh5
 have V29 := Aside0.mk (hc5 0 (by decide))
 have T29 := Aside0.mk (blk_below T28.out hb)
 have B29 := Aside0.mk (below_step B28.out hb)
 have W29 := Aside0.mk (owns_below W28.out hb)
 clear hown hb hh5 hc5 J28 T28 B28 W28 ct0 ct1 ct2 ct3 ct4 ct5; go_wp2_with ((with_reducible refine gate_builtin (b := .append) (xs := #[.tmp 132, .tmp 134]) rfl ?_); at_builtin; refine Aside0.out ?_)
 refine ⟨?_⟩
 refine app_one_own (w0 := w) w.heap.size rfl (.tmp 132) (.tmp 134) rfl v4 1 _ rfl W29.out g5 cap5 cur5 _ rfl N29.out V29.out rfl B29.out B29.out.size (by decide) ?_
 intro v6 w30 hown hb3 hg
 have T30 := Aside0.mk ((hg.block _ (blk_lt T29.out) (own_ne W29.out T29.out (by decide))).trans T29.out)
 have B30 := Aside0.mk hb3
 have W30 := Aside0.mk hown
 clear hown hb3 hg T29 B29 N29 V29 W29; have ct0 := blk_cell T30.out 0; have ct1 := blk_cell T30.out 1; have ct2 := blk_cell T30.out 2; have ct3 := blk_cell T30.out 3; have ct4 := blk_cell T30.out 4; have ct5 := blk_cell T30.out 5
 simp at ct0 ct1 ct2 ct3 ct4 ct5
 go_wp2_with (fail)
 refine (words1_calls 3 b2 [98] _).mono ?_
 rintro e w31 ⟨rfl, hb⟩
 have B31 := Aside0.mk (below_step B30.out hb)
 have W31 := Aside0.mk (owns_below W30.out hb)
 clear hb T30 B30 W30 ct0 ct1 ct2 ct3 ct4 ct5; go_wp2_with (fail)
 rw [rounds_succ]
 go_wp2_with (fail)
 go_ret3
 exact ⟨_, rfl, W31.out, B31.out⟩
end Go.Proofs.YtknkfimpflodeaaGreatDoor.P
