/- The bodies of a rule. No condition. -/
import Derived.Test.YthlbadfickhkfaaGreatzhT38
import Derived.Test.YthlbadfickhkfaaGreatzhT8
namespace Go.Aw
open Go.Proofs
attribute [local irreducible] aft blk lpK retK AW A0m
set_option linter.unusedVariables false
set_option linter.unusedSimpArgs false
set_option maxRecDepth 100000
set_option maxHeartbeats 4000000
attribute [local irreducible] RM
theorem b2O {r : d3} {s : d7} (hr : i6 r = true) (hs : l9 s = true) : (l7 r s).1.length ≤ 2000 ∧ ∀ e ∈ (l7 r s).1, e.Binds.length ≤ 164 := by
 obtain ⟨hl, hf, _⟩ := a9N hr hs
 rw [l7]
 cases (y4 r s).2 with
 | false => exact ⟨Nat.zero_le _, by intro e he; cases he⟩
 | true =>
   rw [cond_true]
   refine ⟨?_, fun e he => ?_⟩
   ·have h1 := b2D (a5s r s (y4 r s).1) []
    have h2 := b0W r s (y4 r s).1
    simp only [List.length_nil] at h1
    simp only
    omega
   ·have h1 := (t7.1 he).resolve_left (by intro h; cases h)
    rw [a5s, List.mem_filter, List.mem_map] at h1
    obtain ⟨⟨e', he', rfl⟩, _⟩ := h1
    have h3 := (hf e' he').1
    have h4 := eqR_len r e'.Binds
    have h5 := a2N hr
    simp only [eqE]
    omega
noncomputable def a2P (r : d3) (s : d7) : List c8 × Bool := bif i6 r && (!decide (0 < ((a0N r).length : Int)) && l9 s) then l7 r s else ([], false)
theorem b8N (r : d3) (s : d7) : (a2P r s).1.length ≤ 2000 ∧ ∀ e ∈ (a2P r s).1, e.Binds.length ≤ 164 := by
 unfold a2P
 cases h : i6 r && (!decide (0 < ((a0N r).length : Int)) && l9 s) with
 | false => exact ⟨Nat.zero_le _, by intro e he; cases he⟩
 | true =>
   simp only [Bool.and_eq_true] at h
   exact b2O h.1 h.2.2
theorem c0M {r : d3} {s : d7} (h : (i6 r = false ∨ 0 < ((a0N r).length : Int)) ∨ l9 s = false) : a2P r s = ([], false) := by
 have : (i6 r && (!decide (0 < ((a0N r).length : Int)) && l9 s)) = false := by
  rcases h with (h | h) | h
  ·rw [h]; rfl
  ·rw [decide_eq_true h]; simp
  ·rw [h]; simp
 rw [a2P, this, cond_false]
theorem b1f {r : d3} {s : d7} (h : (i6 r = true ∧ ¬0 < ((a0N r).length : Int)) ∧ l9 s = true) : a2P r s = l7 r s := by
 rw [a2P, h.1.1, h.2, decide_eq_false h.1.2]; rfl
theorem c0L {r : d3} {s : d7} (h : (l7 r s).2 = false) : (l7 r s).1 = [] := by
 unfold l7 at *
 cases hj : (y4 r s).2 with
 | false => rfl
 | true => rw [hj] at h; cases h
def a7t : ACode := q' ([o' 2 (.box 4 (.t 0)), o' 3 (.box 1 (.t 1)), o' 4 (.mov (.k (.v false [.nl [.sl false [.s [], .i .i64 0, .s []] []]]))), b' 5 false]) (.seq (q' ([e' 6 4 2,
 c' 7 112 [6], o' 8 (.not (.t 7)), m' 9 8, ⟨some 10, .ld true 4 (.t 2), some (9, false)⟩, ⟨some 11, .call 113 [.t 10], some (9, false)⟩, ⟨some 12, .len (.t
 11), some (9, false)⟩, ⟨some 13, .bin .gtr (.t 12) (k' 0), some (9, false)⟩, o' 14 (.pick (.t 9) (.k (.v false [.c (.b true)])) (.t 13)), m' 15 14, ⟨some 16,
 .ld true 1 (.t 3), some (15, false)⟩, ⟨some 17, .call 105 [.t 16], some (15, false)⟩, ⟨some 18, .not (.t 17), some (15, false)⟩, o' 19 (.pick (.t 15) (.k (.v
 false [.c (.b true)])) (.t 18))]) (.cond (.t 19) (q' ([o' 4 (.mov (.k (.v false [.nl [.sl false [.s [], .i .i64 0, .s []] []]]))), b' 5 false]) .ret) .skip))
 (q' ([e' 20 4 2, e' 21 1 3, c' 22 114 [20, 21], o' 23 (.ext (.t 22) 0), o' 24 (.ext (.t 22) 1), m' 4 23, m' 5 24]) .ret))
theorem b5Q : cmp Tryz.prog Tryz.f47 = some a7t := by kernel_rfl
theorem b8s (r : d3) (s : d7) : A0m Tryz.prog 47 [(true, [.i .i64 r.Kind, .s r.Head.Name, .sl false [.s [], .i .i64 0, .s []] (r.Head.Args.map c4.cells), .sl false [.i .i64 0, .s [], .sl false [.s [], .i .i64 0, .s []] [], .i .i64 0, .s [], .i .i64 0, .s [], .s [], .i .i64 0, .s []] (r.Body.map (d4.cells false false))]), (true, [.sl false [.s [], .i .i64 0, .sl false [.sl false [.i .i64 0, .s []] []] []] (s.Rels.map (d6.cells false false))])] [] (.tup [(false, [.sl false [.sl false [.s [], .i .i64 0, .s []] []] (((a2P r s).1).map (c8.cells false false))]), (false, [.b ((a2P r s).2)])]) := by
 refine spec_of2 false true none Tryz.func47 b5Q (rvs := [.t 4, .t 5]) (hΓ := mkCtx_ok (deep := false) (l := [(112, [], w5), (113, [], a1a), (105, [], a3k), (114, [], a1e)]) ⟨a0m, a8r, b0u, a8t, trivial⟩) (h := ?_)
 intro hb hE
 simp only [go_sem] at hb
 simp only [a7t, x']
 (try refine A2Z ?_); simp only [go_sem]; (repeat' first | apply CJ.mk | intro hc); all_goals try ((repeat' first | apply And.intro | intro hs) <;> (try simp only [go_sem, Bool.and_eq_false_iff] at hs) <;> omega)
 ·rw [c0M hc]; exact ⟨rfl, rfl⟩
 ·exact ⟨hc.1.1, hc.2⟩
 ·rw [b1f hc]; exact ⟨rfl, rfl⟩
noncomputable def a4p : CT := j7 (fun (x : d3 × d7) => b8s x.1 x.2)
@[go_sem] theorem c5N (x0 : Int) (x1 : List UInt8) (x2 : List c4) (x3 : List d4) (x4 : List d6) : a4p [(true, [.i .i64 x0, .s x1, .sl false [.s [], .i .i64 0, .s []] (x2.map c4.cells), .sl false [.i .i64 0, .s [], .sl false [.s [], .i .i64 0, .s []] [], .i .i64 0, .s [], .i .i64 0, .s [], .s [], .i .i64 0, .s []] (x3.map (d4.cells false false))]), (true, [.sl false [.s [], .i .i64 0, .sl false [.sl false [.i .i64 0, .s []] []] []] (x4.map (d6.cells false false))])] = some (True, [], .tup [(false, [.sl false [.sl false [.s [], .i .i64 0, .s []] []] (((a2P (d3.mk x0 (d5.mk x1 x2) x3) (d7.mk x4)).1).map (c8.cells false false))]), (false, [.b ((a2P (d3.mk x0 (d5.mk x1 x2) x3) (d7.mk x4)).2)])]) := f7 _ (by rintro ⟨⟨_, ⟨_, _⟩, _⟩, ⟨_⟩⟩ ⟨⟨_, ⟨_, _⟩, _⟩, ⟨_⟩⟩ h; simp at h; simp_all) ((d3.mk x0 (d5.mk x1 x2) x3), (d7.mk x4))
theorem b1A : OkC Tryz.prog 47 a4p := f8 _
def a6R : ACode := q' ([o' 2 (.box 4 (.t 0)), o' 3 (.box 1 (.t 1)), o' 4 (.mov (.k (.v false [.nl [.sl false [.s [], .i .i64 0, .s []] []]]))), b' 5 false]) (.seq (q' ([e' 11 4 2,
 c' 12 117 [11], o' 13 (.not (.t 12)), m' 14 13, ⟨some 15, .ld true 4 (.t 2), some (14, false)⟩, ⟨some 16, .call 118 [.t 15], some (14, false)⟩, ⟨some 17, .len
 (.t 16), some (14, false)⟩, ⟨some 18, .bin .gtr (.t 17) (k' 0), some (14, false)⟩, o' 19 (.pick (.t 14) (.k (.v false [.c (.b true)])) (.t 18)), m' 20 19,
 ⟨some 21, .ld true 1 (.t 3), some (20, false)⟩, ⟨some 22, .call 108 [.t 21], some (20, false)⟩, ⟨some 23, .not (.t 22), some (20, false)⟩, o' 24 (.pick (.t
 20) (.k (.v false [.c (.b true)])) (.t 23))]) (.cond (.t 24) (q' ([o' 4 (.mov (.k (.v false [.nl [.sl false [.s [], .i .i64 0, .s []] []]]))), b' 5 false])
 .ret) .skip)) (q' ([e' 26 4 2, e' 27 1 3, c' 28 119 [26, 27], m' 25 28, o' 29 (.ext (.t 25) 0), o' 30 (.ext (.t 25) 1), m' 6 29, m' 7 30]) (.seq (q' ([m' 31
 7, o' 32 (.not (.t 31))]) (.cond (.t 32) (q' ([o' 4 (.mov (.k (.v false [.nl [.sl false [.s [], .i .i64 0, .s []] []]]))), b' 5 false]) .ret) .skip)) (q' ([o'
 33 (.bsl 1 0 [.sl [.s [], .i .i64 0, .s []]] []), m' 8 33]) (.seq (q' ([m' 34 6, n' 35 34, z' 36 0]) (.block 0 (.loop (q' ([r' 37 36 35]) (.seq (.cond (.t 37)
 .skip (.exit 0)) (.seq (.block 1 (q' ([i' 38 1 34 36, e' 39 1 38, w' 10 [.sl [.s [], .i .i64 0, .s []]], s' 1 10 39]) (g' [m' 40 8, f' 41 0 10, l' 42 41, c'
 43 120 [42], o' 44 (.bld [.sl [.s [], .i .i64 0, .s []]] [(0, 1, .t 43)]), o' 45 (.bsl 1 1 [.sl [.s [], .i .i64 0, .s []]] [(0, .t 44)]), o' 46 (.app 1 24
 [.sl [.s [], .i .i64 0, .s []]] (.t 40) (.t 45)), m' 8 46]))) (g' [a' 47 36, m' 36 47]))))))) (q' ([m' 48 8, m' 4 48, b' 5 true]) .ret))))))
theorem b5o : cmp Tryz.prog Tryz.f49 = some a6R := by kernel_rfl
theorem b7P (r : d3) (s : d7) : A0m Tryz.prog 49 [(true, [.i .i64 r.Kind, .s r.Head.Name, .sl false [.s [], .i .i64 0, .s []] (r.Head.Args.map c4.cells), .sl false [.i .i64 0, .s [], .sl false [.s [], .i .i64 0, .s []] [], .i .i64 0, .s [], .i .i64 0, .s [], .s [], .i .i64 0, .s []] (r.Body.map (d4.cells false false))]), (true, [.sl false [.s [], .i .i64 0, .sl false [.sl false [.i .i64 0, .s []] []] []] (s.Rels.map (d6.cells false false))])] [] (.tup [(false, [.sl true [.sl true [.s [], .i .i64 0, .s []] []] (((a2P r s).1).map (c8.cells true true))]), (false, [.b ((a2P r s).2)])]) := by
 refine spec_of2 true false none Tryz.func49 b5o (rvs := [.t 4, .t 5]) (hΓ := mkCtx_ok (deep := true) (l := [(117, [], a1p), (118, [], a0U), (108, [], a2V), (119, [], a4a), (120, [], a3J)]) ⟨a5e, a8m, b0f, b1j, a7E, trivial⟩) (h := ?_)
 intro hb hE
 simp only [go_sem] at hb
 simp only [a6R, x']
 (try refine A2Z ?_); simp only [go_sem]; (repeat' first | apply CJ.mk | intro hc); all_goals try ((repeat' first | apply And.intro | intro hs) <;> (try simp only [go_sem, Bool.and_eq_false_iff] at hs) <;> omega)
 ·rw [c0M hc]; exact ⟨rfl, rfl⟩
 ·exact ⟨hc.1.1, hc.2⟩
 ·rename_i h1
  rw [b1f h1, hc, c0L hc]; exact ⟨rfl, rfl⟩
 rename_i h1
 obtain ⟨hl, hb⟩ := b2O h1.1.1 h1.2
 refine b4S 3584 ?_
 refine aw_loop2 true [(false, 8, 0, 100016)] [34, 35] [] [] (fun i : {i : Nat // i ≤ (l7 r s).1.length} => [(8, .v false [.ow 100016]), (36, slV (.i .i64 i.1))]) (fun i => []) (fun i => [(100016, [.sl true [.s [], .i .i64 0, .s []] []], ((l7 r s).1.take i.1).map (c8.cells true true))]) (fun i => (l7 r s).1.length - i.1) (⟨0, by simp⟩) _ (by simp only [go_sem]; try rfl) ?_ ?_
 ·simp only [go_sem]
  all_goals first | omega | ((repeat' apply And.intro) <;> first | omega | rfl | skip)
 intro S0 hS0 i
 simp only [go_sem] at hS0
 obtain ⟨i, hi⟩ := i
 have hm := fun (h : i < (l7 r s).1.length) => hb _ (a0M default h)
 have hsn : i < (l7 r s).1.length → (l7 r s).1.take (i + 1) = (l7 r s).1.take i ++ [(l7 r s).1.getD i default] := fun h => i9 default h
 have hol : ((l7 r s).1.take i).length = i := by rw [List.length_take]; omega
 (try refine A2Z ?_); simp only [go_sem, hS0]; (repeat' first | apply CJ.mk | intro hc); all_goals try ((repeat' first | apply And.intro | intro hs) <;> (try simp only [go_sem, Bool.and_eq_false_iff] at hs) <;> omega)
 ·(refine lpK_n2 (⟨i + 1, by omega⟩) _ (by simp only [go_sem]; try rfl) ?_; simp only [go_sem, hS0]; first | done | ((repeat' apply And.intro) <;> first | omega | (refine w64 ?_ ?_ ?_ <;> omega) | rfl | skip))
  all_goals rw [hsn (by omega)]
 ·rw [b1f h1, i8 (by omega)]
  exact ⟨rfl, Eq.symm (by assumption)⟩
 all_goals trace_state
noncomputable def a3Y : CT := j7 (fun (x : d3 × d7) => b7P x.1 x.2)
@[go_sem] theorem c5k (x0 : Int) (x1 : List UInt8) (x2 : List c4) (x3 : List d4) (x4 : List d6) : a3Y [(true, [.i .i64 x0, .s x1, .sl false [.s [], .i .i64 0, .s []] (x2.map c4.cells), .sl false [.i .i64 0, .s [], .sl false [.s [], .i .i64 0, .s []] [], .i .i64 0, .s [], .i .i64 0, .s [], .s [], .i .i64 0, .s []] (x3.map (d4.cells false false))]), (true, [.sl false [.s [], .i .i64 0, .sl false [.sl false [.i .i64 0, .s []] []] []] (x4.map (d6.cells false false))])] = some (True, [], .tup [(false, [.sl true [.sl true [.s [], .i .i64 0, .s []] []] (((a2P (d3.mk x0 (d5.mk x1 x2) x3) (d7.mk x4)).1).map (c8.cells true true))]), (false, [.b ((a2P (d3.mk x0 (d5.mk x1 x2) x3) (d7.mk x4)).2)])]) := f7 _ (by rintro ⟨⟨_, ⟨_, _⟩, _⟩, ⟨_⟩⟩ ⟨⟨_, ⟨_, _⟩, _⟩, ⟨_⟩⟩ h; simp at h; simp_all) ((d3.mk x0 (d5.mk x1 x2) x3), (d7.mk x4))
theorem b1h : OkC Tryz.prog 49 a3Y := f8 _
end Go.Aw
