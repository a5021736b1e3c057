/- Rows, relations, stores. No condition. -/
import Derived.Test.YthlbadfickhkfaaebG3
import Derived.Test.YthlbadfickhkfaaebG8
import Derived.Test.YthlbadfickhkfaakBwteb
import Derived.Test.YthlbadfickhkfaakMx1eb
namespace Go.Aw
open Go.Proofs
attribute [local irreducible] aft blk lpK retK AW A0m
set_option linter.unusedVariables false
set_option linter.unusedSimpArgs false
set_option maxRecDepth 100000
theorem v7 {α : Type} {l : List α} {i : Nat} (d : α) (h : i < l.length) : l.drop i = l.getD i d :: l.drop (i + 1) := by
 rw [s6 d h]; exact List.drop_eq_getElem_cons h
def t7 (r : d3) : Bool := decide ((r.V.length : Int) ≤ 6) && r.V.all l9
def a5o : List c7 → List c7 → Int
 | [], [] => 0
 | [], _ :: _ => -1
 | _ :: _, [] => 1
 | x :: a, y :: b => bif a4K x y then -1 else bif a4K y x then 1 else a5o a b
def a1f (a b : d3) : Int := bif t7 a && t7 b then a5o a.V b.V else 2
theorem a3J {α : Type} {l : List α} {i : Nat} (h : l.length ≤ i) : l.drop i = [] := List.drop_eq_nil_of_le h
theorem b2y {a b : List c7} {i : Nat} (hi : i ≤ a.length) (hj : i ≤ b.length) (h : ¬ (i < a.length ∧ i < b.length)) : a5o (a.drop i) (b.drop i) = if a.length < b.length then -1 else if b.length < a.length then 1 else 0 := by
 by_cases h1 : a.length < b.length
 ·rw [if_pos h1, a3J (show a.length ≤ i by omega), v7 (l := b) default (by omega)]; rfl
 ·rw [if_neg h1]
  by_cases h2 : b.length < a.length
  ·rw [if_pos h2, a3J (show b.length ≤ i by omega), v7 (l := a) default (by omega)]; rfl
  ·rw [if_neg h2, a3J (show a.length ≤ i by omega), a3J (show b.length ≤ i by omega)]; rfl
def a1D : ACode := q' ([o' 2 (.box 2 (.t 0)), o' 3 (.box 2 (.t 1)), b' 4 false]) (.seq (q' ([f' 5 1 2, l' 6 5, o' 7 (.bin .eql (.t 6) (.k (.v false [.c (.s [])]))), m' 8 7, ⟨some
 9, .fa 1 (.t 3), some (8, true)⟩, ⟨some 10, .ld false 1 (.t 9), some (8, true)⟩, ⟨some 11, .bin .eql (.t 10) (.k (.v false [.c (.s [])])), some (8, true)⟩, o'
 12 (.pick (.t 8) (.t 11) (.k (.v false [.c (.b false)])))]) (.cond (.t 12) (q' ([f' 13 0 2, l' 14 13, f' 15 0 3, l' 16 15, r' 17 14 16, m' 4 17]) .ret)
 .skip)) (q' ([f' 18 1 2, l' 19 18, f' 20 1 3, l' 21 20, r' 22 19 21, m' 4 22]) .ret))
theorem a5c : cmp Try.prog Try.f75 = some a1D := by kernel_rfl
theorem a6u (a : c7) (b : c7) : A0m Try.prog 75 [(true, [.i .i64 a.N, .s a.S]), (true, [.i .i64 b.N, .s b.S])] [] (.one (false, [.b (a4K a b)])) := by
 refine spec_of2 false false none Try.func75 a5c (rvs := [.t 4]) (hΓ := mkCtx_ok (deep := false) (l := []) trivial) (h := ?_)
 intro hb hE
 simp only [go_sem] at hb
 simp only [a1D, x']
 (try refine A2Z ?_); simp only [go_sem]; (repeat' first | apply CJ.mk | intro hc); all_goals try ((repeat' first | apply And.intro | intro hs) <;> (try simp only [go_sem, Bool.and_eq_false_iff] at hs) <;> omega)
 ·rw [a4K, hc.1, hc.2]; rfl
 ·rw [a4K, hc]; rfl
noncomputable def a0u : CT := p8 (fun (x : c7 × c7) => a6u x.1 x.2)
@[go_sem] theorem a9Y (x0 : Int) (x1 : List UInt8) (x2 : Int) (x3 : List UInt8) : a0u [(true, [.i .i64 x0, .s x1]), (true, [.i .i64 x2, .s x3])] = some (True, [], .one (false, [.b (a4K (c7.mk x0 x1) (c7.mk x2 x3))])) := i9 _ (by rintro ⟨⟨_, _⟩, ⟨_, _⟩⟩ ⟨⟨_, _⟩, ⟨_, _⟩⟩ h; simp at h; simp_all) ((c7.mk x0 x1), (c7.mk x2 x3))
theorem a3I : OkC Try.prog 75 a0u := j3 _
def a0W : ACode := q' ([o' 2 (.box 1 (.t 0)), o' 3 (.box 1 (.t 1)), z' 4 0]) (.seq (q' ([z' 5 0]) (.block 0 (.loop (.seq (q' ([m' 6 5, f' 7 0 2, l' 8 7, n' 9 8, r' 10 6 9, m' 11
 10, ⟨some 12, .mov (.t 5), some (11, true)⟩, ⟨some 13, .fa 0 (.t 3), some (11, true)⟩, ⟨some 14, .ld false 1 (.t 13), some (11, true)⟩, ⟨some 15, .len (.t
 14), some (11, true)⟩, ⟨some 16, .bin .lss (.t 12) (.t 15), some (11, true)⟩, o' 17 (.pick (.t 11) (.t 16) (.k (.v false [.c (.b false)])))]) (.cond (.t 17)
 .skip (.exit 0))) (.seq (.block 1 (.seq (.seq (.reg true [f' 20 0 2, l' 21 20, m' 22 5, i' 23 2 21 22, e' 24 2 23, f' 25 0 3, l' 26 25, m' 27 5, i' 28 2 26
 27, e' 29 2 28, c' 30 75 [24, 29]]) (.cond (.t 30) (q' ([o' 4 (.mov (.k (.v false [.c (.i .i64 (-1))])))]) .ret) .skip)) (.seq (.reg true [f' 31 0 3, l' 32
 31, m' 33 5, i' 34 2 32 33, e' 35 2 34, f' 36 0 2, l' 37 36, m' 38 5, i' 39 2 37 38, e' 40 2 39, c' 41 75 [35, 40]]) (.cond (.t 41) (q' ([z' 4 1]) .ret)
 .skip)))) (g' [m' 18 5, a' 19 18, m' 5 19])))))) (.seq (q' ([f' 42 0 2, l' 43 42, n' 44 43, f' 45 0 3, l' 46 45, n' 47 46, r' 48 44 47]) (.cond (.t 48) (q'
 ([o' 4 (.mov (.k (.v false [.c (.i .i64 (-1))])))]) .ret) .skip)) (.seq (q' ([f' 49 0 2, l' 50 49, n' 51 50, f' 52 0 3, l' 53 52, n' 54 53, o' 55 (.bin .gtr
 (.t 51) (.t 54))]) (.cond (.t 55) (q' ([z' 4 1]) .ret) .skip)) (q' ([z' 4 0]) .ret))))
theorem a4s : cmp Try.prog Try.f43 = some a0W := by kernel_rfl
theorem a5j (a : d3) (b : d3) : A0m Try.prog 43 [(true, [.sl false [.i .i64 0, .s []] (a.V.map c7.cells)]), (true, [.sl false [.i .i64 0, .s []] (b.V.map c7.cells)])] [] (.one (false, [.i .i64 (a5o a.V b.V)])) := by
 refine spec_of2 false false none Try.func43 a4s (rvs := [.t 4]) (hΓ := mkCtx_ok (deep := false) (l := [(75, [], a0u)]) ⟨a3I, trivial⟩) (h := ?_)
 intro hb hE
 simp only [go_sem] at hb
 simp only [a0W, x']
 (try refine A2Z ?_); simp only [go_sem]; (repeat' first | apply CJ.mk | intro hc); all_goals try ((repeat' first | apply And.intro | intro hs) <;> (try simp only [go_sem, Bool.and_eq_false_iff] at hs) <;> omega)
 refine aw_loop2 false [] [2, 3] [4, 6] [] (fun i : {i : Nat // i ≤ a.V.length ∧ i ≤ b.V.length ∧ a5o (a.V.drop i) (b.V.drop i) = a5o a.V b.V} => [(5, slV (.i .i64 i.1))]) (fun i => []) (fun i => []) (fun i => a.V.length - i.1) (⟨0, by simp⟩) _ rfl ?_ ?_
 ·simp only [go_sem]
  all_goals first | omega | ((repeat' apply And.intro) <;> first | omega | rfl | skip)
 intro S0 hS0 i
 simp only [go_sem] at hS0
 obtain ⟨i, hi, hj, he⟩ := i
 (try refine A2Z ?_); simp only [go_sem, hS0]; (repeat' first | apply CJ.mk | intro hc); all_goals try ((repeat' first | apply And.intro | intro hs) <;> (try simp only [go_sem, Bool.and_eq_false_iff] at hs) <;> omega)
 ·rw [← he, v7 (l := a.V) default (by omega), v7 (l := b.V) default (by omega), a5o, hc]; rfl
 ·rename_i h1
  rw [← he, v7 (l := a.V) default (by omega), v7 (l := b.V) default (by omega), a5o, h1, hc]; rfl
 ·rename_i h1
  have h2 := he
  rw [v7 (l := a.V) default (by omega), v7 (l := b.V) default (by omega), a5o, h1, hc] at h2
  (refine lpK_n2 (⟨i + 1, by omega, by omega, h2⟩) _ rfl ?_; simp only [go_sem, hS0]; first | done | ((repeat' apply And.intro) <;> first | omega | (refine w64 ?_ ?_ ?_ <;> omega) | rfl | skip))
 all_goals have q : (decide ((i : Int) < a.V.length) && decide ((i : Int) < b.V.length)) = false := by assumption
 all_goals rw [Bool.and_eq_false_iff, decide_eq_false_iff_not, decide_eq_false_iff_not] at q
 all_goals rw [← he, b2y hi hj (by omega)]
 ·rw [if_pos (by omega)]
 ·rw [if_neg (by omega), if_pos (by omega)]
 ·rw [if_neg (by omega), if_neg (by omega)]
noncomputable def z8 : CT := p8 (fun (x : d3 × d3) => a5j x.1 x.2)
@[go_sem] theorem a9w (x0 x1 : List c7) : z8 [(true, [.sl false [.i .i64 0, .s []] (x0.map c7.cells)]), (true, [.sl false [.i .i64 0, .s []] (x1.map c7.cells)])] = some (True, [], .one (false, [.i .i64 (a5o (d3.mk x0).V (d3.mk x1).V)])) := i9 _ (by rintro ⟨⟨_⟩, ⟨_⟩⟩ ⟨⟨_⟩, ⟨_⟩⟩ h; simp at h; simp_all) ((d3.mk x0), (d3.mk x1))
theorem a3j : OkC Try.prog 43 z8 := j3 _
def a2U : ACode := q' ([o' 1 (.box 1 (.t 0)), b' 2 false]) (.seq (q' ([f' 5 0 1, l' 6 5, n' 7 6, o' 8 (.bin .gtr (.t 7) (k' 6))]) (.cond (.t 8) (q' ([b' 2 false]) .ret) .skip))
 (.seq (q' ([f' 9 0 1, l' 10 9, n' 11 10, z' 12 0]) (.block 0 (.loop (q' ([r' 13 12 11]) (.seq (.cond (.t 13) .skip (.exit 0)) (.seq (.block 1 (q' ([i' 14 2 10
 12, e' 15 2 14, w' 4 [.i .i64, .s], s' 2 4 15]) (q' ([e' 16 2 4, c' 17 73 [16], o' 18 (.not (.t 17))]) (.cond (.t 18) (q' ([b' 2 false]) .ret) .skip)))) (g'
 [a' 19 12, m' 12 19]))))))) (q' ([b' 2 true]) .ret)))
theorem a6R : cmp Try.prog Try.f38 = some a2U := by kernel_rfl
theorem a7Z (r : d3) : A0m Try.prog 38 [(true, [.sl false [.i .i64 0, .s []] (r.V.map c7.cells)])] [] (.one (false, [.b (t7 r)])) := by
 refine spec_of2 false false none Try.func38 a6R (rvs := [.t 2]) (hΓ := mkCtx_ok (deep := false) (l := [(73, [], t6)]) ⟨w5, trivial⟩) (h := ?_)
 intro hb hE
 simp only [go_sem] at hb
 simp only [a2U, x']
 (try refine A2Z ?_); simp only [go_sem]; (repeat' first | apply CJ.mk | intro hc); all_goals try ((repeat' first | apply And.intro | intro hs) <;> (try simp only [go_sem, Bool.and_eq_false_iff] at hs) <;> omega)
 ·rw [t7, decide_eq_false (by omega)]; rfl
 have h6 : ((r.V.length : Int)) ≤ 6 := by omega
 refine aw_loop2 false [] [10, 11] [] [] (fun i : {i : Nat // i ≤ r.V.length ∧ (r.V.take i).all l9 = true} => [(12, slV (.i .i64 i.1))]) (fun i => []) (fun i => []) (fun i => r.V.length - i.1) (⟨0, by simp⟩) _ rfl ?_ ?_
 ·simp only [go_sem]
  all_goals first | omega | ((repeat' apply And.intro) <;> first | omega | rfl | skip)
 intro S0 hS0 i
 simp only [go_sem] at hS0
 obtain ⟨i, hi, ha⟩ := i
 (try refine A2Z ?_); simp only [go_sem, hS0]; (repeat' first | apply CJ.mk | intro hc); all_goals try ((repeat' first | apply And.intro | intro hs) <;> (try simp only [go_sem, Bool.and_eq_false_iff] at hs) <;> omega)
 ·rw [t7, all_false (d := default) (i := i) (by omega) hc, Bool.and_false]
 ·(refine lpK_n2 (⟨i + 1, by omega, b1S default (by omega) ha hc⟩) _ rfl ?_; simp only [go_sem, hS0]; first | done | ((repeat' apply And.intro) <;> first | omega | (refine w64 ?_ ?_ ?_ <;> omega) | rfl | skip))
 ·rw [a1i (by omega)] at ha
  rw [t7, ha, decide_eq_true h6]; rfl
noncomputable def a0h : CT := p8 (fun (x : d3) => a7Z x)
@[go_sem] theorem b1y (x0 : List c7) : a0h [(true, [.sl false [.i .i64 0, .s []] (x0.map c7.cells)])] = some (True, [], .one (false, [.b (t7 (d3.mk x0))])) := i9 _ (by rintro ⟨_⟩ ⟨_⟩ h; simp at h; simp_all) (d3.mk x0)
theorem a1H : OkC Try.prog 38 a0h := j3 _
def a1s : ACode := q' ([o' 1 (.box 2 (.t 0)), b' 2 false]) (q' ([e' 3 2 1, c' 4 45 [3], o' 5 (.not (.t 4)), m' 2 5]) .ret)
theorem a4R : cmp Try.prog Try.f67 = some a1s := by kernel_rfl
theorem a6j (v : c7) : A0m Try.prog 67 [(true, [.i .i64 v.N, .s v.S])] [] (.one (false, [.b (!l9 v)])) := by
 refine spec_of2 false false none Try.func67 a4R (rvs := [.t 2]) (hΓ := mkCtx_ok (deep := false) (l := [(45, [], t5)]) ⟨v9, trivial⟩) (h := ?_)
 intro hb hE
 simp only [go_sem] at hb
 simp only [a1s, x']
 (try refine A2Z ?_); simp only [go_sem]; (repeat' first | apply CJ.mk | intro hc); all_goals try ((repeat' first | apply And.intro | intro hs) <;> (try simp only [go_sem, Bool.and_eq_false_iff] at hs) <;> omega)
noncomputable def a0m : CT := p8 (fun (x : c7) => a6j x)
@[go_sem] theorem a9N (x0 : Int) (x1 : List UInt8) : a0m [(true, [.i .i64 x0, .s x1])] = some (True, [], .one (false, [.b (!l9 (c7.mk x0 x1))])) := i9 _ (by rintro ⟨_, _⟩ ⟨_, _⟩ h; simp at h; simp_all) (c7.mk x0 x1)
theorem a3B : OkC Try.prog 67 a0m := j3 _
def a7k : ACode := q' ([z' 4 0]) (.seq (q' ([m' 6 0, n' 7 6, z' 8 0]) (.block 0 (.loop (q' ([r' 9 8 7]) (.seq (.cond (.t 9) .skip (.exit 0)) (.seq (.block 1 (q' ([m' 10 8, m' 5
 10]) (q' ([m' 11 1, m' 12 0, m' 13 5, i' 14 2 12 13, e' 15 2 14, o' 16 (.callv (.t 11) [.t 15])]) (.cond (.t 16) (q' ([m' 17 5, m' 4 17]) .ret) .skip)))) (g'
 [a' 18 8, m' 8 18]))))))) (q' ([o' 4 (.mov (.k (.v false [.c (.i .i64 (-1))])))]) .ret))
theorem b1d : cmp Try.prog Try.f92 = some a7k := by kernel_rfl
theorem a9G (l : List c7) : A0m Try.prog 92 [(false, [.sl false [.i .i64 0, .s []] (l.map c7.cells)]), (false, [.f 67 []])] [] (.one (false, [.i .i64 (a3N (fun y => !l9 y) l)])) := by
 refine spec_of2 false false none Try.func92 b1d (rvs := [.t 4]) (hΓ := mkCtx_ok (deep := false) (l := [(67, [], a0m)]) ⟨a3B, trivial⟩) (h := ?_)
 intro hb hE
 simp only [go_sem] at hb
 simp only [a7k, x']
 (try refine A2Z ?_); simp only [go_sem]; (repeat' first | apply CJ.mk | intro hc); all_goals try ((repeat' first | apply And.intro | intro hs) <;> (try simp only [go_sem, Bool.and_eq_false_iff] at hs) <;> omega)
 refine aw_loop2 false [] [0, 1, 7] [] [] (fun i : {i : Nat // i ≤ l.length ∧ (l.take i).any (fun y => !l9 y) = false} => [(8, slV (.i .i64 i.1))]) (fun i => []) (fun i => []) (fun i => l.length - i.1) (⟨0, by simp⟩) _ rfl ?_ ?_
 ·simp only [go_sem]
  all_goals first | omega | ((repeat' apply And.intro) <;> first | omega | rfl | skip)
 intro S0 hS0 i
 simp only [go_sem] at hS0
 obtain ⟨i, hi, ha⟩ := i
 (try refine A2Z ?_); simp only [go_sem, hS0]; (repeat' first | apply CJ.mk | intro hc); all_goals try ((repeat' first | apply And.intro | intro hs) <;> (try simp only [go_sem, Bool.and_eq_false_iff] at hs) <;> omega)
 ·exact (a2z (p := fun y => !l9 y) (d := default) (by omega) ha (by simpa [-List.getD_eq_getElem?_getD] using hc)).symm
 ·(refine lpK_n2 (⟨i + 1, by omega, a5y (p := fun y => !l9 y) default (by omega) ha (by simpa [-List.getD_eq_getElem?_getD] using hc)⟩) _ rfl ?_; simp only [go_sem, hS0]; first | done | ((repeat' apply And.intro) <;> first | omega | (refine w64 ?_ ?_ ?_ <;> omega) | rfl | skip))
 ·exact (a1d (by rwa [a1i (by omega)] at ha)).symm
 all_goals trace_state
noncomputable def a3e : CT := p8 (fun (x : (List c7)) => a9G x)
@[go_sem] theorem b2K (l : List c7) : a3e [(false, [.sl false [.i .i64 0, .s []] (l.map c7.cells)]), (false, [.f 67 []])] = some (True, [], .one (false, [.i .i64 (a3N (fun y => !l9 y) l)])) := i9 _ (by intro x y h; simp at h; simp_all) l
theorem a6G : OkC Try.prog 92 a3e := j3 _
def a7j : ACode := q' ([b' 4 false]) (q' ([m' 5 0, m' 6 1, c' 7 92 [5, 6], o' 8 (.bin .geq (.t 7) (k' 0)), m' 4 8]) .ret)
theorem b1c : cmp Try.prog Try.f66 = some a7j := by kernel_rfl
theorem a9F (l : List c7) : A0m Try.prog 66 [(false, [.sl false [.i .i64 0, .s []] (l.map c7.cells)]), (false, [.f 67 []])] [] (.one (false, [.b (l.any (fun y => !l9 y))])) := by
 refine spec_of2 false false none Try.func66 b1c (rvs := [.t 4]) (hΓ := mkCtx_ok (deep := false) (l := [(92, [], a3e)]) ⟨a6G, trivial⟩) (h := ?_)
 intro hb hE
 simp only [go_sem] at hb
 simp only [a7j, x']
 (try refine A2Z ?_); simp only [go_sem]; (repeat' first | apply CJ.mk | intro hc); all_goals try ((repeat' first | apply And.intro | intro hs) <;> (try simp only [go_sem, Bool.and_eq_false_iff] at hs) <;> omega)
 ·exact a8A _ _
noncomputable def a3d : CT := p8 (fun (x : (List c7)) => a9F x)
@[go_sem] theorem b2J (l : List c7) : a3d [(false, [.sl false [.i .i64 0, .s []] (l.map c7.cells)]), (false, [.f 67 []])] = some (True, [], .one (false, [.b (l.any (fun y => !l9 y))])) := i9 _ (by intro x y h; simp at h; simp_all) l
theorem a6F : OkC Try.prog 66 a3d := j3 _
def a2P : ACode := q' ([o' 1 (.box 1 (.t 0)), b' 2 false]) (q' ([f' 3 0 1, l' 4 3, n' 5 4, o' 6 (.bin .leq (.t 5) (k' 6)), m' 7 6, ⟨some 8, .fa 0 (.t 1), some (7, true)⟩, ⟨some 9,
 .ld false 1 (.t 8), some (7, true)⟩, ⟨some 10, .call 66 [.t 9, .k (.v false [.c (.f 67 [])])], some (7, true)⟩, ⟨some 11, .not (.t 10), some (7, true)⟩, o' 12
 (.pick (.t 7) (.t 11) (.k (.v false [.c (.b false)]))), m' 2 12]) .ret)
theorem a6M : cmp Try.prog Try.f31 = some a2P := by kernel_rfl
theorem a7U (r : d3) : A0m Try.prog 31 [(true, [.sl false [.i .i64 0, .s []] (r.V.map c7.cells)])] [] (.one (false, [.b (t7 r)])) := by
 refine spec_of2 false false none Try.func31 a6M (rvs := [.t 2]) (hΓ := mkCtx_ok (deep := false) (l := [(66, [], a3d)]) ⟨a6F, trivial⟩) (h := ?_)
 intro hb hE
 simp only [go_sem] at hb
 simp only [a2P, x']
 (try refine A2Z ?_); simp only [go_sem]; (repeat' first | apply CJ.mk | intro hc); all_goals try ((repeat' first | apply And.intro | intro hs) <;> (try simp only [go_sem, Bool.and_eq_false_iff] at hs) <;> omega)
 all_goals rw [any_not, Bool.not_not, t7]
noncomputable def a1m : CT := p8 (fun (x : d3) => a7U x)
@[go_sem] theorem b1s (x0 : List c7) : a1m [(true, [.sl false [.i .i64 0, .s []] (x0.map c7.cells)])] = some (True, [], .one (false, [.b (t7 (d3.mk x0))])) := i9 _ (by rintro ⟨_⟩ ⟨_⟩ h; simp at h; simp_all) (d3.mk x0)
theorem a4N : OkC Try.prog 31 a1m := j3 _
def a0U : ACode := q' ([o' 2 (.box 1 (.t 0)), o' 3 (.box 1 (.t 1)), z' 4 0]) (.seq (q' ([e' 5 1 2, c' 6 38 [5], o' 7 (.not (.t 6)), m' 8 7, ⟨some 9, .ld true 1 (.t 3), some (8,
 false)⟩, ⟨some 10, .call 38 [.t 9], some (8, false)⟩, ⟨some 11, .not (.t 10), some (8, false)⟩, o' 12 (.pick (.t 8) (.k (.v false [.c (.b true)])) (.t 11))])
 (.cond (.t 12) (q' ([z' 4 2]) .ret) .skip)) (q' ([e' 13 1 2, e' 14 1 3, c' 15 43 [13, 14], m' 4 15]) .ret))
theorem a4q : cmp Try.prog Try.f9 = some a0U := by kernel_rfl
theorem a5h (a : d3) (b : d3) : A0m Try.prog 9 [(true, [.sl false [.i .i64 0, .s []] (a.V.map c7.cells)]), (true, [.sl false [.i .i64 0, .s []] (b.V.map c7.cells)])] [] (.one (false, [.i .i64 (a1f a b)])) := by
 refine spec_of2 false false none Try.func9 a4q (rvs := [.t 4]) (hΓ := mkCtx_ok (deep := false) (l := [(38, [], a0h), (43, [], z8)]) ⟨a1H, a3j, trivial⟩) (h := ?_)
 intro hb hE
 simp only [go_sem] at hb
 simp only [a0U, x']
 (try refine A2Z ?_); simp only [go_sem]; (repeat' first | apply CJ.mk | intro hc); all_goals try ((repeat' first | apply And.intro | intro hs) <;> (try simp only [go_sem, Bool.and_eq_false_iff] at hs) <;> omega)
 ·rcases hc with h | h <;> simp [a1f, h]
 ·rw [a1f, hc.1, hc.2]; rfl
noncomputable def z7 : CT := p8 (fun (x : d3 × d3) => a5h x.1 x.2)
@[go_sem] theorem a9u (x0 x1 : List c7) : z7 [(true, [.sl false [.i .i64 0, .s []] (x0.map c7.cells)]), (true, [.sl false [.i .i64 0, .s []] (x1.map c7.cells)])] = some (True, [], .one (false, [.i .i64 (a1f (d3.mk x0) (d3.mk x1))])) := i9 _ (by rintro ⟨⟨_⟩, ⟨_⟩⟩ ⟨⟨_⟩, ⟨_⟩⟩ h; simp at h; simp_all) ((d3.mk x0), (d3.mk x1))
theorem a3i : OkC Try.prog 9 z7 := j3 _
end Go.Aw
