/- Marked empty states. No condition. -/
import Derived.Test.YthlbadfickhkfaaGreatzfM5
import Derived.Test.YthlbadfickhkfaaGreatzfT17
namespace Go.Aw
open Go.Proofs
attribute [local irreducible] aft blk lpK retK AW A0l
set_option linter.unusedVariables false
set_option linter.unusedSimpArgs false
set_option maxRecDepth 100000
set_option maxHeartbeats 4000000
def a9N (k : Int) : d3 := ⟨a2b k, ⟨k + 1, []⟩⟩
def a0e (n : Nat) (k : Int) : List d3 := (List.range n).map fun i : Nat => a9N (k + 2 * (i : Int))
theorem w7 (n : Nat) (k : Int) : (a0e n k).length = n := by simp [a0e]
theorem a9W (n : Nat) (k : Int) {i : Nat} (h : i < n) : (a0e n k).getD i default = a9N (k + 2 * (i : Int)) := by
 rw [List.getD_eq_getElem?_getD, a0e, List.getElem?_map, List.getElem?_range h]
 rfl
theorem b5G (n : Nat) (k : Int) : ∀ x ∈ a0e n k, x.Rel.Rows = [] := by
 intro x hx
 obtain ⟨i, _, rfl⟩ := List.mem_map.1 hx
 rfl
def a3f : ACode := q' ([z' 4 0]) (.seq (q' ([z' 5 0]) (.block 0 (.loop (.seq (q' ([m' 6 5, m' 7 0, n' 8 7, r' 9 6 8]) (.cond (.t 9) .skip (.exit 0))) (.seq (.block 1 (g' [m' 12 0,
 m' 13 5, i' 14 1 12 13, f' 15 0 14, l' 16 15, m' 17 1, c' 18 211 [16, 17], m' 1 18])) (g' [m' 10 5, a' 11 10, m' 5 11])))))) (q' ([m' 19 1, m' 4 19]) .ret))
theorem a9q : cmp Tryz.prog Tryz.f131 = some a3f := by kernel_rfl
theorem a8z (k : Int) : A0l Tryz.prog 131 [(false, [.sl false [.sl false [.i .i64 0, .s []] []] []]), (false, [.i .i64 k])] [] (.one (false, [.i .i64 k])) := by
 refine spec_of2 true false none Tryz.func131 a9q (rvs := [.t 4]) (hΓ := mkCtx_ok (deep := true) (l := [(211, [0], z8)]) ⟨a5R, trivial⟩) (h := ?_)
 intro hb hE
 simp only [go_sem] at hb
 simp only [a3f, x']
 (try refine A2V ?_); simp only [go_sem]; (repeat' first | apply CJ.mk | intro hc); all_goals try ((repeat' first | apply And.intro | intro hs) <;> (try simp only [go_sem, Bool.and_eq_false_iff] at hs) <;> omega)
 refine aw_loop2 true [] [0] [] [] (fun i : Unit => [(5, slV (.i .i64 0)), (1, slV (.i .i64 k))]) (fun i => []) (fun i => []) (fun i => 0) () _ rfl ?_ ?_
 ·simp only [go_sem]
  all_goals first | omega | ((repeat' apply And.intro) <;> first | omega | rfl | skip)
 intro S0 hS0 i
 simp only [go_sem] at hS0
 (try refine A2V ?_); simp only [go_sem, hS0]; (repeat' first | apply CJ.mk | intro hc); all_goals try ((repeat' first | apply And.intro | intro hs) <;> (try simp only [go_sem, Bool.and_eq_false_iff] at hs) <;> omega)
 all_goals trace_state
noncomputable def z7 : CT := i6 (fun (x : Int) => a8z x)
@[go_sem] theorem b5l (k : Int) : z7 [(false, [.sl false [.sl false [.i .i64 0, .s []] []] []]), (false, [.i .i64 k])] = some (True, [], .one (false, [.i .i64 k])) := f7 _ (by intro x y h; simp at h; simp_all) k
theorem a5Q : OkC Tryz.prog 131 z7 := f8 _
def a3d : ACode := q' ([z' 4 0]) (.seq (q' ([z' 5 0]) (.block 0 (.loop (.seq (q' ([m' 6 5, m' 7 0, n' 8 7, r' 9 6 8]) (.cond (.t 9) .skip (.exit 0))) (.seq (.block 1 (q' ([m' 12
 0, m' 13 5, i' 14 1 12 13, f' 15 0 14, l' 16 15, m' 17 1, c' 18 212 [16, 17], m' 1 18]) (q' ([m' 19 1, o' 20 (.bin .lss (.t 19) (k' 0))]) (.cond (.t 20) (q'
 ([o' 4 (.mov (.k (.v false [.c (.i .i64 (-1))])))]) .ret) .skip)))) (g' [m' 10 5, a' 11 10, m' 5 11])))))) (q' ([m' 21 1, m' 4 21]) .ret))
theorem a9o : cmp Tryz.prog Tryz.f132 = some a3d := by kernel_rfl
theorem a8x (k : Int) : A0l Tryz.prog 132 [(false, [.sl false [.sl false [.i .i64 0, .s []] []] []]), (false, [.i .i64 k])] [] (.one (false, [.i .i64 k])) := by
 refine spec_of2 false false none Tryz.func132 a9o (rvs := [.t 4]) (hΓ := mkCtx_ok (deep := false) (l := [(212, [], z6)]) ⟨a5P, trivial⟩) (h := ?_)
 intro hb hE
 simp only [go_sem] at hb
 simp only [a3d, x']
 (try refine A2V ?_); simp only [go_sem]; (repeat' first | apply CJ.mk | intro hc); all_goals try ((repeat' first | apply And.intro | intro hs) <;> (try simp only [go_sem, Bool.and_eq_false_iff] at hs) <;> omega)
 refine aw_loop2 false [] [0] [] [] (fun i : Unit => [(5, slV (.i .i64 0)), (1, slV (.i .i64 k))]) (fun i => []) (fun i => []) (fun i => 0) () _ rfl ?_ ?_
 ·simp only [go_sem]
  all_goals first | omega | ((repeat' apply And.intro) <;> first | omega | rfl | skip)
 intro S0 hS0 i
 simp only [go_sem] at hS0
 (try refine A2V ?_); simp only [go_sem, hS0]; (repeat' first | apply CJ.mk | intro hc); all_goals try ((repeat' first | apply And.intro | intro hs) <;> (try simp only [go_sem, Bool.and_eq_false_iff] at hs) <;> omega)
 all_goals trace_state
noncomputable def z5 : CT := i6 (fun (x : Int) => a8x x)
@[go_sem] theorem b5j (k : Int) : z5 [(false, [.sl false [.sl false [.i .i64 0, .s []] []] []]), (false, [.i .i64 k])] = some (True, [], .one (false, [.i .i64 k])) := f7 _ (by intro x y h; simp at h; simp_all) k
theorem a5O : OkC Tryz.prog 132 z5 := f8 _
def a1y : ACode := q' ([z' 4 0]) (.seq (q' ([z' 5 0]) (.block 0 (.loop (.seq (q' ([m' 6 5, m' 7 0, n' 8 7, r' 9 6 8]) (.cond (.t 9) .skip (.exit 0))) (.seq (.block 1 (q' ([m' 12
 0, m' 13 5, m' 14 1, c' 15 85 [14], i' 16 3 12 13, f' 17 0 16, s' 1 17 15]) (q' ([m' 18 1, a' 19 18, m' 1 19]) (q' ([m' 20 0, m' 21 5, m' 22 1, i' 23 3 20 21,
 f' 24 1 23, f' 25 0 24, s' 1 25 22]) (q' ([m' 26 1, a' 27 26, m' 1 27]) (g' [m' 28 0, m' 29 5, i' 30 3 28 29, f' 31 1 30, f' 32 1 31, l' 33 32, m' 34 1, c' 35
 131 [33, 34], m' 1 35])))))) (g' [m' 10 5, a' 11 10, m' 5 11])))))) (q' ([m' 36 1, m' 4 36]) .ret))
theorem a7o : cmp Tryz.prog Tryz.f73 = some a1y := by kernel_rfl
theorem a6y (a : List d3) (k : Int) (hpre : (0 ≤ k ∧ k + 2 * (a.length : Nat) ≤ 4611686018427387904) ∧ ∀ x ∈ a, x.Rel.Rows = []) : A0l Tryz.prog 73 [(false, [.sl true [.s [], .i .i64 0, .sl false [.sl false [.i .i64 0, .s []] []] []] (a.map (d3.cells false false))]), (false, [.i .i64 k])] [(0, (false, [.sl true [.s [], .i .i64 0, .sl false [.sl false [.i .i64 0, .s []] []] []] ((a0e a.length k).map (d3.cells false false))]))] (.one (false, [.i .i64 (k + 2 * (a.length : Nat))])) := by
 refine spec_of2 true false (some 0) Tryz.func73 a7o (rvs := [.t 4]) (hΓ := mkCtx_ok (deep := true) (l := [(85, [], k8), (131, [], z7)]) ⟨j9, a5Q, trivial⟩) (h := ?_)
 intro hb hE
 simp only [go_sem] at hb
 simp only [a1y, x']
 (try refine A2V ?_); simp only [go_sem]; (repeat' first | apply CJ.mk | intro hc); all_goals try ((repeat' first | apply And.intro | intro hs) <;> (try simp only [go_sem, Bool.and_eq_false_iff] at hs) <;> omega)
 refine aw_loop2 true [] [0] [] [] (fun i : {p : Nat × List d3 // p.1 ≤ a.length ∧ p.2.length = a.length ∧ p.2.take p.1 = (a0e a.length k).take p.1 ∧ ∀ x ∈ p.2, x.Rel.Rows = []} => [(5, slV (.i .i64 i.1.1)), (1, slV (.i .i64 (k + 2 * (i.1.1 : Int))))]) (fun i => []) (fun i => [(1, [.s [], .i .i64 0, .sl false [.sl false [.i .i64 0, .s []] []] []], i.1.2.map (d3.cells false false))]) (fun i => a.length - i.1.1) (⟨(0, a), by simp; exact hpre.2⟩) _ rfl ?_ ?_
 ·simp only [go_sem]
  all_goals first | omega | ((repeat' apply And.intro) <;> first | omega | rfl | skip)
 intro S0 hS0 i
 simp only [go_sem] at hS0
 obtain ⟨⟨i, L⟩, hi, hl, ht, hz⟩ := i
 simp only at hi hl ht hz
 by_cases hil : (i : Int) < L.length
 ·have hgs : ∀ x, (L.set i x).getD i default = x := fun x => by rw [List.getD_eq_getElem?_getD, List.getElem?_set_self (by omega)]; rfl
  have hss : ∀ x y, (L.set i x).set i y = L.set i y := fun x y => List.set_set ..
  have hg2 : ∀ x, ((L.map (d3.cells false false)).set i x).getD i [.s [], .i .i64 0, .sl false [.sl false [.i .i64 0, .s []] []] []] = x := fun x => by rw [List.getD_eq_getElem?_getD, List.getElem?_set_self (by rw [List.length_map]; omega)]; rfl
  have hs2 : ∀ x z, ((L.map (d3.cells false false)).set i x).set i z = (L.map (d3.cells false false)).set i z := fun x z => List.set_set ..
  have hg3 : ∀ y x, (((L.set i y).map (d3.cells false false)).set i x).getD i [.s [], .i .i64 0, .sl false [.sl false [.i .i64 0, .s []] []] []] = x := fun y x => by rw [List.getD_eq_getElem?_getD, List.getElem?_set_self (by rw [List.length_map, List.length_set]; omega)]; rfl
  have hs3 : ∀ y x z, (((L.set i y).map (d3.cells false false)).set i x).set i z = ((L.set i y).map (d3.cells false false)).set i z := fun y x z => List.set_set ..
  have hr : (L.getD i default).Rel.Rows = [] := hz _ (A3l (by omega))
  have hw0 : IntKind.i64.wrap (k + 2 * (i : Int) + 1) = k + 2 * (i : Int) + 1 := w64 (by omega) (by omega) (by omega)
  have hw1 : IntKind.i64.wrap (k + 2 * (i : Int) + 1 + 1) = k + 2 * (i : Int) + 2 := w64 (by omega) (by omega) (by omega)
  (try refine A2V ?_); simp only [go_sem, hS0, hgs, hss, hr, hil, hg2, hs2, hg3, hs3, hw0, hw1]; (repeat' first | apply CJ.mk | intro hc); all_goals try ((repeat' first | apply And.intro | intro hs) <;> (try simp only [go_sem, Bool.and_eq_false_iff] at hs) <;> omega)
  all_goals first
   | omega
   | (exact (hc trivial).elim)
   | ((refine lpK_n2 (⟨(i + 1, L.set i (a9N (k + 2 * (i : Int)))), by simp only; omega, by simp [hl], by rw [← a9W a.length k (show i < a.length by omega)]; exact n8 (by rw [hl, w7]) ht (by rw [w7]; omega), fun x hx => (List.mem_or_eq_of_mem_set hx).elim (hz x) (fun h => by rw [h]; rfl)⟩) _ rfl ?_; simp only [go_sem, hS0, hgs, hss, hr, hil, hg2, hs2, hg3, hs3, hw0, hw1]; first | done | ((repeat' apply And.intro) <;> first | omega | (refine w64 ?_ ?_ ?_ <;> omega) | rfl | skip)); first | done | omega | (rw [List.map_set]; rfl) | trace_state)
   | trace_state
 ·(try refine A2V ?_); simp only [go_sem, hS0, hil]; (repeat' first | apply CJ.mk | intro hc); all_goals try ((repeat' first | apply And.intro | intro hs) <;> (try simp only [go_sem, Bool.and_eq_false_iff] at hs) <;> omega)
  obtain rfl : i = a.length := by omega
  obtain rfl := l4 (by rw [hl, w7]) ht (by rw [w7]; omega)
  exact ⟨rfl, rfl⟩
noncomputable def u6 : CT := o6 (fun (x : (List d3) × Int) h => a6y x.1 x.2 h)
@[go_sem] theorem b4j (a : List d3) (k : Int) : u6 [(false, [.sl true [.s [], .i .i64 0, .sl false [.sl false [.i .i64 0, .s []] []] []] (a.map (d3.cells false false))]), (false, [.i .i64 k])] = some ((0 ≤ k ∧ k + 2 * (a.length : Nat) ≤ 4611686018427387904) ∧ ∀ x ∈ a, x.Rel.Rows = [], [(0, (false, [.sl true [.s [], .i .i64 0, .sl false [.sl false [.i .i64 0, .s []] []] []] ((a0e a.length k).map (d3.cells false false))]))], .one (false, [.i .i64 (k + 2 * (a.length : Nat))])) := i3 _ (by rintro ⟨_, _⟩ ⟨_, _⟩ h; simp at h; simp_all) (a, k)
theorem a3X : OkC Tryz.prog 73 u6 := i4 _
def a1w : ACode := q' ([z' 4 0]) (.seq (q' ([z' 5 0]) (.block 0 (.loop (.seq (q' ([m' 6 5, m' 7 0, n' 8 7, r' 9 6 8]) (.cond (.t 9) .skip (.exit 0))) (.seq (.block 1 (.seq (.seq
 (.reg true [m' 12 0, m' 13 5, i' 14 3 12 13, f' 15 0 14, l' 16 15, m' 17 1, c' 18 85 [17], o' 19 (.bin .neq (.t 16) (.t 18))]) (.cond (.t 19) (q' ([o' 4 (.mov
 (.k (.v false [.c (.i .i64 (-1))])))]) .ret) .skip)) (q' ([m' 20 1, a' 21 20, m' 1 21]) (.seq (q' ([m' 22 0, m' 23 5, i' 24 3 22 23, f' 25 1 24, f' 26 0 25,
 l' 27 26, m' 28 1, o' 29 (.bin .neq (.t 27) (.t 28))]) (.cond (.t 29) (q' ([o' 4 (.mov (.k (.v false [.c (.i .i64 (-1))])))]) .ret) .skip)) (q' ([m' 30 1, a'
 31 30, m' 1 31]) (q' ([m' 32 0, m' 33 5, i' 34 3 32 33, f' 35 1 34, f' 36 1 35, l' 37 36, m' 38 1, c' 39 132 [37, 38], m' 1 39]) (q' ([m' 40 1, o' 41 (.bin
 .lss (.t 40) (k' 0))]) (.cond (.t 41) (q' ([o' 4 (.mov (.k (.v false [.c (.i .i64 (-1))])))]) .ret) .skip)))))))) (g' [m' 10 5, a' 11 10, m' 5 11])))))) (q'
 ([m' 42 1, m' 4 42]) .ret))
theorem a7m : cmp Tryz.prog Tryz.f74 = some a1w := by kernel_rfl
theorem a6x (a : List d3) (k : Int) (hpre : (0 ≤ k ∧ k + 2 * (a.length : Nat) ≤ 4611686018427387904) ∧ a = a0e a.length k) : A0l Tryz.prog 74 [(false, [.sl false [.s [], .i .i64 0, .sl false [.sl false [.i .i64 0, .s []] []] []] (a.map (d3.cells false false))]), (false, [.i .i64 k])] [] (.one (false, [.i .i64 (k + 2 * (a.length : Nat))])) := by
 refine spec_of2 false false none Tryz.func74 a7m (rvs := [.t 4]) (hΓ := mkCtx_ok (deep := false) (l := [(85, [], k8), (132, [], z5)]) ⟨j9, a5O, trivial⟩) (h := ?_)
 intro hb hE
 simp only [go_sem] at hb
 simp only [a1w, x']
 (try refine A2V ?_); simp only [go_sem]; (repeat' first | apply CJ.mk | intro hc); all_goals try ((repeat' first | apply And.intro | intro hs) <;> (try simp only [go_sem, Bool.and_eq_false_iff] at hs) <;> omega)
 refine aw_loop2 false [] [0] [] [] (fun i : {i : Nat // i ≤ a.length} => [(5, slV (.i .i64 i.1)), (1, slV (.i .i64 (k + 2 * (i.1 : Int))))]) (fun i => []) (fun i => []) (fun i => a.length - i.1) (⟨0, by omega⟩) _ rfl ?_ ?_
 ·simp only [go_sem]
  all_goals first | omega | ((repeat' apply And.intro) <;> first | omega | rfl | skip)
 intro S0 hS0 i
 simp only [go_sem] at hS0
 obtain ⟨i, hi⟩ := i
 by_cases hil : (i : Int) < a.length
 ·have hx : a.getD i default = a9N (k + 2 * (i : Int)) := by rw [hpre.2]; exact a9W _ _ (by omega)
  have hw0 : IntKind.i64.wrap (k + 2 * (i : Int) + 1) = k + 2 * (i : Int) + 1 := w64 (by omega) (by omega) (by omega)
  have hw1 : IntKind.i64.wrap (k + 2 * (i : Int) + 1 + 1) = k + 2 * (i : Int) + 2 := w64 (by omega) (by omega) (by omega)
  (try refine A2V ?_); simp only [go_sem, hS0, hil, hx, a9N, hw0, hw1]; (repeat' first | apply CJ.mk | intro hc); all_goals try ((repeat' first | apply And.intro | intro hs) <;> (try simp only [go_sem, Bool.and_eq_false_iff] at hs) <;> omega)
  all_goals first
   | omega
   | (exfalso; simp at hc; done)
   | (exfalso; omega)
   | ((refine lpK_n2 (⟨i + 1, by omega⟩) _ rfl ?_; simp only [go_sem, hS0, hil, hx, a9N, hw0, hw1]; first | done | ((repeat' apply And.intro) <;> first | omega | (refine w64 ?_ ?_ ?_ <;> omega) | rfl | skip)); first | done | omega | trace_state)
   | trace_state
 ·(try refine A2V ?_); simp only [go_sem, hS0, hil]; (repeat' first | apply CJ.mk | intro hc); all_goals try ((repeat' first | apply And.intro | intro hs) <;> (try simp only [go_sem, Bool.and_eq_false_iff] at hs) <;> omega)
noncomputable def u5 : CT := o6 (fun (x : (List d3) × Int) h => a6x x.1 x.2 h)
@[go_sem] theorem b4i (a : List d3) (k : Int) : u5 [(false, [.sl false [.s [], .i .i64 0, .sl false [.sl false [.i .i64 0, .s []] []] []] (a.map (d3.cells false false))]), (false, [.i .i64 k])] = some ((0 ≤ k ∧ k + 2 * (a.length : Nat) ≤ 4611686018427387904) ∧ a = a0e a.length k, [], .one (false, [.i .i64 (k + 2 * (a.length : Nat))])) := i3 _ (by rintro ⟨_, _⟩ ⟨_, _⟩ h; simp at h; simp_all) (a, k)
theorem a3W : OkC Tryz.prog 74 u5 := i4 _
def a2j : ACode := q' ([o' 2 (.box 1 (.t 0)), z' 4 0]) (q' ([f' 5 0 2, l' 6 5, m' 7 1, c' 8 73 [6, 7], m' 1 8]) (q' ([m' 9 1, m' 4 9]) .ret))
theorem a8j : cmp Tryz.prog Tryz.f19 = some a2j := by kernel_rfl
theorem a7x (a : d7) (k : Int) (hpre : (0 ≤ k ∧ k + 2 * (a.Rels.length : Nat) ≤ 4611686018427387904) ∧ ∀ x ∈ a.Rels, x.Rel.Rows = []) : A0l Tryz.prog 19 [(true, [.sl true [.s [], .i .i64 0, .sl false [.sl false [.i .i64 0, .s []] []] []] (a.Rels.map (d3.cells false false))]), (false, [.i .i64 k])] [(0, (true, [.sl true [.s [], .i .i64 0, .sl false [.sl false [.i .i64 0, .s []] []] []] (((⟨a0e a.Rels.length k⟩ : d7).Rels).map (d3.cells false false))]))] (.one (false, [.i .i64 (k + 2 * (a.Rels.length : Nat))])) := by
 refine spec_of2 true false (some 0) Tryz.func19 a8j (rvs := [.t 4]) (hΓ := mkCtx_ok (deep := true) (l := [(73, [0], u6)]) ⟨a3X, trivial⟩) (h := ?_)
 intro hb hE
 simp only [go_sem] at hb
 simp only [a2j, x']
 (try refine A2V ?_); simp only [go_sem]; (repeat' first | apply CJ.mk | intro hc); all_goals try ((repeat' first | apply And.intro | intro hs) <;> (try simp only [go_sem, Bool.and_eq_false_iff] at hs) <;> omega)
 all_goals first | exact hpre | omega | exact ⟨by omega, hpre.2⟩ | trace_state
noncomputable def w5 : CT := o6 (fun (x : d7 × Int) h => a7x x.1 x.2 h)
@[go_sem] theorem b4Q (x0 : List d3) (k : Int) : w5 [(true, [.sl true [.s [], .i .i64 0, .sl false [.sl false [.i .i64 0, .s []] []] []] (x0.map (d3.cells false false))]), (false, [.i .i64 k])] = some ((0 ≤ k ∧ k + 2 * ((d7.mk x0).Rels.length : Nat) ≤ 4611686018427387904) ∧ ∀ x ∈ (d7.mk x0).Rels, x.Rel.Rows = [], [(0, (true, [.sl true [.s [], .i .i64 0, .sl false [.sl false [.i .i64 0, .s []] []] []] (((⟨a0e (d7.mk x0).Rels.length k⟩ : d7).Rels).map (d3.cells false false))]))], .one (false, [.i .i64 (k + 2 * ((d7.mk x0).Rels.length : Nat))])) := i3 _ (by rintro ⟨⟨_⟩, _⟩ ⟨⟨_⟩, _⟩ h; simp at h; simp_all) ((d7.mk x0), k)
theorem a4Q : OkC Tryz.prog 19 w5 := i4 _
def a2g : ACode := q' ([o' 2 (.box 1 (.t 0)), z' 4 0]) (q' ([f' 5 0 2, l' 6 5, m' 7 1, c' 8 74 [6, 7], m' 1 8]) (.seq (q' ([m' 9 1, o' 10 (.bin .lss (.t 9) (k' 0))]) (.cond (.t
 10) (q' ([o' 4 (.mov (.k (.v false [.c (.i .i64 (-1))])))]) .ret) .skip)) (q' ([m' 11 1, m' 4 11]) .ret)))
theorem a8g : cmp Tryz.prog Tryz.f20 = some a2g := by kernel_rfl
theorem a7v (a : d7) (k : Int) (hpre : (0 ≤ k ∧ k + 2 * (a.Rels.length : Nat) ≤ 4611686018427387904) ∧ a.Rels = a0e a.Rels.length k) : A0l Tryz.prog 20 [(true, [.sl false [.s [], .i .i64 0, .sl false [.sl false [.i .i64 0, .s []] []] []] (a.Rels.map (d3.cells false false))]), (false, [.i .i64 k])] [] (.one (false, [.i .i64 (k + 2 * (a.Rels.length : Nat))])) := by
 refine spec_of2 false false none Tryz.func20 a8g (rvs := [.t 4]) (hΓ := mkCtx_ok (deep := false) (l := [(74, [], u5)]) ⟨a3W, trivial⟩) (h := ?_)
 intro hb hE
 simp only [go_sem] at hb
 simp only [a2g, x']
 (try refine A2V ?_); simp only [go_sem]; (repeat' first | apply CJ.mk | intro hc); all_goals try ((repeat' first | apply And.intro | intro hs) <;> (try simp only [go_sem, Bool.and_eq_false_iff] at hs) <;> omega)
 all_goals first | exact hpre | (simp only at *; omega) | (exfalso; omega) | exact ⟨by omega, hpre.2⟩ | trace_state
noncomputable def w3 : CT := o6 (fun (x : d7 × Int) h => a7v x.1 x.2 h)
@[go_sem] theorem b4O (x0 : List d3) (k : Int) : w3 [(true, [.sl false [.s [], .i .i64 0, .sl false [.sl false [.i .i64 0, .s []] []] []] (x0.map (d3.cells false false))]), (false, [.i .i64 k])] = some ((0 ≤ k ∧ k + 2 * ((d7.mk x0).Rels.length : Nat) ≤ 4611686018427387904) ∧ (d7.mk x0).Rels = a0e (d7.mk x0).Rels.length k, [], .one (false, [.i .i64 (k + 2 * ((d7.mk x0).Rels.length : Nat))])) := i3 _ (by rintro ⟨⟨_⟩, _⟩ ⟨⟨_⟩, _⟩ h; simp at h; simp_all) ((d7.mk x0), k)
theorem a4O : OkC Tryz.prog 20 w3 := i4 _
end Go.Aw
