/- Variables that no literal binds. No condition. -/
import Derived.Test.YthlbadfickhkfaaGreatzhT7
import Derived.Test.YthlbadfickhkfaaGreatlBx7zh
namespace Go.Aw
open Go.Proofs Go.Shelf Go.RowKit
attribute [local irreducible] aft blk lpK retK AW A0m
set_option linter.unusedVariables false
set_option linter.unusedSimpArgs false
set_option maxRecDepth 100000
def a2o (l : d4) : List c4 := bif l.Kind == 3 then [l.A, l.B] else l.Atom.Args
def c3B (r : d3) : List c4 := r.Head.Args ++ r.Body.flatMap a2o
def a2t (r : d3) : List (List UInt8) := k6 sLt [] (j5 r.Head.Args ++ a6J r)
theorem c1O (a b : List c4) : j5 (a ++ b) = j5 a ++ j5 b := by simp [j5]
theorem c3E {l : d4} (h : a0n l = true) : j5 (a2o l) = j5 l.Atom.Args ++ j5 [l.A, l.B] := by
 rw [a0n] at h
 rw [a2o]
 cases hk : (l.Kind == 3) with
 | true =>
   rw [hk] at h
   simp only [cond_true, Bool.and_eq_true, beq_iff_eq] at h ⊢
   have : l.Atom.Args = [] := List.length_eq_zero_iff.1 (by omega)
   rw [this]; rfl
 | false =>
   rw [hk] at h
   simp only [cond_false, Bool.and_eq_true, c1M, beq_iff_eq] at h ⊢
   have h1 : t6 l.A = false := by simp [t6, h.1.2.1]
   have h2 : t6 l.B = false := by simp [t6, h.2.1]
   simp [j5, h1, h2]
theorem b9f : ∀ {b : List d4}, (∀ l ∈ b, a0n l = true) → j5 (b.flatMap a2o) = b.flatMap fun l => j5 l.Atom.Args ++ j5 [l.A, l.B]
 | [], _ => rfl
 | l :: b, h => by
   rw [List.flatMap_cons, List.flatMap_cons, c1O, c3E (h l (by simp)), b9f fun x hx => h x (by simp [hx])]
theorem b6X {r : d3} (h : i6 r = true) : ∀ l ∈ r.Body, a0n l = true := by
 simp only [i6, Bool.and_eq_true, List.all_eq_true] at h
 exact h.2
theorem c8v {r : d3} (h : i6 r = true) : a5y (c3B r) = a2t r := by
 rw [a5y, c3B, c1O, b9f (b6X h), a2t, a6J]
theorem b7d {l : d4} (h : a0n l = true) : (a2o l).length ≤ 6 := by
 rw [a0n] at h
 rw [a2o]
 cases hk : (l.Kind == 3) with
 | true => simp
 | false =>
   rw [hk] at h
   simp only [cond_false, Bool.and_eq_true, decide_eq_true_eq, a2p] at h ⊢
   omega
theorem b9e : ∀ {b : List d4}, (∀ l ∈ b, a0n l = true) → (b.flatMap a2o).length ≤ 6 * b.length
 | [], _ => by simp
 | l :: b, h => by
   have h1 := b7d (h l (by simp))
   have h2 := b9e (b := b) fun x hx => h x (by simp [hx])
   simp only [List.flatMap_cons, List.length_append, List.length_cons]
   omega
theorem b0L {r : d3} (h : i6 r = true) : r.Head.Args.length ≤ 6 ∧ r.Body.length ≤ 8 := by
 simp only [i6, Bool.and_eq_true, decide_eq_true_eq, a2p] at h
 omega
noncomputable def looseL (r : d3) : List (List UInt8) := (a2t r).filter fun v => !(a0l r).contains v
noncomputable def a0N (r : d3) : List (List UInt8) := bif i6 r then looseL r else []
theorem c6E {r : d3} (h : i6 r = true) : (a2t r).length ≤ 128 := by
 have h1 := a3u sLt (j5 r.Head.Args ++ a6J r) []
 have h2 := a0Q r.Head.Args
 have h3 := a2N h
 have h4 := b0L h
 simp only [List.length_append, List.length_nil] at h1
 rw [a2t]; omega
theorem c1p (l : List c4) (hpre : l.length < 1099511627776) : A0m Tryz.prog 276 [(false, [.sl false [.s [], .i .i64 0, .s []] (l.map c4.cells)])] [] (.one (false, [.sl true [.s [], .i .i64 0, .s []] (l.map c4.cells)])) := by
 exact b8Q (d := [.s [], .i .i64 0, .s []]) Tryz.cloneTerm (by kernel_rfl) (hi := rfl) (hz0 := rfl) (hz1 := rfl) (bytes := 40) (hz2 := rfl) (hzs := rfl) (by decide) (fun w => rfl) _ (by rw [List.length_map]; omega)
noncomputable def a7F : CT := l8 (fun (x : (List c4)) h => c1p x h)
@[go_sem] theorem c7G (l : List c4) : a7F [(false, [.sl false [.s [], .i .i64 0, .s []] (l.map c4.cells)])] = some (l.length < 1099511627776, [], .one (false, [.sl true [.s [], .i .i64 0, .s []] (l.map c4.cells)])) := f9 _ (by intro x y h; simp at h; simp_all) l
theorem b4X : OkC Tryz.prog 276 a7F := i3 _
def a6l : ACode := q' ([o' 1 (.box 10 (.t 0)), o' 2 (.mov (.k (.v false [.nl [.s [], .i .i64 0, .s []]])))]) (.seq (q' ([f' 3 0 1, l' 4 3, o' 5 (.bin .eql (.t 4) (k' 3))]) (.cond
 (.t 5) (q' ([f' 6 4 1, e' 7 3 6, f' 8 7 1, e' 9 3 8, o' 10 (.bsl 3 2 [.s, .i .i64, .s] [(0, .t 7), (1, .t 9)]), m' 2 10]) .ret) .skip)) (q' ([f' 11 1 1, f' 12
 1 11, l' 13 12, m' 2 13]) .ret))
theorem b3A : cmp Tryz.prog Tryz.f277 = some a6l := by kernel_rfl
theorem b6t (l : d4) : A0m Tryz.prog 277 [(true, [.i .i64 l.Kind, .s l.Atom.Name, .sl false [.s [], .i .i64 0, .s []] (l.Atom.Args.map c4.cells), .i .i64 l.Op, .s l.A.Var, .i .i64 l.A.Val.N, .s l.A.Val.S, .s l.B.Var, .i .i64 l.B.Val.N, .s l.B.Val.S])] [] (.one (false, [.sl false [.s [], .i .i64 0, .s []] ((a2o l).map c4.cells)])) := by
 refine spec_of2 false true none Tryz.func277 b3A (rvs := [.t 2]) (hΓ := mkCtx_ok (deep := false) (l := []) trivial) (h := ?_)
 intro hb hE
 simp only [go_sem] at hb
 simp only [a6l, x']
 (try refine A2Z ?_); simp only [go_sem]; (repeat' first | apply CJ.mk | intro hc); all_goals try ((repeat' first | apply And.intro | intro hs) <;> (try simp only [go_sem, Bool.and_eq_false_iff] at hs) <;> omega)
 all_goals (rw [a2o, hc]; rfl)
noncomputable def a2Z : CT := j7 (fun (x : d4) => b6t x)
@[go_sem] theorem c3U (x0 : Int) (x1 : List UInt8) (x2 : List c4) (x3 : Int) (x4 : List UInt8) (x5 : Int) (x6 x7 : List UInt8) (x8 : Int) (x9 : List UInt8) : a2Z [(true, [.i .i64 x0, .s x1, .sl false [.s [], .i .i64 0, .s []] (x2.map c4.cells), .i .i64 x3, .s x4, .i .i64 x5, .s x6, .s x7, .i .i64 x8, .s x9])] = some (True, [], .one (false, [.sl false [.s [], .i .i64 0, .s []] ((a2o (d4.mk x0 (d5.mk x1 x2) x3 (c4.mk x4 (c6.mk x5 x6)) (c4.mk x7 (c6.mk x8 x9)))).map c4.cells)])) := f7 _ (by rintro ⟨_, ⟨_, _⟩, _, ⟨_, ⟨_, _⟩⟩, ⟨_, ⟨_, _⟩⟩⟩ ⟨_, ⟨_, _⟩, _, ⟨_, ⟨_, _⟩⟩, ⟨_, ⟨_, _⟩⟩⟩ h; simp at h; simp_all) (d4.mk x0 (d5.mk x1 x2) x3 (c4.mk x4 (c6.mk x5 x6)) (c4.mk x7 (c6.mk x8 x9)))
theorem b0i : OkC Tryz.prog 277 a2Z := f8 _
theorem b5m {β : Type} (f : d4 → List β) {b : List d4} {i : Nat} (h : i < b.length) : (b.take (i + 1)).flatMap f = (b.take i).flatMap f ++ f (b.getD i default) := by
 rw [i9 default h, List.flatMap_append]; simp
def a7b : ACode := q' ([o' 1 (.box 4 (.t 0)), o' 2 (.mov (.k (.v false [.nl [.s []]])))]) (q' ([f' 6 1 1, f' 7 1 6, l' 8 7, c' 9 276 [8], m' 3 9]) (.seq (q' ([f' 10 3 1, l' 11 10,
 n' 12 11, z' 13 0]) (.block 0 (.loop (q' ([r' 14 13 12]) (.seq (.cond (.t 14) .skip (.exit 0)) (.seq (.block 1 (q' ([i' 15 10 11 13, e' 16 10 15, w' 5 [.i
 .i64, .s, .sl [.s [], .i .i64 0, .s []], .i .i64, .s, .i .i64, .s, .s, .i .i64, .s], s' 10 5 16]) (g' [m' 17 3, e' 18 10 5, c' 19 277 [18], o' 20 (.app 3 40
 [.s, .i .i64, .s] (.t 17) (.t 19)), m' 3 20]))) (g' [a' 21 13, m' 13 21]))))))) (q' ([m' 22 3, c' 23 155 [22], m' 2 23]) .ret)))
theorem b5y : cmp Tryz.prog Tryz.f197 = some a7b := by kernel_rfl
theorem b8a (r : d3) (hpre : i6 r = true) : A0m Tryz.prog 197 [(true, [.i .i64 r.Kind, .s r.Head.Name, .sl false [.s [], .i .i64 0, .s []] (r.Head.Args.map c4.cells), .sl false [.i .i64 0, .s [], .sl false [.s [], .i .i64 0, .s []] [], .i .i64 0, .s [], .i .i64 0, .s [], .s [], .i .i64 0, .s []] (r.Body.map (d4.cells false false))])] [] (.one (false, [.sl true [.s []] ((a2t r).map j3)])) := by
 refine spec_of2 false false none Tryz.func197 b5y (rvs := [.t 2]) (hΓ := mkCtx_ok (deep := false) (l := [(276, [], a7F), (277, [], a2Z), (155, [], a1r)]) ⟨b4X, b0i, a5g, trivial⟩) (h := ?_)
 intro hb hE
 simp only [go_sem] at hb
 simp only [a7b, x']
 have hh := b0L hpre
 have hL := b6X hpre
 (try refine A2Z ?_); simp only [go_sem]; (repeat' first | apply CJ.mk | intro hc); all_goals try ((repeat' first | apply And.intro | intro hs) <;> (try simp only [go_sem, Bool.and_eq_false_iff] at hs) <;> omega)
 refine aw_loop2 false [(false, 3, 0, 100006)] [11, 12] [] [] (fun i : {i : Nat // i ≤ r.Body.length} => [(3, .v false [.ow 100006]), (13, slV (.i .i64 i.1))]) (fun i => []) (fun i => [(100006, [.s [], .i .i64 0, .s []], (r.Head.Args ++ (r.Body.take i.1).flatMap a2o).map c4.cells)]) (fun i => r.Body.length - i.1) (⟨0, by simp⟩) _ (by simp only [go_sem]; try rfl) ?_ ?_
 ·simp only [go_sem]
  all_goals first | omega | ((repeat' apply And.intro) <;> first | omega | rfl | skip)
 intro S0 hS0 i
 simp only [go_sem] at hS0
 obtain ⟨i, hi⟩ := i
 have h1 := b9e (b := r.Body.take i) fun l hl => hL l (List.mem_of_mem_take hl)
 rw [List.length_take] at h1
 (try refine A2Z ?_); simp only [go_sem, hS0]; (repeat' first | apply CJ.mk | intro hc); all_goals try ((repeat' first | apply And.intro | intro hs) <;> (try simp only [go_sem, Bool.and_eq_false_iff] at hs) <;> omega)
 all_goals first
  | (have h2 := b7d (hL _ (A3p (d := default) (show i < r.Body.length by omega))); (try simp only [List.length_append] at *); omega)
  | ((refine lpK_n2 (⟨i + 1, by omega⟩) _ (by simp only [go_sem]; try rfl) ?_; simp only [go_sem, hS0]; first | done | ((repeat' apply And.intro) <;> first | omega | (refine w64 ?_ ?_ ?_ <;> omega) | rfl | skip)); rw [b5m a2o (by omega)]; simp only [List.map_append, List.append_assoc]; done)
  | (rw [i8 (by omega), ← c8v hpre, c3B]; done)
  | ((try simp only [List.length_append] at *); omega)
  | trace_state
noncomputable def a4d : CT := l8 (fun (x : d3) h => b8a x h)
@[go_sem] theorem c5v (x0 : Int) (x1 : List UInt8) (x2 : List c4) (x3 : List d4) : a4d [(true, [.i .i64 x0, .s x1, .sl false [.s [], .i .i64 0, .s []] (x2.map c4.cells), .sl false [.i .i64 0, .s [], .sl false [.s [], .i .i64 0, .s []] [], .i .i64 0, .s [], .i .i64 0, .s [], .s [], .i .i64 0, .s []] (x3.map (d4.cells false false))])] = some (i6 (d3.mk x0 (d5.mk x1 x2) x3) = true, [], .one (false, [.sl true [.s []] ((a2t (d3.mk x0 (d5.mk x1 x2) x3)).map j3)])) := f9 _ (by rintro ⟨_, ⟨_, _⟩, _⟩ ⟨_, ⟨_, _⟩, _⟩ h; simp at h; simp_all) (d3.mk x0 (d5.mk x1 x2) x3)
theorem b1m : OkC Tryz.prog 197 a4d := i3 _
@[go_sem] theorem l16T_nil (l : List c4) : y8 [(false, [.sl false [.s []] []]), (false, [.sl false [.s [], .i .i64 0, .s []] (l.map c4.cells)])] = some (0 + l.length < 1099511627776, [], .one (false, [.sl false [.s []] ((k6 sLt [] (j5 l)).map j3)])) := a3m [] l
@[go_sem] theorem l16T_two (a : List (List UInt8)) (v1 : List UInt8) (n1 : Int) (s1 v2 : List UInt8) (n2 : Int) (s2 : List UInt8) : y8 [(false, [.sl false [.s []] (a.map j3)]), (false, [.sl false [.s [], .i .i64 0, .s []] [[.s v1, .i .i64 n1, .s s1], [.s v2, .i .i64 n2, .s s2]]])] = some (a.length + 2 < 1099511627776, [], .one (false, [.sl false [.s []] ((k6 sLt a (j5 [⟨v1, ⟨n1, s1⟩⟩, ⟨v2, ⟨n2, s2⟩⟩])).map j3)])) := a3m a [⟨v1, ⟨n1, s1⟩⟩, ⟨v2, ⟨n2, s2⟩⟩]
theorem c6s (l r s : List (List UInt8)) : k6 sLt (k6 sLt l r) s = k6 sLt l (r ++ s) := by simp [k6, List.foldl_append]
def a7u : ACode := q' ([o' 1 (.box 4 (.t 0)), o' 2 (.mov (.k (.v false [.nl [.s []]])))]) (q' ([o' 5 (.bsl 1 0 [.s] []), m' 3 5]) (.seq (q' ([e' 6 4 1, c' 7 112 [6], o' 8 (.not
 (.t 7))]) (.cond (.t 8) (q' ([m' 9 3, m' 2 9]) .ret) .skip)) (q' ([m' 10 3, f' 11 1 1, f' 12 1 11, l' 13 12, c' 14 152 [10, 13], m' 3 14]) (.seq (q' ([f' 15 3
 1, l' 16 15, n' 17 16, z' 18 0]) (.block 0 (.loop (q' ([r' 19 18 17]) (.seq (.cond (.t 19) .skip (.exit 0)) (.seq (.block 1 (q' ([m' 20 18, m' 4 20]) (q' ([m'
 21 3, f' 22 3 1, l' 23 22, m' 24 4, i' 25 10 23 24, f' 26 1 25, f' 27 1 26, l' 28 27, c' 29 152 [21, 28], m' 3 29]) (.rego [(true, 0, m' 30 3), (true, 1, f'
 31 3 1), (true, 2, l' 32 31), (true, 3, m' 33 4), (true, 4, i' 34 10 32 33), (true, 5, f' 35 4 34), (true, 6, e' 36 3 35), (true, 7, f' 37 3 1), (true, 8, l'
 38 37), (false, 9, m' 39 4), (false, 10, i' 40 10 38 39), (false, 11, f' 41 7 40), (false, 12, e' 42 3 41), (false, 13, o' 43 (.bsl 3 2 [.s, .i .i64, .s] [(0,
 .t 36), (1, .t 42)])), (false, 14, c' 44 152 [30, 43]), (false, 15, m' 3 44)] [2, 3])))) (g' [a' 45 18, m' 18 45]))))))) (q' ([m' 46 3, m' 2 46]) .ret)))))
theorem b5R : cmp Tryz.prog Tryz.f183 = some a7u := by kernel_rfl
theorem b8t (r : d3) : A0m Tryz.prog 183 [(true, [.i .i64 r.Kind, .s r.Head.Name, .sl false [.s [], .i .i64 0, .s []] (r.Head.Args.map c4.cells), .sl false [.i .i64 0, .s [], .sl false [.s [], .i .i64 0, .s []] [], .i .i64 0, .s [], .i .i64 0, .s [], .s [], .i .i64 0, .s []] (r.Body.map (d4.cells false false))])] [] (.one (false, [.sl false [.s []] ((bif i6 r then a2t r else []).map j3)])) := by
 refine spec_of2 false true none Tryz.func183 b5R (rvs := [.t 2]) (hΓ := mkCtx_ok (deep := false) (l := [(112, [], w5), (152, [], y8)]) ⟨a0m, a9B, trivial⟩) (h := ?_)
 intro hb hE
 simp only [go_sem] at hb
 simp only [a7u, x']
 (try refine A2Z ?_); simp only [go_sem]; (repeat' first | apply CJ.mk | intro hc); all_goals try ((repeat' first | apply And.intro | intro hs) <;> (try simp only [go_sem, Bool.and_eq_false_iff] at hs) <;> omega)
 ·rw [hc]; rfl
 ·have := b0L hc; omega
 have hR : i6 r = true := hc
 have hh := b0L hR
 have hA := a2N hR
 rw [hR]
 clear hc
 refine aw_loop2 false [] [1, 17] [2, 3] [] (fun i : {i : Nat // i ≤ r.Body.length} => [(3, .v false [.c (.sl false [.s []] ((k6 sLt [] (j5 r.Head.Args ++ (r.Body.take i.1).flatMap fun l => j5 l.Atom.Args ++ j5 [l.A, l.B])).map j3))]), (18, slV (.i .i64 i.1))]) (fun i => []) (fun i => []) (fun i => r.Body.length - i.1) (⟨0, by simp⟩) _ rfl ?_ ?_
 ·simp only [go_sem]
  all_goals first | omega | ((repeat' apply And.intro) <;> first | omega | rfl | skip)
 intro S0 hS0 i
 simp only [go_sem] at hS0
 obtain ⟨i, hi⟩ := i
 have hp := a3u sLt (j5 r.Head.Args ++ (r.Body.take i).flatMap fun l => j5 l.Atom.Args ++ j5 [l.A, l.B]) []
 have hv := a0Q r.Head.Args
 have hf : ((r.Body.take i).flatMap fun l => j5 l.Atom.Args ++ j5 [l.A, l.B]).length ≤ 64 := by
  refine Nat.le_trans ?_ hA
  have e : a6J r = ((r.Body.take i).flatMap fun l => j5 l.Atom.Args ++ j5 [l.A, l.B]) ++ (r.Body.drop i).flatMap fun l => j5 l.Atom.Args ++ j5 [l.A, l.B] := by
   rw [← List.flatMap_append, List.take_append_drop]; rfl
  rw [e, List.length_append]; omega
 simp only [List.length_append, List.length_nil] at hp
 have h2 := a3u sLt (j5 (r.Body.getD i default).Atom.Args) (k6 sLt [] (j5 r.Head.Args ++ (r.Body.take i).flatMap fun l => j5 l.Atom.Args ++ j5 [l.A, l.B]))
 have h3 := a0Q (r.Body.getD i default).Atom.Args
 (try refine A2Z ?_); simp only [go_sem, hS0]; (repeat' first | apply CJ.mk | intro hc); all_goals try ((repeat' first | apply And.intro | intro hs) <;> (try simp only [go_sem, Bool.and_eq_false_iff] at hs) <;> omega)
 all_goals first
  | (have hq := a5v hR (A3p (d := default) (show i < r.Body.length by omega)); omega)
  | ((refine lpK_n2 (⟨i + 1, by omega⟩) _ rfl ?_; simp only [go_sem, hS0]; first | done | ((repeat' apply And.intro) <;> first | omega | (refine w64 ?_ ?_ ?_ <;> omega) | rfl | skip)); rw [show ((r.Body.take (i + 1)).flatMap fun l => j5 l.Atom.Args ++ j5 [l.A, l.B]) = _ from b5m _ (by omega)]; simp only [c6s, List.append_assoc]; done)
  | ((refine lpK_n2 (⟨i + 1, by omega⟩) _ rfl ?_; simp only [go_sem, hS0]; first | done | ((repeat' apply And.intro) <;> first | omega | (refine w64 ?_ ?_ ?_ <;> omega) | rfl | skip)); trace_state)
  | (rw [i8 (by omega)]; rfl)
  | trace_state
noncomputable def a4q : CT := j7 (fun (x : d3) => b8t x)
@[go_sem] theorem c5O (x0 : Int) (x1 : List UInt8) (x2 : List c4) (x3 : List d4) : a4q [(true, [.i .i64 x0, .s x1, .sl false [.s [], .i .i64 0, .s []] (x2.map c4.cells), .sl false [.i .i64 0, .s [], .sl false [.s [], .i .i64 0, .s []] [], .i .i64 0, .s [], .i .i64 0, .s [], .s [], .i .i64 0, .s []] (x3.map (d4.cells false false))])] = some (True, [], .one (false, [.sl false [.s []] ((bif i6 (d3.mk x0 (d5.mk x1 x2) x3) then a2t (d3.mk x0 (d5.mk x1 x2) x3) else []).map j3)])) := f7 _ (by rintro ⟨_, ⟨_, _⟩, _⟩ ⟨_, ⟨_, _⟩, _⟩ h; simp at h; simp_all) (d3.mk x0 (d5.mk x1 x2) x3)
theorem b1B : OkC Tryz.prog 183 a4q := f8 _
def a3C : ACode := q' ([o' 1 (.box 4 (.t 0)), o' 2 (.mov (.k (.v false [.nl [.s []]])))]) (q' ([e' 7 4 1, c' 8 182 [7], m' 3 8]) (q' ([o' 9 (.bsl 1 0 [.s] []), m' 4 9]) (.seq (q'
 ([e' 10 4 1, c' 11 183 [10], n' 12 11, z' 13 0]) (.block 0 (.loop (q' ([r' 14 13 12]) (.seq (.cond (.t 14) .skip (.exit 0)) (.seq (.block 1 (q' ([i' 15 1 11
 13, l' 16 15, m' 6 16]) (q' ([m' 17 3, m' 18 6, c' 19 153 [17, 18], o' 20 (.not (.t 19))]) (.cond (.t 20) (g' [m' 21 4, m' 22 6, o' 23 (.bsl 1 1 [.s] [(0, .t
 22)]), o' 24 (.app 1 16 [.s] (.t 21) (.t 23)), m' 4 24]) .skip)))) (g' [a' 25 13, m' 13 25]))))))) (q' ([m' 26 4, m' 2 26]) .ret))))
theorem b0F : cmp Tryz.prog Tryz.f113 = some a3C := by kernel_rfl
theorem b2v (r : d3) : A0m Tryz.prog 113 [(true, [.i .i64 r.Kind, .s r.Head.Name, .sl false [.s [], .i .i64 0, .s []] (r.Head.Args.map c4.cells), .sl false [.i .i64 0, .s [], .sl false [.s [], .i .i64 0, .s []] [], .i .i64 0, .s [], .i .i64 0, .s [], .s [], .i .i64 0, .s []] (r.Body.map (d4.cells false false))])] [] (.one (false, [.sl false [.s []] ((a0N r).map j3)])) := by
 refine spec_of2 false true none Tryz.func113 b0F (rvs := [.t 2]) (hΓ := mkCtx_ok (deep := false) (l := [(182, [], a0Z), (183, [], a4q), (153, [], a1z)]) ⟨a8q, b1B, a5o, trivial⟩) (h := ?_)
 intro hb hE
 simp only [go_sem] at hb
 simp only [a3C, x']
 have hlv : (bif i6 r then a2t r else []).length ≤ 128 := by
  cases h : i6 r with
  | true => exact c6E h
  | false => exact Nat.zero_le _
 (try refine A2Z ?_); simp only [go_sem]; (repeat' first | apply CJ.mk | intro hc); all_goals try ((repeat' first | apply And.intro | intro hs) <;> (try simp only [go_sem, Bool.and_eq_false_iff] at hs) <;> omega)
 refine aw_loop2 false [(false, 4, 0, 100008)] [3, 11, 12] [] [] (fun i : {i : Nat // i ≤ (bif i6 r then a2t r else []).length} => [(4, .v false [.ow 100008]), (13, slV (.i .i64 i.1))]) (fun i => []) (fun i => [(100008, [.s []], (((bif i6 r then a2t r else []).take i.1).filter fun v => !(bif i6 r then a0l r else []).contains v).map j3)]) (fun i => (bif i6 r then a2t r else []).length - i.1) (⟨0, by simp⟩) _ (by simp only [go_sem]; try rfl) ?_ ?_
 ·simp only [go_sem]
  all_goals first | omega | ((repeat' apply And.intro) <;> first | omega | rfl | skip)
 intro S0 hS0 i
 simp only [go_sem] at hS0
 obtain ⟨i, hi⟩ := i
 have hf := List.length_filter_le (fun v => !(bif i6 r then a0l r else []).contains v) ((bif i6 r then a2t r else []).take i)
 rw [List.length_take] at hf
 (try refine A2Z ?_); simp only [go_sem, hS0]; (repeat' first | apply CJ.mk | intro hc); all_goals try ((repeat' first | apply And.intro | intro hs) <;> (try simp only [go_sem, Bool.and_eq_false_iff] at hs) <;> omega)
 all_goals first
  | omega
  | (have hc2 : (fun v => !(bif i6 r then a0l r else []).contains v) ((bif i6 r then a2t r else []).getD i []) = true := by (first | exact hc | (simpa [-List.getD_eq_getElem?_getD] using hc))
     (refine lpK_n2 (⟨i + 1, by omega⟩) _ (by simp only [go_sem]; try rfl) ?_; simp only [go_sem, hS0]; first | done | ((repeat' apply And.intro) <;> first | omega | (refine w64 ?_ ?_ ?_ <;> omega) | rfl | skip))
     rw [f_yes (p := fun v => !(bif i6 r then a0l r else []).contains v) [] (by omega) hc2]; done)
  | (have hc2 : (fun v => !(bif i6 r then a0l r else []).contains v) ((bif i6 r then a2t r else []).getD i []) = false := by (first | exact hc | (simpa [-List.getD_eq_getElem?_getD] using hc))
     (refine lpK_n2 (⟨i + 1, by omega⟩) _ (by simp only [go_sem]; try rfl) ?_; simp only [go_sem, hS0]; first | done | ((repeat' apply And.intro) <;> first | omega | (refine w64 ?_ ?_ ?_ <;> omega) | rfl | skip))
     rw [f_no (p := fun v => !(bif i6 r then a0l r else []).contains v) [] (by omega) hc2]; done)
  | (rw [i8 (by omega), a0N]; cases h : i6 r <;> rfl)
  | trace_state
noncomputable def a1a : CT := j7 (fun (x : d3) => b2v x)
@[go_sem] theorem c1W (x0 : Int) (x1 : List UInt8) (x2 : List c4) (x3 : List d4) : a1a [(true, [.i .i64 x0, .s x1, .sl false [.s [], .i .i64 0, .s []] (x2.map c4.cells), .sl false [.i .i64 0, .s [], .sl false [.s [], .i .i64 0, .s []] [], .i .i64 0, .s [], .i .i64 0, .s [], .s [], .i .i64 0, .s []] (x3.map (d4.cells false false))])] = some (True, [], .one (false, [.sl false [.s []] ((a0N (d3.mk x0 (d5.mk x1 x2) x3)).map j3)])) := f7 _ (by rintro ⟨_, ⟨_, _⟩, _⟩ ⟨_, ⟨_, _⟩, _⟩ h; simp at h; simp_all) (d3.mk x0 (d5.mk x1 x2) x3)
theorem a8r : OkC Tryz.prog 113 a1a := f8 _
theorem b9z (k : List (List UInt8)) (x : List UInt8) : Lib.containsS (k.map fun s => (⟨s.toArray⟩ : ByteArray)) ⟨x.toArray⟩ = k.contains x := by
 rw [Bool.eq_iff_iff, Lib.containsS_iff, List.contains_iff_mem, List.mem_map]
 constructor
 ·rintro ⟨s, hs, e⟩
  have e2 : s.toArray = x.toArray := ByteArray.mk.inj e
  have : s = x := by simpa using e2
  exact this ▸ hs
 ·intro h; exact ⟨x, h, rfl⟩
theorem c3x (b o n cap : Nat) (a : Option Addr) (y : ByteArray) (W : World) (r : Bool) (hcell : W.cell? ⟨b, o, none⟩ = some (Value.slice a n cap)) (HC : Aside (Calls Tryz.prog 102 #[.slice a n cap, .string y] W fun e w' => e = .returned (.bool r) ∧ w' = W)) : Calls Tryz.prog 198 #[.string y, .pointer (some ⟨b, o, none⟩)] W fun e w' => e = .returned (.bool r) ∧ ∃ q, w' = W.drewN q := by
 go_enter Tryz.func198, Tryz.ntmps198
 go_wp2_with (go_at_call 102; refine HC.out.mono ?_; rintro e w' ⟨rfl, rfl⟩)
 go_ret
 exact ⟨rfl, 0, rfl⟩
theorem c1w (k : List (List UInt8)) (F : Nat → Prop) (W : World) (lb : List Value) (h : C.RdVals F W [.p [.sl false [.s []] (k.map j3)]] lb []) (x : List UInt8) : FnGives Tryz.prog 198 lb.toArray #[encStr x] (.bool (k.contains x)) W := by
 unfold C.RdVals at h
 obtain ⟨v, vs, f1, f2, rfl, hf, h1, h2⟩ := h
 unfold C.RdVals at h2
 obtain ⟨rfl, rfl⟩ := h2
 unfold C.Rd at h1
 obtain ⟨rfl, b, o, vs, rfl, hFb, hca, hv⟩ := h1
 unfold C.RdVals at hv
 obtain ⟨v, vs', f3, f4, rfl, hf2, hv1, hv2⟩ := hv
 unfold C.RdVals at hv2
 obtain ⟨rfl, rfl⟩ := hv2
 unfold C.Rd at hv1
 obtain ⟨a, cap, rfl, hl1, hl2, hl3, hl4⟩ := hv1
 simp only [cond_false] at hl4
 have hcell := hca 0 (by simp)
 simp only [List.getElem_cons_zero, Nat.add_zero] at hcell
 have hcon : Calls Tryz.prog 102 #[.slice a (k.map j3).length cap, encStr x] W fun e w' => e = .returned (.bool (k.contains x)) ∧ w' = W := by
  rcases hl4.2 with h0 | ⟨b2, o2, vs2, rfl, hF2, hca2, hrr⟩
  ·have hk : k = [] := by simpa using h0
   subst hk
   exact Any.slices_Contains_string_empty Tryz.l110 a cap ⟨x.toArray⟩ W
  ·obtain ⟨rfl, _, hok⟩ := a5u hrr
   have := Any.slices_Contains_string Tryz.l110 b2 o2 k.length cap (k.map fun s => (⟨s.toArray⟩ : ByteArray)) ⟨x.toArray⟩ W (by simp) (by rw [List.length_map] at hl1; simp only [maxLen] at hl2; omega) (fun j hj => by
    have hj' : j < k.length := by simpa using hj
    have := hca2 j (by simpa using hj')
    rw [this]
    simp [encStr, List.getD_eq_getElem?_getD, hj'])
   rw [List.take_of_length_le (by simp), b9z] at this
   rw [List.length_map]
   exact this
 show Calls Tryz.prog 198 #[encStr x, .pointer (some ⟨b, o, none⟩)] W _
 exact c3x b o _ cap a _ W _ hcell hcon
theorem b6k (l : List (List UInt8)) (k : List (List UInt8)) : A0m Tryz.prog 196 [(false, [.sl true [.s []] (l.map j3)]), (false, [.f 198 [.p [.sl false [.s []] (k.map j3)]]])] [] (.one (false, [.sl true [.s []] ((l.filter fun v => !k.contains v).map j3)])) := by
 refine c3k Tryz.delStr (by kernel_rfl) (fun w => Tryz.zeroValue9 w) (enters_of Tryz.func198 (by kernel_rfl) rfl) (fun v => k.contains v) (c1w k) ?_ l
 intro F w lb fp h
 unfold C.RdVals at h
 obtain ⟨v, vs, f1, f2, rfl, hf, h1, h2⟩ := h
 unfold C.RdVals at h2
 obtain ⟨rfl, rfl⟩ := h2
 unfold C.Rd at h1
 rw [hf, h1.1]; rfl
noncomputable def a2S : CT := j7 (fun (x : (List (List UInt8)) × (List (List UInt8))) => b6k x.1 x.2)
@[go_sem] theorem c3L (l k : List (List UInt8)) : a2S [(false, [.sl true [.s []] (l.map j3)]), (false, [.f 198 [.p [.sl false [.s []] (k.map j3)]]])] = some (True, [], .one (false, [.sl true [.s []] ((l.filter fun v => !k.contains v).map j3)])) := f7 _ (by rintro ⟨_, _⟩ ⟨_, _⟩ h; simp at h; simp_all) (l, k)
theorem b0c : OkC Tryz.prog 196 a2S := f8 _
def a3w : ACode := q' ([o' 1 (.box 4 (.t 0)), o' 2 (.mov (.k (.v false [.nl [.s []]])))]) (.seq (q' ([e' 4 4 1, c' 5 117 [4], o' 6 (.not (.t 5))]) (.cond (.t 6) (q' ([o' 2 (.mov
 (.k (.v false [.nl [.s []]])))]) .ret) .skip)) (q' ([e' 7 4 1, c' 8 195 [7], w' 3 [.sl [.s []]], s' 1 3 8]) (q' ([e' 9 4 1, c' 10 197 [9], o' 11 (.mf 198 [.t
 3]), c' 12 196 [10, 11], m' 2 12]) .ret)))
theorem b0z : cmp Tryz.prog Tryz.f118 = some a3w := by kernel_rfl
theorem b2p (r : d3) : A0m Tryz.prog 118 [(true, [.i .i64 r.Kind, .s r.Head.Name, .sl false [.s [], .i .i64 0, .s []] (r.Head.Args.map c4.cells), .sl false [.i .i64 0, .s [], .sl false [.s [], .i .i64 0, .s []] [], .i .i64 0, .s [], .i .i64 0, .s [], .s [], .i .i64 0, .s []] (r.Body.map (d4.cells false false))])] [] (.one (false, [.sl true [.s []] ((a0N r).map j3)])) := by
 refine spec_of2 false false none Tryz.func118 b0z (rvs := [.t 2]) (hΓ := mkCtx_ok (deep := false) (l := [(117, [], a1p), (195, [], a5F), (197, [], a4d), (196, [0], a2S)]) ⟨a5e, b3a, b1m, b0c, trivial⟩) (h := ?_)
 intro hb hE
 simp only [go_sem] at hb
 simp only [a3w, x']
 (try refine A2Z ?_); simp only [go_sem]; (repeat' first | apply CJ.mk | intro hc); all_goals try ((repeat' first | apply And.intro | intro hs) <;> (try simp only [go_sem, Bool.and_eq_false_iff] at hs) <;> omega)
 all_goals (have h9 : i6 r = _ := hc; rw [a0N, h9]; first | rfl | trace_state)
noncomputable def a0U : CT := j7 (fun (x : d3) => b2p x)
@[go_sem] theorem c1Q (x0 : Int) (x1 : List UInt8) (x2 : List c4) (x3 : List d4) : a0U [(true, [.i .i64 x0, .s x1, .sl false [.s [], .i .i64 0, .s []] (x2.map c4.cells), .sl false [.i .i64 0, .s [], .sl false [.s [], .i .i64 0, .s []] [], .i .i64 0, .s [], .i .i64 0, .s [], .s [], .i .i64 0, .s []] (x3.map (d4.cells false false))])] = some (True, [], .one (false, [.sl true [.s []] ((a0N (d3.mk x0 (d5.mk x1 x2) x3)).map j3)])) := f7 _ (by rintro ⟨_, ⟨_, _⟩, _⟩ ⟨_, ⟨_, _⟩, _⟩ h; simp at h; simp_all) (d3.mk x0 (d5.mk x1 x2) x3)
theorem a8m : OkC Tryz.prog 118 a0U := f8 _
end Go.Aw
