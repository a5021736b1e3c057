/- Variables that no literal binds. No condition. -/
import Derived.Test.YthlbadfickhkfaaGreatzeT7
import Derived.Test.YthlbadfickhkfaaGreathBx7ze
namespace Go.Aw
open Go.Proofs Go.Shelf Go.RowKit
attribute [local irreducible] aft blk lpK retK AW A0l
set_option linter.unusedVariables false
set_option linter.unusedSimpArgs false
set_option maxRecDepth 100000
def a1S (l : c8) : List c5 := bif l.Kind == 3 then [l.A, l.B] else l.Atom.Args
def c1s (r : c4) : List c5 := r.Head.Args ++ r.Body.flatMap a1S
def a2g (r : c4) : List (List UInt8) := j1 sLt [] (j4 r.Head.Args ++ b0T r)
theorem b9L (a b : List c5) : j4 (a ++ b) = j4 a ++ j4 b := by simp [j4]
theorem c1u {l : c8} (h : a0n l = true) : j4 (a1S l) = j4 l.Atom.Args ++ j4 [l.A, l.B] := by
 rw [a0n] at h
 rw [a1S]
 cases hk : (l.Kind == 3) with
 | true =>
   rw [hk] at h
   simp only [cond_true, Bool.and_eq_true, beq_iff_eq] at h ⊢
   have : l.Atom.Args = [] := List.length_eq_zero_iff.1 (by omega)
   rw [this]; rfl
 | false =>
   rw [hk] at h
   simp only [cond_false, Bool.and_eq_true, b9I, beq_iff_eq] at h ⊢
   have h1 : p9 l.A = false := by simp [p9, h.1.2.1]
   have h2 : p9 l.B = false := by simp [p9, h.2.1]
   simp [j4, h1, h2]
theorem b7p : ∀ {b : List c8}, (∀ l ∈ b, a0n l = true) → j4 (b.flatMap a1S) = b.flatMap fun l => j4 l.Atom.Args ++ j4 [l.A, l.B]
 | [], _ => rfl
 | l :: b, h => by
   rw [List.flatMap_cons, List.flatMap_cons, b9L, c1u (h l (by simp)), b7p fun x hx => h x (by simp [hx])]
theorem b5K {r : c4} (h : j2 r = true) : ∀ l ∈ r.Body, a0n l = true := by
 simp only [j2, Bool.and_eq_true, List.all_eq_true] at h
 exact h.2
theorem c5C {r : c4} (h : j2 r = true) : a4W (c1s r) = a2g r := by
 rw [a4W, c1s, b9L, b7p (b5K h), a2g, b0T]
theorem b5R {l : c8} (h : a0n l = true) : (a1S l).length ≤ 6 := by
 rw [a0n] at h
 rw [a1S]
 cases hk : (l.Kind == 3) with
 | true => simp
 | false =>
   rw [hk] at h
   simp only [cond_false, Bool.and_eq_true, decide_eq_true_eq, a2u] at h ⊢
   omega
theorem b7n : ∀ {b : List c8}, (∀ l ∈ b, a0n l = true) → (b.flatMap a1S).length ≤ 6 * b.length
 | [], _ => by simp
 | l :: b, h => by
   have h1 := b5R (h l (by simp))
   have h2 := b7n (b := b) fun x hx => h x (by simp [hx])
   simp only [List.flatMap_cons, List.length_append, List.length_cons]
   omega
theorem b0s {r : c4} (h : j2 r = true) : r.Head.Args.length ≤ 6 ∧ r.Body.length ≤ 8 := by
 simp only [j2, Bool.and_eq_true, decide_eq_true_eq, a2u] at h
 omega
noncomputable def looseL (r : c4) : List (List UInt8) := (a2g r).filter fun v => !(y8 r).contains v
noncomputable def a5w (r : c4) : List (List UInt8) := bif j2 r then looseL r else []
theorem c3Y {r : c4} (h : j2 r = true) : (a2g r).length ≤ 128 := by
 have h1 := u4 sLt (j4 r.Head.Args ++ b0T r) []
 have h2 := a0E r.Head.Args
 have h3 := a9p h
 have h4 := b0s h
 simp only [List.length_append, List.length_nil] at h1
 rw [a2g]; omega
theorem b9g (l : List c5) (hpre : l.length < 1099511627776) : A0l Tryz.prog 276 [(false, [.sl false [.s [], .i .i64 0, .s []] (l.map c5.cells)])] [] (.one (false, [.sl true [.s [], .i .i64 0, .s []] (l.map c5.cells)])) := by
 exact c3C (d := [.s [], .i .i64 0, .s []]) Tryz.cloneTerm (by kernel_rfl) (hi := rfl) (hz0 := rfl) (hz1 := rfl) (bytes := 40) (hz2 := rfl) (hzs := rfl) (by decide) (fun w => rfl) _ (by rw [List.length_map]; omega)
noncomputable def a6Y : CT := p4 (fun (x : (List c5)) h => b9g x h)
@[go_sem] theorem c4R (l : List c5) : a6Y [(false, [.sl false [.s [], .i .i64 0, .s []] (l.map c5.cells)])] = some (l.length < 1099511627776, [], .one (false, [.sl true [.s [], .i .i64 0, .s []] (l.map c5.cells)])) := i6 _ (by intro x y h; simp at h; simp_all) l
theorem b3T : OkC Tryz.prog 276 a6Y := i7 _
def a5K : ACode := q' ([o' 1 (.box 10 (.t 0)), o' 2 (.mov (.k (.v false [.nl [.s [], .i .i64 0, .s []]])))]) (.seq (q' ([f' 3 0 1, l' 4 3, o' 5 (.bin .eql (.t 4) (k' 3))]) (.cond
 (.t 5) (q' ([f' 6 4 1, e' 7 3 6, f' 8 7 1, e' 9 3 8, o' 10 (.bsl 3 2 [.s, .i .i64, .s] [(0, .t 7), (1, .t 9)]), m' 2 10]) .ret) .skip)) (q' ([f' 11 1 1, f' 12
 1 11, l' 13 12, m' 2 13]) .ret))
theorem b2U : cmp Tryz.prog Tryz.f277 = some a5K := by kernel_rfl
theorem b5i (l : c8) : A0l Tryz.prog 277 [(true, [.i .i64 l.Kind, .s l.Atom.Name, .sl false [.s [], .i .i64 0, .s []] (l.Atom.Args.map c5.cells), .i .i64 l.Op, .s l.A.Var, .i .i64 l.A.Val.N, .s l.A.Val.S, .s l.B.Var, .i .i64 l.B.Val.N, .s l.B.Val.S])] [] (.one (false, [.sl false [.s [], .i .i64 0, .s []] ((a1S l).map c5.cells)])) := by
 refine spec_of2 false true none Tryz.func277 b2U (rvs := [.t 2]) (hΓ := mkCtx_ok (deep := false) (l := []) trivial) (h := ?_)
 intro hb hE
 simp only [go_sem] at hb
 simp only [a5K, x']
 (try refine A2V ?_); simp only [go_sem]; (repeat' first | apply CJ.mk | intro hc); all_goals try ((repeat' first | apply And.intro | intro hs) <;> (try simp only [go_sem, Bool.and_eq_false_iff] at hs) <;> omega)
 all_goals (rw [a1S, hc]; rfl)
noncomputable def a2F : CT := i8 (fun (x : c8) => b5i x)
@[go_sem] theorem c1N (x0 : Int) (x1 : List UInt8) (x2 : List c5) (x3 : Int) (x4 : List UInt8) (x5 : Int) (x6 x7 : List UInt8) (x8 : Int) (x9 : List UInt8) : a2F [(true, [.i .i64 x0, .s x1, .sl false [.s [], .i .i64 0, .s []] (x2.map c5.cells), .i .i64 x3, .s x4, .i .i64 x5, .s x6, .s x7, .i .i64 x8, .s x9])] = some (True, [], .one (false, [.sl false [.s [], .i .i64 0, .s []] ((a1S (c8.mk x0 (c9.mk x1 x2) x3 (c5.mk x4 (d3.mk x5 x6)) (c5.mk x7 (d3.mk x8 x9)))).map c5.cells)])) := f5 _ (by rintro ⟨_, ⟨_, _⟩, _, ⟨_, ⟨_, _⟩⟩, ⟨_, ⟨_, _⟩⟩⟩ ⟨_, ⟨_, _⟩, _, ⟨_, ⟨_, _⟩⟩, ⟨_, ⟨_, _⟩⟩⟩ h; simp at h; simp_all) (c8.mk x0 (c9.mk x1 x2) x3 (c5.mk x4 (d3.mk x5 x6)) (c5.mk x7 (d3.mk x8 x9)))
theorem a9B : OkC Tryz.prog 277 a2F := f7 _
theorem b4n {β : Type} (f : c8 → List β) {b : List c8} {i : Nat} (h : i < b.length) : (b.take (i + 1)).flatMap f = (b.take i).flatMap f ++ f (b.getD i default) := by
 rw [i4 default h, List.flatMap_append]; simp
def a6A : ACode := q' ([o' 1 (.box 4 (.t 0)), o' 2 (.mov (.k (.v false [.nl [.s []]])))]) (q' ([f' 6 1 1, f' 7 1 6, l' 8 7, c' 9 276 [8], m' 3 9]) (.seq (q' ([f' 10 3 1, l' 11 10,
 n' 12 11, z' 13 0]) (.block 0 (.loop (q' ([r' 14 13 12]) (.seq (.cond (.t 14) .skip (.exit 0)) (.seq (.block 1 (q' ([i' 15 10 11 13, e' 16 10 15, w' 5 [.i
 .i64, .s, .sl [.s [], .i .i64 0, .s []], .i .i64, .s, .i .i64, .s, .s, .i .i64, .s], s' 10 5 16]) (g' [m' 17 3, e' 18 10 5, c' 19 277 [18], o' 20 (.app 3 40
 [.s, .i .i64, .s] (.t 17) (.t 19)), m' 3 20]))) (g' [a' 21 13, m' 13 21]))))))) (q' ([m' 22 3, c' 23 155 [22], m' 2 23]) .ret)))
theorem b4z : cmp Tryz.prog Tryz.f197 = some a6A := by kernel_rfl
theorem b6u (r : c4) (hpre : j2 r = true) : A0l Tryz.prog 197 [(true, [.i .i64 r.Kind, .s r.Head.Name, .sl false [.s [], .i .i64 0, .s []] (r.Head.Args.map c5.cells), .sl false [.i .i64 0, .s [], .sl false [.s [], .i .i64 0, .s []] [], .i .i64 0, .s [], .i .i64 0, .s [], .s [], .i .i64 0, .s []] (r.Body.map (c8.cells false false))])] [] (.one (false, [.sl true [.s []] ((a2g r).map g8)])) := by
 refine spec_of2 false false none Tryz.func197 b4z (rvs := [.t 2]) (hΓ := mkCtx_ok (deep := false) (l := [(276, [], a6Y), (277, [], a2F), (155, [], a1k)]) ⟨b3T, a9B, a4D, trivial⟩) (h := ?_)
 intro hb hE
 simp only [go_sem] at hb
 simp only [a6A, x']
 have hh := b0s hpre
 have hL := b5K hpre
 (try refine A2V ?_); simp only [go_sem]; (repeat' first | apply CJ.mk | intro hc); all_goals try ((repeat' first | apply And.intro | intro hs) <;> (try simp only [go_sem, Bool.and_eq_false_iff] at hs) <;> omega)
 refine aw_loop2 false [(false, 3, 0, 100006)] [11, 12] [] [] (fun i : {i : Nat // i ≤ r.Body.length} => [(3, .v false [.ow 100006]), (13, slV (.i .i64 i.1))]) (fun i => []) (fun i => [(100006, [.s [], .i .i64 0, .s []], (r.Head.Args ++ (r.Body.take i.1).flatMap a1S).map c5.cells)]) (fun i => r.Body.length - i.1) (⟨0, by simp⟩) _ (by simp only [go_sem]; try rfl) ?_ ?_
 ·simp only [go_sem]
  all_goals first | omega | ((repeat' apply And.intro) <;> first | omega | rfl | skip)
 intro S0 hS0 i
 simp only [go_sem] at hS0
 obtain ⟨i, hi⟩ := i
 have h1 := b7n (b := r.Body.take i) fun l hl => hL l (List.mem_of_mem_take hl)
 rw [List.length_take] at h1
 (try refine A2V ?_); simp only [go_sem, hS0]; (repeat' first | apply CJ.mk | intro hc); all_goals try ((repeat' first | apply And.intro | intro hs) <;> (try simp only [go_sem, Bool.and_eq_false_iff] at hs) <;> omega)
 all_goals first
  | (have h2 := b5R (hL _ (A3l (d := default) (show i < r.Body.length by omega))); (try simp only [List.length_append] at *); omega)
  | ((refine lpK_n2 (⟨i + 1, by omega⟩) _ (by simp only [go_sem]; try rfl) ?_; simp only [go_sem, hS0]; first | done | ((repeat' apply And.intro) <;> first | omega | (refine w64 ?_ ?_ ?_ <;> omega) | rfl | skip)); rw [b4n a1S (by omega)]; simp only [List.map_append, List.append_assoc]; done)
  | (rw [f9 (by omega), ← c5C hpre, c1s]; done)
  | ((try simp only [List.length_append] at *); omega)
  | trace_state
noncomputable def a3Q : CT := p4 (fun (x : c4) h => b6u x h)
@[go_sem] theorem c3e (x0 : Int) (x1 : List UInt8) (x2 : List c5) (x3 : List c8) : a3Q [(true, [.i .i64 x0, .s x1, .sl false [.s [], .i .i64 0, .s []] (x2.map c5.cells), .sl false [.i .i64 0, .s [], .sl false [.s [], .i .i64 0, .s []] [], .i .i64 0, .s [], .i .i64 0, .s [], .s [], .i .i64 0, .s []] (x3.map (c8.cells false false))])] = some (j2 (c4.mk x0 (c9.mk x1 x2) x3) = true, [], .one (false, [.sl true [.s []] ((a2g (c4.mk x0 (c9.mk x1 x2) x3)).map g8)])) := i6 _ (by rintro ⟨_, ⟨_, _⟩, _⟩ ⟨_, ⟨_, _⟩, _⟩ h; simp at h; simp_all) (c4.mk x0 (c9.mk x1 x2) x3)
theorem b0Y : OkC Tryz.prog 197 a3Q := i7 _
@[go_sem] theorem l16T_nil (l : List c5) : u7 [(false, [.sl false [.s []] []]), (false, [.sl false [.s [], .i .i64 0, .s []] (l.map c5.cells)])] = some (0 + l.length < 1099511627776, [], .one (false, [.sl false [.s []] ((j1 sLt [] (j4 l)).map g8)])) := a2U [] l
@[go_sem] theorem l16T_two (a : List (List UInt8)) (v1 : List UInt8) (n1 : Int) (s1 v2 : List UInt8) (n2 : Int) (s2 : List UInt8) : u7 [(false, [.sl false [.s []] (a.map g8)]), (false, [.sl false [.s [], .i .i64 0, .s []] [[.s v1, .i .i64 n1, .s s1], [.s v2, .i .i64 n2, .s s2]]])] = some (a.length + 2 < 1099511627776, [], .one (false, [.sl false [.s []] ((j1 sLt a (j4 [⟨v1, ⟨n1, s1⟩⟩, ⟨v2, ⟨n2, s2⟩⟩])).map g8)])) := a2U a [⟨v1, ⟨n1, s1⟩⟩, ⟨v2, ⟨n2, s2⟩⟩]
theorem c3R (l r s : List (List UInt8)) : j1 sLt (j1 sLt l r) s = j1 sLt l (r ++ s) := by simp [j1, List.foldl_append]
def a6R : ACode := q' ([o' 1 (.box 4 (.t 0)), o' 2 (.mov (.k (.v false [.nl [.s []]])))]) (q' ([o' 5 (.bsl 1 0 [.s] []), m' 3 5]) (.seq (q' ([e' 6 4 1, c' 7 112 [6], o' 8 (.not
 (.t 7))]) (.cond (.t 8) (q' ([m' 9 3, m' 2 9]) .ret) .skip)) (q' ([m' 10 3, f' 11 1 1, f' 12 1 11, l' 13 12, c' 14 152 [10, 13], m' 3 14]) (.seq (q' ([f' 15 3
 1, l' 16 15, n' 17 16, z' 18 0]) (.block 0 (.loop (q' ([r' 19 18 17]) (.seq (.cond (.t 19) .skip (.exit 0)) (.seq (.block 1 (q' ([m' 20 18, m' 4 20]) (q' ([m'
 21 3, f' 22 3 1, l' 23 22, m' 24 4, i' 25 10 23 24, f' 26 1 25, f' 27 1 26, l' 28 27, c' 29 152 [21, 28], m' 3 29]) (.rego [(true, 0, m' 30 3), (true, 1, f'
 31 3 1), (true, 2, l' 32 31), (true, 3, m' 33 4), (true, 4, i' 34 10 32 33), (true, 5, f' 35 4 34), (true, 6, e' 36 3 35), (true, 7, f' 37 3 1), (true, 8, l'
 38 37), (false, 9, m' 39 4), (false, 10, i' 40 10 38 39), (false, 11, f' 41 7 40), (false, 12, e' 42 3 41), (false, 13, o' 43 (.bsl 3 2 [.s, .i .i64, .s] [(0,
 .t 36), (1, .t 42)])), (false, 14, c' 44 152 [30, 43]), (false, 15, m' 3 44)] [2, 3])))) (g' [a' 45 18, m' 18 45]))))))) (q' ([m' 46 3, m' 2 46]) .ret)))))
theorem b4Q : cmp Tryz.prog Tryz.f183 = some a6R := by kernel_rfl
theorem b6L (r : c4) : A0l Tryz.prog 183 [(true, [.i .i64 r.Kind, .s r.Head.Name, .sl false [.s [], .i .i64 0, .s []] (r.Head.Args.map c5.cells), .sl false [.i .i64 0, .s [], .sl false [.s [], .i .i64 0, .s []] [], .i .i64 0, .s [], .i .i64 0, .s [], .s [], .i .i64 0, .s []] (r.Body.map (c8.cells false false))])] [] (.one (false, [.sl false [.s []] ((bif j2 r then a2g r else []).map g8)])) := by
 refine spec_of2 false true none Tryz.func183 b4Q (rvs := [.t 2]) (hΓ := mkCtx_ok (deep := false) (l := [(112, [], t8), (152, [], u7)]) ⟨z5, a8K, trivial⟩) (h := ?_)
 intro hb hE
 simp only [go_sem] at hb
 simp only [a6R, x']
 (try refine A2V ?_); simp only [go_sem]; (repeat' first | apply CJ.mk | intro hc); all_goals try ((repeat' first | apply And.intro | intro hs) <;> (try simp only [go_sem, Bool.and_eq_false_iff] at hs) <;> omega)
 ·rw [hc]; rfl
 ·have := b0s hc; omega
 have hR : j2 r = true := hc
 have hh := b0s hR
 have hA := a9p hR
 rw [hR]
 clear hc
 refine aw_loop2 false [] [1, 17] [2, 3] [] (fun i : {i : Nat // i ≤ r.Body.length} => [(3, .v false [.c (.sl false [.s []] ((j1 sLt [] (j4 r.Head.Args ++ (r.Body.take i.1).flatMap fun l => j4 l.Atom.Args ++ j4 [l.A, l.B])).map g8))]), (18, slV (.i .i64 i.1))]) (fun i => []) (fun i => []) (fun i => r.Body.length - i.1) (⟨0, by simp⟩) _ rfl ?_ ?_
 ·simp only [go_sem]
  all_goals first | omega | ((repeat' apply And.intro) <;> first | omega | rfl | skip)
 intro S0 hS0 i
 simp only [go_sem] at hS0
 obtain ⟨i, hi⟩ := i
 have hp := u4 sLt (j4 r.Head.Args ++ (r.Body.take i).flatMap fun l => j4 l.Atom.Args ++ j4 [l.A, l.B]) []
 have hv := a0E r.Head.Args
 have hf : ((r.Body.take i).flatMap fun l => j4 l.Atom.Args ++ j4 [l.A, l.B]).length ≤ 64 := by
  refine Nat.le_trans ?_ hA
  have e : b0T r = ((r.Body.take i).flatMap fun l => j4 l.Atom.Args ++ j4 [l.A, l.B]) ++ (r.Body.drop i).flatMap fun l => j4 l.Atom.Args ++ j4 [l.A, l.B] := by
   rw [← List.flatMap_append, List.take_append_drop]; rfl
  rw [e, List.length_append]; omega
 simp only [List.length_append, List.length_nil] at hp
 have h2 := u4 sLt (j4 (r.Body.getD i default).Atom.Args) (j1 sLt [] (j4 r.Head.Args ++ (r.Body.take i).flatMap fun l => j4 l.Atom.Args ++ j4 [l.A, l.B]))
 have h3 := a0E (r.Body.getD i default).Atom.Args
 (try refine A2V ?_); simp only [go_sem, hS0]; (repeat' first | apply CJ.mk | intro hc); all_goals try ((repeat' first | apply And.intro | intro hs) <;> (try simp only [go_sem, Bool.and_eq_false_iff] at hs) <;> omega)
 all_goals first
  | (have hq := a4T hR (A3l (d := default) (show i < r.Body.length by omega)); omega)
  | ((refine lpK_n2 (⟨i + 1, by omega⟩) _ rfl ?_; simp only [go_sem, hS0]; first | done | ((repeat' apply And.intro) <;> first | omega | (refine w64 ?_ ?_ ?_ <;> omega) | rfl | skip)); rw [show ((r.Body.take (i + 1)).flatMap fun l => j4 l.Atom.Args ++ j4 [l.A, l.B]) = _ from b4n _ (by omega)]; simp only [c3R, List.append_assoc]; done)
  | ((refine lpK_n2 (⟨i + 1, by omega⟩) _ rfl ?_; simp only [go_sem, hS0]; first | done | ((repeat' apply And.intro) <;> first | omega | (refine w64 ?_ ?_ ?_ <;> omega) | rfl | skip)); trace_state)
  | (rw [f9 (by omega)]; rfl)
  | trace_state
noncomputable def a4b : CT := i8 (fun (x : c4) => b6L x)
@[go_sem] theorem c3v (x0 : Int) (x1 : List UInt8) (x2 : List c5) (x3 : List c8) : a4b [(true, [.i .i64 x0, .s x1, .sl false [.s [], .i .i64 0, .s []] (x2.map c5.cells), .sl false [.i .i64 0, .s [], .sl false [.s [], .i .i64 0, .s []] [], .i .i64 0, .s [], .i .i64 0, .s [], .s [], .i .i64 0, .s []] (x3.map (c8.cells false false))])] = some (True, [], .one (false, [.sl false [.s []] ((bif j2 (c4.mk x0 (c9.mk x1 x2) x3) then a2g (c4.mk x0 (c9.mk x1 x2) x3) else []).map g8)])) := f5 _ (by rintro ⟨_, ⟨_, _⟩, _⟩ ⟨_, ⟨_, _⟩, _⟩ h; simp at h; simp_all) (c4.mk x0 (c9.mk x1 x2) x3)
theorem b1k : OkC Tryz.prog 183 a4b := f7 _
def a3v : ACode := q' ([o' 1 (.box 4 (.t 0)), o' 2 (.mov (.k (.v false [.nl [.s []]])))]) (q' ([e' 7 4 1, c' 8 182 [7], m' 3 8]) (q' ([o' 9 (.bsl 1 0 [.s] []), m' 4 9]) (.seq (q'
 ([e' 10 4 1, c' 11 183 [10], n' 12 11, z' 13 0]) (.block 0 (.loop (q' ([r' 14 13 12]) (.seq (.cond (.t 14) .skip (.exit 0)) (.seq (.block 1 (q' ([i' 15 1 11
 13, l' 16 15, m' 6 16]) (q' ([m' 17 3, m' 18 6, c' 19 153 [17, 18], o' 20 (.not (.t 19))]) (.cond (.t 20) (g' [m' 21 4, m' 22 6, o' 23 (.bsl 1 1 [.s] [(0, .t
 22)]), o' 24 (.app 1 16 [.s] (.t 21) (.t 23)), m' 4 24]) .skip)))) (g' [a' 25 13, m' 13 25]))))))) (q' ([m' 26 4, m' 2 26]) .ret))))
theorem b0m : cmp Tryz.prog Tryz.f113 = some a3v := by kernel_rfl
theorem b1W (r : c4) : A0l Tryz.prog 113 [(true, [.i .i64 r.Kind, .s r.Head.Name, .sl false [.s [], .i .i64 0, .s []] (r.Head.Args.map c5.cells), .sl false [.i .i64 0, .s [], .sl false [.s [], .i .i64 0, .s []] [], .i .i64 0, .s [], .i .i64 0, .s [], .s [], .i .i64 0, .s []] (r.Body.map (c8.cells false false))])] [] (.one (false, [.sl false [.s []] ((a5w r).map g8)])) := by
 refine spec_of2 false true none Tryz.func113 b0m (rvs := [.t 2]) (hΓ := mkCtx_ok (deep := false) (l := [(182, [], a0V), (183, [], a4b), (153, [], z6)]) ⟨a7V, b1k, a0Z, trivial⟩) (h := ?_)
 intro hb hE
 simp only [go_sem] at hb
 simp only [a3v, x']
 have hlv : (bif j2 r then a2g r else []).length ≤ 128 := by
  cases h : j2 r with
  | true => exact c3Y h
  | false => exact Nat.zero_le _
 (try refine A2V ?_); simp only [go_sem]; (repeat' first | apply CJ.mk | intro hc); all_goals try ((repeat' first | apply And.intro | intro hs) <;> (try simp only [go_sem, Bool.and_eq_false_iff] at hs) <;> omega)
 refine aw_loop2 false [(false, 4, 0, 100008)] [3, 11, 12] [] [] (fun i : {i : Nat // i ≤ (bif j2 r then a2g r else []).length} => [(4, .v false [.ow 100008]), (13, slV (.i .i64 i.1))]) (fun i => []) (fun i => [(100008, [.s []], (((bif j2 r then a2g r else []).take i.1).filter fun v => !(bif j2 r then y8 r else []).contains v).map g8)]) (fun i => (bif j2 r then a2g r else []).length - i.1) (⟨0, by simp⟩) _ (by simp only [go_sem]; try rfl) ?_ ?_
 ·simp only [go_sem]
  all_goals first | omega | ((repeat' apply And.intro) <;> first | omega | rfl | skip)
 intro S0 hS0 i
 simp only [go_sem] at hS0
 obtain ⟨i, hi⟩ := i
 have hf := List.length_filter_le (fun v => !(bif j2 r then y8 r else []).contains v) ((bif j2 r then a2g r else []).take i)
 rw [List.length_take] at hf
 (try refine A2V ?_); simp only [go_sem, hS0]; (repeat' first | apply CJ.mk | intro hc); all_goals try ((repeat' first | apply And.intro | intro hs) <;> (try simp only [go_sem, Bool.and_eq_false_iff] at hs) <;> omega)
 all_goals first
  | omega
  | (have hc2 : (fun v => !(bif j2 r then y8 r else []).contains v) ((bif j2 r then a2g r else []).getD i []) = true := by (first | exact hc | (simpa [-List.getD_eq_getElem?_getD] using hc))
     (refine lpK_n2 (⟨i + 1, by omega⟩) _ (by simp only [go_sem]; try rfl) ?_; simp only [go_sem, hS0]; first | done | ((repeat' apply And.intro) <;> first | omega | (refine w64 ?_ ?_ ?_ <;> omega) | rfl | skip))
     rw [c2g (p := fun v => !(bif j2 r then y8 r else []).contains v) [] (by omega) hc2]; done)
  | (have hc2 : (fun v => !(bif j2 r then y8 r else []).contains v) ((bif j2 r then a2g r else []).getD i []) = false := by (first | exact hc | (simpa [-List.getD_eq_getElem?_getD] using hc))
     (refine lpK_n2 (⟨i + 1, by omega⟩) _ (by simp only [go_sem]; try rfl) ?_; simp only [go_sem, hS0]; first | done | ((repeat' apply And.intro) <;> first | omega | (refine w64 ?_ ?_ ?_ <;> omega) | rfl | skip))
     rw [f_no (p := fun v => !(bif j2 r then y8 r else []).contains v) [] (by omega) hc2]; done)
  | (rw [f9 (by omega), a5w]; cases h : j2 r <;> rfl)
  | trace_state
noncomputable def a0X : CT := i8 (fun (x : c4) => b1W x)
@[go_sem] theorem c0b (x0 : Int) (x1 : List UInt8) (x2 : List c5) (x3 : List c8) : a0X [(true, [.i .i64 x0, .s x1, .sl false [.s [], .i .i64 0, .s []] (x2.map c5.cells), .sl false [.i .i64 0, .s [], .sl false [.s [], .i .i64 0, .s []] [], .i .i64 0, .s [], .i .i64 0, .s [], .s [], .i .i64 0, .s []] (x3.map (c8.cells false false))])] = some (True, [], .one (false, [.sl false [.s []] ((a5w (c4.mk x0 (c9.mk x1 x2) x3)).map g8)])) := f5 _ (by rintro ⟨_, ⟨_, _⟩, _⟩ ⟨_, ⟨_, _⟩, _⟩ h; simp at h; simp_all) (c4.mk x0 (c9.mk x1 x2) x3)
theorem a7X : OkC Tryz.prog 113 a0X := f7 _
theorem b7F (k : List (List UInt8)) (x : List UInt8) : Lib.containsS (k.map fun s => (⟨s.toArray⟩ : ByteArray)) ⟨x.toArray⟩ = k.contains x := by
 rw [Bool.eq_iff_iff, Lib.containsS_iff, List.contains_iff_mem, List.mem_map]
 constructor
 ·rintro ⟨s, hs, e⟩
  have e2 : s.toArray = x.toArray := ByteArray.mk.inj e
  have : s = x := by simpa using e2
  exact this ▸ hs
 ·intro h; exact ⟨x, h, rfl⟩
theorem c1n (b o n cap : Nat) (a : Option Addr) (y : ByteArray) (W : World) (r : Bool) (hcell : W.cell? ⟨b, o, none⟩ = some (Value.slice a n cap)) (HC : Aside (Calls Tryz.prog 102 #[.slice a n cap, .string y] W fun e w' => e = .returned (.bool r) ∧ w' = W)) : Calls Tryz.prog 198 #[.string y, .pointer (some ⟨b, o, none⟩)] W fun e w' => e = .returned (.bool r) ∧ ∃ q, w' = W.drewN q := by
 go_enter Tryz.func198, Tryz.ntmps198
 go_wp2_with (go_at_call 102; refine HC.out.mono ?_; rintro e w' ⟨rfl, rfl⟩)
 go_ret
 exact ⟨rfl, 0, rfl⟩
theorem b9x (k : List (List UInt8)) (F : Nat → Prop) (W : World) (lb : List Value) (h : C.RdVals F W [.p [.sl false [.s []] (k.map g8)]] lb []) (x : List UInt8) : FnGives Tryz.prog 198 lb.toArray #[encStr x] (.bool (k.contains x)) W := by
 unfold C.RdVals at h
 obtain ⟨v, vs, f1, f2, rfl, hf, h1, h2⟩ := h
 unfold C.RdVals at h2
 obtain ⟨rfl, rfl⟩ := h2
 unfold C.Rd at h1
 obtain ⟨rfl, b, o, vs, rfl, hFb, hca, hv⟩ := h1
 unfold C.RdVals at hv
 obtain ⟨v, vs', f3, f4, rfl, hf2, hv1, hv2⟩ := hv
 unfold C.RdVals at hv2
 obtain ⟨rfl, rfl⟩ := hv2
 unfold C.Rd at hv1
 obtain ⟨a, cap, rfl, hl1, hl2, hl3, hl4⟩ := hv1
 simp only [cond_false] at hl4
 have hcell := hca 0 (by simp)
 simp only [List.getElem_cons_zero, Nat.add_zero] at hcell
 have hcon : Calls Tryz.prog 102 #[.slice a (k.map g8).length cap, encStr x] W fun e w' => e = .returned (.bool (k.contains x)) ∧ w' = W := by
  rcases hl4.2 with h0 | ⟨b2, o2, vs2, rfl, hF2, hca2, hrr⟩
  ·have hk : k = [] := by simpa using h0
   subst hk
   exact Any.slices_Contains_string_empty Tryz.l110 a cap ⟨x.toArray⟩ W
  ·obtain ⟨rfl, _, hok⟩ := a4S hrr
   have := Any.slices_Contains_string Tryz.l110 b2 o2 k.length cap (k.map fun s => (⟨s.toArray⟩ : ByteArray)) ⟨x.toArray⟩ W (by simp) (by rw [List.length_map] at hl1; simp only [maxLen] at hl2; omega) (fun j hj => by
    have hj' : j < k.length := by simpa using hj
    have := hca2 j (by simpa using hj')
    rw [this]
    simp [encStr, List.getD_eq_getElem?_getD, hj'])
   rw [List.take_of_length_le (by simp), b7F] at this
   rw [List.length_map]
   exact this
 show Calls Tryz.prog 198 #[encStr x, .pointer (some ⟨b, o, none⟩)] W _
 exact c1n b o _ cap a _ W _ hcell hcon
theorem b4X (l : List (List UInt8)) (k : List (List UInt8)) : A0l Tryz.prog 196 [(false, [.sl true [.s []] (l.map g8)]), (false, [.f 198 [.p [.sl false [.s []] (k.map g8)]]])] [] (.one (false, [.sl true [.s []] ((l.filter fun v => !k.contains v).map g8)])) := by
 refine c1b Tryz.delStr (by kernel_rfl) (fun w => Tryz.zeroValue9 w) (enters_of Tryz.func198 (by kernel_rfl) rfl) (fun v => k.contains v) (b9x k) ?_ l
 intro F w lb fp h
 unfold C.RdVals at h
 obtain ⟨v, vs, f1, f2, rfl, hf, h1, h2⟩ := h
 unfold C.RdVals at h2
 obtain ⟨rfl, rfl⟩ := h2
 unfold C.Rd at h1
 rw [hf, h1.1]; rfl
noncomputable def a2x : CT := i8 (fun (x : (List (List UInt8)) × (List (List UInt8))) => b4X x.1 x.2)
@[go_sem] theorem c1C (l k : List (List UInt8)) : a2x [(false, [.sl true [.s []] (l.map g8)]), (false, [.f 198 [.p [.sl false [.s []] (k.map g8)]]])] = some (True, [], .one (false, [.sl true [.s []] ((l.filter fun v => !k.contains v).map g8)])) := f5 _ (by rintro ⟨_, _⟩ ⟨_, _⟩ h; simp at h; simp_all) (l, k)
theorem a9u : OkC Tryz.prog 196 a2x := f7 _
def a3h : ACode := q' ([o' 1 (.box 4 (.t 0)), o' 2 (.mov (.k (.v false [.nl [.s []]])))]) (.seq (q' ([e' 4 4 1, c' 5 117 [4], o' 6 (.not (.t 5))]) (.cond (.t 6) (q' ([o' 2 (.mov
 (.k (.v false [.nl [.s []]])))]) .ret) .skip)) (q' ([e' 7 4 1, c' 8 195 [7], w' 3 [.sl [.s []]], s' 1 3 8]) (q' ([e' 9 4 1, c' 10 197 [9], o' 11 (.mf 198 [.t
 3]), c' 12 196 [10, 11], m' 2 12]) .ret)))
theorem a9Y : cmp Tryz.prog Tryz.f118 = some a3h := by kernel_rfl
theorem b1I (r : c4) : A0l Tryz.prog 118 [(true, [.i .i64 r.Kind, .s r.Head.Name, .sl false [.s [], .i .i64 0, .s []] (r.Head.Args.map c5.cells), .sl false [.i .i64 0, .s [], .sl false [.s [], .i .i64 0, .s []] [], .i .i64 0, .s [], .i .i64 0, .s [], .s [], .i .i64 0, .s []] (r.Body.map (c8.cells false false))])] [] (.one (false, [.sl true [.s []] ((a5w r).map g8)])) := by
 refine spec_of2 false false none Tryz.func118 a9Y (rvs := [.t 2]) (hΓ := mkCtx_ok (deep := false) (l := [(117, [], a1i), (195, [], a5j), (197, [], a3Q), (196, [0], a2x)]) ⟨a4B, b2D, b0Y, a9u, trivial⟩) (h := ?_)
 intro hb hE
 simp only [go_sem] at hb
 simp only [a3h, x']
 (try refine A2V ?_); simp only [go_sem]; (repeat' first | apply CJ.mk | intro hc); all_goals try ((repeat' first | apply And.intro | intro hs) <;> (try simp only [go_sem, Bool.and_eq_false_iff] at hs) <;> omega)
 all_goals (have h9 : j2 r = _ := hc; rw [a5w, h9]; first | rfl | trace_state)
noncomputable def a0L : CT := i8 (fun (x : c4) => b1I x)
@[go_sem] theorem b9N (x0 : Int) (x1 : List UInt8) (x2 : List c5) (x3 : List c8) : a0L [(true, [.i .i64 x0, .s x1, .sl false [.s [], .i .i64 0, .s []] (x2.map c5.cells), .sl false [.i .i64 0, .s [], .sl false [.s [], .i .i64 0, .s []] [], .i .i64 0, .s [], .i .i64 0, .s [], .s [], .i .i64 0, .s []] (x3.map (c8.cells false false))])] = some (True, [], .one (false, [.sl true [.s []] ((a5w (c4.mk x0 (c9.mk x1 x2) x3)).map g8)])) := f5 _ (by rintro ⟨_, ⟨_, _⟩, _⟩ ⟨_, ⟨_, _⟩, _⟩ h; simp at h; simp_all) (c4.mk x0 (c9.mk x1 x2) x3)
theorem a7L : OkC Tryz.prog 118 a0L := f7 _
end Go.Aw
