/- The law of fitting. No condition. -/
import Derived.Test.YthlbadfickhkfaaeaT25
import Derived.Test.YthlbadfickhkfaaeaB2
import Derived.Test.YthlbadfickhkfaaeaB4
import Derived.Test.YthlbadfickhkfaaeaM2
namespace Go.Aw
open Go.Proofs
attribute [local irreducible] aft blk lpK retK AW A0l
set_option linter.unusedVariables false
set_option linter.unusedSimpArgs false
set_option maxRecDepth 100000
set_option linter.all false
theorem b1A (e : c8) (args : List c7) (row : c9) : (a2i e args row).1.Binds.length ≤ 60 := by
 unfold a2i
 cases s9 e && u2 row && args.all j4 with
 | false => exact Nat.zero_le _
 | true =>
   rw [cond_true]
   cases h : (s8 e args row).2 && decide (((s8 e args row).1.Binds.length : Int) ≤ 60) with
   | false => exact Nat.zero_le _
   | true =>
     rw [cond_true]
     simp only [Bool.and_eq_true, decide_eq_true_eq] at h
     omega
def z0 : ACode := q' ([z' 4 0]) (.seq (q' ([z' 5 0]) (.block 0 (.loop (.seq (q' ([m' 6 5, m' 7 0, n' 8 7, r' 9 6 8]) (.cond (.t 9) .skip (.exit 0))) (.seq (.block 1 (.seq (.seq
 (.reg true [m' 12 0, m' 13 5, i' 14 3 12 13, f' 15 0 14, l' 16 15, m' 17 1, c' 18 56 [17], o' 19 (.bin .neq (.t 16) (.t 18))]) (.cond (.t 19) (q' ([o' 4 (.mov
 (.k (.v false [.c (.i .i64 (-1))])))]) .ret) .skip)) (q' ([m' 20 1, a' 21 20, m' 1 21]) (.seq (q' ([m' 22 0, m' 23 5, i' 24 3 22 23, f' 25 1 24, f' 26 0 25,
 l' 27 26, m' 28 1, o' 29 (.bin .neq (.t 27) (.t 28))]) (.cond (.t 29) (q' ([o' 4 (.mov (.k (.v false [.c (.i .i64 (-1))])))]) .ret) .skip)) (q' ([m' 30 1, a'
 31 30, m' 1 31]) (.seq (.seq (.reg true [m' 32 0, m' 33 5, i' 34 3 32 33, f' 35 1 34, f' 36 1 35, l' 37 36, m' 38 1, c' 39 56 [38], o' 40 (.bin .neq (.t 37)
 (.t 39))]) (.cond (.t 40) (q' ([o' 4 (.mov (.k (.v false [.c (.i .i64 (-1))])))]) .ret) .skip)) (g' [m' 41 1, a' 42 41, m' 1 42]))))))) (g' [m' 10 5, a' 11
 10, m' 5 11])))))) (q' ([m' 43 1, m' 4 43]) .ret))
theorem a3m : cmp Try.prog Try.f58 = some z0 := by kernel_rfl
theorem a3W (a : List c4) (k : Int) (hpre : (0 ≤ k ∧ k + 3 * (a.length : Nat) ≤ 4611686018427387904) ∧ a = k6 a.length k) : A0l Try.prog 58 [(false, [.sl false [.s [], .i .i64 0, .s []] (a.map c4.cells)]), (false, [.i .i64 k])] [] (.one (false, [.i .i64 (k + 3 * (a.length : Nat))])) := by
 refine spec_of2 false false none Try.func58 a3m (rvs := [.t 4]) (hΓ := mkCtx_ok (deep := false) (l := [(56, [], k7)]) ⟨l6, trivial⟩) (h := ?_)
 intro hb hE
 simp only [go_sem] at hb
 simp only [z0, x']
 (try refine A2V ?_); simp only [go_sem]; (repeat' first | apply CJ.mk | intro hc); all_goals try ((repeat' first | apply And.intro | intro hs) <;> (try simp only [go_sem, Bool.and_eq_false_iff] at hs) <;> omega)
 refine aw_loop2 false [] [0] [] [] (fun i : {i : Nat // i ≤ a.length} => [(5, slV (.i .i64 i.1)), (1, slV (.i .i64 (k + 3 * (i.1 : Int))))]) (fun i => []) (fun i => []) (fun i => a.length - i.1) (⟨0, by omega⟩) _ rfl ?_ ?_
 ·simp only [go_sem]
  all_goals first | omega | ((repeat' apply And.intro) <;> first | omega | rfl | skip)
 intro S0 hS0 i
 simp only [go_sem] at hS0
 obtain ⟨i, hi⟩ := i
 by_cases hil : (i : Int) < a.length
 ·have hx : a.getD i default = v9 (k + 3 * (i : Int)) := by rw [hpre.2]; exact a1V _ _ (by omega)
  have hw0 : IntKind.i64.wrap (k + 3 * (i : Int) + 1) = k + 3 * (i : Int) + 1 := w64 (by omega) (by omega) (by omega)
  have hw1 : IntKind.i64.wrap (k + 3 * (i : Int) + 1 + 1) = k + 3 * (i : Int) + 2 := w64 (by omega) (by omega) (by omega)
  have hw2 : IntKind.i64.wrap (k + 3 * (i : Int) + 2 + 1) = k + 3 * (i : Int) + 3 := w64 (by omega) (by omega) (by omega)
  (try refine A2V ?_); simp only [go_sem, hS0, hil, hx, v9, hw0, hw1, hw2]; (repeat' first | apply CJ.mk | intro hc); all_goals try ((repeat' first | apply And.intro | intro hs) <;> (try simp only [go_sem, Bool.and_eq_false_iff] at hs) <;> omega)
  all_goals first
   | (exfalso; simp at hc; done)
   | ((refine lpK_n2 (⟨i + 1, by omega⟩) _ rfl ?_; simp only [go_sem, hS0, hil, hx, v9, hw0, hw1, hw2]; first | done | ((repeat' apply And.intro) <;> first | omega | (refine w64 ?_ ?_ ?_ <;> omega) | rfl | skip)); done)
   | trace_state
 ·(try refine A2V ?_); simp only [go_sem, hS0, hil]; (repeat' first | apply CJ.mk | intro hc); all_goals try ((repeat' first | apply And.intro | intro hs) <;> (try simp only [go_sem, Bool.and_eq_false_iff] at hs) <;> omega)
  all_goals (obtain rfl : i = a.length := by omega)
  all_goals rfl
noncomputable def t3 : CT := s6 (fun (x : (List c4) × Int) h => a3W x.1 x.2 h)
@[go_sem] theorem a8t (a : List c4) (k : Int) : t3 [(false, [.sl false [.s [], .i .i64 0, .s []] (a.map c4.cells)]), (false, [.i .i64 k])] = some ((0 ≤ k ∧ k + 3 * (a.length : Nat) ≤ 4611686018427387904) ∧ a = k6 a.length k, [], .one (false, [.i .i64 (k + 3 * (a.length : Nat))])) := i7 _ (by rintro ⟨_, _⟩ ⟨_, _⟩ h; simp at h; simp_all) (a, k)
theorem a2e : OkC Try.prog 58 t3 := i8 _
def a1g : ACode := q' ([o' 2 (.box 1 (.t 0)), z' 4 0]) (q' ([f' 5 0 2, l' 6 5, m' 7 1, c' 8 58 [6, 7], m' 1 8]) (.seq (q' ([m' 9 1, o' 10 (.bin .lss (.t 9) (k' 0))]) (.cond (.t
 10) (q' ([o' 4 (.mov (.k (.v false [.c (.i .i64 (-1))])))]) .ret) .skip)) (q' ([m' 11 1, m' 4 11]) .ret)))
theorem a4M : cmp Try.prog Try.f23 = some a1g := by kernel_rfl
theorem a5U (a : c8) (k : Int) (hpre : (0 ≤ k ∧ (k + 3 * (a.Binds.length : Nat)) ≤ 4611686018427387904) ∧ a = (c8.mk (k6 a.Binds.length k))) : A0l Try.prog 23 [(true, [.sl false [.s [], .i .i64 0, .s []] (a.Binds.map c4.cells)]), (false, [.i .i64 k])] [] (.one (false, [.i .i64 (k + 3 * (a.Binds.length : Nat))])) := by
 refine spec_of2 false false none Try.func23 a4M (rvs := [.t 4]) (hΓ := mkCtx_ok (deep := false) (l := [(58, [], t3)]) ⟨a2e, trivial⟩) (h := ?_)
 intro hb hE
 simp only [go_sem] at hb
 simp only [a1g, x']
 (try refine A2V ?_); simp only [go_sem]; (repeat' first | apply CJ.mk | intro hc); all_goals try ((repeat' first | apply And.intro | intro hs) <;> (try simp only [go_sem, Bool.and_eq_false_iff] at hs) <;> omega)
 all_goals first | exact hpre | (simp only at *; omega) | (exfalso; omega) | (refine ⟨by omega, ?_⟩; have h1 := hpre.2; first | exact congrArg c8.Binds h1 | (cases a; simp_all)) | trace_state
noncomputable def x8 : CT := s6 (fun (x : c8 × Int) h => a5U x.1 x.2 h)
@[go_sem] theorem a9s (x0 : List c4) (k : Int) : x8 [(true, [.sl false [.s [], .i .i64 0, .s []] (x0.map c4.cells)]), (false, [.i .i64 k])] = some ((0 ≤ k ∧ (k + 3 * ((c8.mk x0).Binds.length : Nat)) ≤ 4611686018427387904) ∧ (c8.mk x0) = (c8.mk (k6 (c8.mk x0).Binds.length k)), [], .one (false, [.i .i64 (k + 3 * ((c8.mk x0).Binds.length : Nat))])) := i7 _ (by rintro ⟨⟨_⟩, _⟩ ⟨⟨_⟩, _⟩ h; simp at h; simp_all) ((c8.mk x0), k)
theorem a3f : OkC Try.prog 23 x8 := i8 _
set_option maxHeartbeats 40000000
attribute [local irreducible] RM
def w4 : ACode := q' ([o' 3 (.box 1 (.t 0)), o' 5 (.box 1 (.t 2)), b' 6 false]) (q' ([z' 7 1048576]) (q' ([e' 20 1 3, m' 21 7, c' 22 11 [20, 21], m' 7 22]) (.seq (q' ([m' 23 7,
 o' 24 (.bin .lss (.t 23) (k' 0))]) (.cond (.t 24) (q' ([b' 6 true]) .ret) .skip)) (q' ([m' 25 1, m' 26 7, c' 27 12 [25, 26], m' 7 27]) (.seq (q' ([m' 28 7, o'
 29 (.bin .lss (.t 28) (k' 0))]) (.cond (.t 29) (q' ([b' 6 true]) .ret) .skip)) (q' ([e' 30 1 5, m' 31 7, c' 32 13 [30, 31], m' 7 32]) (.seq (q' ([m' 33 7, o'
 34 (.bin .lss (.t 33) (k' 0))]) (.cond (.t 34) (q' ([b' 6 true]) .ret) .skip)) (.seq (.regm [(true, 0, e' 36 1 3), (true, 2, m' 38 1), (true, 4, e' 40 1 5),
 (false, 1, c' 37 14 [36]), (false, 3, c' 39 15 [38]), (false, 5, c' 41 16 [40]), (false, 6, c' 42 7 [37, 39, 41]), (false, 7, m' 35 42), (false, 8, o' 43
 (.ext (.t 35) 0)), (false, 9, o' 44 (.ext (.t 35) 1)), (false, 10, w' 8 [.sl [.s [], .i .i64 0, .s []]]), (false, 11, s' 1 8 43), (false, 12, m' 9 44)]
 [[(true, 0, e' 36 1 3), (true, 2, m' 38 1), (true, 4, e' 40 1 5), (false, 1, c' 37 14 [36]), (false, 3, c' 39 15 [38]), (false, 5, c' 41 16 [40]), (false, 6,
 c' 42 7 [37, 39, 41]), (false, 7, m' 35 42), (false, 8, o' 43 (.ext (.t 35) 0)), (false, 10, w' 8 [.sl [.s [], .i .i64 0, .s []]]), (false, 9, o' 44 (.ext (.t
 35) 1)), (false, 11, s' 1 8 43), (false, 12, m' 9 44)], [(true, 0, e' 36 1 3), (true, 2, m' 38 1), (true, 4, e' 40 1 5), (false, 1, c' 37 14 [36]), (false, 3,
 c' 39 15 [38]), (false, 5, c' 41 16 [40]), (false, 6, c' 42 7 [37, 39, 41]), (false, 7, m' 35 42), (false, 8, o' 43 (.ext (.t 35) 0)), (false, 10, w' 8 [.sl
 [.s [], .i .i64 0, .s []]]), (false, 11, s' 1 8 43), (false, 9, o' 44 (.ext (.t 35) 1)), (false, 12, m' 9 44)], [(true, 0, e' 36 1 3), (true, 2, m' 38 1),
 (true, 4, e' 40 1 5), (false, 1, c' 37 14 [36]), (false, 3, c' 39 15 [38]), (false, 5, c' 41 16 [40]), (false, 6, c' 42 7 [37, 39, 41]), (false, 7, m' 35 42),
 (false, 9, o' 44 (.ext (.t 35) 1)), (false, 8, o' 43 (.ext (.t 35) 0)), (false, 10, w' 8 [.sl [.s [], .i .i64 0, .s []]]), (false, 11, s' 1 8 43), (false, 12,
 m' 9 44)], [(true, 0, e' 36 1 3), (true, 2, m' 38 1), (true, 4, e' 40 1 5), (false, 1, c' 37 14 [36]), (false, 3, c' 39 15 [38]), (false, 5, c' 41 16 [40]),
 (false, 6, c' 42 7 [37, 39, 41]), (false, 7, m' 35 42), (false, 9, o' 44 (.ext (.t 35) 1)), (false, 10, w' 8 [.sl [.s [], .i .i64 0, .s []]]), (false, 8, o'
 43 (.ext (.t 35) 0)), (false, 11, s' 1 8 43), (false, 12, m' 9 44)], [(true, 0, e' 36 1 3), (true, 2, m' 38 1), (true, 4, e' 40 1 5), (false, 1, c' 37 14
 [36]), (false, 3, c' 39 15 [38]), (false, 5, c' 41 16 [40]), (false, 6, c' 42 7 [37, 39, 41]), (false, 7, m' 35 42), (false, 10, w' 8 [.sl [.s [], .i .i64 0,
 .s []]]), (false, 8, o' 43 (.ext (.t 35) 0)), (false, 9, o' 44 (.ext (.t 35) 1)), (false, 11, s' 1 8 43), (false, 12, m' 9 44)], [(true, 0, e' 36 1 3), (true,
 2, m' 38 1), (true, 4, e' 40 1 5), (false, 1, c' 37 14 [36]), (false, 3, c' 39 15 [38]), (false, 5, c' 41 16 [40]), (false, 6, c' 42 7 [37, 39, 41]), (false,
 7, m' 35 42), (false, 10, w' 8 [.sl [.s [], .i .i64 0, .s []]]), (false, 8, o' 43 (.ext (.t 35) 0)), (false, 11, s' 1 8 43), (false, 9, o' 44 (.ext (.t 35)
 1)), (false, 12, m' 9 44)], [(true, 0, e' 36 1 3), (true, 2, m' 38 1), (true, 4, e' 40 1 5), (false, 1, c' 37 14 [36]), (false, 3, c' 39 15 [38]), (false, 5,
 c' 41 16 [40]), (false, 6, c' 42 7 [37, 39, 41]), (false, 7, m' 35 42), (false, 10, w' 8 [.sl [.s [], .i .i64 0, .s []]]), (false, 9, o' 44 (.ext (.t 35) 1)),
 (false, 8, o' 43 (.ext (.t 35) 0)), (false, 11, s' 1 8 43), (false, 12, m' 9 44)], [(true, 0, e' 36 1 3), (true, 2, m' 38 1), (true, 4, e' 40 1 5), (false, 1,
 c' 37 14 [36]), (false, 3, c' 39 15 [38]), (false, 5, c' 41 16 [40]), (false, 6, c' 42 7 [37, 39, 41]), (false, 10, w' 8 [.sl [.s [], .i .i64 0, .s []]]),
 (false, 7, m' 35 42), (false, 8, o' 43 (.ext (.t 35) 0)), (false, 9, o' 44 (.ext (.t 35) 1)), (false, 11, s' 1 8 43), (false, 12, m' 9 44)], [(true, 0, e' 36
 1 3), (true, 2, m' 38 1), (true, 4, e' 40 1 5), (false, 1, c' 37 14 [36]), (false, 3, c' 39 15 [38]), (false, 5, c' 41 16 [40]), (false, 6, c' 42 7 [37, 39,
 41]), (false, 10, w' 8 [.sl [.s [], .i .i64 0, .s []]]), (false, 7, m' 35 42), (false, 8, o' 43 (.ext (.t 35) 0)), (false, 11, s' 1 8 43), (false, 9, o' 44
 (.ext (.t 35) 1)), (false, 12, m' 9 44)], [(true, 0, e' 36 1 3), (true, 2, m' 38 1), (true, 4, e' 40 1 5), (false, 1, c' 37 14 [36]), (false, 3, c' 39 15
 [38]), (false, 5, c' 41 16 [40]), (false, 6, c' 42 7 [37, 39, 41]), (false, 10, w' 8 [.sl [.s [], .i .i64 0, .s []]]), (false, 7, m' 35 42), (false, 9, o' 44
 (.ext (.t 35) 1)), (false, 8, o' 43 (.ext (.t 35) 0)), (false, 11, s' 1 8 43), (false, 12, m' 9 44)], [(true, 0, e' 36 1 3), (true, 2, m' 38 1), (true, 4, e'
 40 1 5), (false, 1, c' 37 14 [36]), (false, 3, c' 39 15 [38]), (false, 5, c' 41 16 [40]), (false, 10, w' 8 [.sl [.s [], .i .i64 0, .s []]]), (false, 6, c' 42
 7 [37, 39, 41]), (false, 7, m' 35 42), (false, 8, o' 43 (.ext (.t 35) 0)), (false, 9, o' 44 (.ext (.t 35) 1)), (false, 11, s' 1 8 43), (false, 12, m' 9 44)],
 [(true, 0, e' 36 1 3), (true, 2, m' 38 1), (true, 4, e' 40 1 5), (false, 1, c' 37 14 [36]), (false, 3, c' 39 15 [38]), (false, 5, c' 41 16 [40]), (false, 10,
 w' 8 [.sl [.s [], .i .i64 0, .s []]]), (false, 6, c' 42 7 [37, 39, 41]), (false, 7, m' 35 42), (false, 8, o' 43 (.ext (.t 35) 0)), (false, 11, s' 1 8 43),
 (false, 9, o' 44 (.ext (.t 35) 1)), (false, 12, m' 9 44)], [(true, 0, e' 36 1 3), (true, 2, m' 38 1), (true, 4, e' 40 1 5), (false, 1, c' 37 14 [36]), (false,
 3, c' 39 15 [38]), (false, 5, c' 41 16 [40]), (false, 10, w' 8 [.sl [.s [], .i .i64 0, .s []]]), (false, 6, c' 42 7 [37, 39, 41]), (false, 7, m' 35 42),
 (false, 9, o' 44 (.ext (.t 35) 1)), (false, 8, o' 43 (.ext (.t 35) 0)), (false, 11, s' 1 8 43), (false, 12, m' 9 44)], [(true, 0, e' 36 1 3), (true, 2, m' 38
 1), (true, 4, e' 40 1 5), (false, 1, c' 37 14 [36]), (false, 3, c' 39 15 [38]), (false, 10, w' 8 [.sl [.s [], .i .i64 0, .s []]]), (false, 5, c' 41 16 [40]),
 (false, 6, c' 42 7 [37, 39, 41]), (false, 7, m' 35 42), (false, 8, o' 43 (.ext (.t 35) 0)), (false, 9, o' 44 (.ext (.t 35) 1)), (false, 11, s' 1 8 43),
 (false, 12, m' 9 44)], [(true, 0, e' 36 1 3), (true, 2, m' 38 1), (true, 4, e' 40 1 5), (false, 1, c' 37 14 [36]), (false, 3, c' 39 15 [38]), (false, 10, w' 8
 [.sl [.s [], .i .i64 0, .s []]]), (false, 5, c' 41 16 [40]), (false, 6, c' 42 7 [37, 39, 41]), (false, 7, m' 35 42), (false, 8, o' 43 (.ext (.t 35) 0)),
 (false, 11, s' 1 8 43), (false, 9, o' 44 (.ext (.t 35) 1)), (false, 12, m' 9 44)], [(true, 0, e' 36 1 3), (true, 2, m' 38 1), (true, 4, e' 40 1 5), (false, 1,
 c' 37 14 [36]), (false, 3, c' 39 15 [38]), (false, 10, w' 8 [.sl [.s [], .i .i64 0, .s []]]), (false, 5, c' 41 16 [40]), (false, 6, c' 42 7 [37, 39, 41]),
 (false, 7, m' 35 42), (false, 9, o' 44 (.ext (.t 35) 1)), (false, 8, o' 43 (.ext (.t 35) 0)), (false, 11, s' 1 8 43), (false, 12, m' 9 44)], [(true, 0, e' 36
 1 3), (true, 2, m' 38 1), (true, 4, e' 40 1 5), (false, 1, c' 37 14 [36]), (false, 10, w' 8 [.sl [.s [], .i .i64 0, .s []]]), (false, 3, c' 39 15 [38]),
 (false, 5, c' 41 16 [40]), (false, 6, c' 42 7 [37, 39, 41]), (false, 7, m' 35 42), (false, 8, o' 43 (.ext (.t 35) 0)), (false, 9, o' 44 (.ext (.t 35) 1)),
 (false, 11, s' 1 8 43), (false, 12, m' 9 44)], [(true, 0, e' 36 1 3), (true, 2, m' 38 1), (true, 4, e' 40 1 5), (false, 1, c' 37 14 [36]), (false, 10, w' 8
 [.sl [.s [], .i .i64 0, .s []]]), (false, 3, c' 39 15 [38]), (false, 5, c' 41 16 [40]), (false, 6, c' 42 7 [37, 39, 41]), (false, 7, m' 35 42), (false, 8, o'
 43 (.ext (.t 35) 0)), (false, 11, s' 1 8 43), (false, 9, o' 44 (.ext (.t 35) 1)), (false, 12, m' 9 44)], [(true, 0, e' 36 1 3), (true, 2, m' 38 1), (true, 4,
 e' 40 1 5), (false, 1, c' 37 14 [36]), (false, 10, w' 8 [.sl [.s [], .i .i64 0, .s []]]), (false, 3, c' 39 15 [38]), (false, 5, c' 41 16 [40]), (false, 6, c'
 42 7 [37, 39, 41]), (false, 7, m' 35 42), (false, 9, o' 44 (.ext (.t 35) 1)), (false, 8, o' 43 (.ext (.t 35) 0)), (false, 11, s' 1 8 43), (false, 12, m' 9
 44)], [(true, 0, e' 36 1 3), (true, 2, m' 38 1), (true, 4, e' 40 1 5), (false, 10, w' 8 [.sl [.s [], .i .i64 0, .s []]]), (false, 1, c' 37 14 [36]), (false,
 3, c' 39 15 [38]), (false, 5, c' 41 16 [40]), (false, 6, c' 42 7 [37, 39, 41]), (false, 7, m' 35 42), (false, 8, o' 43 (.ext (.t 35) 0)), (false, 9, o' 44
 (.ext (.t 35) 1)), (false, 11, s' 1 8 43), (false, 12, m' 9 44)], [(true, 0, e' 36 1 3), (true, 2, m' 38 1), (true, 4, e' 40 1 5), (false, 10, w' 8 [.sl [.s
 [], .i .i64 0, .s []]]), (false, 1, c' 37 14 [36]), (false, 3, c' 39 15 [38]), (false, 5, c' 41 16 [40]), (false, 6, c' 42 7 [37, 39, 41]), (false, 7, m' 35
 42), (false, 8, o' 43 (.ext (.t 35) 0)), (false, 11, s' 1 8 43), (false, 9, o' 44 (.ext (.t 35) 1)), (false, 12, m' 9 44)], [(true, 0, e' 36 1 3), (true, 2,
 m' 38 1), (true, 4, e' 40 1 5), (false, 10, w' 8 [.sl [.s [], .i .i64 0, .s []]]), (false, 1, c' 37 14 [36]), (false, 3, c' 39 15 [38]), (false, 5, c' 41 16
 [40]), (false, 6, c' 42 7 [37, 39, 41]), (false, 7, m' 35 42), (false, 9, o' 44 (.ext (.t 35) 1)), (false, 8, o' 43 (.ext (.t 35) 0)), (false, 11, s' 1 8 43),
 (false, 12, m' 9 44)]] [6, 7, 10, 11]) (q' ([e' 45 1 3, c' 46 14 [45], w' 10 [.sl [.s [], .i .i64 0, .s []]], s' 1 10 46]) (q' ([m' 47 1, c' 48 15 [47], m' 11
 48]) (q' ([e' 49 1 5, c' 50 16 [49], w' 12 [.sl [.i .i64 0, .s []]], s' 1 12 50]) (q' ([e' 52 1 10, m' 53 11, e' 54 1 12, c' 55 6 [52, 53, 54], m' 51 55, o'
 56 (.ext (.t 51) 0), o' 57 (.ext (.t 51) 1), w' 13 [.sl [.s [], .i .i64 0, .s []]], s' 1 13 56, m' 14 57]) (.seq (q' ([e' 58 1 13, e' 59 1 8, c' 60 17 [58,
 59], o' 61 (.not (.t 60)), m' 62 61, ⟨some 63, .mov (.t 14), some (62, false)⟩, ⟨some 64, .mov (.t 9), some (62, false)⟩, ⟨some 65, .binb .neq (.t 63) (.t
 64), some (62, false)⟩, o' 66 (.pick (.t 62) (.k (.v false [.c (.b true)])) (.t 65))]) (.cond (.t 66) (q' ([b' 6 false]) .ret) .skip)) (.seq (.seq (.reg true
 [e' 67 1 10, e' 68 1 3, c' 69 14 [68], c' 70 17 [67, 69], o' 71 (.not (.t 70))]) (.cond (.t 71) (q' ([b' 6 false]) .ret) .skip)) (.seq (q' ([m' 72 11, m' 73
 1, c' 74 15 [73], c' 75 18 [72, 74], o' 76 (.not (.t 75))]) (.cond (.t 76) (q' ([b' 6 false]) .ret) .skip)) (.seq (.seq (.reg true [e' 77 1 12, e' 78 1 5, c'
 79 16 [78], c' 80 19 [77, 79], o' 81 (.not (.t 80))]) (.cond (.t 81) (q' ([b' 6 false]) .ret) .skip)) (q' ([z' 15 1]) (q' ([e' 82 1 10, m' 83 15, c' 84 20
 [82, 83], m' 15 84]) (q' ([m' 85 11, m' 86 15, c' 87 21 [85, 86], m' 15 87]) (q' ([e' 88 1 12, m' 89 15, c' 90 22 [88, 89], m' 15 90]) (.seq (q' ([m' 91 15,
 o' 92 (.bin .lss (.t 91) (k' 0)), m' 93 92, ⟨some 94, .ld true 1 (.t 13), some (93, false)⟩, ⟨some 95, .ld true 1 (.t 8), some (93, false)⟩, ⟨some 96, .call
 17 [.t 94, .t 95], some (93, false)⟩, ⟨some 97, .not (.t 96), some (93, false)⟩, o' 98 (.pick (.t 93) (.k (.v false [.c (.b true)])) (.t 97)), m' 99 98, ⟨some
 100, .mov (.t 14), some (99, false)⟩, ⟨some 101, .mov (.t 9), some (99, false)⟩, ⟨some 102, .binb .neq (.t 100) (.t 101), some (99, false)⟩, o' 103 (.pick (.t
 99) (.k (.v false [.c (.b true)])) (.t 102))]) (.cond (.t 103) (q' ([b' 6 false]) .ret) .skip)) (q' ([z' 16 1]) (q' ([e' 104 1 13, m' 105 16, c' 106 20 [104,
 105], m' 16 106]) (q' ([z' 17 1]) (q' ([e' 107 1 13, m' 108 17, c' 109 23 [107, 108], m' 17 109]) (.seq (q' ([m' 110 17, o' 111 (.bin .lss (.t 110) (k' 0))])
 (.cond (.t 111) (q' ([b' 6 false]) .ret) .skip)) (.seq (q' ([m' 112 17, m' 113 16, o' 114 (.bin .neq (.t 112) (.t 113))]) (.cond (.t 114) (q' ([b' 6 false])
 .ret) .skip)) (.seq (.regm [(true, 0, e' 116 1 3), (true, 2, m' 118 1), (true, 4, e' 120 1 5), (false, 1, c' 117 14 [116]), (false, 3, c' 119 15 [118]),
 (false, 5, c' 121 16 [120]), (false, 6, c' 122 6 [117, 119, 121]), (false, 7, m' 115 122), (false, 8, o' 123 (.ext (.t 115) 0)), (false, 9, o' 124 (.ext (.t
 115) 1)), (false, 10, w' 18 [.sl [.s [], .i .i64 0, .s []]]), (false, 11, s' 1 18 123), (false, 12, m' 19 124)] [[(true, 0, e' 116 1 3), (true, 2, m' 118 1),
 (true, 4, e' 120 1 5), (false, 1, c' 117 14 [116]), (false, 3, c' 119 15 [118]), (false, 5, c' 121 16 [120]), (false, 6, c' 122 6 [117, 119, 121]), (false, 7,
 m' 115 122), (false, 8, o' 123 (.ext (.t 115) 0)), (false, 10, w' 18 [.sl [.s [], .i .i64 0, .s []]]), (false, 9, o' 124 (.ext (.t 115) 1)), (false, 11, s' 1
 18 123), (false, 12, m' 19 124)], [(true, 0, e' 116 1 3), (true, 2, m' 118 1), (true, 4, e' 120 1 5), (false, 1, c' 117 14 [116]), (false, 3, c' 119 15
 [118]), (false, 5, c' 121 16 [120]), (false, 6, c' 122 6 [117, 119, 121]), (false, 7, m' 115 122), (false, 8, o' 123 (.ext (.t 115) 0)), (false, 10, w' 18
 [.sl [.s [], .i .i64 0, .s []]]), (false, 11, s' 1 18 123), (false, 9, o' 124 (.ext (.t 115) 1)), (false, 12, m' 19 124)], [(true, 0, e' 116 1 3), (true, 2,
 m' 118 1), (true, 4, e' 120 1 5), (false, 1, c' 117 14 [116]), (false, 3, c' 119 15 [118]), (false, 5, c' 121 16 [120]), (false, 6, c' 122 6 [117, 119, 121]),
 (false, 7, m' 115 122), (false, 9, o' 124 (.ext (.t 115) 1)), (false, 8, o' 123 (.ext (.t 115) 0)), (false, 10, w' 18 [.sl [.s [], .i .i64 0, .s []]]),
 (false, 11, s' 1 18 123), (false, 12, m' 19 124)], [(true, 0, e' 116 1 3), (true, 2, m' 118 1), (true, 4, e' 120 1 5), (false, 1, c' 117 14 [116]), (false, 3,
 c' 119 15 [118]), (false, 5, c' 121 16 [120]), (false, 6, c' 122 6 [117, 119, 121]), (false, 7, m' 115 122), (false, 9, o' 124 (.ext (.t 115) 1)), (false, 10,
 w' 18 [.sl [.s [], .i .i64 0, .s []]]), (false, 8, o' 123 (.ext (.t 115) 0)), (false, 11, s' 1 18 123), (false, 12, m' 19 124)], [(true, 0, e' 116 1 3),
 (true, 2, m' 118 1), (true, 4, e' 120 1 5), (false, 1, c' 117 14 [116]), (false, 3, c' 119 15 [118]), (false, 5, c' 121 16 [120]), (false, 6, c' 122 6 [117,
 119, 121]), (false, 7, m' 115 122), (false, 10, w' 18 [.sl [.s [], .i .i64 0, .s []]]), (false, 8, o' 123 (.ext (.t 115) 0)), (false, 9, o' 124 (.ext (.t 115)
 1)), (false, 11, s' 1 18 123), (false, 12, m' 19 124)], [(true, 0, e' 116 1 3), (true, 2, m' 118 1), (true, 4, e' 120 1 5), (false, 1, c' 117 14 [116]),
 (false, 3, c' 119 15 [118]), (false, 5, c' 121 16 [120]), (false, 6, c' 122 6 [117, 119, 121]), (false, 7, m' 115 122), (false, 10, w' 18 [.sl [.s [], .i .i64
 0, .s []]]), (false, 8, o' 123 (.ext (.t 115) 0)), (false, 11, s' 1 18 123), (false, 9, o' 124 (.ext (.t 115) 1)), (false, 12, m' 19 124)], [(true, 0, e' 116
 1 3), (true, 2, m' 118 1), (true, 4, e' 120 1 5), (false, 1, c' 117 14 [116]), (false, 3, c' 119 15 [118]), (false, 5, c' 121 16 [120]), (false, 6, c' 122 6
 [117, 119, 121]), (false, 7, m' 115 122), (false, 10, w' 18 [.sl [.s [], .i .i64 0, .s []]]), (false, 9, o' 124 (.ext (.t 115) 1)), (false, 8, o' 123 (.ext
 (.t 115) 0)), (false, 11, s' 1 18 123), (false, 12, m' 19 124)], [(true, 0, e' 116 1 3), (true, 2, m' 118 1), (true, 4, e' 120 1 5), (false, 1, c' 117 14
 [116]), (false, 3, c' 119 15 [118]), (false, 5, c' 121 16 [120]), (false, 6, c' 122 6 [117, 119, 121]), (false, 10, w' 18 [.sl [.s [], .i .i64 0, .s []]]),
 (false, 7, m' 115 122), (false, 8, o' 123 (.ext (.t 115) 0)), (false, 9, o' 124 (.ext (.t 115) 1)), (false, 11, s' 1 18 123), (false, 12, m' 19 124)], [(true,
 0, e' 116 1 3), (true, 2, m' 118 1), (true, 4, e' 120 1 5), (false, 1, c' 117 14 [116]), (false, 3, c' 119 15 [118]), (false, 5, c' 121 16 [120]), (false, 6,
 c' 122 6 [117, 119, 121]), (false, 10, w' 18 [.sl [.s [], .i .i64 0, .s []]]), (false, 7, m' 115 122), (false, 8, o' 123 (.ext (.t 115) 0)), (false, 11, s' 1
 18 123), (false, 9, o' 124 (.ext (.t 115) 1)), (false, 12, m' 19 124)], [(true, 0, e' 116 1 3), (true, 2, m' 118 1), (true, 4, e' 120 1 5), (false, 1, c' 117
 14 [116]), (false, 3, c' 119 15 [118]), (false, 5, c' 121 16 [120]), (false, 6, c' 122 6 [117, 119, 121]), (false, 10, w' 18 [.sl [.s [], .i .i64 0, .s []]]),
 (false, 7, m' 115 122), (false, 9, o' 124 (.ext (.t 115) 1)), (false, 8, o' 123 (.ext (.t 115) 0)), (false, 11, s' 1 18 123), (false, 12, m' 19 124)], [(true,
 0, e' 116 1 3), (true, 2, m' 118 1), (true, 4, e' 120 1 5), (false, 1, c' 117 14 [116]), (false, 3, c' 119 15 [118]), (false, 5, c' 121 16 [120]), (false, 10,
 w' 18 [.sl [.s [], .i .i64 0, .s []]]), (false, 6, c' 122 6 [117, 119, 121]), (false, 7, m' 115 122), (false, 8, o' 123 (.ext (.t 115) 0)), (false, 9, o' 124
 (.ext (.t 115) 1)), (false, 11, s' 1 18 123), (false, 12, m' 19 124)], [(true, 0, e' 116 1 3), (true, 2, m' 118 1), (true, 4, e' 120 1 5), (false, 1, c' 117
 14 [116]), (false, 3, c' 119 15 [118]), (false, 5, c' 121 16 [120]), (false, 10, w' 18 [.sl [.s [], .i .i64 0, .s []]]), (false, 6, c' 122 6 [117, 119, 121]),
 (false, 7, m' 115 122), (false, 8, o' 123 (.ext (.t 115) 0)), (false, 11, s' 1 18 123), (false, 9, o' 124 (.ext (.t 115) 1)), (false, 12, m' 19 124)], [(true,
 0, e' 116 1 3), (true, 2, m' 118 1), (true, 4, e' 120 1 5), (false, 1, c' 117 14 [116]), (false, 3, c' 119 15 [118]), (false, 5, c' 121 16 [120]), (false, 10,
 w' 18 [.sl [.s [], .i .i64 0, .s []]]), (false, 6, c' 122 6 [117, 119, 121]), (false, 7, m' 115 122), (false, 9, o' 124 (.ext (.t 115) 1)), (false, 8, o' 123
 (.ext (.t 115) 0)), (false, 11, s' 1 18 123), (false, 12, m' 19 124)], [(true, 0, e' 116 1 3), (true, 2, m' 118 1), (true, 4, e' 120 1 5), (false, 1, c' 117
 14 [116]), (false, 3, c' 119 15 [118]), (false, 10, w' 18 [.sl [.s [], .i .i64 0, .s []]]), (false, 5, c' 121 16 [120]), (false, 6, c' 122 6 [117, 119, 121]),
 (false, 7, m' 115 122), (false, 8, o' 123 (.ext (.t 115) 0)), (false, 9, o' 124 (.ext (.t 115) 1)), (false, 11, s' 1 18 123), (false, 12, m' 19 124)], [(true,
 0, e' 116 1 3), (true, 2, m' 118 1), (true, 4, e' 120 1 5), (false, 1, c' 117 14 [116]), (false, 3, c' 119 15 [118]), (false, 10, w' 18 [.sl [.s [], .i .i64
 0, .s []]]), (false, 5, c' 121 16 [120]), (false, 6, c' 122 6 [117, 119, 121]), (false, 7, m' 115 122), (false, 8, o' 123 (.ext (.t 115) 0)), (false, 11, s' 1
 18 123), (false, 9, o' 124 (.ext (.t 115) 1)), (false, 12, m' 19 124)], [(true, 0, e' 116 1 3), (true, 2, m' 118 1), (true, 4, e' 120 1 5), (false, 1, c' 117
 14 [116]), (false, 3, c' 119 15 [118]), (false, 10, w' 18 [.sl [.s [], .i .i64 0, .s []]]), (false, 5, c' 121 16 [120]), (false, 6, c' 122 6 [117, 119, 121]),
 (false, 7, m' 115 122), (false, 9, o' 124 (.ext (.t 115) 1)), (false, 8, o' 123 (.ext (.t 115) 0)), (false, 11, s' 1 18 123), (false, 12, m' 19 124)], [(true,
 0, e' 116 1 3), (true, 2, m' 118 1), (true, 4, e' 120 1 5), (false, 1, c' 117 14 [116]), (false, 10, w' 18 [.sl [.s [], .i .i64 0, .s []]]), (false, 3, c' 119
 15 [118]), (false, 5, c' 121 16 [120]), (false, 6, c' 122 6 [117, 119, 121]), (false, 7, m' 115 122), (false, 8, o' 123 (.ext (.t 115) 0)), (false, 9, o' 124
 (.ext (.t 115) 1)), (false, 11, s' 1 18 123), (false, 12, m' 19 124)], [(true, 0, e' 116 1 3), (true, 2, m' 118 1), (true, 4, e' 120 1 5), (false, 1, c' 117
 14 [116]), (false, 10, w' 18 [.sl [.s [], .i .i64 0, .s []]]), (false, 3, c' 119 15 [118]), (false, 5, c' 121 16 [120]), (false, 6, c' 122 6 [117, 119, 121]),
 (false, 7, m' 115 122), (false, 8, o' 123 (.ext (.t 115) 0)), (false, 11, s' 1 18 123), (false, 9, o' 124 (.ext (.t 115) 1)), (false, 12, m' 19 124)], [(true,
 0, e' 116 1 3), (true, 2, m' 118 1), (true, 4, e' 120 1 5), (false, 1, c' 117 14 [116]), (false, 10, w' 18 [.sl [.s [], .i .i64 0, .s []]]), (false, 3, c' 119
 15 [118]), (false, 5, c' 121 16 [120]), (false, 6, c' 122 6 [117, 119, 121]), (false, 7, m' 115 122), (false, 9, o' 124 (.ext (.t 115) 1)), (false, 8, o' 123
 (.ext (.t 115) 0)), (false, 11, s' 1 18 123), (false, 12, m' 19 124)], [(true, 0, e' 116 1 3), (true, 2, m' 118 1), (true, 4, e' 120 1 5), (false, 10, w' 18
 [.sl [.s [], .i .i64 0, .s []]]), (false, 1, c' 117 14 [116]), (false, 3, c' 119 15 [118]), (false, 5, c' 121 16 [120]), (false, 6, c' 122 6 [117, 119, 121]),
 (false, 7, m' 115 122), (false, 8, o' 123 (.ext (.t 115) 0)), (false, 9, o' 124 (.ext (.t 115) 1)), (false, 11, s' 1 18 123), (false, 12, m' 19 124)], [(true,
 0, e' 116 1 3), (true, 2, m' 118 1), (true, 4, e' 120 1 5), (false, 10, w' 18 [.sl [.s [], .i .i64 0, .s []]]), (false, 1, c' 117 14 [116]), (false, 3, c' 119
 15 [118]), (false, 5, c' 121 16 [120]), (false, 6, c' 122 6 [117, 119, 121]), (false, 7, m' 115 122), (false, 8, o' 123 (.ext (.t 115) 0)), (false, 11, s' 1
 18 123), (false, 9, o' 124 (.ext (.t 115) 1)), (false, 12, m' 19 124)], [(true, 0, e' 116 1 3), (true, 2, m' 118 1), (true, 4, e' 120 1 5), (false, 10, w' 18
 [.sl [.s [], .i .i64 0, .s []]]), (false, 1, c' 117 14 [116]), (false, 3, c' 119 15 [118]), (false, 5, c' 121 16 [120]), (false, 6, c' 122 6 [117, 119, 121]),
 (false, 7, m' 115 122), (false, 9, o' 124 (.ext (.t 115) 1)), (false, 8, o' 123 (.ext (.t 115) 0)), (false, 11, s' 1 18 123), (false, 12, m' 19 124)]] [6, 7,
 10, 11]) (.seq (q' ([e' 125 1 18, e' 126 1 8, c' 127 17 [125, 126], o' 128 (.not (.t 127)), m' 129 128, ⟨some 130, .mov (.t 19), some (129, false)⟩, ⟨some
 131, .mov (.t 9), some (129, false)⟩, ⟨some 132, .binb .neq (.t 130) (.t 131), some (129, false)⟩, o' 133 (.pick (.t 129) (.k (.v false [.c (.b true)])) (.t
 132))]) (.cond (.t 133) (q' ([b' 6 false]) .ret) .skip)) (q' ([z' 17 1]) (q' ([e' 134 1 13, m' 135 17, c' 136 23 [134, 135], m' 17 136]) (.seq (q' ([m' 137
 17, o' 138 (.bin .lss (.t 137) (k' 0))]) (.cond (.t 138) (q' ([b' 6 false]) .ret) .skip)) (.seq (q' ([m' 139 17, m' 140 16, o' 141 (.bin .neq (.t 139) (.t
 140))]) (.cond (.t 141) (q' ([b' 6 false]) .ret) .skip)) (q' ([b' 6 true]) .ret))))))))))))))))))))))))))))))))))
theorem a2M : cmp Try.prog Try.f4 = some w4 := by kernel_rfl
theorem z9 (e : c8) (args : List c7) (row : c9) : A0l Try.prog 4 [(true, [.sl false [.s [], .i .i64 0, .s []] (e.Binds.map c4.cells)]), (false, [.sl false [.s [], .i .i64 0, .s []] (args.map c7.cells)]), (true, [.sl false [.i .i64 0, .s []] (row.V.map c6.cells)])] [] (.one (false, [.b true])) := by
 refine spec_of2 true false none Try.func4 a2M (rvs := [.t 6]) (hΓ := mkCtx_ok (deep := true) (l := [(11, [], a0O), (12, [], y5), (13, [], a0P), (14, [], a0Q), (15, [], y7), (16, [], a0R), (7, [], a2J), (6, [], a2E), (17, [], a0M), (18, [], x7), (19, [], a0N), (20, [0], x9), (21, [0], t6), (22, [0], y3), (23, [], x8)]) ⟨a4y, a3j, a4z, a4A, a3l, a4B, a6r, a6q, a4w, a3e, a4x, a3g, a2g, a3h, a3f, trivial⟩) (h := ?_)
 intro hb hE
 simp only [go_sem] at hb
 simp only [w4, x']
 (try refine A2V ?_); simp only [go_sem]; (repeat' first | apply CJ.mk | intro hc | apply RM_mk); (all_goals (try ((first | refine a8O 3 rfl ?_); intro S hS B0 hB; simp only [go_sem, List.take_succ_cons, List.take_zero] at hS hB; (repeat (first | replace hS := And.right hS | replace hS := CJ.r hS)); have Rr36 := congrArg (fun s : St => s.sl 36) hS; have Rr38 := congrArg (fun s : St => s.sl 38) hS; have Rr40 := congrArg (fun s : St => s.sl 40) hS; have Rr116 := congrArg (fun s : St => s.sl 116) hS; have Rr118 := congrArg (fun s : St => s.sl 118) hS; have Rr120 := congrArg (fun s : St => s.sl 120) hS; have Rb6 := congrArg (fun s : St => s.bx 6) hS; have Rb7 := congrArg (fun s : St => s.bx 7) hS; have Rb10 := congrArg (fun s : St => s.bx 10) hS; have Rb11 := congrArg (fun s : St => s.bx 11) hS; clear hS; simp only [go_sem] at Rr36 Rr38 Rr40 Rr116 Rr118 Rr120 Rb6 Rb7 Rb10 Rb11; (try clear hc); intro K hc; simp only [go_sem, Rr36, Rr38, Rr40, Rr116, Rr118, Rr120, Rb6, Rb7, Rb10, Rb11, hB, List.map_cons, List.map_nil, List.drop_succ_cons, List.drop_zero] at hc ⊢; simp only [go_sem, Rr36, Rr38, Rr40, Rr116, Rr118, Rr120, Rb6, Rb7, Rb10, Rb11, hB, A6P, A6T, A6j, A6i, A6O, A6h, nf_put_sub, A6R, A6Q, nf_put_susK, nf_put_dip, nf_put_put, A6S, A6N, A6k, a4c, a4b, nf_sub_sub] at hc ⊢; simp only [hc, and_self, true_and]; done))); all_goals try ((repeat' first | apply And.intro | intro hs) <;> (try simp only [go_sem, Bool.and_eq_false_iff] at hs) <;> omega)
 all_goals have h6 := b1A e args row
 all_goals (try rw [l4] at hc)
 all_goals first
  | exact (hc trivial).elim
  | (exfalso; simp at hc; done)
  | (exfalso; rcases hc with h | h; · omega
     exact h trivial)
  | (simp only [szR, a1X, a1Y, l4] at *; omega)
  | (simp only [szR, a1X, a1Y, l4] at *; refine ⟨by omega, ?_⟩; trivial)
  | trace_state
noncomputable def a3c : CT := j9 (fun (x : c8 × (List c7) × c9) => z9 x.1 x.2.1 x.2.2)
@[go_sem] theorem a7W (x0 : List c4) (x1 : List c7) (x2 : List c6) : a3c [(true, [.sl false [.s [], .i .i64 0, .s []] (x0.map c4.cells)]), (false, [.sl false [.s [], .i .i64 0, .s []] (x1.map c7.cells)]), (true, [.sl false [.i .i64 0, .s []] (x2.map c6.cells)])] = some (True, [], .one (false, [.b true])) := f5 _ (by rintro ⟨⟨_⟩, _, ⟨_⟩⟩ ⟨⟨_⟩, _, ⟨_⟩⟩ h; simp at h; simp_all) ((c8.mk x0), x1, (c9.mk x2))
end Go.Aw
