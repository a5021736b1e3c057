/- The law of empty states. No condition. -/
import Derived.Test.YthlbadfickhkfaaGreatzfT23
import Derived.Test.YthlbadfickhkfaaGreatzfB3
import Derived.Test.YthlbadfickhkfaaGreatzfB4
import Derived.Test.YthlbadfickhkfaaGreatzfM7
namespace Go.Aw
open Go.Proofs
attribute [local irreducible] aft blk lpK retK AW A0l
set_option linter.unusedVariables false
set_option linter.unusedSimpArgs false
set_option maxRecDepth 100000
theorem b8T (x : c9) : j3 x ≤ 12 + 12 * o6 x := by simp only [j3, o6, a0M]; omega
theorem b6M (l : List c6) : i5 j4 l ≤ 12 * (l.length + i5 l9 l) := b4G j4 l9 12 (fun x => by
 have := b4G j3 o6 12 b8T x.Body
 simp only [j4, l9, a0M]; omega) l
theorem b6P (p : c8) (k : Int) : (a0q p k).length ≤ p.Decls.length := by
 rw [a0q]
 cases (f9 p).1 == 0 with
 | false => exact Nat.zero_le _
 | true => exact Nat.le_trans (a7b _) (List.length_filter_le _ _)
theorem b5q (p : c8) (k : Int) : ∀ x ∈ a0q p k, x.Rel.Rows = [] := by
 rw [a0q]
 cases (f9 p).1 == 0 with
 | false => simp
 | true => exact a9S _
set_option maxHeartbeats 2000000
def u1 : ACode := q' ([o' 2 (.box 2 (.t 0)), b' 4 false]) (q' ([z' 5 1048576]) (q' ([e' 13 2 2, m' 14 5, c' 15 12 [13, 14], m' 5 15]) (.seq (q' ([m' 16 5, o' 17 (.bin .lss (.t
 16) (k' 0))]) (.cond (.t 17) (q' ([b' 4 true]) .ret) .skip)) (q' ([e' 18 2 2, c' 19 14 [18], m' 20 1, c' 21 13 [19, 20], w' 6 [.sl [.s [], .i .i64 0, .sl
 false [.sl false [.i .i64 0, .s []] []] []]], s' 1 6 21]) (q' ([e' 22 2 2, c' 23 14 [22], w' 7 [.sl [.i .i64 0, .s [], .i .i64 0], .sl [.i .i64 0, .s [], .sl
 false [.s [], .i .i64 0, .s []] [], .sl false [.i .i64 0, .s [], .sl false [.s [], .i .i64 0, .s []] [], .i .i64 0, .s [], .i .i64 0, .s [], .s [], .i .i64 0,
 .s []] []]], s' 2 7 23]) (q' ([e' 24 2 7, m' 25 1, c' 26 15 [24, 25], w' 8 [.sl [.s [], .i .i64 0, .sl false [.sl false [.i .i64 0, .s []] []] []]], s' 1 8
 26]) (.seq (q' ([e' 27 1 8, e' 28 1 6, c' 29 16 [27, 28], o' 30 (.not (.t 29))]) (.cond (.t 30) (q' ([b' 4 false]) .ret) .skip)) (.seq (.seq (.reg true [e' 31
 2 7, e' 32 2 2, c' 33 14 [32], c' 34 17 [31, 33], o' 35 (.not (.t 34))]) (.cond (.t 35) (q' ([b' 4 false]) .ret) .skip)) (q' ([z' 9 1]) (q' ([e' 36 2 7, m' 37
 9, c' 38 18 [36, 37], m' 9 38]) (.seq (q' ([m' 39 9, o' 40 (.bin .lss (.t 39) (k' 0)), m' 41 40, ⟨some 42, .ld true 1 (.t 8), some (41, false)⟩, ⟨some 43, .ld
 true 1 (.t 6), some (41, false)⟩, ⟨some 44, .call 16 [.t 42, .t 43], some (41, false)⟩, ⟨some 45, .not (.t 44), some (41, false)⟩, o' 46 (.pick (.t 41) (.k
 (.v false [.c (.b true)])) (.t 45))]) (.cond (.t 46) (q' ([b' 4 false]) .ret) .skip)) (q' ([z' 10 1]) (q' ([e' 47 1 8, m' 48 10, c' 49 19 [47, 48], m' 10 49])
 (q' ([z' 11 1]) (q' ([e' 50 1 8, m' 51 11, c' 52 20 [50, 51], m' 11 52]) (.seq (q' ([m' 53 11, o' 54 (.bin .lss (.t 53) (k' 0))]) (.cond (.t 54) (q' ([b' 4
 false]) .ret) .skip)) (.seq (q' ([m' 55 11, m' 56 10, o' 57 (.bin .neq (.t 55) (.t 56))]) (.cond (.t 57) (q' ([b' 4 false]) .ret) .skip)) (q' ([e' 58 2 2, c'
 59 14 [58], m' 60 1, c' 61 15 [59, 60], w' 12 [.sl [.s [], .i .i64 0, .sl false [.sl false [.i .i64 0, .s []] []] []]], s' 1 12 61]) (.seq (q' ([e' 62 1 12,
 e' 63 1 6, c' 64 16 [62, 63], o' 65 (.not (.t 64))]) (.cond (.t 65) (q' ([b' 4 false]) .ret) .skip)) (q' ([z' 11 1]) (q' ([e' 66 1 8, m' 67 11, c' 68 20 [66,
 67], m' 11 68]) (.seq (q' ([m' 69 11, o' 70 (.bin .lss (.t 69) (k' 0))]) (.cond (.t 70) (q' ([b' 4 false]) .ret) .skip)) (.seq (q' ([m' 71 11, m' 72 10, o' 73
 (.bin .neq (.t 71) (.t 72))]) (.cond (.t 73) (q' ([b' 4 false]) .ret) .skip)) (q' ([b' 4 true]) .ret))))))))))))))))))))))))
theorem a2b : cmp Tryz.prog Tryz.f3 = some u1 := by kernel_rfl
theorem u6 (p : c8) (k : Int) : A0l Tryz.prog 3 [(true, [.sl false [.i .i64 0, .s [], .i .i64 0] (p.Decls.map c7.cells), .sl false [.i .i64 0, .s [], .sl false [.s [], .i .i64 0, .s []] [], .sl false [.i .i64 0, .s [], .sl false [.s [], .i .i64 0, .s []] [], .i .i64 0, .s [], .i .i64 0, .s [], .s [], .i .i64 0, .s []] []] (p.Rules.map (c6.cells false false))]), (false, [.i .i64 k])] [] (.one (false, [.b true])) := by
 refine spec_of2 true false none Tryz.func3 a2b (rvs := [.t 4]) (hΓ := mkCtx_ok (deep := true) (l := [(12, [], a0k), (14, [], a0l), (13, [], z9), (15, [0], u3), (16, [], a1M), (17, [], a0h), (18, [0], w3), (19, [0], w4), (20, [], v9)]) ⟨a6k, a6l, a5S, a3P, a7P, a6h, a4O, a4P, a4N, trivial⟩) (h := ?_)
 intro hb hE
 simp only [go_sem] at hb
 simp only [u1, x']
 have h8 := b5q p k
 have h9 := b5E (a0q p k).length 1
 (try refine A2V ?_); simp only [go_sem]; (repeat' first | apply CJ.mk | intro hc); all_goals try ((repeat' first | apply And.intro | intro hs) <;> (try simp only [go_sem, Bool.and_eq_false_iff] at hs) <;> omega)
 all_goals have h6 := b6P p k
 all_goals have h7 := b6M p.Rules
 all_goals (try rw [w6] at hc)
 all_goals first
  | exact (hc trivial).elim
  | (exfalso; simp at hc; done)
  | (exfalso; rcases hc with h | h; · omega
     exact h trivial)
  | (simp only [szR, t5, w6] at *; omega)
  | (simp only [szR, t5, w6] at *; refine ⟨by omega, ?_⟩; first | trivial | exact h8 | rfl)
  | trace_state
noncomputable def a2F : CT := i6 (fun (x : c8 × Int) => u6 x.1 x.2)
@[go_sem] theorem b0Z (x0 : List c7) (x1 : List c6) (k : Int) : a2F [(true, [.sl false [.i .i64 0, .s [], .i .i64 0] (x0.map c7.cells), .sl false [.i .i64 0, .s [], .sl false [.s [], .i .i64 0, .s []] [], .sl false [.i .i64 0, .s [], .sl false [.s [], .i .i64 0, .s []] [], .i .i64 0, .s [], .i .i64 0, .s [], .s [], .i .i64 0, .s []] []] (x1.map (c6.cells false false))]), (false, [.i .i64 k])] = some (True, [], .one (false, [.b true])) := f7 _ (by rintro ⟨⟨_, _⟩, _⟩ ⟨⟨_, _⟩, _⟩ h; simp at h; simp_all) ((c8.mk x0 x1), k)
end Go.Aw
