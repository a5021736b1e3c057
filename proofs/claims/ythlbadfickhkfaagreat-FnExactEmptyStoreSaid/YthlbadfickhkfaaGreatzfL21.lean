/- The law of empty states. No condition. -/
import Derived.Test.YthlbadfickhkfaaGreatzfT23
import Derived.Test.YthlbadfickhkfaaGreatzfB3
import Derived.Test.YthlbadfickhkfaaGreatzfB4
import Derived.Test.YthlbadfickhkfaaGreatzfM7
namespace Go.Aw
open Go.Proofs
attribute [local irreducible] aft blk lpK retK AW A0l
set_option linter.unusedVariables false
set_option linter.unusedSimpArgs false
set_option maxRecDepth 100000
theorem b8U (x : c9) : j3 x ≤ 12 + 12 * o7 x := by simp only [j3, o7, a0N]; omega
theorem b6N (l : List c6) : i5 j4 l ≤ 12 * (l.length + i5 m0 l) := b4I j4 m0 12 (fun x => by
 have := b4I j3 o7 12 b8U x.Body
 simp only [j4, m0, a0N]; omega) l
theorem b6Q (p : c8) (k : Int) : (a0r p k).length ≤ p.Decls.length := by
 rw [a0r]
 cases (f9 p).1 == 0 with
 | false => exact Nat.zero_le _
 | true => exact Nat.le_trans (a7d _) (List.length_filter_le _ _)
theorem b5s (p : c8) (k : Int) : ∀ x ∈ a0r p k, x.Rel.Rows = [] := by
 rw [a0r]
 cases (f9 p).1 == 0 with
 | false => simp
 | true => exact a9U _
set_option maxHeartbeats 2000000
def u2 : ACode := q' ([o' 2 (.box 2 (.t 0)), b' 4 false]) (q' ([z' 5 1048576]) (q' ([e' 13 2 2, m' 14 5, c' 15 12 [13, 14], m' 5 15]) (.seq (q' ([m' 16 5, o' 17 (.bin .lss (.t
 16) (k' 0))]) (.cond (.t 17) (q' ([b' 4 true]) .ret) .skip)) (q' ([e' 18 2 2, c' 19 14 [18], m' 20 1, c' 21 13 [19, 20], w' 6 [.sl [.s [], .i .i64 0, .sl
 false [.sl false [.i .i64 0, .s []] []] []]], s' 1 6 21]) (q' ([e' 22 2 2, c' 23 14 [22], w' 7 [.sl [.i .i64 0, .s [], .i .i64 0], .sl [.i .i64 0, .s [], .sl
 false [.s [], .i .i64 0, .s []] [], .sl false [.i .i64 0, .s [], .sl false [.s [], .i .i64 0, .s []] [], .i .i64 0, .s [], .i .i64 0, .s [], .s [], .i .i64 0,
 .s []] []]], s' 2 7 23]) (q' ([e' 24 2 7, m' 25 1, c' 26 15 [24, 25], w' 8 [.sl [.s [], .i .i64 0, .sl false [.sl false [.i .i64 0, .s []] []] []]], s' 1 8
 26]) (.seq (q' ([e' 27 1 8, e' 28 1 6, c' 29 16 [27, 28], o' 30 (.not (.t 29))]) (.cond (.t 30) (q' ([b' 4 false]) .ret) .skip)) (.seq (.seq (.reg true [e' 31
 2 7, e' 32 2 2, c' 33 14 [32], c' 34 17 [31, 33], o' 35 (.not (.t 34))]) (.cond (.t 35) (q' ([b' 4 false]) .ret) .skip)) (q' ([z' 9 1]) (q' ([e' 36 2 7, m' 37
 9, c' 38 18 [36, 37], m' 9 38]) (.seq (q' ([m' 39 9, o' 40 (.bin .lss (.t 39) (k' 0)), m' 41 40, ⟨some 42, .ld true 1 (.t 8), some (41, false)⟩, ⟨some 43, .ld
 true 1 (.t 6), some (41, false)⟩, ⟨some 44, .call 16 [.t 42, .t 43], some (41, false)⟩, ⟨some 45, .not (.t 44), some (41, false)⟩, o' 46 (.pick (.t 41) (.k
 (.v false [.c (.b true)])) (.t 45))]) (.cond (.t 46) (q' ([b' 4 false]) .ret) .skip)) (q' ([z' 10 1]) (q' ([e' 47 1 8, m' 48 10, c' 49 19 [47, 48], m' 10 49])
 (q' ([z' 11 1]) (q' ([e' 50 1 8, m' 51 11, c' 52 20 [50, 51], m' 11 52]) (.seq (q' ([m' 53 11, o' 54 (.bin .lss (.t 53) (k' 0))]) (.cond (.t 54) (q' ([b' 4
 false]) .ret) .skip)) (.seq (q' ([m' 55 11, m' 56 10, o' 57 (.bin .neq (.t 55) (.t 56))]) (.cond (.t 57) (q' ([b' 4 false]) .ret) .skip)) (q' ([e' 58 2 2, c'
 59 14 [58], m' 60 1, c' 61 15 [59, 60], w' 12 [.sl [.s [], .i .i64 0, .sl false [.sl false [.i .i64 0, .s []] []] []]], s' 1 12 61]) (.seq (q' ([e' 62 1 12,
 e' 63 1 6, c' 64 16 [62, 63], o' 65 (.not (.t 64))]) (.cond (.t 65) (q' ([b' 4 false]) .ret) .skip)) (q' ([z' 11 1]) (q' ([e' 66 1 8, m' 67 11, c' 68 20 [66,
 67], m' 11 68]) (.seq (q' ([m' 69 11, o' 70 (.bin .lss (.t 69) (k' 0))]) (.cond (.t 70) (q' ([b' 4 false]) .ret) .skip)) (.seq (q' ([m' 71 11, m' 72 10, o' 73
 (.bin .neq (.t 71) (.t 72))]) (.cond (.t 73) (q' ([b' 4 false]) .ret) .skip)) (q' ([b' 4 true]) .ret))))))))))))))))))))))))
theorem a2c : cmp Tryz.prog Tryz.f3 = some u2 := by kernel_rfl
theorem u7 (p : c8) (k : Int) : A0l Tryz.prog 3 [(true, [.sl false [.i .i64 0, .s [], .i .i64 0] (p.Decls.map c7.cells), .sl false [.i .i64 0, .s [], .sl false [.s [], .i .i64 0, .s []] [], .sl false [.i .i64 0, .s [], .sl false [.s [], .i .i64 0, .s []] [], .i .i64 0, .s [], .i .i64 0, .s [], .s [], .i .i64 0, .s []] []] (p.Rules.map (c6.cells false false))]), (false, [.i .i64 k])] [] (.one (false, [.b true])) := by
 refine spec_of2 true false none Tryz.func3 a2c (rvs := [.t 4]) (hΓ := mkCtx_ok (deep := true) (l := [(12, [], a0l), (14, [], a0m), (13, [], a0a), (15, [0], u4), (16, [], a1N), (17, [], a0i), (18, [0], w4), (19, [0], w5), (20, [], w3)]) ⟨a6m, a6n, a5T, a3Q, a7R, a6j, a4P, a4Q, a4O, trivial⟩) (h := ?_)
 intro hb hE
 simp only [go_sem] at hb
 simp only [u2, x']
 have h8 := b5s p k
 have h9 := b5G (a0r p k).length 1
 (try refine A2V ?_); simp only [go_sem]; (repeat' first | apply CJ.mk | intro hc); all_goals try ((repeat' first | apply And.intro | intro hs) <;> (try simp only [go_sem, Bool.and_eq_false_iff] at hs) <;> omega)
 all_goals have h6 := b6Q p k
 all_goals have h7 := b6N p.Rules
 all_goals (try rw [w7] at hc)
 all_goals first
  | exact (hc trivial).elim
  | (exfalso; simp at hc; done)
  | (exfalso; rcases hc with h | h; · omega
     exact h trivial)
  | (simp only [szR, t6, w7] at *; omega)
  | (simp only [szR, t6, w7] at *; refine ⟨by omega, ?_⟩; first | trivial | exact h8 | rfl)
  | trace_state
noncomputable def a2G : CT := i6 (fun (x : c8 × Int) => u7 x.1 x.2)
@[go_sem] theorem b1b (x0 : List c7) (x1 : List c6) (k : Int) : a2G [(true, [.sl false [.i .i64 0, .s [], .i .i64 0] (x0.map c7.cells), .sl false [.i .i64 0, .s [], .sl false [.s [], .i .i64 0, .s []] [], .sl false [.i .i64 0, .s [], .sl false [.s [], .i .i64 0, .s []] [], .i .i64 0, .s [], .i .i64 0, .s [], .s [], .i .i64 0, .s []] []] (x1.map (c6.cells false false))]), (false, [.i .i64 k])] = some (True, [], .one (false, [.b true])) := f7 _ (by rintro ⟨⟨_, _⟩, _⟩ ⟨⟨_, _⟩, _⟩ h; simp at h; simp_all) ((c8.mk x0 x1), k)
end Go.Aw
