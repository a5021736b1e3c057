/- The law of states. No condition. -/
import Derived.Test.YthlbadfickhkfaaGreatzgT24
import Derived.Test.YthlbadfickhkfaaGreatzgB3
import Derived.Test.YthlbadfickhkfaaGreatzgB4
namespace Go.Aw
open Go.Proofs
attribute [local irreducible] aft blk lpK retK AW A0l
set_option linter.unusedVariables false
set_option linter.unusedSimpArgs false
set_option maxRecDepth 100000
def a0p : ACode := q' ([o' 2 (.box 2 (.t 0)), o' 3 (.box 1 (.t 1)), b' 4 false]) (q' ([z' 5 1048576]) (q' ([e' 10 2 2, m' 11 5, c' 12 12 [10, 11], m' 5 12]) (.seq (q' ([m' 13 5,
 o' 14 (.bin .lss (.t 13) (k' 0))]) (.cond (.t 14) (q' ([b' 4 true]) .ret) .skip)) (q' ([e' 15 1 3, m' 16 5, c' 17 42 [15, 16], m' 5 17]) (.seq (q' ([m' 18 5,
 o' 19 (.bin .lss (.t 18) (k' 0))]) (.cond (.t 19) (q' ([b' 4 true]) .ret) .skip)) (.seq (.reg true [e' 20 2 2, c' 21 14 [20], e' 22 1 3, c' 23 44 [22], c' 24
 43 [21, 23], m' 6 24]) (q' ([e' 25 2 2, c' 26 14 [25], w' 7 [.sl [.i .i64 0, .s [], .i .i64 0], .sl [.i .i64 0, .s [], .sl false [.s [], .i .i64 0, .s []] [],
 .sl false [.i .i64 0, .s [], .sl false [.s [], .i .i64 0, .s []] [], .i .i64 0, .s [], .i .i64 0, .s [], .s [], .i .i64 0, .s []] []]], s' 2 7 26]) (q' ([e'
 27 1 3, c' 28 44 [27], w' 8 [.sl [.s [], .i .i64 0, .sl false [.sl false [.i .i64 0, .s []] []] []]], s' 1 8 28]) (q' ([e' 29 2 7, e' 30 1 8, c' 31 45 [29,
 30], m' 9 31]) (.seq (q' ([m' 32 9, m' 33 6, o' 34 (.binb .neq (.t 32) (.t 33))]) (.cond (.t 34) (q' ([b' 4 false]) .ret) .skip)) (.seq (.seq (.reg true [e'
 35 2 7, e' 36 2 2, c' 37 14 [36], c' 38 17 [35, 37], o' 39 (.not (.t 38))]) (.cond (.t 39) (q' ([b' 4 false]) .ret) .skip)) (.seq (.seq (.reg true [e' 40 1 8,
 e' 41 1 3, c' 42 44 [41], c' 43 16 [40, 42], o' 44 (.not (.t 43))]) (.cond (.t 44) (q' ([b' 4 false]) .ret) .skip)) (q' ([b' 4 true]) .ret)))))))))))))
theorem a6h : cmp Tryz.prog Tryz.f9 = some a0p := by kernel_rfl
theorem a0P (p : c7) (s : d8) : A0l Tryz.prog 9 [(true, [.sl false [.i .i64 0, .s [], .i .i64 0] (p.Decls.map c8.cells), .sl false [.i .i64 0, .s [], .sl false [.s [], .i .i64 0, .s []] [], .sl false [.i .i64 0, .s [], .sl false [.s [], .i .i64 0, .s []] [], .i .i64 0, .s [], .i .i64 0, .s [], .s [], .i .i64 0, .s []] []] (p.Rules.map (c6.cells false false))]), (true, [.sl false [.s [], .i .i64 0, .sl false [.sl false [.i .i64 0, .s []] []] []] (s.Rels.map (d4.cells false false))])] [] (.one (false, [.b true])) := by
 refine spec_of2 false false none Tryz.func9 a6h (rvs := [.t 4]) (hΓ := mkCtx_ok (deep := false) (l := [(12, [], a0X), (42, [], a3h), (14, [], a0Y), (44, [], a3m), (43, [], a3o), (45, [], a2R), (17, [], a0W), (16, [], a3c)]) ⟨a8T, b1i, a8U, b1n, b1q, b0T, a8S, b1d, trivial⟩) (h := ?_)
 intro hb hE
 simp only [go_sem] at hb
 simp only [a0p, x']
 (try refine A2V ?_); simp only [go_sem]; (repeat' first | apply CJ.mk | intro hc); all_goals try ((repeat' first | apply And.intro | intro hs) <;> (try simp only [go_sem, Bool.and_eq_false_iff] at hs) <;> omega)
 all_goals (first | exact (hc trivial).elim | (exfalso; simp at hc; done) | ((try simp only [szR] at *) <;> omega) | trace_state)
noncomputable def a7j : CT := i5 (fun (x : c7 × d8) => a0P x.1 x.2)
@[go_sem] theorem b8e (x0 : List c8) (x1 : List c6) (x2 : List d4) : a7j [(true, [.sl false [.i .i64 0, .s [], .i .i64 0] (x0.map c8.cells), .sl false [.i .i64 0, .s [], .sl false [.s [], .i .i64 0, .s []] [], .sl false [.i .i64 0, .s [], .sl false [.s [], .i .i64 0, .s []] [], .i .i64 0, .s [], .i .i64 0, .s [], .s [], .i .i64 0, .s []] []] (x1.map (c6.cells false false))]), (true, [.sl false [.s [], .i .i64 0, .sl false [.sl false [.i .i64 0, .s []] []] []] (x2.map (d4.cells false false))])] = some (True, [], .one (false, [.b true])) := f7 _ (by rintro ⟨⟨_, _⟩, ⟨_⟩⟩ ⟨⟨_, _⟩, ⟨_⟩⟩ h; simp at h; simp_all) ((c7.mk x0 x1), (d8.mk x2))
end Go.Aw
