/- Good programs. No condition. -/
import Derived.Test.YthlbadfickhkfaaGreatzeT15
import Derived.Test.YthlbadfickhkfaaGreatzeT18
import Derived.Test.YthlbadfickhkfaaGreatzeT9
namespace Go.Aw
open Go.Proofs
attribute [local irreducible] aft blk lpK retK AW A0l
set_option linter.unusedVariables false
set_option linter.unusedSimpArgs false
set_option maxRecDepth 100000
noncomputable def a7v (p : c6) : Bool := (s4 p).2 && v5 p == -1
theorem b0B {p : c6} (h : (s4 p).2 = true) : ((g9 p).1 == 0) = true := by
 cases e : ((g9 p).1 == 0) with
 | true => rfl
 | false => rw [s4, e, cond_false] at h; exact h
theorem a7w {p : c6} (h : a7v p = true) : ((g9 p).1 == 0) = true := by
 rw [a7v, Bool.and_eq_true] at h
 exact b0B h.1
def a9k : ACode := q' ([o' 1 (.box 2 (.t 0)), b' 2 false]) (q' ([e' 6 2 1, c' 7 22 [6], m' 5 7, o' 8 (.ext (.t 5) 0), o' 9 (.ext (.t 5) 1), m' 3 8, m' 4 9]) (q' ([m' 10 4, m' 11
 10, ⟨some 12, .ld true 2 (.t 1), some (11, true)⟩, ⟨some 13, .call 87 [.t 12], some (11, true)⟩, ⟨some 14, .bin .eql (.t 13) (.k (.v false [.c (.i .i64
 (-1))])), some (11, true)⟩, o' 15 (.pick (.t 11) (.t 14) (.k (.v false [.c (.b false)]))), m' 2 15]) .ret))
theorem b7J : cmp Tryz.prog Tryz.f27 = some a9k := by kernel_rfl
theorem b9p (p : c6) : A0l Tryz.prog 27 [(true, [.sl false [.i .i64 0, .s [], .i .i64 0] (p.Decls.map c7.cells), .sl false [.i .i64 0, .s [], .sl false [.s [], .i .i64 0, .s []] [], .sl false [.i .i64 0, .s [], .sl false [.s [], .i .i64 0, .s []] [], .i .i64 0, .s [], .i .i64 0, .s [], .s [], .i .i64 0, .s []] []] (p.Rules.map (c4.cells false false))])] [] (.one (false, [.b (a7v p)])) := by
 refine spec_of2 false false none Tryz.func27 b7J (rvs := [.t 2]) (hΓ := mkCtx_ok (deep := false) (l := [(22, [], a3P), (87, [], a0K)]) ⟨b0X, a7K, trivial⟩) (h := ?_)
 intro hb hE
 simp only [go_sem] at hb
 simp only [a9k, x']
 (try refine A2V ?_); simp only [go_sem]; (repeat' first | apply CJ.mk | intro hc); all_goals try ((repeat' first | apply And.intro | intro hs) <;> (try simp only [go_sem, Bool.and_eq_false_iff] at hs) <;> omega)
 all_goals (first | rfl | trace_state)
noncomputable def a7i : CT := i8 (fun (x : c6) => b9p x)
@[go_sem] theorem c4X (x0 : List c7) (x1 : List c4) : a7i [(true, [.sl false [.i .i64 0, .s [], .i .i64 0] (x0.map c7.cells), .sl false [.i .i64 0, .s [], .sl false [.s [], .i .i64 0, .s []] [], .sl false [.i .i64 0, .s [], .sl false [.s [], .i .i64 0, .s []] [], .i .i64 0, .s [], .i .i64 0, .s [], .s [], .i .i64 0, .s []] []] (x1.map (c4.cells false false))])] = some (True, [], .one (false, [.b (a7v (c6.mk x0 x1))])) := f5 _ (by rintro ⟨_, _⟩ ⟨_, _⟩ h; simp at h; simp_all) (c6.mk x0 x1)
theorem b4i : OkC Tryz.prog 27 a7i := f7 _
def a9n : ACode := q' ([o' 1 (.box 2 (.t 0)), b' 2 false]) (q' ([e' 8 2 1, c' 9 62 [8], m' 7 9, o' 10 (.ext (.t 7) 0), o' 11 (.ext (.t 7) 1), m' 3 10, m' 4 11]) (q' ([e' 13 2 1,
 c' 14 21 [13], m' 12 14, o' 15 (.ext (.t 12) 0), o' 16 (.ext (.t 12) 1), m' 5 15, m' 6 16]) (q' ([m' 17 3, o' 18 (.bin .eql (.t 17) (k' 0)), m' 19 18, ⟨some
 20, .ld true 2 (.t 1), some (19, true)⟩, ⟨some 21, .call 86 [.t 20], some (19, true)⟩, ⟨some 22, .bin .eql (.t 21) (.k (.v false [.c (.i .i64 (-1))])), some
 (19, true)⟩, o' 23 (.pick (.t 19) (.t 22) (.k (.v false [.c (.b false)]))), m' 24 23, ⟨some 25, .mov (.t 6), some (24, true)⟩, o' 26 (.pick (.t 24) (.t 25)
 (.k (.v false [.c (.b false)]))), m' 2 26]) .ret)))
theorem b7M : cmp Tryz.prog Tryz.f26 = some a9n := by kernel_rfl
theorem b9s (p : c6) : A0l Tryz.prog 26 [(true, [.sl false [.i .i64 0, .s [], .i .i64 0] (p.Decls.map c7.cells), .sl false [.i .i64 0, .s [], .sl false [.s [], .i .i64 0, .s []] [], .sl false [.i .i64 0, .s [], .sl false [.s [], .i .i64 0, .s []] [], .i .i64 0, .s [], .i .i64 0, .s [], .s [], .i .i64 0, .s []] []] (p.Rules.map (c4.cells false false))])] [] (.one (false, [.b (a7v p)])) := by
 refine spec_of2 false false none Tryz.func26 b7M (rvs := [.t 2]) (hΓ := mkCtx_ok (deep := false) (l := [(62, [], s8), (21, [], a4a), (86, [], a0W)]) ⟨w5, b1j, a7W, trivial⟩) (h := ?_)
 intro hb hE
 simp only [go_sem] at hb
 simp only [a9n, x']
 (try refine A2V ?_); simp only [go_sem]; (repeat' first | apply CJ.mk | intro hc); all_goals try ((repeat' first | apply And.intro | intro hs) <;> (try simp only [go_sem, Bool.and_eq_false_iff] at hs) <;> omega)
 all_goals (first | (rw [a7v]; cases h1 : ((g9 p).1 == 0) <;> cases h2 : (s4 p).2 <;> cases h3 : (v5 p == -1) <;> first | rfl | (rw [b0B h2] at h1; cases h1)) | trace_state)
noncomputable def a7p : CT := i8 (fun (x : c6) => b9s x)
@[go_sem] theorem c5a (x0 : List c7) (x1 : List c4) : a7p [(true, [.sl false [.i .i64 0, .s [], .i .i64 0] (x0.map c7.cells), .sl false [.i .i64 0, .s [], .sl false [.s [], .i .i64 0, .s []] [], .sl false [.i .i64 0, .s [], .sl false [.s [], .i .i64 0, .s []] [], .i .i64 0, .s [], .i .i64 0, .s [], .s [], .i .i64 0, .s []] []] (x1.map (c4.cells false false))])] = some (True, [], .one (false, [.b (a7v (c6.mk x0 x1))])) := f5 _ (by rintro ⟨_, _⟩ ⟨_, _⟩ h; simp at h; simp_all) (c6.mk x0 x1)
theorem b4k : OkC Tryz.prog 26 a7p := f7 _
end Go.Aw
