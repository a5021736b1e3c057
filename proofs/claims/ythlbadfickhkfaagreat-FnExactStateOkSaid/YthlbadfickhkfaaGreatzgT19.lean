/- Good programs. No condition. -/
import Derived.Test.YthlbadfickhkfaaGreatzgT15
import Derived.Test.YthlbadfickhkfaaGreatzgT18
import Derived.Test.YthlbadfickhkfaaGreatzgT9
namespace Go.Aw
open Go.Proofs
attribute [local irreducible] aft blk lpK retK AW A0l
set_option linter.unusedVariables false
set_option linter.unusedSimpArgs false
set_option maxRecDepth 100000
noncomputable def a8x (p : c7) : Bool := (t5 p).2 && v9 p == -1
theorem b1W {p : c7} (h : (t5 p).2 = true) : ((i4 p).1 == 0) = true := by
 cases e : ((i4 p).1 == 0) with
 | true => rfl
 | false => rw [t5, e, cond_false] at h; exact h
theorem b3K {p : c7} (h : a8x p = true) : ((i4 p).1 == 0) = true := by
 rw [a8x, Bool.and_eq_true] at h
 exact b1W h.1
def b0G : ACode := q' ([o' 1 (.box 2 (.t 0)), b' 2 false]) (q' ([e' 6 2 1, c' 7 22 [6], m' 5 7, o' 8 (.ext (.t 5) 0), o' 9 (.ext (.t 5) 1), m' 3 8, m' 4 9]) (q' ([m' 10 4, m' 11
 10, ⟨some 12, .ld true 2 (.t 1), some (11, true)⟩, ⟨some 13, .call 87 [.t 12], some (11, true)⟩, ⟨some 14, .bin .eql (.t 13) (.k (.v false [.c (.i .i64
 (-1))])), some (11, true)⟩, o' 15 (.pick (.t 11) (.t 14) (.k (.v false [.c (.b false)]))), m' 2 15]) .ret))
theorem c0m : cmp Tryz.prog Tryz.f27 = some b0G := by kernel_rfl
theorem c2c (p : c7) : A0l Tryz.prog 27 [(true, [.sl false [.i .i64 0, .s [], .i .i64 0] (p.Decls.map c8.cells), .sl false [.i .i64 0, .s [], .sl false [.s [], .i .i64 0, .s []] [], .sl false [.i .i64 0, .s [], .sl false [.s [], .i .i64 0, .s []] [], .i .i64 0, .s [], .i .i64 0, .s [], .s [], .i .i64 0, .s []] []] (p.Rules.map (c6.cells false false))])] [] (.one (false, [.b (a8x p)])) := by
 refine spec_of2 false false none Tryz.func27 c0m (rvs := [.t 2]) (hΓ := mkCtx_ok (deep := false) (l := [(22, [], a4i), (87, [], a0S)]) ⟨b2m, a8P, trivial⟩) (h := ?_)
 intro hb hE
 simp only [go_sem] at hb
 simp only [b0G, x']
 (try refine A2V ?_); simp only [go_sem]; (repeat' first | apply CJ.mk | intro hc); all_goals try ((repeat' first | apply And.intro | intro hs) <;> (try simp only [go_sem, Bool.and_eq_false_iff] at hs) <;> omega)
 all_goals (first | rfl | trace_state)
noncomputable def a8k : CT := i5 (fun (x : c7) => c2c x)
@[go_sem] theorem c8q (x0 : List c8) (x1 : List c6) : a8k [(true, [.sl false [.i .i64 0, .s [], .i .i64 0] (x0.map c8.cells), .sl false [.i .i64 0, .s [], .sl false [.s [], .i .i64 0, .s []] [], .sl false [.i .i64 0, .s [], .sl false [.s [], .i .i64 0, .s []] [], .i .i64 0, .s [], .i .i64 0, .s [], .s [], .i .i64 0, .s []] []] (x1.map (c6.cells false false))])] = some (True, [], .one (false, [.b (a8x (c7.mk x0 x1))])) := f7 _ (by rintro ⟨_, _⟩ ⟨_, _⟩ h; simp at h; simp_all) (c7.mk x0 x1)
theorem b5X : OkC Tryz.prog 27 a8k := f8 _
def b0K : ACode := q' ([o' 1 (.box 2 (.t 0)), b' 2 false]) (q' ([e' 8 2 1, c' 9 62 [8], m' 7 9, o' 10 (.ext (.t 7) 0), o' 11 (.ext (.t 7) 1), m' 3 10, m' 4 11]) (q' ([e' 13 2 1,
 c' 14 21 [13], m' 12 14, o' 15 (.ext (.t 12) 0), o' 16 (.ext (.t 12) 1), m' 5 15, m' 6 16]) (q' ([m' 17 3, o' 18 (.bin .eql (.t 17) (k' 0)), m' 19 18, ⟨some
 20, .ld true 2 (.t 1), some (19, true)⟩, ⟨some 21, .call 86 [.t 20], some (19, true)⟩, ⟨some 22, .bin .eql (.t 21) (.k (.v false [.c (.i .i64 (-1))])), some
 (19, true)⟩, o' 23 (.pick (.t 19) (.t 22) (.k (.v false [.c (.b false)]))), m' 24 23, ⟨some 25, .mov (.t 6), some (24, true)⟩, o' 26 (.pick (.t 24) (.t 25)
 (.k (.v false [.c (.b false)]))), m' 2 26]) .ret)))
theorem c0q : cmp Tryz.prog Tryz.f26 = some b0K := by kernel_rfl
theorem c2f (p : c7) : A0l Tryz.prog 26 [(true, [.sl false [.i .i64 0, .s [], .i .i64 0] (p.Decls.map c8.cells), .sl false [.i .i64 0, .s [], .sl false [.s [], .i .i64 0, .s []] [], .sl false [.i .i64 0, .s [], .sl false [.s [], .i .i64 0, .s []] [], .i .i64 0, .s [], .i .i64 0, .s [], .s [], .i .i64 0, .s []] []] (p.Rules.map (c6.cells false false))])] [] (.one (false, [.b (a8x p)])) := by
 refine spec_of2 false false none Tryz.func26 c0q (rvs := [.t 2]) (hΓ := mkCtx_ok (deep := false) (l := [(62, [], w6), (21, [], a4x), (86, [], a1a)]) ⟨a1C, b2E, a8W, trivial⟩) (h := ?_)
 intro hb hE
 simp only [go_sem] at hb
 simp only [b0K, x']
 (try refine A2V ?_); simp only [go_sem]; (repeat' first | apply CJ.mk | intro hc); all_goals try ((repeat' first | apply And.intro | intro hs) <;> (try simp only [go_sem, Bool.and_eq_false_iff] at hs) <;> omega)
 all_goals (first | (rw [a8x]; cases h1 : ((i4 p).1 == 0) <;> cases h2 : (t5 p).2 <;> cases h3 : (v9 p == -1) <;> first | rfl | (rw [b1W h2] at h1; cases h1)) | trace_state)
noncomputable def a8r : CT := i5 (fun (x : c7) => c2f x)
@[go_sem] theorem c8t (x0 : List c8) (x1 : List c6) : a8r [(true, [.sl false [.i .i64 0, .s [], .i .i64 0] (x0.map c8.cells), .sl false [.i .i64 0, .s [], .sl false [.s [], .i .i64 0, .s []] [], .sl false [.i .i64 0, .s [], .sl false [.s [], .i .i64 0, .s []] [], .i .i64 0, .s [], .i .i64 0, .s [], .s [], .i .i64 0, .s []] []] (x1.map (c6.cells false false))])] = some (True, [], .one (false, [.b (a8x (c7.mk x0 x1))])) := f7 _ (by rintro ⟨_, _⟩ ⟨_, _⟩ h; simp at h; simp_all) (c7.mk x0 x1)
theorem b5Y : OkC Tryz.prog 26 a8r := f8 _
end Go.Aw
