/- The law of a row that fits. No condition. -/
import Derived.Test.YthlbadfickhkfaaebT34
import Derived.Test.YthlbadfickhkfaaebT29
namespace Go.Aw
open Go.Proofs
attribute [local irreducible] aft blk lpK retK AW A0m
set_option linter.unusedVariables false
set_option linter.unusedSimpArgs false
set_option maxRecDepth 100000
set_option maxHeartbeats 8000000
attribute [local irreducible] RM
def a2S : ACode := q' ([b' 2 false]) (.seq (q' ([m' 12 0, n' 13 12, o' 14 (.bin .gtr (.t 13) (k' 1048576))]) (.cond (.t 14) (q' ([b' 2 true]) .ret) .skip)) (q' ([m' 16 0, c' 17 5
 [16], m' 15 17, o' 18 (.ext (.t 15) 0), o' 19 (.ext (.t 15) 1), o' 20 (.ext (.t 15) 2), w' 3 [.sl [.s [], .i .i64 0, .s []]], w' 5 [.sl [.i .i64 0, .s []]],
 s' 1 3 18, m' 4 19, s' 1 5 20]) (q' ([e' 22 1 3, m' 23 4, e' 24 1 5, c' 25 6 [22, 23, 24], m' 21 25, o' 26 (.ext (.t 21) 0), o' 27 (.ext (.t 21) 1), w' 6 [.sl
 [.s [], .i .i64 0, .s []]], s' 1 6 26, m' 7 27]) (q' ([e' 29 1 3, m' 30 4, e' 31 1 5, c' 32 7 [29, 30, 31], m' 28 32, o' 33 (.ext (.t 28) 0), o' 34 (.ext (.t
 28) 1), w' 8 [.sl [.s [], .i .i64 0, .s []]], s' 1 8 33, m' 9 34]) (.seq (q' ([m' 35 7, m' 36 9, o' 37 (.binb .neq (.t 35) (.t 36))]) (.cond (.t 37) (q' ([b'
 2 false]) .ret) .skip)) (.seq (q' ([m' 38 7, o' 39 (.not (.t 38))]) (.cond (.t 39) (q' ([f' 40 0 6, l' 41 40, n' 42 41, o' 43 (.bin .eql (.t 42) (k' 0)), m' 2
 43]) .ret) .skip)) (q' ([e' 45 1 6, m' 46 4, c' 47 8 [45, 46], m' 44 47, o' 48 (.ext (.t 44) 0), o' 49 (.ext (.t 44) 1), w' 10 [.sl [.i .i64 0, .s []]], s' 1
 10 48, m' 11 49]) (q' ([m' 50 11, m' 51 50, ⟨some 52, .ld true 1 (.t 10), some (51, true)⟩, ⟨some 53, .ld true 1 (.t 5), some (51, true)⟩, ⟨some 54, .call 9
 [.t 52, .t 53], some (51, true)⟩, ⟨some 55, .bin .eql (.t 54) (k' 0), some (51, true)⟩, o' 56 (.pick (.t 51) (.t 55) (.k (.v false [.c (.b false)]))), m' 57
 56, ⟨some 58, .ld true 1 (.t 6), some (57, true)⟩, ⟨some 59, .call 10 [.t 58], some (57, true)⟩, o' 60 (.pick (.t 57) (.t 59) (.k (.v false [.c (.b
 false)]))), m' 2 60]) .ret))))))))
theorem a6P : cmp Try.prog Try.f3 = some a2S := by kernel_rfl
theorem a3P (code : List Int) : A0m Try.prog 3 [(false, [.sl false [.i .u8 0] (code.map cU8)])] [] (.one (false, [.b true])) := by
 refine spec_of2 false false none Try.func3 a6P (rvs := [.t 2]) (hΓ := mkCtx_ok (deep := false) (l := [(5, [], a0p), (6, [], a3f), (7, [], a3h), (8, [], a2k), (9, [], z7), (10, [], v8)]) ⟨a3D, a6H, a6I, a5D, a3i, z5, trivial⟩) (h := ?_)
 intro hb hE
 simp only [go_sem] at hb
 simp only [a2S, x']
 (try refine A2Z ?_); simp only [go_sem]; (repeat' first | apply CJ.mk | intro hc); all_goals try ((repeat' first | apply And.intro | intro hs) <;> (try simp only [go_sem, Bool.and_eq_false_iff] at hs) <;> omega)
 ·rw [b1b hc]; rfl
 ·obtain ⟨h1, h2, h3⟩ := fit_law hc
  rw [h1]
  exact ⟨⟨rfl, by rw [h2]; rfl⟩, h3⟩
noncomputable def a7H : CT := p8 (fun (x : (List Int)) => a3P x)
@[go_sem] theorem b1w (x0 : List Int) : a7H [(false, [.sl false [.i .u8 0] (x0.map cU8)])] = some (True, [], .one (false, [.b true])) := i9 _ (by intro x y h; simp at h; simp_all) x0
end Go.Aw
