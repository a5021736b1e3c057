/- States that fit a program. No condition. -/
import Derived.Test.YthlbadfickhkfaaGreatzgT23
import Derived.Test.YthlbadfickhkfaaGreatzgT19
import Derived.Test.YthlbadfickhkfaaGreatzgT5
namespace Go.Aw
open Go.Proofs
attribute [local irreducible] aft blk lpK retK AW A0l
set_option linter.unusedVariables false
set_option linter.unusedSimpArgs false
set_option maxRecDepth 100000
def b7N (a b : List d4) (i : Nat) : Bool := !((a.getD i default).Name == (b.getD i default).Name) || !((a.getD i default).Rel.Arity == (b.getD i default).Rel.Arity)
def y7 (a b : List d4) : Bool := decide (a.length = b.length) && !a7e a.length (b7N a b)
noncomputable def b7U (p : c7) (s : d8) : Bool := a8x p && a1z s && y7 s.Rels (o0 (a0n p 1))
def a3D : ACode := q' ([o' 2 (.box 1 (.t 0)), o' 3 (.box 1 (.t 1)), b' 4 false]) (.seq (q' ([f' 7 0 2, l' 8 7, n' 9 8, f' 10 0 3, l' 11 10, n' 12 11, o' 13 (.bin .neq (.t 9) (.t
 12))]) (.cond (.t 13) (q' ([b' 4 false]) .ret) .skip)) (.seq (q' ([f' 14 0 2, l' 15 14, n' 16 15, z' 17 0]) (.block 0 (.loop (q' ([r' 18 17 16]) (.seq (.cond
 (.t 18) .skip (.exit 0)) (.seq (.block 1 (q' ([m' 19 17, i' 20 3 15 17, e' 21 3 20, w' 6 [.s, .i .i64, .sl [.sl false [.i .i64 0, .s []] []]], m' 5 19, s' 3 6
 21]) (.seq (.reg true [f' 22 0 6, l' 23 22, f' 24 0 3, l' 25 24, m' 26 5, i' 27 3 25 26, f' 28 0 27, l' 29 28, o' 30 (.bin .neq (.t 23) (.t 29)), m' 31 30,
 ⟨some 32, .fa 1 (.t 6), some (31, false)⟩, ⟨some 33, .fa 0 (.t 32), some (31, false)⟩, ⟨some 34, .ld false 1 (.t 33), some (31, false)⟩, ⟨some 35, .fa 0 (.t
 3), some (31, false)⟩, ⟨some 36, .ld false 1 (.t 35), some (31, false)⟩, ⟨some 37, .mov (.t 5), some (31, false)⟩, ⟨some 38, .ia 3 (.t 36) (.t 37), some (31,
 false)⟩, ⟨some 39, .fa 1 (.t 38), some (31, false)⟩, ⟨some 40, .fa 0 (.t 39), some (31, false)⟩, ⟨some 41, .ld false 1 (.t 40), some (31, false)⟩, ⟨some 42,
 .bin .neq (.t 34) (.t 41), some (31, false)⟩, o' 43 (.pick (.t 31) (.k (.v false [.c (.b true)])) (.t 42))]) (.cond (.t 43) (q' ([b' 4 false]) .ret) .skip))))
 (g' [a' 44 17, m' 17 44]))))))) (q' ([b' 4 true]) .ret)))
theorem b1z : cmp Tryz.prog Tryz.f109 = some a3D := by kernel_rfl
theorem b3o (a : d8) (b : d8) : A0l Tryz.prog 109 [(true, [.sl false [.s [], .i .i64 0, .sl false [.sl false [.i .i64 0, .s []] []] []] (a.Rels.map (d4.cells false false))]), (true, [.sl false [.s [], .i .i64 0, .sl false [.sl false [.i .i64 0, .s []] []] []] (b.Rels.map (d4.cells false false))])] [] (.one (false, [.b (y7 a.Rels b.Rels)])) := by
 refine spec_of2 false false none Tryz.func109 b1z (rvs := [.t 4]) (hΓ := mkCtx_ok (deep := false) (l := []) trivial) (h := ?_)
 intro hb hE
 simp only [go_sem] at hb
 simp only [a3D, x']
 (try refine A2V ?_); simp only [go_sem]; (repeat' first | apply CJ.mk | intro hc); all_goals try ((repeat' first | apply And.intro | intro hs) <;> (try simp only [go_sem, Bool.and_eq_false_iff] at hs) <;> omega)
 ·symm
  rw [y7, decide_eq_false (fun h => by simp [h] at hc)]; rfl
 have hl : a.Rels.length = b.Rels.length := by simpa [Int.ofNat_inj] using hc
 refine aw_loop2 false [] [3, 15, 16] [6] [] (fun i : {i : Nat // i ≤ a.Rels.length ∧ a7e i (b7N a.Rels b.Rels) = false} => [(17, slV (.i .i64 i.1))]) (fun i => []) (fun i => []) (fun i => a.Rels.length - i.1) (⟨0, by simp [a2w]⟩) _ rfl ?_ ?_
 ·simp only [go_sem]
  all_goals first | omega | ((repeat' apply And.intro) <;> first | omega | rfl | skip)
 intro S0 hS0 i
 simp only [go_sem] at hS0
 obtain ⟨i, hi, ha⟩ := i
 (try refine A2V ?_); simp only [go_sem, hS0]; (repeat' first | apply CJ.mk | intro hc); all_goals try ((repeat' first | apply And.intro | intro hs) <;> (try simp only [go_sem, Bool.and_eq_false_iff] at hs) <;> omega)
 ·rw [y7, a8E (i := i) (by omega) (by simpa [b7N, bne] using hc)]; simp
 ·(refine lpK_n2 (⟨i + 1, by omega, a2v ha (by simpa [b7N, bne] using hc)⟩) _ rfl ?_; simp only [go_sem, hS0]; first | done | ((repeat' apply And.intro) <;> first | omega | (refine w64 ?_ ?_ ?_ <;> omega) | rfl | skip))
 ·obtain rfl : i = a.Rels.length := by omega
  rw [y7, ha, decide_eq_true hl]; rfl
 all_goals trace_state
noncomputable def a0V : CT := i5 (fun (x : d8 × d8) => b3o x.1 x.2)
@[go_sem] theorem c2D (x0 x1 : List d4) : a0V [(true, [.sl false [.s [], .i .i64 0, .sl false [.sl false [.i .i64 0, .s []] []] []] (x0.map (d4.cells false false))]), (true, [.sl false [.s [], .i .i64 0, .sl false [.sl false [.i .i64 0, .s []] []] []] (x1.map (d4.cells false false))])] = some (True, [], .one (false, [.b (y7 (d8.mk x0).Rels (d8.mk x1).Rels)])) := f7 _ (by rintro ⟨⟨_⟩, ⟨_⟩⟩ ⟨⟨_⟩, ⟨_⟩⟩ h; simp at h; simp_all) ((d8.mk x0), (d8.mk x1))
theorem a8R : OkC Tryz.prog 109 a0V := f8 _
def a4Y : ACode := q' ([o' 2 (.box 1 (.t 0)), o' 3 (.box 1 (.t 1)), b' 4 false]) (.seq (q' ([f' 6 0 2, l' 7 6, n' 8 7, f' 9 0 3, l' 10 9, n' 11 10, o' 12 (.bin .neq (.t 8) (.t
 11))]) (.cond (.t 12) (q' ([b' 4 false]) .ret) .skip)) (.seq (q' ([f' 13 0 2, l' 14 13, n' 15 14, z' 16 0]) (.block 0 (.loop (q' ([r' 17 16 15]) (.seq (.cond
 (.t 17) .skip (.exit 0)) (.seq (.block 1 (q' ([m' 18 16, m' 5 18]) (.seq (.reg true [f' 19 0 2, l' 20 19, m' 21 5, i' 22 3 20 21, f' 23 0 22, l' 24 23, f' 25
 0 3, l' 26 25, m' 27 5, i' 28 3 26 27, f' 29 0 28, l' 30 29, o' 31 (.bin .neq (.t 24) (.t 30)), m' 32 31, ⟨some 33, .fa 0 (.t 2), some (32, false)⟩, ⟨some 34,
 .ld false 1 (.t 33), some (32, false)⟩, ⟨some 35, .mov (.t 5), some (32, false)⟩, ⟨some 36, .ia 3 (.t 34) (.t 35), some (32, false)⟩, ⟨some 37, .fa 1 (.t 36),
 some (32, false)⟩, ⟨some 38, .fa 0 (.t 37), some (32, false)⟩, ⟨some 39, .ld false 1 (.t 38), some (32, false)⟩, ⟨some 40, .fa 0 (.t 3), some (32, false)⟩,
 ⟨some 41, .ld false 1 (.t 40), some (32, false)⟩, ⟨some 42, .mov (.t 5), some (32, false)⟩, ⟨some 43, .ia 3 (.t 41) (.t 42), some (32, false)⟩, ⟨some 44, .fa
 1 (.t 43), some (32, false)⟩, ⟨some 45, .fa 0 (.t 44), some (32, false)⟩, ⟨some 46, .ld false 1 (.t 45), some (32, false)⟩, ⟨some 47, .bin .neq (.t 39) (.t
 46), some (32, false)⟩, o' 48 (.pick (.t 32) (.k (.v false [.c (.b true)])) (.t 47))]) (.cond (.t 48) (q' ([b' 4 false]) .ret) .skip)))) (g' [a' 49 16, m' 16
 49]))))))) (q' ([b' 4 true]) .ret)))
theorem b3j : cmp Tryz.prog Tryz.f106 = some a4Y := by kernel_rfl
theorem b5w (a : d8) (b : d8) : A0l Tryz.prog 106 [(true, [.sl false [.s [], .i .i64 0, .sl false [.sl false [.i .i64 0, .s []] []] []] (a.Rels.map (d4.cells false false))]), (true, [.sl false [.s [], .i .i64 0, .sl false [.sl false [.i .i64 0, .s []] []] []] (b.Rels.map (d4.cells false false))])] [] (.one (false, [.b (y7 a.Rels b.Rels)])) := by
 refine spec_of2 false false none Tryz.func106 b3j (rvs := [.t 4]) (hΓ := mkCtx_ok (deep := false) (l := []) trivial) (h := ?_)
 intro hb hE
 simp only [go_sem] at hb
 simp only [a4Y, x']
 (try refine A2V ?_); simp only [go_sem]; (repeat' first | apply CJ.mk | intro hc); all_goals try ((repeat' first | apply And.intro | intro hs) <;> (try simp only [go_sem, Bool.and_eq_false_iff] at hs) <;> omega)
 ·symm
  rw [y7, decide_eq_false (fun h => by simp [h] at hc)]; rfl
 have hl : a.Rels.length = b.Rels.length := by simpa [Int.ofNat_inj] using hc
 refine aw_loop2 false [] [2, 3, 15] [4, 6] [] (fun i : {i : Nat // i ≤ a.Rels.length ∧ a7e i (b7N a.Rels b.Rels) = false} => [(16, slV (.i .i64 i.1))]) (fun i => []) (fun i => []) (fun i => a.Rels.length - i.1) (⟨0, by simp [a2w]⟩) _ rfl ?_ ?_
 ·simp only [go_sem]
  all_goals first | omega | ((repeat' apply And.intro) <;> first | omega | rfl | skip)
 intro S0 hS0 i
 simp only [go_sem] at hS0
 obtain ⟨i, hi, ha⟩ := i
 (try refine A2V ?_); simp only [go_sem, hS0]; (repeat' first | apply CJ.mk | intro hc); all_goals try ((repeat' first | apply And.intro | intro hs) <;> (try simp only [go_sem, Bool.and_eq_false_iff] at hs) <;> omega)
 ·rw [y7, a8E (i := i) (by omega) (by simpa [b7N, bne] using hc)]; simp
 ·(refine lpK_n2 (⟨i + 1, by omega, a2v ha (by simpa [b7N, bne] using hc)⟩) _ rfl ?_; simp only [go_sem, hS0]; first | done | ((repeat' apply And.intro) <;> first | omega | (refine w64 ?_ ?_ ?_ <;> omega) | rfl | skip))
 ·obtain rfl : i = a.Rels.length := by omega
  rw [y7, ha, decide_eq_true hl]; rfl
 all_goals trace_state
noncomputable def a2b : CT := i5 (fun (x : d8 × d8) => b5w x.1 x.2)
@[go_sem] theorem c3O (x0 x1 : List d4) : a2b [(true, [.sl false [.s [], .i .i64 0, .sl false [.sl false [.i .i64 0, .s []] []] []] (x0.map (d4.cells false false))]), (true, [.sl false [.s [], .i .i64 0, .sl false [.sl false [.i .i64 0, .s []] []] []] (x1.map (d4.cells false false))])] = some (True, [], .one (false, [.b (y7 (d8.mk x0).Rels (d8.mk x1).Rels)])) := f7 _ (by rintro ⟨⟨_⟩, ⟨_⟩⟩ ⟨⟨_⟩, ⟨_⟩⟩ h; simp at h; simp_all) ((d8.mk x0), (d8.mk x1))
theorem b0h : OkC Tryz.prog 106 a2b := f8 _
theorem c1L {p : c7} (h : a8x p = true) (k : Int) : b2L p k = o0 (a0n p k) := by rw [b2L, b3K h]; rfl
theorem c3X {p : c7} (h : a8x p = true) : p.Decls.length ≤ 16 := by
 have := a6l (b3K h)
 simp only [l4, Bool.and_eq_true, decide_eq_true_eq] at this
 omega
def a6q : ACode := q' ([o' 2 (.box 2 (.t 0)), o' 3 (.box 1 (.t 1)), b' 4 false]) (.seq (.reg true [e' 5 2 2, c' 6 27 [5], m' 7 6, ⟨some 8, .ld true 1 (.t 3), some (7, true)⟩,
 ⟨some 9, .call 108 [.t 8], some (7, true)⟩, o' 10 (.pick (.t 7) (.t 9) (.k (.v false [.c (.b false)]))), m' 11 10, ⟨some 12, .ld true 1 (.t 3), some (11,
 true)⟩, ⟨some 13, .ld true 2 (.t 2), some (11, true)⟩, ⟨some 14, .call 15 [.t 13, .k (.v false [.c (.i .i64 1)])], some (11, true)⟩, ⟨some 15, .call 109 [.t
 12, .t 14], some (11, true)⟩, o' 16 (.pick (.t 11) (.t 15) (.k (.v false [.c (.b false)]))), m' 4 16]) .ret)
theorem b4p : cmp Tryz.prog Tryz.f45 = some a6q := by kernel_rfl
theorem b6W (p : c7) (s : d8) : A0l Tryz.prog 45 [(true, [.sl false [.i .i64 0, .s [], .i .i64 0] (p.Decls.map c8.cells), .sl false [.i .i64 0, .s [], .sl false [.s [], .i .i64 0, .s []] [], .sl false [.i .i64 0, .s [], .sl false [.s [], .i .i64 0, .s []] [], .i .i64 0, .s [], .i .i64 0, .s [], .s [], .i .i64 0, .s []] []] (p.Rules.map (c6.cells false false))]), (true, [.sl false [.s [], .i .i64 0, .sl false [.sl false [.i .i64 0, .s []] []] []] (s.Rels.map (d4.cells false false))])] [] (.one (false, [.b (b7U p s)])) := by
 refine spec_of2 false false none Tryz.func45 b4p (rvs := [.t 4]) (hΓ := mkCtx_ok (deep := false) (l := [(27, [], a8k), (108, [], a2S), (15, [], a0s), (109, [], a0V)]) ⟨b5X, b0U, a8j, a8R, trivial⟩) (h := ?_)
 intro hb hE
 simp only [go_sem] at hb
 simp only [a6q, x']
 (try refine A2V ?_); simp only [go_sem]; (repeat' first | apply CJ.mk | intro hc); all_goals try ((repeat' first | apply And.intro | intro hs) <;> (try simp only [go_sem, Bool.and_eq_false_iff] at hs) <;> omega)
 rw [b7U]
 cases h : a8x p with
 | false => rfl
 | true => rw [c1L h]
noncomputable def a2R : CT := i5 (fun (x : c7 × d8) => b6W x.1 x.2)
@[go_sem] theorem c4A (x0 : List c8) (x1 : List c6) (x2 : List d4) : a2R [(true, [.sl false [.i .i64 0, .s [], .i .i64 0] (x0.map c8.cells), .sl false [.i .i64 0, .s [], .sl false [.s [], .i .i64 0, .s []] [], .sl false [.i .i64 0, .s [], .sl false [.s [], .i .i64 0, .s []] [], .i .i64 0, .s [], .i .i64 0, .s [], .s [], .i .i64 0, .s []] []] (x1.map (c6.cells false false))]), (true, [.sl false [.s [], .i .i64 0, .sl false [.sl false [.i .i64 0, .s []] []] []] (x2.map (d4.cells false false))])] = some (True, [], .one (false, [.b (b7U (c7.mk x0 x1) (d8.mk x2))])) := f7 _ (by rintro ⟨⟨_, _⟩, ⟨_⟩⟩ ⟨⟨_, _⟩, ⟨_⟩⟩ h; simp at h; simp_all) ((c7.mk x0 x1), (d8.mk x2))
theorem b0T : OkC Tryz.prog 45 a2R := f8 _
def a6T : ACode := q' ([o' 2 (.box 2 (.t 0)), o' 3 (.box 1 (.t 1)), b' 4 false]) (.seq (.reg true [e' 5 2 2, c' 6 26 [5], m' 7 6, ⟨some 8, .ld true 1 (.t 3), some (7, true)⟩,
 ⟨some 9, .call 105 [.t 8], some (7, true)⟩, o' 10 (.pick (.t 7) (.t 9) (.k (.v false [.c (.b false)]))), m' 11 10, ⟨some 12, .ld true 1 (.t 3), some (11,
 true)⟩, ⟨some 13, .ld true 2 (.t 2), some (11, true)⟩, ⟨some 14, .call 63 [.t 13, .k (.v false [.c (.i .i64 1)])], some (11, true)⟩, ⟨some 15, .call 106 [.t
 12, .t 14], some (11, true)⟩, o' 16 (.pick (.t 11) (.t 15) (.k (.v false [.c (.b false)]))), m' 4 16]) .ret)
theorem b4S : cmp Tryz.prog Tryz.f43 = some a6T := by kernel_rfl
theorem b7z (p : c7) (s : d8) : A0l Tryz.prog 43 [(true, [.sl false [.i .i64 0, .s [], .i .i64 0] (p.Decls.map c8.cells), .sl false [.i .i64 0, .s [], .sl false [.s [], .i .i64 0, .s []] [], .sl false [.i .i64 0, .s [], .sl false [.s [], .i .i64 0, .s []] [], .i .i64 0, .s [], .i .i64 0, .s [], .s [], .i .i64 0, .s []] []] (p.Rules.map (c6.cells false false))]), (true, [.sl false [.s [], .i .i64 0, .sl false [.sl false [.i .i64 0, .s []] []] []] (s.Rels.map (d4.cells false false))])] [] (.one (false, [.b (b7U p s)])) := by
 refine spec_of2 false false none Tryz.func43 b4S (rvs := [.t 4]) (hΓ := mkCtx_ok (deep := false) (l := [(26, [], a8r), (105, [], a3p), (63, [], a0g), (106, [], a2b)]) ⟨b5Y, b1r, a3t, b0h, trivial⟩) (h := ?_)
 intro hb hE
 simp only [go_sem] at hb
 simp only [a6T, x']
 (try refine A2V ?_); simp only [go_sem]; (repeat' first | apply CJ.mk | intro hc); all_goals try ((repeat' first | apply And.intro | intro hs) <;> (try simp only [go_sem, Bool.and_eq_false_iff] at hs) <;> omega)
 ·exact c3X hc.1
 ·rfl
noncomputable def a3o : CT := i5 (fun (x : c7 × d8) => b7z x.1 x.2)
@[go_sem] theorem c5d (x0 : List c8) (x1 : List c6) (x2 : List d4) : a3o [(true, [.sl false [.i .i64 0, .s [], .i .i64 0] (x0.map c8.cells), .sl false [.i .i64 0, .s [], .sl false [.s [], .i .i64 0, .s []] [], .sl false [.i .i64 0, .s [], .sl false [.s [], .i .i64 0, .s []] [], .i .i64 0, .s [], .i .i64 0, .s [], .s [], .i .i64 0, .s []] []] (x1.map (c6.cells false false))]), (true, [.sl false [.s [], .i .i64 0, .sl false [.sl false [.i .i64 0, .s []] []] []] (x2.map (d4.cells false false))])] = some (True, [], .one (false, [.b (b7U (c7.mk x0 x1) (d8.mk x2))])) := f7 _ (by rintro ⟨⟨_, _⟩, ⟨_⟩⟩ ⟨⟨_, _⟩, ⟨_⟩⟩ h; simp at h; simp_all) ((c7.mk x0 x1), (d8.mk x2))
theorem b1q : OkC Tryz.prog 43 a3o := f8 _
end Go.Aw
