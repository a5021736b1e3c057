/- Rows filled. No condition. -/
import Derived.Test.YthlbadfickhkfaaGreatzeG2
namespace Go.Aw
open Go.Proofs
attribute [local irreducible] aft blk lpK retK AW A0l
set_option linter.unusedVariables false
set_option linter.unusedSimpArgs false
set_option maxRecDepth 100000
def kept (s : List UInt8) : Bool := s == [115, 116, 97, 116, 101] || s == [101, 118, 101, 110, 116] || s == [118, 105, 101, 119] || s == [110, 111, 116]
def q0 (t : c5) : Bool := bif !(t.Var == []) then a8x t.Var && (t.Val.N == 0 && t.Val.S == []) else a2j t.Val && !kept t.Val.S
def a9o : ACode := q' ([b' 2 false]) (q' ([m' 3 0, o' 4 (.bin .eql (.t 3) (.k (.v false [.c (.s [115, 116, 97, 116, 101])]))), m' 5 4, ⟨some 6, .mov (.t 0), some (5, false)⟩,
 ⟨some 7, .bin .eql (.t 6) (.k (.v false [.c (.s [101, 118, 101, 110, 116])])), some (5, false)⟩, o' 8 (.pick (.t 5) (.k (.v false [.c (.b true)])) (.t 7)), m'
 9 8, ⟨some 10, .mov (.t 0), some (9, false)⟩, ⟨some 11, .bin .eql (.t 10) (.k (.v false [.c (.s [118, 105, 101, 119])])), some (9, false)⟩, o' 12 (.pick (.t
 9) (.k (.v false [.c (.b true)])) (.t 11)), m' 13 12, ⟨some 14, .mov (.t 0), some (13, false)⟩, ⟨some 15, .bin .eql (.t 14) (.k (.v false [.c (.s [110, 111,
 116])])), some (13, false)⟩, o' 16 (.pick (.t 13) (.k (.v false [.c (.b true)])) (.t 15)), m' 2 16]) .ret)
theorem b7N : cmp Tryz.prog Tryz.f297 = some a9o := by kernel_rfl
theorem b9t (s : List UInt8) : A0l Tryz.prog 297 [(false, [.s s])] [] (.one (false, [.b (kept s)])) := by
 refine spec_of2 false false none Tryz.func297 b7N (rvs := [.t 2]) (hΓ := mkCtx_ok (deep := false) (l := []) trivial) (h := ?_)
 intro hb hE
 simp only [go_sem] at hb
 simp only [a9o, x']
 (try refine A2V ?_); simp only [go_sem]; (repeat' first | apply CJ.mk | intro hc); all_goals try ((repeat' first | apply And.intro | intro hs) <;> (try simp only [go_sem, Bool.and_eq_false_iff] at hs) <;> omega)
 all_goals (first | rfl | trace_state)
noncomputable def a3H : CT := i8 (fun (x : (List UInt8)) => b9t x)
@[go_sem] theorem c5b (s : List UInt8) : a3H [(false, [.s s])] = some (True, [], .one (false, [.b (kept s)])) := f5 _ (by intro x y h; simp at h; simp_all) s
theorem a7q : OkC Tryz.prog 297 a3H := f7 _
def a9l : ACode := q' ([b' 2 false]) (q' ([m' 3 0, o' 4 (.bin .eql (.t 3) (.k (.v false [.c (.s [115, 116, 97, 116, 101])]))), m' 5 4, ⟨some 6, .mov (.t 0), some (5, false)⟩,
 ⟨some 7, .bin .eql (.t 6) (.k (.v false [.c (.s [101, 118, 101, 110, 116])])), some (5, false)⟩, o' 8 (.pick (.t 5) (.k (.v false [.c (.b true)])) (.t 7)), m'
 9 8, ⟨some 10, .mov (.t 0), some (9, false)⟩, ⟨some 11, .bin .eql (.t 10) (.k (.v false [.c (.s [118, 105, 101, 119])])), some (9, false)⟩, o' 12 (.pick (.t
 9) (.k (.v false [.c (.b true)])) (.t 11)), m' 13 12, ⟨some 14, .mov (.t 0), some (13, false)⟩, ⟨some 15, .bin .eql (.t 14) (.k (.v false [.c (.s [110, 111,
 116])])), some (13, false)⟩, o' 16 (.pick (.t 13) (.k (.v false [.c (.b true)])) (.t 15)), m' 2 16]) .ret)
theorem b7K : cmp Tryz.prog Tryz.f310 = some a9l := by kernel_rfl
theorem b9q (s : List UInt8) : A0l Tryz.prog 310 [(false, [.s s])] [] (.one (false, [.b (kept s)])) := by
 refine spec_of2 false false none Tryz.func310 b7K (rvs := [.t 2]) (hΓ := mkCtx_ok (deep := false) (l := []) trivial) (h := ?_)
 intro hb hE
 simp only [go_sem] at hb
 simp only [a9l, x']
 (try refine A2V ?_); simp only [go_sem]; (repeat' first | apply CJ.mk | intro hc); all_goals try ((repeat' first | apply And.intro | intro hs) <;> (try simp only [go_sem, Bool.and_eq_false_iff] at hs) <;> omega)
 all_goals (first | rfl | trace_state)
noncomputable def a3C : CT := i8 (fun (x : (List UInt8)) => b9q x)
@[go_sem] theorem c4Y (s : List UInt8) : a3C [(false, [.s s])] = some (True, [], .one (false, [.b (kept s)])) := f5 _ (by intro x y h; simp at h; simp_all) s
theorem a7j : OkC Tryz.prog 310 a3C := f7 _
def a3z : ACode := q' ([o' 1 (.box 3 (.t 0)), b' 2 false]) (.seq (q' ([f' 3 0 1, l' 4 3, o' 5 (.bin .neq (.t 4) (.k (.v false [.c (.s [])])))]) (.cond (.t 5) (q' ([f' 6 0 1, l' 7
 6, c' 8 320 [7], m' 9 8, ⟨some 10, .fa 1 (.t 1), some (9, true)⟩, ⟨some 11, .ld true 2 (.t 10), some (9, true)⟩, ⟨some 12, .bld [.i .i64, .s] [], some (9,
 true)⟩, ⟨some 13, .eqs false [.i .i64, .s] (.t 11) (.t 12), some (9, true)⟩, o' 14 (.pick (.t 9) (.t 13) (.k (.v false [.c (.b false)]))), m' 2 14]) .ret)
 .skip)) (q' ([f' 15 1 1, e' 16 2 15, c' 17 242 [16], m' 18 17, ⟨some 19, .fa 1 (.t 1), some (18, true)⟩, ⟨some 20, .fa 1 (.t 19), some (18, true)⟩, ⟨some 21,
 .ld false 1 (.t 20), some (18, true)⟩, ⟨some 22, .call 297 [.t 21], some (18, true)⟩, ⟨some 23, .not (.t 22), some (18, true)⟩, o' 24 (.pick (.t 18) (.t 23)
 (.k (.v false [.c (.b false)]))), m' 2 24]) .ret))
theorem b0q : cmp Tryz.prog Tryz.f264 = some a3z := by kernel_rfl
theorem b2b (t : c5) : A0l Tryz.prog 264 [(true, [.s t.Var, .i .i64 t.Val.N, .s t.Val.S])] [] (.one (false, [.b (q0 t)])) := by
 refine spec_of2 false false none Tryz.func264 b0q (rvs := [.t 2]) (hΓ := mkCtx_ok (deep := false) (l := [(320, [], a5q), (242, [], a2T), (297, [], a3H)]) ⟨b2J, a9P, a7q, trivial⟩) (h := ?_)
 intro hb hE
 simp only [go_sem] at hb
 simp only [a3z, x']
 (try refine A2V ?_); simp only [go_sem]; (repeat' first | apply CJ.mk | intro hc); all_goals try ((repeat' first | apply And.intro | intro hs) <;> (try simp only [go_sem, Bool.and_eq_false_iff] at hs) <;> omega)
 all_goals (first | (rw [q0, hc]; rfl) | (have hc2 : (!(t.Var == [])) = true := hc; rw [q0, hc2]; rfl) | (have hc2 : (!(t.Var == [])) = false := hc; rw [q0, hc2]; rfl) | trace_state)
noncomputable def y5 : CT := i8 (fun (x : c5) => b2b x)
@[go_sem] theorem c0g (x0 : List UInt8) (x1 : Int) (x2 : List UInt8) : y5 [(true, [.s x0, .i .i64 x1, .s x2])] = some (True, [], .one (false, [.b (q0 (c5.mk x0 (d3.mk x1 x2)))])) := f5 _ (by rintro ⟨_, ⟨_, _⟩⟩ ⟨_, ⟨_, _⟩⟩ h; simp at h; simp_all) (c5.mk x0 (d3.mk x1 x2))
theorem a2f : OkC Tryz.prog 264 y5 := f7 _
def a6y : ACode := q' ([o' 1 (.box 3 (.t 0)), b' 2 false]) (.seq (q' ([f' 3 0 1, l' 4 3, o' 5 (.bin .neq (.t 4) (.k (.v false [.c (.s [])])))]) (.cond (.t 5) (q' ([f' 6 0 1, l' 7
 6, c' 8 323 [7], m' 9 8, ⟨some 10, .fa 1 (.t 1), some (9, true)⟩, ⟨some 11, .ld true 2 (.t 10), some (9, true)⟩, ⟨some 12, .bld [.i .i64, .s] [], some (9,
 true)⟩, ⟨some 13, .eqs false [.i .i64, .s] (.t 11) (.t 12), some (9, true)⟩, o' 14 (.pick (.t 9) (.t 13) (.k (.v false [.c (.b false)]))), m' 2 14]) .ret)
 .skip)) (q' ([f' 15 1 1, e' 16 2 15, c' 17 245 [16], m' 18 17, ⟨some 19, .fa 1 (.t 1), some (18, true)⟩, ⟨some 20, .fa 1 (.t 19), some (18, true)⟩, ⟨some 21,
 .ld false 1 (.t 20), some (18, true)⟩, ⟨some 22, .call 310 [.t 21], some (18, true)⟩, ⟨some 23, .not (.t 22), some (18, true)⟩, o' 24 (.pick (.t 18) (.t 23)
 (.k (.v false [.c (.b false)]))), m' 2 24]) .ret))
theorem b4x : cmp Tryz.prog Tryz.f274 = some a6y := by kernel_rfl
theorem b6s (t : c5) : A0l Tryz.prog 274 [(true, [.s t.Var, .i .i64 t.Val.N, .s t.Val.S])] [] (.one (false, [.b (q0 t)])) := by
 refine spec_of2 false false none Tryz.func274 b4x (rvs := [.t 2]) (hΓ := mkCtx_ok (deep := false) (l := [(323, [], a5i), (245, [], a2A), (310, [], a3C)]) ⟨b2C, a9x, a7j, trivial⟩) (h := ?_)
 intro hb hE
 simp only [go_sem] at hb
 simp only [a6y, x']
 (try refine A2V ?_); simp only [go_sem]; (repeat' first | apply CJ.mk | intro hc); all_goals try ((repeat' first | apply And.intro | intro hs) <;> (try simp only [go_sem, Bool.and_eq_false_iff] at hs) <;> omega)
 all_goals (first | (rw [q0, hc]; rfl) | (have hc2 : (!(t.Var == [])) = true := hc; rw [q0, hc2]; rfl) | (have hc2 : (!(t.Var == [])) = false := hc; rw [q0, hc2]; rfl) | trace_state)
noncomputable def a1j : CT := i8 (fun (x : c5) => b6s x)
@[go_sem] theorem c3c (x0 : List UInt8) (x1 : Int) (x2 : List UInt8) : a1j [(true, [.s x0, .i .i64 x1, .s x2])] = some (True, [], .one (false, [.b (q0 (c5.mk x0 (d3.mk x1 x2)))])) := f5 _ (by rintro ⟨_, ⟨_, _⟩⟩ ⟨_, ⟨_, _⟩⟩ h; simp at h; simp_all) (c5.mk x0 (d3.mk x1 x2))
theorem a4C : OkC Tryz.prog 274 a1j := f7 _
end Go.Aw
