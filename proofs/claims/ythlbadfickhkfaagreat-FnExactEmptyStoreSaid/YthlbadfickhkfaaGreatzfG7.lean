/- Rows filled. No condition. -/
import Derived.Test.YthlbadfickhkfaaGreatzfG2
namespace Go.Aw
open Go.Proofs
attribute [local irreducible] aft blk lpK retK AW A0l
set_option linter.unusedVariables false
set_option linter.unusedSimpArgs false
set_option maxRecDepth 100000
def kept (s : List UInt8) : Bool := s == [115, 116, 97, 116, 101] || s == [101, 118, 101, 110, 116] || s == [118, 105, 101, 119] || s == [110, 111, 116]
def o0 (t : c4) : Bool := bif !(t.Var == []) then a6M t.Var && (t.Val.N == 0 && t.Val.S == []) else a1p t.Val && !kept t.Val.S
def a7G : ACode := q' ([b' 2 false]) (q' ([m' 3 0, o' 4 (.bin .eql (.t 3) (.k (.v false [.c (.s [115, 116, 97, 116, 101])]))), m' 5 4, ⟨some 6, .mov (.t 0), some (5, false)⟩,
 ⟨some 7, .bin .eql (.t 6) (.k (.v false [.c (.s [101, 118, 101, 110, 116])])), some (5, false)⟩, o' 8 (.pick (.t 5) (.k (.v false [.c (.b true)])) (.t 7)), m'
 9 8, ⟨some 10, .mov (.t 0), some (9, false)⟩, ⟨some 11, .bin .eql (.t 10) (.k (.v false [.c (.s [118, 105, 101, 119])])), some (9, false)⟩, o' 12 (.pick (.t
 9) (.k (.v false [.c (.b true)])) (.t 11)), m' 13 12, ⟨some 14, .mov (.t 0), some (13, false)⟩, ⟨some 15, .bin .eql (.t 14) (.k (.v false [.c (.s [110, 111,
 116])])), some (13, false)⟩, o' 16 (.pick (.t 13) (.k (.v false [.c (.b true)])) (.t 15)), m' 2 16]) .ret)
theorem b4r : cmp Tryz.prog Tryz.f297 = some a7G := by kernel_rfl
theorem b5E (s : List UInt8) : A0l Tryz.prog 297 [(false, [.s s])] [] (.one (false, [.b (kept s)])) := by
 refine spec_of2 false false none Tryz.func297 b4r (rvs := [.t 2]) (hΓ := mkCtx_ok (deep := false) (l := []) trivial) (h := ?_)
 intro hb hE
 simp only [go_sem] at hb
 simp only [a7G, x']
 (try refine A2V ?_); simp only [go_sem]; (repeat' first | apply CJ.mk | intro hc); all_goals try ((repeat' first | apply And.intro | intro hs) <;> (try simp only [go_sem, Bool.and_eq_false_iff] at hs) <;> omega)
 all_goals (first | rfl | trace_state)
noncomputable def a2x : CT := i6 (fun (x : (List UInt8)) => b5E x)
@[go_sem] theorem b9W (s : List UInt8) : a2x [(false, [.s s])] = some (True, [], .one (false, [.b (kept s)])) := f7 _ (by intro x y h; simp at h; simp_all) s
theorem a5U : OkC Tryz.prog 297 a2x := f8 _
def a7D : ACode := q' ([b' 2 false]) (q' ([m' 3 0, o' 4 (.bin .eql (.t 3) (.k (.v false [.c (.s [115, 116, 97, 116, 101])]))), m' 5 4, ⟨some 6, .mov (.t 0), some (5, false)⟩,
 ⟨some 7, .bin .eql (.t 6) (.k (.v false [.c (.s [101, 118, 101, 110, 116])])), some (5, false)⟩, o' 8 (.pick (.t 5) (.k (.v false [.c (.b true)])) (.t 7)), m'
 9 8, ⟨some 10, .mov (.t 0), some (9, false)⟩, ⟨some 11, .bin .eql (.t 10) (.k (.v false [.c (.s [118, 105, 101, 119])])), some (9, false)⟩, o' 12 (.pick (.t
 9) (.k (.v false [.c (.b true)])) (.t 11)), m' 13 12, ⟨some 14, .mov (.t 0), some (13, false)⟩, ⟨some 15, .bin .eql (.t 14) (.k (.v false [.c (.s [110, 111,
 116])])), some (13, false)⟩, o' 16 (.pick (.t 13) (.k (.v false [.c (.b true)])) (.t 15)), m' 2 16]) .ret)
theorem b4o : cmp Tryz.prog Tryz.f310 = some a7D := by kernel_rfl
theorem b5C (s : List UInt8) : A0l Tryz.prog 310 [(false, [.s s])] [] (.one (false, [.b (kept s)])) := by
 refine spec_of2 false false none Tryz.func310 b4o (rvs := [.t 2]) (hΓ := mkCtx_ok (deep := false) (l := []) trivial) (h := ?_)
 intro hb hE
 simp only [go_sem] at hb
 simp only [a7D, x']
 (try refine A2V ?_); simp only [go_sem]; (repeat' first | apply CJ.mk | intro hc); all_goals try ((repeat' first | apply And.intro | intro hs) <;> (try simp only [go_sem, Bool.and_eq_false_iff] at hs) <;> omega)
 all_goals (first | rfl | trace_state)
noncomputable def a2s : CT := i6 (fun (x : (List UInt8)) => b5C x)
@[go_sem] theorem b9U (s : List UInt8) : a2s [(false, [.s s])] = some (True, [], .one (false, [.b (kept s)])) := f7 _ (by intro x y h; simp at h; simp_all) s
theorem a5I : OkC Tryz.prog 310 a2s := f8 _
def a2q : ACode := q' ([o' 1 (.box 3 (.t 0)), b' 2 false]) (.seq (q' ([f' 3 0 1, l' 4 3, o' 5 (.bin .neq (.t 4) (.k (.v false [.c (.s [])])))]) (.cond (.t 5) (q' ([f' 6 0 1, l' 7
 6, c' 8 320 [7], m' 9 8, ⟨some 10, .fa 1 (.t 1), some (9, true)⟩, ⟨some 11, .ld true 2 (.t 10), some (9, true)⟩, ⟨some 12, .bld [.i .i64, .s] [], some (9,
 true)⟩, ⟨some 13, .eqs false [.i .i64, .s] (.t 11) (.t 12), some (9, true)⟩, o' 14 (.pick (.t 9) (.t 13) (.k (.v false [.c (.b false)]))), m' 2 14]) .ret)
 .skip)) (q' ([f' 15 1 1, e' 16 2 15, c' 17 242 [16], m' 18 17, ⟨some 19, .fa 1 (.t 1), some (18, true)⟩, ⟨some 20, .fa 1 (.t 19), some (18, true)⟩, ⟨some 21,
 .ld false 1 (.t 20), some (18, true)⟩, ⟨some 22, .call 297 [.t 21], some (18, true)⟩, ⟨some 23, .not (.t 22), some (18, true)⟩, o' 24 (.pick (.t 18) (.t 23)
 (.k (.v false [.c (.b false)]))), m' 2 24]) .ret))
theorem a8q : cmp Tryz.prog Tryz.f264 = some a2q := by kernel_rfl
theorem a9J (t : c4) : A0l Tryz.prog 264 [(true, [.s t.Var, .i .i64 t.Val.N, .s t.Val.S])] [] (.one (false, [.b (o0 t)])) := by
 refine spec_of2 false false none Tryz.func264 a8q (rvs := [.t 2]) (hΓ := mkCtx_ok (deep := false) (l := [(320, [], a4a), (242, [], a1X), (297, [], a2x)]) ⟨b0n, a8b, a5U, trivial⟩) (h := ?_)
 intro hb hE
 simp only [go_sem] at hb
 simp only [a2q, x']
 (try refine A2V ?_); simp only [go_sem]; (repeat' first | apply CJ.mk | intro hc); all_goals try ((repeat' first | apply And.intro | intro hs) <;> (try simp only [go_sem, Bool.and_eq_false_iff] at hs) <;> omega)
 all_goals (first | (rw [o0, hc]; rfl) | (have hc2 : (!(t.Var == [])) = true := hc; rw [o0, hc2]; rfl) | (have hc2 : (!(t.Var == [])) = false := hc; rw [o0, hc2]; rfl) | trace_state)
noncomputable def t9 : CT := i6 (fun (x : c4) => a9J x)
@[go_sem] theorem b5Z (x0 : List UInt8) (x1 : Int) (x2 : List UInt8) : t9 [(true, [.s x0, .i .i64 x1, .s x2])] = some (True, [], .one (false, [.b (o0 (c4.mk x0 (d5.mk x1 x2)))])) := f7 _ (by rintro ⟨_, ⟨_, _⟩⟩ ⟨_, ⟨_, _⟩⟩ h; simp at h; simp_all) (c4.mk x0 (d5.mk x1 x2))
theorem a1m : OkC Tryz.prog 264 t9 := f8 _
def a5c : ACode := q' ([o' 1 (.box 3 (.t 0)), b' 2 false]) (.seq (q' ([f' 3 0 1, l' 4 3, o' 5 (.bin .neq (.t 4) (.k (.v false [.c (.s [])])))]) (.cond (.t 5) (q' ([f' 6 0 1, l' 7
 6, c' 8 323 [7], m' 9 8, ⟨some 10, .fa 1 (.t 1), some (9, true)⟩, ⟨some 11, .ld true 2 (.t 10), some (9, true)⟩, ⟨some 12, .bld [.i .i64, .s] [], some (9,
 true)⟩, ⟨some 13, .eqs false [.i .i64, .s] (.t 11) (.t 12), some (9, true)⟩, o' 14 (.pick (.t 9) (.t 13) (.k (.v false [.c (.b false)]))), m' 2 14]) .ret)
 .skip)) (q' ([f' 15 1 1, e' 16 2 15, c' 17 245 [16], m' 18 17, ⟨some 19, .fa 1 (.t 1), some (18, true)⟩, ⟨some 20, .fa 1 (.t 19), some (18, true)⟩, ⟨some 21,
 .ld false 1 (.t 20), some (18, true)⟩, ⟨some 22, .call 310 [.t 21], some (18, true)⟩, ⟨some 23, .not (.t 22), some (18, true)⟩, o' 24 (.pick (.t 18) (.t 23)
 (.k (.v false [.c (.b false)]))), m' 2 24]) .ret))
theorem b1I : cmp Tryz.prog Tryz.f274 = some a5c := by kernel_rfl
theorem b3j (t : c4) : A0l Tryz.prog 274 [(true, [.s t.Var, .i .i64 t.Val.N, .s t.Val.S])] [] (.one (false, [.b (o0 t)])) := by
 refine spec_of2 false false none Tryz.func274 b1I (rvs := [.t 2]) (hΓ := mkCtx_ok (deep := false) (l := [(323, [], a3R), (245, [], a1G), (310, [], a2s)]) ⟨b0g, a7L, a5I, trivial⟩) (h := ?_)
 intro hb hE
 simp only [go_sem] at hb
 simp only [a5c, x']
 (try refine A2V ?_); simp only [go_sem]; (repeat' first | apply CJ.mk | intro hc); all_goals try ((repeat' first | apply And.intro | intro hs) <;> (try simp only [go_sem, Bool.and_eq_false_iff] at hs) <;> omega)
 all_goals (first | (rw [o0, hc]; rfl) | (have hc2 : (!(t.Var == [])) = true := hc; rw [o0, hc2]; rfl) | (have hc2 : (!(t.Var == [])) = false := hc; rw [o0, hc2]; rfl) | trace_state)
noncomputable def a0A : CT := i6 (fun (x : c4) => b3j x)
@[go_sem] theorem b8y (x0 : List UInt8) (x1 : Int) (x2 : List UInt8) : a0A [(true, [.s x0, .i .i64 x1, .s x2])] = some (True, [], .one (false, [.b (o0 (c4.mk x0 (d5.mk x1 x2)))])) := f7 _ (by rintro ⟨_, ⟨_, _⟩⟩ ⟨_, ⟨_, _⟩⟩ h; simp at h; simp_all) (c4.mk x0 (d5.mk x1 x2))
theorem a3u : OkC Tryz.prog 274 a0A := f8 _
end Go.Aw
