/- Rows filled. No condition. -/
import Derived.Test.YthlbadfickhkfaaGreatzcG2
namespace Go.Aw
open Go.Proofs
attribute [local irreducible] aft blk lpK retK AW A0l
set_option linter.unusedVariables false
set_option linter.unusedSimpArgs false
set_option maxRecDepth 100000
def kept (s : List UInt8) : Bool := s == [115, 116, 97, 116, 101] || s == [101, 118, 101, 110, 116] || s == [118, 105, 101, 119] || s == [110, 111, 116]
def j7 (t : GTerm) : Bool := bif !(t.Var == []) then a7b t.Var && (t.Val.N == 0 && t.Val.S == []) else a1w t.Val && !kept t.Val.S
def a7U : ACode := q' ([b' 2 false]) (q' ([m' 3 0, o' 4 (.bin .eql (.t 3) (.k (.v false [.c (.s [115, 116, 97, 116, 101])]))), m' 5 4, ⟨some 6, .mov (.t 0), some (5, false)⟩,
 ⟨some 7, .bin .eql (.t 6) (.k (.v false [.c (.s [101, 118, 101, 110, 116])])), some (5, false)⟩, o' 8 (.pick (.t 5) (.k (.v false [.c (.b true)])) (.t 7)), m'
 9 8, ⟨some 10, .mov (.t 0), some (9, false)⟩, ⟨some 11, .bin .eql (.t 10) (.k (.v false [.c (.s [118, 105, 101, 119])])), some (9, false)⟩, o' 12 (.pick (.t
 9) (.k (.v false [.c (.b true)])) (.t 11)), m' 13 12, ⟨some 14, .mov (.t 0), some (13, false)⟩, ⟨some 15, .bin .eql (.t 14) (.k (.v false [.c (.s [110, 111,
 116])])), some (13, false)⟩, o' 16 (.pick (.t 13) (.k (.v false [.c (.b true)])) (.t 15)), m' 2 16]) .ret)
theorem b5J : cmp Tryz.prog Tryz.f297 = some a7U := by kernel_rfl
theorem b7n (s : List UInt8) : A0l Tryz.prog 297 [(false, [.s s])] [] (.one (false, [.b (kept s)])) := by
 refine spec_of2 false false none Tryz.func297 b5J (rvs := [.t 2]) (hΓ := mkCtx_ok (deep := false) (l := []) trivial) (h := ?_)
 intro hb hE
 simp only [go_sem] at hb
 simp only [a7U, x']
 (try refine A2V ?_); simp only [go_sem]; (repeat' first | apply CJ.mk | intro hc); all_goals try ((repeat' first | apply And.intro | intro hs) <;> (try simp only [go_sem, Bool.and_eq_false_iff] at hs) <;> omega)
 all_goals (first | rfl | trace_state)
noncomputable def a2G : CT := c9 (fun (x : (List UInt8)) => b7n x)
@[go_sem] theorem c2E (s : List UInt8) : a2G [(false, [.s s])] = some (True, [], .one (false, [.b (kept s)])) := c4 _ (by intro x y h; simp at h; simp_all) s
theorem a5Z : OkC Tryz.prog 297 a2G := c5 _
def a7R : ACode := q' ([b' 2 false]) (q' ([m' 3 0, o' 4 (.bin .eql (.t 3) (.k (.v false [.c (.s [115, 116, 97, 116, 101])]))), m' 5 4, ⟨some 6, .mov (.t 0), some (5, false)⟩,
 ⟨some 7, .bin .eql (.t 6) (.k (.v false [.c (.s [101, 118, 101, 110, 116])])), some (5, false)⟩, o' 8 (.pick (.t 5) (.k (.v false [.c (.b true)])) (.t 7)), m'
 9 8, ⟨some 10, .mov (.t 0), some (9, false)⟩, ⟨some 11, .bin .eql (.t 10) (.k (.v false [.c (.s [118, 105, 101, 119])])), some (9, false)⟩, o' 12 (.pick (.t
 9) (.k (.v false [.c (.b true)])) (.t 11)), m' 13 12, ⟨some 14, .mov (.t 0), some (13, false)⟩, ⟨some 15, .bin .eql (.t 14) (.k (.v false [.c (.s [110, 111,
 116])])), some (13, false)⟩, o' 16 (.pick (.t 13) (.k (.v false [.c (.b true)])) (.t 15)), m' 2 16]) .ret)
theorem b5G : cmp Tryz.prog Tryz.f310 = some a7R := by kernel_rfl
theorem b7k (s : List UInt8) : A0l Tryz.prog 310 [(false, [.s s])] [] (.one (false, [.b (kept s)])) := by
 refine spec_of2 false false none Tryz.func310 b5G (rvs := [.t 2]) (hΓ := mkCtx_ok (deep := false) (l := []) trivial) (h := ?_)
 intro hb hE
 simp only [go_sem] at hb
 simp only [a7R, x']
 (try refine A2V ?_); simp only [go_sem]; (repeat' first | apply CJ.mk | intro hc); all_goals try ((repeat' first | apply And.intro | intro hs) <;> (try simp only [go_sem, Bool.and_eq_false_iff] at hs) <;> omega)
 all_goals (first | rfl | trace_state)
noncomputable def a2C : CT := c9 (fun (x : (List UInt8)) => b7k x)
@[go_sem] theorem c2B (s : List UInt8) : a2C [(false, [.s s])] = some (True, [], .one (false, [.b (kept s)])) := c4 _ (by intro x y h; simp at h; simp_all) s
theorem a5R : OkC Tryz.prog 310 a2C := c5 _
def a2A : ACode := q' ([o' 1 (.box 3 (.t 0)), b' 2 false]) (.seq (q' ([f' 3 0 1, l' 4 3, o' 5 (.bin .neq (.t 4) (.k (.v false [.c (.s [])])))]) (.cond (.t 5) (q' ([f' 6 0 1, l' 7
 6, c' 8 320 [7], m' 9 8, ⟨some 10, .fa 1 (.t 1), some (9, true)⟩, ⟨some 11, .ld true 2 (.t 10), some (9, true)⟩, ⟨some 12, .bld [.i .i64, .s] [], some (9,
 true)⟩, ⟨some 13, .eqs false [.i .i64, .s] (.t 11) (.t 12), some (9, true)⟩, o' 14 (.pick (.t 9) (.t 13) (.k (.v false [.c (.b false)]))), m' 2 14]) .ret)
 .skip)) (q' ([f' 15 1 1, e' 16 2 15, c' 17 242 [16], m' 18 17, ⟨some 19, .fa 1 (.t 1), some (18, true)⟩, ⟨some 20, .fa 1 (.t 19), some (18, true)⟩, ⟨some 21,
 .ld false 1 (.t 20), some (18, true)⟩, ⟨some 22, .call 297 [.t 21], some (18, true)⟩, ⟨some 23, .not (.t 22), some (18, true)⟩, o' 24 (.pick (.t 18) (.t 23)
 (.k (.v false [.c (.b false)]))), m' 2 24]) .ret))
theorem a8O : cmp Tryz.prog Tryz.f264 = some a2A := by kernel_rfl
theorem b0q (t : GTerm) : A0l Tryz.prog 264 [(true, [.s t.Var, .i .i64 t.Val.N, .s t.Val.S])] [] (.one (false, [.b (j7 t)])) := by
 refine spec_of2 false false none Tryz.func264 a8O (rvs := [.t 2]) (hΓ := mkCtx_ok (deep := false) (l := [(320, [], a4g), (242, [], a2d), (297, [], a2G)]) ⟨b0U, a8v, a5Z, trivial⟩) (h := ?_)
 intro hb hE
 simp only [go_sem] at hb
 simp only [a2A, x']
 (try refine A2V ?_); simp only [go_sem]; (repeat' first | apply CJ.mk | intro hc); all_goals try ((repeat' first | apply And.intro | intro hs) <;> (try simp only [go_sem, Bool.and_eq_false_iff] at hs) <;> omega)
 all_goals (first | (rw [j7, hc]; rfl) | (have hc2 : (!(t.Var == [])) = true := hc; rw [j7, hc2]; rfl) | (have hc2 : (!(t.Var == [])) = false := hc; rw [j7, hc2]; rfl) | trace_state)
noncomputable def t7 : CT := c9 (fun (x : GTerm) => b0q x)
@[go_sem] theorem b7Y (t_Var : List UInt8) (t_Val_N : Int) (t_Val_S : List UInt8) : t7 [(true, [.s t_Var, .i .i64 t_Val_N, .s t_Val_S])] = some (True, [], .one (false, [.b (j7 (GTerm.mk t_Var (GValue.mk t_Val_N t_Val_S)))])) := c4 _ (by rintro ⟨_, ⟨_, _⟩⟩ ⟨_, ⟨_, _⟩⟩ h; simp at h; simp_all) (GTerm.mk t_Var (GValue.mk t_Val_N t_Val_S))
theorem a1p : OkC Tryz.prog 264 t7 := c5 _
def a5g : ACode := q' ([o' 1 (.box 3 (.t 0)), b' 2 false]) (.seq (q' ([f' 3 0 1, l' 4 3, o' 5 (.bin .neq (.t 4) (.k (.v false [.c (.s [])])))]) (.cond (.t 5) (q' ([f' 6 0 1, l' 7
 6, c' 8 323 [7], m' 9 8, ⟨some 10, .fa 1 (.t 1), some (9, true)⟩, ⟨some 11, .ld true 2 (.t 10), some (9, true)⟩, ⟨some 12, .bld [.i .i64, .s] [], some (9,
 true)⟩, ⟨some 13, .eqs false [.i .i64, .s] (.t 11) (.t 12), some (9, true)⟩, o' 14 (.pick (.t 9) (.t 13) (.k (.v false [.c (.b false)]))), m' 2 14]) .ret)
 .skip)) (q' ([f' 15 1 1, e' 16 2 15, c' 17 245 [16], m' 18 17, ⟨some 19, .fa 1 (.t 1), some (18, true)⟩, ⟨some 20, .fa 1 (.t 19), some (18, true)⟩, ⟨some 21,
 .ld false 1 (.t 20), some (18, true)⟩, ⟨some 22, .call 310 [.t 21], some (18, true)⟩, ⟨some 23, .not (.t 22), some (18, true)⟩, o' 24 (.pick (.t 18) (.t 23)
 (.k (.v false [.c (.b false)]))), m' 2 24]) .ret))
theorem b2z : cmp Tryz.prog Tryz.f274 = some a5g := by kernel_rfl
theorem b4h (t : GTerm) : A0l Tryz.prog 274 [(true, [.s t.Var, .i .i64 t.Val.N, .s t.Val.S])] [] (.one (false, [.b (j7 t)])) := by
 refine spec_of2 false false none Tryz.func274 b2z (rvs := [.t 2]) (hΓ := mkCtx_ok (deep := false) (l := [(323, [], a3Z), (245, [], a1L), (310, [], a2C)]) ⟨b0N, a8d, a5R, trivial⟩) (h := ?_)
 intro hb hE
 simp only [go_sem] at hb
 simp only [a5g, x']
 (try refine A2V ?_); simp only [go_sem]; (repeat' first | apply CJ.mk | intro hc); all_goals try ((repeat' first | apply And.intro | intro hs) <;> (try simp only [go_sem, Bool.and_eq_false_iff] at hs) <;> omega)
 all_goals (first | (rw [j7, hc]; rfl) | (have hc2 : (!(t.Var == [])) = true := hc; rw [j7, hc2]; rfl) | (have hc2 : (!(t.Var == [])) = false := hc; rw [j7, hc2]; rfl) | trace_state)
noncomputable def a0y : CT := c9 (fun (x : GTerm) => b4h x)
@[go_sem] theorem c0H (t_Var : List UInt8) (t_Val_N : Int) (t_Val_S : List UInt8) : a0y [(true, [.s t_Var, .i .i64 t_Val_N, .s t_Val_S])] = some (True, [], .one (false, [.b (j7 (GTerm.mk t_Var (GValue.mk t_Val_N t_Val_S)))])) := c4 _ (by rintro ⟨_, ⟨_, _⟩⟩ ⟨_, ⟨_, _⟩⟩ h; simp at h; simp_all) (GTerm.mk t_Var (GValue.mk t_Val_N t_Val_S))
theorem a3z : OkC Tryz.prog 274 a0y := c5 _
end Go.Aw
