/- Rows filled. No condition. -/
import Derived.Test.YthlbadfickhkfaaGreatzdG2
namespace Go.Aw
open Go.Proofs
attribute [local irreducible] aft blk lpK retK AW A0l
set_option linter.unusedVariables false
set_option linter.unusedSimpArgs false
set_option maxRecDepth 100000
def kept (s : List UInt8) : Bool := s == [115, 116, 97, 116, 101] || s == [101, 118, 101, 110, 116] || s == [118, 105, 101, 119] || s == [110, 111, 116]
def l8 (t : GTerm) : Bool := bif !(t.Var == []) then a7y t.Var && (t.Val.N == 0 && t.Val.S == []) else k8 t.Val && !kept t.Val.S
def a8v : ACode := q' ([b' 2 false]) (q' ([m' 3 0, o' 4 (.bin .eql (.t 3) (.k (.v false [.c (.s [115, 116, 97, 116, 101])]))), m' 5 4, ⟨some 6, .mov (.t 0), some (5, false)⟩,
 ⟨some 7, .bin .eql (.t 6) (.k (.v false [.c (.s [101, 118, 101, 110, 116])])), some (5, false)⟩, o' 8 (.pick (.t 5) (.k (.v false [.c (.b true)])) (.t 7)), m'
 9 8, ⟨some 10, .mov (.t 0), some (9, false)⟩, ⟨some 11, .bin .eql (.t 10) (.k (.v false [.c (.s [118, 105, 101, 119])])), some (9, false)⟩, o' 12 (.pick (.t
 9) (.k (.v false [.c (.b true)])) (.t 11)), m' 13 12, ⟨some 14, .mov (.t 0), some (13, false)⟩, ⟨some 15, .bin .eql (.t 14) (.k (.v false [.c (.s [110, 111,
 116])])), some (13, false)⟩, o' 16 (.pick (.t 13) (.k (.v false [.c (.b true)])) (.t 15)), m' 2 16]) .ret)
theorem b6F : cmp Tryz.prog Tryz.f297 = some a8v := by kernel_rfl
theorem b8k (s : List UInt8) : A0l Tryz.prog 297 [(false, [.s s])] [] (.one (false, [.b (kept s)])) := by
 refine spec_of2 false false none Tryz.func297 b6F (rvs := [.t 2]) (hΓ := mkCtx_ok (deep := false) (l := []) trivial) (h := ?_)
 intro hb hE
 simp only [go_sem] at hb
 simp only [a8v, x']
 (try refine A2V ?_); simp only [go_sem]; (repeat' first | apply CJ.mk | intro hc); all_goals try ((repeat' first | apply And.intro | intro hs) <;> (try simp only [go_sem, Bool.and_eq_false_iff] at hs) <;> omega)
 all_goals (first | rfl | trace_state)
noncomputable def a2L : CT := c8 (fun (x : (List UInt8)) => b8k x)
@[go_sem] theorem c3O (s : List UInt8) : a2L [(false, [.s s])] = some (True, [], .one (false, [.b (kept s)])) := c4 _ (by intro x y h; simp at h; simp_all) s
theorem a6v : OkC Tryz.prog 297 a2L := c5 _
def a8s : ACode := q' ([b' 2 false]) (q' ([m' 3 0, o' 4 (.bin .eql (.t 3) (.k (.v false [.c (.s [115, 116, 97, 116, 101])]))), m' 5 4, ⟨some 6, .mov (.t 0), some (5, false)⟩,
 ⟨some 7, .bin .eql (.t 6) (.k (.v false [.c (.s [101, 118, 101, 110, 116])])), some (5, false)⟩, o' 8 (.pick (.t 5) (.k (.v false [.c (.b true)])) (.t 7)), m'
 9 8, ⟨some 10, .mov (.t 0), some (9, false)⟩, ⟨some 11, .bin .eql (.t 10) (.k (.v false [.c (.s [118, 105, 101, 119])])), some (9, false)⟩, o' 12 (.pick (.t
 9) (.k (.v false [.c (.b true)])) (.t 11)), m' 13 12, ⟨some 14, .mov (.t 0), some (13, false)⟩, ⟨some 15, .bin .eql (.t 14) (.k (.v false [.c (.s [110, 111,
 116])])), some (13, false)⟩, o' 16 (.pick (.t 13) (.k (.v false [.c (.b true)])) (.t 15)), m' 2 16]) .ret)
theorem b6C : cmp Tryz.prog Tryz.f310 = some a8s := by kernel_rfl
theorem b8h (s : List UInt8) : A0l Tryz.prog 310 [(false, [.s s])] [] (.one (false, [.b (kept s)])) := by
 refine spec_of2 false false none Tryz.func310 b6C (rvs := [.t 2]) (hΓ := mkCtx_ok (deep := false) (l := []) trivial) (h := ?_)
 intro hb hE
 simp only [go_sem] at hb
 simp only [a8s, x']
 (try refine A2V ?_); simp only [go_sem]; (repeat' first | apply CJ.mk | intro hc); all_goals try ((repeat' first | apply And.intro | intro hs) <;> (try simp only [go_sem, Bool.and_eq_false_iff] at hs) <;> omega)
 all_goals (first | rfl | trace_state)
noncomputable def a2E : CT := c8 (fun (x : (List UInt8)) => b8h x)
@[go_sem] theorem c3L (s : List UInt8) : a2E [(false, [.s s])] = some (True, [], .one (false, [.b (kept s)])) := c4 _ (by intro x y h; simp at h; simp_all) s
theorem a6n : OkC Tryz.prog 310 a2E := c5 _
def a2C : ACode := q' ([o' 1 (.box 3 (.t 0)), b' 2 false]) (.seq (q' ([f' 3 0 1, l' 4 3, o' 5 (.bin .neq (.t 4) (.k (.v false [.c (.s [])])))]) (.cond (.t 5) (q' ([f' 6 0 1, l' 7
 6, c' 8 320 [7], m' 9 8, ⟨some 10, .fa 1 (.t 1), some (9, true)⟩, ⟨some 11, .ld true 2 (.t 10), some (9, true)⟩, ⟨some 12, .bld [.i .i64, .s] [], some (9,
 true)⟩, ⟨some 13, .eqs false [.i .i64, .s] (.t 11) (.t 12), some (9, true)⟩, o' 14 (.pick (.t 9) (.t 13) (.k (.v false [.c (.b false)]))), m' 2 14]) .ret)
 .skip)) (q' ([f' 15 1 1, e' 16 2 15, c' 17 242 [16], m' 18 17, ⟨some 19, .fa 1 (.t 1), some (18, true)⟩, ⟨some 20, .fa 1 (.t 19), some (18, true)⟩, ⟨some 21,
 .ld false 1 (.t 20), some (18, true)⟩, ⟨some 22, .call 297 [.t 21], some (18, true)⟩, ⟨some 23, .not (.t 22), some (18, true)⟩, o' 24 (.pick (.t 18) (.t 23)
 (.k (.v false [.c (.b false)]))), m' 2 24]) .ret))
theorem a9o : cmp Tryz.prog Tryz.f264 = some a2C := by kernel_rfl
theorem b0Q (t : GTerm) : A0l Tryz.prog 264 [(true, [.s t.Var, .i .i64 t.Val.N, .s t.Val.S])] [] (.one (false, [.b (l8 t)])) := by
 refine spec_of2 false false none Tryz.func264 a9o (rvs := [.t 2]) (hΓ := mkCtx_ok (deep := false) (l := [(320, [], a4z), (242, [], y7), (297, [], a2L)]) ⟨b1u, a2M, a6v, trivial⟩) (h := ?_)
 intro hb hE
 simp only [go_sem] at hb
 simp only [a2C, x']
 (try refine A2V ?_); simp only [go_sem]; (repeat' first | apply CJ.mk | intro hc); all_goals try ((repeat' first | apply And.intro | intro hs) <;> (try simp only [go_sem, Bool.and_eq_false_iff] at hs) <;> omega)
 all_goals (first | (rw [l8, hc]; rfl) | (have hc2 : (!(t.Var == [])) = true := hc; rw [l8, hc2]; rfl) | (have hc2 : (!(t.Var == [])) = false := hc; rw [l8, hc2]; rfl) | trace_state)
noncomputable def t5 : CT := c8 (fun (x : GTerm) => b0Q x)
@[go_sem] theorem b8Q (t_Var : List UInt8) (t_Val_N : Int) (t_Val_S : List UInt8) : t5 [(true, [.s t_Var, .i .i64 t_Val_N, .s t_Val_S])] = some (True, [], .one (false, [.b (l8 (GTerm.mk t_Var (GValue.mk t_Val_N t_Val_S)))])) := c4 _ (by rintro ⟨_, ⟨_, _⟩⟩ ⟨_, ⟨_, _⟩⟩ h; simp at h; simp_all) (GTerm.mk t_Var (GValue.mk t_Val_N t_Val_S))
theorem a1q : OkC Tryz.prog 264 t5 := c5 _
def a5F : ACode := q' ([o' 1 (.box 3 (.t 0)), b' 2 false]) (.seq (q' ([f' 3 0 1, l' 4 3, o' 5 (.bin .neq (.t 4) (.k (.v false [.c (.s [])])))]) (.cond (.t 5) (q' ([f' 6 0 1, l' 7
 6, c' 8 323 [7], m' 9 8, ⟨some 10, .fa 1 (.t 1), some (9, true)⟩, ⟨some 11, .ld true 2 (.t 10), some (9, true)⟩, ⟨some 12, .bld [.i .i64, .s] [], some (9,
 true)⟩, ⟨some 13, .eqs false [.i .i64, .s] (.t 11) (.t 12), some (9, true)⟩, o' 14 (.pick (.t 9) (.t 13) (.k (.v false [.c (.b false)]))), m' 2 14]) .ret)
 .skip)) (q' ([f' 15 1 1, e' 16 2 15, c' 17 245 [16], m' 18 17, ⟨some 19, .fa 1 (.t 1), some (18, true)⟩, ⟨some 20, .fa 1 (.t 19), some (18, true)⟩, ⟨some 21,
 .ld false 1 (.t 20), some (18, true)⟩, ⟨some 22, .call 310 [.t 21], some (18, true)⟩, ⟨some 23, .not (.t 22), some (18, true)⟩, o' 24 (.pick (.t 18) (.t 23)
 (.k (.v false [.c (.b false)]))), m' 2 24]) .ret))
theorem b3i : cmp Tryz.prog Tryz.f274 = some a5F := by kernel_rfl
theorem b5f (t : GTerm) : A0l Tryz.prog 274 [(true, [.s t.Var, .i .i64 t.Val.N, .s t.Val.S])] [] (.one (false, [.b (l8 t)])) := by
 refine spec_of2 false false none Tryz.func274 b3i (rvs := [.t 2]) (hΓ := mkCtx_ok (deep := false) (l := [(323, [], a4p), (245, [], v9), (310, [], a2E)]) ⟨b1k, a2F, a6n, trivial⟩) (h := ?_)
 intro hb hE
 simp only [go_sem] at hb
 simp only [a5F, x']
 (try refine A2V ?_); simp only [go_sem]; (repeat' first | apply CJ.mk | intro hc); all_goals try ((repeat' first | apply And.intro | intro hs) <;> (try simp only [go_sem, Bool.and_eq_false_iff] at hs) <;> omega)
 all_goals (first | (rw [l8, hc]; rfl) | (have hc2 : (!(t.Var == [])) = true := hc; rw [l8, hc2]; rfl) | (have hc2 : (!(t.Var == [])) = false := hc; rw [l8, hc2]; rfl) | trace_state)
noncomputable def a0x : CT := c8 (fun (x : GTerm) => b5f x)
@[go_sem] theorem c1Q (t_Var : List UInt8) (t_Val_N : Int) (t_Val_S : List UInt8) : a0x [(true, [.s t_Var, .i .i64 t_Val_N, .s t_Val_S])] = some (True, [], .one (false, [.b (l8 (GTerm.mk t_Var (GValue.mk t_Val_N t_Val_S)))])) := c4 _ (by rintro ⟨_, ⟨_, _⟩⟩ ⟨_, ⟨_, _⟩⟩ h; simp at h; simp_all) (GTerm.mk t_Var (GValue.mk t_Val_N t_Val_S))
theorem a3L : OkC Tryz.prog 274 a0x := c5 _
end Go.Aw
