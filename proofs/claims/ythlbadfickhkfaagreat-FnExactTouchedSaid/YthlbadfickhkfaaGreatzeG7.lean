/- Rows filled. No condition. -/
import Derived.Test.YthlbadfickhkfaaGreatzeG2
namespace Go.Aw
open Go.Proofs
attribute [local irreducible] aft blk lpK retK AW A0n
set_option linter.unusedVariables false
set_option linter.unusedSimpArgs false
set_option maxRecDepth 100000
def kept (s : List UInt8) : Bool := s == [115, 116, 97, 116, 101] || s == [101, 118, 101, 110, 116] || s == [118, 105, 101, 119] || s == [110, 111, 116]
def n7 (t : GTerm) : Bool := bif !(t.Var == []) then a8i t.Var && (t.Val.N == 0 && t.Val.S == []) else a1U t.Val && !kept t.Val.S
def a8Z : ACode := q' ([b' 2 false]) (q' ([m' 3 0, o' 4 (.bin .eql (.t 3) (.k (.v false [.c (.s [115, 116, 97, 116, 101])]))), m' 5 4, ⟨some 6, .mov (.t 0), some (5, false)⟩,
 ⟨some 7, .bin .eql (.t 6) (.k (.v false [.c (.s [101, 118, 101, 110, 116])])), some (5, false)⟩, o' 8 (.pick (.t 5) (.k (.v false [.c (.b true)])) (.t 7)), m'
 9 8, ⟨some 10, .mov (.t 0), some (9, false)⟩, ⟨some 11, .bin .eql (.t 10) (.k (.v false [.c (.s [118, 105, 101, 119])])), some (9, false)⟩, o' 12 (.pick (.t
 9) (.k (.v false [.c (.b true)])) (.t 11)), m' 13 12, ⟨some 14, .mov (.t 0), some (13, false)⟩, ⟨some 15, .bin .eql (.t 14) (.k (.v false [.c (.s [110, 111,
 116])])), some (13, false)⟩, o' 16 (.pick (.t 13) (.k (.v false [.c (.b true)])) (.t 15)), m' 2 16]) .ret)
theorem b7y : cmp Tryz.prog Tryz.f297 = some a8Z := by kernel_rfl
theorem b9e (s : List UInt8) : A0n Tryz.prog 297 [(false, [.s s])] [] (.one (false, [.b (kept s)])) := by
 refine spec_of2 false false none Tryz.func297 b7y (rvs := [.t 2]) (hΓ := mkCtx_ok (deep := false) (l := []) trivial) (h := ?_)
 intro hb hE
 simp only [go_sem] at hb
 simp only [a8Z, x']
 (try refine A2X ?_); simp only [go_sem]; (repeat' first | apply CJ.mk | intro hc); all_goals try ((repeat' first | apply And.intro | intro hs) <;> (try simp only [go_sem, Bool.and_eq_false_iff] at hs) <;> omega)
 all_goals (first | rfl | trace_state)
noncomputable def a3s : CT := d7 (fun (x : (List UInt8)) => b9e x)
@[go_sem] theorem c4M (s : List UInt8) : a3s [(false, [.s s])] = some (True, [], .one (false, [.b (kept s)])) := c4 _ (by intro x y h; simp at h; simp_all) s
theorem a7b : OkC Tryz.prog 297 a3s := c5 _
def a8W : ACode := q' ([b' 2 false]) (q' ([m' 3 0, o' 4 (.bin .eql (.t 3) (.k (.v false [.c (.s [115, 116, 97, 116, 101])]))), m' 5 4, ⟨some 6, .mov (.t 0), some (5, false)⟩,
 ⟨some 7, .bin .eql (.t 6) (.k (.v false [.c (.s [101, 118, 101, 110, 116])])), some (5, false)⟩, o' 8 (.pick (.t 5) (.k (.v false [.c (.b true)])) (.t 7)), m'
 9 8, ⟨some 10, .mov (.t 0), some (9, false)⟩, ⟨some 11, .bin .eql (.t 10) (.k (.v false [.c (.s [118, 105, 101, 119])])), some (9, false)⟩, o' 12 (.pick (.t
 9) (.k (.v false [.c (.b true)])) (.t 11)), m' 13 12, ⟨some 14, .mov (.t 0), some (13, false)⟩, ⟨some 15, .bin .eql (.t 14) (.k (.v false [.c (.s [110, 111,
 116])])), some (13, false)⟩, o' 16 (.pick (.t 13) (.k (.v false [.c (.b true)])) (.t 15)), m' 2 16]) .ret)
theorem b7v : cmp Tryz.prog Tryz.f310 = some a8W := by kernel_rfl
theorem b9b (s : List UInt8) : A0n Tryz.prog 310 [(false, [.s s])] [] (.one (false, [.b (kept s)])) := by
 refine spec_of2 false false none Tryz.func310 b7v (rvs := [.t 2]) (hΓ := mkCtx_ok (deep := false) (l := []) trivial) (h := ?_)
 intro hb hE
 simp only [go_sem] at hb
 simp only [a8W, x']
 (try refine A2X ?_); simp only [go_sem]; (repeat' first | apply CJ.mk | intro hc); all_goals try ((repeat' first | apply And.intro | intro hs) <;> (try simp only [go_sem, Bool.and_eq_false_iff] at hs) <;> omega)
 all_goals (first | rfl | trace_state)
noncomputable def a3n : CT := d7 (fun (x : (List UInt8)) => b9b x)
@[go_sem] theorem c4J (s : List UInt8) : a3n [(false, [.s s])] = some (True, [], .one (false, [.b (kept s)])) := c4 _ (by intro x y h; simp at h; simp_all) s
theorem a6U : OkC Tryz.prog 310 a3n := c5 _
def a3k : ACode := q' ([o' 1 (.box 3 (.t 0)), b' 2 false]) (.seq (q' ([f' 3 0 1, l' 4 3, o' 5 (.bin .neq (.t 4) (.k (.v false [.c (.s [])])))]) (.cond (.t 5) (q' ([f' 6 0 1, l' 7
 6, c' 8 320 [7], m' 9 8, ⟨some 10, .fa 1 (.t 1), some (9, true)⟩, ⟨some 11, .ld true 2 (.t 10), some (9, true)⟩, ⟨some 12, .bld [.i .i64, .s] [], some (9,
 true)⟩, ⟨some 13, .eqs false [.i .i64, .s] (.t 11) (.t 12), some (9, true)⟩, o' 14 (.pick (.t 9) (.t 13) (.k (.v false [.c (.b false)]))), m' 2 14]) .ret)
 .skip)) (q' ([f' 15 1 1, e' 16 2 15, c' 17 242 [16], m' 18 17, ⟨some 19, .fa 1 (.t 1), some (18, true)⟩, ⟨some 20, .fa 1 (.t 19), some (18, true)⟩, ⟨some 21,
 .ld false 1 (.t 20), some (18, true)⟩, ⟨some 22, .call 297 [.t 21], some (18, true)⟩, ⟨some 23, .not (.t 22), some (18, true)⟩, o' 24 (.pick (.t 18) (.t 23)
 (.k (.v false [.c (.b false)]))), m' 2 24]) .ret))
theorem b0b : cmp Tryz.prog Tryz.f264 = some a3k := by kernel_rfl
theorem b1M (t : GTerm) : A0n Tryz.prog 264 [(true, [.s t.Var, .i .i64 t.Val.N, .s t.Val.S])] [] (.one (false, [.b (n7 t)])) := by
 refine spec_of2 false false none Tryz.func264 b0b (rvs := [.t 2]) (hΓ := mkCtx_ok (deep := false) (l := [(320, [], a5b), (242, [], a2E), (297, [], a3s)]) ⟨b2u, a9A, a7b, trivial⟩) (h := ?_)
 intro hb hE
 simp only [go_sem] at hb
 simp only [a3k, x']
 (try refine A2X ?_); simp only [go_sem]; (repeat' first | apply CJ.mk | intro hc); all_goals try ((repeat' first | apply And.intro | intro hs) <;> (try simp only [go_sem, Bool.and_eq_false_iff] at hs) <;> omega)
 all_goals (first | (rw [n7, hc]; rfl) | (have hc2 : (!(t.Var == [])) = true := hc; rw [n7, hc2]; rfl) | (have hc2 : (!(t.Var == [])) = false := hc; rw [n7, hc2]; rfl) | trace_state)
noncomputable def u9 : CT := d7 (fun (x : GTerm) => b1M x)
@[go_sem] theorem b9R (t_Var : List UInt8) (t_Val_N : Int) (t_Val_S : List UInt8) : u9 [(true, [.s t_Var, .i .i64 t_Val_N, .s t_Val_S])] = some (True, [], .one (false, [.b (n7 (GTerm.mk t_Var (GValue.mk t_Val_N t_Val_S)))])) := c4 _ (by rintro ⟨_, ⟨_, _⟩⟩ ⟨_, ⟨_, _⟩⟩ h; simp at h; simp_all) (GTerm.mk t_Var (GValue.mk t_Val_N t_Val_S))
theorem a1Q : OkC Tryz.prog 264 u9 := c5 _
def a6j : ACode := q' ([o' 1 (.box 3 (.t 0)), b' 2 false]) (.seq (q' ([f' 3 0 1, l' 4 3, o' 5 (.bin .neq (.t 4) (.k (.v false [.c (.s [])])))]) (.cond (.t 5) (q' ([f' 6 0 1, l' 7
 6, c' 8 323 [7], m' 9 8, ⟨some 10, .fa 1 (.t 1), some (9, true)⟩, ⟨some 11, .ld true 2 (.t 10), some (9, true)⟩, ⟨some 12, .bld [.i .i64, .s] [], some (9,
 true)⟩, ⟨some 13, .eqs false [.i .i64, .s] (.t 11) (.t 12), some (9, true)⟩, o' 14 (.pick (.t 9) (.t 13) (.k (.v false [.c (.b false)]))), m' 2 14]) .ret)
 .skip)) (q' ([f' 15 1 1, e' 16 2 15, c' 17 245 [16], m' 18 17, ⟨some 19, .fa 1 (.t 1), some (18, true)⟩, ⟨some 20, .fa 1 (.t 19), some (18, true)⟩, ⟨some 21,
 .ld false 1 (.t 20), some (18, true)⟩, ⟨some 22, .call 310 [.t 21], some (18, true)⟩, ⟨some 23, .not (.t 22), some (18, true)⟩, o' 24 (.pick (.t 18) (.t 23)
 (.k (.v false [.c (.b false)]))), m' 2 24]) .ret))
theorem b4i : cmp Tryz.prog Tryz.f274 = some a6j := by kernel_rfl
theorem b6d (t : GTerm) : A0n Tryz.prog 274 [(true, [.s t.Var, .i .i64 t.Val.N, .s t.Val.S])] [] (.one (false, [.b (n7 t)])) := by
 refine spec_of2 false false none Tryz.func274 b4i (rvs := [.t 2]) (hΓ := mkCtx_ok (deep := false) (l := [(323, [], a4T), (245, [], a2l), (310, [], a3n)]) ⟨b2n, a9i, a6U, trivial⟩) (h := ?_)
 intro hb hE
 simp only [go_sem] at hb
 simp only [a6j, x']
 (try refine A2X ?_); simp only [go_sem]; (repeat' first | apply CJ.mk | intro hc); all_goals try ((repeat' first | apply And.intro | intro hs) <;> (try simp only [go_sem, Bool.and_eq_false_iff] at hs) <;> omega)
 all_goals (first | (rw [n7, hc]; rfl) | (have hc2 : (!(t.Var == [])) = true := hc; rw [n7, hc2]; rfl) | (have hc2 : (!(t.Var == [])) = false := hc; rw [n7, hc2]; rfl) | trace_state)
noncomputable def a0U : CT := d7 (fun (x : GTerm) => b6d x)
@[go_sem] theorem c2N (t_Var : List UInt8) (t_Val_N : Int) (t_Val_S : List UInt8) : a0U [(true, [.s t_Var, .i .i64 t_Val_N, .s t_Val_S])] = some (True, [], .one (false, [.b (n7 (GTerm.mk t_Var (GValue.mk t_Val_N t_Val_S)))])) := c4 _ (by rintro ⟨_, ⟨_, _⟩⟩ ⟨_, ⟨_, _⟩⟩ h; simp at h; simp_all) (GTerm.mk t_Var (GValue.mk t_Val_N t_Val_S))
theorem a4n : OkC Tryz.prog 274 a0U := c5 _
end Go.Aw
