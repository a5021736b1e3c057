/- Rows filled. No condition. -/
import Derived.Test.YthlbadfickhkfaaeaG2
namespace Go.Aw
open Go.Proofs
attribute [local irreducible] aft blk lpK retK AW A0l
set_option linter.unusedVariables false
set_option linter.unusedSimpArgs false
set_option maxRecDepth 100000
def kept (s : List UInt8) : Bool := s == [115, 116, 97, 116, 101] || s == [101, 118, 101, 110, 116] || s == [118, 105, 101, 119] || s == [110, 111, 116]
def j4 (t : c7) : Bool := bif !(t.Var == []) then a1Z t.Var && (t.Val.N == 0 && t.Val.S == []) else j7 t.Val && !kept t.Val.S
def a2X : ACode := q' ([b' 2 false]) (q' ([m' 3 0, o' 4 (.bin .eql (.t 3) (.k (.v false [.c (.s [115, 116, 97, 116, 101])]))), m' 5 4, ⟨some 6, .mov (.t 0), some (5, false)⟩,
 ⟨some 7, .bin .eql (.t 6) (.k (.v false [.c (.s [101, 118, 101, 110, 116])])), some (5, false)⟩, o' 8 (.pick (.t 5) (.k (.v false [.c (.b true)])) (.t 7)), m'
 9 8, ⟨some 10, .mov (.t 0), some (9, false)⟩, ⟨some 11, .bin .eql (.t 10) (.k (.v false [.c (.s [118, 105, 101, 119])])), some (9, false)⟩, o' 12 (.pick (.t
 9) (.k (.v false [.c (.b true)])) (.t 11)), m' 13 12, ⟨some 14, .mov (.t 0), some (13, false)⟩, ⟨some 15, .bin .eql (.t 14) (.k (.v false [.c (.s [110, 111,
 116])])), some (13, false)⟩, o' 16 (.pick (.t 13) (.k (.v false [.c (.b true)])) (.t 15)), m' 2 16]) .ret)
theorem a7t : cmp Try.prog Try.f99 = some a2X := by kernel_rfl
theorem a8m (s : List UInt8) : A0l Try.prog 99 [(false, [.s s])] [] (.one (false, [.b (kept s)])) := by
 refine spec_of2 false false none Try.func99 a7t (rvs := [.t 2]) (hΓ := mkCtx_ok (deep := false) (l := []) trivial) (h := ?_)
 intro hb hE
 simp only [go_sem] at hb
 simp only [a2X, x']
 (try refine A2V ?_); simp only [go_sem]; (repeat' first | apply CJ.mk | intro hc); all_goals try ((repeat' first | apply And.intro | intro hs) <;> (try simp only [go_sem, Bool.and_eq_false_iff] at hs) <;> omega)
 all_goals (first | rfl | trace_state)
noncomputable def a1S : CT := j9 (fun (x : (List UInt8)) => a8m x)
@[go_sem] theorem b1z (s : List UInt8) : a1S [(false, [.s s])] = some (True, [], .one (false, [.b (kept s)])) := f5 _ (by intro x y h; simp at h; simp_all) s
theorem a5s : OkC Try.prog 99 a1S := f8 _
def a2V : ACode := q' ([b' 2 false]) (q' ([m' 3 0, o' 4 (.bin .eql (.t 3) (.k (.v false [.c (.s [115, 116, 97, 116, 101])]))), m' 5 4, ⟨some 6, .mov (.t 0), some (5, false)⟩,
 ⟨some 7, .bin .eql (.t 6) (.k (.v false [.c (.s [101, 118, 101, 110, 116])])), some (5, false)⟩, o' 8 (.pick (.t 5) (.k (.v false [.c (.b true)])) (.t 7)), m'
 9 8, ⟨some 10, .mov (.t 0), some (9, false)⟩, ⟨some 11, .bin .eql (.t 10) (.k (.v false [.c (.s [118, 105, 101, 119])])), some (9, false)⟩, o' 12 (.pick (.t
 9) (.k (.v false [.c (.b true)])) (.t 11)), m' 13 12, ⟨some 14, .mov (.t 0), some (13, false)⟩, ⟨some 15, .bin .eql (.t 14) (.k (.v false [.c (.s [110, 111,
 116])])), some (13, false)⟩, o' 16 (.pick (.t 13) (.k (.v false [.c (.b true)])) (.t 15)), m' 2 16]) .ret)
theorem a7r : cmp Try.prog Try.f69 = some a2V := by kernel_rfl
theorem a8k (s : List UInt8) : A0l Try.prog 69 [(false, [.s s])] [] (.one (false, [.b (kept s)])) := by
 refine spec_of2 false false none Try.func69 a7r (rvs := [.t 2]) (hΓ := mkCtx_ok (deep := false) (l := []) trivial) (h := ?_)
 intro hb hE
 simp only [go_sem] at hb
 simp only [a2V, x']
 (try refine A2V ?_); simp only [go_sem]; (repeat' first | apply CJ.mk | intro hc); all_goals try ((repeat' first | apply And.intro | intro hs) <;> (try simp only [go_sem, Bool.and_eq_false_iff] at hs) <;> omega)
 all_goals (first | rfl | trace_state)
noncomputable def a1P : CT := j9 (fun (x : (List UInt8)) => a8k x)
@[go_sem] theorem b1x (s : List UInt8) : a1P [(false, [.s s])] = some (True, [], .one (false, [.b (kept s)])) := f5 _ (by intro x y h; simp at h; simp_all) s
theorem a5q : OkC Try.prog 69 a1P := f8 _
def z6 : ACode := q' ([o' 1 (.box 3 (.t 0)), b' 2 false]) (.seq (q' ([f' 3 0 1, l' 4 3, o' 5 (.bin .neq (.t 4) (.k (.v false [.c (.s [])])))]) (.cond (.t 5) (q' ([f' 6 0 1, l' 7
 6, c' 8 72 [7], m' 9 8, ⟨some 10, .fa 1 (.t 1), some (9, true)⟩, ⟨some 11, .ld true 2 (.t 10), some (9, true)⟩, ⟨some 12, .bld [.i .i64, .s] [], some (9,
 true)⟩, ⟨some 13, .eqs false [.i .i64, .s] (.t 11) (.t 12), some (9, true)⟩, o' 14 (.pick (.t 9) (.t 13) (.k (.v false [.c (.b false)]))), m' 2 14]) .ret)
 .skip)) (q' ([f' 15 1 1, e' 16 2 15, c' 17 73 [16], m' 18 17, ⟨some 19, .fa 1 (.t 1), some (18, true)⟩, ⟨some 20, .fa 1 (.t 19), some (18, true)⟩, ⟨some 21,
 .ld false 1 (.t 20), some (18, true)⟩, ⟨some 22, .call 99 [.t 21], some (18, true)⟩, ⟨some 23, .not (.t 22), some (18, true)⟩, o' 24 (.pick (.t 18) (.t 23)
 (.k (.v false [.c (.b false)]))), m' 2 24]) .ret))
theorem a3p : cmp Try.prog Try.f74 = some z6 := by kernel_rfl
theorem a3Z (t : c7) : A0l Try.prog 74 [(true, [.s t.Var, .i .i64 t.Val.N, .s t.Val.S])] [] (.one (false, [.b (j4 t)])) := by
 refine spec_of2 false false none Try.func74 a3p (rvs := [.t 2]) (hΓ := mkCtx_ok (deep := false) (l := [(72, [], v8), (73, [], n8), (99, [], a1S)]) ⟨a1r, q0, a5s, trivial⟩) (h := ?_)
 intro hb hE
 simp only [go_sem] at hb
 simp only [z6, x']
 (try refine A2V ?_); simp only [go_sem]; (repeat' first | apply CJ.mk | intro hc); all_goals try ((repeat' first | apply And.intro | intro hs) <;> (try simp only [go_sem, Bool.and_eq_false_iff] at hs) <;> omega)
 all_goals (first | (rw [j4, hc]; rfl) | (have hc2 : (!(t.Var == [])) = true := hc; rw [j4, hc2]; rfl) | (have hc2 : (!(t.Var == [])) = false := hc; rw [j4, hc2]; rfl) | trace_state)
noncomputable def t7 : CT := j9 (fun (x : c7) => a3Z x)
@[go_sem] theorem a8w (x0 : List UInt8) (x1 : Int) (x2 : List UInt8) : t7 [(true, [.s x0, .i .i64 x1, .s x2])] = some (True, [], .one (false, [.b (j4 (c7.mk x0 (c6.mk x1 x2)))])) := f5 _ (by rintro ⟨_, ⟨_, _⟩⟩ ⟨_, ⟨_, _⟩⟩ h; simp at h; simp_all) (c7.mk x0 (c6.mk x1 x2))
theorem a2h : OkC Try.prog 74 t7 := f8 _
def a1x : ACode := q' ([o' 1 (.box 3 (.t 0)), b' 2 false]) (.seq (q' ([f' 3 0 1, l' 4 3, o' 5 (.bin .neq (.t 4) (.k (.v false [.c (.s [])])))]) (.cond (.t 5) (q' ([f' 6 0 1, l' 7
 6, c' 8 44 [7], m' 9 8, ⟨some 10, .fa 1 (.t 1), some (9, true)⟩, ⟨some 11, .ld true 2 (.t 10), some (9, true)⟩, ⟨some 12, .bld [.i .i64, .s] [], some (9,
 true)⟩, ⟨some 13, .eqs false [.i .i64, .s] (.t 11) (.t 12), some (9, true)⟩, o' 14 (.pick (.t 9) (.t 13) (.k (.v false [.c (.b false)]))), m' 2 14]) .ret)
 .skip)) (q' ([f' 15 1 1, e' 16 2 15, c' 17 45 [16], m' 18 17, ⟨some 19, .fa 1 (.t 1), some (18, true)⟩, ⟨some 20, .fa 1 (.t 19), some (18, true)⟩, ⟨some 21,
 .ld false 1 (.t 20), some (18, true)⟩, ⟨some 22, .call 69 [.t 21], some (18, true)⟩, ⟨some 23, .not (.t 22), some (18, true)⟩, o' 24 (.pick (.t 18) (.t 23)
 (.k (.v false [.c (.b false)]))), m' 2 24]) .ret))
theorem a5x : cmp Try.prog Try.f34 = some a1x := by kernel_rfl
theorem a6J (t : c7) : A0l Try.prog 34 [(true, [.s t.Var, .i .i64 t.Val.N, .s t.Val.S])] [] (.one (false, [.b (j4 t)])) := by
 refine spec_of2 false false none Try.func34 a5x (rvs := [.t 2]) (hΓ := mkCtx_ok (deep := false) (l := [(44, [], v7), (45, [], m8), (69, [], a1P)]) ⟨a1q, o8, a5q, trivial⟩) (h := ?_)
 intro hb hE
 simp only [go_sem] at hb
 simp only [a1x, x']
 (try refine A2V ?_); simp only [go_sem]; (repeat' first | apply CJ.mk | intro hc); all_goals try ((repeat' first | apply And.intro | intro hs) <;> (try simp only [go_sem, Bool.and_eq_false_iff] at hs) <;> omega)
 all_goals (first | (rw [j4, hc]; rfl) | (have hc2 : (!(t.Var == [])) = true := hc; rw [j4, hc2]; rfl) | (have hc2 : (!(t.Var == [])) = false := hc; rw [j4, hc2]; rfl) | trace_state)
noncomputable def a0e : CT := j9 (fun (x : c7) => a6J x)
@[go_sem] theorem b0j (x0 : List UInt8) (x1 : Int) (x2 : List UInt8) : a0e [(true, [.s x0, .i .i64 x1, .s x2])] = some (True, [], .one (false, [.b (j4 (c7.mk x0 (c6.mk x1 x2)))])) := f5 _ (by rintro ⟨_, ⟨_, _⟩⟩ ⟨_, ⟨_, _⟩⟩ h; simp at h; simp_all) (c7.mk x0 (c6.mk x1 x2))
theorem a3A : OkC Try.prog 34 a0e := f8 _
def a0A : ACode := q' ([b' 2 false]) (.seq (q' ([m' 5 0, n' 6 5, z' 7 0]) (.block 0 (.loop (q' ([r' 8 7 6]) (.seq (.cond (.t 8) .skip (.exit 0)) (.seq (.block 1 (q' ([i' 9 3 5 7,
 e' 10 3 9, w' 4 [.s, .i .i64, .s], s' 3 4 10]) (q' ([e' 11 3 4, c' 12 74 [11], o' 13 (.not (.t 12))]) (.cond (.t 13) (q' ([b' 2 false]) .ret) .skip)))) (g'
 [a' 14 7, m' 7 14]))))))) (q' ([b' 2 true]) .ret))
theorem a3V : cmp Try.prog Try.f39 = some a0A := by kernel_rfl
theorem a5d (args : List c7) : A0l Try.prog 39 [(false, [.sl false [.s [], .i .i64 0, .s []] (args.map c7.cells)])] [] (.one (false, [.b (args.all j4)])) := by
 refine spec_of2 false false none Try.func39 a3V (rvs := [.t 2]) (hΓ := mkCtx_ok (deep := false) (l := [(74, [], t7)]) ⟨a2h, trivial⟩) (h := ?_)
 intro hb hE
 simp only [go_sem] at hb
 simp only [a0A, x']
 (try refine A2V ?_); simp only [go_sem]; (repeat' first | apply CJ.mk | intro hc); all_goals try ((repeat' first | apply And.intro | intro hs) <;> (try simp only [go_sem, Bool.and_eq_false_iff] at hs) <;> omega)
 refine aw_loop2 false [] [5, 6] [] [] (fun i : {i : Nat // i ≤ args.length ∧ (args.take i).all j4 = true} => [(7, slV (.i .i64 i.1))]) (fun i => []) (fun i => []) (fun i => args.length - i.1) (⟨0, by simp⟩) _ rfl ?_ ?_
 ·simp only [go_sem]
  all_goals first | omega | ((repeat' apply And.intro) <;> first | omega | rfl | skip)
 intro S0 hS0 i
 simp only [go_sem] at hS0
 obtain ⟨i, hi, ha⟩ := i
 (try refine A2V ?_); simp only [go_sem, hS0]; (repeat' first | apply CJ.mk | intro hc); all_goals try ((repeat' first | apply And.intro | intro hs) <;> (try simp only [go_sem, Bool.and_eq_false_iff] at hs) <;> omega)
 ·rw [all_false (by omega) hc]
 ·(refine lpK_n2 (⟨i + 1, by omega, by rw [A6L (d := default) (by omega), ha, hc]; rfl⟩) _ rfl ?_; simp only [go_sem, hS0]; first | done | ((repeat' apply And.intro) <;> first | omega | (refine w64 ?_ ?_ ?_ <;> omega) | rfl | skip))
 ·rw [all_of_take (by omega) ha]
 all_goals trace_state
noncomputable def u9 : CT := j9 (fun (x : (List c7)) => a5d x)
@[go_sem] theorem a8X (x0 : List c7) : u9 [(false, [.sl false [.s [], .i .i64 0, .s []] (x0.map c7.cells)])] = some (True, [], .one (false, [.b (x0.all j4)])) := f5 _ (by intro x y h; simp at h; simp_all) x0
theorem a2L : OkC Try.prog 39 u9 := f8 _
def o6 (e : c8) (t : c7) : c6 × Bool := bif t.Var == [] then (t.Val, true) else m0 e t.Var
def a1c : ACode := q' ([o' 2 (.box 1 (.t 0)), o' 3 (.box 3 (.t 1)), w' 4 [.i .i64, .s], b' 5 false]) (.seq (q' ([f' 6 0 3, l' 7 6, o' 8 (.bin .eql (.t 7) (.k (.v false [.c (.s
 [])])))]) (.cond (.t 8) (q' ([f' 9 1 3, e' 10 2 9, s' 2 4 10, b' 5 true]) .ret) .skip)) (q' ([e' 11 1 2, f' 12 0 3, l' 13 12, c' 14 93 [11, 13], o' 15 (.ext
 (.t 14) 0), o' 16 (.ext (.t 14) 1), s' 2 4 15, m' 5 16]) .ret))
theorem a4I : cmp Try.prog Try.f70 = some a1c := by kernel_rfl
theorem a5Q (e : c8) (t : c7) : A0l Try.prog 70 [(true, [.sl false [.s [], .i .i64 0, .s []] (e.Binds.map c4.cells)]), (true, [.s t.Var, .i .i64 t.Val.N, .s t.Val.S])] [] (.tup [(true, [.i .i64 (((o6 e t).1).N), .s (((o6 e t).1).S)]), (false, [.b ((o6 e t).2)])]) := by
 refine spec_of2 false false none Try.func70 a4I (rvs := [.c 4 true 2, .t 5]) (hΓ := mkCtx_ok (deep := false) (l := [(93, [], a0L)]) ⟨a4v, trivial⟩) (h := ?_)
 intro hb hE
 simp only [go_sem] at hb
 simp only [a1c, x']
 (try refine A2V ?_); simp only [go_sem]; (repeat' first | apply CJ.mk | intro hc); all_goals try ((repeat' first | apply And.intro | intro hs) <;> (try simp only [go_sem, Bool.and_eq_false_iff] at hs) <;> omega)
 all_goals (first | (rw [o6, hc]; exact ⟨⟨rfl, rfl⟩, rfl⟩) | trace_state)
noncomputable def w9 : CT := j9 (fun (x : c8 × c7) => a5Q x.1 x.2)
@[go_sem] theorem a9o (x0 : List c4) (x1 : List UInt8) (x2 : Int) (x3 : List UInt8) : w9 [(true, [.sl false [.s [], .i .i64 0, .s []] (x0.map c4.cells)]), (true, [.s x1, .i .i64 x2, .s x3])] = some (True, [], .tup [(true, [.i .i64 (((o6 (c8.mk x0) (c7.mk x1 (c6.mk x2 x3))).1).N), .s (((o6 (c8.mk x0) (c7.mk x1 (c6.mk x2 x3))).1).S)]), (false, [.b ((o6 (c8.mk x0) (c7.mk x1 (c6.mk x2 x3))).2)])]) := f5 _ (by rintro ⟨⟨_⟩, ⟨_, ⟨_, _⟩⟩⟩ ⟨⟨_⟩, ⟨_, ⟨_, _⟩⟩⟩ h; simp at h; simp_all) ((c8.mk x0), (c7.mk x1 (c6.mk x2 x3)))
theorem a3b : OkC Try.prog 70 w9 := f8 _
end Go.Aw
