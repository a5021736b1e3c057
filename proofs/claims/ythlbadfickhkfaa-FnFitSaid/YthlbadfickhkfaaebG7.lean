/- Rows filled. No condition. -/
import Derived.Test.YthlbadfickhkfaaebG2
namespace Go.Aw
open Go.Proofs
attribute [local irreducible] aft blk lpK retK AW A0m
set_option linter.unusedVariables false
set_option linter.unusedSimpArgs false
set_option maxRecDepth 100000
def kept (s : List UInt8) : Bool := s == [115, 116, 97, 116, 101] || s == [101, 118, 101, 110, 116] || s == [118, 105, 101, 119] || s == [110, 111, 116]
def i8 (t : c8) : Bool := bif !(t.Var == []) then a0F t.Var && (t.Val.N == 0 && t.Val.S == []) else l9 t.Val && !kept t.Val.S
def a3z : ACode := q' ([b' 2 false]) (q' ([m' 3 0, o' 4 (.bin .eql (.t 3) (.k (.v false [.c (.s [115, 116, 97, 116, 101])]))), m' 5 4, ⟨some 6, .mov (.t 0), some (5, false)⟩,
 ⟨some 7, .bin .eql (.t 6) (.k (.v false [.c (.s [101, 118, 101, 110, 116])])), some (5, false)⟩, o' 8 (.pick (.t 5) (.k (.v false [.c (.b true)])) (.t 7)), m'
 9 8, ⟨some 10, .mov (.t 0), some (9, false)⟩, ⟨some 11, .bin .eql (.t 10) (.k (.v false [.c (.s [118, 105, 101, 119])])), some (9, false)⟩, o' 12 (.pick (.t
 9) (.k (.v false [.c (.b true)])) (.t 11)), m' 13 12, ⟨some 14, .mov (.t 0), some (13, false)⟩, ⟨some 15, .bin .eql (.t 14) (.k (.v false [.c (.s [110, 111,
 116])])), some (13, false)⟩, o' 16 (.pick (.t 13) (.k (.v false [.c (.b true)])) (.t 15)), m' 2 16]) .ret)
theorem a7P : cmp Try.prog Try.f99 = some a3z := by kernel_rfl
theorem a8K (s : List UInt8) : A0m Try.prog 99 [(false, [.s s])] [] (.one (false, [.b (kept s)])) := by
 refine spec_of2 false false none Try.func99 a7P (rvs := [.t 2]) (hΓ := mkCtx_ok (deep := false) (l := []) trivial) (h := ?_)
 intro hb hE
 simp only [go_sem] at hb
 simp only [a3z, x']
 (try refine A2Z ?_); simp only [go_sem]; (repeat' first | apply CJ.mk | intro hc); all_goals try ((repeat' first | apply And.intro | intro hs) <;> (try simp only [go_sem, Bool.and_eq_false_iff] at hs) <;> omega)
 all_goals (first | rfl | trace_state)
noncomputable def a2o : CT := p8 (fun (x : (List UInt8)) => a8K x)
@[go_sem] theorem b2l (s : List UInt8) : a2o [(false, [.s s])] = some (True, [], .one (false, [.b (kept s)])) := i9 _ (by intro x y h; simp at h; simp_all) s
theorem a5H : OkC Try.prog 99 a2o := j3 _
def a3w : ACode := q' ([b' 2 false]) (q' ([m' 3 0, o' 4 (.bin .eql (.t 3) (.k (.v false [.c (.s [115, 116, 97, 116, 101])]))), m' 5 4, ⟨some 6, .mov (.t 0), some (5, false)⟩,
 ⟨some 7, .bin .eql (.t 6) (.k (.v false [.c (.s [101, 118, 101, 110, 116])])), some (5, false)⟩, o' 8 (.pick (.t 5) (.k (.v false [.c (.b true)])) (.t 7)), m'
 9 8, ⟨some 10, .mov (.t 0), some (9, false)⟩, ⟨some 11, .bin .eql (.t 10) (.k (.v false [.c (.s [118, 105, 101, 119])])), some (9, false)⟩, o' 12 (.pick (.t
 9) (.k (.v false [.c (.b true)])) (.t 11)), m' 13 12, ⟨some 14, .mov (.t 0), some (13, false)⟩, ⟨some 15, .bin .eql (.t 14) (.k (.v false [.c (.s [110, 111,
 116])])), some (13, false)⟩, o' 16 (.pick (.t 13) (.k (.v false [.c (.b true)])) (.t 15)), m' 2 16]) .ret)
theorem a7M : cmp Try.prog Try.f69 = some a3w := by kernel_rfl
theorem a8H (s : List UInt8) : A0m Try.prog 69 [(false, [.s s])] [] (.one (false, [.b (kept s)])) := by
 refine spec_of2 false false none Try.func69 a7M (rvs := [.t 2]) (hΓ := mkCtx_ok (deep := false) (l := []) trivial) (h := ?_)
 intro hb hE
 simp only [go_sem] at hb
 simp only [a3w, x']
 (try refine A2Z ?_); simp only [go_sem]; (repeat' first | apply CJ.mk | intro hc); all_goals try ((repeat' first | apply And.intro | intro hs) <;> (try simp only [go_sem, Bool.and_eq_false_iff] at hs) <;> omega)
 all_goals (first | rfl | trace_state)
noncomputable def a2l : CT := p8 (fun (x : (List UInt8)) => a8H x)
@[go_sem] theorem b2i (s : List UInt8) : a2l [(false, [.s s])] = some (True, [], .one (false, [.b (kept s)])) := i9 _ (by intro x y h; simp at h; simp_all) s
theorem a5E : OkC Try.prog 69 a2l := j3 _
def a0y : ACode := q' ([o' 1 (.box 3 (.t 0)), b' 2 false]) (.seq (q' ([f' 3 0 1, l' 4 3, o' 5 (.bin .neq (.t 4) (.k (.v false [.c (.s [])])))]) (.cond (.t 5) (q' ([f' 6 0 1, l' 7
 6, c' 8 72 [7], m' 9 8, ⟨some 10, .fa 1 (.t 1), some (9, true)⟩, ⟨some 11, .ld true 2 (.t 10), some (9, true)⟩, ⟨some 12, .bld [.i .i64, .s] [], some (9,
 true)⟩, ⟨some 13, .eqs false [.i .i64, .s] (.t 11) (.t 12), some (9, true)⟩, o' 14 (.pick (.t 9) (.t 13) (.k (.v false [.c (.b false)]))), m' 2 14]) .ret)
 .skip)) (q' ([f' 15 1 1, e' 16 2 15, c' 17 73 [16], m' 18 17, ⟨some 19, .fa 1 (.t 1), some (18, true)⟩, ⟨some 20, .fa 1 (.t 19), some (18, true)⟩, ⟨some 21,
 .ld false 1 (.t 20), some (18, true)⟩, ⟨some 22, .call 99 [.t 21], some (18, true)⟩, ⟨some 23, .not (.t 22), some (18, true)⟩, o' 24 (.pick (.t 18) (.t 23)
 (.k (.v false [.c (.b false)]))), m' 2 24]) .ret))
theorem a3M : cmp Try.prog Try.f74 = some a0y := by kernel_rfl
theorem a4z (t : c8) : A0m Try.prog 74 [(true, [.s t.Var, .i .i64 t.Val.N, .s t.Val.S])] [] (.one (false, [.b (i8 t)])) := by
 refine spec_of2 false false none Try.func74 a3M (rvs := [.t 2]) (hΓ := mkCtx_ok (deep := false) (l := [(72, [], a0i), (73, [], t6), (99, [], a2o)]) ⟨a1I, w5, a5H, trivial⟩) (h := ?_)
 intro hb hE
 simp only [go_sem] at hb
 simp only [a0y, x']
 (try refine A2Z ?_); simp only [go_sem]; (repeat' first | apply CJ.mk | intro hc); all_goals try ((repeat' first | apply And.intro | intro hs) <;> (try simp only [go_sem, Bool.and_eq_false_iff] at hs) <;> omega)
 all_goals (first | (rw [i8, hc]; rfl) | (have hc2 : (!(t.Var == [])) = true := hc; rw [i8, hc2]; rfl) | (have hc2 : (!(t.Var == [])) = false := hc; rw [i8, hc2]; rfl) | trace_state)
noncomputable def x6 : CT := p8 (fun (x : c8) => a4z x)
@[go_sem] theorem a8W (x0 : List UInt8) (x1 : Int) (x2 : List UInt8) : x6 [(true, [.s x0, .i .i64 x1, .s x2])] = some (True, [], .one (false, [.b (i8 (c8.mk x0 (c7.mk x1 x2)))])) := i9 _ (by rintro ⟨_, ⟨_, _⟩⟩ ⟨_, ⟨_, _⟩⟩ h; simp at h; simp_all) (c8.mk x0 (c7.mk x1 x2))
theorem a2G : OkC Try.prog 74 x6 := j3 _
def a1Q : ACode := q' ([o' 1 (.box 3 (.t 0)), b' 2 false]) (.seq (q' ([f' 3 0 1, l' 4 3, o' 5 (.bin .neq (.t 4) (.k (.v false [.c (.s [])])))]) (.cond (.t 5) (q' ([f' 6 0 1, l' 7
 6, c' 8 44 [7], m' 9 8, ⟨some 10, .fa 1 (.t 1), some (9, true)⟩, ⟨some 11, .ld true 2 (.t 10), some (9, true)⟩, ⟨some 12, .bld [.i .i64, .s] [], some (9,
 true)⟩, ⟨some 13, .eqs false [.i .i64, .s] (.t 11) (.t 12), some (9, true)⟩, o' 14 (.pick (.t 9) (.t 13) (.k (.v false [.c (.b false)]))), m' 2 14]) .ret)
 .skip)) (q' ([f' 15 1 1, e' 16 2 15, c' 17 45 [16], m' 18 17, ⟨some 19, .fa 1 (.t 1), some (18, true)⟩, ⟨some 20, .fa 1 (.t 19), some (18, true)⟩, ⟨some 21,
 .ld false 1 (.t 20), some (18, true)⟩, ⟨some 22, .call 69 [.t 21], some (18, true)⟩, ⟨some 23, .not (.t 22), some (18, true)⟩, o' 24 (.pick (.t 18) (.t 23)
 (.k (.v false [.c (.b false)]))), m' 2 24]) .ret))
theorem a5U : cmp Try.prog Try.f34 = some a1Q := by kernel_rfl
theorem a6X (t : c8) : A0m Try.prog 34 [(true, [.s t.Var, .i .i64 t.Val.N, .s t.Val.S])] [] (.one (false, [.b (i8 t)])) := by
 refine spec_of2 false false none Try.func34 a5U (rvs := [.t 2]) (hΓ := mkCtx_ok (deep := false) (l := [(44, [], a0g), (45, [], t5), (69, [], a2l)]) ⟨a1G, v9, a5E, trivial⟩) (h := ?_)
 intro hb hE
 simp only [go_sem] at hb
 simp only [a1Q, x']
 (try refine A2Z ?_); simp only [go_sem]; (repeat' first | apply CJ.mk | intro hc); all_goals try ((repeat' first | apply And.intro | intro hs) <;> (try simp only [go_sem, Bool.and_eq_false_iff] at hs) <;> omega)
 all_goals (first | (rw [i8, hc]; rfl) | (have hc2 : (!(t.Var == [])) = true := hc; rw [i8, hc2]; rfl) | (have hc2 : (!(t.Var == [])) = false := hc; rw [i8, hc2]; rfl) | trace_state)
noncomputable def y4 : CT := p8 (fun (x : c8) => a6X x)
@[go_sem] theorem b0J (x0 : List UInt8) (x1 : Int) (x2 : List UInt8) : y4 [(true, [.s x0, .i .i64 x1, .s x2])] = some (True, [], .one (false, [.b (i8 (c8.mk x0 (c7.mk x1 x2)))])) := i9 _ (by rintro ⟨_, ⟨_, _⟩⟩ ⟨_, ⟨_, _⟩⟩ h; simp at h; simp_all) (c8.mk x0 (c7.mk x1 x2))
theorem a1a : OkC Try.prog 34 y4 := j3 _
def a0Z : ACode := q' ([b' 2 false]) (.seq (q' ([m' 5 0, n' 6 5, z' 7 0]) (.block 0 (.loop (q' ([r' 8 7 6]) (.seq (.cond (.t 8) .skip (.exit 0)) (.seq (.block 1 (q' ([i' 9 3 5 7,
 e' 10 3 9, w' 4 [.s, .i .i64, .s], s' 3 4 10]) (q' ([e' 11 3 4, c' 12 74 [11], o' 13 (.not (.t 12))]) (.cond (.t 13) (q' ([b' 2 false]) .ret) .skip)))) (g'
 [a' 14 7, m' 7 14]))))))) (q' ([b' 2 true]) .ret))
theorem a4v : cmp Try.prog Try.f39 = some a0Z := by kernel_rfl
theorem a5n (args : List c8) : A0m Try.prog 39 [(false, [.sl false [.s [], .i .i64 0, .s []] (args.map c8.cells)])] [] (.one (false, [.b (args.all i8)])) := by
 refine spec_of2 false false none Try.func39 a4v (rvs := [.t 2]) (hΓ := mkCtx_ok (deep := false) (l := [(74, [], x6)]) ⟨a2G, trivial⟩) (h := ?_)
 intro hb hE
 simp only [go_sem] at hb
 simp only [a0Z, x']
 (try refine A2Z ?_); simp only [go_sem]; (repeat' first | apply CJ.mk | intro hc); all_goals try ((repeat' first | apply And.intro | intro hs) <;> (try simp only [go_sem, Bool.and_eq_false_iff] at hs) <;> omega)
 refine aw_loop2 false [] [5, 6] [] [] (fun i : {i : Nat // i ≤ args.length ∧ (args.take i).all i8 = true} => [(7, slV (.i .i64 i.1))]) (fun i => []) (fun i => []) (fun i => args.length - i.1) (⟨0, by simp⟩) _ rfl ?_ ?_
 ·simp only [go_sem]
  all_goals first | omega | ((repeat' apply And.intro) <;> first | omega | rfl | skip)
 intro S0 hS0 i
 simp only [go_sem] at hS0
 obtain ⟨i, hi, ha⟩ := i
 (try refine A2Z ?_); simp only [go_sem, hS0]; (repeat' first | apply CJ.mk | intro hc); all_goals try ((repeat' first | apply And.intro | intro hs) <;> (try simp only [go_sem, Bool.and_eq_false_iff] at hs) <;> omega)
 ·rw [all_false (by omega) hc]
 ·(refine lpK_n2 (⟨i + 1, by omega, by rw [A6R (d := default) (by omega), ha, hc]; rfl⟩) _ rfl ?_; simp only [go_sem, hS0]; first | done | ((repeat' apply And.intro) <;> first | omega | (refine w64 ?_ ?_ ?_ <;> omega) | rfl | skip))
 ·rw [all_of_take (by omega) ha]
 all_goals trace_state
noncomputable def a0b : CT := p8 (fun (x : (List c8)) => a5n x)
@[go_sem] theorem a9A (x0 : List c8) : a0b [(false, [.sl false [.s [], .i .i64 0, .s []] (x0.map c8.cells)])] = some (True, [], .one (false, [.b (x0.all i8)])) := i9 _ (by intro x y h; simp at h; simp_all) x0
theorem a3m : OkC Try.prog 39 a0b := j3 _
def a1N : ACode := q' ([o' 1 (.box 3 (.t 0)), b' 2 false]) (q' ([e' 3 3 1, c' 4 34 [3], o' 5 (.not (.t 4)), m' 2 5]) .ret)
theorem a5R : cmp Try.prog Try.f41 = some a1N := by kernel_rfl
theorem a6U (t : c8) : A0m Try.prog 41 [(true, [.s t.Var, .i .i64 t.Val.N, .s t.Val.S])] [] (.one (false, [.b (!i8 t)])) := by
 refine spec_of2 false false none Try.func41 a5R (rvs := [.t 2]) (hΓ := mkCtx_ok (deep := false) (l := [(34, [], y4)]) ⟨a1a, trivial⟩) (h := ?_)
 intro hb hE
 simp only [go_sem] at hb
 simp only [a1N, x']
 (try refine A2Z ?_); simp only [go_sem]; (repeat' first | apply CJ.mk | intro hc); all_goals try ((repeat' first | apply And.intro | intro hs) <;> (try simp only [go_sem, Bool.and_eq_false_iff] at hs) <;> omega)
 all_goals (first | rfl | trace_state)
noncomputable def a0I : CT := p8 (fun (x : c8) => a6U x)
@[go_sem] theorem b0G (x0 : List UInt8) (x1 : Int) (x2 : List UInt8) : a0I [(true, [.s x0, .i .i64 x1, .s x2])] = some (True, [], .one (false, [.b (!i8 (c8.mk x0 (c7.mk x1 x2)))])) := i9 _ (by rintro ⟨_, ⟨_, _⟩⟩ ⟨_, ⟨_, _⟩⟩ h; simp at h; simp_all) (c8.mk x0 (c7.mk x1 x2))
theorem a4b : OkC Try.prog 41 a0I := j3 _
def a3c : ACode := q' ([z' 4 0]) (.seq (q' ([m' 6 0, n' 7 6, z' 8 0]) (.block 0 (.loop (q' ([r' 9 8 7]) (.seq (.cond (.t 9) .skip (.exit 0)) (.seq (.block 1 (q' ([m' 10 8, m' 5
 10]) (q' ([m' 11 1, m' 12 0, m' 13 5, i' 14 3 12 13, e' 15 3 14, o' 16 (.callv (.t 11) [.t 15])]) (.cond (.t 16) (q' ([m' 17 5, m' 4 17]) .ret) .skip)))) (g'
 [a' 18 8, m' 8 18]))))))) (q' ([o' 4 (.mov (.k (.v false [.c (.i .i64 (-1))])))]) .ret))
theorem a5Q : cmp Try.prog Try.f68 = some a3c := by kernel_rfl
theorem b1g (l : List c8) : A0m Try.prog 68 [(false, [.sl false [.s [], .i .i64 0, .s []] (l.map c8.cells)]), (false, [.f 41 []])] [] (.one (false, [.i .i64 ((w7 l.length (fun i => !i8 (l.getD i default)) : Nat) - (bif l.all i8 then l.length + 1 else 0 : Nat))])) := by
 refine spec_of2 false false none Try.func68 a5Q (rvs := [.t 4]) (hΓ := mkCtx_ok (deep := false) (l := [(41, [], a0I)]) ⟨a4b, trivial⟩) (h := ?_)
 intro hb hE
 simp only [go_sem] at hb
 simp only [a3c, x']
 (try refine A2Z ?_); simp only [go_sem]; (repeat' first | apply CJ.mk | intro hc); all_goals try ((repeat' first | apply And.intro | intro hs) <;> (try simp only [go_sem, Bool.and_eq_false_iff] at hs) <;> omega)
 refine aw_loop2 false [] [0, 1, 7] [] [] (fun i : {i : Nat // i ≤ l.length ∧ (l.take i).all i8 = true ∧ ∀ j, j < i → (!i8 (l.getD j default)) = false} => [(8, slV (.i .i64 i.1))]) (fun i => []) (fun i => []) (fun i => l.length - i.1) (⟨0, by simp⟩) _ rfl ?_ ?_
 ·simp only [go_sem]
  all_goals first | omega | ((repeat' apply And.intro) <;> first | omega | rfl | skip)
 intro S0 hS0 i
 simp only [go_sem] at hS0
 obtain ⟨i, hi, ha, hf⟩ := i
 (try refine A2Z ?_); simp only [go_sem, hS0]; (repeat' first | apply CJ.mk | intro hc); all_goals try ((repeat' first | apply And.intro | intro hs) <;> (try simp only [go_sem, Bool.and_eq_false_iff] at hs) <;> omega)
 ·have hc2 : i8 (l.getD i default) = false := by simpa using hc
  rw [all_false (by omega) hc2, a0D hf (by rw [hc2]; rfl) (show i < l.length by omega)]; simp
 ·have hc2 : i8 (l.getD i default) = true := by simpa using hc
  (refine lpK_n2 (⟨i + 1, by omega, by rw [A6R (d := default) (by omega), ha, hc2]; rfl, fun j hj => (Nat.lt_succ_iff_lt_or_eq.1 hj).elim (hf j) (fun q => by rw [q, hc2]; rfl)⟩) _ rfl ?_; simp only [go_sem, hS0]; first | done | ((repeat' apply And.intro) <;> first | omega | (refine w64 ?_ ?_ ?_ <;> omega) | rfl | skip))
 ·rw [all_of_take (by omega) ha, a0C fun j hj => hf j (by omega), cond_true]
  omega
 all_goals trace_state
noncomputable def a4a : CT := p8 (fun (x : (List c8)) => b1g x)
@[go_sem] theorem b2R (l : List c8) : a4a [(false, [.sl false [.s [], .i .i64 0, .s []] (l.map c8.cells)]), (false, [.f 41 []])] = some (True, [], .one (false, [.i .i64 ((w7 l.length (fun i => !i8 (l.getD i default)) : Nat) - (bif l.all i8 then l.length + 1 else 0 : Nat))])) := i9 _ (by intro x y h; simp at h; simp_all) l
theorem a7F : OkC Try.prog 68 a4a := j3 _
def a3b : ACode := q' ([b' 4 false]) (q' ([m' 5 0, m' 6 1, c' 7 68 [5, 6], o' 8 (.bin .geq (.t 7) (k' 0)), m' 4 8]) .ret)
theorem a5P : cmp Try.prog Try.f32 = some a3b := by kernel_rfl
theorem b1f (l : List c8) : A0m Try.prog 32 [(false, [.sl false [.s [], .i .i64 0, .s []] (l.map c8.cells)]), (false, [.f 41 []])] [] (.one (false, [.b (!l.all i8)])) := by
 refine spec_of2 false false none Try.func32 a5P (rvs := [.t 4]) (hΓ := mkCtx_ok (deep := false) (l := [(68, [], a4a)]) ⟨a7F, trivial⟩) (h := ?_)
 intro hb hE
 simp only [go_sem] at hb
 simp only [a3b, x']
 (try refine A2Z ?_); simp only [go_sem]; (repeat' first | apply CJ.mk | intro hc); all_goals try ((repeat' first | apply And.intro | intro hs) <;> (try simp only [go_sem, Bool.and_eq_false_iff] at hs) <;> omega)
 ·have := b0Z l.length (fun i => !i8 (l.getD i default))
  cases l.all i8 with
  | true => simp only [cond_true, Bool.not_true]; exact decide_eq_false (by omega)
  | false => simp only [cond_false, Bool.not_false]; exact decide_eq_true (by omega)
 all_goals trace_state
noncomputable def a3Z : CT := p8 (fun (x : (List c8)) => b1f x)
@[go_sem] theorem b2Q (l : List c8) : a3Z [(false, [.sl false [.s [], .i .i64 0, .s []] (l.map c8.cells)]), (false, [.f 41 []])] = some (True, [], .one (false, [.b (!l.all i8)])) := i9 _ (by intro x y h; simp at h; simp_all) l
theorem a7E : OkC Try.prog 32 a3Z := j3 _
def l5 (e : c9) (t : c8) : c7 × Bool := bif t.Var == [] then (t.Val, true) else m7 e t.Var
def a1w : ACode := q' ([o' 2 (.box 1 (.t 0)), o' 3 (.box 3 (.t 1)), w' 4 [.i .i64, .s], b' 5 false]) (.seq (q' ([f' 6 0 3, l' 7 6, o' 8 (.bin .eql (.t 7) (.k (.v false [.c (.s
 [])])))]) (.cond (.t 8) (q' ([f' 9 1 3, e' 10 2 9, s' 2 4 10, b' 5 true]) .ret) .skip)) (q' ([e' 11 1 2, f' 12 0 3, l' 13 12, c' 14 93 [11, 13], o' 15 (.ext
 (.t 14) 0), o' 16 (.ext (.t 14) 1), s' 2 4 15, m' 5 16]) .ret))
theorem a4V : cmp Try.prog Try.f70 = some a1w := by kernel_rfl
theorem a6n (e : c9) (t : c8) : A0m Try.prog 70 [(true, [.sl false [.s [], .i .i64 0, .s []] (e.Binds.map c6.cells)]), (true, [.s t.Var, .i .i64 t.Val.N, .s t.Val.S])] [] (.tup [(true, [.i .i64 (((l5 e t).1).N), .s (((l5 e t).1).S)]), (false, [.b ((l5 e t).2)])]) := by
 refine spec_of2 false false none Try.func70 a4V (rvs := [.c 4 true 2, .t 5]) (hΓ := mkCtx_ok (deep := false) (l := [(93, [], a1o)]) ⟨a4P, trivial⟩) (h := ?_)
 intro hb hE
 simp only [go_sem] at hb
 simp only [a1w, x']
 (try refine A2Z ?_); simp only [go_sem]; (repeat' first | apply CJ.mk | intro hc); all_goals try ((repeat' first | apply And.intro | intro hs) <;> (try simp only [go_sem, Bool.and_eq_false_iff] at hs) <;> omega)
 all_goals (first | (rw [l5, hc]; exact ⟨⟨rfl, rfl⟩, rfl⟩) | trace_state)
noncomputable def w4 : CT := p8 (fun (x : c9 × c8) => a6n x.1 x.2)
@[go_sem] theorem a9R (x0 : List c6) (x1 : List UInt8) (x2 : Int) (x3 : List UInt8) : w4 [(true, [.sl false [.s [], .i .i64 0, .s []] (x0.map c6.cells)]), (true, [.s x1, .i .i64 x2, .s x3])] = some (True, [], .tup [(true, [.i .i64 (((l5 (c9.mk x0) (c8.mk x1 (c7.mk x2 x3))).1).N), .s (((l5 (c9.mk x0) (c8.mk x1 (c7.mk x2 x3))).1).S)]), (false, [.b ((l5 (c9.mk x0) (c8.mk x1 (c7.mk x2 x3))).2)])]) := i9 _ (by rintro ⟨⟨_⟩, ⟨_, ⟨_, _⟩⟩⟩ ⟨⟨_⟩, ⟨_, ⟨_, _⟩⟩⟩ h; simp at h; simp_all) ((c9.mk x0), (c8.mk x1 (c7.mk x2 x3)))
theorem a0B : OkC Try.prog 70 w4 := j3 _
def o6 (e : c9) (args : List c8) : d3 × Bool := bif args.all (fun t => (l5 e t).2) then (⟨args.map fun t => (l5 e t).1⟩, true) else (default, false)
theorem a0R {α β : Type} (f : α → β) {l : List α} {i : Nat} {d : α} (h : i < l.length) : (l.take i).map f ++ [f (l.getD i d)] = (l.take (i + 1)).map f := by
 rw [List.take_add_one, List.map_append, List.getD_eq_getElem?_getD, List.getElem?_eq_getElem h]
 rfl
def a3y : ACode := q' ([o' 2 (.box 1 (.t 0)), w' 4 [.sl [.i .i64 0, .s []]], b' 5 false]) (q' ([o' 11 (.bld [.sl [.i .i64 0, .s []]] []), w' 6 [.sl [.i .i64 0, .s []]], s' 1 6
 11]) (.seq (q' ([m' 12 1, n' 13 12, z' 14 0]) (.block 0 (.loop (q' ([r' 15 14 13]) (.seq (.cond (.t 15) .skip (.exit 0)) (.seq (.block 1 (q' ([i' 16 3 12 14,
 e' 17 3 16, w' 8 [.s, .i .i64, .s], s' 3 8 17]) (q' ([e' 19 1 2, e' 20 3 8, c' 21 70 [19, 20], m' 18 21, o' 22 (.ext (.t 18) 0), o' 23 (.ext (.t 18) 1), w' 9
 [.i .i64, .s], s' 2 9 22, m' 10 23]) (.seq (q' ([m' 24 10, o' 25 (.not (.t 24))]) (.cond (.t 25) (q' ([o' 26 (.bld [.sl [.i .i64 0, .s []]] []), s' 1 4 26, b'
 5 false]) .ret) .skip)) (g' [f' 27 0 6, l' 28 27, e' 29 2 9, o' 30 (.bsl 2 1 [.i .i64, .s] [(0, .t 29)]), o' 31 (.app 2 24 [.i .i64, .s] (.t 28) (.t 30)), f'
 32 0 6, s' 1 32 31]))))) (g' [a' 33 14, m' 14 33]))))))) (q' ([e' 34 1 6, s' 1 4 34, b' 5 true]) .ret)))
theorem a7O : cmp Try.prog Try.f42 = some a3y := by kernel_rfl
theorem a8J (e : c9) (args : List c8) (hpre : args.length ≤ 6) : A0m Try.prog 42 [(true, [.sl false [.s [], .i .i64 0, .s []] (e.Binds.map c6.cells)]), (false, [.sl false [.s [], .i .i64 0, .s []] (args.map c8.cells)])] [] (.tup [(true, [.sl true [.i .i64 0, .s []] ((((o6 e args).1).V).map c7.cells)]), (false, [.b ((o6 e args).2)])]) := by
 refine spec_of2 true false none Try.func42 a7O (rvs := [.c 4 true 1, .t 5]) (hΓ := mkCtx_ok (deep := true) (l := [(70, [], w4)]) ⟨a0B, trivial⟩) (h := ?_)
 intro hb hE
 simp only [go_sem] at hb
 simp only [a3y, x']
 (try refine A2Z ?_); simp only [go_sem, List.length_take]; (repeat' first | apply CJ.mk | intro hc); all_goals try ((repeat' first | apply And.intro | intro hs) <;> (try simp only [go_sem, Bool.and_eq_false_iff] at hs) <;> omega)
 refine aw_loop2 true [(true, 12, 0, 3968)] [2, 4, 6, 12, 13] [4] [] (fun i : {i : Nat // i ≤ args.length ∧ (args.take i).all (fun t => (l5 e t).2) = true} => [(14, slV (.i .i64 i.1))]) (fun i => [(8, [.nl [.i .i64 0, .s []]]), (12, [.ow 3968])]) (fun i => [(3968, [.i .i64 0, .s []], ((args.take i.1).map fun t => (l5 e t).1).map c7.cells)]) (fun i => args.length - i.1) (⟨0, by simp⟩) _ (by simp only [go_sem, List.length_take]; try rfl) ?_ ?_
 ·simp only [go_sem, List.length_take]
  all_goals first | omega | ((repeat' apply And.intro) <;> first | omega | rfl | skip)
 intro S0 hS0 i
 simp only [go_sem, List.length_take] at hS0
 obtain ⟨i, hi, ha⟩ := i
 (try refine A2Z ?_); simp only [go_sem, List.length_take, hS0]; (repeat' first | apply CJ.mk | intro hc); all_goals try ((repeat' first | apply And.intro | intro hs) <;> (try simp only [go_sem, Bool.and_eq_false_iff] at hs) <;> omega)
 ·rw [o6, all_false (p := fun t => (l5 e t).2) (d := default) (i := i) (by omega) hc]; exact ⟨rfl, rfl⟩
 ·(refine lpK_n2 (⟨i + 1, by omega, by rw [A6R (d := default) (by omega), ha, hc]; rfl⟩) _ (by simp only [go_sem, List.length_take]; try rfl) ?_; simp only [go_sem, List.length_take, hS0]; first | done | ((repeat' apply And.intro) <;> first | omega | (refine w64 ?_ ?_ ?_ <;> omega) | rfl | skip))
  all_goals (rw [← a0R (fun t => (l5 e t).1) (d := default) (show i < args.length by omega)])
 ·rw [o6, all_of_take (by omega) ha, List.take_of_length_le (by omega)]; exact ⟨rfl, rfl⟩
 all_goals trace_state
noncomputable def a2n : CT := t9 (fun (x : c9 × (List c8)) h => a8J x.1 x.2 h)
@[go_sem] theorem b2k (x0 : List c6) (x1 : List c8) : a2n [(true, [.sl false [.s [], .i .i64 0, .s []] (x0.map c6.cells)]), (false, [.sl false [.s [], .i .i64 0, .s []] (x1.map c8.cells)])] = some (x1.length ≤ 6, [], .tup [(true, [.sl true [.i .i64 0, .s []] ((((o6 (c9.mk x0) x1).1).V).map c7.cells)]), (false, [.b ((o6 (c9.mk x0) x1).2)])]) := j8 _ (by rintro ⟨⟨_⟩, _⟩ ⟨⟨_⟩, _⟩ h; simp at h; simp_all) ((c9.mk x0), x1)
theorem a5G : OkC Try.prog 42 a2n := k9 _
def a1F : ACode := q' ([o' 2 (.box 1 (.t 0)), w' 4 [.sl [.i .i64 0, .s []]], b' 5 false]) (q' ([o' 12 (.bld [.sl [.i .i64 0, .s []]] []), w' 6 [.sl [.i .i64 0, .s []]], s' 1 6
 12]) (.seq (q' ([m' 13 1, n' 14 13, z' 15 0]) (.block 0 (.loop (q' ([r' 16 15 14]) (.seq (.cond (.t 16) .skip (.exit 0)) (.seq (.block 1 (q' ([i' 17 3 13 15,
 e' 18 3 17, w' 8 [.s, .i .i64, .s], s' 3 8 18]) (q' ([f' 19 1 8, e' 20 2 19, w' 9 [.i .i64, .s], s' 2 9 20]) (.seq (q' ([f' 21 0 8, l' 22 21, o' 23 (.bin .neq
 (.t 22) (.k (.v false [.c (.s [])])))]) (.cond (.t 23) (q' ([e' 25 1 2, f' 26 0 8, l' 27 26, c' 28 65 [25, 27], m' 24 28, o' 29 (.ext (.t 24) 0), o' 30 (.ext
 (.t 24) 1), w' 10 [.i .i64, .s], s' 2 10 29, m' 11 30]) (.seq (q' ([m' 31 11, o' 32 (.not (.t 31))]) (.cond (.t 32) (q' ([o' 33 (.bld [.sl [.i .i64 0, .s []]]
 []), s' 1 4 33, b' 5 false]) .ret) .skip)) (g' [e' 34 2 10, s' 2 9 34]))) .skip)) (g' [f' 35 0 6, l' 36 35, e' 37 2 9, o' 38 (.bsl 2 1 [.i .i64, .s] [(0, .t
 37)]), o' 39 (.app 2 24 [.i .i64, .s] (.t 36) (.t 38)), f' 40 0 6, s' 1 40 39]))))) (g' [a' 41 15, m' 15 41]))))))) (q' ([e' 42 1 6, s' 1 4 42, b' 5 true])
 .ret)))
theorem a5e : cmp Try.prog Try.f29 = some a1F := by kernel_rfl
theorem a2v (e : c9) (args : List c8) (hpre : args.length ≤ 6) : A0m Try.prog 29 [(true, [.sl false [.s [], .i .i64 0, .s []] (e.Binds.map c6.cells)]), (false, [.sl false [.s [], .i .i64 0, .s []] (args.map c8.cells)])] [] (.tup [(true, [.sl true [.i .i64 0, .s []] ((((o6 e args).1).V).map c7.cells)]), (false, [.b ((o6 e args).2)])]) := by
 refine spec_of2 true false none Try.func29 a5e (rvs := [.c 4 true 1, .t 5]) (hΓ := mkCtx_ok (deep := true) (l := [(65, [], y6)]) ⟨a1c, trivial⟩) (h := ?_)
 intro hb hE
 simp only [go_sem] at hb
 simp only [a1F, x']
 (try refine A2Z ?_); simp only [go_sem, List.length_take]; (repeat' first | apply CJ.mk | intro hc); all_goals try ((repeat' first | apply And.intro | intro hs) <;> (try simp only [go_sem, Bool.and_eq_false_iff] at hs) <;> omega)
 refine aw_loop2 true [(true, 12, 0, 4992)] [2, 4, 6, 13, 14] [4] [] (fun i : {i : Nat // i ≤ args.length ∧ (args.take i).all (fun t => (l5 e t).2) = true} => [(15, slV (.i .i64 i.1))]) (fun i => [(8, [.nl [.i .i64 0, .s []]]), (12, [.ow 4992])]) (fun i => [(4992, [.i .i64 0, .s []], ((args.take i.1).map fun t => (l5 e t).1).map c7.cells)]) (fun i => args.length - i.1) (⟨0, by simp⟩) _ (by simp only [go_sem, List.length_take]; try rfl) ?_ ?_
 ·simp only [go_sem, List.length_take]
  all_goals first | omega | ((repeat' apply And.intro) <;> first | omega | rfl | skip)
 intro S0 hS0 i
 simp only [go_sem, List.length_take] at hS0
 obtain ⟨i, hi, ha⟩ := i
 (try refine A2Z ?_); simp only [go_sem, List.length_take, hS0]; (repeat' first | apply CJ.mk | intro hc); all_goals try ((repeat' first | apply And.intro | intro hs) <;> (try simp only [go_sem, Bool.and_eq_false_iff] at hs) <;> omega)
 ·rename_i h1
  have hv : l5 e (args.getD i default) = m7 e (args.getD i default).Var := by
   have : ((args.getD i default).Var == []) = false := by simpa using h1
   rw [l5, this]; rfl
  rw [o6, all_false (p := fun t => (l5 e t).2) (d := default) (i := i) (by omega) (by simp only [hv]; exact hc)]; exact ⟨rfl, rfl⟩
 ·rename_i h1
  have hv : l5 e (args.getD i default) = m7 e (args.getD i default).Var := by
   have : ((args.getD i default).Var == []) = false := by simpa using h1
   rw [l5, this]; rfl
  (refine lpK_n2 (⟨i + 1, by omega, by rw [A6R (d := default) (by omega), ha, hv, hc]; rfl⟩) _ (by simp only [go_sem, List.length_take]; try rfl) ?_; simp only [go_sem, List.length_take, hS0]; first | done | ((repeat' apply And.intro) <;> first | omega | (refine w64 ?_ ?_ ?_ <;> omega) | rfl | skip))
  all_goals (rw [← a0R (fun t => (l5 e t).1) (d := default) (show i < args.length by omega), hv])
 ·have hv : l5 e (args.getD i default) = ((args.getD i default).Val, true) := by
   have : ((args.getD i default).Var == []) = true := by simpa using hc
   rw [l5, this]; rfl
  (refine lpK_n2 (⟨i + 1, by omega, by rw [A6R (d := default) (by omega), ha, hv]; rfl⟩) _ (by simp only [go_sem, List.length_take]; try rfl) ?_; simp only [go_sem, List.length_take, hS0]; first | done | ((repeat' apply And.intro) <;> first | omega | (refine w64 ?_ ?_ ?_ <;> omega) | rfl | skip))
  all_goals (rw [← a0R (fun t => (l5 e t).1) (d := default) (show i < args.length by omega), hv])
 ·rw [o6, all_of_take (by omega) ha, List.take_of_length_le (by omega)]; exact ⟨rfl, rfl⟩
 all_goals trace_state
noncomputable def a5J : CT := t9 (fun (x : c9 × (List c8)) h => a2v x.1 x.2 h)
@[go_sem] theorem b0a (x0 : List c6) (x1 : List c8) : a5J [(true, [.sl false [.s [], .i .i64 0, .s []] (x0.map c6.cells)]), (false, [.sl false [.s [], .i .i64 0, .s []] (x1.map c8.cells)])] = some (x1.length ≤ 6, [], .tup [(true, [.sl true [.i .i64 0, .s []] ((((o6 (c9.mk x0) x1).1).V).map c7.cells)]), (false, [.b ((o6 (c9.mk x0) x1).2)])]) := j8 _ (by rintro ⟨⟨_⟩, _⟩ ⟨⟨_⟩, _⟩ h; simp at h; simp_all) ((c9.mk x0), x1)
def a2W (e : c9) (args : List c8) : d3 × Bool := bif s7 e && args.all i8 && decide ((args.length : Int) ≤ 6) then o6 e args else (default, false)
def a3v : ACode := q' ([o' 2 (.box 1 (.t 0)), w' 4 [.sl [.i .i64 0, .s []]], b' 5 false]) (.seq (q' ([e' 6 1 2, c' 7 10 [6], o' 8 (.not (.t 7)), m' 9 8, ⟨some 10, .mov (.t 1),
 some (9, false)⟩, ⟨some 11, .len (.t 10), some (9, false)⟩, ⟨some 12, .bin .gtr (.t 11) (k' 6), some (9, false)⟩, o' 13 (.pick (.t 9) (.k (.v false [.c (.b
 true)])) (.t 12)), m' 14 13, ⟨some 15, .mov (.t 1), some (14, false)⟩, ⟨some 16, .call 32 [.t 15, .k (.v false [.c (.f 41 [])])], some (14, false)⟩, o' 17
 (.pick (.t 14) (.k (.v false [.c (.b true)])) (.t 16))]) (.cond (.t 17) (q' ([o' 18 (.bld [.sl [.i .i64 0, .s []]] []), s' 1 4 18, b' 5 false]) .ret) .skip))
 (q' ([e' 19 1 2, m' 20 1, c' 21 42 [19, 20], o' 22 (.ext (.t 21) 0), o' 23 (.ext (.t 21) 1), s' 1 4 22, m' 5 23]) .ret))
theorem a7L : cmp Try.prog Try.f8 = some a3v := by kernel_rfl
theorem a8G (e : c9) (args : List c8) : A0m Try.prog 8 [(true, [.sl false [.s [], .i .i64 0, .s []] (e.Binds.map c6.cells)]), (false, [.sl false [.s [], .i .i64 0, .s []] (args.map c8.cells)])] [] (.tup [(true, [.sl true [.i .i64 0, .s []] ((((a2W e args).1).V).map c7.cells)]), (false, [.b ((a2W e args).2)])]) := by
 refine spec_of2 true false none Try.func8 a7L (rvs := [.c 4 true 1, .t 5]) (hΓ := mkCtx_ok (deep := true) (l := [(10, [], v8), (32, [], a3Z), (42, [], a2n)]) ⟨z5, a7E, a5G, trivial⟩) (h := ?_)
 intro hb hE
 simp only [go_sem] at hb
 simp only [a3v, x']
 (try refine A2Z ?_); simp only [go_sem]; (repeat' first | apply CJ.mk | intro hc); all_goals try ((repeat' first | apply And.intro | intro hs) <;> (try simp only [go_sem, Bool.and_eq_false_iff] at hs) <;> omega)
 ·rcases hc with (h | h) | h
  ·rw [a2W, h]; exact ⟨rfl, rfl⟩
  ·rw [a2W, decide_eq_false (p := (args.length : Int) ≤ 6) (by omega), Bool.and_false]; exact ⟨rfl, rfl⟩
  ·have h : args.all i8 = false := by simpa using h
   rw [a2W, h, Bool.and_false]; exact ⟨rfl, rfl⟩
 ·rw [a2W, hc.1.1, decide_eq_true (p := (args.length : Int) ≤ 6) (by omega), show args.all i8 = true by simpa using hc.2]; exact ⟨rfl, rfl⟩
 all_goals trace_state
noncomputable def a2k : CT := p8 (fun (x : c9 × (List c8)) => a8G x.1 x.2)
@[go_sem] theorem b2h (x0 : List c6) (x1 : List c8) : a2k [(true, [.sl false [.s [], .i .i64 0, .s []] (x0.map c6.cells)]), (false, [.sl false [.s [], .i .i64 0, .s []] (x1.map c8.cells)])] = some (True, [], .tup [(true, [.sl true [.i .i64 0, .s []] ((((a2W (c9.mk x0) x1).1).V).map c7.cells)]), (false, [.b ((a2W (c9.mk x0) x1).2)])]) := i9 _ (by rintro ⟨⟨_⟩, _⟩ ⟨⟨_⟩, _⟩ h; simp at h; simp_all) ((c9.mk x0), x1)
theorem a5D : OkC Try.prog 8 a2k := j3 _
end Go.Aw
