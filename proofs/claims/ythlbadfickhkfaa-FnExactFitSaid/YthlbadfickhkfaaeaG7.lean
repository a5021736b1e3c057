/- Rows filled. No condition. -/
import Derived.Test.YthlbadfickhkfaaeaG2
namespace Go.Aw
open Go.Proofs
attribute [local irreducible] aft blk lpK retK AW A0l
set_option linter.unusedVariables false
set_option linter.unusedSimpArgs false
set_option maxRecDepth 100000
def kept (s : List UInt8) : Bool := s == [115, 116, 97, 116, 101] || s == [101, 118, 101, 110, 116] || s == [118, 105, 101, 119] || s == [110, 111, 116]
def j4 (t : c7) : Bool := bif !(t.Var == []) then a1X t.Var && (t.Val.N == 0 && t.Val.S == []) else j6 t.Val && !kept t.Val.S
def a2U : ACode := q' ([b' 2 false]) (q' ([m' 3 0, o' 4 (.bin .eql (.t 3) (.k (.v false [.c (.s [115, 116, 97, 116, 101])]))), m' 5 4, ⟨some 6, .mov (.t 0), some (5, false)⟩,
 ⟨some 7, .bin .eql (.t 6) (.k (.v false [.c (.s [101, 118, 101, 110, 116])])), some (5, false)⟩, o' 8 (.pick (.t 5) (.k (.v false [.c (.b true)])) (.t 7)), m'
 9 8, ⟨some 10, .mov (.t 0), some (9, false)⟩, ⟨some 11, .bin .eql (.t 10) (.k (.v false [.c (.s [118, 105, 101, 119])])), some (9, false)⟩, o' 12 (.pick (.t
 9) (.k (.v false [.c (.b true)])) (.t 11)), m' 13 12, ⟨some 14, .mov (.t 0), some (13, false)⟩, ⟨some 15, .bin .eql (.t 14) (.k (.v false [.c (.s [110, 111,
 116])])), some (13, false)⟩, o' 16 (.pick (.t 13) (.k (.v false [.c (.b true)])) (.t 15)), m' 2 16]) .ret)
theorem a7p : cmp Try.prog Try.f99 = some a2U := by kernel_rfl
theorem a8d (s : List UInt8) : A0l Try.prog 99 [(false, [.s s])] [] (.one (false, [.b (kept s)])) := by
 refine spec_of2 false false none Try.func99 a7p (rvs := [.t 2]) (hΓ := mkCtx_ok (deep := false) (l := []) trivial) (h := ?_)
 intro hb hE
 simp only [go_sem] at hb
 simp only [a2U, x']
 (try refine A2V ?_); simp only [go_sem]; (repeat' first | apply CJ.mk | intro hc); all_goals try ((repeat' first | apply And.intro | intro hs) <;> (try simp only [go_sem, Bool.and_eq_false_iff] at hs) <;> omega)
 all_goals (first | rfl | trace_state)
noncomputable def a1N : CT := j8 (fun (x : (List UInt8)) => a8d x)
@[go_sem] theorem b1q (s : List UInt8) : a1N [(false, [.s s])] = some (True, [], .one (false, [.b (kept s)])) := f5 _ (by intro x y h; simp at h; simp_all) s
theorem a5k : OkC Try.prog 99 a1N := f8 _
def a2S : ACode := q' ([b' 2 false]) (q' ([m' 3 0, o' 4 (.bin .eql (.t 3) (.k (.v false [.c (.s [115, 116, 97, 116, 101])]))), m' 5 4, ⟨some 6, .mov (.t 0), some (5, false)⟩,
 ⟨some 7, .bin .eql (.t 6) (.k (.v false [.c (.s [101, 118, 101, 110, 116])])), some (5, false)⟩, o' 8 (.pick (.t 5) (.k (.v false [.c (.b true)])) (.t 7)), m'
 9 8, ⟨some 10, .mov (.t 0), some (9, false)⟩, ⟨some 11, .bin .eql (.t 10) (.k (.v false [.c (.s [118, 105, 101, 119])])), some (9, false)⟩, o' 12 (.pick (.t
 9) (.k (.v false [.c (.b true)])) (.t 11)), m' 13 12, ⟨some 14, .mov (.t 0), some (13, false)⟩, ⟨some 15, .bin .eql (.t 14) (.k (.v false [.c (.s [110, 111,
 116])])), some (13, false)⟩, o' 16 (.pick (.t 13) (.k (.v false [.c (.b true)])) (.t 15)), m' 2 16]) .ret)
theorem a7n : cmp Try.prog Try.f69 = some a2S := by kernel_rfl
theorem a8b (s : List UInt8) : A0l Try.prog 69 [(false, [.s s])] [] (.one (false, [.b (kept s)])) := by
 refine spec_of2 false false none Try.func69 a7n (rvs := [.t 2]) (hΓ := mkCtx_ok (deep := false) (l := []) trivial) (h := ?_)
 intro hb hE
 simp only [go_sem] at hb
 simp only [a2S, x']
 (try refine A2V ?_); simp only [go_sem]; (repeat' first | apply CJ.mk | intro hc); all_goals try ((repeat' first | apply And.intro | intro hs) <;> (try simp only [go_sem, Bool.and_eq_false_iff] at hs) <;> omega)
 all_goals (first | rfl | trace_state)
noncomputable def a1K : CT := j8 (fun (x : (List UInt8)) => a8b x)
@[go_sem] theorem b1o (s : List UInt8) : a1K [(false, [.s s])] = some (True, [], .one (false, [.b (kept s)])) := f5 _ (by intro x y h; simp at h; simp_all) s
theorem a5i : OkC Try.prog 69 a1K := f8 _
def z0 : ACode := q' ([o' 1 (.box 3 (.t 0)), b' 2 false]) (.seq (q' ([f' 3 0 1, l' 4 3, o' 5 (.bin .neq (.t 4) (.k (.v false [.c (.s [])])))]) (.cond (.t 5) (q' ([f' 6 0 1, l' 7
 6, c' 8 72 [7], m' 9 8, ⟨some 10, .fa 1 (.t 1), some (9, true)⟩, ⟨some 11, .ld true 2 (.t 10), some (9, true)⟩, ⟨some 12, .bld [.i .i64, .s] [], some (9,
 true)⟩, ⟨some 13, .eqs false [.i .i64, .s] (.t 11) (.t 12), some (9, true)⟩, o' 14 (.pick (.t 9) (.t 13) (.k (.v false [.c (.b false)]))), m' 2 14]) .ret)
 .skip)) (q' ([f' 15 1 1, e' 16 2 15, c' 17 73 [16], m' 18 17, ⟨some 19, .fa 1 (.t 1), some (18, true)⟩, ⟨some 20, .fa 1 (.t 19), some (18, true)⟩, ⟨some 21,
 .ld false 1 (.t 20), some (18, true)⟩, ⟨some 22, .call 99 [.t 21], some (18, true)⟩, ⟨some 23, .not (.t 22), some (18, true)⟩, o' 24 (.pick (.t 18) (.t 23)
 (.k (.v false [.c (.b false)]))), m' 2 24]) .ret))
theorem a3l : cmp Try.prog Try.f74 = some z0 := by kernel_rfl
theorem a3X (t : c7) : A0l Try.prog 74 [(true, [.s t.Var, .i .i64 t.Val.N, .s t.Val.S])] [] (.one (false, [.b (j4 t)])) := by
 refine spec_of2 false false none Try.func74 a3l (rvs := [.t 2]) (hΓ := mkCtx_ok (deep := false) (l := [(72, [], v5), (73, [], n7), (99, [], a1N)]) ⟨a1n, p9, a5k, trivial⟩) (h := ?_)
 intro hb hE
 simp only [go_sem] at hb
 simp only [z0, x']
 (try refine A2V ?_); simp only [go_sem]; (repeat' first | apply CJ.mk | intro hc); all_goals try ((repeat' first | apply And.intro | intro hs) <;> (try simp only [go_sem, Bool.and_eq_false_iff] at hs) <;> omega)
 all_goals (first | (rw [j4, hc]; rfl) | (have hc2 : (!(t.Var == [])) = true := hc; rw [j4, hc2]; rfl) | (have hc2 : (!(t.Var == [])) = false := hc; rw [j4, hc2]; rfl) | trace_state)
noncomputable def t3 : CT := j8 (fun (x : c7) => a3X x)
@[go_sem] theorem a8n (x0 : List UInt8) (x1 : Int) (x2 : List UInt8) : t3 [(true, [.s x0, .i .i64 x1, .s x2])] = some (True, [], .one (false, [.b (j4 (c7.mk x0 (c6.mk x1 x2)))])) := f5 _ (by rintro ⟨_, ⟨_, _⟩⟩ ⟨_, ⟨_, _⟩⟩ h; simp at h; simp_all) (c7.mk x0 (c6.mk x1 x2))
theorem a2f : OkC Try.prog 74 t3 := f8 _
def a1u : ACode := q' ([o' 1 (.box 3 (.t 0)), b' 2 false]) (.seq (q' ([f' 3 0 1, l' 4 3, o' 5 (.bin .neq (.t 4) (.k (.v false [.c (.s [])])))]) (.cond (.t 5) (q' ([f' 6 0 1, l' 7
 6, c' 8 44 [7], m' 9 8, ⟨some 10, .fa 1 (.t 1), some (9, true)⟩, ⟨some 11, .ld true 2 (.t 10), some (9, true)⟩, ⟨some 12, .bld [.i .i64, .s] [], some (9,
 true)⟩, ⟨some 13, .eqs false [.i .i64, .s] (.t 11) (.t 12), some (9, true)⟩, o' 14 (.pick (.t 9) (.t 13) (.k (.v false [.c (.b false)]))), m' 2 14]) .ret)
 .skip)) (q' ([f' 15 1 1, e' 16 2 15, c' 17 45 [16], m' 18 17, ⟨some 19, .fa 1 (.t 1), some (18, true)⟩, ⟨some 20, .fa 1 (.t 19), some (18, true)⟩, ⟨some 21,
 .ld false 1 (.t 20), some (18, true)⟩, ⟨some 22, .call 69 [.t 21], some (18, true)⟩, ⟨some 23, .not (.t 22), some (18, true)⟩, o' 24 (.pick (.t 18) (.t 23)
 (.k (.v false [.c (.b false)]))), m' 2 24]) .ret))
theorem a5q : cmp Try.prog Try.f34 = some a1u := by kernel_rfl
theorem a6D (t : c7) : A0l Try.prog 34 [(true, [.s t.Var, .i .i64 t.Val.N, .s t.Val.S])] [] (.one (false, [.b (j4 t)])) := by
 refine spec_of2 false false none Try.func34 a5q (rvs := [.t 2]) (hΓ := mkCtx_ok (deep := false) (l := [(44, [], u9), (45, [], m7), (69, [], a1K)]) ⟨a1m, o7, a5i, trivial⟩) (h := ?_)
 intro hb hE
 simp only [go_sem] at hb
 simp only [a1u, x']
 (try refine A2V ?_); simp only [go_sem]; (repeat' first | apply CJ.mk | intro hc); all_goals try ((repeat' first | apply And.intro | intro hs) <;> (try simp only [go_sem, Bool.and_eq_false_iff] at hs) <;> omega)
 all_goals (first | (rw [j4, hc]; rfl) | (have hc2 : (!(t.Var == [])) = true := hc; rw [j4, hc2]; rfl) | (have hc2 : (!(t.Var == [])) = false := hc; rw [j4, hc2]; rfl) | trace_state)
noncomputable def a0c : CT := j8 (fun (x : c7) => a6D x)
@[go_sem] theorem a9Z (x0 : List UInt8) (x1 : Int) (x2 : List UInt8) : a0c [(true, [.s x0, .i .i64 x1, .s x2])] = some (True, [], .one (false, [.b (j4 (c7.mk x0 (c6.mk x1 x2)))])) := f5 _ (by rintro ⟨_, ⟨_, _⟩⟩ ⟨_, ⟨_, _⟩⟩ h; simp at h; simp_all) (c7.mk x0 (c6.mk x1 x2))
theorem a3y : OkC Try.prog 34 a0c := f8 _
def a0y : ACode := q' ([b' 2 false]) (.seq (q' ([m' 5 0, n' 6 5, z' 7 0]) (.block 0 (.loop (q' ([r' 8 7 6]) (.seq (.cond (.t 8) .skip (.exit 0)) (.seq (.block 1 (q' ([i' 9 3 5 7,
 e' 10 3 9, w' 4 [.s, .i .i64, .s], s' 3 4 10]) (q' ([e' 11 3 4, c' 12 74 [11], o' 13 (.not (.t 12))]) (.cond (.t 13) (q' ([b' 2 false]) .ret) .skip)))) (g'
 [a' 14 7, m' 7 14]))))))) (q' ([b' 2 true]) .ret))
theorem a3S : cmp Try.prog Try.f39 = some a0y := by kernel_rfl
theorem a4Y (args : List c7) : A0l Try.prog 39 [(false, [.sl false [.s [], .i .i64 0, .s []] (args.map c7.cells)])] [] (.one (false, [.b (args.all j4)])) := by
 refine spec_of2 false false none Try.func39 a3S (rvs := [.t 2]) (hΓ := mkCtx_ok (deep := false) (l := [(74, [], t3)]) ⟨a2f, trivial⟩) (h := ?_)
 intro hb hE
 simp only [go_sem] at hb
 simp only [a0y, x']
 (try refine A2V ?_); simp only [go_sem]; (repeat' first | apply CJ.mk | intro hc); all_goals try ((repeat' first | apply And.intro | intro hs) <;> (try simp only [go_sem, Bool.and_eq_false_iff] at hs) <;> omega)
 refine aw_loop2 false [] [5, 6] [] [] (fun i : {i : Nat // i ≤ args.length ∧ (args.take i).all j4 = true} => [(7, slV (.i .i64 i.1))]) (fun i => []) (fun i => []) (fun i => args.length - i.1) (⟨0, by simp⟩) _ rfl ?_ ?_
 ·simp only [go_sem]
  all_goals first | omega | ((repeat' apply And.intro) <;> first | omega | rfl | skip)
 intro S0 hS0 i
 simp only [go_sem] at hS0
 obtain ⟨i, hi, ha⟩ := i
 (try refine A2V ?_); simp only [go_sem, hS0]; (repeat' first | apply CJ.mk | intro hc); all_goals try ((repeat' first | apply And.intro | intro hs) <;> (try simp only [go_sem, Bool.and_eq_false_iff] at hs) <;> omega)
 ·rw [all_false (by omega) hc]
 ·(refine lpK_n2 (⟨i + 1, by omega, by rw [A6L (d := default) (by omega), ha, hc]; rfl⟩) _ rfl ?_; simp only [go_sem, hS0]; first | done | ((repeat' apply And.intro) <;> first | omega | (refine w64 ?_ ?_ ?_ <;> omega) | rfl | skip))
 ·rw [all_of_take (by omega) ha]
 all_goals trace_state
noncomputable def u5 : CT := j8 (fun (x : (List c7)) => a4Y x)
@[go_sem] theorem a8O (x0 : List c7) : u5 [(false, [.sl false [.s [], .i .i64 0, .s []] (x0.map c7.cells)])] = some (True, [], .one (false, [.b (x0.all j4)])) := f5 _ (by intro x y h; simp at h; simp_all) x0
theorem a2I : OkC Try.prog 39 u5 := f8 _
def a1r : ACode := q' ([o' 1 (.box 3 (.t 0)), b' 2 false]) (q' ([e' 3 3 1, c' 4 34 [3], o' 5 (.not (.t 4)), m' 2 5]) .ret)
theorem a5n : cmp Try.prog Try.f41 = some a1r := by kernel_rfl
theorem a6A (t : c7) : A0l Try.prog 41 [(true, [.s t.Var, .i .i64 t.Val.N, .s t.Val.S])] [] (.one (false, [.b (!j4 t)])) := by
 refine spec_of2 false false none Try.func41 a5n (rvs := [.t 2]) (hΓ := mkCtx_ok (deep := false) (l := [(34, [], a0c)]) ⟨a3y, trivial⟩) (h := ?_)
 intro hb hE
 simp only [go_sem] at hb
 simp only [a1r, x']
 (try refine A2V ?_); simp only [go_sem]; (repeat' first | apply CJ.mk | intro hc); all_goals try ((repeat' first | apply And.intro | intro hs) <;> (try simp only [go_sem, Bool.and_eq_false_iff] at hs) <;> omega)
 all_goals (first | rfl | trace_state)
noncomputable def z9 : CT := j8 (fun (x : c7) => a6A x)
@[go_sem] theorem a9W (x0 : List UInt8) (x1 : Int) (x2 : List UInt8) : z9 [(true, [.s x0, .i .i64 x1, .s x2])] = some (True, [], .one (false, [.b (!j4 (c7.mk x0 (c6.mk x1 x2)))])) := f5 _ (by rintro ⟨_, ⟨_, _⟩⟩ ⟨_, ⟨_, _⟩⟩ h; simp at h; simp_all) (c7.mk x0 (c6.mk x1 x2))
theorem a3v : OkC Try.prog 41 z9 := f8 _
def a5g : ACode := q' ([z' 4 0]) (.seq (q' ([m' 6 0, n' 7 6, z' 8 0]) (.block 0 (.loop (q' ([r' 9 8 7]) (.seq (.cond (.t 9) .skip (.exit 0)) (.seq (.block 1 (q' ([m' 10 8, m' 5
 10]) (q' ([m' 11 1, m' 12 0, m' 13 5, i' 14 3 12 13, e' 15 3 14, o' 16 (.callv (.t 11) [.t 15])]) (.cond (.t 16) (q' ([m' 17 5, m' 4 17]) .ret) .skip)))) (g'
 [a' 18 8, m' 8 18]))))))) (q' ([o' 4 (.mov (.k (.v false [.c (.i .i64 (-1))])))]) .ret))
theorem a8T : cmp Try.prog Try.f68 = some a5g := by kernel_rfl
theorem b0s (l : List c7) : A0l Try.prog 68 [(false, [.sl false [.s [], .i .i64 0, .s []] (l.map c7.cells)]), (false, [.f 41 []])] [] (.one (false, [.i .i64 ((t5 l.length (fun i => !j4 (l.getD i default)) : Nat) - (bif l.all j4 then l.length + 1 else 0 : Nat))])) := by
 refine spec_of2 false false none Try.func68 a8T (rvs := [.t 4]) (hΓ := mkCtx_ok (deep := false) (l := [(41, [], z9)]) ⟨a3v, trivial⟩) (h := ?_)
 intro hb hE
 simp only [go_sem] at hb
 simp only [a5g, x']
 (try refine A2V ?_); simp only [go_sem]; (repeat' first | apply CJ.mk | intro hc); all_goals try ((repeat' first | apply And.intro | intro hs) <;> (try simp only [go_sem, Bool.and_eq_false_iff] at hs) <;> omega)
 refine aw_loop2 false [] [0, 1, 7] [] [] (fun i : {i : Nat // i ≤ l.length ∧ (l.take i).all j4 = true ∧ ∀ j, j < i → (!j4 (l.getD j default)) = false} => [(8, slV (.i .i64 i.1))]) (fun i => []) (fun i => []) (fun i => l.length - i.1) (⟨0, by simp⟩) _ rfl ?_ ?_
 ·simp only [go_sem]
  all_goals first | omega | ((repeat' apply And.intro) <;> first | omega | rfl | skip)
 intro S0 hS0 i
 simp only [go_sem] at hS0
 obtain ⟨i, hi, ha, hf⟩ := i
 (try refine A2V ?_); simp only [go_sem, hS0]; (repeat' first | apply CJ.mk | intro hc); all_goals try ((repeat' first | apply And.intro | intro hs) <;> (try simp only [go_sem, Bool.and_eq_false_iff] at hs) <;> omega)
 ·have hc2 : j4 (l.getD i default) = false := by simpa using hc
  rw [all_false (by omega) hc2, a1R hf (by rw [hc2]; rfl) (show i < l.length by omega)]; simp
 ·have hc2 : j4 (l.getD i default) = true := by simpa using hc
  (refine lpK_n2 (⟨i + 1, by omega, by rw [A6L (d := default) (by omega), ha, hc2]; rfl, fun j hj => (Nat.lt_succ_iff_lt_or_eq.1 hj).elim (hf j) (fun q => by rw [q, hc2]; rfl)⟩) _ rfl ?_; simp only [go_sem, hS0]; first | done | ((repeat' apply And.intro) <;> first | omega | (refine w64 ?_ ?_ ?_ <;> omega) | rfl | skip))
 ·rw [all_of_take (by omega) ha, a1Q fun j hj => hf j (by omega), cond_true]
  omega
 all_goals trace_state
noncomputable def a3u : CT := j8 (fun (x : (List c7)) => b0s x)
@[go_sem] theorem b1I (l : List c7) : a3u [(false, [.sl false [.s [], .i .i64 0, .s []] (l.map c7.cells)]), (false, [.f 41 []])] = some (True, [], .one (false, [.i .i64 ((t5 l.length (fun i => !j4 (l.getD i default)) : Nat) - (bif l.all j4 then l.length + 1 else 0 : Nat))])) := f5 _ (by intro x y h; simp at h; simp_all) l
theorem a7k : OkC Try.prog 68 a3u := f8 _
def a5e : ACode := q' ([b' 4 false]) (q' ([m' 5 0, m' 6 1, c' 7 68 [5, 6], o' 8 (.bin .geq (.t 7) (k' 0)), m' 4 8]) .ret)
theorem a8R : cmp Try.prog Try.f32 = some a5e := by kernel_rfl
theorem b0r (l : List c7) : A0l Try.prog 32 [(false, [.sl false [.s [], .i .i64 0, .s []] (l.map c7.cells)]), (false, [.f 41 []])] [] (.one (false, [.b (!l.all j4)])) := by
 refine spec_of2 false false none Try.func32 a8R (rvs := [.t 4]) (hΓ := mkCtx_ok (deep := false) (l := [(68, [], a3u)]) ⟨a7k, trivial⟩) (h := ?_)
 intro hb hE
 simp only [go_sem] at hb
 simp only [a5e, x']
 (try refine A2V ?_); simp only [go_sem]; (repeat' first | apply CJ.mk | intro hc); all_goals try ((repeat' first | apply And.intro | intro hs) <;> (try simp only [go_sem, Bool.and_eq_false_iff] at hs) <;> omega)
 ·have := b0n l.length (fun i => !j4 (l.getD i default))
  cases l.all j4 with
  | true => simp only [cond_true, Bool.not_true]; exact decide_eq_false (by omega)
  | false => simp only [cond_false, Bool.not_false]; exact decide_eq_true (by omega)
 all_goals trace_state
noncomputable def a3t : CT := j8 (fun (x : (List c7)) => b0r x)
@[go_sem] theorem b1H (l : List c7) : a3t [(false, [.sl false [.s [], .i .i64 0, .s []] (l.map c7.cells)]), (false, [.f 41 []])] = some (True, [], .one (false, [.b (!l.all j4)])) := f5 _ (by intro x y h; simp at h; simp_all) l
theorem a7j : OkC Try.prog 32 a3t := f8 _
def o5 (e : c8) (t : c7) : c6 × Bool := bif t.Var == [] then (t.Val, true) else l9 e t.Var
def a0Y : ACode := q' ([o' 2 (.box 1 (.t 0)), o' 3 (.box 3 (.t 1)), w' 4 [.i .i64, .s], b' 5 false]) (.seq (q' ([f' 6 0 3, l' 7 6, o' 8 (.bin .eql (.t 7) (.k (.v false [.c (.s
 [])])))]) (.cond (.t 8) (q' ([f' 9 1 3, e' 10 2 9, s' 2 4 10, b' 5 true]) .ret) .skip)) (q' ([e' 11 1 2, f' 12 0 3, l' 13 12, c' 14 93 [11, 13], o' 15 (.ext
 (.t 14) 0), o' 16 (.ext (.t 14) 1), s' 2 4 15, m' 5 16]) .ret))
theorem a4C : cmp Try.prog Try.f70 = some a0Y := by kernel_rfl
theorem a5J (e : c8) (t : c7) : A0l Try.prog 70 [(true, [.sl false [.s [], .i .i64 0, .s []] (e.Binds.map c4.cells)]), (true, [.s t.Var, .i .i64 t.Val.N, .s t.Val.S])] [] (.tup [(true, [.i .i64 (((o5 e t).1).N), .s (((o5 e t).1).S)]), (false, [.b ((o5 e t).2)])]) := by
 refine spec_of2 false false none Try.func70 a4C (rvs := [.c 4 true 2, .t 5]) (hΓ := mkCtx_ok (deep := false) (l := [(93, [], a0H)]) ⟨a4p, trivial⟩) (h := ?_)
 intro hb hE
 simp only [go_sem] at hb
 simp only [a0Y, x']
 (try refine A2V ?_); simp only [go_sem]; (repeat' first | apply CJ.mk | intro hc); all_goals try ((repeat' first | apply And.intro | intro hs) <;> (try simp only [go_sem, Bool.and_eq_false_iff] at hs) <;> omega)
 all_goals (first | (rw [o5, hc]; exact ⟨⟨rfl, rfl⟩, rfl⟩) | trace_state)
noncomputable def w6 : CT := j8 (fun (x : c8 × c7) => a5J x.1 x.2)
@[go_sem] theorem a9f (x0 : List c4) (x1 : List UInt8) (x2 : Int) (x3 : List UInt8) : w6 [(true, [.sl false [.s [], .i .i64 0, .s []] (x0.map c4.cells)]), (true, [.s x1, .i .i64 x2, .s x3])] = some (True, [], .tup [(true, [.i .i64 (((o5 (c8.mk x0) (c7.mk x1 (c6.mk x2 x3))).1).N), .s (((o5 (c8.mk x0) (c7.mk x1 (c6.mk x2 x3))).1).S)]), (false, [.b ((o5 (c8.mk x0) (c7.mk x1 (c6.mk x2 x3))).2)])]) := f5 _ (by rintro ⟨⟨_⟩, ⟨_, ⟨_, _⟩⟩⟩ ⟨⟨_⟩, ⟨_, ⟨_, _⟩⟩⟩ h; simp at h; simp_all) ((c8.mk x0), (c7.mk x1 (c6.mk x2 x3)))
theorem a2X : OkC Try.prog 70 w6 := f8 _
end Go.Aw
