/- Letters, digits, words, values: what the functions compute. No condition. -/
import Derived.Test.YthlbadfickhkfaaProg
import Derived.Test.YthlbadfickhkfaakBwteb
import Derived.Test.YthlbadfickhkfaakBx9eb
import Derived.Lib.Bytealg
namespace Go.Aw
open Go.Proofs
attribute [local irreducible] aft blk lpK retK AW A0m
set_option linter.unusedVariables false
set_option linter.unusedSimpArgs false
set_option maxRecDepth 100000
def p7 (n : Int) : Bool := decide (97 ≤ n) && decide (n ≤ 122)
def z3 (n : Int) : Bool := decide (48 ≤ n) && decide (n ≤ 57)
def y3 (n : Int) : Bool := decide (0 ≤ n) && decide (n ≤ 281474976710655)
def a2Z (x : UInt8) : Bool := p7 x.toNat || z3 x.toNat
def a0d (s : List UInt8) : Bool := s.all a2Z && (decide (1 ≤ s.length) && decide (s.length ≤ 12) && p7 (s.getD 0 0).toNat)
def l9 (v : c7) : Bool := bif v.S == [] then y3 v.N else v.N == 0 && a0d v.S
def a0S : ACode := q' ([b' 2 false]) (q' ([m' 3 0, o' 4 (.bin .geq (.t 3) (.k (.v false [.c (.i .u8 97)]))), m' 5 4, ⟨some 6, .mov (.t 0), some (5, true)⟩, ⟨some 7, .bin .leq (.t
 6) (.k (.v false [.c (.i .u8 122)])), some (5, true)⟩, o' 8 (.pick (.t 5) (.t 7) (.k (.v false [.c (.b false)]))), m' 2 8]) .ret)
theorem a4o : cmp Try.prog Try.f76 = some a0S := by kernel_rfl
theorem a5f (c : Int) : A0m Try.prog 76 [(false, [.i .u8 c])] [] (.one (false, [.b (p7 c)])) := by
 refine spec_of2 false false none Try.func76 a4o (rvs := [.t 2]) (hΓ := mkCtx_ok (deep := false) (l := []) trivial) (h := ?_)
 intro hb hE
 simp only [go_sem] at hb
 simp only [a0S, x']
 (try refine A2Z ?_); simp only [go_sem]; (repeat' first | apply CJ.mk | intro hc); all_goals try ((repeat' first | apply And.intro | intro hs) <;> (try simp only [go_sem, Bool.and_eq_false_iff] at hs) <;> omega)
 rfl
noncomputable def u6 : CT := p8 (fun (x : Int) => a5f x)
@[go_sem] theorem a9s (c : Int) : u6 [(false, [.i .u8 c])] = some (True, [], .one (false, [.b (p7 c)])) := i9 _ (by intro x y h; simp at h; simp_all) c
theorem a0n : OkC Try.prog 76 u6 := j3 _
def a1u : ACode := q' ([b' 2 false]) (q' ([m' 3 0, o' 4 (.bin .geq (.t 3) (.k (.v false [.c (.i .u8 48)]))), m' 5 4, ⟨some 6, .mov (.t 0), some (5, true)⟩, ⟨some 7, .bin .leq (.t
 6) (.k (.v false [.c (.i .u8 57)])), some (5, true)⟩, o' 8 (.pick (.t 5) (.t 7) (.k (.v false [.c (.b false)]))), m' 2 8]) .ret)
theorem a4T : cmp Try.prog Try.f78 = some a1u := by kernel_rfl
theorem a6l (c : Int) : A0m Try.prog 78 [(false, [.i .u8 c])] [] (.one (false, [.b (z3 c)])) := by
 refine spec_of2 false false none Try.func78 a4T (rvs := [.t 2]) (hΓ := mkCtx_ok (deep := false) (l := []) trivial) (h := ?_)
 intro hb hE
 simp only [go_sem] at hb
 simp only [a1u, x']
 (try refine A2Z ?_); simp only [go_sem]; (repeat' first | apply CJ.mk | intro hc); all_goals try ((repeat' first | apply And.intro | intro hs) <;> (try simp only [go_sem, Bool.and_eq_false_iff] at hs) <;> omega)
 rfl
noncomputable def w3 : CT := p8 (fun (x : Int) => a6l x)
@[go_sem] theorem a9P (c : Int) : w3 [(false, [.i .u8 c])] = some (True, [], .one (false, [.b (z3 c)])) := i9 _ (by intro x y h; simp at h; simp_all) c
theorem a0A : OkC Try.prog 78 w3 := j3 _
def a0T : ACode := q' ([b' 2 false]) (q' ([m' 3 0, o' 4 (.bin .geq (.t 3) (k' 0)), m' 5 4, ⟨some 6, .mov (.t 0), some (5, true)⟩, ⟨some 7, .bin .leq (.t 6) (k' 281474976710655),
 some (5, true)⟩, o' 8 (.pick (.t 5) (.t 7) (.k (.v false [.c (.b false)]))), m' 2 8]) .ret)
theorem a4p : cmp Try.prog Try.f79 = some a0T := by kernel_rfl
theorem a5g (n : Int) : A0m Try.prog 79 [(false, [.i .i64 n])] [] (.one (false, [.b (y3 n)])) := by
 refine spec_of2 false false none Try.func79 a4p (rvs := [.t 2]) (hΓ := mkCtx_ok (deep := false) (l := []) trivial) (h := ?_)
 intro hb hE
 simp only [go_sem] at hb
 simp only [a0T, x']
 (try refine A2Z ?_); simp only [go_sem]; (repeat' first | apply CJ.mk | intro hc); all_goals try ((repeat' first | apply And.intro | intro hs) <;> (try simp only [go_sem, Bool.and_eq_false_iff] at hs) <;> omega)
 rfl
noncomputable def z6 : CT := p8 (fun (x : Int) => a5g x)
@[go_sem] theorem a9t (n : Int) : z6 [(false, [.i .i64 n])] = some (True, [], .one (false, [.b (y3 n)])) := i9 _ (by intro x y h; simp at h; simp_all) n
theorem a3g : OkC Try.prog 79 z6 := j3 _
def a1O : ACode := q' ([b' 2 false]) (.seq (q' ([m' 4 0, o' 5 (.lens (.t 4)), z' 6 0]) (.block 0 (.loop (q' ([r' 7 6 5]) (.seq (.cond (.t 7) .skip (.exit 0)) (.seq (.block 1 (q'
 ([m' 8 6, m' 3 8]) (q' ([m' 9 0, m' 10 3, o' 11 (.ixs (.t 9) (.t 10)), c' 12 76 [11], o' 13 (.not (.t 12)), m' 14 13, ⟨some 15, .mov (.t 0), some (14, true)⟩,
 ⟨some 16, .mov (.t 3), some (14, true)⟩, ⟨some 17, .ixs (.t 15) (.t 16), some (14, true)⟩, ⟨some 18, .call 78 [.t 17], some (14, true)⟩, ⟨some 19, .not (.t
 18), some (14, true)⟩, o' 20 (.pick (.t 14) (.t 19) (.k (.v false [.c (.b false)])))]) (.cond (.t 20) (q' ([b' 2 false]) .ret) .skip)))) (g' [a' 21 6, m' 6
 21]))))))) (q' ([m' 22 0, o' 23 (.lens (.t 22)), o' 24 (.bin .geq (.t 23) (k' 1)), m' 25 24, ⟨some 26, .mov (.t 0), some (25, true)⟩, ⟨some 27, .lens (.t 26),
 some (25, true)⟩, ⟨some 28, .bin .leq (.t 27) (k' 12), some (25, true)⟩, o' 29 (.pick (.t 25) (.t 28) (.k (.v false [.c (.b false)]))), m' 30 29, ⟨some 31,
 .mov (.t 0), some (30, true)⟩, ⟨some 32, .ixs (.t 31) (k' 0), some (30, true)⟩, ⟨some 33, .call 76 [.t 32], some (30, true)⟩, o' 34 (.pick (.t 30) (.t 33) (.k
 (.v false [.c (.b false)]))), m' 2 34]) .ret))
theorem a5S : cmp Try.prog Try.f80 = some a1O := by kernel_rfl
theorem a6V (s : List UInt8) : A0m Try.prog 80 [(false, [.s s])] [] (.one (false, [.b (a0d s)])) := by
 refine spec_of2 false false none Try.func80 a5S (rvs := [.t 2]) (hΓ := mkCtx_ok (deep := false) (l := [(76, [], u6), (78, [], w3)]) ⟨a0n, a0A, trivial⟩) (h := ?_)
 intro hb hE
 simp only [go_sem] at hb
 simp only [a1O, x']
 (try refine A2Z ?_); simp only [go_sem]; (repeat' first | apply CJ.mk | intro hc); all_goals try ((repeat' first | apply And.intro | intro hs) <;> (try simp only [go_sem, Bool.and_eq_false_iff] at hs) <;> omega)
 refine aw_loop2 false [] [0, 5] [] [] (fun i : {i : Nat // i ≤ s.length ∧ (s.take i).all a2Z = true} => [(6, slV (.i .i64 i.1))]) (fun i => []) (fun i => []) (fun i => s.length - i.1) (⟨0, by simp⟩) _ rfl ?_ ?_
 ·simp only [go_sem]
  all_goals first | omega | ((repeat' apply And.intro) <;> first | omega | rfl | skip)
 intro S0 hS0 i
 simp only [go_sem] at hS0
 obtain ⟨i, hi, ha⟩ := i
 (try refine A2Z ?_); simp only [go_sem, hS0]; (repeat' first | apply CJ.mk | intro hc); all_goals try ((repeat' first | apply And.intro | intro hs) <;> (try simp only [go_sem, Bool.and_eq_false_iff] at hs) <;> omega)
 ·have h : a2Z (s.getD i 0) = false := by simp only [a2Z, hc, Bool.or_self]
  rw [a0d, all_false (by omega) h]; rfl
 ·(refine lpK_n2 (⟨i + 1, by omega, by rw [A6R (d := 0) (by omega), ha]; simpa [a2Z, -List.getD_eq_getElem?_getD, ← Bool.not_or] using hc⟩) _ rfl ?_; simp only [go_sem, hS0]; first | done | ((repeat' apply And.intro) <;> first | omega | (refine w64 ?_ ?_ ?_ <;> omega) | rfl | skip))
 ·rw [a0d, all_of_take (by omega) ha]
  norm_cast
noncomputable def a0J : CT := p8 (fun (x : (List UInt8)) => a6V x)
@[go_sem] theorem b0H (s : List UInt8) : a0J [(false, [.s s])] = some (True, [], .one (false, [.b (a0d s)])) := i9 _ (by intro x y h; simp at h; simp_all) s
theorem a4c : OkC Try.prog 80 a0J := j3 _
def a1t : ACode := q' ([o' 1 (.box 2 (.t 0)), b' 2 false]) (.seq (q' ([f' 3 1 1, l' 4 3, o' 5 (.bin .eql (.t 4) (.k (.v false [.c (.s [])])))]) (.cond (.t 5) (q' ([f' 6 0 1, l' 7
 6, c' 8 79 [7], m' 2 8]) .ret) .skip)) (q' ([f' 9 0 1, l' 10 9, o' 11 (.bin .eql (.t 10) (k' 0)), m' 12 11, ⟨some 13, .fa 1 (.t 1), some (12, true)⟩, ⟨some
 14, .ld false 1 (.t 13), some (12, true)⟩, ⟨some 15, .call 80 [.t 14], some (12, true)⟩, o' 16 (.pick (.t 12) (.t 15) (.k (.v false [.c (.b false)]))), m' 2
 16]) .ret))
theorem a4S : cmp Try.prog Try.f45 = some a1t := by kernel_rfl
theorem a6k (v : c7) : A0m Try.prog 45 [(true, [.i .i64 v.N, .s v.S])] [] (.one (false, [.b (l9 v)])) := by
 refine spec_of2 false false none Try.func45 a4S (rvs := [.t 2]) (hΓ := mkCtx_ok (deep := false) (l := [(79, [], z6), (80, [], a0J)]) ⟨a3g, a4c, trivial⟩) (h := ?_)
 intro hb hE
 simp only [go_sem] at hb
 simp only [a1t, x']
 (try refine A2Z ?_); simp only [go_sem]; (repeat' first | apply CJ.mk | intro hc); all_goals try ((repeat' first | apply And.intro | intro hs) <;> (try simp only [go_sem, Bool.and_eq_false_iff] at hs) <;> omega)
 ·simp only [l9, hc, cond_true]
 ·simp only [l9, hc, cond_false]
noncomputable def t5 : CT := p8 (fun (x : c7) => a6k x)
@[go_sem] theorem a9O (x0 : Int) (x1 : List UInt8) : t5 [(true, [.i .i64 x0, .s x1])] = some (True, [], .one (false, [.b (l9 (c7.mk x0 x1))])) := i9 _ (by rintro ⟨_, _⟩ ⟨_, _⟩ h; simp at h; simp_all) (c7.mk x0 x1)
theorem v9 : OkC Try.prog 45 t5 := j3 _
end Go.Aw
