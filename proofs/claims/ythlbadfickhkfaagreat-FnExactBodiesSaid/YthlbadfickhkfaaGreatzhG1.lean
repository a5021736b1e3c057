/- Letters, digits, words, values: what the functions compute. No condition. -/
import Derived.Test.YthlbadfickhkfaaGreatProg
import Derived.Test.YthlbadfickhkfaaGreatlBwtzh
import Derived.Test.YthlbadfickhkfaaGreatlBx9zh
import Derived.Lib.Bytealg
namespace Go.Aw
open Go.Proofs
attribute [local irreducible] aft blk lpK retK AW A0m
set_option linter.unusedVariables false
set_option linter.unusedSimpArgs false
set_option maxRecDepth 100000
def u6 (n : Int) : Bool := decide (97 ≤ n) && decide (n ≤ 122)
def a1E (n : Int) : Bool := decide (48 ≤ n) && decide (n ≤ 57)
def a1j (n : Int) : Bool := decide (0 ≤ n) && decide (n ≤ 281474976710655)
def a8Y (x : UInt8) : Bool := u6 x.toNat || a1E x.toNat
def a0R (s : List UInt8) : Bool := s.all a8Y && (decide (1 ≤ s.length) && decide (s.length ≤ 12) && u6 (s.getD 0 0).toNat)
def i5 (v : c6) : Bool := bif v.S == [] then a1j v.N else v.N == 0 && a0R v.S
def a4B : ACode := q' ([b' 2 false]) (q' ([m' 3 0, o' 4 (.bin .geq (.t 3) (.k (.v false [.c (.i .u8 97)]))), m' 5 4, ⟨some 6, .mov (.t 0), some (5, true)⟩, ⟨some 7, .bin .leq (.t
 6) (.k (.v false [.c (.i .u8 122)])), some (5, true)⟩, o' 8 (.pick (.t 5) (.t 7) (.k (.v false [.c (.b false)]))), m' 2 8]) .ret)
theorem b1P : cmp Tryz.prog Tryz.f260 = some a4B := by kernel_rfl
theorem b3Y (c : Int) : A0m Tryz.prog 260 [(false, [.i .u8 c])] [] (.one (false, [.b (u6 c)])) := by
 refine spec_of2 false false none Tryz.func260 b1P (rvs := [.t 2]) (hΓ := mkCtx_ok (deep := false) (l := []) trivial) (h := ?_)
 intro hb hE
 simp only [go_sem] at hb
 simp only [a4B, x']
 (try refine A2Z ?_); simp only [go_sem]; (repeat' first | apply CJ.mk | intro hc); all_goals try ((repeat' first | apply And.intro | intro hs) <;> (try simp only [go_sem, Bool.and_eq_false_iff] at hs) <;> omega)
 rfl
noncomputable def a0s : CT := j7 (fun (x : Int) => b3Y x)
@[go_sem] theorem c2F (c : Int) : a0s [(false, [.i .u8 c])] = some (True, [], .one (false, [.b (u6 c)])) := f7 _ (by intro x y h; simp at h; simp_all) c
theorem a2X : OkC Tryz.prog 260 a0s := f8 _
def a6j : ACode := q' ([b' 2 false]) (q' ([m' 3 0, o' 4 (.bin .geq (.t 3) (.k (.v false [.c (.i .u8 48)]))), m' 5 4, ⟨some 6, .mov (.t 0), some (5, true)⟩, ⟨some 7, .bin .leq (.t
 6) (.k (.v false [.c (.i .u8 57)])), some (5, true)⟩, o' 8 (.pick (.t 5) (.t 7) (.k (.v false [.c (.b false)]))), m' 2 8]) .ret)
theorem b3y : cmp Tryz.prog Tryz.f261 = some a6j := by kernel_rfl
theorem b6r (c : Int) : A0m Tryz.prog 261 [(false, [.i .u8 c])] [] (.one (false, [.b (a1E c)])) := by
 refine spec_of2 false false none Tryz.func261 b3y (rvs := [.t 2]) (hΓ := mkCtx_ok (deep := false) (l := []) trivial) (h := ?_)
 intro hb hE
 simp only [go_sem] at hb
 simp only [a6j, x']
 (try refine A2Z ?_); simp only [go_sem]; (repeat' first | apply CJ.mk | intro hc); all_goals try ((repeat' first | apply And.intro | intro hs) <;> (try simp only [go_sem, Bool.and_eq_false_iff] at hs) <;> omega)
 rfl
noncomputable def a0B : CT := j7 (fun (x : Int) => b6r x)
@[go_sem] theorem c3S (c : Int) : a0B [(false, [.i .u8 c])] = some (True, [], .one (false, [.b (a1E c)])) := f7 _ (by intro x y h; simp at h; simp_all) c
theorem a3L : OkC Tryz.prog 261 a0B := f8 _
def a4C : ACode := q' ([b' 2 false]) (q' ([m' 3 0, o' 4 (.bin .geq (.t 3) (k' 0)), m' 5 4, ⟨some 6, .mov (.t 0), some (5, true)⟩, ⟨some 7, .bin .leq (.t 6) (k' 281474976710655),
 some (5, true)⟩, o' 8 (.pick (.t 5) (.t 7) (.k (.v false [.c (.b false)]))), m' 2 8]) .ret)
theorem b1Q : cmp Tryz.prog Tryz.f312 = some a4C := by kernel_rfl
theorem b3Z (n : Int) : A0m Tryz.prog 312 [(false, [.i .i64 n])] [] (.one (false, [.b (a1j n)])) := by
 refine spec_of2 false false none Tryz.func312 b1Q (rvs := [.t 2]) (hΓ := mkCtx_ok (deep := false) (l := []) trivial) (h := ?_)
 intro hb hE
 simp only [go_sem] at hb
 simp only [a4C, x']
 (try refine A2Z ?_); simp only [go_sem]; (repeat' first | apply CJ.mk | intro hc); all_goals try ((repeat' first | apply And.intro | intro hs) <;> (try simp only [go_sem, Bool.and_eq_false_iff] at hs) <;> omega)
 rfl
noncomputable def a1N : CT := j7 (fun (x : Int) => b3Z x)
@[go_sem] theorem c2G (n : Int) : a1N [(false, [.i .i64 n])] = some (True, [], .one (false, [.b (a1j n)])) := f7 _ (by intro x y h; simp at h; simp_all) n
theorem a9h : OkC Tryz.prog 312 a1N := f8 _
def a6S : ACode := q' ([b' 2 false]) (.seq (q' ([m' 4 0, o' 5 (.lens (.t 4)), z' 6 0]) (.block 0 (.loop (q' ([r' 7 6 5]) (.seq (.cond (.t 7) .skip (.exit 0)) (.seq (.block 1 (q'
 ([m' 8 6, m' 3 8]) (q' ([m' 9 0, m' 10 3, o' 11 (.ixs (.t 9) (.t 10)), c' 12 260 [11], o' 13 (.not (.t 12)), m' 14 13, ⟨some 15, .mov (.t 0), some (14,
 true)⟩, ⟨some 16, .mov (.t 3), some (14, true)⟩, ⟨some 17, .ixs (.t 15) (.t 16), some (14, true)⟩, ⟨some 18, .call 261 [.t 17], some (14, true)⟩, ⟨some 19,
 .not (.t 18), some (14, true)⟩, o' 20 (.pick (.t 14) (.t 19) (.k (.v false [.c (.b false)])))]) (.cond (.t 20) (q' ([b' 2 false]) .ret) .skip)))) (g' [a' 21
 6, m' 6 21]))))))) (q' ([m' 22 0, o' 23 (.lens (.t 22)), o' 24 (.bin .geq (.t 23) (k' 1)), m' 25 24, ⟨some 26, .mov (.t 0), some (25, true)⟩, ⟨some 27, .lens
 (.t 26), some (25, true)⟩, ⟨some 28, .bin .leq (.t 27) (k' 12), some (25, true)⟩, o' 29 (.pick (.t 25) (.t 28) (.k (.v false [.c (.b false)]))), m' 30 29,
 ⟨some 31, .mov (.t 0), some (30, true)⟩, ⟨some 32, .ixs (.t 31) (k' 0), some (30, true)⟩, ⟨some 33, .call 260 [.t 32], some (30, true)⟩, o' 34 (.pick (.t 30)
 (.t 33) (.k (.v false [.c (.b false)]))), m' 2 34]) .ret))
theorem b5p : cmp Tryz.prog Tryz.f176 = some a6S := by kernel_rfl
theorem b7Q (s : List UInt8) : A0m Tryz.prog 176 [(false, [.s s])] [] (.one (false, [.b (a0R s)])) := by
 refine spec_of2 false false none Tryz.func176 b5p (rvs := [.t 2]) (hΓ := mkCtx_ok (deep := false) (l := [(260, [], a0s), (261, [], a0B)]) ⟨a2X, a3L, trivial⟩) (h := ?_)
 intro hb hE
 simp only [go_sem] at hb
 simp only [a6S, x']
 (try refine A2Z ?_); simp only [go_sem]; (repeat' first | apply CJ.mk | intro hc); all_goals try ((repeat' first | apply And.intro | intro hs) <;> (try simp only [go_sem, Bool.and_eq_false_iff] at hs) <;> omega)
 refine aw_loop2 false [] [0, 5] [] [] (fun i : {i : Nat // i ≤ s.length ∧ (s.take i).all a8Y = true} => [(6, slV (.i .i64 i.1))]) (fun i => []) (fun i => []) (fun i => s.length - i.1) (⟨0, by simp⟩) _ rfl ?_ ?_
 ·simp only [go_sem]
  all_goals first | omega | ((repeat' apply And.intro) <;> first | omega | rfl | skip)
 intro S0 hS0 i
 simp only [go_sem] at hS0
 obtain ⟨i, hi, ha⟩ := i
 (try refine A2Z ?_); simp only [go_sem, hS0]; (repeat' first | apply CJ.mk | intro hc); all_goals try ((repeat' first | apply And.intro | intro hs) <;> (try simp only [go_sem, Bool.and_eq_false_iff] at hs) <;> omega)
 ·have h : a8Y (s.getD i 0) = false := by simp only [a8Y, hc, Bool.or_self]
  rw [a0R, all_false (by omega) h]; rfl
 ·(refine lpK_n2 (⟨i + 1, by omega, by rw [A6Q (d := 0) (by omega), ha]; simpa [a8Y, -List.getD_eq_getElem?_getD, ← Bool.not_or] using hc⟩) _ rfl ?_; simp only [go_sem, hS0]; first | done | ((repeat' apply And.intro) <;> first | omega | (refine w64 ?_ ?_ ?_ <;> omega) | rfl | skip))
 ·rw [a0R, all_of_take (by omega) ha]
  norm_cast
noncomputable def a0o : CT := j7 (fun (x : (List UInt8)) => b7Q x)
@[go_sem] theorem c5l (s : List UInt8) : a0o [(false, [.s s])] = some (True, [], .one (false, [.b (a0R s)])) := f7 _ (by intro x y h; simp at h; simp_all) s
theorem a0V : OkC Tryz.prog 176 a0o := f8 _
def a6g : ACode := q' ([o' 1 (.box 2 (.t 0)), b' 2 false]) (.seq (q' ([f' 3 1 1, l' 4 3, o' 5 (.bin .eql (.t 4) (.k (.v false [.c (.s [])])))]) (.cond (.t 5) (q' ([f' 6 0 1, l' 7
 6, c' 8 312 [7], m' 2 8]) .ret) .skip)) (q' ([f' 9 0 1, l' 10 9, o' 11 (.bin .eql (.t 10) (k' 0)), m' 12 11, ⟨some 13, .fa 1 (.t 1), some (12, true)⟩, ⟨some
 14, .ld false 1 (.t 13), some (12, true)⟩, ⟨some 15, .call 176 [.t 14], some (12, true)⟩, o' 16 (.pick (.t 12) (.t 15) (.k (.v false [.c (.b false)]))), m' 2
 16]) .ret))
theorem b3v : cmp Tryz.prog Tryz.f245 = some a6g := by kernel_rfl
theorem b6o (v : c6) : A0m Tryz.prog 245 [(true, [.i .i64 v.N, .s v.S])] [] (.one (false, [.b (i5 v)])) := by
 refine spec_of2 false false none Tryz.func245 b3v (rvs := [.t 2]) (hΓ := mkCtx_ok (deep := false) (l := [(312, [], a1N), (176, [], a0o)]) ⟨a9h, a0V, trivial⟩) (h := ?_)
 intro hb hE
 simp only [go_sem] at hb
 simp only [a6g, x']
 (try refine A2Z ?_); simp only [go_sem]; (repeat' first | apply CJ.mk | intro hc); all_goals try ((repeat' first | apply And.intro | intro hs) <;> (try simp only [go_sem, Bool.and_eq_false_iff] at hs) <;> omega)
 ·simp only [i5, hc, cond_true]
 ·simp only [i5, hc, cond_false]
noncomputable def a0b : CT := j7 (fun (x : c6) => b6o x)
@[go_sem] theorem c3P (x0 : Int) (x1 : List UInt8) : a0b [(true, [.i .i64 x0, .s x1])] = some (True, [], .one (false, [.b (i5 (c6.mk x0 x1))])) := f7 _ (by rintro ⟨_, _⟩ ⟨_, _⟩ h; simp at h; simp_all) (c6.mk x0 x1)
theorem a0z : OkC Tryz.prog 245 a0b := f8 _
end Go.Aw
