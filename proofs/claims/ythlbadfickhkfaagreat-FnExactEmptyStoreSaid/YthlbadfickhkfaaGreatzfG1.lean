/- Letters, digits, words, values: what the functions compute. No condition. -/
import Derived.Test.YthlbadfickhkfaaGreatProg
import Derived.Test.YthlbadfickhkfaaGreathBwtzf
import Derived.Test.YthlbadfickhkfaaGreathBx9zf
import Derived.Lib.Bytealg
namespace Go.Aw
open Go.Proofs
attribute [local irreducible] aft blk lpK retK AW A0l
set_option linter.unusedVariables false
set_option linter.unusedSimpArgs false
set_option maxRecDepth 100000
def o5 (n : Int) : Bool := decide (97 ≤ n) && decide (n ≤ 122)
def a0R (n : Int) : Bool := decide (48 ≤ n) && decide (n ≤ 57)
def a3C (n : Int) : Bool := decide (0 ≤ n) && decide (n ≤ 281474976710655)
def a6N (x : UInt8) : Bool := o5 x.toNat || a0R x.toNat
def a0t (s : List UInt8) : Bool := s.all a6N && (decide (1 ≤ s.length) && decide (s.length ≤ 12) && o5 (s.getD 0 0).toNat)
def a1p (v : d5) : Bool := bif v.S == [] then a3C v.N else v.N == 0 && a0t v.S
def a2X : ACode := q' ([b' 2 false]) (q' ([m' 3 0, o' 4 (.bin .geq (.t 3) (.k (.v false [.c (.i .u8 97)]))), m' 5 4, ⟨some 6, .mov (.t 0), some (5, true)⟩, ⟨some 7, .bin .leq (.t
 6) (.k (.v false [.c (.i .u8 122)])), some (5, true)⟩, o' 8 (.pick (.t 5) (.t 7) (.k (.v false [.c (.b false)]))), m' 2 8]) .ret)
theorem a9i : cmp Tryz.prog Tryz.f260 = some a2X := by kernel_rfl
theorem b0O (c : Int) : A0l Tryz.prog 260 [(false, [.i .u8 c])] [] (.one (false, [.b (o5 c)])) := by
 refine spec_of2 false false none Tryz.func260 a9i (rvs := [.t 2]) (hΓ := mkCtx_ok (deep := false) (l := []) trivial) (h := ?_)
 intro hb hE
 simp only [go_sem] at hb
 simp only [a2X, x']
 (try refine A2V ?_); simp only [go_sem]; (repeat' first | apply CJ.mk | intro hc); all_goals try ((repeat' first | apply And.intro | intro hs) <;> (try simp only [go_sem, Bool.and_eq_false_iff] at hs) <;> omega)
 rfl
noncomputable def v6 : CT := i6 (fun (x : Int) => b0O x)
@[go_sem] theorem b6y (c : Int) : v6 [(false, [.i .u8 c])] = some (True, [], .one (false, [.b (o5 c)])) := f7 _ (by intro x y h; simp at h; simp_all) c
theorem a1I : OkC Tryz.prog 260 v6 := f8 _
def a4n : ACode := q' ([b' 2 false]) (q' ([m' 3 0, o' 4 (.bin .geq (.t 3) (.k (.v false [.c (.i .u8 48)]))), m' 5 4, ⟨some 6, .mov (.t 0), some (5, true)⟩, ⟨some 7, .bin .leq (.t
 6) (.k (.v false [.c (.i .u8 57)])), some (5, true)⟩, o' 8 (.pick (.t 5) (.t 7) (.k (.v false [.c (.b false)]))), m' 2 8]) .ret)
theorem b0r : cmp Tryz.prog Tryz.f261 = some a4n := by kernel_rfl
theorem b2m (c : Int) : A0l Tryz.prog 261 [(false, [.i .u8 c])] [] (.one (false, [.b (a0R c)])) := by
 refine spec_of2 false false none Tryz.func261 b0r (rvs := [.t 2]) (hΓ := mkCtx_ok (deep := false) (l := []) trivial) (h := ?_)
 intro hb hE
 simp only [go_sem] at hb
 simp only [a4n, x']
 (try refine A2V ?_); simp only [go_sem]; (repeat' first | apply CJ.mk | intro hc); all_goals try ((repeat' first | apply And.intro | intro hs) <;> (try simp only [go_sem, Bool.and_eq_false_iff] at hs) <;> omega)
 rfl
noncomputable def y5 : CT := i6 (fun (x : Int) => b2m x)
@[go_sem] theorem b7n (c : Int) : y5 [(false, [.i .u8 c])] = some (True, [], .one (false, [.b (a0R c)])) := f7 _ (by intro x y h; simp at h; simp_all) c
theorem a2u : OkC Tryz.prog 261 y5 := f8 _
def a2Y : ACode := q' ([b' 2 false]) (q' ([m' 3 0, o' 4 (.bin .geq (.t 3) (k' 0)), m' 5 4, ⟨some 6, .mov (.t 0), some (5, true)⟩, ⟨some 7, .bin .leq (.t 6) (k' 281474976710655),
 some (5, true)⟩, o' 8 (.pick (.t 5) (.t 7) (.k (.v false [.c (.b false)]))), m' 2 8]) .ret)
theorem a9j : cmp Tryz.prog Tryz.f312 = some a2Y := by kernel_rfl
theorem b0P (n : Int) : A0l Tryz.prog 312 [(false, [.i .i64 n])] [] (.one (false, [.b (a3C n)])) := by
 refine spec_of2 false false none Tryz.func312 a9j (rvs := [.t 2]) (hΓ := mkCtx_ok (deep := false) (l := []) trivial) (h := ?_)
 intro hb hE
 simp only [go_sem] at hb
 simp only [a2Y, x']
 (try refine A2V ?_); simp only [go_sem]; (repeat' first | apply CJ.mk | intro hc); all_goals try ((repeat' first | apply And.intro | intro hs) <;> (try simp only [go_sem, Bool.and_eq_false_iff] at hs) <;> omega)
 rfl
noncomputable def a0U : CT := i6 (fun (x : Int) => b0P x)
@[go_sem] theorem b6z (n : Int) : a0U [(false, [.i .i64 n])] = some (True, [], .one (false, [.b (a3C n)])) := f7 _ (by intro x y h; simp at h; simp_all) n
theorem a6R : OkC Tryz.prog 312 a0U := f8 _
def a4W : ACode := q' ([b' 2 false]) (.seq (q' ([m' 4 0, o' 5 (.lens (.t 4)), z' 6 0]) (.block 0 (.loop (q' ([r' 7 6 5]) (.seq (.cond (.t 7) .skip (.exit 0)) (.seq (.block 1 (q'
 ([m' 8 6, m' 3 8]) (q' ([m' 9 0, m' 10 3, o' 11 (.ixs (.t 9) (.t 10)), c' 12 260 [11], o' 13 (.not (.t 12)), m' 14 13, ⟨some 15, .mov (.t 0), some (14,
 true)⟩, ⟨some 16, .mov (.t 3), some (14, true)⟩, ⟨some 17, .ixs (.t 15) (.t 16), some (14, true)⟩, ⟨some 18, .call 261 [.t 17], some (14, true)⟩, ⟨some 19,
 .not (.t 18), some (14, true)⟩, o' 20 (.pick (.t 14) (.t 19) (.k (.v false [.c (.b false)])))]) (.cond (.t 20) (q' ([b' 2 false]) .ret) .skip)))) (g' [a' 21
 6, m' 6 21]))))))) (q' ([m' 22 0, o' 23 (.lens (.t 22)), o' 24 (.bin .geq (.t 23) (k' 1)), m' 25 24, ⟨some 26, .mov (.t 0), some (25, true)⟩, ⟨some 27, .lens
 (.t 26), some (25, true)⟩, ⟨some 28, .bin .leq (.t 27) (k' 12), some (25, true)⟩, o' 29 (.pick (.t 25) (.t 28) (.k (.v false [.c (.b false)]))), m' 30 29,
 ⟨some 31, .mov (.t 0), some (30, true)⟩, ⟨some 32, .ixs (.t 31) (k' 0), some (30, true)⟩, ⟨some 33, .call 260 [.t 32], some (30, true)⟩, o' 34 (.pick (.t 30)
 (.t 33) (.k (.v false [.c (.b false)]))), m' 2 34]) .ret))
theorem b1C : cmp Tryz.prog Tryz.f176 = some a4W := by kernel_rfl
theorem b3d (s : List UInt8) : A0l Tryz.prog 176 [(false, [.s s])] [] (.one (false, [.b (a0t s)])) := by
 refine spec_of2 false false none Tryz.func176 b1C (rvs := [.t 2]) (hΓ := mkCtx_ok (deep := false) (l := [(260, [], v6), (261, [], y5)]) ⟨a1I, a2u, trivial⟩) (h := ?_)
 intro hb hE
 simp only [go_sem] at hb
 simp only [a4W, x']
 (try refine A2V ?_); simp only [go_sem]; (repeat' first | apply CJ.mk | intro hc); all_goals try ((repeat' first | apply And.intro | intro hs) <;> (try simp only [go_sem, Bool.and_eq_false_iff] at hs) <;> omega)
 refine aw_loop2 false [] [0, 5] [] [] (fun i : {i : Nat // i ≤ s.length ∧ (s.take i).all a6N = true} => [(6, slV (.i .i64 i.1))]) (fun i => []) (fun i => []) (fun i => s.length - i.1) (⟨0, by simp⟩) _ rfl ?_ ?_
 ·simp only [go_sem]
  all_goals first | omega | ((repeat' apply And.intro) <;> first | omega | rfl | skip)
 intro S0 hS0 i
 simp only [go_sem] at hS0
 obtain ⟨i, hi, ha⟩ := i
 (try refine A2V ?_); simp only [go_sem, hS0]; (repeat' first | apply CJ.mk | intro hc); all_goals try ((repeat' first | apply And.intro | intro hs) <;> (try simp only [go_sem, Bool.and_eq_false_iff] at hs) <;> omega)
 ·have h : a6N (s.getD i 0) = false := by simp only [a6N, hc, Bool.or_self]
  rw [a0t, all_false (by omega) h]; rfl
 ·(refine lpK_n2 (⟨i + 1, by omega, by rw [A6L (d := 0) (by omega), ha]; simpa [a6N, -List.getD_eq_getElem?_getD, ← Bool.not_or] using hc⟩) _ rfl ?_; simp only [go_sem, hS0]; first | done | ((repeat' apply And.intro) <;> first | omega | (refine w64 ?_ ?_ ?_ <;> omega) | rfl | skip))
 ·rw [a0t, all_of_take (by omega) ha]
  norm_cast
noncomputable def a0v : CT := i6 (fun (x : (List UInt8)) => b3d x)
@[go_sem] theorem b8s (s : List UInt8) : a0v [(false, [.s s])] = some (True, [], .one (false, [.b (a0t s)])) := f7 _ (by intro x y h; simp at h; simp_all) s
theorem a3o : OkC Tryz.prog 176 a0v := f8 _
def a4k : ACode := q' ([o' 1 (.box 2 (.t 0)), b' 2 false]) (.seq (q' ([f' 3 1 1, l' 4 3, o' 5 (.bin .eql (.t 4) (.k (.v false [.c (.s [])])))]) (.cond (.t 5) (q' ([f' 6 0 1, l' 7
 6, c' 8 312 [7], m' 2 8]) .ret) .skip)) (q' ([f' 9 0 1, l' 10 9, o' 11 (.bin .eql (.t 10) (k' 0)), m' 12 11, ⟨some 13, .fa 1 (.t 1), some (12, true)⟩, ⟨some
 14, .ld false 1 (.t 13), some (12, true)⟩, ⟨some 15, .call 176 [.t 14], some (12, true)⟩, o' 16 (.pick (.t 12) (.t 15) (.k (.v false [.c (.b false)]))), m' 2
 16]) .ret))
theorem b0o : cmp Tryz.prog Tryz.f245 = some a4k := by kernel_rfl
theorem b2j (v : d5) : A0l Tryz.prog 245 [(true, [.i .i64 v.N, .s v.S])] [] (.one (false, [.b (a1p v)])) := by
 refine spec_of2 false false none Tryz.func245 b0o (rvs := [.t 2]) (hΓ := mkCtx_ok (deep := false) (l := [(312, [], a0U), (176, [], a0v)]) ⟨a6R, a3o, trivial⟩) (h := ?_)
 intro hb hE
 simp only [go_sem] at hb
 simp only [a4k, x']
 (try refine A2V ?_); simp only [go_sem]; (repeat' first | apply CJ.mk | intro hc); all_goals try ((repeat' first | apply And.intro | intro hs) <;> (try simp only [go_sem, Bool.and_eq_false_iff] at hs) <;> omega)
 ·simp only [a1p, hc, cond_true]
 ·simp only [a1p, hc, cond_false]
noncomputable def a1G : CT := i6 (fun (x : d5) => b2j x)
@[go_sem] theorem b7k (x0 : Int) (x1 : List UInt8) : a1G [(true, [.i .i64 x0, .s x1])] = some (True, [], .one (false, [.b (a1p (d5.mk x0 x1))])) := f7 _ (by rintro ⟨_, _⟩ ⟨_, _⟩ h; simp at h; simp_all) (d5.mk x0 x1)
theorem a7L : OkC Tryz.prog 245 a1G := f8 _
end Go.Aw
