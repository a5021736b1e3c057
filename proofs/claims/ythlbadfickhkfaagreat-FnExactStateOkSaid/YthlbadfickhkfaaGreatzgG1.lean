/- Letters, digits, words, values: what the functions compute. No condition. -/
import Derived.Test.YthlbadfickhkfaaGreatProg
import Derived.Test.YthlbadfickhkfaaGreathBwtzg
import Derived.Test.YthlbadfickhkfaaGreathBx9zg
import Derived.Lib.Bytealg
namespace Go.Aw
open Go.Proofs
attribute [local irreducible] aft blk lpK retK AW A0l
set_option linter.unusedVariables false
set_option linter.unusedSimpArgs false
set_option maxRecDepth 100000
def u1 (n : Int) : Bool := decide (97 ≤ n) && decide (n ≤ 122)
def a1E (n : Int) : Bool := decide (48 ≤ n) && decide (n ≤ 57)
def a1f (n : Int) : Bool := decide (0 ≤ n) && decide (n ≤ 281474976710655)
def a9G (x : UInt8) : Bool := u1 x.toNat || a1E x.toNat
def a0N (s : List UInt8) : Bool := s.all a9G && (decide (1 ≤ s.length) && decide (s.length ≤ 12) && u1 (s.getD 0 0).toNat)
def j4 (v : c9) : Bool := bif v.S == [] then a1f v.N else v.N == 0 && a0N v.S
def a4G : ACode := q' ([b' 2 false]) (q' ([m' 3 0, o' 4 (.bin .geq (.t 3) (.k (.v false [.c (.i .u8 97)]))), m' 5 4, ⟨some 6, .mov (.t 0), some (5, true)⟩, ⟨some 7, .bin .leq (.t
 6) (.k (.v false [.c (.i .u8 122)])), some (5, true)⟩, o' 8 (.pick (.t 5) (.t 7) (.k (.v false [.c (.b false)]))), m' 2 8]) .ret)
theorem b2R : cmp Tryz.prog Tryz.f260 = some a4G := by kernel_rfl
theorem b5c (c : Int) : A0l Tryz.prog 260 [(false, [.i .u8 c])] [] (.one (false, [.b (u1 c)])) := by
 refine spec_of2 false false none Tryz.func260 b2R (rvs := [.t 2]) (hΓ := mkCtx_ok (deep := false) (l := []) trivial) (h := ?_)
 intro hb hE
 simp only [go_sem] at hb
 simp only [a4G, x']
 (try refine A2V ?_); simp only [go_sem]; (repeat' first | apply CJ.mk | intro hc); all_goals try ((repeat' first | apply And.intro | intro hs) <;> (try simp only [go_sem, Bool.and_eq_false_iff] at hs) <;> omega)
 rfl
noncomputable def a0f : CT := i5 (fun (x : Int) => b5c x)
@[go_sem] theorem c3v (c : Int) : a0f [(false, [.i .u8 c])] = some (True, [], .one (false, [.b (u1 c)])) := f7 _ (by intro x y h; simp at h; simp_all) c
theorem a2V : OkC Tryz.prog 260 a0f := f8 _
def a6w : ACode := q' ([b' 2 false]) (q' ([m' 3 0, o' 4 (.bin .geq (.t 3) (.k (.v false [.c (.i .u8 48)]))), m' 5 4, ⟨some 6, .mov (.t 0), some (5, true)⟩, ⟨some 7, .bin .leq (.t
 6) (.k (.v false [.c (.i .u8 57)])), some (5, true)⟩, o' 8 (.pick (.t 5) (.t 7) (.k (.v false [.c (.b false)]))), m' 2 8]) .ret)
theorem b4v : cmp Tryz.prog Tryz.f261 = some a6w := by kernel_rfl
theorem b7c (c : Int) : A0l Tryz.prog 261 [(false, [.i .u8 c])] [] (.one (false, [.b (a1E c)])) := by
 refine spec_of2 false false none Tryz.func261 b4v (rvs := [.t 2]) (hΓ := mkCtx_ok (deep := false) (l := []) trivial) (h := ?_)
 intro hb hE
 simp only [go_sem] at hb
 simp only [a6w, x']
 (try refine A2V ?_); simp only [go_sem]; (repeat' first | apply CJ.mk | intro hc); all_goals try ((repeat' first | apply And.intro | intro hs) <;> (try simp only [go_sem, Bool.and_eq_false_iff] at hs) <;> omega)
 rfl
noncomputable def a0v : CT := i5 (fun (x : Int) => b7c x)
@[go_sem] theorem c4G (c : Int) : a0v [(false, [.i .u8 c])] = some (True, [], .one (false, [.b (a1E c)])) := f7 _ (by intro x y h; simp at h; simp_all) c
theorem a3S : OkC Tryz.prog 261 a0v := f8 _
def a4H : ACode := q' ([b' 2 false]) (q' ([m' 3 0, o' 4 (.bin .geq (.t 3) (k' 0)), m' 5 4, ⟨some 6, .mov (.t 0), some (5, true)⟩, ⟨some 7, .bin .leq (.t 6) (k' 281474976710655),
 some (5, true)⟩, o' 8 (.pick (.t 5) (.t 7) (.k (.v false [.c (.b false)]))), m' 2 8]) .ret)
theorem b2S : cmp Tryz.prog Tryz.f312 = some a4H := by kernel_rfl
theorem b5d (n : Int) : A0l Tryz.prog 312 [(false, [.i .i64 n])] [] (.one (false, [.b (a1f n)])) := by
 refine spec_of2 false false none Tryz.func312 b2S (rvs := [.t 2]) (hΓ := mkCtx_ok (deep := false) (l := []) trivial) (h := ?_)
 intro hb hE
 simp only [go_sem] at hb
 simp only [a4H, x']
 (try refine A2V ?_); simp only [go_sem]; (repeat' first | apply CJ.mk | intro hc); all_goals try ((repeat' first | apply And.intro | intro hs) <;> (try simp only [go_sem, Bool.and_eq_false_iff] at hs) <;> omega)
 rfl
noncomputable def a1K : CT := i5 (fun (x : Int) => b5d x)
@[go_sem] theorem c3w (n : Int) : a1K [(false, [.i .i64 n])] = some (True, [], .one (false, [.b (a1f n)])) := f7 _ (by intro x y h; simp at h; simp_all) n
theorem a9O : OkC Tryz.prog 312 a1K := f8 _
def a7r : ACode := q' ([b' 2 false]) (.seq (q' ([m' 4 0, o' 5 (.lens (.t 4)), z' 6 0]) (.block 0 (.loop (q' ([r' 7 6 5]) (.seq (.cond (.t 7) .skip (.exit 0)) (.seq (.block 1 (q'
 ([m' 8 6, m' 3 8]) (q' ([m' 9 0, m' 10 3, o' 11 (.ixs (.t 9) (.t 10)), c' 12 260 [11], o' 13 (.not (.t 12)), m' 14 13, ⟨some 15, .mov (.t 0), some (14,
 true)⟩, ⟨some 16, .mov (.t 3), some (14, true)⟩, ⟨some 17, .ixs (.t 15) (.t 16), some (14, true)⟩, ⟨some 18, .call 261 [.t 17], some (14, true)⟩, ⟨some 19,
 .not (.t 18), some (14, true)⟩, o' 20 (.pick (.t 14) (.t 19) (.k (.v false [.c (.b false)])))]) (.cond (.t 20) (q' ([b' 2 false]) .ret) .skip)))) (g' [a' 21
 6, m' 6 21]))))))) (q' ([m' 22 0, o' 23 (.lens (.t 22)), o' 24 (.bin .geq (.t 23) (k' 1)), m' 25 24, ⟨some 26, .mov (.t 0), some (25, true)⟩, ⟨some 27, .lens
 (.t 26), some (25, true)⟩, ⟨some 28, .bin .leq (.t 27) (k' 12), some (25, true)⟩, o' 29 (.pick (.t 25) (.t 28) (.k (.v false [.c (.b false)]))), m' 30 29,
 ⟨some 31, .mov (.t 0), some (30, true)⟩, ⟨some 32, .ixs (.t 31) (k' 0), some (30, true)⟩, ⟨some 33, .call 260 [.t 32], some (30, true)⟩, o' 34 (.pick (.t 30)
 (.t 33) (.k (.v false [.c (.b false)]))), m' 2 34]) .ret))
theorem b6g : cmp Tryz.prog Tryz.f176 = some a7r := by kernel_rfl
theorem b8C (s : List UInt8) : A0l Tryz.prog 176 [(false, [.s s])] [] (.one (false, [.b (a0N s)])) := by
 refine spec_of2 false false none Tryz.func176 b6g (rvs := [.t 2]) (hΓ := mkCtx_ok (deep := false) (l := [(260, [], a0f), (261, [], a0v)]) ⟨a2V, a3S, trivial⟩) (h := ?_)
 intro hb hE
 simp only [go_sem] at hb
 simp only [a7r, x']
 (try refine A2V ?_); simp only [go_sem]; (repeat' first | apply CJ.mk | intro hc); all_goals try ((repeat' first | apply And.intro | intro hs) <;> (try simp only [go_sem, Bool.and_eq_false_iff] at hs) <;> omega)
 refine aw_loop2 false [] [0, 5] [] [] (fun i : {i : Nat // i ≤ s.length ∧ (s.take i).all a9G = true} => [(6, slV (.i .i64 i.1))]) (fun i => []) (fun i => []) (fun i => s.length - i.1) (⟨0, by simp⟩) _ rfl ?_ ?_
 ·simp only [go_sem]
  all_goals first | omega | ((repeat' apply And.intro) <;> first | omega | rfl | skip)
 intro S0 hS0 i
 simp only [go_sem] at hS0
 obtain ⟨i, hi, ha⟩ := i
 (try refine A2V ?_); simp only [go_sem, hS0]; (repeat' first | apply CJ.mk | intro hc); all_goals try ((repeat' first | apply And.intro | intro hs) <;> (try simp only [go_sem, Bool.and_eq_false_iff] at hs) <;> omega)
 ·have h : a9G (s.getD i 0) = false := by simp only [a9G, hc, Bool.or_self]
  rw [a0N, all_false (by omega) h]; rfl
 ·(refine lpK_n2 (⟨i + 1, by omega, by rw [A6L (d := 0) (by omega), ha]; simpa [a9G, -List.getD_eq_getElem?_getD, ← Bool.not_or] using hc⟩) _ rfl ?_; simp only [go_sem, hS0]; first | done | ((repeat' apply And.intro) <;> first | omega | (refine w64 ?_ ?_ ?_ <;> omega) | rfl | skip))
 ·rw [a0N, all_of_take (by omega) ha]
  norm_cast
noncomputable def a0b : CT := i5 (fun (x : (List UInt8)) => b8C x)
@[go_sem] theorem c6d (s : List UInt8) : a0b [(false, [.s s])] = some (True, [], .one (false, [.b (a0N s)])) := f7 _ (by intro x y h; simp at h; simp_all) s
theorem a0U : OkC Tryz.prog 176 a0b := f8 _
def a6s : ACode := q' ([o' 1 (.box 2 (.t 0)), b' 2 false]) (.seq (q' ([f' 3 1 1, l' 4 3, o' 5 (.bin .eql (.t 4) (.k (.v false [.c (.s [])])))]) (.cond (.t 5) (q' ([f' 6 0 1, l' 7
 6, c' 8 312 [7], m' 2 8]) .ret) .skip)) (q' ([f' 9 0 1, l' 10 9, o' 11 (.bin .eql (.t 10) (k' 0)), m' 12 11, ⟨some 13, .fa 1 (.t 1), some (12, true)⟩, ⟨some
 14, .ld false 1 (.t 13), some (12, true)⟩, ⟨some 15, .call 176 [.t 14], some (12, true)⟩, o' 16 (.pick (.t 12) (.t 15) (.k (.v false [.c (.b false)]))), m' 2
 16]) .ret))
theorem b4r : cmp Tryz.prog Tryz.f245 = some a6s := by kernel_rfl
theorem b6Y (v : c9) : A0l Tryz.prog 245 [(true, [.i .i64 v.N, .s v.S])] [] (.one (false, [.b (j4 v)])) := by
 refine spec_of2 false false none Tryz.func245 b4r (rvs := [.t 2]) (hΓ := mkCtx_ok (deep := false) (l := [(312, [], a1K), (176, [], a0b)]) ⟨a9O, a0U, trivial⟩) (h := ?_)
 intro hb hE
 simp only [go_sem] at hb
 simp only [a6s, x']
 (try refine A2V ?_); simp only [go_sem]; (repeat' first | apply CJ.mk | intro hc); all_goals try ((repeat' first | apply And.intro | intro hs) <;> (try simp only [go_sem, Bool.and_eq_false_iff] at hs) <;> omega)
 ·simp only [j4, hc, cond_true]
 ·simp only [j4, hc, cond_false]
noncomputable def a0t : CT := i5 (fun (x : c9) => b6Y x)
@[go_sem] theorem c4C (x0 : Int) (x1 : List UInt8) : a0t [(true, [.i .i64 x0, .s x1])] = some (True, [], .one (false, [.b (j4 (c9.mk x0 x1))])) := f7 _ (by rintro ⟨_, _⟩ ⟨_, _⟩ h; simp at h; simp_all) (c9.mk x0 x1)
theorem a3Q : OkC Tryz.prog 245 a0t := f8 _
end Go.Aw
