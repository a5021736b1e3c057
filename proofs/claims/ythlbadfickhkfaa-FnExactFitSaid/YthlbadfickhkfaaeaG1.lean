/- Letters, digits, words, values: what the functions compute. No condition. -/
import Derived.Test.YthlbadfickhkfaaProg
import Derived.Test.YthlbadfickhkfaaiBwtea
import Derived.Test.YthlbadfickhkfaaiBx9ea
import Derived.Lib.Bytealg
namespace Go.Aw
open Go.Proofs
attribute [local irreducible] aft blk lpK retK AW A0l
set_option linter.unusedVariables false
set_option linter.unusedSimpArgs false
set_option maxRecDepth 100000
def k8 (n : Int) : Bool := decide (97 ≤ n) && decide (n ≤ 122)
def u1 (n : Int) : Bool := decide (48 ≤ n) && decide (n ≤ 57)
def a0C (n : Int) : Bool := decide (0 ≤ n) && decide (n ≤ 281474976710655)
def a2A (x : UInt8) : Bool := k8 x.toNat || u1 x.toNat
def v5 (s : List UInt8) : Bool := s.all a2A && (decide (1 ≤ s.length) && decide (s.length ≤ 12) && k8 (s.getD 0 0).toNat)
def j7 (v : c6) : Bool := bif v.S == [] then a0C v.N else v.N == 0 && v5 v.S
def a0t : ACode := q' ([b' 2 false]) (q' ([m' 3 0, o' 4 (.bin .geq (.t 3) (.k (.v false [.c (.i .u8 97)]))), m' 5 4, ⟨some 6, .mov (.t 0), some (5, true)⟩, ⟨some 7, .bin .leq (.t
 6) (.k (.v false [.c (.i .u8 122)])), some (5, true)⟩, o' 8 (.pick (.t 5) (.t 7) (.k (.v false [.c (.b false)]))), m' 2 8]) .ret)
theorem a3O : cmp Try.prog Try.f76 = some a0t := by kernel_rfl
theorem a4W (c : Int) : A0l Try.prog 76 [(false, [.i .u8 c])] [] (.one (false, [.b (k8 c)])) := by
 refine spec_of2 false false none Try.func76 a3O (rvs := [.t 2]) (hΓ := mkCtx_ok (deep := false) (l := []) trivial) (h := ?_)
 intro hb hE
 simp only [go_sem] at hb
 simp only [a0t, x']
 (try refine A2V ?_); simp only [go_sem]; (repeat' first | apply CJ.mk | intro hc); all_goals try ((repeat' first | apply And.intro | intro hs) <;> (try simp only [go_sem, Bool.and_eq_false_iff] at hs) <;> omega)
 rfl
noncomputable def o5 : CT := j9 (fun (x : Int) => a4W x)
@[go_sem] theorem a8Q (c : Int) : o5 [(false, [.i .u8 c])] = some (True, [], .one (false, [.b (k8 c)])) := f5 _ (by intro x y h; simp at h; simp_all) c
theorem w7 : OkC Try.prog 76 o5 := f8 _
def a1a : ACode := q' ([b' 2 false]) (q' ([m' 3 0, o' 4 (.bin .geq (.t 3) (.k (.v false [.c (.i .u8 48)]))), m' 5 4, ⟨some 6, .mov (.t 0), some (5, true)⟩, ⟨some 7, .bin .leq (.t
 6) (.k (.v false [.c (.i .u8 57)])), some (5, true)⟩, o' 8 (.pick (.t 5) (.t 7) (.k (.v false [.c (.b false)]))), m' 2 8]) .ret)
theorem a4G : cmp Try.prog Try.f78 = some a1a := by kernel_rfl
theorem a5O (c : Int) : A0l Try.prog 78 [(false, [.i .u8 c])] [] (.one (false, [.b (u1 c)])) := by
 refine spec_of2 false false none Try.func78 a4G (rvs := [.t 2]) (hΓ := mkCtx_ok (deep := false) (l := []) trivial) (h := ?_)
 intro hb hE
 simp only [go_sem] at hb
 simp only [a1a, x']
 (try refine A2V ?_); simp only [go_sem]; (repeat' first | apply CJ.mk | intro hc); all_goals try ((repeat' first | apply And.intro | intro hs) <;> (try simp only [go_sem, Bool.and_eq_false_iff] at hs) <;> omega)
 rfl
noncomputable def o9 : CT := j9 (fun (x : Int) => a5O x)
@[go_sem] theorem a9m (c : Int) : o9 [(false, [.i .u8 c])] = some (True, [], .one (false, [.b (u1 c)])) := f5 _ (by intro x y h; simp at h; simp_all) c
theorem z8 : OkC Try.prog 78 o9 := f8 _
def a0u : ACode := q' ([b' 2 false]) (q' ([m' 3 0, o' 4 (.bin .geq (.t 3) (k' 0)), m' 5 4, ⟨some 6, .mov (.t 0), some (5, true)⟩, ⟨some 7, .bin .leq (.t 6) (k' 281474976710655),
 some (5, true)⟩, o' 8 (.pick (.t 5) (.t 7) (.k (.v false [.c (.b false)]))), m' 2 8]) .ret)
theorem a3P : cmp Try.prog Try.f79 = some a0u := by kernel_rfl
theorem a4X (n : Int) : A0l Try.prog 79 [(false, [.i .i64 n])] [] (.one (false, [.b (a0C n)])) := by
 refine spec_of2 false false none Try.func79 a3P (rvs := [.t 2]) (hΓ := mkCtx_ok (deep := false) (l := []) trivial) (h := ?_)
 intro hb hE
 simp only [go_sem] at hb
 simp only [a0u, x']
 (try refine A2V ?_); simp only [go_sem]; (repeat' first | apply CJ.mk | intro hc); all_goals try ((repeat' first | apply And.intro | intro hs) <;> (try simp only [go_sem, Bool.and_eq_false_iff] at hs) <;> omega)
 rfl
noncomputable def u3 : CT := j9 (fun (x : Int) => a4X x)
@[go_sem] theorem a8R (n : Int) : u3 [(false, [.i .i64 n])] = some (True, [], .one (false, [.b (a0C n)])) := f5 _ (by intro x y h; simp at h; simp_all) n
theorem a2F : OkC Try.prog 79 u3 := f8 _
def a1v : ACode := q' ([b' 2 false]) (.seq (q' ([m' 4 0, o' 5 (.lens (.t 4)), z' 6 0]) (.block 0 (.loop (q' ([r' 7 6 5]) (.seq (.cond (.t 7) .skip (.exit 0)) (.seq (.block 1 (q'
 ([m' 8 6, m' 3 8]) (q' ([m' 9 0, m' 10 3, o' 11 (.ixs (.t 9) (.t 10)), c' 12 76 [11], o' 13 (.not (.t 12)), m' 14 13, ⟨some 15, .mov (.t 0), some (14, true)⟩,
 ⟨some 16, .mov (.t 3), some (14, true)⟩, ⟨some 17, .ixs (.t 15) (.t 16), some (14, true)⟩, ⟨some 18, .call 78 [.t 17], some (14, true)⟩, ⟨some 19, .not (.t
 18), some (14, true)⟩, o' 20 (.pick (.t 14) (.t 19) (.k (.v false [.c (.b false)])))]) (.cond (.t 20) (q' ([b' 2 false]) .ret) .skip)))) (g' [a' 21 6, m' 6
 21]))))))) (q' ([m' 22 0, o' 23 (.lens (.t 22)), o' 24 (.bin .geq (.t 23) (k' 1)), m' 25 24, ⟨some 26, .mov (.t 0), some (25, true)⟩, ⟨some 27, .lens (.t 26),
 some (25, true)⟩, ⟨some 28, .bin .leq (.t 27) (k' 12), some (25, true)⟩, o' 29 (.pick (.t 25) (.t 28) (.k (.v false [.c (.b false)]))), m' 30 29, ⟨some 31,
 .mov (.t 0), some (30, true)⟩, ⟨some 32, .ixs (.t 31) (k' 0), some (30, true)⟩, ⟨some 33, .call 76 [.t 32], some (30, true)⟩, o' 34 (.pick (.t 30) (.t 33) (.k
 (.v false [.c (.b false)]))), m' 2 34]) .ret))
theorem a5v : cmp Try.prog Try.f80 = some a1v := by kernel_rfl
theorem a6H (s : List UInt8) : A0l Try.prog 80 [(false, [.s s])] [] (.one (false, [.b (v5 s)])) := by
 refine spec_of2 false false none Try.func80 a5v (rvs := [.t 2]) (hΓ := mkCtx_ok (deep := false) (l := [(76, [], o5), (78, [], o9)]) ⟨w7, z8, trivial⟩) (h := ?_)
 intro hb hE
 simp only [go_sem] at hb
 simp only [a1v, x']
 (try refine A2V ?_); simp only [go_sem]; (repeat' first | apply CJ.mk | intro hc); all_goals try ((repeat' first | apply And.intro | intro hs) <;> (try simp only [go_sem, Bool.and_eq_false_iff] at hs) <;> omega)
 refine aw_loop2 false [] [0, 5] [] [] (fun i : {i : Nat // i ≤ s.length ∧ (s.take i).all a2A = true} => [(6, slV (.i .i64 i.1))]) (fun i => []) (fun i => []) (fun i => s.length - i.1) (⟨0, by simp⟩) _ rfl ?_ ?_
 ·simp only [go_sem]
  all_goals first | omega | ((repeat' apply And.intro) <;> first | omega | rfl | skip)
 intro S0 hS0 i
 simp only [go_sem] at hS0
 obtain ⟨i, hi, ha⟩ := i
 (try refine A2V ?_); simp only [go_sem, hS0]; (repeat' first | apply CJ.mk | intro hc); all_goals try ((repeat' first | apply And.intro | intro hs) <;> (try simp only [go_sem, Bool.and_eq_false_iff] at hs) <;> omega)
 ·have h : a2A (s.getD i 0) = false := by simp only [a2A, hc, Bool.or_self]
  rw [v5, all_false (by omega) h]; rfl
 ·(refine lpK_n2 (⟨i + 1, by omega, by rw [A6L (d := 0) (by omega), ha]; simpa [a2A, -List.getD_eq_getElem?_getD, ← Bool.not_or] using hc⟩) _ rfl ?_; simp only [go_sem, hS0]; first | done | ((repeat' apply And.intro) <;> first | omega | (refine w64 ?_ ?_ ?_ <;> omega) | rfl | skip))
 ·rw [v5, all_of_take (by omega) ha]
  norm_cast
noncomputable def a0c : CT := j9 (fun (x : (List UInt8)) => a6H x)
@[go_sem] theorem b0h (s : List UInt8) : a0c [(false, [.s s])] = some (True, [], .one (false, [.b (v5 s)])) := f5 _ (by intro x y h; simp at h; simp_all) s
theorem a3y : OkC Try.prog 80 a0c := f8 _
def a0Z : ACode := q' ([o' 1 (.box 2 (.t 0)), b' 2 false]) (.seq (q' ([f' 3 1 1, l' 4 3, o' 5 (.bin .eql (.t 4) (.k (.v false [.c (.s [])])))]) (.cond (.t 5) (q' ([f' 6 0 1, l' 7
 6, c' 8 79 [7], m' 2 8]) .ret) .skip)) (q' ([f' 9 0 1, l' 10 9, o' 11 (.bin .eql (.t 10) (k' 0)), m' 12 11, ⟨some 13, .fa 1 (.t 1), some (12, true)⟩, ⟨some
 14, .ld false 1 (.t 13), some (12, true)⟩, ⟨some 15, .call 80 [.t 14], some (12, true)⟩, o' 16 (.pick (.t 12) (.t 15) (.k (.v false [.c (.b false)]))), m' 2
 16]) .ret))
theorem a4F : cmp Try.prog Try.f45 = some a0Z := by kernel_rfl
theorem a5N (v : c6) : A0l Try.prog 45 [(true, [.i .i64 v.N, .s v.S])] [] (.one (false, [.b (j7 v)])) := by
 refine spec_of2 false false none Try.func45 a4F (rvs := [.t 2]) (hΓ := mkCtx_ok (deep := false) (l := [(79, [], u3), (80, [], a0c)]) ⟨a2F, a3y, trivial⟩) (h := ?_)
 intro hb hE
 simp only [go_sem] at hb
 simp only [a0Z, x']
 (try refine A2V ?_); simp only [go_sem]; (repeat' first | apply CJ.mk | intro hc); all_goals try ((repeat' first | apply And.intro | intro hs) <;> (try simp only [go_sem, Bool.and_eq_false_iff] at hs) <;> omega)
 ·simp only [j7, hc, cond_true]
 ·simp only [j7, hc, cond_false]
noncomputable def m8 : CT := j9 (fun (x : c6) => a5N x)
@[go_sem] theorem a9l (x0 : Int) (x1 : List UInt8) : m8 [(true, [.i .i64 x0, .s x1])] = some (True, [], .one (false, [.b (j7 (c6.mk x0 x1))])) := f5 _ (by rintro ⟨_, _⟩ ⟨_, _⟩ h; simp at h; simp_all) (c6.mk x0 x1)
theorem o8 : OkC Try.prog 45 m8 := f8 _
end Go.Aw
