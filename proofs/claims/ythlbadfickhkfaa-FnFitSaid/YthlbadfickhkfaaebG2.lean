/- Environments: what the functions compute. No condition. -/
import Derived.Test.YthlbadfickhkfaaebG1
import Derived.Test.YthlbadfickhkfaakBwteb
namespace Go.Aw
open Go.Proofs
attribute [local irreducible] aft blk lpK retK AW A0m
set_option linter.unusedVariables false
set_option linter.unusedSimpArgs false
set_option maxRecDepth 100000
def a1T : ACode := q' ([b' 2 false]) (q' ([m' 3 0, o' 4 (.bin .geq (.t 3) (k' 0)), m' 5 4, ⟨some 6, .mov (.t 0), some (5, true)⟩, ⟨some 7, .bin .leq (.t 6) (k' 281474976710655),
 some (5, true)⟩, o' 8 (.pick (.t 5) (.t 7) (.k (.v false [.c (.b false)]))), m' 2 8]) .ret)
theorem a5X : cmp Try.prog Try.f89 = some a1T := by kernel_rfl
theorem a7a (n : Int) : A0m Try.prog 89 [(false, [.i .i64 n])] [] (.one (false, [.b (y3 n)])) := by
 refine spec_of2 false false none Try.func89 a5X (rvs := [.t 2]) (hΓ := mkCtx_ok (deep := false) (l := []) trivial) (h := ?_)
 intro hb hE
 simp only [go_sem] at hb
 simp only [a1T, x']
 (try refine A2Z ?_); simp only [go_sem]; (repeat' first | apply CJ.mk | intro hc); all_goals try ((repeat' first | apply And.intro | intro hs) <;> (try simp only [go_sem, Bool.and_eq_false_iff] at hs) <;> omega)
 rfl
noncomputable def s8 : CT := p8 (fun (x : Int) => a7a x)
@[go_sem] theorem b0M (n : Int) : s8 [(false, [.i .i64 n])] = some (True, [], .one (false, [.b (y3 n)])) := i9 _ (by intro x y h; simp at h; simp_all) n
theorem t8 : OkC Try.prog 89 s8 := j3 _
def a1R : ACode := q' ([b' 2 false]) (.seq (q' ([m' 6 0, o' 7 (.lens (.t 6)), o' 8 (.bin .lss (.t 7) (k' 1)), m' 9 8, ⟨some 10, .mov (.t 0), some (9, false)⟩, ⟨some 11, .lens (.t
 10), some (9, false)⟩, ⟨some 12, .bin .gtr (.t 11) (k' 12), some (9, false)⟩, o' 13 (.pick (.t 9) (.k (.v false [.c (.b true)])) (.t 12))]) (.cond (.t 13) (q'
 ([b' 2 false]) .ret) .skip)) (.seq (q' ([z' 3 0]) (.block 0 (.loop (.seq (q' ([m' 14 3, m' 15 0, o' 16 (.lens (.t 15)), r' 17 14 16]) (.cond (.t 17) .skip
 (.exit 0))) (.seq (.block 1 (q' ([m' 20 0, m' 21 3, o' 22 (.ixs (.t 20) (.t 21)), o' 23 (.bin .geq (.t 22) (.k (.v false [.c (.i .u8 97)]))), m' 24 23, ⟨some
 25, .mov (.t 0), some (24, true)⟩, ⟨some 26, .mov (.t 3), some (24, true)⟩, ⟨some 27, .ixs (.t 25) (.t 26), some (24, true)⟩, ⟨some 28, .bin .leq (.t 27) (.k
 (.v false [.c (.i .u8 122)])), some (24, true)⟩, o' 29 (.pick (.t 24) (.t 28) (.k (.v false [.c (.b false)]))), m' 4 29]) (q' ([m' 30 0, m' 31 3, o' 32 (.ixs
 (.t 30) (.t 31)), o' 33 (.bin .geq (.t 32) (.k (.v false [.c (.i .u8 48)]))), m' 34 33, ⟨some 35, .mov (.t 0), some (34, true)⟩, ⟨some 36, .mov (.t 3), some
 (34, true)⟩, ⟨some 37, .ixs (.t 35) (.t 36), some (34, true)⟩, ⟨some 38, .bin .leq (.t 37) (.k (.v false [.c (.i .u8 57)])), some (34, true)⟩, o' 39 (.pick
 (.t 34) (.t 38) (.k (.v false [.c (.b false)]))), m' 5 39]) (q' ([m' 40 4, o' 41 (.not (.t 40)), m' 42 41, ⟨some 43, .mov (.t 5), some (42, true)⟩, ⟨some 44,
 .not (.t 43), some (42, true)⟩, ⟨some 45, .mov (.t 44), some (42, true)⟩, ⟨some 46, .mov (.t 3), some (45, false)⟩, ⟨some 47, .bin .eql (.t 46) (k' 0), some
 (45, false)⟩, ⟨some 48, .pick (.t 45) (.k (.v false [.c (.b true)])) (.t 47), some (42, true)⟩, o' 49 (.pick (.t 42) (.t 48) (.k (.v false [.c (.b
 false)])))]) (.cond (.t 49) (q' ([b' 2 false]) .ret) .skip))))) (g' [m' 18 3, a' 19 18, m' 3 19])))))) (q' ([b' 2 true]) .ret)))
theorem a5V : cmp Try.prog Try.f98 = some a1R := by kernel_rfl
theorem a6Y (s : List UInt8) : A0m Try.prog 98 [(false, [.s s])] [] (.one (false, [.b (a0d s)])) := by
 refine spec_of2 false false none Try.func98 a5V (rvs := [.t 2]) (hΓ := mkCtx_ok (deep := false) (l := []) trivial) (h := ?_)
 intro hb hE
 simp only [go_sem] at hb
 simp only [a1R, x']
 (try refine A2Z ?_); simp only [go_sem]; (repeat' first | apply CJ.mk | intro hc); all_goals try ((repeat' first | apply And.intro | intro hs) <;> (try simp only [go_sem, Bool.and_eq_false_iff] at hs) <;> omega)
 ·cases h : a0d s with
  | false => rfl
  | true =>
    simp only [a0d, Bool.and_eq_true, decide_eq_true_eq] at h
    omega
 refine aw_loop2 false [] [0] [] [] (fun i : {i : Nat // i ≤ s.length ∧ (s.take i).all a2Z = true ∧ (0 < i → p7 (s.getD 0 0).toNat = true)} => [(3, slV (.i .i64 i.1))]) (fun i => []) (fun i => []) (fun i => s.length - i.1) (⟨0, by simp⟩) _ rfl ?_ ?_
 ·simp only [go_sem]
  all_goals first | omega | ((repeat' apply And.intro) <;> first | omega | rfl | skip)
 intro S0 hS0 i
 simp only [go_sem] at hS0
 obtain ⟨i, hi, ha, hl⟩ := i
 (try refine A2Z ?_); simp only [go_sem, hS0]; (repeat' first | apply CJ.mk | intro hc); all_goals try ((repeat' first | apply And.intro | intro hs) <;> (try simp only [go_sem, Bool.and_eq_false_iff] at hs) <;> omega)
 ·cases h : a0d s with
  | false => rfl
  | true =>
    simp only [a0d, Bool.and_eq_true, decide_eq_true_eq] at h
    have h2 := all_getD (d := 0) h.1 (show i < s.length by omega)
    have hc1 : p7 (s.getD i 0).toNat = false ∧ (z3 (s.getD i 0).toNat = false ∨ ((i : Int) == 0) = true) := hc
    simp only [a2Z, hc1.1, Bool.false_or] at h2
    rcases hc1.2 with h3 | h3
    ·rw [h3] at h2; cases h2
    ·have : i = 0 := by simpa using h3
     subst this
     exact absurd h.2.2 (by rw [hc1.1]; exact Bool.false_ne_true)
 ·have hc1 : (!p7 (s.getD i 0).toNat && (!z3 (s.getD i 0).toNat || ((i : Int) == 0))) = false := hc
  have h1 : a2Z (s.getD i 0) = true := by
   revert hc1
   simp only [a2Z]
   generalize p7 (s.getD i 0).toNat = L
   generalize z3 (s.getD i 0).toNat = D
   cases L <;> cases D <;> simp
  have h2 : p7 (s.getD 0 0).toNat = true := by
   rcases Nat.eq_zero_or_pos i with h0 | h0
   ·subst h0
    revert hc1
    cases p7 (s.getD 0 0).toNat <;> simp
   ·exact hl h0
  (refine lpK_n2 (⟨i + 1, by omega, by rw [A6R (d := 0) (by omega), ha, h1]; rfl, fun _ => h2⟩) _ rfl ?_; simp only [go_sem, hS0]; first | done | ((repeat' apply And.intro) <;> first | omega | (refine w64 ?_ ?_ ?_ <;> omega) | rfl | skip))
 ·have h : s.all a2Z = true := all_of_take (by omega) ha
  have h2 := hl (by omega)
  simp only [a0d, h, h2, Bool.and_true, Bool.true_and]
  simp
  omega
noncomputable def a0L : CT := p8 (fun (x : (List UInt8)) => a6Y x)
@[go_sem] theorem b0K (s : List UInt8) : a0L [(false, [.s s])] = some (True, [], .one (false, [.b (a0d s)])) := i9 _ (by intro x y h; simp at h; simp_all) s
theorem a4f : OkC Try.prog 98 a0L := j3 _
def a1y : ACode := q' ([o' 1 (.box 2 (.t 0)), b' 2 false]) (.seq (q' ([f' 3 1 1, l' 4 3, o' 5 (.bin .eql (.t 4) (.k (.v false [.c (.s [])])))]) (.cond (.t 5) (q' ([f' 6 0 1, l' 7
 6, c' 8 89 [7], m' 2 8]) .ret) .skip)) (q' ([f' 9 0 1, l' 10 9, o' 11 (.bin .eql (.t 10) (k' 0)), m' 12 11, ⟨some 13, .fa 1 (.t 1), some (12, true)⟩, ⟨some
 14, .ld false 1 (.t 13), some (12, true)⟩, ⟨some 15, .call 98 [.t 14], some (12, true)⟩, o' 16 (.pick (.t 12) (.t 15) (.k (.v false [.c (.b false)]))), m' 2
 16]) .ret))
theorem a4X : cmp Try.prog Try.f73 = some a1y := by kernel_rfl
theorem a6p (v : c7) : A0m Try.prog 73 [(true, [.i .i64 v.N, .s v.S])] [] (.one (false, [.b (l9 v)])) := by
 refine spec_of2 false false none Try.func73 a4X (rvs := [.t 2]) (hΓ := mkCtx_ok (deep := false) (l := [(89, [], s8), (98, [], a0L)]) ⟨t8, a4f, trivial⟩) (h := ?_)
 intro hb hE
 simp only [go_sem] at hb
 simp only [a1y, x']
 (try refine A2Z ?_); simp only [go_sem]; (repeat' first | apply CJ.mk | intro hc); all_goals try ((repeat' first | apply And.intro | intro hs) <;> (try simp only [go_sem, Bool.and_eq_false_iff] at hs) <;> omega)
 ·simp only [l9, hc, cond_true]
 ·simp only [l9, hc, cond_false]
noncomputable def t6 : CT := p8 (fun (x : c7) => a6p x)
@[go_sem] theorem a9T (x0 : Int) (x1 : List UInt8) : t6 [(true, [.i .i64 x0, .s x1])] = some (True, [], .one (false, [.b (l9 (c7.mk x0 x1))])) := i9 _ (by rintro ⟨_, _⟩ ⟨_, _⟩ h; simp at h; simp_all) (c7.mk x0 x1)
theorem w5 : OkC Try.prog 73 t6 := j3 _
def a0v (n : Int) : Bool := decide (65 ≤ n) && decide (n ≤ 90)
def a8R (x : UInt8) : Bool := p7 x.toNat || a0v x.toNat || z3 x.toNat
def a0F (s : List UInt8) : Bool := s.all a8R && (decide (1 ≤ s.length) && decide (s.length ≤ 12) && a0v (s.getD 0 0).toNat)
def clsI (n : Int) : Int := if 97 ≤ n ∧ n ≤ 122 then 1 else if 65 ≤ n ∧ n ≤ 90 then 2 else if 48 ≤ n ∧ n ≤ 57 then 3 else 0
theorem cls2 (n : Int) : (clsI n != 2) = !a0v n := by
 unfold clsI a0v
 rw [← Bool.decide_and]
 by_cases h : 65 ≤ n ∧ n ≤ 90
 ·rw [if_neg (by omega), if_pos h]; simp [h]
 ·rw [if_neg h]; (repeat' split) <;> simp [h]
theorem cls0 (x : UInt8) : (clsI x.toNat == 0) = !a8R x := by
 unfold clsI a8R a0v p7 z3
 rw [← Bool.decide_and, ← Bool.decide_and, ← Bool.decide_and]
 (repeat' split) <;> simp [*]
def a1v : ACode := q' ([b' 2 false]) (q' ([m' 3 0, o' 4 (.bin .geq (.t 3) (.k (.v false [.c (.i .u8 65)]))), m' 5 4, ⟨some 6, .mov (.t 0), some (5, true)⟩, ⟨some 7, .bin .leq (.t
 6) (.k (.v false [.c (.i .u8 90)])), some (5, true)⟩, o' 8 (.pick (.t 5) (.t 7) (.k (.v false [.c (.b false)]))), m' 2 8]) .ret)
theorem a4U : cmp Try.prog Try.f77 = some a1v := by kernel_rfl
theorem a6m (c : Int) : A0m Try.prog 77 [(false, [.i .u8 c])] [] (.one (false, [.b (a0v c)])) := by
 refine spec_of2 false false none Try.func77 a4U (rvs := [.t 2]) (hΓ := mkCtx_ok (deep := false) (l := []) trivial) (h := ?_)
 intro hb hE
 simp only [go_sem] at hb
 simp only [a1v, x']
 (try refine A2Z ?_); simp only [go_sem]; (repeat' first | apply CJ.mk | intro hc); all_goals try ((repeat' first | apply And.intro | intro hs) <;> (try simp only [go_sem, Bool.and_eq_false_iff] at hs) <;> omega)
 rfl
noncomputable def a0o : CT := p8 (fun (x : Int) => a6m x)
@[go_sem] theorem a9Q (c : Int) : a0o [(false, [.i .u8 c])] = some (True, [], .one (false, [.b (a0v c)])) := i9 _ (by intro x y h; simp at h; simp_all) c
theorem a3C : OkC Try.prog 77 a0o := j3 _
def a2Q : ACode := q' ([b' 2 false]) (.seq (q' ([m' 4 0, o' 5 (.lens (.t 4)), z' 6 0]) (.block 0 (.loop (q' ([r' 7 6 5]) (.seq (.cond (.t 7) .skip (.exit 0)) (.seq (.block 1 (q'
 ([m' 8 6, m' 3 8]) (q' ([m' 9 0, m' 10 3, o' 11 (.ixs (.t 9) (.t 10)), c' 12 76 [11], o' 13 (.not (.t 12)), m' 14 13, ⟨some 15, .mov (.t 0), some (14, true)⟩,
 ⟨some 16, .mov (.t 3), some (14, true)⟩, ⟨some 17, .ixs (.t 15) (.t 16), some (14, true)⟩, ⟨some 18, .call 77 [.t 17], some (14, true)⟩, ⟨some 19, .not (.t
 18), some (14, true)⟩, o' 20 (.pick (.t 14) (.t 19) (.k (.v false [.c (.b false)]))), m' 21 20, ⟨some 22, .mov (.t 0), some (21, true)⟩, ⟨some 23, .mov (.t
 3), some (21, true)⟩, ⟨some 24, .ixs (.t 22) (.t 23), some (21, true)⟩, ⟨some 25, .call 78 [.t 24], some (21, true)⟩, ⟨some 26, .not (.t 25), some (21,
 true)⟩, o' 27 (.pick (.t 21) (.t 26) (.k (.v false [.c (.b false)])))]) (.cond (.t 27) (q' ([b' 2 false]) .ret) .skip)))) (g' [a' 28 6, m' 6 28]))))))) (q'
 ([m' 29 0, o' 30 (.lens (.t 29)), o' 31 (.bin .geq (.t 30) (k' 1)), m' 32 31, ⟨some 33, .mov (.t 0), some (32, true)⟩, ⟨some 34, .lens (.t 33), some (32,
 true)⟩, ⟨some 35, .bin .leq (.t 34) (k' 12), some (32, true)⟩, o' 36 (.pick (.t 32) (.t 35) (.k (.v false [.c (.b false)]))), m' 37 36, ⟨some 38, .mov (.t 0),
 some (37, true)⟩, ⟨some 39, .ixs (.t 38) (k' 0), some (37, true)⟩, ⟨some 40, .call 77 [.t 39], some (37, true)⟩, o' 41 (.pick (.t 37) (.t 40) (.k (.v false
 [.c (.b false)]))), m' 2 41]) .ret))
theorem a6N : cmp Try.prog Try.f44 = some a2Q := by kernel_rfl
theorem a7V (s : List UInt8) : A0m Try.prog 44 [(false, [.s s])] [] (.one (false, [.b (a0F s)])) := by
 refine spec_of2 false false none Try.func44 a6N (rvs := [.t 2]) (hΓ := mkCtx_ok (deep := false) (l := [(76, [], u6), (77, [], a0o), (78, [], w3)]) ⟨a0n, a3C, a0A, trivial⟩) (h := ?_)
 intro hb hE
 simp only [go_sem] at hb
 simp only [a2Q, x']
 (try refine A2Z ?_); simp only [go_sem]; (repeat' first | apply CJ.mk | intro hc); all_goals try ((repeat' first | apply And.intro | intro hs) <;> (try simp only [go_sem, Bool.and_eq_false_iff] at hs) <;> omega)
 refine aw_loop2 false [] [0, 5] [] [] (fun i : {i : Nat // i ≤ s.length ∧ (s.take i).all a8R = true} => [(6, slV (.i .i64 i.1))]) (fun i => []) (fun i => []) (fun i => s.length - i.1) (⟨0, by simp⟩) _ rfl ?_ ?_
 ·simp only [go_sem]
  all_goals first | omega | ((repeat' apply And.intro) <;> first | omega | rfl | skip)
 intro S0 hS0 i
 simp only [go_sem] at hS0
 obtain ⟨i, hi, ha⟩ := i
 (try refine A2Z ?_); simp only [go_sem, hS0]; (repeat' first | apply CJ.mk | intro hc); all_goals try ((repeat' first | apply And.intro | intro hs) <;> (try simp only [go_sem, Bool.and_eq_false_iff] at hs) <;> omega)
 ·have h : a8R (s.getD i 0) = false := by simp only [a8R, hc, Bool.or_self]
  rw [a0F, all_false (by omega) h]; rfl
 ·(refine lpK_n2 (⟨i + 1, by omega, by rw [A6R (d := 0) (by omega), ha]; simpa [a8R, -List.getD_eq_getElem?_getD, ← Bool.not_or] using hc⟩) _ rfl ?_; simp only [go_sem, hS0]; first | done | ((repeat' apply And.intro) <;> first | omega | (refine w64 ?_ ?_ ?_ <;> omega) | rfl | skip))
 ·rw [a0F, all_of_take (by omega) ha]
  norm_cast
noncomputable def a0g : CT := p8 (fun (x : (List UInt8)) => a7V x)
@[go_sem] theorem b1t (s : List UInt8) : a0g [(false, [.s s])] = some (True, [], .one (false, [.b (a0F s)])) := i9 _ (by intro x y h; simp at h; simp_all) s
theorem a1G : OkC Try.prog 44 a0g := j3 _
def a0Y : ACode := q' ([z' 2 0]) (.seq (q' ([m' 3 0, o' 4 (.bin .geq (.t 3) (.k (.v false [.c (.i .u8 97)]))), m' 5 4, ⟨some 6, .mov (.t 0), some (5, true)⟩, ⟨some 7, .bin .leq
 (.t 6) (.k (.v false [.c (.i .u8 122)])), some (5, true)⟩, o' 8 (.pick (.t 5) (.t 7) (.k (.v false [.c (.b false)])))]) (.cond (.t 8) (q' ([z' 2 1]) .ret)
 .skip)) (.seq (q' ([m' 9 0, o' 10 (.bin .geq (.t 9) (.k (.v false [.c (.i .u8 65)]))), m' 11 10, ⟨some 12, .mov (.t 0), some (11, true)⟩, ⟨some 13, .bin .leq
 (.t 12) (.k (.v false [.c (.i .u8 90)])), some (11, true)⟩, o' 14 (.pick (.t 11) (.t 13) (.k (.v false [.c (.b false)])))]) (.cond (.t 14) (q' ([z' 2 2])
 .ret) .skip)) (.seq (q' ([m' 15 0, o' 16 (.bin .geq (.t 15) (.k (.v false [.c (.i .u8 48)]))), m' 17 16, ⟨some 18, .mov (.t 0), some (17, true)⟩, ⟨some 19,
 .bin .leq (.t 18) (.k (.v false [.c (.i .u8 57)])), some (17, true)⟩, o' 20 (.pick (.t 17) (.t 19) (.k (.v false [.c (.b false)])))]) (.cond (.t 20) (q' ([z'
 2 3]) .ret) .skip)) (q' ([z' 2 0]) .ret))))
theorem a4u : cmp Try.prog Try.f97 = some a0Y := by kernel_rfl
theorem a5l (c : Int) : A0m Try.prog 97 [(false, [.i .u8 c])] [] (.one (false, [.i .i64 (clsI c)])) := by
 refine spec_of2 false false none Try.func97 a4u (rvs := [.t 2]) (hΓ := mkCtx_ok (deep := false) (l := []) trivial) (h := ?_)
 intro hb hE
 simp only [go_sem] at hb
 simp only [a0Y, x']
 (try refine A2Z ?_); simp only [go_sem]; (repeat' first | apply CJ.mk | intro hc); all_goals try ((repeat' first | apply And.intro | intro hs) <;> (try simp only [go_sem, Bool.and_eq_false_iff] at hs) <;> omega)
 all_goals ((try simp only [Bool.and_eq_false_iff, decide_eq_false_iff_not] at *); simp only [clsI]; (repeat' split) <;> omega)
noncomputable def z9 : CT := p8 (fun (x : Int) => a5l x)
@[go_sem] theorem a9y (c : Int) : z9 [(false, [.i .u8 c])] = some (True, [], .one (false, [.i .i64 (clsI c)])) := i9 _ (by intro x y h; simp at h; simp_all) c
theorem a3k : OkC Try.prog 97 z9 := j3 _
def a2V : ACode := q' ([b' 2 false]) (.seq (q' ([m' 4 0, o' 5 (.lens (.t 4)), o' 6 (.bin .lss (.t 5) (k' 1)), m' 7 6, ⟨some 8, .mov (.t 0), some (7, false)⟩, ⟨some 9, .lens (.t
 8), some (7, false)⟩, ⟨some 10, .bin .gtr (.t 9) (k' 12), some (7, false)⟩, o' 11 (.pick (.t 7) (.k (.v false [.c (.b true)])) (.t 10)), m' 12 11, ⟨some 13,
 .mov (.t 0), some (12, false)⟩, ⟨some 14, .ixs (.t 13) (k' 0), some (12, false)⟩, ⟨some 15, .call 97 [.t 14], some (12, false)⟩, ⟨some 16, .bin .neq (.t 15)
 (k' 2), some (12, false)⟩, o' 17 (.pick (.t 12) (.k (.v false [.c (.b true)])) (.t 16))]) (.cond (.t 17) (q' ([b' 2 false]) .ret) .skip)) (.seq (q' ([z' 3 0])
 (.block 0 (.loop (.seq (q' ([m' 18 3, m' 19 0, o' 20 (.lens (.t 19)), r' 21 18 20]) (.cond (.t 21) .skip (.exit 0))) (.seq (.block 1 (q' ([m' 24 0, m' 25 3,
 o' 26 (.ixs (.t 24) (.t 25)), c' 27 97 [26], o' 28 (.bin .eql (.t 27) (k' 0))]) (.cond (.t 28) (q' ([b' 2 false]) .ret) .skip))) (g' [m' 22 3, a' 23 22, m' 3
 23])))))) (q' ([b' 2 true]) .ret)))
theorem a6S : cmp Try.prog Try.f72 = some a2V := by kernel_rfl
theorem a8a (s : List UInt8) : A0m Try.prog 72 [(false, [.s s])] [] (.one (false, [.b (a0F s)])) := by
 refine spec_of2 false false none Try.func72 a6S (rvs := [.t 2]) (hΓ := mkCtx_ok (deep := false) (l := [(97, [], z9)]) ⟨a3k, trivial⟩) (h := ?_)
 intro hb hE
 simp only [go_sem] at hb
 simp only [a2V, x']
 (try refine A2Z ?_); simp only [go_sem, cls2, cls0]; (repeat' first | apply CJ.mk | intro hc); all_goals try ((repeat' first | apply And.intro | intro hs) <;> (try simp only [go_sem, Bool.and_eq_false_iff] at hs) <;> omega)
 ·symm
  unfold a0F
  rcases hc with (h | h) | h
  ·rw [decide_eq_false (p := 1 ≤ s.length) (by omega)]; simp
  ·rw [decide_eq_false (p := s.length ≤ 12) (by omega)]; simp
  ·rw [h]; simp
 have hh := hc
 refine aw_loop2 false [] [0] [] [] (fun i : {i : Nat // i ≤ s.length ∧ (s.take i).all a8R = true} => [(3, slV (.i .i64 i.1))]) (fun i => []) (fun i => []) (fun i => s.length - i.1) (⟨0, by simp⟩) _ rfl ?_ ?_
 ·simp only [go_sem, cls2, cls0]
  all_goals first | omega | ((repeat' apply And.intro) <;> first | omega | rfl | skip)
 intro S0 hS0 i
 simp only [go_sem, cls2, cls0] at hS0
 obtain ⟨i, hi, ha⟩ := i
 (try refine A2Z ?_); simp only [go_sem, cls2, cls0, hS0]; (repeat' first | apply CJ.mk | intro hc); all_goals try ((repeat' first | apply And.intro | intro hs) <;> (try simp only [go_sem, Bool.and_eq_false_iff] at hs) <;> omega)
 ·rw [a0F, all_false (by omega) hc]; rfl
 ·(refine lpK_n2 (⟨i + 1, by omega, by rw [A6R (d := 0) (by omega), ha, hc]; rfl⟩) _ rfl ?_; simp only [go_sem, cls2, cls0, hS0]; first | done | ((repeat' apply And.intro) <;> first | omega | (refine w64 ?_ ?_ ?_ <;> omega) | rfl | skip))
 ·symm
  rw [a0F, all_of_take (by omega) ha, hh.2, decide_eq_true (by omega), decide_eq_true (by omega)]
  rfl
 all_goals trace_state
noncomputable def a0i : CT := p8 (fun (x : (List UInt8)) => a8a x)
@[go_sem] theorem b1z (s : List UInt8) : a0i [(false, [.s s])] = some (True, [], .one (false, [.b (a0F s)])) := i9 _ (by intro x y h; simp at h; simp_all) s
theorem a1I : OkC Try.prog 72 a0i := j3 _
def t3 (l : List c6) (i : Nat) : Bool := !a0F (l.getD i default).Var || !l9 (l.getD i default).Val || (decide ((0 : Int) < i) && !Op.bytesLess (l.getD (i - 1) default).Var (l.getD i default).Var)
def s7 (e : c9) : Bool := !a6E e.Binds.length (t3 e.Binds) && decide ((e.Binds.length : Int) ≤ 60)
def a2N : ACode := q' ([o' 1 (.box 1 (.t 0)), b' 2 false]) (.seq (q' ([f' 5 0 1, l' 6 5, n' 7 6, z' 8 0]) (.block 0 (.loop (q' ([r' 9 8 7]) (.seq (.cond (.t 9) .skip (.exit 0))
 (.seq (.block 1 (q' ([m' 10 8, i' 11 3 6 8, e' 12 3 11, w' 4 [.s, .i .i64, .s], m' 3 10, s' 3 4 12]) (.seq (.reg true [f' 13 0 4, l' 14 13, c' 15 44 [14], o'
 16 (.not (.t 15)), m' 17 16, ⟨some 18, .fa 1 (.t 4), some (17, false)⟩, ⟨some 19, .ld true 2 (.t 18), some (17, false)⟩, ⟨some 20, .call 45 [.t 19], some (17,
 false)⟩, ⟨some 21, .not (.t 20), some (17, false)⟩, o' 22 (.pick (.t 17) (.k (.v false [.c (.b true)])) (.t 21)), m' 23 22, ⟨some 24, .mov (.t 3), some (23,
 false)⟩, ⟨some 25, .bin .gtr (.t 24) (k' 0), some (23, false)⟩, ⟨some 26, .mov (.t 25), some (23, false)⟩, ⟨some 27, .fa 0 (.t 1), some (26, true)⟩, ⟨some 28,
 .ld false 1 (.t 27), some (26, true)⟩, ⟨some 29, .mov (.t 3), some (26, true)⟩, ⟨some 30, .bin .sub (.t 29) (k' 1), some (26, true)⟩, ⟨some 31, .ia 3 (.t 28)
 (.t 30), some (26, true)⟩, ⟨some 32, .fa 0 (.t 31), some (26, true)⟩, ⟨some 33, .ld false 1 (.t 32), some (26, true)⟩, ⟨some 34, .fa 0 (.t 4), some (26,
 true)⟩, ⟨some 35, .ld false 1 (.t 34), some (26, true)⟩, ⟨some 36, .bin .geq (.t 33) (.t 35), some (26, true)⟩, ⟨some 37, .pick (.t 26) (.t 36) (.k (.v false
 [.c (.b false)])), some (23, false)⟩, o' 38 (.pick (.t 23) (.k (.v false [.c (.b true)])) (.t 37))]) (.cond (.t 38) (q' ([b' 2 false]) .ret) .skip)))) (g' [a'
 39 8, m' 8 39]))))))) (q' ([f' 40 0 1, l' 41 40, n' 42 41, o' 43 (.bin .leq (.t 42) (k' 60)), m' 2 43]) .ret))
theorem a6K : cmp Try.prog Try.f10 = some a2N := by kernel_rfl
theorem a7S (e : c9) : A0m Try.prog 10 [(true, [.sl false [.s [], .i .i64 0, .s []] (e.Binds.map c6.cells)])] [] (.one (false, [.b (s7 e)])) := by
 refine spec_of2 false false none Try.func10 a6K (rvs := [.t 2]) (hΓ := mkCtx_ok (deep := false) (l := [(44, [], a0g), (45, [], t5)]) ⟨a1G, v9, trivial⟩) (h := ?_)
 intro hb hE
 simp only [go_sem] at hb
 simp only [a2N, x']
 (try refine A2Z ?_); simp only [go_sem]; (repeat' first | apply CJ.mk | intro hc); all_goals try ((repeat' first | apply And.intro | intro hs) <;> (try simp only [go_sem, Bool.and_eq_false_iff] at hs) <;> omega)
 refine aw_loop2 false [] [1, 6, 7] [2] [] (fun i : {i : Nat // i ≤ e.Binds.length ∧ a6E i (t3 e.Binds) = false} => [(8, slV (.i .i64 i.1))]) (fun i => []) (fun i => []) (fun i => e.Binds.length - i.1) (⟨0, by simp [a7p]⟩) _ rfl ?_ ?_
 ·simp only [go_sem]
  all_goals first | omega | ((repeat' apply And.intro) <;> first | omega | rfl | skip)
 intro S0 hS0 i
 simp only [go_sem] at hS0
 obtain ⟨i, hi, ha⟩ := i
 have hp := wpred (i := i) (by omega)
 (try refine A2Z ?_); simp only [go_sem, hS0, hp]; (repeat' first | apply CJ.mk | intro hc); all_goals try ((repeat' first | apply And.intro | intro hs) <;> (try simp only [go_sem, Bool.and_eq_false_iff] at hs) <;> omega)
 ·have h : t3 e.Binds i = true := by simpa [t3] using hc
  rw [s7, a3X (by omega) h]; rfl
 ·have h : t3 e.Binds i = false := by simpa [t3] using hc
  (refine lpK_n2 (⟨i + 1, by omega, a3W ha h⟩) _ rfl ?_; simp only [go_sem, hS0, hp]; first | done | ((repeat' apply And.intro) <;> first | omega | (refine w64 ?_ ?_ ?_ <;> omega) | rfl | skip))
 ·obtain rfl : i = e.Binds.length := by omega
  rw [s7, ha]; rfl
 all_goals trace_state
noncomputable def v8 : CT := p8 (fun (x : c9) => a7S x)
@[go_sem] theorem b1q (x0 : List c6) : v8 [(true, [.sl false [.s [], .i .i64 0, .s []] (x0.map c6.cells)])] = some (True, [], .one (false, [.b (s7 (c9.mk x0))])) := i9 _ (by rintro ⟨_⟩ ⟨_⟩ h; simp at h; simp_all) (c9.mk x0)
theorem z5 : OkC Try.prog 10 v8 := j3 _
def a2T : ACode := q' ([o' 1 (.box 1 (.t 0)), b' 2 false]) (.seq (q' ([f' 5 0 1, l' 6 5, n' 7 6, o' 8 (.bin .gtr (.t 7) (k' 60))]) (.cond (.t 8) (q' ([b' 2 false]) .ret) .skip))
 (.seq (q' ([f' 9 0 1, l' 10 9, n' 11 10, z' 12 0]) (.block 0 (.loop (q' ([r' 13 12 11]) (.seq (.cond (.t 13) .skip (.exit 0)) (.seq (.block 1 (q' ([m' 14 12,
 i' 15 3 10 12, e' 16 3 15, w' 4 [.s, .i .i64, .s], m' 3 14, s' 3 4 16]) (.seq (.reg true [f' 17 0 4, l' 18 17, c' 19 72 [18], o' 20 (.not (.t 19)), m' 21 20,
 ⟨some 22, .fa 1 (.t 4), some (21, false)⟩, ⟨some 23, .ld true 2 (.t 22), some (21, false)⟩, ⟨some 24, .call 73 [.t 23], some (21, false)⟩, ⟨some 25, .not (.t
 24), some (21, false)⟩, o' 26 (.pick (.t 21) (.k (.v false [.c (.b true)])) (.t 25)), m' 27 26, ⟨some 28, .mov (.t 3), some (27, false)⟩, ⟨some 29, .bin .gtr
 (.t 28) (k' 0), some (27, false)⟩, ⟨some 30, .mov (.t 29), some (27, false)⟩, ⟨some 31, .fa 0 (.t 1), some (30, true)⟩, ⟨some 32, .ld false 1 (.t 31), some
 (30, true)⟩, ⟨some 33, .mov (.t 3), some (30, true)⟩, ⟨some 34, .bin .sub (.t 33) (k' 1), some (30, true)⟩, ⟨some 35, .ia 3 (.t 32) (.t 34), some (30, true)⟩,
 ⟨some 36, .fa 0 (.t 35), some (30, true)⟩, ⟨some 37, .ld false 1 (.t 36), some (30, true)⟩, ⟨some 38, .fa 0 (.t 4), some (30, true)⟩, ⟨some 39, .ld false 1
 (.t 38), some (30, true)⟩, ⟨some 40, .bin .geq (.t 37) (.t 39), some (30, true)⟩, ⟨some 41, .pick (.t 30) (.t 40) (.k (.v false [.c (.b false)])), some (27,
 false)⟩, o' 42 (.pick (.t 27) (.k (.v false [.c (.b true)])) (.t 41))]) (.cond (.t 42) (q' ([b' 2 false]) .ret) .skip)))) (g' [a' 43 12, m' 12 43]))))))) (q'
 ([b' 2 true]) .ret)))
theorem a6Q : cmp Try.prog Try.f37 = some a2T := by kernel_rfl
theorem a7Y (e : c9) : A0m Try.prog 37 [(true, [.sl false [.s [], .i .i64 0, .s []] (e.Binds.map c6.cells)])] [] (.one (false, [.b (s7 e)])) := by
 refine spec_of2 false false none Try.func37 a6Q (rvs := [.t 2]) (hΓ := mkCtx_ok (deep := false) (l := [(72, [], a0i), (73, [], t6)]) ⟨a1I, w5, trivial⟩) (h := ?_)
 intro hb hE
 simp only [go_sem] at hb
 simp only [a2T, x']
 (try refine A2Z ?_); simp only [go_sem]; (repeat' first | apply CJ.mk | intro hc); all_goals try ((repeat' first | apply And.intro | intro hs) <;> (try simp only [go_sem, Bool.and_eq_false_iff] at hs) <;> omega)
 ·rw [s7, decide_eq_false (by omega)]; simp
 have hl := hc
 refine aw_loop2 false [] [1, 10, 11] [2] [] (fun i : {i : Nat // i ≤ e.Binds.length ∧ a6E i (t3 e.Binds) = false} => [(12, slV (.i .i64 i.1))]) (fun i => []) (fun i => []) (fun i => e.Binds.length - i.1) (⟨0, by simp [a7p]⟩) _ rfl ?_ ?_
 ·simp only [go_sem]
  all_goals first | omega | ((repeat' apply And.intro) <;> first | omega | rfl | skip)
 intro S0 hS0 i
 simp only [go_sem] at hS0
 obtain ⟨i, hi, ha⟩ := i
 have hp := wpred (i := i) (by omega)
 (try refine A2Z ?_); simp only [go_sem, hS0, hp]; (repeat' first | apply CJ.mk | intro hc); all_goals try ((repeat' first | apply And.intro | intro hs) <;> (try simp only [go_sem, Bool.and_eq_false_iff] at hs) <;> omega)
 ·have h : t3 e.Binds i = true := by simpa [t3] using hc
  rw [s7, a3X (by omega) h]; rfl
 ·have h : t3 e.Binds i = false := by simpa [t3] using hc
  (refine lpK_n2 (⟨i + 1, by omega, a3W ha h⟩) _ rfl ?_; simp only [go_sem, hS0, hp]; first | done | ((repeat' apply And.intro) <;> first | omega | (refine w64 ?_ ?_ ?_ <;> omega) | rfl | skip))
 ·obtain rfl : i = e.Binds.length := by omega
  rw [s7, ha, decide_eq_true (by omega)]; rfl
 all_goals trace_state
noncomputable def a1p : CT := p8 (fun (x : c9) => a7Y x)
@[go_sem] theorem b1x (x0 : List c6) : a1p [(true, [.sl false [.s [], .i .i64 0, .s []] (x0.map c6.cells)])] = some (True, [], .one (false, [.b (s7 (c9.mk x0))])) := i9 _ (by rintro ⟨_⟩ ⟨_⟩ h; simp at h; simp_all) (c9.mk x0)
theorem a4Q : OkC Try.prog 37 a1p := j3 _
def getB (e : c9) (v : List UInt8) : Nat := w7 e.Binds.length fun i => (e.Binds.getD i default).Var == v
def m7 (e : c9) (v : List UInt8) : c7 × Bool := if getB e v < e.Binds.length then ((e.Binds.getD (getB e v) default).Val, true) else (default, false)
theorem a2r {e : c9} {v : List UInt8} (h : ∀ j, j < e.Binds.length → ((e.Binds.getD j default).Var == v) = false) : m7 e v = (default, false) := by
 have := a0C h
 rw [m7, getB, this, if_neg (by omega)]
theorem a2s {e : c9} {v : List UInt8} {i : Nat} (hi : i < e.Binds.length) (h : ∀ j, j < i → ((e.Binds.getD j default).Var == v) = false) (hp : ((e.Binds.getD i default).Var == v) = true) : m7 e v = ((e.Binds.getD i default).Val, true) := by
 have := a0D h hp hi
 rw [m7, getB, this, if_pos hi]
def a2R : ACode := q' ([o' 2 (.box 1 (.t 0)), w' 4 [.i .i64, .s], b' 5 false]) (.seq (q' ([f' 8 0 2, l' 9 8, n' 10 9, z' 11 0]) (.block 0 (.loop (q' ([r' 12 11 10]) (.seq (.cond
 (.t 12) .skip (.exit 0)) (.seq (.block 1 (q' ([i' 13 3 9 11, e' 14 3 13, w' 7 [.s, .i .i64, .s], s' 3 7 14]) (q' ([f' 15 0 7, l' 16 15, m' 17 1, o' 18 (.bin
 .eql (.t 16) (.t 17))]) (.cond (.t 18) (q' ([f' 19 1 7, e' 20 2 19, s' 2 4 20, b' 5 true]) .ret) .skip)))) (g' [a' 21 11, m' 11 21]))))))) (q' ([o' 22 (.bld
 [.i .i64, .s] []), s' 2 4 22, b' 5 false]) .ret))
theorem a6O : cmp Try.prog Try.f93 = some a2R := by kernel_rfl
theorem a7X (e : c9) (v : List UInt8) : A0m Try.prog 93 [(true, [.sl false [.s [], .i .i64 0, .s []] (e.Binds.map c6.cells)]), (false, [.s v])] [] (.tup [(true, [.i .i64 (((m7 e v).1).N), .s (((m7 e v).1).S)]), (false, [.b ((m7 e v).2)])]) := by
 refine spec_of2 false false none Try.func93 a6O (rvs := [.c 4 true 2, .t 5]) (hΓ := mkCtx_ok (deep := false) (l := []) trivial) (h := ?_)
 intro hb hE
 simp only [go_sem] at hb
 simp only [a2R, x']
 (try refine A2Z ?_); simp only [go_sem]; (repeat' first | apply CJ.mk | intro hc); all_goals try ((repeat' first | apply And.intro | intro hs) <;> (try simp only [go_sem, Bool.and_eq_false_iff] at hs) <;> omega)
 refine aw_loop2 false [] [1, 4, 9, 10] [] [] (fun i : {i : Nat // i ≤ e.Binds.length ∧ ∀ j, j < i → ((e.Binds.getD j default).Var == v) = false} => [(11, slV (.i .i64 i.1))]) (fun i => [(8, [.c (.i .i64 0), .c (.s [])])]) (fun i => []) (fun i => e.Binds.length - i.1) (⟨0, by simp⟩) _ rfl ?_ ?_
 ·simp only [go_sem]
  all_goals first | omega | ((repeat' apply And.intro) <;> first | omega | rfl | skip)
 intro S0 hS0 i
 simp only [go_sem] at hS0
 obtain ⟨i, hi, ha⟩ := i
 (try refine A2Z ?_); simp only [go_sem, hS0]; (repeat' first | apply CJ.mk | intro hc); all_goals try ((repeat' first | apply And.intro | intro hs) <;> (try simp only [go_sem, Bool.and_eq_false_iff] at hs) <;> omega)
 ·rw [a2s (by omega) ha hc]; exact ⟨⟨rfl, rfl⟩, rfl⟩
 ·(refine lpK_n2 (⟨i + 1, by omega, fun j hj => (Nat.lt_succ_iff_lt_or_eq.1 hj).elim (ha j) (fun q => q ▸ hc)⟩) _ rfl ?_; simp only [go_sem, hS0]; first | done | ((repeat' apply And.intro) <;> first | omega | (refine w64 ?_ ?_ ?_ <;> omega) | rfl | skip))
 ·rw [a2r fun j hj => ha j (by omega)]; exact ⟨⟨rfl, rfl⟩, rfl⟩
noncomputable def a1o : CT := p8 (fun (x : c9 × (List UInt8)) => a7X x.1 x.2)
@[go_sem] theorem b1v (x0 : List c6) (v : List UInt8) : a1o [(true, [.sl false [.s [], .i .i64 0, .s []] (x0.map c6.cells)]), (false, [.s v])] = some (True, [], .tup [(true, [.i .i64 (((m7 (c9.mk x0) v).1).N), .s (((m7 (c9.mk x0) v).1).S)]), (false, [.b ((m7 (c9.mk x0) v).2)])]) := i9 _ (by rintro ⟨⟨_⟩, _⟩ ⟨⟨_⟩, _⟩ h; simp at h; simp_all) ((c9.mk x0), v)
theorem a4P : OkC Try.prog 93 a1o := j3 _
def a2a : ACode := q' ([o' 2 (.box 1 (.t 0)), w' 4 [.i .i64, .s], b' 5 false]) (.seq (q' ([f' 8 0 2, l' 9 8, n' 10 9, z' 11 0]) (.block 0 (.loop (q' ([r' 12 11 10]) (.seq (.cond
 (.t 12) .skip (.exit 0)) (.seq (.block 1 (q' ([i' 13 3 9 11, e' 14 3 13, w' 7 [.s, .i .i64, .s], s' 3 7 14]) (q' ([f' 15 0 7, l' 16 15, m' 17 1, o' 18 (.bin
 .eql (.t 16) (.t 17))]) (.cond (.t 18) (q' ([f' 19 1 7, e' 20 2 19, s' 2 4 20, b' 5 true]) .ret) .skip)))) (g' [a' 21 11, m' 11 21]))))))) (q' ([o' 22 (.bld
 [.i .i64, .s] []), s' 2 4 22, b' 5 false]) .ret))
theorem a6e : cmp Try.prog Try.f65 = some a2a := by kernel_rfl
theorem a7g (e : c9) (v : List UInt8) : A0m Try.prog 65 [(true, [.sl false [.s [], .i .i64 0, .s []] (e.Binds.map c6.cells)]), (false, [.s v])] [] (.tup [(true, [.i .i64 (((m7 e v).1).N), .s (((m7 e v).1).S)]), (false, [.b ((m7 e v).2)])]) := by
 refine spec_of2 false false none Try.func65 a6e (rvs := [.c 4 true 2, .t 5]) (hΓ := mkCtx_ok (deep := false) (l := []) trivial) (h := ?_)
 intro hb hE
 simp only [go_sem] at hb
 simp only [a2a, x']
 (try refine A2Z ?_); simp only [go_sem]; (repeat' first | apply CJ.mk | intro hc); all_goals try ((repeat' first | apply And.intro | intro hs) <;> (try simp only [go_sem, Bool.and_eq_false_iff] at hs) <;> omega)
 refine aw_loop2 false [] [1, 4, 9, 10] [] [] (fun i : {i : Nat // i ≤ e.Binds.length ∧ ∀ j, j < i → ((e.Binds.getD j default).Var == v) = false} => [(11, slV (.i .i64 i.1))]) (fun i => [(8, [.c (.i .i64 0), .c (.s [])])]) (fun i => []) (fun i => e.Binds.length - i.1) (⟨0, by simp⟩) _ rfl ?_ ?_
 ·simp only [go_sem]
  all_goals first | omega | ((repeat' apply And.intro) <;> first | omega | rfl | skip)
 intro S0 hS0 i
 simp only [go_sem] at hS0
 obtain ⟨i, hi, ha⟩ := i
 (try refine A2Z ?_); simp only [go_sem, hS0]; (repeat' first | apply CJ.mk | intro hc); all_goals try ((repeat' first | apply And.intro | intro hs) <;> (try simp only [go_sem, Bool.and_eq_false_iff] at hs) <;> omega)
 ·rw [a2s (by omega) ha hc]; exact ⟨⟨rfl, rfl⟩, rfl⟩
 ·(refine lpK_n2 (⟨i + 1, by omega, fun j hj => (Nat.lt_succ_iff_lt_or_eq.1 hj).elim (ha j) (fun q => q ▸ hc)⟩) _ rfl ?_; simp only [go_sem, hS0]; first | done | ((repeat' apply And.intro) <;> first | omega | (refine w64 ?_ ?_ ?_ <;> omega) | rfl | skip))
 ·rw [a2r fun j hj => ha j (by omega)]; exact ⟨⟨rfl, rfl⟩, rfl⟩
noncomputable def y6 : CT := p8 (fun (x : c9 × (List UInt8)) => a7g x.1 x.2)
@[go_sem] theorem b0T (x0 : List c6) (v : List UInt8) : y6 [(true, [.sl false [.s [], .i .i64 0, .s []] (x0.map c6.cells)]), (false, [.s v])] = some (True, [], .tup [(true, [.i .i64 (((m7 (c9.mk x0) v).1).N), .s (((m7 (c9.mk x0) v).1).S)]), (false, [.b ((m7 (c9.mk x0) v).2)])]) := i9 _ (by rintro ⟨⟨_⟩, _⟩ ⟨⟨_⟩, _⟩ h; simp at h; simp_all) ((c9.mk x0), v)
theorem a1c : OkC Try.prog 65 y6 := j3 _
end Go.Aw
