/- Environments: what the functions compute. No condition. -/
import Derived.Test.YthlbadfickhkfaaGreatzfG1
import Derived.Test.YthlbadfickhkfaaGreathBwtzf
namespace Go.Aw
open Go.Proofs
attribute [local irreducible] aft blk lpK retK AW A0l
set_option linter.unusedVariables false
set_option linter.unusedSimpArgs false
set_option maxRecDepth 100000
def a5v : ACode := q' ([b' 2 false]) (q' ([m' 3 0, o' 4 (.bin .geq (.t 3) (k' 0)), m' 5 4, ⟨some 6, .mov (.t 0), some (5, true)⟩, ⟨some 7, .bin .leq (.t 6) (k' 281474976710655),
 some (5, true)⟩, o' 8 (.pick (.t 5) (.t 7) (.k (.v false [.c (.b false)]))), m' 2 8]) .ret)
theorem b2b : cmp Tryz.prog Tryz.f311 = some a5v := by kernel_rfl
theorem b3D (n : Int) : A0l Tryz.prog 311 [(false, [.i .i64 n])] [] (.one (false, [.b (a3C n)])) := by
 refine spec_of2 false false none Tryz.func311 b2b (rvs := [.t 2]) (hΓ := mkCtx_ok (deep := false) (l := []) trivial) (h := ?_)
 intro hb hE
 simp only [go_sem] at hb
 simp only [a5v, x']
 (try refine A2V ?_); simp only [go_sem]; (repeat' first | apply CJ.mk | intro hc); all_goals try ((repeat' first | apply And.intro | intro hs) <;> (try simp only [go_sem, Bool.and_eq_false_iff] at hs) <;> omega)
 rfl
noncomputable def a2R : CT := i6 (fun (x : Int) => b3D x)
@[go_sem] theorem b8R (n : Int) : a2R [(false, [.i .i64 n])] = some (True, [], .one (false, [.b (a3C n)])) := f7 _ (by intro x y h; simp at h; simp_all) n
theorem a9b : OkC Tryz.prog 311 a2R := f8 _
def a5u : ACode := q' ([b' 2 false]) (.seq (q' ([m' 6 0, o' 7 (.lens (.t 6)), o' 8 (.bin .lss (.t 7) (k' 1)), m' 9 8, ⟨some 10, .mov (.t 0), some (9, false)⟩, ⟨some 11, .lens (.t
 10), some (9, false)⟩, ⟨some 12, .bin .gtr (.t 11) (k' 12), some (9, false)⟩, o' 13 (.pick (.t 9) (.k (.v false [.c (.b true)])) (.t 12))]) (.cond (.t 13) (q'
 ([b' 2 false]) .ret) .skip)) (.seq (q' ([z' 3 0]) (.block 0 (.loop (.seq (q' ([m' 14 3, m' 15 0, o' 16 (.lens (.t 15)), r' 17 14 16]) (.cond (.t 17) .skip
 (.exit 0))) (.seq (.block 1 (q' ([m' 20 0, m' 21 3, o' 22 (.ixs (.t 20) (.t 21)), o' 23 (.bin .geq (.t 22) (.k (.v false [.c (.i .u8 97)]))), m' 24 23, ⟨some
 25, .mov (.t 0), some (24, true)⟩, ⟨some 26, .mov (.t 3), some (24, true)⟩, ⟨some 27, .ixs (.t 25) (.t 26), some (24, true)⟩, ⟨some 28, .bin .leq (.t 27) (.k
 (.v false [.c (.i .u8 122)])), some (24, true)⟩, o' 29 (.pick (.t 24) (.t 28) (.k (.v false [.c (.b false)]))), m' 4 29]) (q' ([m' 30 0, m' 31 3, o' 32 (.ixs
 (.t 30) (.t 31)), o' 33 (.bin .geq (.t 32) (.k (.v false [.c (.i .u8 48)]))), m' 34 33, ⟨some 35, .mov (.t 0), some (34, true)⟩, ⟨some 36, .mov (.t 3), some
 (34, true)⟩, ⟨some 37, .ixs (.t 35) (.t 36), some (34, true)⟩, ⟨some 38, .bin .leq (.t 37) (.k (.v false [.c (.i .u8 57)])), some (34, true)⟩, o' 39 (.pick
 (.t 34) (.t 38) (.k (.v false [.c (.b false)]))), m' 5 39]) (q' ([m' 40 4, o' 41 (.not (.t 40)), m' 42 41, ⟨some 43, .mov (.t 5), some (42, true)⟩, ⟨some 44,
 .not (.t 43), some (42, true)⟩, ⟨some 45, .mov (.t 44), some (42, true)⟩, ⟨some 46, .mov (.t 3), some (45, false)⟩, ⟨some 47, .bin .eql (.t 46) (k' 0), some
 (45, false)⟩, ⟨some 48, .pick (.t 45) (.k (.v false [.c (.b true)])) (.t 47), some (42, true)⟩, o' 49 (.pick (.t 42) (.t 48) (.k (.v false [.c (.b
 false)])))]) (.cond (.t 49) (q' ([b' 2 false]) .ret) .skip))))) (g' [m' 18 3, a' 19 18, m' 3 19])))))) (q' ([b' 2 true]) .ret)))
theorem b2a : cmp Tryz.prog Tryz.f173 = some a5u := by kernel_rfl
theorem b3C (s : List UInt8) : A0l Tryz.prog 173 [(false, [.s s])] [] (.one (false, [.b (a0t s)])) := by
 refine spec_of2 false false none Tryz.func173 b2a (rvs := [.t 2]) (hΓ := mkCtx_ok (deep := false) (l := []) trivial) (h := ?_)
 intro hb hE
 simp only [go_sem] at hb
 simp only [a5u, x']
 (try refine A2V ?_); simp only [go_sem]; (repeat' first | apply CJ.mk | intro hc); all_goals try ((repeat' first | apply And.intro | intro hs) <;> (try simp only [go_sem, Bool.and_eq_false_iff] at hs) <;> omega)
 ·cases h : a0t s with
  | false => rfl
  | true =>
    simp only [a0t, Bool.and_eq_true, decide_eq_true_eq] at h
    omega
 refine aw_loop2 false [] [0] [] [] (fun i : {i : Nat // i ≤ s.length ∧ (s.take i).all a6N = true ∧ (0 < i → o5 (s.getD 0 0).toNat = true)} => [(3, slV (.i .i64 i.1))]) (fun i => []) (fun i => []) (fun i => s.length - i.1) (⟨0, by simp⟩) _ rfl ?_ ?_
 ·simp only [go_sem]
  all_goals first | omega | ((repeat' apply And.intro) <;> first | omega | rfl | skip)
 intro S0 hS0 i
 simp only [go_sem] at hS0
 obtain ⟨i, hi, ha, hl⟩ := i
 (try refine A2V ?_); simp only [go_sem, hS0]; (repeat' first | apply CJ.mk | intro hc); all_goals try ((repeat' first | apply And.intro | intro hs) <;> (try simp only [go_sem, Bool.and_eq_false_iff] at hs) <;> omega)
 ·cases h : a0t s with
  | false => rfl
  | true =>
    simp only [a0t, Bool.and_eq_true, decide_eq_true_eq] at h
    have h2 := all_getD (d := 0) h.1 (show i < s.length by omega)
    have hc1 : o5 (s.getD i 0).toNat = false ∧ (a0R (s.getD i 0).toNat = false ∨ ((i : Int) == 0) = true) := hc
    simp only [a6N, hc1.1, Bool.false_or] at h2
    rcases hc1.2 with h3 | h3
    ·rw [h3] at h2; cases h2
    ·have : i = 0 := by simpa using h3
     subst this
     exact absurd h.2.2 (by rw [hc1.1]; exact Bool.false_ne_true)
 ·have hc1 : (!o5 (s.getD i 0).toNat && (!a0R (s.getD i 0).toNat || ((i : Int) == 0))) = false := hc
  have h1 : a6N (s.getD i 0) = true := by
   revert hc1
   simp only [a6N]
   generalize o5 (s.getD i 0).toNat = L
   generalize a0R (s.getD i 0).toNat = D
   cases L <;> cases D <;> simp
  have h2 : o5 (s.getD 0 0).toNat = true := by
   rcases Nat.eq_zero_or_pos i with h0 | h0
   ·subst h0
    revert hc1
    cases o5 (s.getD 0 0).toNat <;> simp
   ·exact hl h0
  (refine lpK_n2 (⟨i + 1, by omega, by rw [A6L (d := 0) (by omega), ha, h1]; rfl, fun _ => h2⟩) _ rfl ?_; simp only [go_sem, hS0]; first | done | ((repeat' apply And.intro) <;> first | omega | (refine w64 ?_ ?_ ?_ <;> omega) | rfl | skip))
 ·have h : s.all a6N = true := all_of_take (by omega) ha
  have h2 := hl (by omega)
  simp only [a0t, h, h2, Bool.and_true, Bool.true_and]
  simp
  omega
noncomputable def a0I : CT := i6 (fun (x : (List UInt8)) => b3C x)
@[go_sem] theorem b8Q (s : List UInt8) : a0I [(false, [.s s])] = some (True, [], .one (false, [.b (a0t s)])) := f7 _ (by intro x y h; simp at h; simp_all) s
theorem a3B : OkC Tryz.prog 173 a0I := f8 _
def a4E : ACode := q' ([o' 1 (.box 2 (.t 0)), b' 2 false]) (.seq (q' ([f' 3 1 1, l' 4 3, o' 5 (.bin .eql (.t 4) (.k (.v false [.c (.s [])])))]) (.cond (.t 5) (q' ([f' 6 0 1, l' 7
 6, c' 8 311 [7], m' 2 8]) .ret) .skip)) (q' ([f' 9 0 1, l' 10 9, o' 11 (.bin .eql (.t 10) (k' 0)), m' 12 11, ⟨some 13, .fa 1 (.t 1), some (12, true)⟩, ⟨some
 14, .ld false 1 (.t 13), some (12, true)⟩, ⟨some 15, .call 173 [.t 14], some (12, true)⟩, o' 16 (.pick (.t 12) (.t 15) (.k (.v false [.c (.b false)]))), m' 2
 16]) .ret))
theorem b0I : cmp Tryz.prog Tryz.f242 = some a4E := by kernel_rfl
theorem b2D (v : d5) : A0l Tryz.prog 242 [(true, [.i .i64 v.N, .s v.S])] [] (.one (false, [.b (a1p v)])) := by
 refine spec_of2 false false none Tryz.func242 b0I (rvs := [.t 2]) (hΓ := mkCtx_ok (deep := false) (l := [(311, [], a2R), (173, [], a0I)]) ⟨a9b, a3B, trivial⟩) (h := ?_)
 intro hb hE
 simp only [go_sem] at hb
 simp only [a4E, x']
 (try refine A2V ?_); simp only [go_sem]; (repeat' first | apply CJ.mk | intro hc); all_goals try ((repeat' first | apply And.intro | intro hs) <;> (try simp only [go_sem, Bool.and_eq_false_iff] at hs) <;> omega)
 ·simp only [a1p, hc, cond_true]
 ·simp only [a1p, hc, cond_false]
noncomputable def a1X : CT := i6 (fun (x : d5) => b2D x)
@[go_sem] theorem b7E (x0 : Int) (x1 : List UInt8) : a1X [(true, [.i .i64 x0, .s x1])] = some (True, [], .one (false, [.b (a1p (d5.mk x0 x1))])) := f7 _ (by rintro ⟨_, _⟩ ⟨_, _⟩ h; simp at h; simp_all) (d5.mk x0 x1)
theorem a8b : OkC Tryz.prog 242 a1X := f8 _
def a2a (n : Int) : Bool := decide (65 ≤ n) && decide (n ≤ 90)
def b5M (x : UInt8) : Bool := o5 x.toNat || a2a x.toNat || a0R x.toNat
def a6M (s : List UInt8) : Bool := s.all b5M && (decide (1 ≤ s.length) && decide (s.length ≤ 12) && a2a (s.getD 0 0).toNat)
def clsI (n : Int) : Int := if 97 ≤ n ∧ n ≤ 122 then 1 else if 65 ≤ n ∧ n ≤ 90 then 2 else if 48 ≤ n ∧ n ≤ 57 then 3 else 0
theorem cls2 (n : Int) : (clsI n != 2) = !a2a n := by
 unfold clsI a2a
 rw [← Bool.decide_and]
 by_cases h : 65 ≤ n ∧ n ≤ 90
 ·rw [if_neg (by omega), if_pos h]; simp [h]
 ·rw [if_neg h]; (repeat' split) <;> simp [h]
theorem cls0 (x : UInt8) : (clsI x.toNat == 0) = !b5M x := by
 unfold clsI b5M a2a o5 a0R
 rw [← Bool.decide_and, ← Bool.decide_and, ← Bool.decide_and]
 (repeat' split) <;> simp [*]
def a4p : ACode := q' ([b' 2 false]) (q' ([m' 3 0, o' 4 (.bin .geq (.t 3) (.k (.v false [.c (.i .u8 65)]))), m' 5 4, ⟨some 6, .mov (.t 0), some (5, true)⟩, ⟨some 7, .bin .leq (.t
 6) (.k (.v false [.c (.i .u8 90)])), some (5, true)⟩, o' 8 (.pick (.t 5) (.t 7) (.k (.v false [.c (.b false)]))), m' 2 8]) .ret)
theorem b0t : cmp Tryz.prog Tryz.f348 = some a4p := by kernel_rfl
theorem b2o (c : Int) : A0l Tryz.prog 348 [(false, [.i .u8 c])] [] (.one (false, [.b (a2a c)])) := by
 refine spec_of2 false false none Tryz.func348 b0t (rvs := [.t 2]) (hΓ := mkCtx_ok (deep := false) (l := []) trivial) (h := ?_)
 intro hb hE
 simp only [go_sem] at hb
 simp only [a4p, x']
 (try refine A2V ?_); simp only [go_sem]; (repeat' first | apply CJ.mk | intro hc); all_goals try ((repeat' first | apply And.intro | intro hs) <;> (try simp only [go_sem, Bool.and_eq_false_iff] at hs) <;> omega)
 rfl
noncomputable def a1J : CT := i6 (fun (x : Int) => b2o x)
@[go_sem] theorem b7p (c : Int) : a1J [(false, [.i .u8 c])] = some (True, [], .one (false, [.b (a2a c)])) := f7 _ (by intro x y h; simp at h; simp_all) c
theorem a7N : OkC Tryz.prog 348 a1J := f8 _
def a6B : ACode := q' ([b' 2 false]) (.seq (q' ([m' 4 0, o' 5 (.lens (.t 4)), z' 6 0]) (.block 0 (.loop (q' ([r' 7 6 5]) (.seq (.cond (.t 7) .skip (.exit 0)) (.seq (.block 1 (q'
 ([m' 8 6, m' 3 8]) (q' ([m' 9 0, m' 10 3, o' 11 (.ixs (.t 9) (.t 10)), c' 12 260 [11], o' 13 (.not (.t 12)), m' 14 13, ⟨some 15, .mov (.t 0), some (14,
 true)⟩, ⟨some 16, .mov (.t 3), some (14, true)⟩, ⟨some 17, .ixs (.t 15) (.t 16), some (14, true)⟩, ⟨some 18, .call 348 [.t 17], some (14, true)⟩, ⟨some 19,
 .not (.t 18), some (14, true)⟩, o' 20 (.pick (.t 14) (.t 19) (.k (.v false [.c (.b false)]))), m' 21 20, ⟨some 22, .mov (.t 0), some (21, true)⟩, ⟨some 23,
 .mov (.t 3), some (21, true)⟩, ⟨some 24, .ixs (.t 22) (.t 23), some (21, true)⟩, ⟨some 25, .call 261 [.t 24], some (21, true)⟩, ⟨some 26, .not (.t 25), some
 (21, true)⟩, o' 27 (.pick (.t 21) (.t 26) (.k (.v false [.c (.b false)])))]) (.cond (.t 27) (q' ([b' 2 false]) .ret) .skip)))) (g' [a' 28 6, m' 6 28])))))))
 (q' ([m' 29 0, o' 30 (.lens (.t 29)), o' 31 (.bin .geq (.t 30) (k' 1)), m' 32 31, ⟨some 33, .mov (.t 0), some (32, true)⟩, ⟨some 34, .lens (.t 33), some (32,
 true)⟩, ⟨some 35, .bin .leq (.t 34) (k' 12), some (32, true)⟩, o' 36 (.pick (.t 32) (.t 35) (.k (.v false [.c (.b false)]))), m' 37 36, ⟨some 38, .mov (.t 0),
 some (37, true)⟩, ⟨some 39, .ixs (.t 38) (k' 0), some (37, true)⟩, ⟨some 40, .call 348 [.t 39], some (37, true)⟩, o' 41 (.pick (.t 37) (.t 40) (.k (.v false
 [.c (.b false)]))), m' 2 41]) .ret))
theorem b2T : cmp Tryz.prog Tryz.f323 = some a6B := by kernel_rfl
theorem b4z (s : List UInt8) : A0l Tryz.prog 323 [(false, [.s s])] [] (.one (false, [.b (a6M s)])) := by
 refine spec_of2 false false none Tryz.func323 b2T (rvs := [.t 2]) (hΓ := mkCtx_ok (deep := false) (l := [(260, [], v6), (348, [], a1J), (261, [], y5)]) ⟨a1I, a7N, a2u, trivial⟩) (h := ?_)
 intro hb hE
 simp only [go_sem] at hb
 simp only [a6B, x']
 (try refine A2V ?_); simp only [go_sem]; (repeat' first | apply CJ.mk | intro hc); all_goals try ((repeat' first | apply And.intro | intro hs) <;> (try simp only [go_sem, Bool.and_eq_false_iff] at hs) <;> omega)
 refine aw_loop2 false [] [0, 5] [] [] (fun i : {i : Nat // i ≤ s.length ∧ (s.take i).all b5M = true} => [(6, slV (.i .i64 i.1))]) (fun i => []) (fun i => []) (fun i => s.length - i.1) (⟨0, by simp⟩) _ rfl ?_ ?_
 ·simp only [go_sem]
  all_goals first | omega | ((repeat' apply And.intro) <;> first | omega | rfl | skip)
 intro S0 hS0 i
 simp only [go_sem] at hS0
 obtain ⟨i, hi, ha⟩ := i
 (try refine A2V ?_); simp only [go_sem, hS0]; (repeat' first | apply CJ.mk | intro hc); all_goals try ((repeat' first | apply And.intro | intro hs) <;> (try simp only [go_sem, Bool.and_eq_false_iff] at hs) <;> omega)
 ·have h : b5M (s.getD i 0) = false := by simp only [b5M, hc, Bool.or_self]
  rw [a6M, all_false (by omega) h]; rfl
 ·(refine lpK_n2 (⟨i + 1, by omega, by rw [A6L (d := 0) (by omega), ha]; simpa [b5M, -List.getD_eq_getElem?_getD, ← Bool.not_or] using hc⟩) _ rfl ?_; simp only [go_sem, hS0]; first | done | ((repeat' apply And.intro) <;> first | omega | (refine w64 ?_ ?_ ?_ <;> omega) | rfl | skip))
 ·rw [a6M, all_of_take (by omega) ha]
  norm_cast
noncomputable def a3R : CT := i6 (fun (x : (List UInt8)) => b4z x)
@[go_sem] theorem b9h (s : List UInt8) : a3R [(false, [.s s])] = some (True, [], .one (false, [.b (a6M s)])) := f7 _ (by intro x y h; simp at h; simp_all) s
theorem b0g : OkC Tryz.prog 323 a3R := f8 _
def a3h : ACode := q' ([z' 2 0]) (.seq (q' ([m' 3 0, o' 4 (.bin .geq (.t 3) (.k (.v false [.c (.i .u8 97)]))), m' 5 4, ⟨some 6, .mov (.t 0), some (5, true)⟩, ⟨some 7, .bin .leq
 (.t 6) (.k (.v false [.c (.i .u8 122)])), some (5, true)⟩, o' 8 (.pick (.t 5) (.t 7) (.k (.v false [.c (.b false)])))]) (.cond (.t 8) (q' ([z' 2 1]) .ret)
 .skip)) (.seq (q' ([m' 9 0, o' 10 (.bin .geq (.t 9) (.k (.v false [.c (.i .u8 65)]))), m' 11 10, ⟨some 12, .mov (.t 0), some (11, true)⟩, ⟨some 13, .bin .leq
 (.t 12) (.k (.v false [.c (.i .u8 90)])), some (11, true)⟩, o' 14 (.pick (.t 11) (.t 13) (.k (.v false [.c (.b false)])))]) (.cond (.t 14) (q' ([z' 2 2])
 .ret) .skip)) (.seq (q' ([m' 15 0, o' 16 (.bin .geq (.t 15) (.k (.v false [.c (.i .u8 48)]))), m' 17 16, ⟨some 18, .mov (.t 0), some (17, true)⟩, ⟨some 19,
 .bin .leq (.t 18) (.k (.v false [.c (.i .u8 57)])), some (17, true)⟩, o' 20 (.pick (.t 17) (.t 19) (.k (.v false [.c (.b false)])))]) (.cond (.t 20) (q' ([z'
 2 3]) .ret) .skip)) (q' ([z' 2 0]) .ret))))
theorem a9s : cmp Tryz.prog Tryz.f347 = some a3h := by kernel_rfl
theorem b0W (c : Int) : A0l Tryz.prog 347 [(false, [.i .u8 c])] [] (.one (false, [.i .i64 (clsI c)])) := by
 refine spec_of2 false false none Tryz.func347 a9s (rvs := [.t 2]) (hΓ := mkCtx_ok (deep := false) (l := []) trivial) (h := ?_)
 intro hb hE
 simp only [go_sem] at hb
 simp only [a3h, x']
 (try refine A2V ?_); simp only [go_sem]; (repeat' first | apply CJ.mk | intro hc); all_goals try ((repeat' first | apply And.intro | intro hs) <;> (try simp only [go_sem, Bool.and_eq_false_iff] at hs) <;> omega)
 all_goals ((try simp only [Bool.and_eq_false_iff, decide_eq_false_iff_not] at *); simp only [clsI]; (repeat' split) <;> omega)
noncomputable def a1a : CT := i6 (fun (x : Int) => b0W x)
@[go_sem] theorem b6G (c : Int) : a1a [(false, [.i .u8 c])] = some (True, [], .one (false, [.i .i64 (clsI c)])) := f7 _ (by intro x y h; simp at h; simp_all) c
theorem a6Y : OkC Tryz.prog 347 a1a := f8 _
def a6I : ACode := q' ([b' 2 false]) (.seq (q' ([m' 4 0, o' 5 (.lens (.t 4)), o' 6 (.bin .lss (.t 5) (k' 1)), m' 7 6, ⟨some 8, .mov (.t 0), some (7, false)⟩, ⟨some 9, .lens (.t
 8), some (7, false)⟩, ⟨some 10, .bin .gtr (.t 9) (k' 12), some (7, false)⟩, o' 11 (.pick (.t 7) (.k (.v false [.c (.b true)])) (.t 10)), m' 12 11, ⟨some 13,
 .mov (.t 0), some (12, false)⟩, ⟨some 14, .ixs (.t 13) (k' 0), some (12, false)⟩, ⟨some 15, .call 347 [.t 14], some (12, false)⟩, ⟨some 16, .bin .neq (.t 15)
 (k' 2), some (12, false)⟩, o' 17 (.pick (.t 12) (.k (.v false [.c (.b true)])) (.t 16))]) (.cond (.t 17) (q' ([b' 2 false]) .ret) .skip)) (.seq (q' ([z' 3 0])
 (.block 0 (.loop (.seq (q' ([m' 18 3, m' 19 0, o' 20 (.lens (.t 19)), r' 21 18 20]) (.cond (.t 21) .skip (.exit 0))) (.seq (.block 1 (q' ([m' 24 0, m' 25 3,
 o' 26 (.ixs (.t 24) (.t 25)), c' 27 347 [26], o' 28 (.bin .eql (.t 27) (k' 0))]) (.cond (.t 28) (q' ([b' 2 false]) .ret) .skip))) (g' [m' 22 3, a' 23 22, m' 3
 23])))))) (q' ([b' 2 true]) .ret)))
theorem b3a : cmp Tryz.prog Tryz.f320 = some a6I := by kernel_rfl
theorem b4G (s : List UInt8) : A0l Tryz.prog 320 [(false, [.s s])] [] (.one (false, [.b (a6M s)])) := by
 refine spec_of2 false false none Tryz.func320 b3a (rvs := [.t 2]) (hΓ := mkCtx_ok (deep := false) (l := [(347, [], a1a)]) ⟨a6Y, trivial⟩) (h := ?_)
 intro hb hE
 simp only [go_sem] at hb
 simp only [a6I, x']
 (try refine A2V ?_); simp only [go_sem, cls2, cls0]; (repeat' first | apply CJ.mk | intro hc); all_goals try ((repeat' first | apply And.intro | intro hs) <;> (try simp only [go_sem, Bool.and_eq_false_iff] at hs) <;> omega)
 ·symm
  unfold a6M
  rcases hc with (h | h) | h
  ·rw [decide_eq_false (p := 1 ≤ s.length) (by omega)]; simp
  ·rw [decide_eq_false (p := s.length ≤ 12) (by omega)]; simp
  ·rw [h]; simp
 have hh := hc
 refine aw_loop2 false [] [0] [] [] (fun i : {i : Nat // i ≤ s.length ∧ (s.take i).all b5M = true} => [(3, slV (.i .i64 i.1))]) (fun i => []) (fun i => []) (fun i => s.length - i.1) (⟨0, by simp⟩) _ rfl ?_ ?_
 ·simp only [go_sem, cls2, cls0]
  all_goals first | omega | ((repeat' apply And.intro) <;> first | omega | rfl | skip)
 intro S0 hS0 i
 simp only [go_sem, cls2, cls0] at hS0
 obtain ⟨i, hi, ha⟩ := i
 (try refine A2V ?_); simp only [go_sem, cls2, cls0, hS0]; (repeat' first | apply CJ.mk | intro hc); all_goals try ((repeat' first | apply And.intro | intro hs) <;> (try simp only [go_sem, Bool.and_eq_false_iff] at hs) <;> omega)
 ·rw [a6M, all_false (by omega) hc]; rfl
 ·(refine lpK_n2 (⟨i + 1, by omega, by rw [A6L (d := 0) (by omega), ha, hc]; rfl⟩) _ rfl ?_; simp only [go_sem, cls2, cls0, hS0]; first | done | ((repeat' apply And.intro) <;> first | omega | (refine w64 ?_ ?_ ?_ <;> omega) | rfl | skip))
 ·symm
  rw [a6M, all_of_take (by omega) ha, hh.2, decide_eq_true (by omega), decide_eq_true (by omega)]
  rfl
 all_goals trace_state
noncomputable def a4a : CT := i6 (fun (x : (List UInt8)) => b4G x)
@[go_sem] theorem b9o (s : List UInt8) : a4a [(false, [.s s])] = some (True, [], .one (false, [.b (a6M s)])) := f7 _ (by intro x y h; simp at h; simp_all) s
theorem b0n : OkC Tryz.prog 320 a4a := f8 _
end Go.Aw
