/- Environments: what the functions compute. No condition. -/
import Derived.Test.YthlbadfickhkfaaGreatzhG1
import Derived.Test.YthlbadfickhkfaaGreatlBwtzh
namespace Go.Aw
open Go.Proofs
attribute [local irreducible] aft blk lpK retK AW A0m
set_option linter.unusedVariables false
set_option linter.unusedSimpArgs false
set_option maxRecDepth 100000
def a7w : ACode := q' ([b' 2 false]) (q' ([m' 3 0, o' 4 (.bin .geq (.t 3) (k' 0)), m' 5 4, ⟨some 6, .mov (.t 0), some (5, true)⟩, ⟨some 7, .bin .leq (.t 6) (k' 281474976710655),
 some (5, true)⟩, o' 8 (.pick (.t 5) (.t 7) (.k (.v false [.c (.b false)]))), m' 2 8]) .ret)
theorem b5T : cmp Tryz.prog Tryz.f311 = some a7w := by kernel_rfl
theorem b8v (n : Int) : A0m Tryz.prog 311 [(false, [.i .i64 n])] [] (.one (false, [.b (a1j n)])) := by
 refine spec_of2 false false none Tryz.func311 b5T (rvs := [.t 2]) (hΓ := mkCtx_ok (deep := false) (l := []) trivial) (h := ?_)
 intro hb hE
 simp only [go_sem] at hb
 simp only [a7w, x']
 (try refine A2Z ?_); simp only [go_sem]; (repeat' first | apply CJ.mk | intro hc); all_goals try ((repeat' first | apply And.intro | intro hs) <;> (try simp only [go_sem, Bool.and_eq_false_iff] at hs) <;> omega)
 rfl
noncomputable def a4r : CT := j7 (fun (x : Int) => b8v x)
@[go_sem] theorem c5Q (n : Int) : a4r [(false, [.i .i64 n])] = some (True, [], .one (false, [.b (a1j n)])) := f7 _ (by intro x y h; simp at h; simp_all) n
theorem b1C : OkC Tryz.prog 311 a4r := f8 _
def a7v : ACode := q' ([b' 2 false]) (.seq (q' ([m' 6 0, o' 7 (.lens (.t 6)), o' 8 (.bin .lss (.t 7) (k' 1)), m' 9 8, ⟨some 10, .mov (.t 0), some (9, false)⟩, ⟨some 11, .lens (.t
 10), some (9, false)⟩, ⟨some 12, .bin .gtr (.t 11) (k' 12), some (9, false)⟩, o' 13 (.pick (.t 9) (.k (.v false [.c (.b true)])) (.t 12))]) (.cond (.t 13) (q'
 ([b' 2 false]) .ret) .skip)) (.seq (q' ([z' 3 0]) (.block 0 (.loop (.seq (q' ([m' 14 3, m' 15 0, o' 16 (.lens (.t 15)), r' 17 14 16]) (.cond (.t 17) .skip
 (.exit 0))) (.seq (.block 1 (q' ([m' 20 0, m' 21 3, o' 22 (.ixs (.t 20) (.t 21)), o' 23 (.bin .geq (.t 22) (.k (.v false [.c (.i .u8 97)]))), m' 24 23, ⟨some
 25, .mov (.t 0), some (24, true)⟩, ⟨some 26, .mov (.t 3), some (24, true)⟩, ⟨some 27, .ixs (.t 25) (.t 26), some (24, true)⟩, ⟨some 28, .bin .leq (.t 27) (.k
 (.v false [.c (.i .u8 122)])), some (24, true)⟩, o' 29 (.pick (.t 24) (.t 28) (.k (.v false [.c (.b false)]))), m' 4 29]) (q' ([m' 30 0, m' 31 3, o' 32 (.ixs
 (.t 30) (.t 31)), o' 33 (.bin .geq (.t 32) (.k (.v false [.c (.i .u8 48)]))), m' 34 33, ⟨some 35, .mov (.t 0), some (34, true)⟩, ⟨some 36, .mov (.t 3), some
 (34, true)⟩, ⟨some 37, .ixs (.t 35) (.t 36), some (34, true)⟩, ⟨some 38, .bin .leq (.t 37) (.k (.v false [.c (.i .u8 57)])), some (34, true)⟩, o' 39 (.pick
 (.t 34) (.t 38) (.k (.v false [.c (.b false)]))), m' 5 39]) (q' ([m' 40 4, o' 41 (.not (.t 40)), m' 42 41, ⟨some 43, .mov (.t 5), some (42, true)⟩, ⟨some 44,
 .not (.t 43), some (42, true)⟩, ⟨some 45, .mov (.t 44), some (42, true)⟩, ⟨some 46, .mov (.t 3), some (45, false)⟩, ⟨some 47, .bin .eql (.t 46) (k' 0), some
 (45, false)⟩, ⟨some 48, .pick (.t 45) (.k (.v false [.c (.b true)])) (.t 47), some (42, true)⟩, o' 49 (.pick (.t 42) (.t 48) (.k (.v false [.c (.b
 false)])))]) (.cond (.t 49) (q' ([b' 2 false]) .ret) .skip))))) (g' [m' 18 3, a' 19 18, m' 3 19])))))) (q' ([b' 2 true]) .ret)))
theorem b5S : cmp Tryz.prog Tryz.f173 = some a7v := by kernel_rfl
theorem b8u (s : List UInt8) : A0m Tryz.prog 173 [(false, [.s s])] [] (.one (false, [.b (a0R s)])) := by
 refine spec_of2 false false none Tryz.func173 b5S (rvs := [.t 2]) (hΓ := mkCtx_ok (deep := false) (l := []) trivial) (h := ?_)
 intro hb hE
 simp only [go_sem] at hb
 simp only [a7v, x']
 (try refine A2Z ?_); simp only [go_sem]; (repeat' first | apply CJ.mk | intro hc); all_goals try ((repeat' first | apply And.intro | intro hs) <;> (try simp only [go_sem, Bool.and_eq_false_iff] at hs) <;> omega)
 ·cases h : a0R s with
  | false => rfl
  | true =>
    simp only [a0R, Bool.and_eq_true, decide_eq_true_eq] at h
    omega
 refine aw_loop2 false [] [0] [] [] (fun i : {i : Nat // i ≤ s.length ∧ (s.take i).all a8Y = true ∧ (0 < i → u6 (s.getD 0 0).toNat = true)} => [(3, slV (.i .i64 i.1))]) (fun i => []) (fun i => []) (fun i => s.length - i.1) (⟨0, by simp⟩) _ rfl ?_ ?_
 ·simp only [go_sem]
  all_goals first | omega | ((repeat' apply And.intro) <;> first | omega | rfl | skip)
 intro S0 hS0 i
 simp only [go_sem] at hS0
 obtain ⟨i, hi, ha, hl⟩ := i
 (try refine A2Z ?_); simp only [go_sem, hS0]; (repeat' first | apply CJ.mk | intro hc); all_goals try ((repeat' first | apply And.intro | intro hs) <;> (try simp only [go_sem, Bool.and_eq_false_iff] at hs) <;> omega)
 ·cases h : a0R s with
  | false => rfl
  | true =>
    simp only [a0R, Bool.and_eq_true, decide_eq_true_eq] at h
    have h2 := all_getD (d := 0) h.1 (show i < s.length by omega)
    have hc1 : u6 (s.getD i 0).toNat = false ∧ (a1E (s.getD i 0).toNat = false ∨ ((i : Int) == 0) = true) := hc
    simp only [a8Y, hc1.1, Bool.false_or] at h2
    rcases hc1.2 with h3 | h3
    ·rw [h3] at h2; cases h2
    ·have : i = 0 := by simpa using h3
     subst this
     exact absurd h.2.2 (by rw [hc1.1]; exact Bool.false_ne_true)
 ·have hc1 : (!u6 (s.getD i 0).toNat && (!a1E (s.getD i 0).toNat || ((i : Int) == 0))) = false := hc
  have h1 : a8Y (s.getD i 0) = true := by
   revert hc1
   simp only [a8Y]
   generalize u6 (s.getD i 0).toNat = L
   generalize a1E (s.getD i 0).toNat = D
   cases L <;> cases D <;> simp
  have h2 : u6 (s.getD 0 0).toNat = true := by
   rcases Nat.eq_zero_or_pos i with h0 | h0
   ·subst h0
    revert hc1
    cases u6 (s.getD 0 0).toNat <;> simp
   ·exact hl h0
  (refine lpK_n2 (⟨i + 1, by omega, by rw [A6Q (d := 0) (by omega), ha, h1]; rfl, fun _ => h2⟩) _ rfl ?_; simp only [go_sem, hS0]; first | done | ((repeat' apply And.intro) <;> first | omega | (refine w64 ?_ ?_ ?_ <;> omega) | rfl | skip))
 ·have h : s.all a8Y = true := all_of_take (by omega) ha
  have h2 := hl (by omega)
  simp only [a0R, h, h2, Bool.and_true, Bool.true_and]
  simp
  omega
noncomputable def a0p : CT := j7 (fun (x : (List UInt8)) => b8u x)
@[go_sem] theorem c5P (s : List UInt8) : a0p [(false, [.s s])] = some (True, [], .one (false, [.b (a0R s)])) := f7 _ (by intro x y h; simp at h; simp_all) s
theorem a1c : OkC Tryz.prog 173 a0p := f8 _
def a6B : ACode := q' ([o' 1 (.box 2 (.t 0)), b' 2 false]) (.seq (q' ([f' 3 1 1, l' 4 3, o' 5 (.bin .eql (.t 4) (.k (.v false [.c (.s [])])))]) (.cond (.t 5) (q' ([f' 6 0 1, l' 7
 6, c' 8 311 [7], m' 2 8]) .ret) .skip)) (q' ([f' 9 0 1, l' 10 9, o' 11 (.bin .eql (.t 10) (k' 0)), m' 12 11, ⟨some 13, .fa 1 (.t 1), some (12, true)⟩, ⟨some
 14, .ld false 1 (.t 13), some (12, true)⟩, ⟨some 15, .call 173 [.t 14], some (12, true)⟩, o' 16 (.pick (.t 12) (.t 15) (.k (.v false [.c (.b false)]))), m' 2
 16]) .ret))
theorem b3Q : cmp Tryz.prog Tryz.f242 = some a6B := by kernel_rfl
theorem b6J (v : c6) : A0m Tryz.prog 242 [(true, [.i .i64 v.N, .s v.S])] [] (.one (false, [.b (i5 v)])) := by
 refine spec_of2 false false none Tryz.func242 b3Q (rvs := [.t 2]) (hΓ := mkCtx_ok (deep := false) (l := [(311, [], a4r), (173, [], a0p)]) ⟨b1C, a1c, trivial⟩) (h := ?_)
 intro hb hE
 simp only [go_sem] at hb
 simp only [a6B, x']
 (try refine A2Z ?_); simp only [go_sem]; (repeat' first | apply CJ.mk | intro hc); all_goals try ((repeat' first | apply And.intro | intro hs) <;> (try simp only [go_sem, Bool.and_eq_false_iff] at hs) <;> omega)
 ·simp only [i5, hc, cond_true]
 ·simp only [i5, hc, cond_false]
noncomputable def w4 : CT := j7 (fun (x : c6) => b6J x)
@[go_sem] theorem c4k (x0 : Int) (x1 : List UInt8) : w4 [(true, [.i .i64 x0, .s x1])] = some (True, [], .one (false, [.b (i5 (c6.mk x0 x1))])) := f7 _ (by rintro ⟨_, _⟩ ⟨_, _⟩ h; simp at h; simp_all) (c6.mk x0 x1)
theorem z8 : OkC Tryz.prog 242 w4 := f8 _
def a3r (n : Int) : Bool := decide (65 ≤ n) && decide (n ≤ 90)
def c1N (x : UInt8) : Bool := u6 x.toNat || a3r x.toNat || a1E x.toNat
def a3V (s : List UInt8) : Bool := s.all c1N && (decide (1 ≤ s.length) && decide (s.length ≤ 12) && a3r (s.getD 0 0).toNat)
def clsI (n : Int) : Int := if 97 ≤ n ∧ n ≤ 122 then 1 else if 65 ≤ n ∧ n ≤ 90 then 2 else if 48 ≤ n ∧ n ≤ 57 then 3 else 0
theorem cls2 (n : Int) : (clsI n != 2) = !a3r n := by
 unfold clsI a3r
 rw [← Bool.decide_and]
 by_cases h : 65 ≤ n ∧ n ≤ 90
 ·rw [if_neg (by omega), if_pos h]; simp [h]
 ·rw [if_neg h]; (repeat' split) <;> simp [h]
theorem cls0 (x : UInt8) : (clsI x.toNat == 0) = !c1N x := by
 unfold clsI c1N a3r u6 a1E
 rw [← Bool.decide_and, ← Bool.decide_and, ← Bool.decide_and]
 (repeat' split) <;> simp [*]
def a6k : ACode := q' ([b' 2 false]) (q' ([m' 3 0, o' 4 (.bin .geq (.t 3) (.k (.v false [.c (.i .u8 65)]))), m' 5 4, ⟨some 6, .mov (.t 0), some (5, true)⟩, ⟨some 7, .bin .leq (.t
 6) (.k (.v false [.c (.i .u8 90)])), some (5, true)⟩, o' 8 (.pick (.t 5) (.t 7) (.k (.v false [.c (.b false)]))), m' 2 8]) .ret)
theorem b3z : cmp Tryz.prog Tryz.f348 = some a6k := by kernel_rfl
theorem b6s (c : Int) : A0m Tryz.prog 348 [(false, [.i .u8 c])] [] (.one (false, [.b (a3r c)])) := by
 refine spec_of2 false false none Tryz.func348 b3z (rvs := [.t 2]) (hΓ := mkCtx_ok (deep := false) (l := []) trivial) (h := ?_)
 intro hb hE
 simp only [go_sem] at hb
 simp only [a6k, x']
 (try refine A2Z ?_); simp only [go_sem]; (repeat' first | apply CJ.mk | intro hc); all_goals try ((repeat' first | apply And.intro | intro hs) <;> (try simp only [go_sem, Bool.and_eq_false_iff] at hs) <;> omega)
 rfl
noncomputable def a2Y : CT := j7 (fun (x : Int) => b6s x)
@[go_sem] theorem c3T (c : Int) : a2Y [(false, [.i .u8 c])] = some (True, [], .one (false, [.b (a3r c)])) := f7 _ (by intro x y h; simp at h; simp_all) c
theorem b0h : OkC Tryz.prog 348 a2Y := f8 _
def a8A : ACode := q' ([b' 2 false]) (.seq (q' ([m' 4 0, o' 5 (.lens (.t 4)), z' 6 0]) (.block 0 (.loop (q' ([r' 7 6 5]) (.seq (.cond (.t 7) .skip (.exit 0)) (.seq (.block 1 (q'
 ([m' 8 6, m' 3 8]) (q' ([m' 9 0, m' 10 3, o' 11 (.ixs (.t 9) (.t 10)), c' 12 260 [11], o' 13 (.not (.t 12)), m' 14 13, ⟨some 15, .mov (.t 0), some (14,
 true)⟩, ⟨some 16, .mov (.t 3), some (14, true)⟩, ⟨some 17, .ixs (.t 15) (.t 16), some (14, true)⟩, ⟨some 18, .call 348 [.t 17], some (14, true)⟩, ⟨some 19,
 .not (.t 18), some (14, true)⟩, o' 20 (.pick (.t 14) (.t 19) (.k (.v false [.c (.b false)]))), m' 21 20, ⟨some 22, .mov (.t 0), some (21, true)⟩, ⟨some 23,
 .mov (.t 3), some (21, true)⟩, ⟨some 24, .ixs (.t 22) (.t 23), some (21, true)⟩, ⟨some 25, .call 261 [.t 24], some (21, true)⟩, ⟨some 26, .not (.t 25), some
 (21, true)⟩, o' 27 (.pick (.t 21) (.t 26) (.k (.v false [.c (.b false)])))]) (.cond (.t 27) (q' ([b' 2 false]) .ret) .skip)))) (g' [a' 28 6, m' 6 28])))))))
 (q' ([m' 29 0, o' 30 (.lens (.t 29)), o' 31 (.bin .geq (.t 30) (k' 1)), m' 32 31, ⟨some 33, .mov (.t 0), some (32, true)⟩, ⟨some 34, .lens (.t 33), some (32,
 true)⟩, ⟨some 35, .bin .leq (.t 34) (k' 12), some (32, true)⟩, o' 36 (.pick (.t 32) (.t 35) (.k (.v false [.c (.b false)]))), m' 37 36, ⟨some 38, .mov (.t 0),
 some (37, true)⟩, ⟨some 39, .ixs (.t 38) (k' 0), some (37, true)⟩, ⟨some 40, .call 348 [.t 39], some (37, true)⟩, o' 41 (.pick (.t 37) (.t 40) (.k (.v false
 [.c (.b false)]))), m' 2 41]) .ret))
theorem b7s : cmp Tryz.prog Tryz.f323 = some a8A := by kernel_rfl
theorem b9U (s : List UInt8) : A0m Tryz.prog 323 [(false, [.s s])] [] (.one (false, [.b (a3V s)])) := by
 refine spec_of2 false false none Tryz.func323 b7s (rvs := [.t 2]) (hΓ := mkCtx_ok (deep := false) (l := [(260, [], a0s), (348, [], a2Y), (261, [], a0B)]) ⟨a2X, b0h, a3L, trivial⟩) (h := ?_)
 intro hb hE
 simp only [go_sem] at hb
 simp only [a8A, x']
 (try refine A2Z ?_); simp only [go_sem]; (repeat' first | apply CJ.mk | intro hc); all_goals try ((repeat' first | apply And.intro | intro hs) <;> (try simp only [go_sem, Bool.and_eq_false_iff] at hs) <;> omega)
 refine aw_loop2 false [] [0, 5] [] [] (fun i : {i : Nat // i ≤ s.length ∧ (s.take i).all c1N = true} => [(6, slV (.i .i64 i.1))]) (fun i => []) (fun i => []) (fun i => s.length - i.1) (⟨0, by simp⟩) _ rfl ?_ ?_
 ·simp only [go_sem]
  all_goals first | omega | ((repeat' apply And.intro) <;> first | omega | rfl | skip)
 intro S0 hS0 i
 simp only [go_sem] at hS0
 obtain ⟨i, hi, ha⟩ := i
 (try refine A2Z ?_); simp only [go_sem, hS0]; (repeat' first | apply CJ.mk | intro hc); all_goals try ((repeat' first | apply And.intro | intro hs) <;> (try simp only [go_sem, Bool.and_eq_false_iff] at hs) <;> omega)
 ·have h : c1N (s.getD i 0) = false := by simp only [c1N, hc, Bool.or_self]
  rw [a3V, all_false (by omega) h]; rfl
 ·(refine lpK_n2 (⟨i + 1, by omega, by rw [A6Q (d := 0) (by omega), ha]; simpa [c1N, -List.getD_eq_getElem?_getD, ← Bool.not_or] using hc⟩) _ rfl ?_; simp only [go_sem, hS0]; first | done | ((repeat' apply And.intro) <;> first | omega | (refine w64 ?_ ?_ ?_ <;> omega) | rfl | skip))
 ·rw [a3V, all_of_take (by omega) ha]
  norm_cast
noncomputable def a5E : CT := j7 (fun (x : (List UInt8)) => b9U x)
@[go_sem] theorem c6H (s : List UInt8) : a5E [(false, [.s s])] = some (True, [], .one (false, [.b (a3V s)])) := f7 _ (by intro x y h; simp at h; simp_all) s
theorem b2Z : OkC Tryz.prog 323 a5E := f8 _
def a4U : ACode := q' ([z' 2 0]) (.seq (q' ([m' 3 0, o' 4 (.bin .geq (.t 3) (.k (.v false [.c (.i .u8 97)]))), m' 5 4, ⟨some 6, .mov (.t 0), some (5, true)⟩, ⟨some 7, .bin .leq
 (.t 6) (.k (.v false [.c (.i .u8 122)])), some (5, true)⟩, o' 8 (.pick (.t 5) (.t 7) (.k (.v false [.c (.b false)])))]) (.cond (.t 8) (q' ([z' 2 1]) .ret)
 .skip)) (.seq (q' ([m' 9 0, o' 10 (.bin .geq (.t 9) (.k (.v false [.c (.i .u8 65)]))), m' 11 10, ⟨some 12, .mov (.t 0), some (11, true)⟩, ⟨some 13, .bin .leq
 (.t 12) (.k (.v false [.c (.i .u8 90)])), some (11, true)⟩, o' 14 (.pick (.t 11) (.t 13) (.k (.v false [.c (.b false)])))]) (.cond (.t 14) (q' ([z' 2 2])
 .ret) .skip)) (.seq (q' ([m' 15 0, o' 16 (.bin .geq (.t 15) (.k (.v false [.c (.i .u8 48)]))), m' 17 16, ⟨some 18, .mov (.t 0), some (17, true)⟩, ⟨some 19,
 .bin .leq (.t 18) (.k (.v false [.c (.i .u8 57)])), some (17, true)⟩, o' 20 (.pick (.t 17) (.t 19) (.k (.v false [.c (.b false)])))]) (.cond (.t 20) (q' ([z'
 2 3]) .ret) .skip)) (q' ([z' 2 0]) .ret))))
theorem b2i : cmp Tryz.prog Tryz.f347 = some a4U := by kernel_rfl
theorem b4r (c : Int) : A0m Tryz.prog 347 [(false, [.i .u8 c])] [] (.one (false, [.i .i64 (clsI c)])) := by
 refine spec_of2 false false none Tryz.func347 b2i (rvs := [.t 2]) (hΓ := mkCtx_ok (deep := false) (l := []) trivial) (h := ?_)
 intro hb hE
 simp only [go_sem] at hb
 simp only [a4U, x']
 (try refine A2Z ?_); simp only [go_sem]; (repeat' first | apply CJ.mk | intro hc); all_goals try ((repeat' first | apply And.intro | intro hs) <;> (try simp only [go_sem, Bool.and_eq_false_iff] at hs) <;> omega)
 all_goals ((try simp only [Bool.and_eq_false_iff, decide_eq_false_iff_not] at *); simp only [clsI]; (repeat' split) <;> omega)
noncomputable def a2e : CT := j7 (fun (x : Int) => b4r x)
@[go_sem] theorem c2Y (c : Int) : a2e [(false, [.i .u8 c])] = some (True, [], .one (false, [.i .i64 (clsI c)])) := f7 _ (by intro x y h; simp at h; simp_all) c
theorem a9y : OkC Tryz.prog 347 a2e := f8 _
def a8U : ACode := q' ([b' 2 false]) (.seq (q' ([m' 4 0, o' 5 (.lens (.t 4)), o' 6 (.bin .lss (.t 5) (k' 1)), m' 7 6, ⟨some 8, .mov (.t 0), some (7, false)⟩, ⟨some 9, .lens (.t
 8), some (7, false)⟩, ⟨some 10, .bin .gtr (.t 9) (k' 12), some (7, false)⟩, o' 11 (.pick (.t 7) (.k (.v false [.c (.b true)])) (.t 10)), m' 12 11, ⟨some 13,
 .mov (.t 0), some (12, false)⟩, ⟨some 14, .ixs (.t 13) (k' 0), some (12, false)⟩, ⟨some 15, .call 347 [.t 14], some (12, false)⟩, ⟨some 16, .bin .neq (.t 15)
 (k' 2), some (12, false)⟩, o' 17 (.pick (.t 12) (.k (.v false [.c (.b true)])) (.t 16))]) (.cond (.t 17) (q' ([b' 2 false]) .ret) .skip)) (.seq (q' ([z' 3 0])
 (.block 0 (.loop (.seq (q' ([m' 18 3, m' 19 0, o' 20 (.lens (.t 19)), r' 21 18 20]) (.cond (.t 21) .skip (.exit 0))) (.seq (.block 1 (q' ([m' 24 0, m' 25 3,
 o' 26 (.ixs (.t 24) (.t 25)), c' 27 347 [26], o' 28 (.bin .eql (.t 27) (k' 0))]) (.cond (.t 28) (q' ([b' 2 false]) .ret) .skip))) (g' [m' 22 3, a' 23 22, m' 3
 23])))))) (q' ([b' 2 true]) .ret)))
theorem b7M : cmp Tryz.prog Tryz.f320 = some a8U := by kernel_rfl
theorem c0o (s : List UInt8) : A0m Tryz.prog 320 [(false, [.s s])] [] (.one (false, [.b (a3V s)])) := by
 refine spec_of2 false false none Tryz.func320 b7M (rvs := [.t 2]) (hΓ := mkCtx_ok (deep := false) (l := [(347, [], a2e)]) ⟨a9y, trivial⟩) (h := ?_)
 intro hb hE
 simp only [go_sem] at hb
 simp only [a8U, x']
 (try refine A2Z ?_); simp only [go_sem, cls2, cls0]; (repeat' first | apply CJ.mk | intro hc); all_goals try ((repeat' first | apply And.intro | intro hs) <;> (try simp only [go_sem, Bool.and_eq_false_iff] at hs) <;> omega)
 ·symm
  unfold a3V
  rcases hc with (h | h) | h
  ·rw [decide_eq_false (p := 1 ≤ s.length) (by omega)]; simp
  ·rw [decide_eq_false (p := s.length ≤ 12) (by omega)]; simp
  ·rw [h]; simp
 have hh := hc
 refine aw_loop2 false [] [0] [] [] (fun i : {i : Nat // i ≤ s.length ∧ (s.take i).all c1N = true} => [(3, slV (.i .i64 i.1))]) (fun i => []) (fun i => []) (fun i => s.length - i.1) (⟨0, by simp⟩) _ rfl ?_ ?_
 ·simp only [go_sem, cls2, cls0]
  all_goals first | omega | ((repeat' apply And.intro) <;> first | omega | rfl | skip)
 intro S0 hS0 i
 simp only [go_sem, cls2, cls0] at hS0
 obtain ⟨i, hi, ha⟩ := i
 (try refine A2Z ?_); simp only [go_sem, cls2, cls0, hS0]; (repeat' first | apply CJ.mk | intro hc); all_goals try ((repeat' first | apply And.intro | intro hs) <;> (try simp only [go_sem, Bool.and_eq_false_iff] at hs) <;> omega)
 ·rw [a3V, all_false (by omega) hc]; rfl
 ·(refine lpK_n2 (⟨i + 1, by omega, by rw [A6Q (d := 0) (by omega), ha, hc]; rfl⟩) _ rfl ?_; simp only [go_sem, cls2, cls0, hS0]; first | done | ((repeat' apply And.intro) <;> first | omega | (refine w64 ?_ ?_ ?_ <;> omega) | rfl | skip))
 ·symm
  rw [a3V, all_of_take (by omega) ha, hh.2, decide_eq_true (by omega), decide_eq_true (by omega)]
  rfl
 all_goals trace_state
noncomputable def a5V : CT := j7 (fun (x : (List UInt8)) => c0o x)
@[go_sem] theorem c7c (s : List UInt8) : a5V [(false, [.s s])] = some (True, [], .one (false, [.b (a3V s)])) := f7 _ (by intro x y h; simp at h; simp_all) s
theorem b3q : OkC Tryz.prog 320 a5V := f8 _
def getB (e : c8) (v : List UInt8) : Nat := a5X e.Binds.length fun i => (e.Binds.getD i default).Var == v
def l6 (e : c8) (v : List UInt8) : c6 × Bool := if getB e v < e.Binds.length then ((e.Binds.getD (getB e v) default).Val, true) else (default, false)
theorem a7V {e : c8} {v : List UInt8} (h : ∀ j, j < e.Binds.length → ((e.Binds.getD j default).Var == v) = false) : l6 e v = (default, false) := by
 have := a7X h
 rw [l6, getB, this, if_neg (by omega)]
theorem a7W {e : c8} {v : List UInt8} {i : Nat} (hi : i < e.Binds.length) (h : ∀ j, j < i → ((e.Binds.getD j default).Var == v) = false) (hp : ((e.Binds.getD i default).Var == v) = true) : l6 e v = ((e.Binds.getD i default).Val, true) := by
 have := a3R h hp hi
 rw [l6, getB, this, if_pos hi]
def a8H : ACode := q' ([o' 2 (.box 1 (.t 0)), w' 4 [.i .i64, .s], b' 5 false]) (.seq (q' ([f' 8 0 2, l' 9 8, n' 10 9, z' 11 0]) (.block 0 (.loop (q' ([r' 12 11 10]) (.seq (.cond
 (.t 12) .skip (.exit 0)) (.seq (.block 1 (q' ([i' 13 3 9 11, e' 14 3 13, w' 7 [.s, .i .i64, .s], s' 3 7 14]) (q' ([f' 15 0 7, l' 16 15, m' 17 1, o' 18 (.bin
 .eql (.t 16) (.t 17))]) (.cond (.t 18) (q' ([f' 19 1 7, e' 20 2 19, s' 2 4 20, b' 5 true]) .ret) .skip)))) (g' [a' 21 11, m' 11 21]))))))) (q' ([o' 22 (.bld
 [.i .i64, .s] []), s' 2 4 22, b' 5 false]) .ret))
theorem b7z : cmp Tryz.prog Tryz.f324 = some a8H := by kernel_rfl
theorem c0b (e : c8) (v : List UInt8) : A0m Tryz.prog 324 [(true, [.sl false [.s [], .i .i64 0, .s []] (e.Binds.map c7.cells)]), (false, [.s v])] [] (.tup [(true, [.i .i64 (((l6 e v).1).N), .s (((l6 e v).1).S)]), (false, [.b ((l6 e v).2)])]) := by
 refine spec_of2 false false none Tryz.func324 b7z (rvs := [.c 4 true 2, .t 5]) (hΓ := mkCtx_ok (deep := false) (l := []) trivial) (h := ?_)
 intro hb hE
 simp only [go_sem] at hb
 simp only [a8H, x']
 (try refine A2Z ?_); simp only [go_sem]; (repeat' first | apply CJ.mk | intro hc); all_goals try ((repeat' first | apply And.intro | intro hs) <;> (try simp only [go_sem, Bool.and_eq_false_iff] at hs) <;> omega)
 refine aw_loop2 false [] [1, 4, 9, 10] [] [] (fun i : {i : Nat // i ≤ e.Binds.length ∧ ∀ j, j < i → ((e.Binds.getD j default).Var == v) = false} => [(11, slV (.i .i64 i.1))]) (fun i => [(8, [.c (.i .i64 0), .c (.s [])])]) (fun i => []) (fun i => e.Binds.length - i.1) (⟨0, by simp⟩) _ rfl ?_ ?_
 ·simp only [go_sem]
  all_goals first | omega | ((repeat' apply And.intro) <;> first | omega | rfl | skip)
 intro S0 hS0 i
 simp only [go_sem] at hS0
 obtain ⟨i, hi, ha⟩ := i
 (try refine A2Z ?_); simp only [go_sem, hS0]; (repeat' first | apply CJ.mk | intro hc); all_goals try ((repeat' first | apply And.intro | intro hs) <;> (try simp only [go_sem, Bool.and_eq_false_iff] at hs) <;> omega)
 ·rw [a7W (by omega) ha hc]; exact ⟨⟨rfl, rfl⟩, rfl⟩
 ·(refine lpK_n2 (⟨i + 1, by omega, fun j hj => (Nat.lt_succ_iff_lt_or_eq.1 hj).elim (ha j) (fun q => q ▸ hc)⟩) _ rfl ?_; simp only [go_sem, hS0]; first | done | ((repeat' apply And.intro) <;> first | omega | (refine w64 ?_ ?_ ?_ <;> omega) | rfl | skip))
 ·rw [a7V fun j hj => ha j (by omega)]; exact ⟨⟨rfl, rfl⟩, rfl⟩
noncomputable def a5J : CT := j7 (fun (x : c8 × (List UInt8)) => c0b x.1 x.2)
@[go_sem] theorem c6P (x0 : List c7) (v : List UInt8) : a5J [(true, [.sl false [.s [], .i .i64 0, .s []] (x0.map c7.cells)]), (false, [.s v])] = some (True, [], .tup [(true, [.i .i64 (((l6 (c8.mk x0) v).1).N), .s (((l6 (c8.mk x0) v).1).S)]), (false, [.b ((l6 (c8.mk x0) v).2)])]) := f7 _ (by rintro ⟨⟨_⟩, _⟩ ⟨⟨_⟩, _⟩ h; simp at h; simp_all) ((c8.mk x0), v)
theorem b3e : OkC Tryz.prog 324 a5J := f8 _
def a7B : ACode := q' ([o' 2 (.box 1 (.t 0)), w' 4 [.i .i64, .s], b' 5 false]) (.seq (q' ([f' 8 0 2, l' 9 8, n' 10 9, z' 11 0]) (.block 0 (.loop (q' ([r' 12 11 10]) (.seq (.cond
 (.t 12) .skip (.exit 0)) (.seq (.block 1 (q' ([i' 13 3 9 11, e' 14 3 13, w' 7 [.s, .i .i64, .s], s' 3 7 14]) (q' ([f' 15 0 7, l' 16 15, m' 17 1, o' 18 (.bin
 .eql (.t 16) (.t 17))]) (.cond (.t 18) (q' ([f' 19 1 7, e' 20 2 19, s' 2 4 20, b' 5 true]) .ret) .skip)))) (g' [a' 21 11, m' 11 21]))))))) (q' ([o' 22 (.bld
 [.i .i64, .s] []), s' 2 4 22, b' 5 false]) .ret))
theorem b5Y : cmp Tryz.prog Tryz.f266 = some a7B := by kernel_rfl
theorem b8A (e : c8) (v : List UInt8) : A0m Tryz.prog 266 [(true, [.sl false [.s [], .i .i64 0, .s []] (e.Binds.map c7.cells)]), (false, [.s v])] [] (.tup [(true, [.i .i64 (((l6 e v).1).N), .s (((l6 e v).1).S)]), (false, [.b ((l6 e v).2)])]) := by
 refine spec_of2 false false none Tryz.func266 b5Y (rvs := [.c 4 true 2, .t 5]) (hΓ := mkCtx_ok (deep := false) (l := []) trivial) (h := ?_)
 intro hb hE
 simp only [go_sem] at hb
 simp only [a7B, x']
 (try refine A2Z ?_); simp only [go_sem]; (repeat' first | apply CJ.mk | intro hc); all_goals try ((repeat' first | apply And.intro | intro hs) <;> (try simp only [go_sem, Bool.and_eq_false_iff] at hs) <;> omega)
 refine aw_loop2 false [] [1, 4, 9, 10] [] [] (fun i : {i : Nat // i ≤ e.Binds.length ∧ ∀ j, j < i → ((e.Binds.getD j default).Var == v) = false} => [(11, slV (.i .i64 i.1))]) (fun i => [(8, [.c (.i .i64 0), .c (.s [])])]) (fun i => []) (fun i => e.Binds.length - i.1) (⟨0, by simp⟩) _ rfl ?_ ?_
 ·simp only [go_sem]
  all_goals first | omega | ((repeat' apply And.intro) <;> first | omega | rfl | skip)
 intro S0 hS0 i
 simp only [go_sem] at hS0
 obtain ⟨i, hi, ha⟩ := i
 (try refine A2Z ?_); simp only [go_sem, hS0]; (repeat' first | apply CJ.mk | intro hc); all_goals try ((repeat' first | apply And.intro | intro hs) <;> (try simp only [go_sem, Bool.and_eq_false_iff] at hs) <;> omega)
 ·rw [a7W (by omega) ha hc]; exact ⟨⟨rfl, rfl⟩, rfl⟩
 ·(refine lpK_n2 (⟨i + 1, by omega, fun j hj => (Nat.lt_succ_iff_lt_or_eq.1 hj).elim (ha j) (fun q => q ▸ hc)⟩) _ rfl ?_; simp only [go_sem, hS0]; first | done | ((repeat' apply And.intro) <;> first | omega | (refine w64 ?_ ?_ ?_ <;> omega) | rfl | skip))
 ·rw [a7V fun j hj => ha j (by omega)]; exact ⟨⟨rfl, rfl⟩, rfl⟩
noncomputable def a0q : CT := j7 (fun (x : c8 × (List UInt8)) => b8A x.1 x.2)
@[go_sem] theorem c5V (x0 : List c7) (v : List UInt8) : a0q [(true, [.sl false [.s [], .i .i64 0, .s []] (x0.map c7.cells)]), (false, [.s v])] = some (True, [], .tup [(true, [.i .i64 (((l6 (c8.mk x0) v).1).N), .s (((l6 (c8.mk x0) v).1).S)]), (false, [.b ((l6 (c8.mk x0) v).2)])]) := f7 _ (by rintro ⟨⟨_⟩, _⟩ ⟨⟨_⟩, _⟩ h; simp at h; simp_all) ((c8.mk x0), v)
theorem a1d : OkC Tryz.prog 266 a0q := f8 _
end Go.Aw
