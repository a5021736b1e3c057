/- Environments: what the functions compute. No condition. -/
import Derived.Test.YthlbadfickhkfaaGreatzgG1
import Derived.Test.YthlbadfickhkfaaGreathBwtzg
namespace Go.Aw
open Go.Proofs
attribute [local irreducible] aft blk lpK retK AW A0l
set_option linter.unusedVariables false
set_option linter.unusedSimpArgs false
set_option maxRecDepth 100000
def a7W : ACode := q' ([b' 2 false]) (q' ([m' 3 0, o' 4 (.bin .geq (.t 3) (k' 0)), m' 5 4, ⟨some 6, .mov (.t 0), some (5, true)⟩, ⟨some 7, .bin .leq (.t 6) (k' 281474976710655),
 some (5, true)⟩, o' 8 (.pick (.t 5) (.t 7) (.k (.v false [.c (.b false)]))), m' 2 8]) .ret)
theorem b6L : cmp Tryz.prog Tryz.f311 = some a7W := by kernel_rfl
theorem b9i (n : Int) : A0l Tryz.prog 311 [(false, [.i .i64 n])] [] (.one (false, [.b (a1f n)])) := by
 refine spec_of2 false false none Tryz.func311 b6L (rvs := [.t 2]) (hΓ := mkCtx_ok (deep := false) (l := []) trivial) (h := ?_)
 intro hb hE
 simp only [go_sem] at hb
 simp only [a7W, x']
 (try refine A2V ?_); simp only [go_sem]; (repeat' first | apply CJ.mk | intro hc); all_goals try ((repeat' first | apply And.intro | intro hs) <;> (try simp only [go_sem, Bool.and_eq_false_iff] at hs) <;> omega)
 rfl
noncomputable def a4z : CT := i5 (fun (x : Int) => b9i x)
@[go_sem] theorem c6I (n : Int) : a4z [(false, [.i .i64 n])] = some (True, [], .one (false, [.b (a1f n)])) := f7 _ (by intro x y h; simp at h; simp_all) n
theorem b2G : OkC Tryz.prog 311 a4z := f8 _
def a7V : ACode := q' ([b' 2 false]) (.seq (q' ([m' 6 0, o' 7 (.lens (.t 6)), o' 8 (.bin .lss (.t 7) (k' 1)), m' 9 8, ⟨some 10, .mov (.t 0), some (9, false)⟩, ⟨some 11, .lens (.t
 10), some (9, false)⟩, ⟨some 12, .bin .gtr (.t 11) (k' 12), some (9, false)⟩, o' 13 (.pick (.t 9) (.k (.v false [.c (.b true)])) (.t 12))]) (.cond (.t 13) (q'
 ([b' 2 false]) .ret) .skip)) (.seq (q' ([z' 3 0]) (.block 0 (.loop (.seq (q' ([m' 14 3, m' 15 0, o' 16 (.lens (.t 15)), r' 17 14 16]) (.cond (.t 17) .skip
 (.exit 0))) (.seq (.block 1 (q' ([m' 20 0, m' 21 3, o' 22 (.ixs (.t 20) (.t 21)), o' 23 (.bin .geq (.t 22) (.k (.v false [.c (.i .u8 97)]))), m' 24 23, ⟨some
 25, .mov (.t 0), some (24, true)⟩, ⟨some 26, .mov (.t 3), some (24, true)⟩, ⟨some 27, .ixs (.t 25) (.t 26), some (24, true)⟩, ⟨some 28, .bin .leq (.t 27) (.k
 (.v false [.c (.i .u8 122)])), some (24, true)⟩, o' 29 (.pick (.t 24) (.t 28) (.k (.v false [.c (.b false)]))), m' 4 29]) (q' ([m' 30 0, m' 31 3, o' 32 (.ixs
 (.t 30) (.t 31)), o' 33 (.bin .geq (.t 32) (.k (.v false [.c (.i .u8 48)]))), m' 34 33, ⟨some 35, .mov (.t 0), some (34, true)⟩, ⟨some 36, .mov (.t 3), some
 (34, true)⟩, ⟨some 37, .ixs (.t 35) (.t 36), some (34, true)⟩, ⟨some 38, .bin .leq (.t 37) (.k (.v false [.c (.i .u8 57)])), some (34, true)⟩, o' 39 (.pick
 (.t 34) (.t 38) (.k (.v false [.c (.b false)]))), m' 5 39]) (q' ([m' 40 4, o' 41 (.not (.t 40)), m' 42 41, ⟨some 43, .mov (.t 5), some (42, true)⟩, ⟨some 44,
 .not (.t 43), some (42, true)⟩, ⟨some 45, .mov (.t 44), some (42, true)⟩, ⟨some 46, .mov (.t 3), some (45, false)⟩, ⟨some 47, .bin .eql (.t 46) (k' 0), some
 (45, false)⟩, ⟨some 48, .pick (.t 45) (.k (.v false [.c (.b true)])) (.t 47), some (42, true)⟩, o' 49 (.pick (.t 42) (.t 48) (.k (.v false [.c (.b
 false)])))]) (.cond (.t 49) (q' ([b' 2 false]) .ret) .skip))))) (g' [m' 18 3, a' 19 18, m' 3 19])))))) (q' ([b' 2 true]) .ret)))
theorem b6K : cmp Tryz.prog Tryz.f173 = some a7V := by kernel_rfl
theorem b9h (s : List UInt8) : A0l Tryz.prog 173 [(false, [.s s])] [] (.one (false, [.b (a0N s)])) := by
 refine spec_of2 false false none Tryz.func173 b6K (rvs := [.t 2]) (hΓ := mkCtx_ok (deep := false) (l := []) trivial) (h := ?_)
 intro hb hE
 simp only [go_sem] at hb
 simp only [a7V, x']
 (try refine A2V ?_); simp only [go_sem]; (repeat' first | apply CJ.mk | intro hc); all_goals try ((repeat' first | apply And.intro | intro hs) <;> (try simp only [go_sem, Bool.and_eq_false_iff] at hs) <;> omega)
 ·cases h : a0N s with
  | false => rfl
  | true =>
    simp only [a0N, Bool.and_eq_true, decide_eq_true_eq] at h
    omega
 refine aw_loop2 false [] [0] [] [] (fun i : {i : Nat // i ≤ s.length ∧ (s.take i).all a9G = true ∧ (0 < i → u1 (s.getD 0 0).toNat = true)} => [(3, slV (.i .i64 i.1))]) (fun i => []) (fun i => []) (fun i => s.length - i.1) (⟨0, by simp⟩) _ rfl ?_ ?_
 ·simp only [go_sem]
  all_goals first | omega | ((repeat' apply And.intro) <;> first | omega | rfl | skip)
 intro S0 hS0 i
 simp only [go_sem] at hS0
 obtain ⟨i, hi, ha, hl⟩ := i
 (try refine A2V ?_); simp only [go_sem, hS0]; (repeat' first | apply CJ.mk | intro hc); all_goals try ((repeat' first | apply And.intro | intro hs) <;> (try simp only [go_sem, Bool.and_eq_false_iff] at hs) <;> omega)
 ·cases h : a0N s with
  | false => rfl
  | true =>
    simp only [a0N, Bool.and_eq_true, decide_eq_true_eq] at h
    have h2 := all_getD (d := 0) h.1 (show i < s.length by omega)
    have hc1 : u1 (s.getD i 0).toNat = false ∧ (a1E (s.getD i 0).toNat = false ∨ ((i : Int) == 0) = true) := hc
    simp only [a9G, hc1.1, Bool.false_or] at h2
    rcases hc1.2 with h3 | h3
    ·rw [h3] at h2; cases h2
    ·have : i = 0 := by simpa using h3
     subst this
     exact absurd h.2.2 (by rw [hc1.1]; exact Bool.false_ne_true)
 ·have hc1 : (!u1 (s.getD i 0).toNat && (!a1E (s.getD i 0).toNat || ((i : Int) == 0))) = false := hc
  have h1 : a9G (s.getD i 0) = true := by
   revert hc1
   simp only [a9G]
   generalize u1 (s.getD i 0).toNat = L
   generalize a1E (s.getD i 0).toNat = D
   cases L <;> cases D <;> simp
  have h2 : u1 (s.getD 0 0).toNat = true := by
   rcases Nat.eq_zero_or_pos i with h0 | h0
   ·subst h0
    revert hc1
    cases u1 (s.getD 0 0).toNat <;> simp
   ·exact hl h0
  (refine lpK_n2 (⟨i + 1, by omega, by rw [A6L (d := 0) (by omega), ha, h1]; rfl, fun _ => h2⟩) _ rfl ?_; simp only [go_sem, hS0]; first | done | ((repeat' apply And.intro) <;> first | omega | (refine w64 ?_ ?_ ?_ <;> omega) | rfl | skip))
 ·have h : s.all a9G = true := all_of_take (by omega) ha
  have h2 := hl (by omega)
  simp only [a0N, h, h2, Bool.and_true, Bool.true_and]
  simp
  omega
noncomputable def a0c : CT := i5 (fun (x : (List UInt8)) => b9h x)
@[go_sem] theorem c6H (s : List UInt8) : a0c [(false, [.s s])] = some (True, [], .one (false, [.b (a0N s)])) := f7 _ (by intro x y h; simp at h; simp_all) s
theorem a1c : OkC Tryz.prog 173 a0c := f8 _
def a6V : ACode := q' ([o' 1 (.box 2 (.t 0)), b' 2 false]) (.seq (q' ([f' 3 1 1, l' 4 3, o' 5 (.bin .eql (.t 4) (.k (.v false [.c (.s [])])))]) (.cond (.t 5) (q' ([f' 6 0 1, l' 7
 6, c' 8 311 [7], m' 2 8]) .ret) .skip)) (q' ([f' 9 0 1, l' 10 9, o' 11 (.bin .eql (.t 10) (k' 0)), m' 12 11, ⟨some 13, .fa 1 (.t 1), some (12, true)⟩, ⟨some
 14, .ld false 1 (.t 13), some (12, true)⟩, ⟨some 15, .call 173 [.t 14], some (12, true)⟩, o' 16 (.pick (.t 12) (.t 15) (.k (.v false [.c (.b false)]))), m' 2
 16]) .ret))
theorem b4U : cmp Tryz.prog Tryz.f242 = some a6V := by kernel_rfl
theorem b7B (v : c9) : A0l Tryz.prog 242 [(true, [.i .i64 v.N, .s v.S])] [] (.one (false, [.b (j4 v)])) := by
 refine spec_of2 false false none Tryz.func242 b4U (rvs := [.t 2]) (hΓ := mkCtx_ok (deep := false) (l := [(311, [], a4z), (173, [], a0c)]) ⟨b2G, a1c, trivial⟩) (h := ?_)
 intro hb hE
 simp only [go_sem] at hb
 simp only [a6V, x']
 (try refine A2V ?_); simp only [go_sem]; (repeat' first | apply CJ.mk | intro hc); all_goals try ((repeat' first | apply And.intro | intro hs) <;> (try simp only [go_sem, Bool.and_eq_false_iff] at hs) <;> omega)
 ·simp only [j4, hc, cond_true]
 ·simp only [j4, hc, cond_false]
noncomputable def a0E : CT := i5 (fun (x : c9) => b7B x)
@[go_sem] theorem c5f (x0 : Int) (x1 : List UInt8) : a0E [(true, [.i .i64 x0, .s x1])] = some (True, [], .one (false, [.b (j4 (c9.mk x0 x1))])) := f7 _ (by rintro ⟨_, _⟩ ⟨_, _⟩ h; simp at h; simp_all) (c9.mk x0 x1)
theorem a3Z : OkC Tryz.prog 242 a0E := f8 _
def a3v (n : Int) : Bool := decide (65 ≤ n) && decide (n ≤ 90)
def c2y (x : UInt8) : Bool := u1 x.toNat || a3v x.toNat || a1E x.toNat
def a9F (s : List UInt8) : Bool := s.all c2y && (decide (1 ≤ s.length) && decide (s.length ≤ 12) && a3v (s.getD 0 0).toNat)
def clsI (n : Int) : Int := if 97 ≤ n ∧ n ≤ 122 then 1 else if 65 ≤ n ∧ n ≤ 90 then 2 else if 48 ≤ n ∧ n ≤ 57 then 3 else 0
theorem cls2 (n : Int) : (clsI n != 2) = !a3v n := by
 unfold clsI a3v
 rw [← Bool.decide_and]
 by_cases h : 65 ≤ n ∧ n ≤ 90
 ·rw [if_neg (by omega), if_pos h]; simp [h]
 ·rw [if_neg h]; (repeat' split) <;> simp [h]
theorem cls0 (x : UInt8) : (clsI x.toNat == 0) = !c2y x := by
 unfold clsI c2y a3v u1 a1E
 rw [← Bool.decide_and, ← Bool.decide_and, ← Bool.decide_and]
 (repeat' split) <;> simp [*]
def a6y : ACode := q' ([b' 2 false]) (q' ([m' 3 0, o' 4 (.bin .geq (.t 3) (.k (.v false [.c (.i .u8 65)]))), m' 5 4, ⟨some 6, .mov (.t 0), some (5, true)⟩, ⟨some 7, .bin .leq (.t
 6) (.k (.v false [.c (.i .u8 90)])), some (5, true)⟩, o' 8 (.pick (.t 5) (.t 7) (.k (.v false [.c (.b false)]))), m' 2 8]) .ret)
theorem b4x : cmp Tryz.prog Tryz.f348 = some a6y := by kernel_rfl
theorem b7e (c : Int) : A0l Tryz.prog 348 [(false, [.i .u8 c])] [] (.one (false, [.b (a3v c)])) := by
 refine spec_of2 false false none Tryz.func348 b4x (rvs := [.t 2]) (hΓ := mkCtx_ok (deep := false) (l := []) trivial) (h := ?_)
 intro hb hE
 simp only [go_sem] at hb
 simp only [a6y, x']
 (try refine A2V ?_); simp only [go_sem]; (repeat' first | apply CJ.mk | intro hc); all_goals try ((repeat' first | apply And.intro | intro hs) <;> (try simp only [go_sem, Bool.and_eq_false_iff] at hs) <;> omega)
 rfl
noncomputable def a2W : CT := i5 (fun (x : Int) => b7e x)
@[go_sem] theorem c4I (c : Int) : a2W [(false, [.i .u8 c])] = some (True, [], .one (false, [.b (a3v c)])) := f7 _ (by intro x y h; simp at h; simp_all) c
theorem b0X : OkC Tryz.prog 348 a2W := f8 _
def a9j : ACode := q' ([b' 2 false]) (.seq (q' ([m' 4 0, o' 5 (.lens (.t 4)), z' 6 0]) (.block 0 (.loop (q' ([r' 7 6 5]) (.seq (.cond (.t 7) .skip (.exit 0)) (.seq (.block 1 (q'
 ([m' 8 6, m' 3 8]) (q' ([m' 9 0, m' 10 3, o' 11 (.ixs (.t 9) (.t 10)), c' 12 260 [11], o' 13 (.not (.t 12)), m' 14 13, ⟨some 15, .mov (.t 0), some (14,
 true)⟩, ⟨some 16, .mov (.t 3), some (14, true)⟩, ⟨some 17, .ixs (.t 15) (.t 16), some (14, true)⟩, ⟨some 18, .call 348 [.t 17], some (14, true)⟩, ⟨some 19,
 .not (.t 18), some (14, true)⟩, o' 20 (.pick (.t 14) (.t 19) (.k (.v false [.c (.b false)]))), m' 21 20, ⟨some 22, .mov (.t 0), some (21, true)⟩, ⟨some 23,
 .mov (.t 3), some (21, true)⟩, ⟨some 24, .ixs (.t 22) (.t 23), some (21, true)⟩, ⟨some 25, .call 261 [.t 24], some (21, true)⟩, ⟨some 26, .not (.t 25), some
 (21, true)⟩, o' 27 (.pick (.t 21) (.t 26) (.k (.v false [.c (.b false)])))]) (.cond (.t 27) (q' ([b' 2 false]) .ret) .skip)))) (g' [a' 28 6, m' 6 28])))))))
 (q' ([m' 29 0, o' 30 (.lens (.t 29)), o' 31 (.bin .geq (.t 30) (k' 1)), m' 32 31, ⟨some 33, .mov (.t 0), some (32, true)⟩, ⟨some 34, .lens (.t 33), some (32,
 true)⟩, ⟨some 35, .bin .leq (.t 34) (k' 12), some (32, true)⟩, o' 36 (.pick (.t 32) (.t 35) (.k (.v false [.c (.b false)]))), m' 37 36, ⟨some 38, .mov (.t 0),
 some (37, true)⟩, ⟨some 39, .ixs (.t 38) (k' 0), some (37, true)⟩, ⟨some 40, .call 348 [.t 39], some (37, true)⟩, o' 41 (.pick (.t 37) (.t 40) (.k (.v false
 [.c (.b false)]))), m' 2 41]) .ret))
theorem b8i : cmp Tryz.prog Tryz.f323 = some a9j := by kernel_rfl
theorem c0D (s : List UInt8) : A0l Tryz.prog 323 [(false, [.s s])] [] (.one (false, [.b (a9F s)])) := by
 refine spec_of2 false false none Tryz.func323 b8i (rvs := [.t 2]) (hΓ := mkCtx_ok (deep := false) (l := [(260, [], a0f), (348, [], a2W), (261, [], a0v)]) ⟨a2V, b0X, a3S, trivial⟩) (h := ?_)
 intro hb hE
 simp only [go_sem] at hb
 simp only [a9j, x']
 (try refine A2V ?_); simp only [go_sem]; (repeat' first | apply CJ.mk | intro hc); all_goals try ((repeat' first | apply And.intro | intro hs) <;> (try simp only [go_sem, Bool.and_eq_false_iff] at hs) <;> omega)
 refine aw_loop2 false [] [0, 5] [] [] (fun i : {i : Nat // i ≤ s.length ∧ (s.take i).all c2y = true} => [(6, slV (.i .i64 i.1))]) (fun i => []) (fun i => []) (fun i => s.length - i.1) (⟨0, by simp⟩) _ rfl ?_ ?_
 ·simp only [go_sem]
  all_goals first | omega | ((repeat' apply And.intro) <;> first | omega | rfl | skip)
 intro S0 hS0 i
 simp only [go_sem] at hS0
 obtain ⟨i, hi, ha⟩ := i
 (try refine A2V ?_); simp only [go_sem, hS0]; (repeat' first | apply CJ.mk | intro hc); all_goals try ((repeat' first | apply And.intro | intro hs) <;> (try simp only [go_sem, Bool.and_eq_false_iff] at hs) <;> omega)
 ·have h : c2y (s.getD i 0) = false := by simp only [c2y, hc, Bool.or_self]
  rw [a9F, all_false (by omega) h]; rfl
 ·(refine lpK_n2 (⟨i + 1, by omega, by rw [A6L (d := 0) (by omega), ha]; simpa [c2y, -List.getD_eq_getElem?_getD, ← Bool.not_or] using hc⟩) _ rfl ?_; simp only [go_sem, hS0]; first | done | ((repeat' apply And.intro) <;> first | omega | (refine w64 ?_ ?_ ?_ <;> omega) | rfl | skip))
 ·rw [a9F, all_of_take (by omega) ha]
  norm_cast
noncomputable def a5O : CT := i5 (fun (x : (List UInt8)) => c0D x)
@[go_sem] theorem c7w (s : List UInt8) : a5O [(false, [.s s])] = some (True, [], .one (false, [.b (a9F s)])) := f7 _ (by intro x y h; simp at h; simp_all) s
theorem b3Y : OkC Tryz.prog 323 a5O := f8 _
def a4S : ACode := q' ([z' 2 0]) (.seq (q' ([m' 3 0, o' 4 (.bin .geq (.t 3) (.k (.v false [.c (.i .u8 97)]))), m' 5 4, ⟨some 6, .mov (.t 0), some (5, true)⟩, ⟨some 7, .bin .leq
 (.t 6) (.k (.v false [.c (.i .u8 122)])), some (5, true)⟩, o' 8 (.pick (.t 5) (.t 7) (.k (.v false [.c (.b false)])))]) (.cond (.t 8) (q' ([z' 2 1]) .ret)
 .skip)) (.seq (q' ([m' 9 0, o' 10 (.bin .geq (.t 9) (.k (.v false [.c (.i .u8 65)]))), m' 11 10, ⟨some 12, .mov (.t 0), some (11, true)⟩, ⟨some 13, .bin .leq
 (.t 12) (.k (.v false [.c (.i .u8 90)])), some (11, true)⟩, o' 14 (.pick (.t 11) (.t 13) (.k (.v false [.c (.b false)])))]) (.cond (.t 14) (q' ([z' 2 2])
 .ret) .skip)) (.seq (q' ([m' 15 0, o' 16 (.bin .geq (.t 15) (.k (.v false [.c (.i .u8 48)]))), m' 17 16, ⟨some 18, .mov (.t 0), some (17, true)⟩, ⟨some 19,
 .bin .leq (.t 18) (.k (.v false [.c (.i .u8 57)])), some (17, true)⟩, o' 20 (.pick (.t 17) (.t 19) (.k (.v false [.c (.b false)])))]) (.cond (.t 20) (q' ([z'
 2 3]) .ret) .skip)) (q' ([z' 2 0]) .ret))))
theorem b3d : cmp Tryz.prog Tryz.f347 = some a4S := by kernel_rfl
theorem b5o (c : Int) : A0l Tryz.prog 347 [(false, [.i .u8 c])] [] (.one (false, [.i .i64 (clsI c)])) := by
 refine spec_of2 false false none Tryz.func347 b3d (rvs := [.t 2]) (hΓ := mkCtx_ok (deep := false) (l := []) trivial) (h := ?_)
 intro hb hE
 simp only [go_sem] at hb
 simp only [a4S, x']
 (try refine A2V ?_); simp only [go_sem]; (repeat' first | apply CJ.mk | intro hc); all_goals try ((repeat' first | apply And.intro | intro hs) <;> (try simp only [go_sem, Bool.and_eq_false_iff] at hs) <;> omega)
 all_goals ((try simp only [Bool.and_eq_false_iff, decide_eq_false_iff_not] at *); simp only [clsI]; (repeat' split) <;> omega)
noncomputable def a1V : CT := i5 (fun (x : Int) => b5o x)
@[go_sem] theorem c3H (c : Int) : a1V [(false, [.i .u8 c])] = some (True, [], .one (false, [.i .i64 (clsI c)])) := f7 _ (by intro x y h; simp at h; simp_all) c
theorem b0a : OkC Tryz.prog 347 a1V := f8 _
def a9y : ACode := q' ([b' 2 false]) (.seq (q' ([m' 4 0, o' 5 (.lens (.t 4)), o' 6 (.bin .lss (.t 5) (k' 1)), m' 7 6, ⟨some 8, .mov (.t 0), some (7, false)⟩, ⟨some 9, .lens (.t
 8), some (7, false)⟩, ⟨some 10, .bin .gtr (.t 9) (k' 12), some (7, false)⟩, o' 11 (.pick (.t 7) (.k (.v false [.c (.b true)])) (.t 10)), m' 12 11, ⟨some 13,
 .mov (.t 0), some (12, false)⟩, ⟨some 14, .ixs (.t 13) (k' 0), some (12, false)⟩, ⟨some 15, .call 347 [.t 14], some (12, false)⟩, ⟨some 16, .bin .neq (.t 15)
 (k' 2), some (12, false)⟩, o' 17 (.pick (.t 12) (.k (.v false [.c (.b true)])) (.t 16))]) (.cond (.t 17) (q' ([b' 2 false]) .ret) .skip)) (.seq (q' ([z' 3 0])
 (.block 0 (.loop (.seq (q' ([m' 18 3, m' 19 0, o' 20 (.lens (.t 19)), r' 21 18 20]) (.cond (.t 21) .skip (.exit 0))) (.seq (.block 1 (q' ([m' 24 0, m' 25 3,
 o' 26 (.ixs (.t 24) (.t 25)), c' 27 347 [26], o' 28 (.bin .eql (.t 27) (k' 0))]) (.cond (.t 28) (q' ([b' 2 false]) .ret) .skip))) (g' [m' 22 3, a' 23 22, m' 3
 23])))))) (q' ([b' 2 true]) .ret)))
theorem b8x : cmp Tryz.prog Tryz.f320 = some a9y := by kernel_rfl
theorem c0S (s : List UInt8) : A0l Tryz.prog 320 [(false, [.s s])] [] (.one (false, [.b (a9F s)])) := by
 refine spec_of2 false false none Tryz.func320 b8x (rvs := [.t 2]) (hΓ := mkCtx_ok (deep := false) (l := [(347, [], a1V)]) ⟨b0a, trivial⟩) (h := ?_)
 intro hb hE
 simp only [go_sem] at hb
 simp only [a9y, x']
 (try refine A2V ?_); simp only [go_sem, cls2, cls0]; (repeat' first | apply CJ.mk | intro hc); all_goals try ((repeat' first | apply And.intro | intro hs) <;> (try simp only [go_sem, Bool.and_eq_false_iff] at hs) <;> omega)
 ·symm
  unfold a9F
  rcases hc with (h | h) | h
  ·rw [decide_eq_false (p := 1 ≤ s.length) (by omega)]; simp
  ·rw [decide_eq_false (p := s.length ≤ 12) (by omega)]; simp
  ·rw [h]; simp
 have hh := hc
 refine aw_loop2 false [] [0] [] [] (fun i : {i : Nat // i ≤ s.length ∧ (s.take i).all c2y = true} => [(3, slV (.i .i64 i.1))]) (fun i => []) (fun i => []) (fun i => s.length - i.1) (⟨0, by simp⟩) _ rfl ?_ ?_
 ·simp only [go_sem, cls2, cls0]
  all_goals first | omega | ((repeat' apply And.intro) <;> first | omega | rfl | skip)
 intro S0 hS0 i
 simp only [go_sem, cls2, cls0] at hS0
 obtain ⟨i, hi, ha⟩ := i
 (try refine A2V ?_); simp only [go_sem, cls2, cls0, hS0]; (repeat' first | apply CJ.mk | intro hc); all_goals try ((repeat' first | apply And.intro | intro hs) <;> (try simp only [go_sem, Bool.and_eq_false_iff] at hs) <;> omega)
 ·rw [a9F, all_false (by omega) hc]; rfl
 ·(refine lpK_n2 (⟨i + 1, by omega, by rw [A6L (d := 0) (by omega), ha, hc]; rfl⟩) _ rfl ?_; simp only [go_sem, cls2, cls0, hS0]; first | done | ((repeat' apply And.intro) <;> first | omega | (refine w64 ?_ ?_ ?_ <;> omega) | rfl | skip))
 ·symm
  rw [a9F, all_of_take (by omega) ha, hh.2, decide_eq_true (by omega), decide_eq_true (by omega)]
  rfl
 all_goals trace_state
noncomputable def a6c : CT := i5 (fun (x : (List UInt8)) => c0S x)
@[go_sem] theorem c7L (s : List UInt8) : a6c [(false, [.s s])] = some (True, [], .one (false, [.b (a9F s)])) := f7 _ (by intro x y h; simp at h; simp_all) s
theorem b4m : OkC Tryz.prog 320 a6c := f8 _
end Go.Aw
