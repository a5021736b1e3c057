/- The law of a0D views. No condition. -/
import Derived.Test.YthlbadfickhkfaaGreatzeT22
import Derived.Test.YthlbadfickhkfaaGreatzeB3
import Derived.Test.YthlbadfickhkfaaGreatzeM5
import Derived.Test.YthlbadfickhkfaaGreatzeM3
import Derived.Test.YthlbadfickhkfaaGreatzeB0
namespace Go.Aw
open Go.Proofs
attribute [local irreducible] aft blk lpK retK AW A0l
set_option linter.unusedVariables false
set_option linter.unusedSimpArgs false
set_option maxRecDepth 100000
theorem c3E (x : c8) : k6 x ≤ 12 + 12 * t5 x := by simp only [k6, t5, a1x]; omega
theorem c0Z (l : List c4) : i9 k7 l ≤ 12 * (l.length + i9 o6 l) := b8j k7 o6 12 (fun x => by
 have := b8j k6 t5 12 c3E x.Body
 simp only [k7, o6, a1x]; omega) l
theorem b9J (p : c6) (names : List (List UInt8)) : (a0D p names).length ≤ p.Decls.length := by
 rw [a0D]
 cases a7v p with
 | false => exact Nat.zero_le _
 | true =>
   rw [cond_true, ← b5S]
   refine Nat.le_trans (List.length_filter_le _ _) ?_
   rw [List.length_map]
   exact b2d p 3
def a3q : ACode := q' ([z' 4 0]) (q' ([m' 6 1, m' 7 0, n' 8 7, o' 9 (.bin .sub (.t 6) (.t 8)), m' 1 9]) (.seq (q' ([m' 10 1, o' 11 (.bin .lss (.t 10) (k' 0))]) (.cond (.t 11) (q'
 ([o' 4 (.mov (.k (.v false [.c (.i .i64 (-1))])))]) .ret) .skip)) (.seq (q' ([z' 5 0]) (.block 0 (.loop (.seq (q' ([m' 12 5, m' 13 0, n' 14 13, r' 15 12 14])
 (.cond (.t 15) .skip (.exit 0))) (.seq (.block 1 (q' ([m' 18 1, m' 19 0, m' 20 5, i' 21 1 19 20, l' 22 21, o' 23 (.lens (.t 22)), o' 24 (.bin .sub (.t 18) (.t
 23)), m' 1 24]) (q' ([m' 25 1, o' 26 (.bin .lss (.t 25) (k' 0))]) (.cond (.t 26) (q' ([o' 4 (.mov (.k (.v false [.c (.i .i64 (-1))])))]) .ret) .skip)))) (g'
 [m' 16 5, a' 17 16, m' 5 17])))))) (q' ([m' 27 1, m' 4 27]) .ret))))
theorem b0h : cmp Tryz.prog Tryz.f35 = some a3q := by kernel_rfl
theorem b1R (a : List (List UInt8)) (left : Int) (hpre : 0 ≤ left ∧ left ≤ 1048576) : A0l Tryz.prog 35 [(false, [.sl false [.s []] (a.map g8)]), (false, [.i .i64 left])] [] (.one (false, [.i .i64 (szR left ((a.length + i9 List.length a) : Nat))])) := by
 refine spec_of2 false false none Tryz.func35 b0h (rvs := [.t 4]) (hΓ := mkCtx_ok (deep := false) (l := []) trivial) (h := ?_)
 intro hb hE
 simp only [go_sem] at hb
 simp only [a3q, x']
 (try refine A2V ?_); simp only [go_sem]; (repeat' first | apply CJ.mk | intro hc); all_goals try ((repeat' first | apply And.intro | intro hs) <;> (try simp only [go_sem, Bool.and_eq_false_iff] at hs) <;> omega)
 ·all_goals ((repeat (simp (disch := omega) only [a0a] at *)) <;> (try simp only [szR, szR] at *) <;> (first | omega | (split <;> omega)))
 have hw := a0a (l := left) (n := a.length) (by omega) (by omega) (by omega) (by omega)
 rw [hw] at hc
 refine aw_loop2 false [] [0] [] [] (fun i : {i : Nat // i ≤ a.length ∧ (a.length : Int) + (i9 List.length (a.take i) : Nat) ≤ left} => [(5, slV (.i .i64 i.1)), (1, slV (.i .i64 (left - a.length - (i9 List.length (a.take i.1) : Nat))))]) (fun i => []) (fun i => []) (fun i => a.length - i.1) (⟨0, by simp only [List.take_zero, a4V]; omega⟩) _ rfl ?_ ?_
 ·simp only [go_sem, hw]
  all_goals first | omega | ((repeat' apply And.intro) <;> first | omega | rfl | skip)
 intro S0 hS0 i
 simp only [go_sem, hw] at hS0
 obtain ⟨i, hi, ht⟩ := i
 (try refine A2V ?_); simp only [go_sem, hw, hS0]; (repeat' first | apply CJ.mk | intro hc); all_goals try ((repeat' first | apply And.intro | intro hs) <;> (try simp only [go_sem, Bool.and_eq_false_iff] at hs) <;> omega)
 ·have hgb := hb.1.1.2 (a.getD i []) (A3l (by omega))
  have h1 := j6 List.length ([] : List UInt8) (show i < a.length by omega)
  have h2 := t2 List.length a (i + 1)
  all_goals ((repeat (simp (disch := omega) only [a0a] at *)) <;> (try simp only [szR, szR] at *) <;> (first | omega | (split <;> omega)))
 ·have hgb := hb.1.1.2 (a.getD i []) (A3l (by omega))
  have h1 := j6 List.length ([] : List UInt8) (show i < a.length by omega)
  have hw2 := a0a (l := left - a.length - (i9 List.length (a.take i) : Nat)) (n := (a.getD i []).length) (by omega) (by omega) (by omega) (by omega)
  rw [hw2] at hc
  (refine lpK_n2 (⟨i + 1, by omega, by omega⟩) _ rfl ?_; simp only [go_sem, hw, hS0, hw2]; first | done | ((repeat' apply And.intro) <;> first | omega | (refine w64 ?_ ?_ ?_ <;> omega) | rfl | skip))
  all_goals (first | done | (rw [h1]; omega) | omega | trace_state)
 ·have h1 := a3d List.length (show ¬ i < a.length by omega)
  all_goals ((repeat (simp (disch := omega) only [a0a] at *)) <;> (try simp only [szR, szR] at *) <;> (first | omega | (split <;> omega)))
noncomputable def a0S : CT := p4 (fun (x : (List (List UInt8)) × Int) h => b1R x.1 x.2 h)
@[go_sem] theorem b9W (a : List (List UInt8)) (x0 : Int) : a0S [(false, [.sl false [.s []] (a.map g8)]), (false, [.i .i64 x0])] = some (0 ≤ x0 ∧ x0 ≤ 1048576, [], .one (false, [.i .i64 (szR x0 ((a.length + i9 List.length a) : Nat))])) := i6 _ (by rintro ⟨_, _⟩ ⟨_, _⟩ h; simp at h; simp_all) (a, x0)
theorem a7S : OkC Tryz.prog 35 a0S := i7 _
def a3s : ACode := q' ([o' 2 (.mov (.k (.v false [.nl [.s []]])))]) (q' ([m' 5 0, n' 6 5, o' 7 (.mks 1 16 [.s] (.t 6) (.t 6)), m' 3 7]) (.seq (q' ([z' 4 0]) (.block 0 (.loop (.seq
 (q' ([m' 8 4, m' 9 0, n' 10 9, r' 11 8 10]) (.cond (.t 11) .skip (.exit 0))) (.seq (.block 1 (g' [m' 14 3, m' 15 4, m' 16 0, m' 17 4, i' 18 1 16 17, l' 19 18,
 i' 20 1 14 15, s' 1 20 19])) (g' [m' 12 4, a' 13 12, m' 4 13])))))) (q' ([m' 21 3, m' 2 21]) .ret)))
theorem b0j : cmp Tryz.prog Tryz.f37 = some a3s := by kernel_rfl
theorem b1T (a : List (List UInt8)) (hpre : (((a.length + i9 List.length a) : Nat) : Int) ≤ 1048576) : A0l Tryz.prog 37 [(false, [.sl false [.s []] (a.map g8)])] [] (.one (false, [.sl true [.s []] (a.map g8)])) := by
 refine spec_of2 true false none Tryz.func37 b0j (rvs := [.t 2]) (hΓ := mkCtx_ok (deep := true) (l := []) trivial) (h := ?_)
 intro hb hE
 simp only [go_sem] at hb
 simp only [a3s, x']
 (try refine A2V ?_); simp only [go_sem, and_true]; (repeat' first | apply CJ.mk | intro hc); all_goals try ((repeat' first | apply And.intro | intro hs) <;> (try simp only [go_sem, Bool.and_eq_false_iff] at hs) <;> omega)
 refine aw_loop2 true [] [0, 3] [] [] (fun i : {p : Nat × (List (List UInt8)) // p.1 ≤ a.length ∧ p.2.length = a.length ∧ p.2.take p.1 = a.take p.1} => [(4, slV (.i .i64 i.1.1))]) (fun i => []) (fun i => [(896, [.s []], i.1.2.map g8)]) (fun i => a.length - i.1.1) (⟨(0, List.replicate a.length []), by simp⟩) _ rfl ?_ ?_
 ·simp only [go_sem, and_true]
  all_goals first | omega | ((repeat' apply And.intro) <;> first | omega | rfl | skip)
 intro S0 hS0 i
 simp only [go_sem, and_true] at hS0
 obtain ⟨⟨i, L⟩, hi, hl, ht⟩ := i
 simp only at hi hl ht
 (try refine A2V ?_); simp only [go_sem, and_true, hS0]; (repeat' first | apply CJ.mk | intro hc); all_goals try ((repeat' first | apply And.intro | intro hs) <;> (try simp only [go_sem, Bool.and_eq_false_iff] at hs) <;> omega)
 ·(refine lpK_n2 (⟨(i + 1, L.set i (a.getD i [])), by simp only; omega, by simp [hl], p5 hl ht (by omega)⟩) _ rfl ?_; simp only [go_sem, and_true, hS0]; first | done | ((repeat' apply And.intro) <;> first | omega | (refine w64 ?_ ?_ ?_ <;> omega) | rfl | skip))
 ·obtain rfl := o0 hl ht (by omega)
  rfl
 all_goals trace_state
noncomputable def a0U : CT := p4 (fun (x : (List (List UInt8))) h => b1T x h)
@[go_sem] theorem b9Y (a : List (List UInt8)) : a0U [(false, [.sl false [.s []] (a.map g8)])] = some ((((a.length + i9 List.length a) : Nat) : Int) ≤ 1048576, [], .one (false, [.sl true [.s []] (a.map g8)])) := i6 _ (by intro x y h; simp at h; simp_all) a
theorem a7U : OkC Tryz.prog 37 a0U := i7 _
def a3l : ACode := q' ([b' 4 false]) (.seq (q' ([m' 6 0, n' 7 6, m' 8 1, n' 9 8, o' 10 (.bin .neq (.t 7) (.t 9))]) (.cond (.t 10) (q' ([b' 4 false]) .ret) .skip)) (.seq (q' ([z' 5
 0]) (.block 0 (.loop (.seq (q' ([m' 11 5, m' 12 0, n' 13 12, r' 14 11 13]) (.cond (.t 14) .skip (.exit 0))) (.seq (.block 1 (.seq (.reg true [m' 17 0, m' 18
 5, i' 19 1 17 18, l' 20 19, m' 21 1, m' 22 5, i' 23 1 21 22, l' 24 23, o' 25 (.bin .neq (.t 20) (.t 24))]) (.cond (.t 25) (q' ([b' 4 false]) .ret) .skip)))
 (g' [m' 15 5, a' 16 15, m' 5 16])))))) (q' ([b' 4 true]) .ret)))
theorem b0c : cmp Tryz.prog Tryz.f39 = some a3l := by kernel_rfl
theorem b1M (a : List (List UInt8)) (b : List (List UInt8)) : A0l Tryz.prog 39 [(false, [.sl false [.s []] (a.map g8)]), (false, [.sl false [.s []] (b.map g8)])] [] (.one (false, [.b (decide (a = b))])) := by
 refine spec_of2 false false none Tryz.func39 b0c (rvs := [.t 4]) (hΓ := mkCtx_ok (deep := false) (l := []) trivial) (h := ?_)
 intro hb hE
 simp only [go_sem] at hb
 simp only [a3l, x']
 (try refine A2V ?_); simp only [go_sem]; (repeat' first | apply CJ.mk | intro hc); all_goals try ((repeat' first | apply And.intro | intro hs) <;> (try simp only [go_sem, Bool.and_eq_false_iff] at hs) <;> omega)
 ·symm
  rw [decide_eq_false_iff_not]
  rintro rfl
  simp at hc
 have hl : a.length = b.length := by simpa [Int.ofNat_inj] using hc
 refine aw_loop2 false [] [0, 1] [] [] (fun i : {i : Nat // i ≤ a.length ∧ a.take i = b.take i} => [(5, slV (.i .i64 i.1))]) (fun i => []) (fun i => []) (fun i => a.length - i.1) (⟨0, by simp⟩) _ rfl ?_ ?_
 ·simp only [go_sem]
  all_goals first | omega | ((repeat' apply And.intro) <;> first | omega | rfl | skip)
 intro S0 hS0 i
 simp only [go_sem] at hS0
 obtain ⟨i, hi, ht⟩ := i
 (try refine A2V ?_); simp only [go_sem, hS0]; (repeat' first | apply CJ.mk | intro hc); all_goals try ((repeat' first | apply And.intro | intro hs) <;> (try simp only [go_sem, Bool.and_eq_false_iff] at hs) <;> omega)
 ·exact (decide_eq_false (a3b [] (i := i) (by simpa using hc))).symm
 ·(refine lpK_n2 (⟨i + 1, by omega, a0C ht (by omega) (by omega) (d := []) (by simpa using hc)⟩) _ rfl ?_; simp only [go_sem, hS0]; first | done | ((repeat' apply And.intro) <;> first | omega | (refine w64 ?_ ?_ ?_ <;> omega) | rfl | skip))
 ·exact (decide_eq_true (o0 hl ht (by omega))).symm
 all_goals trace_state
noncomputable def a0O : CT := i8 (fun (x : (List (List UInt8)) × (List (List UInt8))) => b1M x.1 x.2)
@[go_sem] theorem b9R (a b : List (List UInt8)) : a0O [(false, [.sl false [.s []] (a.map g8)]), (false, [.sl false [.s []] (b.map g8)])] = some (True, [], .one (false, [.b (decide (a = b))])) := f5 _ (by rintro ⟨_, _⟩ ⟨_, _⟩ h; simp at h; simp_all) (a, b)
theorem a7O : OkC Tryz.prog 39 a0O := f7 _
set_option maxHeartbeats 2000000
def a0o : ACode := q' ([o' 2 (.box 2 (.t 0)), b' 4 false]) (q' ([z' 5 1048576]) (q' ([e' 14 2 2, m' 15 5, c' 16 12 [14, 15], m' 5 16]) (.seq (q' ([m' 17 5, o' 18 (.bin .lss (.t
 17) (k' 0))]) (.cond (.t 18) (q' ([b' 4 true]) .ret) .skip)) (q' ([m' 19 1, m' 20 5, c' 21 35 [19, 20], m' 5 21]) (.seq (q' ([m' 22 5, o' 23 (.bin .lss (.t
 22) (k' 0))]) (.cond (.t 23) (q' ([b' 4 true]) .ret) .skip)) (q' ([e' 24 2 2, c' 25 14 [24], m' 26 1, c' 27 37 [26], c' 28 36 [25, 27], m' 6 28]) (q' ([e' 29
 2 2, c' 30 14 [29], w' 7 [.sl [.i .i64 0, .s [], .i .i64 0], .sl [.i .i64 0, .s [], .sl false [.s [], .i .i64 0, .s []] [], .sl false [.i .i64 0, .s [], .sl
 false [.s [], .i .i64 0, .s []] [], .i .i64 0, .s [], .i .i64 0, .s [], .s [], .i .i64 0, .s []] []]], s' 2 7 30]) (q' ([m' 31 1, c' 32 37 [31], m' 8 32]) (q'
 ([e' 33 2 7, m' 34 8, c' 35 38 [33, 34], m' 9 35]) (.seq (q' ([m' 36 9, m' 37 6, c' 38 39 [36, 37], o' 39 (.not (.t 38))]) (.cond (.t 39) (q' ([b' 4 false])
 .ret) .skip)) (.seq (.seq (.reg true [e' 40 2 7, e' 41 2 2, c' 42 14 [41], c' 43 17 [40, 42], o' 44 (.not (.t 43))]) (.cond (.t 44) (q' ([b' 4 false]) .ret)
 .skip)) (.seq (q' ([m' 45 8, m' 46 1, c' 47 37 [46], c' 48 39 [45, 47], o' 49 (.not (.t 48))]) (.cond (.t 49) (q' ([b' 4 false]) .ret) .skip)) (q' ([z' 10 1])
 (q' ([e' 50 2 7, m' 51 10, c' 52 18 [50, 51], m' 10 52]) (q' ([m' 53 8, m' 54 10, c' 55 40 [53, 54], m' 10 55]) (.seq (q' ([m' 56 10, o' 57 (.bin .lss (.t 56)
 (k' 0)), m' 58 57, ⟨some 59, .mov (.t 9), some (58, false)⟩, ⟨some 60, .mov (.t 6), some (58, false)⟩, ⟨some 61, .call 39 [.t 59, .t 60], some (58, false)⟩,
 ⟨some 62, .not (.t 61), some (58, false)⟩, o' 63 (.pick (.t 58) (.k (.v false [.c (.b true)])) (.t 62))]) (.cond (.t 63) (q' ([b' 4 false]) .ret) .skip)) (q'
 ([z' 11 1]) (q' ([m' 64 9, m' 65 11, c' 66 40 [64, 65], m' 11 66]) (q' ([z' 12 1]) (q' ([m' 67 9, m' 68 12, c' 69 41 [67, 68], m' 12 69]) (.seq (q' ([m' 70
 12, o' 71 (.bin .lss (.t 70) (k' 0))]) (.cond (.t 71) (q' ([b' 4 false]) .ret) .skip)) (.seq (q' ([m' 72 12, m' 73 11, o' 74 (.bin .neq (.t 72) (.t 73))])
 (.cond (.t 74) (q' ([b' 4 false]) .ret) .skip)) (q' ([e' 75 2 2, c' 76 14 [75], m' 77 1, c' 78 37 [77], c' 79 38 [76, 78], m' 13 79]) (.seq (q' ([m' 80 13, m'
 81 6, c' 82 39 [80, 81], o' 83 (.not (.t 82))]) (.cond (.t 83) (q' ([b' 4 false]) .ret) .skip)) (q' ([z' 12 1]) (q' ([m' 84 9, m' 85 12, c' 86 41 [84, 85], m'
 12 86]) (.seq (q' ([m' 87 12, o' 88 (.bin .lss (.t 87) (k' 0))]) (.cond (.t 88) (q' ([b' 4 false]) .ret) .skip)) (.seq (q' ([m' 89 12, m' 90 11, o' 91 (.bin
 .neq (.t 89) (.t 90))]) (.cond (.t 91) (q' ([b' 4 false]) .ret) .skip)) (q' ([b' 4 true]) .ret)))))))))))))))))))))))))))))
theorem a5v : cmp Tryz.prog Tryz.f8 = some a0o := by kernel_rfl
theorem a0G (p : c6) (names : List (List UInt8)) : A0l Tryz.prog 8 [(true, [.sl false [.i .i64 0, .s [], .i .i64 0] (p.Decls.map c7.cells), .sl false [.i .i64 0, .s [], .sl false [.s [], .i .i64 0, .s []] [], .sl false [.i .i64 0, .s [], .sl false [.s [], .i .i64 0, .s []] [], .i .i64 0, .s [], .i .i64 0, .s [], .s [], .i .i64 0, .s []] []] (p.Rules.map (c4.cells false false))]), (false, [.sl false [.s []] (names.map g8)])] [] (.one (false, [.b true])) := by
 refine spec_of2 true false none Tryz.func8 a5v (rvs := [.t 4]) (hΓ := mkCtx_ok (deep := true) (l := [(12, [], a0R), (35, [], a0S), (14, [], a0T), (37, [], a0U), (36, [], a2S), (38, [], a2z), (39, [], a0O), (17, [], a0N), (18, [0], a0j), (40, [0], a0k), (41, [], a0i)]) ⟨a7R, a7S, a7T, a7U, a9O, a9w, a7O, a7N, a6m, a6n, a6l, trivial⟩) (h := ?_)
 intro hb hE
 simp only [go_sem] at hb
 simp only [a0o, x']
 (try refine A2V ?_); simp only [go_sem]; (repeat' first | apply CJ.mk | intro hc); all_goals try ((repeat' first | apply And.intro | intro hs) <;> (try simp only [go_sem, Bool.and_eq_false_iff] at hs) <;> omega)
 all_goals have h6 := b9J p names
 all_goals have h7 := c0Z p.Rules
 all_goals (try rw [u5] at hc)
 all_goals first
  | exact (hc trivial).elim
  | (exfalso; simp at hc; done)
  | (exfalso; rcases hc with h | h; · omega
     exact h trivial)
  | (simp only [szR, w6, u5] at *; omega)
  | (simp only [szR, w6, u5] at *; refine ⟨by omega, ?_⟩; trivial)
  | trace_state
noncomputable def a6k : CT := i8 (fun (x : c6 × (List (List UInt8))) => a0G x.1 x.2)
@[go_sem] theorem b6a (x0 : List c7) (x1 : List c4) (x2 : List (List UInt8)) : a6k [(true, [.sl false [.i .i64 0, .s [], .i .i64 0] (x0.map c7.cells), .sl false [.i .i64 0, .s [], .sl false [.s [], .i .i64 0, .s []] [], .sl false [.i .i64 0, .s [], .sl false [.s [], .i .i64 0, .s []] [], .i .i64 0, .s [], .i .i64 0, .s [], .s [], .i .i64 0, .s []] []] (x1.map (c4.cells false false))]), (false, [.sl false [.s []] (x2.map g8)])] = some (True, [], .one (false, [.b true])) := f5 _ (by rintro ⟨⟨_, _⟩, _⟩ ⟨⟨_, _⟩, _⟩ h; simp at h; simp_all) ((c6.mk x0 x1), x2)
end Go.Aw
