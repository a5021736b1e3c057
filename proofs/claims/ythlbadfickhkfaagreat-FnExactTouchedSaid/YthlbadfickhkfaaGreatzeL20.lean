/- The law of a0o views. No condition. -/
import Derived.Test.YthlbadfickhkfaaGreatzeT22
import Derived.Test.YthlbadfickhkfaaGreatzeB3
import Derived.Test.YthlbadfickhkfaaGreatzeM5
import Derived.Test.YthlbadfickhkfaaGreatzeM3
import Derived.Test.YthlbadfickhkfaaGreatzeB0
namespace Go.Aw
open Go.Proofs
attribute [local irreducible] aft blk lpK retK AW A0n
set_option linter.unusedVariables false
set_option linter.unusedSimpArgs false
set_option maxRecDepth 100000
theorem c3p (x : GLit) : i4 x ≤ 12 + 12 * p4 x := by simp only [i4, p4, a1i]; omega
theorem c0K (l : List GRule) : d8 i5 l ≤ 12 * (l.length + d8 l5 l) := b7U i5 l5 12 (fun x => by
 have := b7U i4 p4 12 c3p x.Body
 simp only [i5, l5, a1i]; omega) l
theorem b9u (p : GProgram) (names : List (List UInt8)) : (a0o p names).length ≤ p.Decls.length := by
 rw [a0o]
 cases a7g p with
 | false => exact Nat.zero_le _
 | true =>
  rw [cond_true, ← b5D]
  refine Nat.le_trans (List.length_filter_le _ _) ?_
  rw [List.length_map]
  exact b1O p 3
def a3b : ACode := q' ([z' 4 0]) (q' ([m' 6 1, m' 7 0, n' 8 7, o' 9 (.bin .sub (.t 6) (.t 8)), m' 1 9]) (.seq (q' ([m' 10 1, o' 11 (.bin .lss (.t 10) (k' 0))]) (.cond (.t 11) (q'
 ([o' 4 (.mov (.k (.v false [.c (.i .i64 (-1))])))]) .ret) .skip)) (.seq (q' ([z' 5 0]) (.block 0 (.loop (.seq (q' ([m' 12 5, m' 13 0, n' 14 13, r' 15 12 14])
 (.cond (.t 15) .skip (.exit 0))) (.seq (.block 1 (q' ([m' 18 1, m' 19 0, m' 20 5, i' 21 1 19 20, l' 22 21, o' 23 (.lens (.t 22)), o' 24 (.bin .sub (.t 18) (.t
 23)), m' 1 24]) (q' ([m' 25 1, o' 26 (.bin .lss (.t 25) (k' 0))]) (.cond (.t 26) (q' ([o' 4 (.mov (.k (.v false [.c (.i .i64 (-1))])))]) .ret) .skip)))) (g'
 [m' 16 5, a' 17 16, m' 5 17])))))) (q' ([m' 27 1, m' 4 27]) .ret))))
theorem a9S : cmp Tryz.prog Tryz.f35 = some a3b := by kernel_rfl
theorem b1C (a : List (List UInt8)) (left : Int) (hpre : 0 ≤ left ∧ left ≤ 1048576) : A0n Tryz.prog 35 [(false, [.sl false [.s []] (a.map c7)]), (false, [.i .i64 left])] [] (.one (false, [.i .i64 (szR left ((a.length + d8 List.length a) : Nat))])) := by
 refine spec_of2 false false none Tryz.func35 a9S (rvs := [.t 4]) (hΓ := mkCtx_ok (deep := false) (l := []) trivial) (h := ?_)
 intro hb hE
 simp only [go_sem] at hb
 simp only [a3b, x']
 (try refine A2X ?_); simp only [go_sem]; (repeat' first | apply CJ.mk | intro hc); all_goals try ((repeat' first | apply And.intro | intro hs) <;> (try simp only [go_sem, Bool.and_eq_false_iff] at hs) <;> omega)
 · all_goals ((repeat (simp (disch := omega) only [w7] at *)) <;> (try simp only [szR, szR] at *) <;> (first | omega | (split <;> omega)))
 have hw := w7 (l := left) (n := a.length) (by omega) (by omega) (by omega) (by omega)
 rw [hw] at hc
 refine aw_loop2 false [] [0] [] [] (fun i : {i : Nat // i ≤ a.length ∧ (a.length : Int) + (d8 List.length (a.take i) : Nat) ≤ left} => [(5, slV (.i .i64 i.1)), (1, slV (.i .i64 (left - a.length - (d8 List.length (a.take i.1) : Nat))))]) (fun i => []) (fun i => []) (fun i => a.length - i.1) (⟨0, by simp only [List.take_zero, a4G]; omega⟩) _ rfl ?_ ?_
 · simp only [go_sem, hw]
  all_goals first | omega | ((repeat' apply And.intro) <;> first | omega | rfl | skip)
 intro S0 hS0 i
 simp only [go_sem, hw] at hS0
 obtain ⟨i, hi, ht⟩ := i
 (try refine A2X ?_); simp only [go_sem, hw, hS0]; (repeat' first | apply CJ.mk | intro hc); all_goals try ((repeat' first | apply And.intro | intro hs) <;> (try simp only [go_sem, Bool.and_eq_false_iff] at hs) <;> omega)
 · have hgb := hb.1.1.2 (a.getD i []) (A3n (by omega))
  have h1 := f9 List.length ([] : List UInt8) (show i < a.length by omega)
  have h2 := o9 List.length a (i + 1)
  all_goals ((repeat (simp (disch := omega) only [w7] at *)) <;> (try simp only [szR, szR] at *) <;> (first | omega | (split <;> omega)))
 · have hgb := hb.1.1.2 (a.getD i []) (A3n (by omega))
  have h1 := f9 List.length ([] : List UInt8) (show i < a.length by omega)
  have hw2 := w7 (l := left - a.length - (d8 List.length (a.take i) : Nat)) (n := (a.getD i []).length) (by omega) (by omega) (by omega) (by omega)
  rw [hw2] at hc
  (refine lpK_n2 (⟨i + 1, by omega, by omega⟩) _ rfl ?_; simp only [go_sem, hw, hS0, hw2]; first | done | ((repeat' apply And.intro) <;> first | omega | (refine w64 ?_ ?_ ?_ <;> omega) | rfl | skip))
  all_goals (first | done | (rw [h1]; omega) | omega | trace_state)
 · have h1 := a2O List.length (show ¬ i < a.length by omega)
  all_goals ((repeat (simp (disch := omega) only [w7] at *)) <;> (try simp only [szR, szR] at *) <;> (first | omega | (split <;> omega)))
noncomputable def a0D : CT := l9 (fun (x : (List (List UInt8)) × Int) h => b1C x.1 x.2 h)
@[go_sem] theorem b9H (a : List (List UInt8)) (left : Int) : a0D [(false, [.sl false [.s []] (a.map c7)]), (false, [.i .i64 left])] = some (0 ≤ left ∧ left ≤ 1048576, [], .one (false, [.i .i64 (szR left ((a.length + d8 List.length a) : Nat))])) := d5 _ (by rintro ⟨_, _⟩ ⟨_, _⟩ h; simp at h; simp_all) (a, left)
theorem a7D : OkC Tryz.prog 35 a0D := d6 _
def a3d : ACode := q' ([o' 2 (.mov (.k (.v false [.nl [.s []]])))]) (q' ([m' 5 0, n' 6 5, o' 7 (.mks 1 16 [.s] (.t 6) (.t 6)), m' 3 7]) (.seq (q' ([z' 4 0]) (.block 0 (.loop (.seq
 (q' ([m' 8 4, m' 9 0, n' 10 9, r' 11 8 10]) (.cond (.t 11) .skip (.exit 0))) (.seq (.block 1 (g' [m' 14 3, m' 15 4, m' 16 0, m' 17 4, i' 18 1 16 17, l' 19 18,
 i' 20 1 14 15, s' 1 20 19])) (g' [m' 12 4, a' 13 12, m' 4 13])))))) (q' ([m' 21 3, m' 2 21]) .ret)))
theorem a9U : cmp Tryz.prog Tryz.f37 = some a3d := by kernel_rfl
theorem b1E (a : List (List UInt8)) (hpre : (((a.length + d8 List.length a) : Nat) : Int) ≤ 1048576) : A0n Tryz.prog 37 [(false, [.sl false [.s []] (a.map c7)])] [] (.one (false, [.sl true [.s []] (a.map c7)])) := by
 refine spec_of2 true false none Tryz.func37 a9U (rvs := [.t 2]) (hΓ := mkCtx_ok (deep := true) (l := []) trivial) (h := ?_)
 intro hb hE
 simp only [go_sem] at hb
 simp only [a3d, x']
 (try refine A2X ?_); simp only [go_sem, and_true]; (repeat' first | apply CJ.mk | intro hc); all_goals try ((repeat' first | apply And.intro | intro hs) <;> (try simp only [go_sem, Bool.and_eq_false_iff] at hs) <;> omega)
 refine aw_loop2 true [] [0, 3] [] [] (fun i : {p : Nat × (List (List UInt8)) // p.1 ≤ a.length ∧ p.2.length = a.length ∧ p.2.take p.1 = a.take p.1} => [(4, slV (.i .i64 i.1.1))]) (fun i => []) (fun i => [(896, [.s []], i.1.2.map c7)]) (fun i => a.length - i.1.1) (⟨(0, List.replicate a.length []), by simp⟩) _ rfl ?_ ?_
 · simp only [go_sem, and_true]
  all_goals first | omega | ((repeat' apply And.intro) <;> first | omega | rfl | skip)
 intro S0 hS0 i
 simp only [go_sem, and_true] at hS0
 obtain ⟨⟨i, L⟩, hi, hl, ht⟩ := i
 simp only at hi hl ht
 (try refine A2X ?_); simp only [go_sem, and_true, hS0]; (repeat' first | apply CJ.mk | intro hc); all_goals try ((repeat' first | apply And.intro | intro hs) <;> (try simp only [go_sem, Bool.and_eq_false_iff] at hs) <;> omega)
 · (refine lpK_n2 (⟨(i + 1, L.set i (a.getD i [])), by simp only; omega, by simp [hl], m0 hl ht (by omega)⟩) _ rfl ?_; simp only [go_sem, and_true, hS0]; first | done | ((repeat' apply And.intro) <;> first | omega | (refine w64 ?_ ?_ ?_ <;> omega) | rfl | skip))
 · obtain rfl := l3 hl ht (by omega)
  rfl
 all_goals trace_state
noncomputable def a0F : CT := l9 (fun (x : (List (List UInt8))) h => b1E x h)
@[go_sem] theorem b9J (a : List (List UInt8)) : a0F [(false, [.sl false [.s []] (a.map c7)])] = some ((((a.length + d8 List.length a) : Nat) : Int) ≤ 1048576, [], .one (false, [.sl true [.s []] (a.map c7)])) := d5 _ (by intro x y h; simp at h; simp_all) a
theorem a7F : OkC Tryz.prog 37 a0F := d6 _
def a2W : ACode := q' ([b' 4 false]) (.seq (q' ([m' 6 0, n' 7 6, m' 8 1, n' 9 8, o' 10 (.bin .neq (.t 7) (.t 9))]) (.cond (.t 10) (q' ([b' 4 false]) .ret) .skip)) (.seq (q' ([z' 5
 0]) (.block 0 (.loop (.seq (q' ([m' 11 5, m' 12 0, n' 13 12, r' 14 11 13]) (.cond (.t 14) .skip (.exit 0))) (.seq (.block 1 (.seq (.reg true [m' 17 0, m' 18
 5, i' 19 1 17 18, l' 20 19, m' 21 1, m' 22 5, i' 23 1 21 22, l' 24 23, o' 25 (.bin .neq (.t 20) (.t 24))]) (.cond (.t 25) (q' ([b' 4 false]) .ret) .skip)))
 (g' [m' 15 5, a' 16 15, m' 5 16])))))) (q' ([b' 4 true]) .ret)))
theorem a9N : cmp Tryz.prog Tryz.f39 = some a2W := by kernel_rfl
theorem b1x (a : List (List UInt8)) (b : List (List UInt8)) : A0n Tryz.prog 39 [(false, [.sl false [.s []] (a.map c7)]), (false, [.sl false [.s []] (b.map c7)])] [] (.one (false, [.b (decide (a = b))])) := by
 refine spec_of2 false false none Tryz.func39 a9N (rvs := [.t 4]) (hΓ := mkCtx_ok (deep := false) (l := []) trivial) (h := ?_)
 intro hb hE
 simp only [go_sem] at hb
 simp only [a2W, x']
 (try refine A2X ?_); simp only [go_sem]; (repeat' first | apply CJ.mk | intro hc); all_goals try ((repeat' first | apply And.intro | intro hs) <;> (try simp only [go_sem, Bool.and_eq_false_iff] at hs) <;> omega)
 · symm
  rw [decide_eq_false_iff_not]
  rintro rfl
  simp at hc
 have hl : a.length = b.length := by simpa [Int.ofNat_inj] using hc
 refine aw_loop2 false [] [0, 1] [] [] (fun i : {i : Nat // i ≤ a.length ∧ a.take i = b.take i} => [(5, slV (.i .i64 i.1))]) (fun i => []) (fun i => []) (fun i => a.length - i.1) (⟨0, by simp⟩) _ rfl ?_ ?_
 · simp only [go_sem]
  all_goals first | omega | ((repeat' apply And.intro) <;> first | omega | rfl | skip)
 intro S0 hS0 i
 simp only [go_sem] at hS0
 obtain ⟨i, hi, ht⟩ := i
 (try refine A2X ?_); simp only [go_sem, hS0]; (repeat' first | apply CJ.mk | intro hc); all_goals try ((repeat' first | apply And.intro | intro hs) <;> (try simp only [go_sem, Bool.and_eq_false_iff] at hs) <;> omega)
 · exact (decide_eq_false (a2M [] (i := i) (by simpa using hc))).symm
 · (refine lpK_n2 (⟨i + 1, by omega, a0n ht (by omega) (by omega) (d := []) (by simpa using hc)⟩) _ rfl ?_; simp only [go_sem, hS0]; first | done | ((repeat' apply And.intro) <;> first | omega | (refine w64 ?_ ?_ ?_ <;> omega) | rfl | skip))
 · exact (decide_eq_true (l3 hl ht (by omega))).symm
 all_goals trace_state
noncomputable def a0z : CT := d7 (fun (x : (List (List UInt8)) × (List (List UInt8))) => b1x x.1 x.2)
@[go_sem] theorem b9C (a : List (List UInt8)) (b : List (List UInt8)) : a0z [(false, [.sl false [.s []] (a.map c7)]), (false, [.sl false [.s []] (b.map c7)])] = some (True, [], .one (false, [.b (decide (a = b))])) := c4 _ (by rintro ⟨_, _⟩ ⟨_, _⟩ h; simp at h; simp_all) (a, b)
theorem a7z : OkC Tryz.prog 39 a0z := c5 _
set_option maxHeartbeats 2000000
def z9 : ACode := q' ([o' 2 (.box 2 (.t 0)), b' 4 false]) (q' ([z' 5 1048576]) (q' ([e' 14 2 2, m' 15 5, c' 16 12 [14, 15], m' 5 16]) (.seq (q' ([m' 17 5, o' 18 (.bin .lss (.t
 17) (k' 0))]) (.cond (.t 18) (q' ([b' 4 true]) .ret) .skip)) (q' ([m' 19 1, m' 20 5, c' 21 35 [19, 20], m' 5 21]) (.seq (q' ([m' 22 5, o' 23 (.bin .lss (.t
 22) (k' 0))]) (.cond (.t 23) (q' ([b' 4 true]) .ret) .skip)) (q' ([e' 24 2 2, c' 25 14 [24], m' 26 1, c' 27 37 [26], c' 28 36 [25, 27], m' 6 28]) (q' ([e' 29
 2 2, c' 30 14 [29], w' 7 [.sl [.i .i64 0, .s [], .i .i64 0], .sl [.i .i64 0, .s [], .sl false [.s [], .i .i64 0, .s []] [], .sl false [.i .i64 0, .s [], .sl
 false [.s [], .i .i64 0, .s []] [], .i .i64 0, .s [], .i .i64 0, .s [], .s [], .i .i64 0, .s []] []]], s' 2 7 30]) (q' ([m' 31 1, c' 32 37 [31], m' 8 32]) (q'
 ([e' 33 2 7, m' 34 8, c' 35 38 [33, 34], m' 9 35]) (.seq (q' ([m' 36 9, m' 37 6, c' 38 39 [36, 37], o' 39 (.not (.t 38))]) (.cond (.t 39) (q' ([b' 4 false])
 .ret) .skip)) (.seq (.seq (.reg true [e' 40 2 7, e' 41 2 2, c' 42 14 [41], c' 43 17 [40, 42], o' 44 (.not (.t 43))]) (.cond (.t 44) (q' ([b' 4 false]) .ret)
 .skip)) (.seq (q' ([m' 45 8, m' 46 1, c' 47 37 [46], c' 48 39 [45, 47], o' 49 (.not (.t 48))]) (.cond (.t 49) (q' ([b' 4 false]) .ret) .skip)) (q' ([z' 10 1])
 (q' ([e' 50 2 7, m' 51 10, c' 52 18 [50, 51], m' 10 52]) (q' ([m' 53 8, m' 54 10, c' 55 40 [53, 54], m' 10 55]) (.seq (q' ([m' 56 10, o' 57 (.bin .lss (.t 56)
 (k' 0)), m' 58 57, ⟨some 59, .mov (.t 9), some (58, false)⟩, ⟨some 60, .mov (.t 6), some (58, false)⟩, ⟨some 61, .call 39 [.t 59, .t 60], some (58, false)⟩,
 ⟨some 62, .not (.t 61), some (58, false)⟩, o' 63 (.pick (.t 58) (.k (.v false [.c (.b true)])) (.t 62))]) (.cond (.t 63) (q' ([b' 4 false]) .ret) .skip)) (q'
 ([z' 11 1]) (q' ([m' 64 9, m' 65 11, c' 66 40 [64, 65], m' 11 66]) (q' ([z' 12 1]) (q' ([m' 67 9, m' 68 12, c' 69 41 [67, 68], m' 12 69]) (.seq (q' ([m' 70
 12, o' 71 (.bin .lss (.t 70) (k' 0))]) (.cond (.t 71) (q' ([b' 4 false]) .ret) .skip)) (.seq (q' ([m' 72 12, m' 73 11, o' 74 (.bin .neq (.t 72) (.t 73))])
 (.cond (.t 74) (q' ([b' 4 false]) .ret) .skip)) (q' ([e' 75 2 2, c' 76 14 [75], m' 77 1, c' 78 37 [77], c' 79 38 [76, 78], m' 13 79]) (.seq (q' ([m' 80 13, m'
 81 6, c' 82 39 [80, 81], o' 83 (.not (.t 82))]) (.cond (.t 83) (q' ([b' 4 false]) .ret) .skip)) (q' ([z' 12 1]) (q' ([m' 84 9, m' 85 12, c' 86 41 [84, 85], m'
 12 86]) (.seq (q' ([m' 87 12, o' 88 (.bin .lss (.t 87) (k' 0))]) (.cond (.t 88) (q' ([b' 4 false]) .ret) .skip)) (.seq (q' ([m' 89 12, m' 90 11, o' 91 (.bin
 .neq (.t 89) (.t 90))]) (.cond (.t 91) (q' ([b' 4 false]) .ret) .skip)) (q' ([b' 4 true]) .ret)))))))))))))))))))))))))))))
theorem a5g : cmp Tryz.prog Tryz.f8 = some z9 := by kernel_rfl
theorem a0r (p : GProgram) (names : List (List UInt8)) : A0n Tryz.prog 8 [(true, [.sl false [.i .i64 0, .s [], .i .i64 0] (p.Decls.map GDecl.cells), .sl false [.i .i64 0, .s [], .sl false [.s [], .i .i64 0, .s []] [], .sl false [.i .i64 0, .s [], .sl false [.s [], .i .i64 0, .s []] [], .i .i64 0, .s [], .i .i64 0, .s [], .s [], .i .i64 0, .s []] []] (p.Rules.map (GRule.cells false false))]), (false, [.sl false [.s []] (names.map c7)])] [] (.one (false, [.b true])) := by
 refine spec_of2 true false none Tryz.func8 a5g (rvs := [.t 4]) (hΓ := mkCtx_ok (deep := true) (l := [(12, [], a0C), (35, [], a0D), (14, [], a0E), (37, [], a0F), (36, [], a2D), (38, [], a2k), (39, [], a0z), (17, [], a0y), (18, [0], y9), (40, [0], z5), (41, [], y8)]) ⟨a7C, a7D, a7E, a7F, a9z, a9h, a7z, a7y, a5X, a5Y, a5W, trivial⟩) (h := ?_)
 intro hb hE
 simp only [go_sem] at hb
 simp only [z9, x']
 (try refine A2X ?_); simp only [go_sem]; (repeat' first | apply CJ.mk | intro hc); all_goals try ((repeat' first | apply And.intro | intro hs) <;> (try simp only [go_sem, Bool.and_eq_false_iff] at hs) <;> omega)
 all_goals have h6 := b9u p names
 all_goals have h7 := c0K p.Rules
 all_goals (try rw [s6] at hc)
 all_goals first
  | exact (hc trivial).elim
  | (exfalso; simp at hc; done)
  | (exfalso; rcases hc with h | h; · omega
     exact h trivial)
  | (simp only [szR, u2, s6] at *; omega)
  | (simp only [szR, u2, s6] at *; refine ⟨by omega, ?_⟩; trivial)
  | trace_state
noncomputable def a5V : CT := d7 (fun (x : GProgram × (List (List UInt8))) => a0r x.1 x.2)
@[go_sem] theorem b5L (p_Decls : List GDecl) (p_Rules : List GRule) (names : List (List UInt8)) : a5V [(true, [.sl false [.i .i64 0, .s [], .i .i64 0] (p_Decls.map GDecl.cells), .sl false [.i .i64 0, .s [], .sl false [.s [], .i .i64 0, .s []] [], .sl false [.i .i64 0, .s [], .sl false [.s [], .i .i64 0, .s []] [], .i .i64 0, .s [], .i .i64 0, .s [], .s [], .i .i64 0, .s []] []] (p_Rules.map (GRule.cells false false))]), (false, [.sl false [.s []] (names.map c7)])] = some (True, [], .one (false, [.b true])) := c4 _ (by rintro ⟨⟨_, _⟩, _⟩ ⟨⟨_, _⟩, _⟩ h; simp at h; simp_all) ((GProgram.mk p_Decls p_Rules), names)
end Go.Aw
