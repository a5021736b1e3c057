/- Plain rules. No condition. -/
import Derived.Test.YthlbadfickhkfaaGreatzcT3
namespace Go.Aw
open Go.Proofs
attribute [local irreducible] aft blk lpK retK AW A0l
set_option linter.unusedVariables false
set_option linter.unusedSimpArgs false
set_option maxRecDepth 100000
def pktS : List UInt8 := [112, 97, 99, 107, 101, 116]
def fwdS : List UInt8 := [102, 111, 114, 119, 97, 114, 100]
abbrev f5 (r : GRule) : List GTerm := (r.Body.getD 0 default).Atom.Args
def n0 (r : GRule) : Bool := (r.Body.length : Int) == 0 || !((r.Body.getD 0 default).Kind == 1) || !((r.Body.getD 0 default).Atom.Name == pktS) || !((f5 r).length == (4 : Int))
def a2j (l : List GTerm) (i : Nat) : Bool := e8 (l.getD i default) && (l.take i).any fun y => (l.getD i default).Var == y.Var
def isW (w : List (List UInt8)) (t : GTerm) : Bool := e8 t && w.contains t.Var
def n8 (w : List (List UInt8)) (l : GLit) : Bool := l.Kind == 3 && (isW w l.A && (decide (2 < l.Op) || e8 l.B) || isW w l.B && (decide (2 < l.Op) || e8 l.A))
def n7 (r : GRule) : List (List UInt8) := a0P ((f5 r).drop 2)
def k8 (r : GRule) : Bool := bif !c8 r then false else bif n0 r then true else if a0p (f5 r).length (a2j (f5 r)) < (f5 r).length then false else bif r.Body.any (n8 (n7 r)) then false else !(r.Head.Name == fwdS && r.Head.Args.any (isW (n7 r)))
theorem b6M {α : Type} (l : List α) (k : Nat) : cut l k l.length = l.drop k := by
 unfold cut; rw [List.take_of_length_le (by simp)]
theorem c1A {α : Type} {l : List α} {n k : Nat} (d : α) (h : k < n) : (l.take n).getD k d = l.getD k d := by
 simp only [List.getD_eq_getElem?_getD, List.getElem?_take]; rw [if_pos h]
theorem b7s {q : Nat → Bool} {i : Nat} (h : ∀ j, j < i → q j = false) (hi : q i = false) : ∀ j, j < i + 1 → q j = false := by
 intro j hj
 rcases Nat.lt_succ_iff_lt_or_eq.1 hj with h1 | rfl
 ·exact h j h1
 ·exact hi
theorem b7x {r : GRule} (h : c8 r = false) : k8 r = false := by rw [k8, h]; rfl
theorem b7y {r : GRule} (h : c8 r = true) (hs : n0 r = true) : k8 r = true := by rw [k8, h, hs]; rfl
theorem b5d {r : GRule} (h : c8 r = true) (hs : n0 r = false) {i : Nat} (hi : i < (f5 r).length) (ha : ∀ j, j < i → a2j (f5 r) j = false) (hq : a2j (f5 r) i = true) : k8 r = false := by
 rw [k8, h, hs, a2J ha hq hi, if_pos hi]; rfl
theorem b5c {r : GRule} (h : c8 r = true) (hs : n0 r = false) (ha : ∀ j, j < (f5 r).length → a2j (f5 r) j = false) (hq : r.Body.any (n8 (n7 r)) = true) : k8 r = false := by
 rw [k8, h, hs, v7 ha, if_neg (by omega), hq]; rfl
theorem a6q {r : GRule} (h : c8 r = true) (hs : n0 r = false) (ha : ∀ j, j < (f5 r).length → a2j (f5 r) j = false) (hq : r.Body.any (n8 (n7 r)) = false) : k8 r = !(r.Head.Name == fwdS && r.Head.Args.any (isW (n7 r))) := by
 rw [k8, h, hs, v7 ha, if_neg (by omega), hq]; rfl
def a2w : ACode := q' ([o' 1 (.box 4 (.t 0)), b' 2 false]) (.seq (q' ([e' 13 4 1, c' 14 112 [13], o' 15 (.not (.t 14))]) (.cond (.t 15) (q' ([b' 2 false]) .ret) .skip)) (.seq (q'
 ([f' 16 3 1, l' 17 16, n' 18 17, o' 19 (.bin .eql (.t 18) (k' 0)), m' 20 19, ⟨some 21, .fa 3 (.t 1), some (20, false)⟩, ⟨some 22, .ld false 1 (.t 21), some
 (20, false)⟩, ⟨some 23, .ia 10 (.t 22) (k' 0), some (20, false)⟩, ⟨some 24, .fa 0 (.t 23), some (20, false)⟩, ⟨some 25, .ld false 1 (.t 24), some (20,
 false)⟩, ⟨some 26, .bin .neq (.t 25) (k' 1), some (20, false)⟩, o' 27 (.pick (.t 20) (.k (.v false [.c (.b true)])) (.t 26)), m' 28 27, ⟨some 29, .fa 3 (.t
 1), some (28, false)⟩, ⟨some 30, .ld false 1 (.t 29), some (28, false)⟩, ⟨some 31, .ia 10 (.t 30) (k' 0), some (28, false)⟩, ⟨some 32, .fa 1 (.t 31), some
 (28, false)⟩, ⟨some 33, .fa 0 (.t 32), some (28, false)⟩, ⟨some 34, .ld false 1 (.t 33), some (28, false)⟩, ⟨some 35, .bin .neq (.t 34) (.k (.v false [.c (.s
 [112, 97, 99, 107, 101, 116])])), some (28, false)⟩, o' 36 (.pick (.t 28) (.k (.v false [.c (.b true)])) (.t 35)), m' 37 36, ⟨some 38, .fa 3 (.t 1), some (37,
 false)⟩, ⟨some 39, .ld false 1 (.t 38), some (37, false)⟩, ⟨some 40, .ia 10 (.t 39) (k' 0), some (37, false)⟩, ⟨some 41, .fa 1 (.t 40), some (37, false)⟩,
 ⟨some 42, .fa 1 (.t 41), some (37, false)⟩, ⟨some 43, .ld false 1 (.t 42), some (37, false)⟩, ⟨some 44, .len (.t 43), some (37, false)⟩, ⟨some 45, .bin .neq
 (.t 44) (k' 4), some (37, false)⟩, o' 46 (.pick (.t 37) (.k (.v false [.c (.b true)])) (.t 45))]) (.cond (.t 46) (q' ([b' 2 true]) .ret) .skip)) (q' ([f' 47 3
 1, l' 48 47, o' 49 (.ia 10 (.t 48) (k' 0)), f' 50 1 49, f' 51 1 50, l' 52 51, m' 3 52]) (.seq (q' ([m' 53 3, n' 54 53, z' 55 0]) (.block 0 (.loop (q' ([r' 56
 55 54]) (.seq (.cond (.t 56) .skip (.exit 0)) (.seq (.block 1 (q' ([m' 57 55, m' 4 57]) (q' ([z' 5 0]) (.block 2 (.loop (.seq (q' ([m' 58 5, m' 59 4, r' 60 58
 59]) (.cond (.t 60) .skip (.exit 2))) (.seq (.block 3 (.seq (.reg true [m' 63 3, m' 64 4, i' 65 3 63 64, f' 66 0 65, l' 67 66, o' 68 (.bin .neq (.t 67) (.k
 (.v false [.c (.s [])]))), m' 69 68, ⟨some 70, .mov (.t 3), some (69, true)⟩, ⟨some 71, .mov (.t 4), some (69, true)⟩, ⟨some 72, .ia 3 (.t 70) (.t 71), some
 (69, true)⟩, ⟨some 73, .fa 0 (.t 72), some (69, true)⟩, ⟨some 74, .ld false 1 (.t 73), some (69, true)⟩, ⟨some 75, .mov (.t 3), some (69, true)⟩, ⟨some 76,
 .mov (.t 5), some (69, true)⟩, ⟨some 77, .ia 3 (.t 75) (.t 76), some (69, true)⟩, ⟨some 78, .fa 0 (.t 77), some (69, true)⟩, ⟨some 79, .ld false 1 (.t 78),
 some (69, true)⟩, ⟨some 80, .bin .eql (.t 74) (.t 79), some (69, true)⟩, o' 81 (.pick (.t 69) (.t 80) (.k (.v false [.c (.b false)])))]) (.cond (.t 81) (q'
 ([b' 2 false]) .ret) .skip))) (g' [m' 61 5, a' 62 61, m' 5 62])))))))) (g' [a' 82 55, m' 55 82]))))))) (q' ([m' 83 3, o' 84 (.slc 3 (.t 83) (some (k' 2)) none
 none), o' 85 (.call 152 [.k (.v false [.nl [.s []]]), .t 84]), m' 6 85]) (.seq (q' ([f' 86 3 1, l' 87 86, n' 88 87, z' 89 0]) (.block 4 (.loop (q' ([r' 90 89
 88]) (.seq (.cond (.t 90) .skip (.exit 4)) (.seq (.block 5 (q' ([i' 91 10 87 89, e' 92 10 91, w' 8 [.i .i64, .s, .sl [.s [], .i .i64 0, .s []], .i .i64, .s,
 .i .i64, .s, .s, .i .i64, .s], s' 10 8 92]) (.seq (q' ([f' 93 0 8, l' 94 93, o' 95 (.bin .neq (.t 94) (k' 3))]) (.cond (.t 95) (.exit 5) .skip)) (q' ([f' 96 4
 8, f' 97 0 96, l' 98 97, o' 99 (.bin .neq (.t 98) (.k (.v false [.c (.s [])]))), m' 100 99, ⟨some 101, .mov (.t 6), some (100, true)⟩, ⟨some 102, .fa 4 (.t
 8), some (100, true)⟩, ⟨some 103, .fa 0 (.t 102), some (100, true)⟩, ⟨some 104, .ld false 1 (.t 103), some (100, true)⟩, ⟨some 105, .call 153 [.t 101, .t
 104], some (100, true)⟩, o' 106 (.pick (.t 100) (.t 105) (.k (.v false [.c (.b false)]))), m' 9 106]) (q' ([f' 107 7 8, f' 108 0 107, l' 109 108, o' 110 (.bin
 .neq (.t 109) (.k (.v false [.c (.s [])]))), m' 111 110, ⟨some 112, .mov (.t 6), some (111, true)⟩, ⟨some 113, .fa 7 (.t 8), some (111, true)⟩, ⟨some 114, .fa
 0 (.t 113), some (111, true)⟩, ⟨some 115, .ld false 1 (.t 114), some (111, true)⟩, ⟨some 116, .call 153 [.t 112, .t 115], some (111, true)⟩, o' 117 (.pick (.t
 111) (.t 116) (.k (.v false [.c (.b false)]))), m' 10 117]) (q' ([m' 118 9, m' 119 118, ⟨some 120, .fa 3 (.t 8), some (119, true)⟩, ⟨some 121, .ld false 1 (.t
 120), some (119, true)⟩, ⟨some 122, .bin .gtr (.t 121) (k' 2), some (119, true)⟩, ⟨some 123, .mov (.t 122), some (119, true)⟩, ⟨some 124, .fa 7 (.t 8), some
 (123, false)⟩, ⟨some 125, .fa 0 (.t 124), some (123, false)⟩, ⟨some 126, .ld false 1 (.t 125), some (123, false)⟩, ⟨some 127, .bin .neq (.t 126) (.k (.v false
 [.c (.s [])])), some (123, false)⟩, ⟨some 128, .pick (.t 123) (.k (.v false [.c (.b true)])) (.t 127), some (119, true)⟩, o' 129 (.pick (.t 119) (.t 128) (.k
 (.v false [.c (.b false)]))), m' 130 129, ⟨some 131, .mov (.t 10), some (130, false)⟩, ⟨some 132, .mov (.t 131), some (130, false)⟩, ⟨some 133, .fa 3 (.t 8),
 some (132, true)⟩, ⟨some 134, .ld false 1 (.t 133), some (132, true)⟩, ⟨some 135, .bin .gtr (.t 134) (k' 2), some (132, true)⟩, ⟨some 136, .mov (.t 135), some
 (132, true)⟩, ⟨some 137, .fa 4 (.t 8), some (136, false)⟩, ⟨some 138, .fa 0 (.t 137), some (136, false)⟩, ⟨some 139, .ld false 1 (.t 138), some (136, false)⟩,
 ⟨some 140, .bin .neq (.t 139) (.k (.v false [.c (.s [])])), some (136, false)⟩, ⟨some 141, .pick (.t 136) (.k (.v false [.c (.b true)])) (.t 140), some (132,
 true)⟩, ⟨some 142, .pick (.t 132) (.t 141) (.k (.v false [.c (.b false)])), some (130, false)⟩, o' 143 (.pick (.t 130) (.k (.v false [.c (.b true)])) (.t
 142))]) (.cond (.t 143) (q' ([b' 2 false]) .ret) .skip))))))) (g' [a' 144 89, m' 89 144]))))))) (.seq (q' ([f' 145 1 1, f' 146 0 145, l' 147 146, o' 148 (.bin
 .eql (.t 147) (.k (.v false [.c (.s [102, 111, 114, 119, 97, 114, 100])])))]) (.cond (.t 148) (q' ([f' 149 1 1, f' 150 1 149, l' 151 150, n' 152 151, z' 153
 0]) (.block 6 (.loop (q' ([r' 154 153 152]) (.seq (.cond (.t 154) .skip (.exit 6)) (.seq (.block 7 (q' ([i' 155 3 151 153, e' 156 3 155, w' 12 [.s, .i .i64,
 .s], s' 3 12 156]) (q' ([f' 157 0 12, l' 158 157, o' 159 (.bin .neq (.t 158) (.k (.v false [.c (.s [])]))), m' 160 159, ⟨some 161, .mov (.t 6), some (160,
 true)⟩, ⟨some 162, .fa 0 (.t 12), some (160, true)⟩, ⟨some 163, .ld false 1 (.t 162), some (160, true)⟩, ⟨some 164, .call 153 [.t 161, .t 163], some (160,
 true)⟩, o' 165 (.pick (.t 160) (.t 164) (.k (.v false [.c (.b false)])))]) (.cond (.t 165) (q' ([b' 2 false]) .ret) .skip)))) (g' [a' 166 153, m' 153
 166]))))))) .skip)) (q' ([b' 2 true]) .ret))))))))
theorem a8K : cmp Tryz.prog Tryz.f88 = some a2w := by kernel_rfl
theorem b0l (r : GRule) : A0l Tryz.prog 88 [(true, [.i .i64 r.Kind, .s r.Head.Name, .sl false [.s [], .i .i64 0, .s []] (r.Head.Args.map GTerm.cells), .sl false [.i .i64 0, .s [], .sl false [.s [], .i .i64 0, .s []] [], .i .i64 0, .s [], .i .i64 0, .s [], .s [], .i .i64 0, .s []] (r.Body.map (GLit.cells false false))])] [] (.one (false, [.b (k8 r)])) := by
 refine spec_of2 false false none Tryz.func88 a8K (rvs := [.t 2]) (hΓ := mkCtx_ok (deep := false) (l := [(112, [], l3), (152, [], u1), (153, [], u4)]) ⟨o0, a4h, a0n, trivial⟩) (h := ?_)
 intro hb hE
 simp only [go_sem] at hb
 simp only [a2w, x']
 (try refine A2V ?_); simp only [go_sem]; (repeat' first | apply CJ.mk | intro hc); all_goals try ((repeat' first | apply And.intro | intro hs) <;> (try simp only [go_sem, Bool.and_eq_false_iff] at hs) <;> omega)
 ·rw [b7x hc]
 ·clear hb; grind
 ·clear hb; grind
 ·clear hb; grind
 ·have hs : n0 r = true := by clear hb; grind [n0, pktS]
  rw [b7y (by assumption) hs]
 ·clear hb; grind
 have hR : c8 r = true := by assumption
 have hs : n0 r = false := by clear hb; grind [n0, pktS]
 have h4 : (f5 r).length = 4 := by clear hb; grind
 have h1 : 1 ≤ r.Body.length := by clear hb; grind
 have h4u : (r.Body.getD 0 default).Atom.Args.length = 4 := h4
 have hw : (cut (r.Body.getD 0 default).Atom.Args 2 (r.Body.getD 0 default).Atom.Args.length) = (f5 r).drop 2 := b6M _ _
 have h2 : ((f5 r).drop 2).length = 2 := by rw [List.length_drop, h4]
 clear hc
 refine aw_loop2 false [] [1, 3, 54] [2] [] (fun i : {i : Nat // i ≤ (f5 r).length ∧ ∀ j, j < i → a2j (f5 r) j = false} => [(55, slV (.i .i64 i.1))]) (fun i => []) (fun i => []) (fun i => (f5 r).length - i.1) (⟨0, by omega, by intro j h; omega⟩) _ rfl ?_ ?_
 ·simp only [go_sem, hw]
  all_goals first | omega | ((repeat' apply And.intro) <;> first | omega | rfl | skip)
 intro S0 hS0 i
 simp only [go_sem, hw] at hS0
 obtain ⟨n, hn, ha⟩ := i
 (try refine A2V ?_); simp only [go_sem, hw, hS0]; (repeat' first | apply CJ.mk | intro hc); all_goals try ((repeat' first | apply And.intro | intro hs) <;> (try simp only [go_sem, Bool.and_eq_false_iff] at hs) <;> omega)
 ·skip
  refine aw_loop2 false [] [1, 3, 4, 54, 55] [2] [] (fun i : {k : Nat // k ≤ n ∧ (e8 ((f5 r).getD n default) && ((f5 r).take k).any fun y => ((f5 r).getD n default).Var == y.Var) = false} => [(5, slV (.i .i64 i.1))]) (fun i => []) (fun i => []) (fun i => n - i.1) (⟨0, by omega, by simp⟩) _ rfl ?_ ?_
  ·simp only [go_sem, hw, hS0]
   all_goals first | omega | ((repeat' apply And.intro) <;> first | omega | rfl | skip)
  intro S1 hS1 i
  simp only [go_sem, hw, hS0] at hS1
  obtain ⟨k, hk, hx⟩ := i
  (try refine A2V ?_); simp only [go_sem, hw, hS0, hS1]; (repeat' first | apply CJ.mk | intro hc); all_goals try ((repeat' first | apply And.intro | intro hs) <;> (try simp only [go_sem, Bool.and_eq_false_iff] at hs) <;> omega)
  ·have hq : a2j (f5 r) n = true := by
    rw [a2j, Bool.and_eq_true]
    refine ⟨by rw [e8, hc.1]; rfl, any_true (d := default) (i := k) (by rw [List.length_take]; omega) ?_⟩
    rw [c1A default (by omega)]; exact hc.2
   rw [b5d hR hs (by omega) ha hq]
  ·have hx2 : (e8 ((f5 r).getD n default) && ((f5 r).take (k + 1)).any fun y => ((f5 r).getD n default).Var == y.Var) = false := by
    have hc2 : (e8 ((f5 r).getD n default) && (((f5 r).getD n default).Var == ((f5 r).getD k default).Var)) = false := hc
    rw [A6M (d := default) (by omega), Bool.and_or_distrib_left, hx, hc2]; rfl
   (refine lpK_n2 (⟨k + 1, by omega, hx2⟩) _ rfl ?_; simp only [go_sem, hw, hS0, hS1]; first | done | ((repeat' apply And.intro) <;> first | omega | (refine w64 ?_ ?_ ?_ <;> omega) | rfl | skip))
  ·have e : k = n := by omega
   subst e
   (refine lpK_n2 (⟨k + 1, by omega, b7s ha hx⟩) _ rfl ?_; simp only [go_sem, hw, hS0, hS1]; first | done | ((repeat' apply And.intro) <;> first | omega | (refine w64 ?_ ?_ ?_ <;> omega) | rfl | skip))
 have hd : ∀ j, j < (f5 r).length → a2j (f5 r) j = false := fun j hj => ha j (by omega)
 clear hc ha
 refine aw_loop2 false [] [1, 6, 87, 88] [2] [] (fun i : {i : Nat // i ≤ r.Body.length ∧ (r.Body.take i).any (n8 (n7 r)) = false} => [(89, slV (.i .i64 i.1))]) (fun i => []) (fun i => []) (fun i => r.Body.length - i.1) (⟨0, by omega, by simp⟩) _ rfl ?_ ?_
 ·simp only [go_sem, hw, hS0]
  all_goals first | omega | ((repeat' apply And.intro) <;> first | omega | rfl | skip)
 intro S2 hS2 i
 simp only [go_sem, hw, hS0] at hS2
 obtain ⟨n, hn, ha⟩ := i
 (try refine A2V ?_); simp only [go_sem, hw, hS0, hS2]; (repeat' first | apply CJ.mk | intro hc); all_goals try ((repeat' first | apply And.intro | intro hs) <;> (try simp only [go_sem, Bool.and_eq_false_iff] at hs) <;> omega)
 ·have hq : n8 (n7 r) (r.Body.getD n default) = false := by
   simp only [bne, Bool.not_eq_true'] at hc
   rw [n8, hc]; rfl
  (refine lpK_n2 (⟨n + 1, by omega, d6 (p := n8 (n7 r)) default (by omega) ha hq⟩) _ rfl ?_; simp only [go_sem, hw, hS0, hS2]; first | done | ((repeat' apply And.intro) <;> first | omega | (refine w64 ?_ ?_ ?_ <;> omega) | rfl | skip))
 ·have hq : n8 (n7 r) (r.Body.getD n default) = true := by
   clear hb hS0 hS2; grind [n8, isW, n7, e8]
  rw [b5c hR hs hd (any_true (d := default) (i := n) (by omega) hq)]
 ·have hq : n8 (n7 r) (r.Body.getD n default) = false := by
   clear hb hS0 hS2; grind [n8, isW, n7, e8]
  (refine lpK_n2 (⟨n + 1, by omega, d6 (p := n8 (n7 r)) default (by omega) ha hq⟩) _ rfl ?_; simp only [go_sem, hw, hS0, hS2]; first | done | ((repeat' apply And.intro) <;> first | omega | (refine w64 ?_ ?_ ?_ <;> omega) | rfl | skip))
 ·rw [c6 (by omega)] at ha
  have hF : (r.Head.Name == fwdS) = true := hc
  clear hc
  refine aw_loop2 false [] [6, 151, 152] [] [] (fun i : {i : Nat // i ≤ r.Head.Args.length ∧ (r.Head.Args.take i).any (isW (n7 r)) = false} => [(153, slV (.i .i64 i.1))]) (fun i => []) (fun i => []) (fun i => r.Head.Args.length - i.1) (⟨0, by omega, by simp⟩) _ rfl ?_ ?_
  ·simp only [go_sem, hw, hS0, hS2]
   all_goals first | omega | ((repeat' apply And.intro) <;> first | omega | rfl | skip)
  intro S3 hS3 i
  simp only [go_sem, hw, hS0, hS2] at hS3
  obtain ⟨k, hk, hx⟩ := i
  (try refine A2V ?_); simp only [go_sem, hw, hS0, hS2, hS3]; (repeat' first | apply CJ.mk | intro hc); all_goals try ((repeat' first | apply And.intro | intro hs) <;> (try simp only [go_sem, Bool.and_eq_false_iff] at hs) <;> omega)
  ·rw [a6q hR hs hd ha, hF, any_true (d := default) (i := k) (by omega) (show isW (n7 r) (r.Head.Args.getD k default) = true by rw [isW, e8, hc.1]; exact hc.2)]; rfl
  ·(refine lpK_n2 (⟨k + 1, by omega, d6 (p := isW (n7 r)) default (by omega) hx hc⟩) _ rfl ?_; simp only [go_sem, hw, hS0, hS2, hS3]; first | done | ((repeat' apply And.intro) <;> first | omega | (refine w64 ?_ ?_ ?_ <;> omega) | rfl | skip))
  ·rw [c6 (by omega)] at hx
   rw [a6q hR hs hd ha, hF, hx]; rfl
 ·rw [c6 (by omega)] at ha
  rw [a6q hR hs hd ha, show (r.Head.Name == fwdS) = false from hc]; rfl
noncomputable def a0l : CT := c9 (fun (x : GRule) => b0l x)
@[go_sem] theorem b7T (r_Kind : Int) (r_Head_Name : List UInt8) (r_Head_Args : List GTerm) (r_Body : List GLit) : a0l [(true, [.i .i64 r_Kind, .s r_Head_Name, .sl false [.s [], .i .i64 0, .s []] (r_Head_Args.map GTerm.cells), .sl false [.i .i64 0, .s [], .sl false [.s [], .i .i64 0, .s []] [], .i .i64 0, .s [], .i .i64 0, .s [], .s [], .i .i64 0, .s []] (r_Body.map (GLit.cells false false))])] = some (True, [], .one (false, [.b (k8 (GRule.mk r_Kind (GAtom.mk r_Head_Name r_Head_Args) r_Body))])) := c4 _ (by rintro ⟨_, ⟨_, _⟩, _⟩ ⟨_, ⟨_, _⟩, _⟩ h; simp at h; simp_all) (GRule.mk r_Kind (GAtom.mk r_Head_Name r_Head_Args) r_Body)
theorem a6C : OkC Tryz.prog 88 a0l := c5 _
def a1g : ACode := q' ([o' 2 (.box 3 (.t 0)), b' 3 false]) (q' ([l' 4 1, f' 5 0 2, l' 6 5, c' 7 102 [4, 6], m' 3 7]) .ret)
theorem a6G : cmp Tryz.prog Tryz.f156 = some a1g := by kernel_rfl
theorem a7H (t : GTerm) (w : List (List UInt8)) : A0l Tryz.prog 156 [(true, [.s t.Var, .i .i64 t.Val.N, .s t.Val.S]), (false, [.p [.sl false [.s []] (w.map d4)]])] [] (.one (false, [.b (w.contains t.Var)])) := by
 refine spec_of2 false false none Tryz.func156 a6G (rvs := [.t 3]) (hΓ := mkCtx_ok (deep := false) (l := [(102, [], b5t)]) ⟨b4L, trivial⟩) (h := ?_)
 intro hb hE
 simp only [go_sem] at hb
 simp only [a1g, x']
 (try refine A2V ?_); simp only [go_sem]; (repeat' first | apply CJ.mk | intro hc); all_goals try ((repeat' first | apply And.intro | intro hs) <;> (try simp only [go_sem, Bool.and_eq_false_iff] at hs) <;> omega)
noncomputable def o7 : CT := c9 (fun (x : GTerm × (List (List UInt8))) => a7H x.1 x.2)
@[go_sem] theorem b6h (t_Var : List UInt8) (t_Val_N : Int) (t_Val_S : List UInt8) (w : List (List UInt8)) : o7 [(true, [.s t_Var, .i .i64 t_Val_N, .s t_Val_S]), (false, [.p [.sl false [.s []] (w.map d4)]])] = some (True, [], .one (false, [.b (w.contains (GTerm.mk t_Var (GValue.mk t_Val_N t_Val_S)).Var)])) := c4 _ (by rintro ⟨⟨_, ⟨_, _⟩⟩, _⟩ ⟨⟨_, ⟨_, _⟩⟩, _⟩ h; simp at h; simp_all) ((GTerm.mk t_Var (GValue.mk t_Val_N t_Val_S)), w)
theorem z7 : OkC Tryz.prog 156 o7 := c5 _
theorem b7i (l : List GTerm) (w : List (List UInt8)) : A0l Tryz.prog 240 [(false, [.sl false [.s [], .i .i64 0, .s []] (l.map GTerm.cells)]), (false, [.f 156 [.p [.sl false [.s []] (w.map d4)]]])] [] (.one (false, [.i .i64 (p7 (fun y : GTerm => w.contains y.Var) l)])) := by
 refine spec_of2 false false none Tryz.func240 b2r (rvs := [.t 4]) (hΓ := mkCtx_ok (deep := false) (l := [(156, [], o7)]) ⟨z7, trivial⟩) (h := ?_)
 intro hb hE
 simp only [go_sem] at hb
 simp only [a7f, x']
 (try refine A2V ?_); simp only [go_sem]; (repeat' first | apply CJ.mk | intro hc); all_goals try ((repeat' first | apply And.intro | intro hs) <;> (try simp only [go_sem, Bool.and_eq_false_iff] at hs) <;> omega)
 refine aw_loop2 false [] [0, 1, 7] [] [] (fun i : {i : Nat // i ≤ l.length ∧ (l.take i).any (fun y : GTerm => w.contains y.Var) = false} => [(8, slV (.i .i64 i.1))]) (fun i => []) (fun i => []) (fun i => l.length - i.1) (⟨0, by simp⟩) _ rfl ?_ ?_
 ·simp only [go_sem]
  all_goals first | omega | ((repeat' apply And.intro) <;> first | omega | rfl | skip)
 intro S0 hS0 i
 simp only [go_sem] at hS0
 obtain ⟨i, hi, ha⟩ := i
 (try refine A2V ?_); simp only [go_sem, hS0]; (repeat' first | apply CJ.mk | intro hc); all_goals try ((repeat' first | apply And.intro | intro hs) <;> (try simp only [go_sem, Bool.and_eq_false_iff] at hs) <;> omega)
 ·exact (j3 (p := fun y : GTerm => w.contains y.Var) (d := default) (by omega) ha (by simpa [-List.getD_eq_getElem?_getD] using hc)).symm
 ·(refine lpK_n2 (⟨i + 1, by omega, d6 (p := fun y : GTerm => w.contains y.Var) default (by omega) ha (by simpa [-List.getD_eq_getElem?_getD] using hc)⟩) _ rfl ?_; simp only [go_sem, hS0]; first | done | ((repeat' apply And.intro) <;> first | omega | (refine w64 ?_ ?_ ?_ <;> omega) | rfl | skip))
 ·exact (j2 (by rwa [c6 (by omega)] at ha)).symm
 all_goals trace_state
noncomputable def a5O : CT := c9 (fun (x : (List GTerm) × (List (List UInt8))) => b7i x.1 x.2)
@[go_sem] theorem c2z (l : List GTerm) (w : List (List UInt8)) : a5O [(false, [.sl false [.s [], .i .i64 0, .s []] (l.map GTerm.cells)]), (false, [.f 156 [.p [.sl false [.s []] (w.map d4)]]])] = some (True, [], .one (false, [.i .i64 (p7 (fun y : GTerm => w.contains y.Var) l)])) := c4 _ (by rintro ⟨_, _⟩ ⟨_, _⟩ h; simp at h; simp_all) (l, w)
theorem b2h : OkC Tryz.prog 240 a5O := c5 _
theorem b7e (l : List GTerm) (w : List (List UInt8)) : A0l Tryz.prog 157 [(false, [.sl false [.s [], .i .i64 0, .s []] (l.map GTerm.cells)]), (false, [.f 156 [.p [.sl false [.s []] (w.map d4)]]])] [] (.one (false, [.b (l.any (fun y : GTerm => w.contains y.Var))])) := by
 refine spec_of2 false false none Tryz.func157 b2q (rvs := [.t 4]) (hΓ := mkCtx_ok (deep := false) (l := [(240, [], a5O)]) ⟨b2h, trivial⟩) (h := ?_)
 intro hb hE
 simp only [go_sem] at hb
 simp only [a7e, x']
 (try refine A2V ?_); simp only [go_sem]; (repeat' first | apply CJ.mk | intro hc); all_goals try ((repeat' first | apply And.intro | intro hs) <;> (try simp only [go_sem, Bool.and_eq_false_iff] at hs) <;> omega)
 ·exact s8 _ _
noncomputable def a5K : CT := c9 (fun (x : (List GTerm) × (List (List UInt8))) => b7e x.1 x.2)
@[go_sem] theorem c2v (l : List GTerm) (w : List (List UInt8)) : a5K [(false, [.sl false [.s [], .i .i64 0, .s []] (l.map GTerm.cells)]), (false, [.f 156 [.p [.sl false [.s []] (w.map d4)]]])] = some (True, [], .one (false, [.b (l.any (fun y : GTerm => w.contains y.Var))])) := c4 _ (by rintro ⟨_, _⟩ ⟨_, _⟩ h; simp at h; simp_all) (l, w)
theorem b2c : OkC Tryz.prog 157 a5K := c5 _
theorem a9l (r : GRule) : (n7 r).contains [] = false := by
 rw [Bool.eq_false_iff]
 intro h
 rw [List.contains_iff_mem, n7, a0P, l4] at h
 rcases h with h | h
 ·simp at h
 ·simp only [d5, List.mem_map, List.mem_filter, e8] at h
  obtain ⟨a, ⟨_, h1⟩, h2⟩ := h
  rw [h2] at h1; simp at h1
theorem b8Z {w : List (List UInt8)} (hw : w.contains [] = false) (t : GTerm) : isW w t = w.contains t.Var := by
 rw [isW, e8]
 cases h : (t.Var == []) with
 | false => simp
 | true => rw [beq_iff_eq] at h; rw [h, hw]; rfl
theorem b8R {w : List (List UInt8)} (hw : w.contains [] = false) {l : GLit} (h : t8 l = true) (hk : (l.Kind == 3) = true) : n8 w l = ((w.contains l.A.Var || w.contains l.B.Var) && ((l.Op != 1 && l.Op != 2) || (e8 l.A && e8 l.B))) := by
 have h1 : 1 ≤ l.Op := by
  rw [t8, hk] at h
  simp only [cond_true, Bool.and_eq_true, decide_eq_true_eq] at h
  omega
 have e : (l.Op != 1 && l.Op != 2) = decide (2 < l.Op) := by
  rw [Bool.eq_iff_iff]; simp; omega
 rw [n8, hk, e, b8Z hw, b8Z hw]
 have ha : e8 l.A = false → w.contains l.A.Var = false := by
  intro h; rw [e8, Bool.not_eq_false', beq_iff_eq] at h; rw [h, hw]
 have hb : e8 l.B = false → w.contains l.B.Var = false := by
  intro h; rw [e8, Bool.not_eq_false', beq_iff_eq] at h; rw [h, hw]
 revert ha hb
 generalize w.contains l.A.Var = a
 generalize w.contains l.B.Var = b
 generalize e8 l.A = c
 generalize e8 l.B = d
 generalize decide (2 < l.Op) = f
 revert a b c d f
 decide
theorem a9g {r : GRule} (h : c8 r = true) {i : Nat} (hi : i < r.Body.length) : t8 (r.Body.getD i default) = true := by
 simp only [c8, Bool.and_eq_true, List.all_eq_true] at h
 rw [j4 default hi]
 exact h.2 _ (List.getElem_mem hi)
theorem b1J {r : GRule} (h : c8 r = true) (hs : n0 r = false) : ∀ t ∈ f5 r, j7 t = true := by
 have h0 : 0 < r.Body.length := by
  simp only [n0, Bool.or_eq_false_iff] at hs
  have := hs.1.1.1
  simp at this
  exact List.length_pos_iff.2 this
 have hk : ((r.Body.getD 0 default).Kind == 1) = true := by
  simp only [n0, Bool.or_eq_false_iff, Bool.not_eq_false'] at hs
  exact hs.1.1.2
 have hl := a9g h h0
 rw [beq_iff_eq] at hk
 have hk3 : ((r.Body.getD 0 default).Kind == 3) = false := by rw [hk]; rfl
 rw [t8, hk3] at hl
 simp only [cond_false, Bool.and_eq_true, a1l, List.all_eq_true] at hl
 exact hl.1.1.1.2.2
theorem c2W {a y : GTerm} (ha : j7 a = true) (hy : j7 y = true) (hv : e8 a = true) : tEq a y = (a.Var == y.Var) := by
 rw [tEq]
 cases h : (a.Var == y.Var) with
 | false => rfl
 | true =>
  have hv' : e8 y = true := by rw [beq_iff_eq] at h; rw [e8, ← h]; exact hv
  rw [j7, show (!(a.Var == [])) = true from hv] at ha
  rw [j7, show (!(y.Var == [])) = true from hv'] at hy
  simp only [cond_true, Bool.and_eq_true, beq_iff_eq] at ha hy
  simp [ha.2.1, ha.2.2, hy.2.1, hy.2.2]
theorem c2T {r : GRule} (h : c8 r = true) (hs : n0 r = false) {i : Nat} (hi : i < (f5 r).length) : (e8 ((f5 r).getD i default) && ((f5 r).take i).any (tEq ((f5 r).getD i default))) = a2j (f5 r) i := by
 rw [a2j]
 cases hv : e8 ((f5 r).getD i default) with
 | false => rfl
 | true =>
  simp only [Bool.true_and]
  have hm : (f5 r).getD i default ∈ f5 r := by rw [j4 default hi]; exact List.getElem_mem hi
  rw [Bool.eq_iff_iff, List.any_eq_true, List.any_eq_true]
  constructor
  ·rintro ⟨y, hy, he⟩
   refine ⟨y, hy, ?_⟩
   rwa [c2W (b1J h hs _ hm) (b1J h hs y (List.mem_of_mem_take hy)) hv] at he
  ·rintro ⟨y, hy, he⟩
   refine ⟨y, hy, ?_⟩
   rwa [c2W (b1J h hs _ hm) (b1J h hs y (List.mem_of_mem_take hy)) hv]
theorem b4P {α : Type} (l : List α) (n : Nat) : cut l 0 n = l.take n := by unfold cut; simp
def a2o : ACode := q' ([o' 1 (.box 4 (.t 0)), b' 2 false]) (.seq (q' ([e' 10 4 1, c' 11 117 [10], o' 12 (.not (.t 11))]) (.cond (.t 12) (q' ([b' 2 false]) .ret) .skip)) (.seq (q'
 ([f' 13 3 1, l' 14 13, n' 15 14, o' 16 (.bin .eql (.t 15) (k' 0)), m' 17 16, ⟨some 18, .fa 3 (.t 1), some (17, false)⟩, ⟨some 19, .ld false 1 (.t 18), some
 (17, false)⟩, ⟨some 20, .ia 10 (.t 19) (k' 0), some (17, false)⟩, ⟨some 21, .fa 0 (.t 20), some (17, false)⟩, ⟨some 22, .ld false 1 (.t 21), some (17,
 false)⟩, ⟨some 23, .bin .neq (.t 22) (k' 1), some (17, false)⟩, o' 24 (.pick (.t 17) (.k (.v false [.c (.b true)])) (.t 23)), m' 25 24, ⟨some 26, .fa 3 (.t
 1), some (25, false)⟩, ⟨some 27, .ld false 1 (.t 26), some (25, false)⟩, ⟨some 28, .ia 10 (.t 27) (k' 0), some (25, false)⟩, ⟨some 29, .fa 1 (.t 28), some
 (25, false)⟩, ⟨some 30, .fa 0 (.t 29), some (25, false)⟩, ⟨some 31, .ld false 1 (.t 30), some (25, false)⟩, ⟨some 32, .bin .neq (.t 31) (.k (.v false [.c (.s
 [112, 97, 99, 107, 101, 116])])), some (25, false)⟩, o' 33 (.pick (.t 25) (.k (.v false [.c (.b true)])) (.t 32)), m' 34 33, ⟨some 35, .fa 3 (.t 1), some (34,
 false)⟩, ⟨some 36, .ld false 1 (.t 35), some (34, false)⟩, ⟨some 37, .ia 10 (.t 36) (k' 0), some (34, false)⟩, ⟨some 38, .fa 1 (.t 37), some (34, false)⟩,
 ⟨some 39, .fa 1 (.t 38), some (34, false)⟩, ⟨some 40, .ld false 1 (.t 39), some (34, false)⟩, ⟨some 41, .len (.t 40), some (34, false)⟩, ⟨some 42, .bin .neq
 (.t 41) (k' 4), some (34, false)⟩, o' 43 (.pick (.t 34) (.k (.v false [.c (.b true)])) (.t 42))]) (.cond (.t 43) (q' ([b' 2 true]) .ret) .skip)) (q' ([f' 44 3
 1, l' 45 44, o' 46 (.ia 10 (.t 45) (k' 0)), f' 47 1 46, f' 48 1 47, l' 49 48, m' 3 49]) (.seq (q' ([m' 50 3, n' 51 50, z' 52 0]) (.block 0 (.loop (q' ([r' 53
 52 51]) (.seq (.cond (.t 53) .skip (.exit 0)) (.seq (.block 1 (q' ([m' 54 52, i' 55 3 50 52, e' 56 3 55, w' 5 [.s, .i .i64, .s], m' 4 54, s' 3 5 56]) (.seq
 (.reg true [f' 57 0 5, l' 58 57, o' 59 (.bin .neq (.t 58) (.k (.v false [.c (.s [])]))), m' 60 59, ⟨some 61, .mov (.t 3), some (60, true)⟩, ⟨some 62, .mov (.t
 4), some (60, true)⟩, ⟨some 63, .slc 3 (.t 61) none (some (.t 62)) none, some (60, true)⟩, ⟨some 64, .ld true 3 (.t 5), some (60, true)⟩, ⟨some 65, .call 154
 [.t 63, .t 64], some (60, true)⟩, o' 66 (.pick (.t 60) (.t 65) (.k (.v false [.c (.b false)])))]) (.cond (.t 66) (q' ([b' 2 false]) .ret) .skip)))) (g' [a' 67
 52, m' 52 67]))))))) (q' ([m' 68 3, o' 69 (.slc 3 (.t 68) (some (k' 2)) none none), c' 70 155 [69], w' 6 [.sl [.s []]], s' 1 6 70]) (q' ([o' 71 (.mf 156 [.t
 6]), m' 7 71]) (.seq (q' ([f' 72 3 1, l' 73 72, n' 74 73, z' 75 0]) (.block 2 (.loop (q' ([r' 76 75 74]) (.seq (.cond (.t 76) .skip (.exit 2)) (.seq (.block 3
 (q' ([i' 77 10 73 75, e' 78 10 77, w' 9 [.i .i64, .s, .sl [.s [], .i .i64 0, .s []], .i .i64, .s, .i .i64, .s, .s, .i .i64, .s], s' 10 9 78]) (.seq (q' ([f'
 79 0 9, l' 80 79, o' 81 (.bin .neq (.t 80) (k' 3)), m' 82 81, ⟨some 83, .mov (.t 7), some (82, false)⟩, ⟨some 84, .fa 4 (.t 9), some (82, false)⟩, ⟨some 85,
 .ld true 3 (.t 84), some (82, false)⟩, ⟨some 86, .callv (.t 83) [.t 85], some (82, false)⟩, ⟨some 87, .not (.t 86), some (82, false)⟩, ⟨some 88, .mov (.t 87),
 some (82, false)⟩, ⟨some 89, .mov (.t 7), some (88, true)⟩, ⟨some 90, .fa 7 (.t 9), some (88, true)⟩, ⟨some 91, .ld true 3 (.t 90), some (88, true)⟩, ⟨some
 92, .callv (.t 89) [.t 91], some (88, true)⟩, ⟨some 93, .not (.t 92), some (88, true)⟩, ⟨some 94, .pick (.t 88) (.t 93) (.k (.v false [.c (.b false)])), some
 (82, false)⟩, o' 95 (.pick (.t 82) (.k (.v false [.c (.b true)])) (.t 94))]) (.cond (.t 95) (.exit 3) .skip)) (q' ([f' 96 3 9, l' 97 96, o' 98 (.bin .neq (.t
 97) (k' 1)), m' 99 98, ⟨some 100, .fa 3 (.t 9), some (99, true)⟩, ⟨some 101, .ld false 1 (.t 100), some (99, true)⟩, ⟨some 102, .bin .neq (.t 101) (k' 2),
 some (99, true)⟩, o' 103 (.pick (.t 99) (.t 102) (.k (.v false [.c (.b false)]))), m' 104 103, ⟨some 105, .fa 4 (.t 9), some (104, false)⟩, ⟨some 106, .fa 0
 (.t 105), some (104, false)⟩, ⟨some 107, .ld false 1 (.t 106), some (104, false)⟩, ⟨some 108, .bin .neq (.t 107) (.k (.v false [.c (.s [])])), some (104,
 false)⟩, ⟨some 109, .mov (.t 108), some (104, false)⟩, ⟨some 110, .fa 7 (.t 9), some (109, true)⟩, ⟨some 111, .fa 0 (.t 110), some (109, true)⟩, ⟨some 112,
 .ld false 1 (.t 111), some (109, true)⟩, ⟨some 113, .bin .neq (.t 112) (.k (.v false [.c (.s [])])), some (109, true)⟩, ⟨some 114, .pick (.t 109) (.t 113) (.k
 (.v false [.c (.b false)])), some (104, false)⟩, o' 115 (.pick (.t 104) (.k (.v false [.c (.b true)])) (.t 114))]) (.cond (.t 115) (q' ([b' 2 false]) .ret)
 .skip))))) (g' [a' 116 75, m' 75 116]))))))) (q' ([f' 117 1 1, f' 118 0 117, l' 119 118, o' 120 (.bin .neq (.t 119) (.k (.v false [.c (.s [102, 111, 114, 119,
 97, 114, 100])]))), m' 121 120, ⟨some 122, .fa 1 (.t 1), some (121, false)⟩, ⟨some 123, .fa 1 (.t 122), some (121, false)⟩, ⟨some 124, .ld false 1 (.t 123),
 some (121, false)⟩, ⟨some 125, .mov (.t 7), some (121, false)⟩, ⟨some 126, .call 157 [.t 124, .t 125], some (121, false)⟩, ⟨some 127, .not (.t 126), some
 (121, false)⟩, o' 128 (.pick (.t 121) (.k (.v false [.c (.b true)])) (.t 127)), m' 2 128]) .ret))))))))
theorem a8C : cmp Tryz.prog Tryz.f91 = some a2o := by kernel_rfl
theorem b0d (r : GRule) : A0l Tryz.prog 91 [(true, [.i .i64 r.Kind, .s r.Head.Name, .sl false [.s [], .i .i64 0, .s []] (r.Head.Args.map GTerm.cells), .sl false [.i .i64 0, .s [], .sl false [.s [], .i .i64 0, .s []] [], .i .i64 0, .s [], .i .i64 0, .s [], .s [], .i .i64 0, .s []] (r.Body.map (GLit.cells false false))])] [] (.one (false, [.b (k8 r)])) := by
 refine spec_of2 false false none Tryz.func91 a8C (rvs := [.t 2]) (hΓ := mkCtx_ok (deep := false) (l := [(117, [], u2), (154, [], b8y), (155, [], u3), (156, [], o7), (157, [], a5K)]) ⟨a0d, c0x, a0e, z7, b2c, trivial⟩) (h := ?_)
 intro hb hE
 simp only [go_sem] at hb
 simp only [a2o, x']
 (try refine A2V ?_); simp only [go_sem]; (repeat' first | apply CJ.mk | intro hc); all_goals try ((repeat' first | apply And.intro | intro hs) <;> (try simp only [go_sem, Bool.and_eq_false_iff] at hs) <;> omega)
 ·rw [b7x hc]
 ·clear hb; grind
 ·clear hb; grind
 ·clear hb; grind
 ·have hs : n0 r = true := by clear hb; grind [n0, pktS]
  rw [b7y (by assumption) hs]
 ·clear hb; grind
 have hR : c8 r = true := by assumption
 have hs : n0 r = false := by clear hb; grind [n0, pktS]
 have h4 : (f5 r).length = 4 := by clear hb; grind
 have h1 : 1 ≤ r.Body.length := by clear hb; grind
 have h4u : (r.Body.getD 0 default).Atom.Args.length = 4 := h4
 have hw : (cut (r.Body.getD 0 default).Atom.Args 2 (r.Body.getD 0 default).Atom.Args.length) = (f5 r).drop 2 := b6M _ _
 have h2 : ((f5 r).drop 2).length = 2 := by rw [List.length_drop, h4]
 clear hc
 refine aw_loop2 false [] [1, 3, 50, 51] [2] [] (fun i : {i : Nat // i ≤ (f5 r).length ∧ ∀ j, j < i → a2j (f5 r) j = false} => [(52, slV (.i .i64 i.1))]) (fun i => []) (fun i => []) (fun i => (f5 r).length - i.1) (⟨0, by omega, by intro j h; omega⟩) _ rfl ?_ ?_
 ·simp only [go_sem, hw]
  all_goals first | omega | ((repeat' apply And.intro) <;> first | omega | rfl | skip)
 intro S0 hS0 i
 simp only [go_sem, hw] at hS0
 obtain ⟨n, hn, ha⟩ := i
 (try refine A2V ?_); simp only [go_sem, hw, hS0]; (repeat' first | apply CJ.mk | intro hc); all_goals try ((repeat' first | apply And.intro | intro hs) <;> (try simp only [go_sem, Bool.and_eq_false_iff] at hs) <;> omega)
 ·have hq : a2j (f5 r) n = true := by
   rw [← c2T hR hs (by omega), Bool.and_eq_true]
   rw [b4P] at hc
   exact ⟨by rw [e8, hc.1]; rfl, hc.2⟩
  rw [b5d hR hs (by omega) ha hq]
 ·have hq : a2j (f5 r) n = false := by
   rw [← c2T hR hs (by omega)]
   rw [b4P] at hc
   exact hc
  (refine lpK_n2 (⟨n + 1, by omega, b7s ha hq⟩) _ rfl ?_; simp only [go_sem, hw, hS0]; first | done | ((repeat' apply And.intro) <;> first | omega | (refine w64 ?_ ?_ ?_ <;> omega) | rfl | skip))
 have hd : ∀ j, j < (f5 r).length → a2j (f5 r) j = false := fun j hj => ha j (by omega)
 clear hc ha
 refine aw_loop2 false [] [1, 7, 73, 74] [2, 12] [8960] (fun i : {i : Nat // i ≤ r.Body.length ∧ (r.Body.take i).any (n8 (n7 r)) = false} => [(75, slV (.i .i64 i.1))]) (fun i => []) (fun i => []) (fun i => r.Body.length - i.1) (⟨0, by omega, by simp⟩) _ rfl ?_ ?_
 ·simp only [go_sem, hw, hS0]
  all_goals first | omega | ((repeat' apply And.intro) <;> first | omega | rfl | skip)
 intro S1 hS1 i
 simp only [go_sem, hw, hS0] at hS1
 obtain ⟨n, hn, ha⟩ := i
 (try refine A2V ?_); simp only [go_sem, hw, hS0, hS1]; (repeat' first | apply CJ.mk | intro hc); all_goals try ((repeat' first | apply And.intro | intro hs) <;> (try simp only [go_sem, Bool.and_eq_false_iff] at hs) <;> omega)
 ·have hq : n8 (n7 r) (r.Body.getD n default) = false := by
   rcases Bool.eq_false_or_eq_true ((r.Body.getD n default).Kind == 3) with h | h
   ·rw [b8R (a9l r) (a9g hR (by omega)) h]
    clear hb hS0 hS1; grind [n7]
   ·rw [n8, h]; rfl
  (refine lpK_n2 (⟨n + 1, by omega, d6 (p := n8 (n7 r)) default (by omega) ha hq⟩) _ rfl ?_; simp only [go_sem, hw, hS0, hS1]; first | done | ((repeat' apply And.intro) <;> first | omega | (refine w64 ?_ ?_ ?_ <;> omega) | rfl | skip))
 ·have hk : ((r.Body.getD n default).Kind == 3) = true := by clear hb hS0 hS1; grind
  have hq : n8 (n7 r) (r.Body.getD n default) = true := by
   rw [b8R (a9l r) (a9g hR (by omega)) hk]
   clear hb hS0 hS1; grind [n7, e8]
  rw [b5c hR hs hd (any_true (d := default) (i := n) (by omega) hq)]
 ·have hk : ((r.Body.getD n default).Kind == 3) = true := by clear hb hS0 hS1; grind
  have hq : n8 (n7 r) (r.Body.getD n default) = false := by
   rw [b8R (a9l r) (a9g hR (by omega)) hk]
   clear hb hS0 hS1; grind [n7, e8]
  (refine lpK_n2 (⟨n + 1, by omega, d6 (p := n8 (n7 r)) default (by omega) ha hq⟩) _ rfl ?_; simp only [go_sem, hw, hS0, hS1]; first | done | ((repeat' apply And.intro) <;> first | omega | (refine w64 ?_ ?_ ?_ <;> omega) | rfl | skip))
 ·rw [c6 (by omega)] at ha
  rw [a6q hR hs hd ha, show isW (n7 r) = fun t => (n7 r).contains t.Var from funext fun t => b8Z (a9l r) t, Bool.not_and]
  rfl
noncomputable def a0c : CT := c9 (fun (x : GRule) => b0d x)
@[go_sem] theorem b7L (r_Kind : Int) (r_Head_Name : List UInt8) (r_Head_Args : List GTerm) (r_Body : List GLit) : a0c [(true, [.i .i64 r_Kind, .s r_Head_Name, .sl false [.s [], .i .i64 0, .s []] (r_Head_Args.map GTerm.cells), .sl false [.i .i64 0, .s [], .sl false [.s [], .i .i64 0, .s []] [], .i .i64 0, .s [], .i .i64 0, .s [], .s [], .i .i64 0, .s []] (r_Body.map (GLit.cells false false))])] = some (True, [], .one (false, [.b (k8 (GRule.mk r_Kind (GAtom.mk r_Head_Name r_Head_Args) r_Body))])) := c4 _ (by rintro ⟨_, ⟨_, _⟩, _⟩ ⟨_, ⟨_, _⟩, _⟩ h; simp at h; simp_all) (GRule.mk r_Kind (GAtom.mk r_Head_Name r_Head_Args) r_Body)
theorem a6u : OkC Tryz.prog 91 a0c := c5 _
end Go.Aw
