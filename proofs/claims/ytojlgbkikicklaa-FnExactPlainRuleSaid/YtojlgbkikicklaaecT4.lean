/- Plain rules. No condition. -/
import Derived.Test.YtojlgbkikicklaaecT3
namespace Go.Aw
open Go.Proofs
attribute [local irreducible] aft blk lpK retK AW SpecO
set_option linter.unusedVariables false
set_option linter.unusedSimpArgs false
set_option maxRecDepth 100000
def pktS : List UInt8 := [112, 97, 99, 107, 101, 116]
def fwdS : List UInt8 := [102, 111, 114, 119, 97, 114, 100]
abbrev argsP (r : GRule) : List GTerm := (r.Body.getD 0 default).Atom.Args
def shapeNo (r : GRule) : Bool := (r.Body.length : Int) == 0 || !((r.Body.getD 0 default).Kind == 1) || !((r.Body.getD 0 default).Atom.Name == pktS) || !((argsP r).length == (4 : Int))
def repAt (l : List GTerm) (i : Nat) : Bool := hasV (l.getD i default) && (l.take i).any fun y => (l.getD i default).Var == y.Var
def isW (w : List (List UInt8)) (t : GTerm) : Bool := hasV t && w.contains t.Var
def badCmp (w : List (List UInt8)) (l : GLit) : Bool := l.Kind == 3 && (isW w l.A && (decide (2 < l.Op) || hasV l.B) || isW w l.B && (decide (2 < l.Op) || hasV l.A))
def wildP (r : GRule) : List (List UInt8) := varsB ((argsP r).drop 2)
def plainB (r : GRule) : Bool := bif !ruleB r then false else bif shapeNo r then true else if firstN (argsP r).length (repAt (argsP r)) < (argsP r).length then false else bif r.Body.any (badCmp (wildP r)) then false else !(r.Head.Name == fwdS && r.Head.Args.any (isW (wildP r)))
theorem cut_drop {α : Type} (l : List α) (k : Nat) : cut l k l.length = l.drop k := by
  unfold cut; rw [List.take_of_length_le (by simp)]
theorem take_getD {α : Type} {l : List α} {n k : Nat} (d : α) (h : k < n) : (l.take n).getD k d = l.getD k d := by
  simp only [List.getD_eq_getElem?_getD, List.getElem?_take]; rw [if_pos h]
theorem lt_snoc' {q : Nat → Bool} {i : Nat} (h : ∀ j, j < i → q j = false) (hi : q i = false) : ∀ j, j < i + 1 → q j = false := by
  intro j hj
  rcases Nat.lt_succ_iff_lt_or_eq.1 hj with h1 | rfl
  · exact h j h1
  · exact hi
theorem plain_no {r : GRule} (h : ruleB r = false) : plainB r = false := by rw [plainB, h]; rfl
theorem plain_sh {r : GRule} (h : ruleB r = true) (hs : shapeNo r = true) : plainB r = true := by rw [plainB, h, hs]; rfl
theorem plain_rep {r : GRule} (h : ruleB r = true) (hs : shapeNo r = false) {i : Nat} (hi : i < (argsP r).length) (ha : ∀ j, j < i → repAt (argsP r) j = false) (hq : repAt (argsP r) i = true) : plainB r = false := by
  rw [plainB, h, hs, firstN_some ha hq hi, if_pos hi]; rfl
theorem plain_cmp {r : GRule} (h : ruleB r = true) (hs : shapeNo r = false) (ha : ∀ j, j < (argsP r).length → repAt (argsP r) j = false) (hq : r.Body.any (badCmp (wildP r)) = true) : plainB r = false := by
  rw [plainB, h, hs, firstN_none ha, if_neg (by omega), hq]; rfl
theorem plain_end {r : GRule} (h : ruleB r = true) (hs : shapeNo r = false) (ha : ∀ j, j < (argsP r).length → repAt (argsP r) j = false) (hq : r.Body.any (badCmp (wildP r)) = false) : plainB r = !(r.Head.Name == fwdS && r.Head.Args.any (isW (wildP r))) := by
  rw [plainB, h, hs, firstN_none ha, if_neg (by omega), hq]; rfl
def ac_spec_PlainRule : ACode := .seq (.reg false [⟨some 1, .box 4 (.t 0), none⟩, ⟨some 2, .mov (.k (.v false [.c (.b false)])), none⟩]) (.seq (.seq (.reg false [⟨some 13, .ld true 4 (.t 1),
  none⟩, ⟨some 14, .call 142 [.t 13], none⟩, ⟨some 15, .not (.t 14), none⟩]) (.cond (.t 15) (.seq (.reg false [⟨some 2, .mov (.k (.v false [.c (.b false)])),
  none⟩]) .ret) .skip)) (.seq (.seq (.reg false [⟨some 16, .fa 3 (.t 1), none⟩, ⟨some 17, .ld false 1 (.t 16), none⟩, ⟨some 18, .len (.t 17), none⟩, ⟨some 19,
  .bin .eql (.t 18) (.k (.v false [.c (.i .i64 0)])), none⟩, ⟨some 20, .mov (.t 19), none⟩, ⟨some 21, .fa 3 (.t 1), some (20, false)⟩, ⟨some 22, .ld false 1 (.t
  21), some (20, false)⟩, ⟨some 23, .ia 10 (.t 22) (.k (.v false [.c (.i .i64 0)])), some (20, false)⟩, ⟨some 24, .fa 0 (.t 23), some (20, false)⟩, ⟨some 25,
  .ld false 1 (.t 24), some (20, false)⟩, ⟨some 26, .bin .neq (.t 25) (.k (.v false [.c (.i .i64 1)])), some (20, false)⟩, ⟨some 27, .pick (.t 20) (.k (.v false
  [.c (.b true)])) (.t 26), none⟩, ⟨some 28, .mov (.t 27), none⟩, ⟨some 29, .fa 3 (.t 1), some (28, false)⟩, ⟨some 30, .ld false 1 (.t 29), some (28, false)⟩,
  ⟨some 31, .ia 10 (.t 30) (.k (.v false [.c (.i .i64 0)])), some (28, false)⟩, ⟨some 32, .fa 1 (.t 31), some (28, false)⟩, ⟨some 33, .fa 0 (.t 32), some (28,
  false)⟩, ⟨some 34, .ld false 1 (.t 33), some (28, false)⟩, ⟨some 35, .bin .neq (.t 34) (.k (.v false [.c (.s [112, 97, 99, 107, 101, 116])])), some (28,
  false)⟩, ⟨some 36, .pick (.t 28) (.k (.v false [.c (.b true)])) (.t 35), none⟩, ⟨some 37, .mov (.t 36), none⟩, ⟨some 38, .fa 3 (.t 1), some (37, false)⟩,
  ⟨some 39, .ld false 1 (.t 38), some (37, false)⟩, ⟨some 40, .ia 10 (.t 39) (.k (.v false [.c (.i .i64 0)])), some (37, false)⟩, ⟨some 41, .fa 1 (.t 40), some
  (37, false)⟩, ⟨some 42, .fa 1 (.t 41), some (37, false)⟩, ⟨some 43, .ld false 1 (.t 42), some (37, false)⟩, ⟨some 44, .len (.t 43), some (37, false)⟩, ⟨some
  45, .bin .neq (.t 44) (.k (.v false [.c (.i .i64 4)])), some (37, false)⟩, ⟨some 46, .pick (.t 37) (.k (.v false [.c (.b true)])) (.t 45), none⟩]) (.cond (.t
  46) (.seq (.reg false [⟨some 2, .mov (.k (.v false [.c (.b true)])), none⟩]) .ret) .skip)) (.seq (.reg false [⟨some 47, .fa 3 (.t 1), none⟩, ⟨some 48, .ld
  false 1 (.t 47), none⟩, ⟨some 49, .ia 10 (.t 48) (.k (.v false [.c (.i .i64 0)])), none⟩, ⟨some 50, .fa 1 (.t 49), none⟩, ⟨some 51, .fa 1 (.t 50), none⟩,
  ⟨some 52, .ld false 1 (.t 51), none⟩, ⟨some 3, .mov (.t 52), none⟩]) (.seq (.seq (.reg false [⟨some 53, .mov (.t 3), none⟩, ⟨some 54, .len (.t 53), none⟩,
  ⟨some 55, .mov (.k (.v false [.c (.i .i64 0)])), none⟩]) (.block 0 (.loop (.seq (.reg false [⟨some 56, .bin .lss (.t 55) (.t 54), none⟩]) (.seq (.cond (.t 56)
  .skip (.exit 0)) (.seq (.block 1 (.seq (.reg false [⟨some 57, .mov (.t 55), none⟩, ⟨some 4, .mov (.t 57), none⟩]) (.seq (.reg false [⟨some 5, .mov (.k (.v
  false [.c (.i .i64 0)])), none⟩]) (.block 2 (.loop (.seq (.seq (.reg false [⟨some 58, .mov (.t 5), none⟩, ⟨some 59, .mov (.t 4), none⟩, ⟨some 60, .bin .lss
  (.t 58) (.t 59), none⟩]) (.cond (.t 60) .skip (.exit 2))) (.seq (.block 3 (.seq (.reg true [⟨some 63, .mov (.t 3), none⟩, ⟨some 64, .mov (.t 4), none⟩, ⟨some
  65, .ia 3 (.t 63) (.t 64), none⟩, ⟨some 66, .fa 0 (.t 65), none⟩, ⟨some 67, .ld false 1 (.t 66), none⟩, ⟨some 68, .bin .neq (.t 67) (.k (.v false [.c (.s
  [])])), none⟩, ⟨some 69, .mov (.t 68), none⟩, ⟨some 70, .mov (.t 3), some (69, true)⟩, ⟨some 71, .mov (.t 4), some (69, true)⟩, ⟨some 72, .ia 3 (.t 70) (.t
  71), some (69, true)⟩, ⟨some 73, .fa 0 (.t 72), some (69, true)⟩, ⟨some 74, .ld false 1 (.t 73), some (69, true)⟩, ⟨some 75, .mov (.t 3), some (69, true)⟩,
  ⟨some 76, .mov (.t 5), some (69, true)⟩, ⟨some 77, .ia 3 (.t 75) (.t 76), some (69, true)⟩, ⟨some 78, .fa 0 (.t 77), some (69, true)⟩, ⟨some 79, .ld false 1
  (.t 78), some (69, true)⟩, ⟨some 80, .bin .eql (.t 74) (.t 79), some (69, true)⟩, ⟨some 81, .pick (.t 69) (.t 80) (.k (.v false [.c (.b false)])), none⟩])
  (.cond (.t 81) (.seq (.reg false [⟨some 2, .mov (.k (.v false [.c (.b false)])), none⟩]) .ret) .skip))) (.reg false [⟨some 61, .mov (.t 5), none⟩, ⟨some 62,
  .bin .add (.t 61) (.k (.v false [.c (.i .i64 1)])), none⟩, ⟨some 5, .mov (.t 62), none⟩])))))))) (.reg false [⟨some 82, .bin .add (.t 55) (.k (.v false [.c
  (.i .i64 1)])), none⟩, ⟨some 55, .mov (.t 82), none⟩]))))))) (.seq (.reg false [⟨some 83, .mov (.t 3), none⟩, ⟨some 84, .slc 3 (.t 83) (some (.k (.v false [.c
  (.i .i64 2)]))) none none, none⟩, ⟨some 85, .call 143 [.k (.v false [.nl [.s []]]), .t 84], none⟩, ⟨some 6, .mov (.t 85), none⟩]) (.seq (.seq (.reg false
  [⟨some 86, .fa 3 (.t 1), none⟩, ⟨some 87, .ld false 1 (.t 86), none⟩, ⟨some 88, .len (.t 87), none⟩, ⟨some 89, .mov (.k (.v false [.c (.i .i64 0)])), none⟩])
  (.block 4 (.loop (.seq (.reg false [⟨some 90, .bin .lss (.t 89) (.t 88), none⟩]) (.seq (.cond (.t 90) .skip (.exit 4)) (.seq (.block 5 (.seq (.reg false
  [⟨some 91, .ia 10 (.t 87) (.t 89), none⟩, ⟨some 92, .ld true 10 (.t 91), none⟩, ⟨some 8, .alloc [.i .i64, .s, .sl [.s [], .i .i64 0, .s []], .i .i64, .s, .i
  .i64, .s, .s, .i .i64, .s], none⟩, ⟨none, .st 10 (.t 8) (.t 92), none⟩]) (.seq (.seq (.reg false [⟨some 93, .fa 0 (.t 8), none⟩, ⟨some 94, .ld false 1 (.t
  93), none⟩, ⟨some 95, .bin .neq (.t 94) (.k (.v false [.c (.i .i64 3)])), none⟩]) (.cond (.t 95) (.exit 5) .skip)) (.seq (.reg false [⟨some 96, .fa 4 (.t 8),
  none⟩, ⟨some 97, .fa 0 (.t 96), none⟩, ⟨some 98, .ld false 1 (.t 97), none⟩, ⟨some 99, .bin .neq (.t 98) (.k (.v false [.c (.s [])])), none⟩, ⟨some 100, .mov
  (.t 99), none⟩, ⟨some 101, .mov (.t 6), some (100, true)⟩, ⟨some 102, .fa 4 (.t 8), some (100, true)⟩, ⟨some 103, .fa 0 (.t 102), some (100, true)⟩, ⟨some
  104, .ld false 1 (.t 103), some (100, true)⟩, ⟨some 105, .call 144 [.t 101, .t 104], some (100, true)⟩, ⟨some 106, .pick (.t 100) (.t 105) (.k (.v false [.c
  (.b false)])), none⟩, ⟨some 9, .mov (.t 106), none⟩]) (.seq (.reg false [⟨some 107, .fa 7 (.t 8), none⟩, ⟨some 108, .fa 0 (.t 107), none⟩, ⟨some 109, .ld
  false 1 (.t 108), none⟩, ⟨some 110, .bin .neq (.t 109) (.k (.v false [.c (.s [])])), none⟩, ⟨some 111, .mov (.t 110), none⟩, ⟨some 112, .mov (.t 6), some
  (111, true)⟩, ⟨some 113, .fa 7 (.t 8), some (111, true)⟩, ⟨some 114, .fa 0 (.t 113), some (111, true)⟩, ⟨some 115, .ld false 1 (.t 114), some (111, true)⟩,
  ⟨some 116, .call 144 [.t 112, .t 115], some (111, true)⟩, ⟨some 117, .pick (.t 111) (.t 116) (.k (.v false [.c (.b false)])), none⟩, ⟨some 10, .mov (.t 117),
  none⟩]) (.seq (.reg false [⟨some 118, .mov (.t 9), none⟩, ⟨some 119, .mov (.t 118), none⟩, ⟨some 120, .fa 3 (.t 8), some (119, true)⟩, ⟨some 121, .ld false 1
  (.t 120), some (119, true)⟩, ⟨some 122, .bin .gtr (.t 121) (.k (.v false [.c (.i .i64 2)])), some (119, true)⟩, ⟨some 123, .mov (.t 122), some (119, true)⟩,
  ⟨some 124, .fa 7 (.t 8), some (123, false)⟩, ⟨some 125, .fa 0 (.t 124), some (123, false)⟩, ⟨some 126, .ld false 1 (.t 125), some (123, false)⟩, ⟨some 127,
  .bin .neq (.t 126) (.k (.v false [.c (.s [])])), some (123, false)⟩, ⟨some 128, .pick (.t 123) (.k (.v false [.c (.b true)])) (.t 127), some (119, true)⟩,
  ⟨some 129, .pick (.t 119) (.t 128) (.k (.v false [.c (.b false)])), none⟩, ⟨some 130, .mov (.t 129), none⟩, ⟨some 131, .mov (.t 10), some (130, false)⟩, ⟨some
  132, .mov (.t 131), some (130, false)⟩, ⟨some 133, .fa 3 (.t 8), some (132, true)⟩, ⟨some 134, .ld false 1 (.t 133), some (132, true)⟩, ⟨some 135, .bin .gtr
  (.t 134) (.k (.v false [.c (.i .i64 2)])), some (132, true)⟩, ⟨some 136, .mov (.t 135), some (132, true)⟩, ⟨some 137, .fa 4 (.t 8), some (136, false)⟩, ⟨some
  138, .fa 0 (.t 137), some (136, false)⟩, ⟨some 139, .ld false 1 (.t 138), some (136, false)⟩, ⟨some 140, .bin .neq (.t 139) (.k (.v false [.c (.s [])])), some
  (136, false)⟩, ⟨some 141, .pick (.t 136) (.k (.v false [.c (.b true)])) (.t 140), some (132, true)⟩, ⟨some 142, .pick (.t 132) (.t 141) (.k (.v false [.c (.b
  false)])), some (130, false)⟩, ⟨some 143, .pick (.t 130) (.k (.v false [.c (.b true)])) (.t 142), none⟩]) (.cond (.t 143) (.seq (.reg false [⟨some 2, .mov (.k
  (.v false [.c (.b false)])), none⟩]) .ret) .skip))))))) (.reg false [⟨some 144, .bin .add (.t 89) (.k (.v false [.c (.i .i64 1)])), none⟩, ⟨some 89, .mov (.t
  144), none⟩]))))))) (.seq (.seq (.reg false [⟨some 145, .fa 1 (.t 1), none⟩, ⟨some 146, .fa 0 (.t 145), none⟩, ⟨some 147, .ld false 1 (.t 146), none⟩, ⟨some
  148, .bin .eql (.t 147) (.k (.v false [.c (.s [102, 111, 114, 119, 97, 114, 100])])), none⟩]) (.cond (.t 148) (.seq (.reg false [⟨some 149, .fa 1 (.t 1),
  none⟩, ⟨some 150, .fa 1 (.t 149), none⟩, ⟨some 151, .ld false 1 (.t 150), none⟩, ⟨some 152, .len (.t 151), none⟩, ⟨some 153, .mov (.k (.v false [.c (.i .i64
  0)])), none⟩]) (.block 6 (.loop (.seq (.reg false [⟨some 154, .bin .lss (.t 153) (.t 152), none⟩]) (.seq (.cond (.t 154) .skip (.exit 6)) (.seq (.block 7
  (.seq (.reg false [⟨some 155, .ia 3 (.t 151) (.t 153), none⟩, ⟨some 156, .ld true 3 (.t 155), none⟩, ⟨some 12, .alloc [.s, .i .i64, .s], none⟩, ⟨none, .st 3
  (.t 12) (.t 156), none⟩]) (.seq (.reg false [⟨some 157, .fa 0 (.t 12), none⟩, ⟨some 158, .ld false 1 (.t 157), none⟩, ⟨some 159, .bin .neq (.t 158) (.k (.v
  false [.c (.s [])])), none⟩, ⟨some 160, .mov (.t 159), none⟩, ⟨some 161, .mov (.t 6), some (160, true)⟩, ⟨some 162, .fa 0 (.t 12), some (160, true)⟩, ⟨some
  163, .ld false 1 (.t 162), some (160, true)⟩, ⟨some 164, .call 144 [.t 161, .t 163], some (160, true)⟩, ⟨some 165, .pick (.t 160) (.t 164) (.k (.v false [.c
  (.b false)])), none⟩]) (.cond (.t 165) (.seq (.reg false [⟨some 2, .mov (.k (.v false [.c (.b false)])), none⟩]) .ret) .skip)))) (.reg false [⟨some 166, .bin
  .add (.t 153) (.k (.v false [.c (.i .i64 1)])), none⟩, ⟨some 153, .mov (.t 166), none⟩]))))))) .skip)) (.seq (.reg false [⟨some 2, .mov (.k (.v false [.c (.b
  true)])), none⟩]) .ret))))))))
theorem hc_spec_PlainRule : Try.f57.body.bind (comp Try.prog Try.f57.ntmps) = some ac_spec_PlainRule := by kernel_rfl
theorem k_spec_PlainRule (r : GRule) : SpecO Try.prog 57 [(true, [.i .i64 r.Kind, .s r.Head.Name, .sl false [.s [], .i .i64 0, .s []] (r.Head.Args.map GTerm.cells), .sl false [.i .i64 0, .s [], .sl false [.s [], .i .i64 0, .s []] [], .i .i64 0, .s [], .i .i64 0, .s [], .s [], .i .i64 0, .s []] (r.Body.map (GLit.cells false false))])] [] (.one (false, [.b (plainB r)])) := by
  refine spec_of2 false false none Try.func57 hc_spec_PlainRule (rvs := [.t 2]) (hΓ := mkCtx_ok (deep := false) (l := [(142, [], c_spec_l15RuleOk), (143, [], c_spec_l16Terms_nil), (144, [], c_spec_l16Has)]) ⟨c_spec_l15RuleOk_ok, c_spec_l16Terms_nil_ok, c_spec_l16Has_ok, trivial⟩) (h := ?_)
  intro hb hE
  simp only [go_sem] at hb
  unfold ac_spec_PlainRule
  (first | refine AX_AW ?_ | skip); simp only [go_sem, reduceIte, reduceCtorEq, Nat.reduceEqDiff, Int.reduceToNat, Nat.reduceAdd, Nat.reduceLeDiff, Nat.reduceMul, Nat.reduceSub, Nat.reduceMod, Nat.reduceDiv, Nat.reduceLT, Nat.reduceBEq, List.reduceReplicate, ← and_assoc]; (repeat' first | apply CJ.mk | intro hc); all_goals try ((repeat' first | apply And.intro | intro hs) <;> (try simp only [go_sem, Bool.and_eq_false_iff] at hs) <;> omega)
  · rw [plain_no hc]
  · clear hb; grind
  · clear hb; grind
  · clear hb; grind
  · have hs : shapeNo r = true := by clear hb; grind [shapeNo, pktS]
    rw [plain_sh (by assumption) hs]
  · clear hb; grind
  have hR : ruleB r = true := by assumption
  have hs : shapeNo r = false := by clear hb; grind [shapeNo, pktS]
  have h4 : (argsP r).length = 4 := by clear hb; grind
  have h1 : 1 ≤ r.Body.length := by clear hb; grind
  have h4u : (r.Body.getD 0 default).Atom.Args.length = 4 := h4
  have hw : (cut (r.Body.getD 0 default).Atom.Args 2 (r.Body.getD 0 default).Atom.Args.length) = (argsP r).drop 2 := cut_drop _ _
  have h2 : ((argsP r).drop 2).length = 2 := by rw [List.length_drop, h4]
  clear hc
  refine aw_loop2 false [] [1, 3, 54] [2] [] (fun i : {i : Nat // i ≤ (argsP r).length ∧ ∀ j, j < i → repAt (argsP r) j = false} => [(55, slV (.i .i64 i.1))]) (fun i => []) (fun i => []) (fun i => (argsP r).length - i.1) (⟨0, by omega, by intro j h; omega⟩) _ rfl ?_ ?_
  · simp only [go_sem, reduceIte, reduceCtorEq, Nat.reduceEqDiff, Int.reduceToNat, Nat.reduceAdd, Nat.reduceLeDiff, Nat.reduceMul, Nat.reduceSub, Nat.reduceMod, Nat.reduceDiv, Nat.reduceLT, Nat.reduceBEq, List.reduceReplicate, ← and_assoc, hw]
    all_goals first | omega | ((repeat' apply And.intro) <;> first | omega | rfl | skip)
  intro S0 hS0 i
  simp only [go_sem, reduceIte, reduceCtorEq, Nat.reduceEqDiff, Int.reduceToNat, Nat.reduceAdd, Nat.reduceLeDiff, Nat.reduceMul, Nat.reduceSub, Nat.reduceMod, Nat.reduceDiv, Nat.reduceLT, Nat.reduceBEq, List.reduceReplicate, ← and_assoc, hw] at hS0
  obtain ⟨n, hn, ha⟩ := i
  (first | refine AX_AW ?_ | skip); simp only [go_sem, reduceIte, reduceCtorEq, Nat.reduceEqDiff, Int.reduceToNat, Nat.reduceAdd, Nat.reduceLeDiff, Nat.reduceMul, Nat.reduceSub, Nat.reduceMod, Nat.reduceDiv, Nat.reduceLT, Nat.reduceBEq, List.reduceReplicate, ← and_assoc, hw, hS0]; (repeat' first | apply CJ.mk | intro hc); all_goals try ((repeat' first | apply And.intro | intro hs) <;> (try simp only [go_sem, Bool.and_eq_false_iff] at hs) <;> omega)
  · skip
    refine aw_loop2 false [] [1, 3, 4, 54, 55] [2] [] (fun i : {k : Nat // k ≤ n ∧ (hasV ((argsP r).getD n default) && ((argsP r).take k).any fun y => ((argsP r).getD n default).Var == y.Var) = false} => [(5, slV (.i .i64 i.1))]) (fun i => []) (fun i => []) (fun i => n - i.1) (⟨0, by omega, by simp⟩) _ rfl ?_ ?_
    · simp only [go_sem, reduceIte, reduceCtorEq, Nat.reduceEqDiff, Int.reduceToNat, Nat.reduceAdd, Nat.reduceLeDiff, Nat.reduceMul, Nat.reduceSub, Nat.reduceMod, Nat.reduceDiv, Nat.reduceLT, Nat.reduceBEq, List.reduceReplicate, ← and_assoc, hw, hS0]
      all_goals first | omega | ((repeat' apply And.intro) <;> first | omega | rfl | skip)
    intro S1 hS1 i
    simp only [go_sem, reduceIte, reduceCtorEq, Nat.reduceEqDiff, Int.reduceToNat, Nat.reduceAdd, Nat.reduceLeDiff, Nat.reduceMul, Nat.reduceSub, Nat.reduceMod, Nat.reduceDiv, Nat.reduceLT, Nat.reduceBEq, List.reduceReplicate, ← and_assoc, hw, hS0] at hS1
    obtain ⟨k, hk, hx⟩ := i
    (first | refine AX_AW ?_ | skip); simp only [go_sem, reduceIte, reduceCtorEq, Nat.reduceEqDiff, Int.reduceToNat, Nat.reduceAdd, Nat.reduceLeDiff, Nat.reduceMul, Nat.reduceSub, Nat.reduceMod, Nat.reduceDiv, Nat.reduceLT, Nat.reduceBEq, List.reduceReplicate, ← and_assoc, hw, hS0, hS1]; (repeat' first | apply CJ.mk | intro hc); all_goals try ((repeat' first | apply And.intro | intro hs) <;> (try simp only [go_sem, Bool.and_eq_false_iff] at hs) <;> omega)
    · have hq : repAt (argsP r) n = true := by
        rw [repAt, Bool.and_eq_true]
        refine ⟨by rw [hasV, hc.1]; rfl, any_true (d := default) (i := k) (by rw [List.length_take]; omega) ?_⟩
        rw [take_getD default (by omega)]; exact hc.2
      rw [plain_rep hR hs (by omega) ha hq]
    · have hx2 : (hasV ((argsP r).getD n default) && ((argsP r).take (k + 1)).any fun y => ((argsP r).getD n default).Var == y.Var) = false := by
        have hc2 : (hasV ((argsP r).getD n default) && (((argsP r).getD n default).Var == ((argsP r).getD k default).Var)) = false := hc
        rw [any_take_succ (d := default) (by omega), Bool.and_or_distrib_left, hx, hc2]; rfl
      (refine lpK_n2 (⟨k + 1, by omega, hx2⟩) _ rfl ?_; simp only [go_sem, reduceIte, reduceCtorEq, Nat.reduceEqDiff, Int.reduceToNat, Nat.reduceAdd, Nat.reduceLeDiff, Nat.reduceMul, Nat.reduceSub, Nat.reduceMod, Nat.reduceDiv, Nat.reduceLT, Nat.reduceBEq, List.reduceReplicate, ← and_assoc, hw, hS0, hS1]; first | done | ((repeat' apply And.intro) <;> first | omega | (refine w64 ?_ ?_ ?_ <;> omega) | rfl | skip))
    · have e : k = n := by omega
      subst e
      (refine lpK_n2 (⟨k + 1, by omega, lt_snoc' ha hx⟩) _ rfl ?_; simp only [go_sem, reduceIte, reduceCtorEq, Nat.reduceEqDiff, Int.reduceToNat, Nat.reduceAdd, Nat.reduceLeDiff, Nat.reduceMul, Nat.reduceSub, Nat.reduceMod, Nat.reduceDiv, Nat.reduceLT, Nat.reduceBEq, List.reduceReplicate, ← and_assoc, hw, hS0, hS1]; first | done | ((repeat' apply And.intro) <;> first | omega | (refine w64 ?_ ?_ ?_ <;> omega) | rfl | skip))
  have hd : ∀ j, j < (argsP r).length → repAt (argsP r) j = false := fun j hj => ha j (by omega)
  clear hc ha
  refine aw_loop2 false [] [1, 6, 87, 88] [2] [] (fun i : {i : Nat // i ≤ r.Body.length ∧ (r.Body.take i).any (badCmp (wildP r)) = false} => [(89, slV (.i .i64 i.1))]) (fun i => []) (fun i => []) (fun i => r.Body.length - i.1) (⟨0, by omega, by simp⟩) _ rfl ?_ ?_
  · simp only [go_sem, reduceIte, reduceCtorEq, Nat.reduceEqDiff, Int.reduceToNat, Nat.reduceAdd, Nat.reduceLeDiff, Nat.reduceMul, Nat.reduceSub, Nat.reduceMod, Nat.reduceDiv, Nat.reduceLT, Nat.reduceBEq, List.reduceReplicate, ← and_assoc, hw, hS0]
    all_goals first | omega | ((repeat' apply And.intro) <;> first | omega | rfl | skip)
  intro S2 hS2 i
  simp only [go_sem, reduceIte, reduceCtorEq, Nat.reduceEqDiff, Int.reduceToNat, Nat.reduceAdd, Nat.reduceLeDiff, Nat.reduceMul, Nat.reduceSub, Nat.reduceMod, Nat.reduceDiv, Nat.reduceLT, Nat.reduceBEq, List.reduceReplicate, ← and_assoc, hw, hS0] at hS2
  obtain ⟨n, hn, ha⟩ := i
  (first | refine AX_AW ?_ | skip); simp only [go_sem, reduceIte, reduceCtorEq, Nat.reduceEqDiff, Int.reduceToNat, Nat.reduceAdd, Nat.reduceLeDiff, Nat.reduceMul, Nat.reduceSub, Nat.reduceMod, Nat.reduceDiv, Nat.reduceLT, Nat.reduceBEq, List.reduceReplicate, ← and_assoc, hw, hS0, hS2]; (repeat' first | apply CJ.mk | intro hc); all_goals try ((repeat' first | apply And.intro | intro hs) <;> (try simp only [go_sem, Bool.and_eq_false_iff] at hs) <;> omega)
  · have hq : badCmp (wildP r) (r.Body.getD n default) = false := by
      simp only [bne, Bool.not_eq_true'] at hc
      rw [badCmp, hc]; rfl
    (refine lpK_n2 (⟨n + 1, by omega, any_snoc (p := badCmp (wildP r)) default (by omega) ha hq⟩) _ rfl ?_; simp only [go_sem, reduceIte, reduceCtorEq, Nat.reduceEqDiff, Int.reduceToNat, Nat.reduceAdd, Nat.reduceLeDiff, Nat.reduceMul, Nat.reduceSub, Nat.reduceMod, Nat.reduceDiv, Nat.reduceLT, Nat.reduceBEq, List.reduceReplicate, ← and_assoc, hw, hS0, hS2]; first | done | ((repeat' apply And.intro) <;> first | omega | (refine w64 ?_ ?_ ?_ <;> omega) | rfl | skip))
  · have hq : badCmp (wildP r) (r.Body.getD n default) = true := by
      clear hb hS0 hS2; grind [badCmp, isW, wildP, hasV]
    rw [plain_cmp hR hs hd (any_true (d := default) (i := n) (by omega) hq)]
  · have hq : badCmp (wildP r) (r.Body.getD n default) = false := by
      clear hb hS0 hS2; grind [badCmp, isW, wildP, hasV]
    (refine lpK_n2 (⟨n + 1, by omega, any_snoc (p := badCmp (wildP r)) default (by omega) ha hq⟩) _ rfl ?_; simp only [go_sem, reduceIte, reduceCtorEq, Nat.reduceEqDiff, Int.reduceToNat, Nat.reduceAdd, Nat.reduceLeDiff, Nat.reduceMul, Nat.reduceSub, Nat.reduceMod, Nat.reduceDiv, Nat.reduceLT, Nat.reduceBEq, List.reduceReplicate, ← and_assoc, hw, hS0, hS2]; first | done | ((repeat' apply And.intro) <;> first | omega | (refine w64 ?_ ?_ ?_ <;> omega) | rfl | skip))
  · rw [take_all (by omega)] at ha
    have hF : (r.Head.Name == fwdS) = true := hc
    clear hc
    refine aw_loop2 false [] [6, 151, 152] [] [] (fun i : {i : Nat // i ≤ r.Head.Args.length ∧ (r.Head.Args.take i).any (isW (wildP r)) = false} => [(153, slV (.i .i64 i.1))]) (fun i => []) (fun i => []) (fun i => r.Head.Args.length - i.1) (⟨0, by omega, by simp⟩) _ rfl ?_ ?_
    · simp only [go_sem, reduceIte, reduceCtorEq, Nat.reduceEqDiff, Int.reduceToNat, Nat.reduceAdd, Nat.reduceLeDiff, Nat.reduceMul, Nat.reduceSub, Nat.reduceMod, Nat.reduceDiv, Nat.reduceLT, Nat.reduceBEq, List.reduceReplicate, ← and_assoc, hw, hS0, hS2]
      all_goals first | omega | ((repeat' apply And.intro) <;> first | omega | rfl | skip)
    intro S3 hS3 i
    simp only [go_sem, reduceIte, reduceCtorEq, Nat.reduceEqDiff, Int.reduceToNat, Nat.reduceAdd, Nat.reduceLeDiff, Nat.reduceMul, Nat.reduceSub, Nat.reduceMod, Nat.reduceDiv, Nat.reduceLT, Nat.reduceBEq, List.reduceReplicate, ← and_assoc, hw, hS0, hS2] at hS3
    obtain ⟨k, hk, hx⟩ := i
    (first | refine AX_AW ?_ | skip); simp only [go_sem, reduceIte, reduceCtorEq, Nat.reduceEqDiff, Int.reduceToNat, Nat.reduceAdd, Nat.reduceLeDiff, Nat.reduceMul, Nat.reduceSub, Nat.reduceMod, Nat.reduceDiv, Nat.reduceLT, Nat.reduceBEq, List.reduceReplicate, ← and_assoc, hw, hS0, hS2, hS3]; (repeat' first | apply CJ.mk | intro hc); all_goals try ((repeat' first | apply And.intro | intro hs) <;> (try simp only [go_sem, Bool.and_eq_false_iff] at hs) <;> omega)
    · rw [plain_end hR hs hd ha, hF, any_true (d := default) (i := k) (by omega) (show isW (wildP r) (r.Head.Args.getD k default) = true by rw [isW, hasV, hc.1]; exact hc.2)]; rfl
    · (refine lpK_n2 (⟨k + 1, by omega, any_snoc (p := isW (wildP r)) default (by omega) hx hc⟩) _ rfl ?_; simp only [go_sem, reduceIte, reduceCtorEq, Nat.reduceEqDiff, Int.reduceToNat, Nat.reduceAdd, Nat.reduceLeDiff, Nat.reduceMul, Nat.reduceSub, Nat.reduceMod, Nat.reduceDiv, Nat.reduceLT, Nat.reduceBEq, List.reduceReplicate, ← and_assoc, hw, hS0, hS2, hS3]; first | done | ((repeat' apply And.intro) <;> first | omega | (refine w64 ?_ ?_ ?_ <;> omega) | rfl | skip))
    · rw [take_all (by omega)] at hx
      rw [plain_end hR hs hd ha, hF, hx]; rfl
  · rw [take_all (by omega)] at ha
    rw [plain_end hR hs hd ha, show (r.Head.Name == fwdS) = false from hc]; rfl
noncomputable def c_spec_PlainRule : List V → Option (Prop × List (Nat × V) × R) := famCt (α := GRule) (fun x => [(true, [.i .i64 x.Kind, .s x.Head.Name, .sl false [.s [], .i .i64 0, .s []] (x.Head.Args.map GTerm.cells), .sl false [.i .i64 0, .s [], .sl false [.s [], .i .i64 0, .s []] [], .i .i64 0, .s [], .i .i64 0, .s [], .s [], .i .i64 0, .s []] (x.Body.map (GLit.cells false false))])]) (fun x => True) (fun x => []) (fun x => .one (false, [.b (plainB x)]))
@[go_sem] theorem c_spec_PlainRule_eq (r_Kind : Int) (r_Head_Name : List UInt8) (r_Head_Args : List GTerm) (r_Body : List GLit) : c_spec_PlainRule [(true, [.i .i64 r_Kind, .s r_Head_Name, .sl false [.s [], .i .i64 0, .s []] (r_Head_Args.map GTerm.cells), .sl false [.i .i64 0, .s [], .sl false [.s [], .i .i64 0, .s []] [], .i .i64 0, .s [], .i .i64 0, .s [], .s [], .i .i64 0, .s []] (r_Body.map (GLit.cells false false))])] = some (True, [], .one (false, [.b (plainB (GRule.mk r_Kind (GAtom.mk r_Head_Name r_Head_Args) r_Body))])) := famCt_eq (by rintro ⟨_, ⟨_, _⟩, _⟩ ⟨_, ⟨_, _⟩, _⟩ h; simp only [List.cons.injEq, Prod.mk.injEq, C.i.injEq, C.s.injEq, C.b.injEq, C.sl.injEq, C.p.injEq, C.mp.injEq, C.f.injEq, true_and, and_true, GLit_map_inj, GTerm_map_inj] at h; simp_all) (GRule.mk r_Kind (GAtom.mk r_Head_Name r_Head_Args) r_Body)
theorem c_spec_PlainRule_ok : ∀ vs q o r, c_spec_PlainRule vs = some (q, o, r) → q → SpecO Try.prog 57 vs o r := famCt_ok (fun x h => k_spec_PlainRule x)
def ac_impl_PlainRule_1 : ACode := .seq (.reg false [⟨some 2, .box 3 (.t 0), none⟩, ⟨some 3, .mov (.k (.v false [.c (.b false)])), none⟩]) (.seq (.reg false [⟨some 4, .ld false 1 (.t 1), none⟩,
  ⟨some 5, .fa 0 (.t 2), none⟩, ⟨some 6, .ld false 1 (.t 5), none⟩, ⟨some 7, .call 151 [.t 4, .t 6], none⟩, ⟨some 3, .mov (.t 7), none⟩]) .ret)
theorem hc_impl_PlainRule_1 : Try.f150.body.bind (comp Try.prog Try.f150.ntmps) = some ac_impl_PlainRule_1 := by kernel_rfl
theorem k_impl_PlainRule_1 (t : GTerm) (w : List (List UInt8)) : SpecO Try.prog 150 [(true, [.s t.Var, .i .i64 t.Val.N, .s t.Val.S]), (false, [.p [.sl false [.s []] (w.map cStr)]])] [] (.one (false, [.b (w.contains t.Var)])) := by
  refine spec_of2 false false none Try.func150 hc_impl_PlainRule_1 (rvs := [.t 3]) (hΓ := mkCtx_ok (deep := false) (l := [(151, [], c_conS)]) ⟨c_conS_ok, trivial⟩) (h := ?_)
  intro hb hE
  simp only [go_sem] at hb
  unfold ac_impl_PlainRule_1
  (first | refine AX_AW ?_ | skip); simp only [go_sem, reduceIte, reduceCtorEq, Nat.reduceEqDiff, Int.reduceToNat, Nat.reduceAdd, Nat.reduceLeDiff, Nat.reduceMul, Nat.reduceSub, Nat.reduceMod, Nat.reduceDiv, Nat.reduceLT, Nat.reduceBEq, List.reduceReplicate, ← and_assoc]; (repeat' first | apply CJ.mk | intro hc); all_goals try ((repeat' first | apply And.intro | intro hs) <;> (try simp only [go_sem, Bool.and_eq_false_iff] at hs) <;> omega)

noncomputable def c_impl_PlainRule_1 : List V → Option (Prop × List (Nat × V) × R) := famCt (α := GTerm × (List (List UInt8))) (fun x => [(true, [.s x.1.Var, .i .i64 x.1.Val.N, .s x.1.Val.S]), (false, [.p [.sl false [.s []] (x.2.map cStr)]])]) (fun x => True) (fun x => []) (fun x => .one (false, [.b (x.2.contains x.1.Var)]))
@[go_sem] theorem c_impl_PlainRule_1_eq (t_Var : List UInt8) (t_Val_N : Int) (t_Val_S : List UInt8) (w : List (List UInt8)) : c_impl_PlainRule_1 [(true, [.s t_Var, .i .i64 t_Val_N, .s t_Val_S]), (false, [.p [.sl false [.s []] (w.map cStr)]])] = some (True, [], .one (false, [.b (w.contains (GTerm.mk t_Var (GValue.mk t_Val_N t_Val_S)).Var)])) := famCt_eq (by rintro ⟨⟨_, ⟨_, _⟩⟩, _⟩ ⟨⟨_, ⟨_, _⟩⟩, _⟩ h; simp only [List.cons.injEq, Prod.mk.injEq, C.i.injEq, C.s.injEq, C.b.injEq, C.sl.injEq, C.p.injEq, C.mp.injEq, C.f.injEq, true_and, and_true, cStr_map_inj] at h; simp_all) ((GTerm.mk t_Var (GValue.mk t_Val_N t_Val_S)), w)
theorem c_impl_PlainRule_1_ok : ∀ vs q o r, c_impl_PlainRule_1 vs = some (q, o, r) → q → SpecO Try.prog 150 vs o r := famCt_ok (fun x h => k_impl_PlainRule_1 x.1 x.2)
theorem k_idxTerm_w (l : List GTerm) (w : List (List UInt8)) : SpecO Try.prog 183 [(false, [.sl false [.s [], .i .i64 0, .s []] (l.map GTerm.cells)]), (false, [.f 150 [.p [.sl false [.s []] (w.map cStr)]]])] [] (.one (false, [.i .i64 (idxL (fun y : GTerm => w.contains y.Var) l)])) := by
  refine spec_of2 false false none Try.func183 hc_idxTerm (rvs := [.t 4]) (hΓ := mkCtx_ok (deep := false) (l := [(150, [], c_impl_PlainRule_1)]) ⟨c_impl_PlainRule_1_ok, trivial⟩) (h := ?_)
  intro hb hE
  simp only [go_sem] at hb
  unfold ac_idxTerm
  (first | refine AX_AW ?_ | skip); simp only [go_sem, reduceIte, reduceCtorEq, Nat.reduceEqDiff, Int.reduceToNat, Nat.reduceAdd, Nat.reduceLeDiff, Nat.reduceMul, Nat.reduceSub, Nat.reduceMod, Nat.reduceDiv, Nat.reduceLT, Nat.reduceBEq, List.reduceReplicate, ← and_assoc]; (repeat' first | apply CJ.mk | intro hc); all_goals try ((repeat' first | apply And.intro | intro hs) <;> (try simp only [go_sem, Bool.and_eq_false_iff] at hs) <;> omega)
  refine aw_loop2 false [] [0, 1, 7] [] [] (fun i : {i : Nat // i ≤ l.length ∧ (l.take i).any (fun y : GTerm => w.contains y.Var) = false} => [(8, slV (.i .i64 i.1))]) (fun i => []) (fun i => []) (fun i => l.length - i.1) (⟨0, by simp⟩) _ rfl ?_ ?_
  · simp only [go_sem, reduceIte, reduceCtorEq, Nat.reduceEqDiff, Int.reduceToNat, Nat.reduceAdd, Nat.reduceLeDiff, Nat.reduceMul, Nat.reduceSub, Nat.reduceMod, Nat.reduceDiv, Nat.reduceLT, Nat.reduceBEq, List.reduceReplicate, ← and_assoc]
    all_goals first | omega | ((repeat' apply And.intro) <;> first | omega | rfl | skip)
  intro S0 hS0 i
  simp only [go_sem, reduceIte, reduceCtorEq, Nat.reduceEqDiff, Int.reduceToNat, Nat.reduceAdd, Nat.reduceLeDiff, Nat.reduceMul, Nat.reduceSub, Nat.reduceMod, Nat.reduceDiv, Nat.reduceLT, Nat.reduceBEq, List.reduceReplicate, ← and_assoc] at hS0
  obtain ⟨i, hi, ha⟩ := i
  (first | refine AX_AW ?_ | skip); simp only [go_sem, reduceIte, reduceCtorEq, Nat.reduceEqDiff, Int.reduceToNat, Nat.reduceAdd, Nat.reduceLeDiff, Nat.reduceMul, Nat.reduceSub, Nat.reduceMod, Nat.reduceDiv, Nat.reduceLT, Nat.reduceBEq, List.reduceReplicate, ← and_assoc, hS0]; (repeat' first | apply CJ.mk | intro hc); all_goals try ((repeat' first | apply And.intro | intro hs) <;> (try simp only [go_sem, Bool.and_eq_false_iff] at hs) <;> omega)
  · exact (idxL_some (p := fun y : GTerm => w.contains y.Var) (d := default) (by omega) ha (by simpa [-List.getD_eq_getElem?_getD] using hc)).symm
  · (refine lpK_n2 (⟨i + 1, by omega, any_snoc (p := fun y : GTerm => w.contains y.Var) default (by omega) ha (by simpa [-List.getD_eq_getElem?_getD] using hc)⟩) _ rfl ?_; simp only [go_sem, reduceIte, reduceCtorEq, Nat.reduceEqDiff, Int.reduceToNat, Nat.reduceAdd, Nat.reduceLeDiff, Nat.reduceMul, Nat.reduceSub, Nat.reduceMod, Nat.reduceDiv, Nat.reduceLT, Nat.reduceBEq, List.reduceReplicate, ← and_assoc, hS0]; first | done | ((repeat' apply And.intro) <;> first | omega | (refine w64 ?_ ?_ ?_ <;> omega) | rfl | skip))
  · exact (idxL_none (by rwa [take_all (by omega)] at ha)).symm
  all_goals trace_state
noncomputable def c_idxTerm_w : List V → Option (Prop × List (Nat × V) × R) := famCt (α := (List GTerm) × (List (List UInt8))) (fun x => [(false, [.sl false [.s [], .i .i64 0, .s []] (x.1.map GTerm.cells)]), (false, [.f 150 [.p [.sl false [.s []] (x.2.map cStr)]]])]) (fun x => True) (fun x => []) (fun x => .one (false, [.i .i64 (idxL (fun y : GTerm => x.2.contains y.Var) x.1)]))
@[go_sem] theorem c_idxTerm_w_eq (l : List GTerm) (w : List (List UInt8)) : c_idxTerm_w [(false, [.sl false [.s [], .i .i64 0, .s []] (l.map GTerm.cells)]), (false, [.f 150 [.p [.sl false [.s []] (w.map cStr)]]])] = some (True, [], .one (false, [.i .i64 (idxL (fun y : GTerm => w.contains y.Var) l)])) := famCt_eq (by rintro ⟨_, _⟩ ⟨_, _⟩ h; simp only [List.cons.injEq, Prod.mk.injEq, C.i.injEq, C.s.injEq, C.b.injEq, C.sl.injEq, C.p.injEq, C.mp.injEq, C.f.injEq, true_and, and_true, GTerm_map_inj, cStr_map_inj] at h; simp_all) (l, w)
theorem c_idxTerm_w_ok : ∀ vs q o r, c_idxTerm_w vs = some (q, o, r) → q → SpecO Try.prog 183 vs o r := famCt_ok (fun x h => k_idxTerm_w x.1 x.2)
theorem k_conTerm_w (l : List GTerm) (w : List (List UInt8)) : SpecO Try.prog 94 [(false, [.sl false [.s [], .i .i64 0, .s []] (l.map GTerm.cells)]), (false, [.f 150 [.p [.sl false [.s []] (w.map cStr)]]])] [] (.one (false, [.b (l.any (fun y : GTerm => w.contains y.Var))])) := by
  refine spec_of2 false false none Try.func94 hc_conTerm (rvs := [.t 4]) (hΓ := mkCtx_ok (deep := false) (l := [(183, [], c_idxTerm_w)]) ⟨c_idxTerm_w_ok, trivial⟩) (h := ?_)
  intro hb hE
  simp only [go_sem] at hb
  unfold ac_conTerm
  (first | refine AX_AW ?_ | skip); simp only [go_sem, reduceIte, reduceCtorEq, Nat.reduceEqDiff, Int.reduceToNat, Nat.reduceAdd, Nat.reduceLeDiff, Nat.reduceMul, Nat.reduceSub, Nat.reduceMod, Nat.reduceDiv, Nat.reduceLT, Nat.reduceBEq, List.reduceReplicate, ← and_assoc]; (repeat' first | apply CJ.mk | intro hc); all_goals try ((repeat' first | apply And.intro | intro hs) <;> (try simp only [go_sem, Bool.and_eq_false_iff] at hs) <;> omega)
  · exact idxL_any _ _
noncomputable def c_conTerm_w : List V → Option (Prop × List (Nat × V) × R) := famCt (α := (List GTerm) × (List (List UInt8))) (fun x => [(false, [.sl false [.s [], .i .i64 0, .s []] (x.1.map GTerm.cells)]), (false, [.f 150 [.p [.sl false [.s []] (x.2.map cStr)]]])]) (fun x => True) (fun x => []) (fun x => .one (false, [.b (x.1.any (fun y : GTerm => x.2.contains y.Var))]))
@[go_sem] theorem c_conTerm_w_eq (l : List GTerm) (w : List (List UInt8)) : c_conTerm_w [(false, [.sl false [.s [], .i .i64 0, .s []] (l.map GTerm.cells)]), (false, [.f 150 [.p [.sl false [.s []] (w.map cStr)]]])] = some (True, [], .one (false, [.b (l.any (fun y : GTerm => w.contains y.Var))])) := famCt_eq (by rintro ⟨_, _⟩ ⟨_, _⟩ h; simp only [List.cons.injEq, Prod.mk.injEq, C.i.injEq, C.s.injEq, C.b.injEq, C.sl.injEq, C.p.injEq, C.mp.injEq, C.f.injEq, true_and, and_true, GTerm_map_inj, cStr_map_inj] at h; simp_all) (l, w)
theorem c_conTerm_w_ok : ∀ vs q o r, c_conTerm_w vs = some (q, o, r) → q → SpecO Try.prog 94 vs o r := famCt_ok (fun x h => k_conTerm_w x.1 x.2)
theorem wild_nil (r : GRule) : (wildP r).contains [] = false := by
  rw [Bool.eq_false_iff]
  intro h
  rw [List.contains_iff_mem, wildP, varsB, mem_putsS] at h
  rcases h with h | h
  · simp at h
  · simp only [varL, List.mem_map, List.mem_filter, hasV] at h
    obtain ⟨a, ⟨_, h1⟩, h2⟩ := h
    rw [h2] at h1; simp at h1
theorem isW_eq {w : List (List UInt8)} (hw : w.contains [] = false) (t : GTerm) : isW w t = w.contains t.Var := by
  rw [isW, hasV]
  cases h : (t.Var == []) with
  | false => simp
  | true => rw [beq_iff_eq] at h; rw [h, hw]; rfl
theorem cmp_eq {w : List (List UInt8)} (hw : w.contains [] = false) {l : GLit} (h : litB l = true) (hk : (l.Kind == 3) = true) : badCmp w l = ((w.contains l.A.Var || w.contains l.B.Var) && ((l.Op != 1 && l.Op != 2) || (hasV l.A && hasV l.B))) := by
  have h1 : 1 ≤ l.Op := by
    rw [litB, hk] at h
    simp only [cond_true, Bool.and_eq_true, decide_eq_true_eq] at h
    omega
  have e : (l.Op != 1 && l.Op != 2) = decide (2 < l.Op) := by
    rw [Bool.eq_iff_iff]; simp; omega
  rw [badCmp, hk, e, isW_eq hw, isW_eq hw]
  have ha : hasV l.A = false → w.contains l.A.Var = false := by
    intro h; rw [hasV, Bool.not_eq_false', beq_iff_eq] at h; rw [h, hw]
  have hb : hasV l.B = false → w.contains l.B.Var = false := by
    intro h; rw [hasV, Bool.not_eq_false', beq_iff_eq] at h; rw [h, hw]
  revert ha hb
  generalize w.contains l.A.Var = a
  generalize w.contains l.B.Var = b
  generalize hasV l.A = c
  generalize hasV l.B = d
  generalize decide (2 < l.Op) = f
  revert a b c d f
  decide
theorem rule_lit {r : GRule} (h : ruleB r = true) {i : Nat} (hi : i < r.Body.length) : litB (r.Body.getD i default) = true := by
  simp only [ruleB, Bool.and_eq_true, List.all_eq_true] at h
  rw [getD_lt default hi]
  exact h.2 _ (List.getElem_mem hi)
theorem args_ok {r : GRule} (h : ruleB r = true) (hs : shapeNo r = false) : ∀ t ∈ argsP r, termOk t = true := by
  have h0 : 0 < r.Body.length := by
    simp only [shapeNo, Bool.or_eq_false_iff] at hs
    have := hs.1.1.1
    simp at this
    exact List.length_pos_iff.2 this
  have hk : ((r.Body.getD 0 default).Kind == 1) = true := by
    simp only [shapeNo, Bool.or_eq_false_iff, Bool.not_eq_false'] at hs
    exact hs.1.1.2
  have hl := rule_lit h h0
  rw [beq_iff_eq] at hk
  have hk3 : ((r.Body.getD 0 default).Kind == 3) = false := by rw [hk]; rfl
  rw [litB, hk3] at hl
  simp only [cond_false, Bool.and_eq_true, atomB, List.all_eq_true] at hl
  exact hl.1.1.1.2.2
theorem tEq_ok {a y : GTerm} (ha : termOk a = true) (hy : termOk y = true) (hv : hasV a = true) : tEq a y = (a.Var == y.Var) := by
  rw [tEq]
  cases h : (a.Var == y.Var) with
  | false => rfl
  | true =>
    have hv' : hasV y = true := by rw [beq_iff_eq] at h; rw [hasV, ← h]; exact hv
    rw [termOk, show (!(a.Var == [])) = true from hv] at ha
    rw [termOk, show (!(y.Var == [])) = true from hv'] at hy
    simp only [cond_true, Bool.and_eq_true, beq_iff_eq] at ha hy
    simp [ha.2.1, ha.2.2, hy.2.1, hy.2.2]
theorem rep_eq {r : GRule} (h : ruleB r = true) (hs : shapeNo r = false) {i : Nat} (hi : i < (argsP r).length) : (hasV ((argsP r).getD i default) && ((argsP r).take i).any (tEq ((argsP r).getD i default))) = repAt (argsP r) i := by
  rw [repAt]
  cases hv : hasV ((argsP r).getD i default) with
  | false => rfl
  | true =>
    simp only [Bool.true_and]
    have hm : (argsP r).getD i default ∈ argsP r := by rw [getD_lt default hi]; exact List.getElem_mem hi
    rw [Bool.eq_iff_iff, List.any_eq_true, List.any_eq_true]
    constructor
    · rintro ⟨y, hy, he⟩
      refine ⟨y, hy, ?_⟩
      rwa [tEq_ok (args_ok h hs _ hm) (args_ok h hs y (List.mem_of_mem_take hy)) hv] at he
    · rintro ⟨y, hy, he⟩
      refine ⟨y, hy, ?_⟩
      rwa [tEq_ok (args_ok h hs _ hm) (args_ok h hs y (List.mem_of_mem_take hy)) hv]
theorem cut_zero' {α : Type} (l : List α) (n : Nat) : cut l 0 n = l.take n := by unfold cut; simp
def ac_impl_PlainRule : ACode := .seq (.reg false [⟨some 1, .box 4 (.t 0), none⟩, ⟨some 2, .mov (.k (.v false [.c (.b false)])), none⟩]) (.seq (.seq (.reg false [⟨some 10, .ld true 4 (.t 1),
  none⟩, ⟨some 11, .call 147 [.t 10], none⟩, ⟨some 12, .not (.t 11), none⟩]) (.cond (.t 12) (.seq (.reg false [⟨some 2, .mov (.k (.v false [.c (.b false)])),
  none⟩]) .ret) .skip)) (.seq (.seq (.reg false [⟨some 13, .fa 3 (.t 1), none⟩, ⟨some 14, .ld false 1 (.t 13), none⟩, ⟨some 15, .len (.t 14), none⟩, ⟨some 16,
  .bin .eql (.t 15) (.k (.v false [.c (.i .i64 0)])), none⟩, ⟨some 17, .mov (.t 16), none⟩, ⟨some 18, .fa 3 (.t 1), some (17, false)⟩, ⟨some 19, .ld false 1 (.t
  18), some (17, false)⟩, ⟨some 20, .ia 10 (.t 19) (.k (.v false [.c (.i .i64 0)])), some (17, false)⟩, ⟨some 21, .fa 0 (.t 20), some (17, false)⟩, ⟨some 22,
  .ld false 1 (.t 21), some (17, false)⟩, ⟨some 23, .bin .neq (.t 22) (.k (.v false [.c (.i .i64 1)])), some (17, false)⟩, ⟨some 24, .pick (.t 17) (.k (.v false
  [.c (.b true)])) (.t 23), none⟩, ⟨some 25, .mov (.t 24), none⟩, ⟨some 26, .fa 3 (.t 1), some (25, false)⟩, ⟨some 27, .ld false 1 (.t 26), some (25, false)⟩,
  ⟨some 28, .ia 10 (.t 27) (.k (.v false [.c (.i .i64 0)])), some (25, false)⟩, ⟨some 29, .fa 1 (.t 28), some (25, false)⟩, ⟨some 30, .fa 0 (.t 29), some (25,
  false)⟩, ⟨some 31, .ld false 1 (.t 30), some (25, false)⟩, ⟨some 32, .bin .neq (.t 31) (.k (.v false [.c (.s [112, 97, 99, 107, 101, 116])])), some (25,
  false)⟩, ⟨some 33, .pick (.t 25) (.k (.v false [.c (.b true)])) (.t 32), none⟩, ⟨some 34, .mov (.t 33), none⟩, ⟨some 35, .fa 3 (.t 1), some (34, false)⟩,
  ⟨some 36, .ld false 1 (.t 35), some (34, false)⟩, ⟨some 37, .ia 10 (.t 36) (.k (.v false [.c (.i .i64 0)])), some (34, false)⟩, ⟨some 38, .fa 1 (.t 37), some
  (34, false)⟩, ⟨some 39, .fa 1 (.t 38), some (34, false)⟩, ⟨some 40, .ld false 1 (.t 39), some (34, false)⟩, ⟨some 41, .len (.t 40), some (34, false)⟩, ⟨some
  42, .bin .neq (.t 41) (.k (.v false [.c (.i .i64 4)])), some (34, false)⟩, ⟨some 43, .pick (.t 34) (.k (.v false [.c (.b true)])) (.t 42), none⟩]) (.cond (.t
  43) (.seq (.reg false [⟨some 2, .mov (.k (.v false [.c (.b true)])), none⟩]) .ret) .skip)) (.seq (.reg false [⟨some 44, .fa 3 (.t 1), none⟩, ⟨some 45, .ld
  false 1 (.t 44), none⟩, ⟨some 46, .ia 10 (.t 45) (.k (.v false [.c (.i .i64 0)])), none⟩, ⟨some 47, .fa 1 (.t 46), none⟩, ⟨some 48, .fa 1 (.t 47), none⟩,
  ⟨some 49, .ld false 1 (.t 48), none⟩, ⟨some 3, .mov (.t 49), none⟩]) (.seq (.seq (.reg false [⟨some 50, .mov (.t 3), none⟩, ⟨some 51, .len (.t 50), none⟩,
  ⟨some 52, .mov (.k (.v false [.c (.i .i64 0)])), none⟩]) (.block 0 (.loop (.seq (.reg false [⟨some 53, .bin .lss (.t 52) (.t 51), none⟩]) (.seq (.cond (.t 53)
  .skip (.exit 0)) (.seq (.block 1 (.seq (.reg false [⟨some 54, .mov (.t 52), none⟩, ⟨some 55, .ia 3 (.t 50) (.t 52), none⟩, ⟨some 56, .ld true 3 (.t 55),
  none⟩, ⟨some 5, .alloc [.s, .i .i64, .s], none⟩, ⟨some 4, .mov (.t 54), none⟩, ⟨none, .st 3 (.t 5) (.t 56), none⟩]) (.seq (.reg true [⟨some 57, .fa 0 (.t 5),
  none⟩, ⟨some 58, .ld false 1 (.t 57), none⟩, ⟨some 59, .bin .neq (.t 58) (.k (.v false [.c (.s [])])), none⟩, ⟨some 60, .mov (.t 59), none⟩, ⟨some 61, .mov
  (.t 3), some (60, true)⟩, ⟨some 62, .mov (.t 4), some (60, true)⟩, ⟨some 63, .slc 3 (.t 61) none (some (.t 62)) none, some (60, true)⟩, ⟨some 64, .ld true 3
  (.t 5), some (60, true)⟩, ⟨some 65, .call 148 [.t 63, .t 64], some (60, true)⟩, ⟨some 66, .pick (.t 60) (.t 65) (.k (.v false [.c (.b false)])), none⟩])
  (.cond (.t 66) (.seq (.reg false [⟨some 2, .mov (.k (.v false [.c (.b false)])), none⟩]) .ret) .skip)))) (.reg false [⟨some 67, .bin .add (.t 52) (.k (.v
  false [.c (.i .i64 1)])), none⟩, ⟨some 52, .mov (.t 67), none⟩]))))))) (.seq (.reg false [⟨some 68, .mov (.t 3), none⟩, ⟨some 69, .slc 3 (.t 68) (some (.k (.v
  false [.c (.i .i64 2)]))) none none, none⟩, ⟨some 70, .call 149 [.t 69], none⟩, ⟨some 6, .alloc [.sl [.s []]], none⟩, ⟨none, .st 1 (.t 6) (.t 70), none⟩])
  (.seq (.reg false [⟨some 71, .mf 150 [.t 6], none⟩, ⟨some 7, .mov (.t 71), none⟩]) (.seq (.seq (.reg false [⟨some 72, .fa 3 (.t 1), none⟩, ⟨some 73, .ld false
  1 (.t 72), none⟩, ⟨some 74, .len (.t 73), none⟩, ⟨some 75, .mov (.k (.v false [.c (.i .i64 0)])), none⟩]) (.block 2 (.loop (.seq (.reg false [⟨some 76, .bin
  .lss (.t 75) (.t 74), none⟩]) (.seq (.cond (.t 76) .skip (.exit 2)) (.seq (.block 3 (.seq (.reg false [⟨some 77, .ia 10 (.t 73) (.t 75), none⟩, ⟨some 78, .ld
  true 10 (.t 77), none⟩, ⟨some 9, .alloc [.i .i64, .s, .sl [.s [], .i .i64 0, .s []], .i .i64, .s, .i .i64, .s, .s, .i .i64, .s], none⟩, ⟨none, .st 10 (.t 9)
  (.t 78), none⟩]) (.seq (.seq (.reg false [⟨some 79, .fa 0 (.t 9), none⟩, ⟨some 80, .ld false 1 (.t 79), none⟩, ⟨some 81, .bin .neq (.t 80) (.k (.v false [.c
  (.i .i64 3)])), none⟩, ⟨some 82, .mov (.t 81), none⟩, ⟨some 83, .mov (.t 7), some (82, false)⟩, ⟨some 84, .fa 4 (.t 9), some (82, false)⟩, ⟨some 85, .ld true
  3 (.t 84), some (82, false)⟩, ⟨some 86, .callv (.t 83) [.t 85], some (82, false)⟩, ⟨some 87, .not (.t 86), some (82, false)⟩, ⟨some 88, .mov (.t 87), some
  (82, false)⟩, ⟨some 89, .mov (.t 7), some (88, true)⟩, ⟨some 90, .fa 7 (.t 9), some (88, true)⟩, ⟨some 91, .ld true 3 (.t 90), some (88, true)⟩, ⟨some 92,
  .callv (.t 89) [.t 91], some (88, true)⟩, ⟨some 93, .not (.t 92), some (88, true)⟩, ⟨some 94, .pick (.t 88) (.t 93) (.k (.v false [.c (.b false)])), some (82,
  false)⟩, ⟨some 95, .pick (.t 82) (.k (.v false [.c (.b true)])) (.t 94), none⟩]) (.cond (.t 95) (.exit 3) .skip)) (.seq (.reg false [⟨some 96, .fa 3 (.t 9),
  none⟩, ⟨some 97, .ld false 1 (.t 96), none⟩, ⟨some 98, .bin .neq (.t 97) (.k (.v false [.c (.i .i64 1)])), none⟩, ⟨some 99, .mov (.t 98), none⟩, ⟨some 100,
  .fa 3 (.t 9), some (99, true)⟩, ⟨some 101, .ld false 1 (.t 100), some (99, true)⟩, ⟨some 102, .bin .neq (.t 101) (.k (.v false [.c (.i .i64 2)])), some (99,
  true)⟩, ⟨some 103, .pick (.t 99) (.t 102) (.k (.v false [.c (.b false)])), none⟩, ⟨some 104, .mov (.t 103), none⟩, ⟨some 105, .fa 4 (.t 9), some (104,
  false)⟩, ⟨some 106, .fa 0 (.t 105), some (104, false)⟩, ⟨some 107, .ld false 1 (.t 106), some (104, false)⟩, ⟨some 108, .bin .neq (.t 107) (.k (.v false [.c
  (.s [])])), some (104, false)⟩, ⟨some 109, .mov (.t 108), some (104, false)⟩, ⟨some 110, .fa 7 (.t 9), some (109, true)⟩, ⟨some 111, .fa 0 (.t 110), some
  (109, true)⟩, ⟨some 112, .ld false 1 (.t 111), some (109, true)⟩, ⟨some 113, .bin .neq (.t 112) (.k (.v false [.c (.s [])])), some (109, true)⟩, ⟨some 114,
  .pick (.t 109) (.t 113) (.k (.v false [.c (.b false)])), some (104, false)⟩, ⟨some 115, .pick (.t 104) (.k (.v false [.c (.b true)])) (.t 114), none⟩]) (.cond
  (.t 115) (.seq (.reg false [⟨some 2, .mov (.k (.v false [.c (.b false)])), none⟩]) .ret) .skip))))) (.reg false [⟨some 116, .bin .add (.t 75) (.k (.v false
  [.c (.i .i64 1)])), none⟩, ⟨some 75, .mov (.t 116), none⟩]))))))) (.seq (.reg false [⟨some 117, .fa 1 (.t 1), none⟩, ⟨some 118, .fa 0 (.t 117), none⟩, ⟨some
  119, .ld false 1 (.t 118), none⟩, ⟨some 120, .bin .neq (.t 119) (.k (.v false [.c (.s [102, 111, 114, 119, 97, 114, 100])])), none⟩, ⟨some 121, .mov (.t 120),
  none⟩, ⟨some 122, .fa 1 (.t 1), some (121, false)⟩, ⟨some 123, .fa 1 (.t 122), some (121, false)⟩, ⟨some 124, .ld false 1 (.t 123), some (121, false)⟩, ⟨some
  125, .mov (.t 7), some (121, false)⟩, ⟨some 126, .call 94 [.t 124, .t 125], some (121, false)⟩, ⟨some 127, .not (.t 126), some (121, false)⟩, ⟨some 128, .pick
  (.t 121) (.k (.v false [.c (.b true)])) (.t 127), none⟩, ⟨some 2, .mov (.t 128), none⟩]) .ret))))))))
theorem hc_impl_PlainRule : Try.f59.body.bind (comp Try.prog Try.f59.ntmps) = some ac_impl_PlainRule := by kernel_rfl
theorem k_impl_PlainRule (r : GRule) : SpecO Try.prog 59 [(true, [.i .i64 r.Kind, .s r.Head.Name, .sl false [.s [], .i .i64 0, .s []] (r.Head.Args.map GTerm.cells), .sl false [.i .i64 0, .s [], .sl false [.s [], .i .i64 0, .s []] [], .i .i64 0, .s [], .i .i64 0, .s [], .s [], .i .i64 0, .s []] (r.Body.map (GLit.cells false false))])] [] (.one (false, [.b (plainB r)])) := by
  refine spec_of2 false false none Try.func59 hc_impl_PlainRule (rvs := [.t 2]) (hΓ := mkCtx_ok (deep := false) (l := [(147, [], c_impl_ruleOk), (148, [], c_conT), (149, [], c_impl_varsIn), (150, [], c_impl_PlainRule_1), (94, [], c_conTerm_w)]) ⟨c_impl_ruleOk_ok, c_conT_ok, c_impl_varsIn_ok, c_impl_PlainRule_1_ok, c_conTerm_w_ok, trivial⟩) (h := ?_)
  intro hb hE
  simp only [go_sem] at hb
  unfold ac_impl_PlainRule
  (first | refine AX_AW ?_ | skip); simp only [go_sem, reduceIte, reduceCtorEq, Nat.reduceEqDiff, Int.reduceToNat, Nat.reduceAdd, Nat.reduceLeDiff, Nat.reduceMul, Nat.reduceSub, Nat.reduceMod, Nat.reduceDiv, Nat.reduceLT, Nat.reduceBEq, List.reduceReplicate, ← and_assoc]; (repeat' first | apply CJ.mk | intro hc); all_goals try ((repeat' first | apply And.intro | intro hs) <;> (try simp only [go_sem, Bool.and_eq_false_iff] at hs) <;> omega)
  · rw [plain_no hc]
  · clear hb; grind
  · clear hb; grind
  · clear hb; grind
  · have hs : shapeNo r = true := by clear hb; grind [shapeNo, pktS]
    rw [plain_sh (by assumption) hs]
  · clear hb; grind
  have hR : ruleB r = true := by assumption
  have hs : shapeNo r = false := by clear hb; grind [shapeNo, pktS]
  have h4 : (argsP r).length = 4 := by clear hb; grind
  have h1 : 1 ≤ r.Body.length := by clear hb; grind
  have h4u : (r.Body.getD 0 default).Atom.Args.length = 4 := h4
  have hw : (cut (r.Body.getD 0 default).Atom.Args 2 (r.Body.getD 0 default).Atom.Args.length) = (argsP r).drop 2 := cut_drop _ _
  have h2 : ((argsP r).drop 2).length = 2 := by rw [List.length_drop, h4]
  clear hc
  refine aw_loop2 false [] [1, 3, 50, 51] [2] [] (fun i : {i : Nat // i ≤ (argsP r).length ∧ ∀ j, j < i → repAt (argsP r) j = false} => [(52, slV (.i .i64 i.1))]) (fun i => []) (fun i => []) (fun i => (argsP r).length - i.1) (⟨0, by omega, by intro j h; omega⟩) _ rfl ?_ ?_
  · simp only [go_sem, reduceIte, reduceCtorEq, Nat.reduceEqDiff, Int.reduceToNat, Nat.reduceAdd, Nat.reduceLeDiff, Nat.reduceMul, Nat.reduceSub, Nat.reduceMod, Nat.reduceDiv, Nat.reduceLT, Nat.reduceBEq, List.reduceReplicate, ← and_assoc, hw]
    all_goals first | omega | ((repeat' apply And.intro) <;> first | omega | rfl | skip)
  intro S0 hS0 i
  simp only [go_sem, reduceIte, reduceCtorEq, Nat.reduceEqDiff, Int.reduceToNat, Nat.reduceAdd, Nat.reduceLeDiff, Nat.reduceMul, Nat.reduceSub, Nat.reduceMod, Nat.reduceDiv, Nat.reduceLT, Nat.reduceBEq, List.reduceReplicate, ← and_assoc, hw] at hS0
  obtain ⟨n, hn, ha⟩ := i
  (first | refine AX_AW ?_ | skip); simp only [go_sem, reduceIte, reduceCtorEq, Nat.reduceEqDiff, Int.reduceToNat, Nat.reduceAdd, Nat.reduceLeDiff, Nat.reduceMul, Nat.reduceSub, Nat.reduceMod, Nat.reduceDiv, Nat.reduceLT, Nat.reduceBEq, List.reduceReplicate, ← and_assoc, hw, hS0]; (repeat' first | apply CJ.mk | intro hc); all_goals try ((repeat' first | apply And.intro | intro hs) <;> (try simp only [go_sem, Bool.and_eq_false_iff] at hs) <;> omega)
  · have hq : repAt (argsP r) n = true := by
      rw [← rep_eq hR hs (by omega), Bool.and_eq_true]
      rw [cut_zero'] at hc
      exact ⟨by rw [hasV, hc.1]; rfl, hc.2⟩
    rw [plain_rep hR hs (by omega) ha hq]
  · have hq : repAt (argsP r) n = false := by
      rw [← rep_eq hR hs (by omega)]
      rw [cut_zero'] at hc
      exact hc
    (refine lpK_n2 (⟨n + 1, by omega, lt_snoc' ha hq⟩) _ rfl ?_; simp only [go_sem, reduceIte, reduceCtorEq, Nat.reduceEqDiff, Int.reduceToNat, Nat.reduceAdd, Nat.reduceLeDiff, Nat.reduceMul, Nat.reduceSub, Nat.reduceMod, Nat.reduceDiv, Nat.reduceLT, Nat.reduceBEq, List.reduceReplicate, ← and_assoc, hw, hS0]; first | done | ((repeat' apply And.intro) <;> first | omega | (refine w64 ?_ ?_ ?_ <;> omega) | rfl | skip))
  have hd : ∀ j, j < (argsP r).length → repAt (argsP r) j = false := fun j hj => ha j (by omega)
  clear hc ha
  refine aw_loop2 false [] [1, 7, 73, 74] [2, 12] [8960] (fun i : {i : Nat // i ≤ r.Body.length ∧ (r.Body.take i).any (badCmp (wildP r)) = false} => [(75, slV (.i .i64 i.1))]) (fun i => []) (fun i => []) (fun i => r.Body.length - i.1) (⟨0, by omega, by simp⟩) _ rfl ?_ ?_
  · simp only [go_sem, reduceIte, reduceCtorEq, Nat.reduceEqDiff, Int.reduceToNat, Nat.reduceAdd, Nat.reduceLeDiff, Nat.reduceMul, Nat.reduceSub, Nat.reduceMod, Nat.reduceDiv, Nat.reduceLT, Nat.reduceBEq, List.reduceReplicate, ← and_assoc, hw, hS0]
    all_goals first | omega | ((repeat' apply And.intro) <;> first | omega | rfl | skip)
  intro S1 hS1 i
  simp only [go_sem, reduceIte, reduceCtorEq, Nat.reduceEqDiff, Int.reduceToNat, Nat.reduceAdd, Nat.reduceLeDiff, Nat.reduceMul, Nat.reduceSub, Nat.reduceMod, Nat.reduceDiv, Nat.reduceLT, Nat.reduceBEq, List.reduceReplicate, ← and_assoc, hw, hS0] at hS1
  obtain ⟨n, hn, ha⟩ := i
  (first | refine AX_AW ?_ | skip); simp only [go_sem, reduceIte, reduceCtorEq, Nat.reduceEqDiff, Int.reduceToNat, Nat.reduceAdd, Nat.reduceLeDiff, Nat.reduceMul, Nat.reduceSub, Nat.reduceMod, Nat.reduceDiv, Nat.reduceLT, Nat.reduceBEq, List.reduceReplicate, ← and_assoc, hw, hS0, hS1]; (repeat' first | apply CJ.mk | intro hc); all_goals try ((repeat' first | apply And.intro | intro hs) <;> (try simp only [go_sem, Bool.and_eq_false_iff] at hs) <;> omega)
  · have hq : badCmp (wildP r) (r.Body.getD n default) = false := by
      rcases Bool.eq_false_or_eq_true ((r.Body.getD n default).Kind == 3) with h | h
      · rw [cmp_eq (wild_nil r) (rule_lit hR (by omega)) h]
        clear hb hS0 hS1; grind [wildP]
      · rw [badCmp, h]; rfl
    (refine lpK_n2 (⟨n + 1, by omega, any_snoc (p := badCmp (wildP r)) default (by omega) ha hq⟩) _ rfl ?_; simp only [go_sem, reduceIte, reduceCtorEq, Nat.reduceEqDiff, Int.reduceToNat, Nat.reduceAdd, Nat.reduceLeDiff, Nat.reduceMul, Nat.reduceSub, Nat.reduceMod, Nat.reduceDiv, Nat.reduceLT, Nat.reduceBEq, List.reduceReplicate, ← and_assoc, hw, hS0, hS1]; first | done | ((repeat' apply And.intro) <;> first | omega | (refine w64 ?_ ?_ ?_ <;> omega) | rfl | skip))
  · have hk : ((r.Body.getD n default).Kind == 3) = true := by clear hb hS0 hS1; grind
    have hq : badCmp (wildP r) (r.Body.getD n default) = true := by
      rw [cmp_eq (wild_nil r) (rule_lit hR (by omega)) hk]
      clear hb hS0 hS1; grind [wildP, hasV]
    rw [plain_cmp hR hs hd (any_true (d := default) (i := n) (by omega) hq)]
  · have hk : ((r.Body.getD n default).Kind == 3) = true := by clear hb hS0 hS1; grind
    have hq : badCmp (wildP r) (r.Body.getD n default) = false := by
      rw [cmp_eq (wild_nil r) (rule_lit hR (by omega)) hk]
      clear hb hS0 hS1; grind [wildP, hasV]
    (refine lpK_n2 (⟨n + 1, by omega, any_snoc (p := badCmp (wildP r)) default (by omega) ha hq⟩) _ rfl ?_; simp only [go_sem, reduceIte, reduceCtorEq, Nat.reduceEqDiff, Int.reduceToNat, Nat.reduceAdd, Nat.reduceLeDiff, Nat.reduceMul, Nat.reduceSub, Nat.reduceMod, Nat.reduceDiv, Nat.reduceLT, Nat.reduceBEq, List.reduceReplicate, ← and_assoc, hw, hS0, hS1]; first | done | ((repeat' apply And.intro) <;> first | omega | (refine w64 ?_ ?_ ?_ <;> omega) | rfl | skip))
  · rw [take_all (by omega)] at ha
    rw [plain_end hR hs hd ha, show isW (wildP r) = fun t => (wildP r).contains t.Var from funext fun t => isW_eq (wild_nil r) t, Bool.not_and]
    rfl
noncomputable def c_impl_PlainRule : List V → Option (Prop × List (Nat × V) × R) := famCt (α := GRule) (fun x => [(true, [.i .i64 x.Kind, .s x.Head.Name, .sl false [.s [], .i .i64 0, .s []] (x.Head.Args.map GTerm.cells), .sl false [.i .i64 0, .s [], .sl false [.s [], .i .i64 0, .s []] [], .i .i64 0, .s [], .i .i64 0, .s [], .s [], .i .i64 0, .s []] (x.Body.map (GLit.cells false false))])]) (fun x => True) (fun x => []) (fun x => .one (false, [.b (plainB x)]))
@[go_sem] theorem c_impl_PlainRule_eq (r_Kind : Int) (r_Head_Name : List UInt8) (r_Head_Args : List GTerm) (r_Body : List GLit) : c_impl_PlainRule [(true, [.i .i64 r_Kind, .s r_Head_Name, .sl false [.s [], .i .i64 0, .s []] (r_Head_Args.map GTerm.cells), .sl false [.i .i64 0, .s [], .sl false [.s [], .i .i64 0, .s []] [], .i .i64 0, .s [], .i .i64 0, .s [], .s [], .i .i64 0, .s []] (r_Body.map (GLit.cells false false))])] = some (True, [], .one (false, [.b (plainB (GRule.mk r_Kind (GAtom.mk r_Head_Name r_Head_Args) r_Body))])) := famCt_eq (by rintro ⟨_, ⟨_, _⟩, _⟩ ⟨_, ⟨_, _⟩, _⟩ h; simp only [List.cons.injEq, Prod.mk.injEq, C.i.injEq, C.s.injEq, C.b.injEq, C.sl.injEq, C.p.injEq, C.mp.injEq, C.f.injEq, true_and, and_true, GLit_map_inj, GTerm_map_inj] at h; simp_all) (GRule.mk r_Kind (GAtom.mk r_Head_Name r_Head_Args) r_Body)
theorem c_impl_PlainRule_ok : ∀ vs q o r, c_impl_PlainRule vs = some (q, o, r) → q → SpecO Try.prog 59 vs o r := famCt_ok (fun x h => k_impl_PlainRule x)
end Go.Aw
