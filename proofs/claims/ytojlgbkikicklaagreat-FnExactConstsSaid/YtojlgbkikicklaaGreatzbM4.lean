/- Marked rules. No condition. -/
import Derived.Test.YtojlgbkikicklaaGreatzbM2
import Derived.Test.YtojlgbkikicklaaGreatfMx2zb
namespace Go.Aw
open Go.Proofs
attribute [local irreducible] aft blk lpK retK AW SpecO
set_option linter.unusedVariables false
set_option linter.unusedSimpArgs false
set_option maxRecDepth 100000

set_option maxHeartbeats 4000000
def cntLit (x : GLit) : Nat := 9 + 3 * x.Atom.Args.length
def mark1Lit (x : GLit) (k : Int) : GLit := GLit.mk k (GAtom.mk (mtext (k + 1)) (markLTerm x.Atom.Args.length (k + 2))) ((k + 2) + 3 * (x.Atom.Args.length : Nat)) (GTerm.mk (mtext (((k + 2) + 3 * (x.Atom.Args.length : Nat)) + 1)) (GValue.mk (((k + 2) + 3 * (x.Atom.Args.length : Nat)) + 2) (mtext (((k + 2) + 3 * (x.Atom.Args.length : Nat)) + 3)))) (GTerm.mk (mtext (((k + 2) + 3 * (x.Atom.Args.length : Nat)) + 4)) (GValue.mk (((k + 2) + 3 * (x.Atom.Args.length : Nat)) + 5) (mtext (((k + 2) + 3 * (x.Atom.Args.length : Nat)) + 6))))
def ac_laws_markLitS : ACode := .seq (.reg false [⟨some 4, .mov (.k (.v false [.c (.i .i64 0)])), none⟩]) (.seq (.seq (.reg false [⟨some 5, .mov (.k (.v false [.c (.i .i64 0)])), none⟩])
  (.block 0 (.loop (.seq (.seq (.reg false [⟨some 6, .mov (.t 5), none⟩, ⟨some 7, .mov (.t 0), none⟩, ⟨some 8, .len (.t 7), none⟩, ⟨some 9, .bin .lss (.t 6) (.t
  8), none⟩]) (.cond (.t 9) .skip (.exit 0))) (.seq (.block 1 (.seq (.reg false [⟨some 12, .mov (.t 0), none⟩, ⟨some 13, .mov (.t 5), none⟩, ⟨some 14, .mov (.t
  1), none⟩, ⟨some 15, .ia 10 (.t 12) (.t 13), none⟩, ⟨some 16, .fa 0 (.t 15), none⟩, ⟨none, .st 1 (.t 16) (.t 14), none⟩]) (.seq (.reg false [⟨some 17, .mov
  (.t 1), none⟩, ⟨some 18, .bin .add (.t 17) (.k (.v false [.c (.i .i64 1)])), none⟩, ⟨some 1, .mov (.t 18), none⟩]) (.seq (.reg false [⟨some 19, .mov (.t 0),
  none⟩, ⟨some 20, .mov (.t 5), none⟩, ⟨some 21, .mov (.t 1), none⟩, ⟨some 22, .call 92 [.t 21], none⟩, ⟨some 23, .ia 10 (.t 19) (.t 20), none⟩, ⟨some 24, .fa 1
  (.t 23), none⟩, ⟨some 25, .fa 0 (.t 24), none⟩, ⟨none, .st 1 (.t 25) (.t 22), none⟩]) (.seq (.reg false [⟨some 26, .mov (.t 1), none⟩, ⟨some 27, .bin .add (.t
  26) (.k (.v false [.c (.i .i64 1)])), none⟩, ⟨some 1, .mov (.t 27), none⟩]) (.seq (.reg false [⟨some 28, .mov (.t 0), none⟩, ⟨some 29, .mov (.t 5), none⟩,
  ⟨some 30, .ia 10 (.t 28) (.t 29), none⟩, ⟨some 31, .fa 1 (.t 30), none⟩, ⟨some 32, .fa 1 (.t 31), none⟩, ⟨some 33, .ld false 1 (.t 32), none⟩, ⟨some 34, .mov
  (.t 1), none⟩, ⟨some 35, .call 151 [.t 33, .t 34], none⟩, ⟨some 1, .mov (.t 35), none⟩]) (.seq (.reg false [⟨some 36, .mov (.t 0), none⟩, ⟨some 37, .mov (.t
  5), none⟩, ⟨some 38, .mov (.t 1), none⟩, ⟨some 39, .ia 10 (.t 36) (.t 37), none⟩, ⟨some 40, .fa 3 (.t 39), none⟩, ⟨none, .st 1 (.t 40) (.t 38), none⟩]) (.seq
  (.reg false [⟨some 41, .mov (.t 1), none⟩, ⟨some 42, .bin .add (.t 41) (.k (.v false [.c (.i .i64 1)])), none⟩, ⟨some 1, .mov (.t 42), none⟩]) (.seq (.reg
  false [⟨some 43, .mov (.t 0), none⟩, ⟨some 44, .mov (.t 5), none⟩, ⟨some 45, .mov (.t 1), none⟩, ⟨some 46, .call 92 [.t 45], none⟩, ⟨some 47, .ia 10 (.t 43)
  (.t 44), none⟩, ⟨some 48, .fa 4 (.t 47), none⟩, ⟨some 49, .fa 0 (.t 48), none⟩, ⟨none, .st 1 (.t 49) (.t 46), none⟩]) (.seq (.reg false [⟨some 50, .mov (.t
  1), none⟩, ⟨some 51, .bin .add (.t 50) (.k (.v false [.c (.i .i64 1)])), none⟩, ⟨some 1, .mov (.t 51), none⟩]) (.seq (.reg false [⟨some 52, .mov (.t 0),
  none⟩, ⟨some 53, .mov (.t 5), none⟩, ⟨some 54, .mov (.t 1), none⟩, ⟨some 55, .ia 10 (.t 52) (.t 53), none⟩, ⟨some 56, .fa 4 (.t 55), none⟩, ⟨some 57, .fa 1
  (.t 56), none⟩, ⟨some 58, .fa 0 (.t 57), none⟩, ⟨none, .st 1 (.t 58) (.t 54), none⟩]) (.seq (.reg false [⟨some 59, .mov (.t 1), none⟩, ⟨some 60, .bin .add (.t
  59) (.k (.v false [.c (.i .i64 1)])), none⟩, ⟨some 1, .mov (.t 60), none⟩]) (.seq (.reg false [⟨some 61, .mov (.t 0), none⟩, ⟨some 62, .mov (.t 5), none⟩,
  ⟨some 63, .mov (.t 1), none⟩, ⟨some 64, .call 92 [.t 63], none⟩, ⟨some 65, .ia 10 (.t 61) (.t 62), none⟩, ⟨some 66, .fa 4 (.t 65), none⟩, ⟨some 67, .fa 1 (.t
  66), none⟩, ⟨some 68, .fa 1 (.t 67), none⟩, ⟨none, .st 1 (.t 68) (.t 64), none⟩]) (.seq (.reg false [⟨some 69, .mov (.t 1), none⟩, ⟨some 70, .bin .add (.t 69)
  (.k (.v false [.c (.i .i64 1)])), none⟩, ⟨some 1, .mov (.t 70), none⟩]) (.seq (.reg false [⟨some 71, .mov (.t 0), none⟩, ⟨some 72, .mov (.t 5), none⟩, ⟨some
  73, .mov (.t 1), none⟩, ⟨some 74, .call 92 [.t 73], none⟩, ⟨some 75, .ia 10 (.t 71) (.t 72), none⟩, ⟨some 76, .fa 7 (.t 75), none⟩, ⟨some 77, .fa 0 (.t 76),
  none⟩, ⟨none, .st 1 (.t 77) (.t 74), none⟩]) (.seq (.reg false [⟨some 78, .mov (.t 1), none⟩, ⟨some 79, .bin .add (.t 78) (.k (.v false [.c (.i .i64 1)])),
  none⟩, ⟨some 1, .mov (.t 79), none⟩]) (.seq (.reg false [⟨some 80, .mov (.t 0), none⟩, ⟨some 81, .mov (.t 5), none⟩, ⟨some 82, .mov (.t 1), none⟩, ⟨some 83,
  .ia 10 (.t 80) (.t 81), none⟩, ⟨some 84, .fa 7 (.t 83), none⟩, ⟨some 85, .fa 1 (.t 84), none⟩, ⟨some 86, .fa 0 (.t 85), none⟩, ⟨none, .st 1 (.t 86) (.t 82),
  none⟩]) (.seq (.reg false [⟨some 87, .mov (.t 1), none⟩, ⟨some 88, .bin .add (.t 87) (.k (.v false [.c (.i .i64 1)])), none⟩, ⟨some 1, .mov (.t 88), none⟩])
  (.seq (.reg false [⟨some 89, .mov (.t 0), none⟩, ⟨some 90, .mov (.t 5), none⟩, ⟨some 91, .mov (.t 1), none⟩, ⟨some 92, .call 92 [.t 91], none⟩, ⟨some 93, .ia
  10 (.t 89) (.t 90), none⟩, ⟨some 94, .fa 7 (.t 93), none⟩, ⟨some 95, .fa 1 (.t 94), none⟩, ⟨some 96, .fa 1 (.t 95), none⟩, ⟨none, .st 1 (.t 96) (.t 92),
  none⟩]) (.reg false [⟨some 97, .mov (.t 1), none⟩, ⟨some 98, .bin .add (.t 97) (.k (.v false [.c (.i .i64 1)])), none⟩, ⟨some 1, .mov (.t 98),
  none⟩])))))))))))))))))))) (.reg false [⟨some 10, .mov (.t 5), none⟩, ⟨some 11, .bin .add (.t 10) (.k (.v false [.c (.i .i64 1)])), none⟩, ⟨some 5, .mov (.t
  11), none⟩])))))) (.seq (.reg false [⟨some 99, .mov (.t 1), none⟩, ⟨some 4, .mov (.t 99), none⟩]) .ret))
theorem hc_laws_markLitS : Tryz.f152.body.bind (comp Tryz.prog Tryz.f152.ntmps) = some ac_laws_markLitS := by kernel_rfl
theorem k_laws_markLitS (a : List GLit) (k : Int) (hpre : 0 ≤ k ∧ k + (tots cntLit a : Nat) ≤ 4611686018427387904) : SpecO Tryz.prog 152 [(false, [.sl true [.i .i64 0, .s [], .sl true [.s [], .i .i64 0, .s []] [], .i .i64 0, .s [], .i .i64 0, .s [], .s [], .i .i64 0, .s []] (a.map (GLit.cells true true))]), (false, [.i .i64 k])] [(0, (false, [.sl true [.i .i64 0, .s [], .sl true [.s [], .i .i64 0, .s []] [], .i .i64 0, .s [], .i .i64 0, .s [], .s [], .i .i64 0, .s []] ((mkL mark1Lit cntLit a k).map (GLit.cells true true))]))] (.one (false, [.i .i64 (k + (tots cntLit a : Nat))])) := by
  refine spec_of2 true false (some 0) Tryz.func152 hc_laws_markLitS (rvs := [.t 4]) (hΓ := mkCtx_ok (deep := true) (l := [(92, [], c_laws_markText), (151, [0], c_laws_markTermS)]) ⟨c_laws_markText_ok, c_laws_markTermS_ok, trivial⟩) (h := ?_)
  intro hb hE
  simp only [go_sem] at hb
  unfold ac_laws_markLitS
  (try refine AX_AW ?_); simp only [go_sem]; (repeat' first | apply CJ.mk | intro hc); all_goals try ((repeat' first | apply And.intro | intro hs) <;> (try simp only [go_sem, Bool.and_eq_false_iff] at hs) <;> omega)
  refine aw_loop2 true [] [0] [] [] (fun i : {p : Nat × List GLit // p.1 ≤ a.length ∧ p.2 = mkL mark1Lit cntLit (a.take p.1) k ++ a.drop p.1} => [(5, slV (.i .i64 i.1.1)), (1, slV (.i .i64 (k + (tots cntLit (a.take i.1.1) : Nat))))]) (fun i => []) (fun i => [(1, [.i .i64 0, .s [], .sl true [.s [], .i .i64 0, .s []] [], .i .i64 0, .s [], .i .i64 0, .s [], .s [], .i .i64 0, .s []], i.1.2.map (GLit.cells true true))]) (fun i => a.length - i.1.1) (⟨(0, a), by simp [mkL]⟩) _ rfl ?_ ?_
  · simp only [go_sem]
    all_goals first | omega | ((repeat' apply And.intro) <;> first | omega | rfl | skip)
  intro S0 hS0 i
  simp only [go_sem] at hS0
  obtain ⟨⟨i, L⟩, hi, hL⟩ := i
  simp only at hi hL
  have hl : L.length = a.length := by rw [hL]; exact mkL_len mark1Lit cntLit a k i
  by_cases hil : (i : Int) < L.length
  · have hgs : ∀ x, (L.set i x).getD i default = x := fun x => by rw [List.getD_eq_getElem?_getD, List.getElem?_set_self (by omega)]; rfl
    have hss : ∀ x y, (L.set i x).set i y = L.set i y := fun x y => List.set_set ..
    have hg2 : ∀ x, ((L.map (GLit.cells true true)).set i x).getD i [.i .i64 0, .s [], .sl true [.s [], .i .i64 0, .s []] [], .i .i64 0, .s [], .i .i64 0, .s [], .s [], .i .i64 0, .s []] = x := fun x => by rw [List.getD_eq_getElem?_getD, List.getElem?_set_self (by rw [List.length_map]; omega)]; rfl
    have hs2 : ∀ x z, ((L.map (GLit.cells true true)).set i x).set i z = (L.map (GLit.cells true true)).set i z := fun x z => List.set_set ..
    have hg3 : ∀ y x, (((L.set i y).map (GLit.cells true true)).set i x).getD i [.i .i64 0, .s [], .sl true [.s [], .i .i64 0, .s []] [], .i .i64 0, .s [], .i .i64 0, .s [], .s [], .i .i64 0, .s []] = x := fun y x => by rw [List.getD_eq_getElem?_getD, List.getElem?_set_self (by rw [List.length_map, List.length_set]; omega)]; rfl
    have hs3 : ∀ y x z, (((L.set i y).map (GLit.cells true true)).set i x).set i z = ((L.set i y).map (GLit.cells true true)).set i z := fun y x z => List.set_set ..
    have hx : L.getD i default = a.getD i default := by rw [hL]; exact mkL_get mark1Lit cntLit default k (by omega)
    have ht := tots_take_succ cntLit default (show i < a.length by omega)
    have ht2 := tots_take_le cntLit a (i + 1)
    simp only [cntLit] at ht
    have hw0 : IntKind.i64.wrap ((k + (tots cntLit (a.take i) : Nat)) + 1) = ((k + (tots cntLit (a.take i) : Nat)) + 1) := w64 (by omega) (by omega) (by omega)
    have hw1 : IntKind.i64.wrap (((k + (tots cntLit (a.take i) : Nat)) + 1) + 1) = ((k + (tots cntLit (a.take i) : Nat)) + 2) := w64 (by omega) (by omega) (by omega)
    have hw2 : IntKind.i64.wrap ((((k + (tots cntLit (a.take i) : Nat)) + 2) + 3 * ((a.getD i default).Atom.Args.length : Nat)) + 1) = ((((k + (tots cntLit (a.take i) : Nat)) + 2) + 3 * ((a.getD i default).Atom.Args.length : Nat)) + 1) := w64 (by omega) (by omega) (by omega)
    have hw3 : IntKind.i64.wrap (((((k + (tots cntLit (a.take i) : Nat)) + 2) + 3 * ((a.getD i default).Atom.Args.length : Nat)) + 1) + 1) = ((((k + (tots cntLit (a.take i) : Nat)) + 2) + 3 * ((a.getD i default).Atom.Args.length : Nat)) + 2) := w64 (by omega) (by omega) (by omega)
    have hw4 : IntKind.i64.wrap (((((k + (tots cntLit (a.take i) : Nat)) + 2) + 3 * ((a.getD i default).Atom.Args.length : Nat)) + 2) + 1) = ((((k + (tots cntLit (a.take i) : Nat)) + 2) + 3 * ((a.getD i default).Atom.Args.length : Nat)) + 3) := w64 (by omega) (by omega) (by omega)
    have hw5 : IntKind.i64.wrap (((((k + (tots cntLit (a.take i) : Nat)) + 2) + 3 * ((a.getD i default).Atom.Args.length : Nat)) + 3) + 1) = ((((k + (tots cntLit (a.take i) : Nat)) + 2) + 3 * ((a.getD i default).Atom.Args.length : Nat)) + 4) := w64 (by omega) (by omega) (by omega)
    have hw6 : IntKind.i64.wrap (((((k + (tots cntLit (a.take i) : Nat)) + 2) + 3 * ((a.getD i default).Atom.Args.length : Nat)) + 4) + 1) = ((((k + (tots cntLit (a.take i) : Nat)) + 2) + 3 * ((a.getD i default).Atom.Args.length : Nat)) + 5) := w64 (by omega) (by omega) (by omega)
    have hw7 : IntKind.i64.wrap (((((k + (tots cntLit (a.take i) : Nat)) + 2) + 3 * ((a.getD i default).Atom.Args.length : Nat)) + 5) + 1) = ((((k + (tots cntLit (a.take i) : Nat)) + 2) + 3 * ((a.getD i default).Atom.Args.length : Nat)) + 6) := w64 (by omega) (by omega) (by omega)
    have hw8 : IntKind.i64.wrap (((((k + (tots cntLit (a.take i) : Nat)) + 2) + 3 * ((a.getD i default).Atom.Args.length : Nat)) + 6) + 1) = ((((k + (tots cntLit (a.take i) : Nat)) + 2) + 3 * ((a.getD i default).Atom.Args.length : Nat)) + 7) := w64 (by omega) (by omega) (by omega)
    (try refine AX_AW ?_); simp only [go_sem, hS0, hgs, hss, hx, hil, hg2, hs2, hg3, hs3, hw0, hw1, hw2, hw3, hw4, hw5, hw6, hw7, hw8]; (repeat' first | apply CJ.mk | intro hc); all_goals try ((repeat' first | apply And.intro | intro hs) <;> (try simp only [go_sem, Bool.and_eq_false_iff] at hs) <;> omega)
    all_goals first
      | omega
      | (exact (hc trivial).elim)
      | ((refine lpK_n2 (⟨(i + 1, L.set i (mark1Lit (a.getD i default) (k + (tots cntLit (a.take i) : Nat)))), by simp only; omega, by rw [hL]; exact mkL_set mark1Lit cntLit default k (by omega)⟩) _ rfl ?_; simp only [go_sem, hS0, hgs, hss, hx, hil, hg2, hs2, hg3, hs3, hw0, hw1, hw2, hw3, hw4, hw5, hw6, hw7, hw8]; first | done | ((repeat' apply And.intro) <;> first | omega | (refine w64 ?_ ?_ ?_ <;> omega) | rfl | skip)); first | done | (simp only [ht]; omega) | trace_state)
      | trace_state
  · (try refine AX_AW ?_); simp only [go_sem, hS0, hil]; (repeat' first | apply CJ.mk | intro hc); all_goals try ((repeat' first | apply And.intro | intro hs) <;> (try simp only [go_sem, Bool.and_eq_false_iff] at hs) <;> omega)
    have h1 := tots_all cntLit (show ¬ i < a.length by omega)
    rw [List.take_of_length_le (by omega), List.drop_eq_nil_of_le (by omega), List.append_nil] at hL
    all_goals first | exact ⟨by rw [h1], by rw [hL]⟩ | trace_state
noncomputable def c_laws_markLitS : List V → Option (Prop × List (Nat × V) × R) := famP (fun (x : (List GLit) × Int) h => k_laws_markLitS x.1 x.2 h)
@[go_sem] theorem c_laws_markLitS_eq (a : List GLit) (k : Int) : c_laws_markLitS [(false, [.sl true [.i .i64 0, .s [], .sl true [.s [], .i .i64 0, .s []] [], .i .i64 0, .s [], .i .i64 0, .s [], .s [], .i .i64 0, .s []] (a.map (GLit.cells true true))]), (false, [.i .i64 k])] = some (0 ≤ k ∧ k + (tots cntLit a : Nat) ≤ 4611686018427387904, [(0, (false, [.sl true [.i .i64 0, .s [], .sl true [.s [], .i .i64 0, .s []] [], .i .i64 0, .s [], .i .i64 0, .s [], .s [], .i .i64 0, .s []] ((mkL mark1Lit cntLit a k).map (GLit.cells true true))]))], .one (false, [.i .i64 (k + (tots cntLit a : Nat))])) := famP_eq _ (by rintro ⟨_, _⟩ ⟨_, _⟩ h; simp at h; simp_all) (a, k)
theorem c_laws_markLitS_ok : ∀ vs q o r, c_laws_markLitS vs = some (q, o, r) → q → SpecO Tryz.prog 152 vs o r := famP_ok _
end Go.Aw
