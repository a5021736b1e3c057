/- Rows, relations, stores. No condition. -/
import Derived.Test.YthlbadfickhkfaaGreatzhG3
import Derived.Test.YthlbadfickhkfaaGreatzhG8
import Derived.Test.YthlbadfickhkfaaGreatlBwtzh
import Derived.Test.YthlbadfickhkfaaGreatlMx1zh
namespace Go.Aw
open Go.Proofs
attribute [local irreducible] aft blk lpK retK AW A0m
set_option linter.unusedVariables false
set_option linter.unusedSimpArgs false
set_option maxRecDepth 100000
theorem s9 {α : Type} {l : List α} {i : Nat} (d : α) (h : i < l.length) : l.drop i = l.getD i d :: l.drop (i + 1) := by
 rw [k9 d h]; exact List.drop_eq_getElem_cons h
def a0a (r : c9) : Bool := decide ((r.V.length : Int) ≤ 6) && r.V.all i5
def a0i : List c6 → List c6 → Int
 | [], [] => 0
 | [], _ :: _ => -1
 | _ :: _, [] => 1
 | x :: a, y :: b => bif m9 x y then -1 else bif m9 y x then 1 else a0i a b
def y3 : List c6 → List c6 → Int
 | [], [] => 0
 | [], _ :: _ => -1
 | _ :: _, [] => 1
 | x :: a, y :: b => if q0 x y = 0 then y3 a b else q0 x y
def a5t (a b : c9) : Int := bif a0a a && a0a b then a0i a.V b.V else 2
def y6 (r : d8) (i : Nat) : Bool := !((r.Rows.getD i default).V.length == r.Arity) || !a0a (r.Rows.getD i default) || decide (0 < i) && !(a0i (r.Rows.getD (i - 1) default).V (r.Rows.getD i default).V == -1)
def w7 (r : d8) : Bool := decide (0 ≤ r.Arity) && decide (r.Arity ≤ 6) && decide ((r.Rows.length : Int) ≤ 300) && !a5B r.Rows.length (y6 r)
def a0j (l : List d6) (i : Nat) : Bool := !a0R (l.getD i default).Name || !w7 (l.getD i default).Rel || decide (0 < i) && !Op.bytesLess (l.getD (i - 1) default).Name (l.getD i default).Name
def l9 (s : d7) : Bool := decide ((s.Rels.length : Int) ≤ 24) && !a5B s.Rels.length (a0j s.Rels)
theorem a1C {α : Type} {l : List α} {i : Nat} (h : l.length ≤ i) : l.drop i = [] := List.drop_eq_nil_of_le h
theorem c8i {a b : List c6} {i : Nat} (hi : i ≤ a.length) (hj : i ≤ b.length) (h : ¬ (i < a.length ∧ i < b.length)) : a0i (a.drop i) (b.drop i) = if a.length < b.length then -1 else if b.length < a.length then 1 else 0 := by
 by_cases h1 : a.length < b.length
 ·rw [if_pos h1, a1C (show a.length ≤ i by omega), s9 (l := b) default (by omega)]; rfl
 ·rw [if_neg h1]
  by_cases h2 : b.length < a.length
  ·rw [if_pos h2, a1C (show b.length ≤ i by omega), s9 (l := a) default (by omega)]; rfl
  ·rw [if_neg h2, a1C (show a.length ≤ i by omega), a1C (show b.length ≤ i by omega)]; rfl
theorem b4T {a b : List c6} {i : Nat} (hi : i ≤ a.length) (hj : i ≤ b.length) (h : ¬ (i < a.length ∧ i < b.length)) : y3 (a.drop i) (b.drop i) = if a.length < b.length then -1 else if b.length < a.length then 1 else 0 := by
 by_cases h1 : a.length < b.length
 ·rw [if_pos h1, a1C (show a.length ≤ i by omega), s9 (l := b) default (by omega)]; rfl
 ·rw [if_neg h1]
  by_cases h2 : b.length < a.length
  ·rw [if_pos h2, a1C (show b.length ≤ i by omega), s9 (l := a) default (by omega)]; rfl
  ·rw [if_neg h2, a1C (show a.length ≤ i by omega), a1C (show b.length ≤ i by omega)]; rfl
theorem b0Z : ∀ {a b : List c6}, (∀ x ∈ a, i5 x = true) → (∀ x ∈ b, i5 x = true) → sgn (y3 a b) = a0i a b
 | [], [], _, _ => by decide
 | [], _ :: _, _, _ => by simp only [y3, a0i]; decide
 | _ :: _, [], _, _ => by simp only [y3, a0i]; decide
 | x :: a, y :: b, ha, hb => by
   have h := b2S (ha x (by simp)) (hb y (by simp))
   have ih := b0Z (a := a) (b := b) (fun z hz => ha z (by simp [hz])) (fun z hz => hb z (by simp [hz]))
   rw [y3, a0i]
   unfold a8u at h
   split
   ·rename_i h0
    rw [h0] at h
    cases h1 : m9 x y with
    | true => rw [h1, cond_true] at h; unfold sgn at h; omega
    | false =>
      cases h2 : m9 y x with
      | true => rw [h1, h2, cond_true, cond_false] at h; unfold sgn at h; omega
      | false => exact ih
   ·rename_i h0
    cases h1 : m9 x y with
    | true => rw [h1] at h; exact h
    | false =>
      cases h2 : m9 y x with
      | true => rw [h1, h2] at h; exact h
      | false => rw [h1, h2] at h; unfold sgn at h; simp only [cond_false] at h; omega
def a6C : ACode := q' ([o' 2 (.box 2 (.t 0)), o' 3 (.box 2 (.t 1)), b' 4 false]) (.seq (q' ([f' 5 1 2, l' 6 5, o' 7 (.bin .eql (.t 6) (.k (.v false [.c (.s [])]))), m' 8 7, ⟨some
 9, .fa 1 (.t 3), some (8, true)⟩, ⟨some 10, .ld false 1 (.t 9), some (8, true)⟩, ⟨some 11, .bin .eql (.t 10) (.k (.v false [.c (.s [])])), some (8, true)⟩, o'
 12 (.pick (.t 8) (.t 11) (.k (.v false [.c (.b false)])))]) (.cond (.t 12) (q' ([f' 13 0 2, l' 14 13, f' 15 0 3, l' 16 15, r' 17 14 16, m' 4 17]) .ret)
 .skip)) (q' ([f' 18 1 2, l' 19 18, f' 20 1 3, l' 21 20, r' 22 19 21, m' 4 22]) .ret))
theorem b3R : cmp Tryz.prog Tryz.f322 = some a6C := by kernel_rfl
theorem b6K (a : c6) (b : c6) : A0m Tryz.prog 322 [(true, [.i .i64 a.N, .s a.S]), (true, [.i .i64 b.N, .s b.S])] [] (.one (false, [.b (m9 a b)])) := by
 refine spec_of2 false false none Tryz.func322 b3R (rvs := [.t 4]) (hΓ := mkCtx_ok (deep := false) (l := []) trivial) (h := ?_)
 intro hb hE
 simp only [go_sem] at hb
 simp only [a6C, x']
 (try refine A2Z ?_); simp only [go_sem]; (repeat' first | apply CJ.mk | intro hc); all_goals try ((repeat' first | apply And.intro | intro hs) <;> (try simp only [go_sem, Bool.and_eq_false_iff] at hs) <;> omega)
 ·rw [m9, hc.1, hc.2]; rfl
 ·rw [m9, hc]; rfl
noncomputable def a0H : CT := j7 (fun (x : c6 × c6) => b6K x.1 x.2)
@[go_sem] theorem c4l (x0 : Int) (x1 : List UInt8) (x2 : Int) (x3 : List UInt8) : a0H [(true, [.i .i64 x0, .s x1]), (true, [.i .i64 x2, .s x3])] = some (True, [], .one (false, [.b (m9 (c6.mk x0 x1) (c6.mk x2 x3))])) := f7 _ (by rintro ⟨⟨_, _⟩, ⟨_, _⟩⟩ ⟨⟨_, _⟩, ⟨_, _⟩⟩ h; simp at h; simp_all) ((c6.mk x0 x1), (c6.mk x2 x3))
theorem a3P : OkC Tryz.prog 322 a0H := f8 _
def a4T : ACode := q' ([o' 2 (.box 1 (.t 0)), o' 3 (.box 1 (.t 1)), z' 4 0]) (.seq (q' ([z' 5 0]) (.block 0 (.loop (.seq (q' ([m' 6 5, f' 7 0 2, l' 8 7, n' 9 8, r' 10 6 9, m' 11
 10, ⟨some 12, .mov (.t 5), some (11, true)⟩, ⟨some 13, .fa 0 (.t 3), some (11, true)⟩, ⟨some 14, .ld false 1 (.t 13), some (11, true)⟩, ⟨some 15, .len (.t
 14), some (11, true)⟩, ⟨some 16, .bin .lss (.t 12) (.t 15), some (11, true)⟩, o' 17 (.pick (.t 11) (.t 16) (.k (.v false [.c (.b false)])))]) (.cond (.t 17)
 .skip (.exit 0))) (.seq (.block 1 (.seq (.seq (.reg true [f' 20 0 2, l' 21 20, m' 22 5, i' 23 2 21 22, e' 24 2 23, f' 25 0 3, l' 26 25, m' 27 5, i' 28 2 26
 27, e' 29 2 28, c' 30 322 [24, 29]]) (.cond (.t 30) (q' ([o' 4 (.mov (.k (.v false [.c (.i .i64 (-1))])))]) .ret) .skip)) (.seq (.reg true [f' 31 0 3, l' 32
 31, m' 33 5, i' 34 2 32 33, e' 35 2 34, f' 36 0 2, l' 37 36, m' 38 5, i' 39 2 37 38, e' 40 2 39, c' 41 322 [35, 40]]) (.cond (.t 41) (q' ([z' 4 1]) .ret)
 .skip)))) (g' [m' 18 5, a' 19 18, m' 5 19])))))) (.seq (q' ([f' 42 0 2, l' 43 42, n' 44 43, f' 45 0 3, l' 46 45, n' 47 46, r' 48 44 47]) (.cond (.t 48) (q'
 ([o' 4 (.mov (.k (.v false [.c (.i .i64 (-1))])))]) .ret) .skip)) (.seq (q' ([f' 49 0 2, l' 50 49, n' 51 50, f' 52 0 3, l' 53 52, n' 54 53, o' 55 (.bin .gtr
 (.t 51) (.t 54))]) (.cond (.t 55) (q' ([z' 4 1]) .ret) .skip)) (q' ([z' 4 0]) .ret))))
theorem b2h : cmp Tryz.prog Tryz.f291 = some a4T := by kernel_rfl
theorem b4q (a : c9) (b : c9) : A0m Tryz.prog 291 [(true, [.sl false [.i .i64 0, .s []] (a.V.map c6.cells)]), (true, [.sl false [.i .i64 0, .s []] (b.V.map c6.cells)])] [] (.one (false, [.i .i64 (a0i a.V b.V)])) := by
 refine spec_of2 false false none Tryz.func291 b2h (rvs := [.t 4]) (hΓ := mkCtx_ok (deep := false) (l := [(322, [], a0H)]) ⟨a3P, trivial⟩) (h := ?_)
 intro hb hE
 simp only [go_sem] at hb
 simp only [a4T, x']
 (try refine A2Z ?_); simp only [go_sem]; (repeat' first | apply CJ.mk | intro hc); all_goals try ((repeat' first | apply And.intro | intro hs) <;> (try simp only [go_sem, Bool.and_eq_false_iff] at hs) <;> omega)
 refine aw_loop2 false [] [2, 3] [4, 6] [] (fun i : {i : Nat // i ≤ a.V.length ∧ i ≤ b.V.length ∧ a0i (a.V.drop i) (b.V.drop i) = a0i a.V b.V} => [(5, slV (.i .i64 i.1))]) (fun i => []) (fun i => []) (fun i => a.V.length - i.1) (⟨0, by simp⟩) _ rfl ?_ ?_
 ·simp only [go_sem]
  all_goals first | omega | ((repeat' apply And.intro) <;> first | omega | rfl | skip)
 intro S0 hS0 i
 simp only [go_sem] at hS0
 obtain ⟨i, hi, hj, he⟩ := i
 (try refine A2Z ?_); simp only [go_sem, hS0]; (repeat' first | apply CJ.mk | intro hc); all_goals try ((repeat' first | apply And.intro | intro hs) <;> (try simp only [go_sem, Bool.and_eq_false_iff] at hs) <;> omega)
 ·rw [← he, s9 (l := a.V) default (by omega), s9 (l := b.V) default (by omega), a0i, hc]; rfl
 ·rename_i h1
  rw [← he, s9 (l := a.V) default (by omega), s9 (l := b.V) default (by omega), a0i, h1, hc]; rfl
 ·rename_i h1
  have h2 := he
  rw [s9 (l := a.V) default (by omega), s9 (l := b.V) default (by omega), a0i, h1, hc] at h2
  (refine lpK_n2 (⟨i + 1, by omega, by omega, h2⟩) _ rfl ?_; simp only [go_sem, hS0]; first | done | ((repeat' apply And.intro) <;> first | omega | (refine w64 ?_ ?_ ?_ <;> omega) | rfl | skip))
 all_goals have q : (decide ((i : Int) < a.V.length) && decide ((i : Int) < b.V.length)) = false := by assumption
 all_goals rw [Bool.and_eq_false_iff, decide_eq_false_iff_not, decide_eq_false_iff_not] at q
 all_goals rw [← he, c8i hi hj (by omega)]
 ·rw [if_pos (by omega)]
 ·rw [if_neg (by omega), if_pos (by omega)]
 ·rw [if_neg (by omega), if_neg (by omega)]
noncomputable def a2d : CT := j7 (fun (x : c9 × c9) => b4q x.1 x.2)
@[go_sem] theorem c2X (x0 x1 : List c6) : a2d [(true, [.sl false [.i .i64 0, .s []] (x0.map c6.cells)]), (true, [.sl false [.i .i64 0, .s []] (x1.map c6.cells)])] = some (True, [], .one (false, [.i .i64 (a0i (c9.mk x0).V (c9.mk x1).V)])) := f7 _ (by rintro ⟨⟨_⟩, ⟨_⟩⟩ ⟨⟨_⟩, ⟨_⟩⟩ h; simp at h; simp_all) ((c9.mk x0), (c9.mk x1))
theorem a9x : OkC Tryz.prog 291 a2d := f8 _
def a8T : ACode := q' ([o' 1 (.box 1 (.t 0)), b' 2 false]) (.seq (q' ([f' 5 0 1, l' 6 5, n' 7 6, o' 8 (.bin .gtr (.t 7) (k' 6))]) (.cond (.t 8) (q' ([b' 2 false]) .ret) .skip))
 (.seq (q' ([f' 9 0 1, l' 10 9, n' 11 10, z' 12 0]) (.block 0 (.loop (q' ([r' 13 12 11]) (.seq (.cond (.t 13) .skip (.exit 0)) (.seq (.block 1 (q' ([i' 14 2 10
 12, e' 15 2 14, w' 4 [.i .i64, .s], s' 2 4 15]) (q' ([e' 16 2 4, c' 17 242 [16], o' 18 (.not (.t 17))]) (.cond (.t 18) (q' ([b' 2 false]) .ret) .skip)))) (g'
 [a' 19 12, m' 12 19]))))))) (q' ([b' 2 true]) .ret)))
theorem b7L : cmp Tryz.prog Tryz.f159 = some a8T := by kernel_rfl
theorem c0n (r : c9) : A0m Tryz.prog 159 [(true, [.sl false [.i .i64 0, .s []] (r.V.map c6.cells)])] [] (.one (false, [.b (a0a r)])) := by
 refine spec_of2 false false none Tryz.func159 b7L (rvs := [.t 2]) (hΓ := mkCtx_ok (deep := false) (l := [(242, [], w4)]) ⟨z8, trivial⟩) (h := ?_)
 intro hb hE
 simp only [go_sem] at hb
 simp only [a8T, x']
 (try refine A2Z ?_); simp only [go_sem]; (repeat' first | apply CJ.mk | intro hc); all_goals try ((repeat' first | apply And.intro | intro hs) <;> (try simp only [go_sem, Bool.and_eq_false_iff] at hs) <;> omega)
 ·rw [a0a, decide_eq_false (by omega)]; rfl
 have h6 : ((r.V.length : Int)) ≤ 6 := by omega
 refine aw_loop2 false [] [10, 11] [] [] (fun i : {i : Nat // i ≤ r.V.length ∧ (r.V.take i).all i5 = true} => [(12, slV (.i .i64 i.1))]) (fun i => []) (fun i => []) (fun i => r.V.length - i.1) (⟨0, by simp⟩) _ rfl ?_ ?_
 ·simp only [go_sem]
  all_goals first | omega | ((repeat' apply And.intro) <;> first | omega | rfl | skip)
 intro S0 hS0 i
 simp only [go_sem] at hS0
 obtain ⟨i, hi, ha⟩ := i
 (try refine A2Z ?_); simp only [go_sem, hS0]; (repeat' first | apply CJ.mk | intro hc); all_goals try ((repeat' first | apply And.intro | intro hs) <;> (try simp only [go_sem, Bool.and_eq_false_iff] at hs) <;> omega)
 ·rw [a0a, all_false (d := default) (i := i) (by omega) hc, Bool.and_false]
 ·(refine lpK_n2 (⟨i + 1, by omega, a1B default (by omega) ha hc⟩) _ rfl ?_; simp only [go_sem, hS0]; first | done | ((repeat' apply And.intro) <;> first | omega | (refine w64 ?_ ?_ ?_ <;> omega) | rfl | skip))
 ·rw [i8 (by omega)] at ha
  rw [a0a, ha, decide_eq_true h6]; rfl
noncomputable def a2y : CT := j7 (fun (x : c9) => c0n x)
@[go_sem] theorem c7b (x0 : List c6) : a2y [(true, [.sl false [.i .i64 0, .s []] (x0.map c6.cells)])] = some (True, [], .one (false, [.b (a0a (c9.mk x0))])) := f7 _ (by rintro ⟨_⟩ ⟨_⟩ h; simp at h; simp_all) (c9.mk x0)
theorem a6I : OkC Tryz.prog 159 a2y := f8 _
def a6e : ACode := q' ([o' 1 (.box 2 (.t 0)), b' 2 false]) (q' ([e' 3 2 1, c' 4 245 [3], o' 5 (.not (.t 4)), m' 2 5]) .ret)
theorem b3t : cmp Tryz.prog Tryz.f244 = some a6e := by kernel_rfl
theorem b6m (v : c6) : A0m Tryz.prog 244 [(true, [.i .i64 v.N, .s v.S])] [] (.one (false, [.b (!i5 v)])) := by
 refine spec_of2 false false none Tryz.func244 b3t (rvs := [.t 2]) (hΓ := mkCtx_ok (deep := false) (l := [(245, [], a0b)]) ⟨a0z, trivial⟩) (h := ?_)
 intro hb hE
 simp only [go_sem] at hb
 simp only [a6e, x']
 (try refine A2Z ?_); simp only [go_sem]; (repeat' first | apply CJ.mk | intro hc); all_goals try ((repeat' first | apply And.intro | intro hs) <;> (try simp only [go_sem, Bool.and_eq_false_iff] at hs) <;> omega)
noncomputable def a2U : CT := j7 (fun (x : c6) => b6m x)
@[go_sem] theorem c3N (x0 : Int) (x1 : List UInt8) : a2U [(true, [.i .i64 x0, .s x1])] = some (True, [], .one (false, [.b (!i5 (c6.mk x0 x1))])) := f7 _ (by rintro ⟨_, _⟩ ⟨_, _⟩ h; simp at h; simp_all) (c6.mk x0 x1)
theorem b0e : OkC Tryz.prog 244 a2U := f8 _
def b8I : ACode := q' ([z' 4 0]) (.seq (q' ([m' 6 0, n' 7 6, z' 8 0]) (.block 0 (.loop (q' ([r' 9 8 7]) (.seq (.cond (.t 9) .skip (.exit 0)) (.seq (.block 1 (q' ([m' 10 8, m' 5
 10]) (q' ([m' 11 1, m' 12 0, m' 13 5, i' 14 2 12 13, e' 15 2 14, o' 16 (.callv (.t 11) [.t 15])]) (.cond (.t 16) (q' ([m' 17 5, m' 4 17]) .ret) .skip)))) (g'
 [a' 18 8, m' 8 18]))))))) (q' ([o' 4 (.mov (.k (.v false [.c (.i .i64 (-1))])))]) .ret))
theorem c6k : cmp Tryz.prog Tryz.f246 = some b8I := by kernel_rfl
theorem c3v (l : List c6) : A0m Tryz.prog 246 [(false, [.sl false [.i .i64 0, .s []] (l.map c6.cells)]), (false, [.f 244 []])] [] (.one (false, [.i .i64 (a3q (fun y => !i5 y) l)])) := by
 refine spec_of2 false false none Tryz.func246 c6k (rvs := [.t 4]) (hΓ := mkCtx_ok (deep := false) (l := [(244, [], a2U)]) ⟨b0e, trivial⟩) (h := ?_)
 intro hb hE
 simp only [go_sem] at hb
 simp only [b8I, x']
 (try refine A2Z ?_); simp only [go_sem]; (repeat' first | apply CJ.mk | intro hc); all_goals try ((repeat' first | apply And.intro | intro hs) <;> (try simp only [go_sem, Bool.and_eq_false_iff] at hs) <;> omega)
 refine aw_loop2 false [] [0, 1, 7] [] [] (fun i : {i : Nat // i ≤ l.length ∧ (l.take i).any (fun y => !i5 y) = false} => [(8, slV (.i .i64 i.1))]) (fun i => []) (fun i => []) (fun i => l.length - i.1) (⟨0, by simp⟩) _ rfl ?_ ?_
 ·simp only [go_sem]
  all_goals first | omega | ((repeat' apply And.intro) <;> first | omega | rfl | skip)
 intro S0 hS0 i
 simp only [go_sem] at hS0
 obtain ⟨i, hi, ha⟩ := i
 (try refine A2Z ?_); simp only [go_sem, hS0]; (repeat' first | apply CJ.mk | intro hc); all_goals try ((repeat' first | apply And.intro | intro hs) <;> (try simp only [go_sem, Bool.and_eq_false_iff] at hs) <;> omega)
 ·exact (a1i (p := fun y => !i5 y) (d := default) (by omega) ha (by simpa [-List.getD_eq_getElem?_getD] using hc)).symm
 ·(refine lpK_n2 (⟨i + 1, by omega, a0y (p := fun y => !i5 y) default (by omega) ha (by simpa [-List.getD_eq_getElem?_getD] using hc)⟩) _ rfl ?_; simp only [go_sem, hS0]; first | done | ((repeat' apply And.intro) <;> first | omega | (refine w64 ?_ ?_ ?_ <;> omega) | rfl | skip))
 ·exact (a0w (by rwa [i8 (by omega)] at ha)).symm
 all_goals trace_state
noncomputable def a9c : CT := j7 (fun (x : (List c6)) => c3v x)
@[go_sem] theorem c8A (l : List c6) : a9c [(false, [.sl false [.i .i64 0, .s []] (l.map c6.cells)]), (false, [.f 244 []])] = some (True, [], .one (false, [.i .i64 (a3q (fun y => !i5 y) l)])) := f7 _ (by intro x y h; simp at h; simp_all) l
theorem b7m : OkC Tryz.prog 246 a9c := f8 _
def b8G : ACode := q' ([b' 4 false]) (q' ([m' 5 0, m' 6 1, c' 7 246 [5, 6], o' 8 (.bin .geq (.t 7) (k' 0)), m' 4 8]) .ret)
theorem c6i : cmp Tryz.prog Tryz.f164 = some b8G := by kernel_rfl
theorem c3u (l : List c6) : A0m Tryz.prog 164 [(false, [.sl false [.i .i64 0, .s []] (l.map c6.cells)]), (false, [.f 244 []])] [] (.one (false, [.b (l.any (fun y => !i5 y))])) := by
 refine spec_of2 false false none Tryz.func164 c6i (rvs := [.t 4]) (hΓ := mkCtx_ok (deep := false) (l := [(246, [], a9c)]) ⟨b7m, trivial⟩) (h := ?_)
 intro hb hE
 simp only [go_sem] at hb
 simp only [b8G, x']
 (try refine A2Z ?_); simp only [go_sem]; (repeat' first | apply CJ.mk | intro hc); all_goals try ((repeat' first | apply And.intro | intro hs) <;> (try simp only [go_sem, Bool.and_eq_false_iff] at hs) <;> omega)
 ·exact b0M _ _
noncomputable def a9b : CT := j7 (fun (x : (List c6)) => c3u x)
@[go_sem] theorem c8z (l : List c6) : a9b [(false, [.sl false [.i .i64 0, .s []] (l.map c6.cells)]), (false, [.f 244 []])] = some (True, [], .one (false, [.b (l.any (fun y => !i5 y))])) := f7 _ (by intro x y h; simp at h; simp_all) l
theorem b7l : OkC Tryz.prog 164 a9b := f8 _
def a8z : ACode := q' ([o' 1 (.box 1 (.t 0)), b' 2 false]) (q' ([f' 3 0 1, l' 4 3, n' 5 4, o' 6 (.bin .leq (.t 5) (k' 6)), m' 7 6, ⟨some 8, .fa 0 (.t 1), some (7, true)⟩, ⟨some 9,
 .ld false 1 (.t 8), some (7, true)⟩, ⟨some 10, .call 164 [.t 9, .k (.v false [.c (.f 244 [])])], some (7, true)⟩, ⟨some 11, .not (.t 10), some (7, true)⟩, o'
 12 (.pick (.t 7) (.t 11) (.k (.v false [.c (.b false)]))), m' 2 12]) .ret)
theorem b7r : cmp Tryz.prog Tryz.f162 = some a8z := by kernel_rfl
theorem b9T (r : c9) : A0m Tryz.prog 162 [(true, [.sl false [.i .i64 0, .s []] (r.V.map c6.cells)])] [] (.one (false, [.b (a0a r)])) := by
 refine spec_of2 false false none Tryz.func162 b7r (rvs := [.t 2]) (hΓ := mkCtx_ok (deep := false) (l := [(164, [], a9b)]) ⟨b7l, trivial⟩) (h := ?_)
 intro hb hE
 simp only [go_sem] at hb
 simp only [a8z, x']
 (try refine A2Z ?_); simp only [go_sem]; (repeat' first | apply CJ.mk | intro hc); all_goals try ((repeat' first | apply And.intro | intro hs) <;> (try simp only [go_sem, Bool.and_eq_false_iff] at hs) <;> omega)
 all_goals rw [b4C, Bool.not_not, a0a]
noncomputable def a5D : CT := j7 (fun (x : c9) => b9T x)
@[go_sem] theorem c6G (x0 : List c6) : a5D [(true, [.sl false [.i .i64 0, .s []] (x0.map c6.cells)])] = some (True, [], .one (false, [.b (a0a (c9.mk x0))])) := f7 _ (by rintro ⟨_⟩ ⟨_⟩ h; simp at h; simp_all) (c9.mk x0)
theorem b2Y : OkC Tryz.prog 162 a5D := f8 _
def b4N : ACode := q' ([z' 6 0]) (.seq (q' ([m' 11 0, n' 12 11, z' 13 0]) (.block 0 (.loop (q' ([r' 14 13 12]) (.seq (.cond (.t 14) .skip (.exit 0)) (.seq (.block 1 (q' ([m' 15
 13, i' 16 2 11 13, e' 17 2 16, w' 8 [.i .i64, .s], m' 7 15, s' 2 8 17]) (.seq (q' ([m' 18 7, m' 19 1, n' 20 19, o' 21 (.bin .geq (.t 18) (.t 20))]) (.cond (.t
 21) (q' ([z' 6 1]) .ret) .skip)) (q' ([m' 22 1, m' 23 7, i' 24 2 22 23, e' 25 2 24, w' 9 [.i .i64, .s], s' 2 9 25]) (q' ([m' 26 2, e' 27 2 8, e' 28 2 9, o' 29
 (.callv (.t 26) [.t 27, .t 28]), m' 10 29]) (q' ([m' 30 10, o' 31 (.bin .neq (.t 30) (k' 0))]) (.cond (.t 31) (q' ([m' 32 10, m' 6 32]) .ret) .skip))))))) (g'
 [a' 33 13, m' 13 33]))))))) (.seq (q' ([m' 34 0, n' 35 34, m' 36 1, n' 37 36, r' 38 35 37]) (.cond (.t 38) (q' ([o' 6 (.mov (.k (.v false [.c (.i .i64
 (-1))])))]) .ret) .skip)) (q' ([z' 6 0]) .ret)))
theorem c3m : cmp Tryz.prog Tryz.f319 = some b4N := by kernel_rfl
theorem c6m (a : List c6) (b : List c6) : A0m Tryz.prog 319 [(false, [.sl false [.i .i64 0, .s []] (a.map c6.cells)]), (false, [.sl false [.i .i64 0, .s []] (b.map c6.cells)]), (false, [.f 287 []])] [] (.one (false, [.i .i64 (y3 a b)])) := by
 refine spec_of2 false false none Tryz.func319 c3m (rvs := [.t 6]) (hΓ := mkCtx_ok (deep := false) (l := [(287, [], a0c)]) ⟨a0A, trivial⟩) (h := ?_)
 intro hb hE
 simp only [go_sem] at hb
 simp only [b4N, x']
 (try refine A2Z ?_); simp only [go_sem]; (repeat' first | apply CJ.mk | intro hc); all_goals try ((repeat' first | apply And.intro | intro hs) <;> (try simp only [go_sem, Bool.and_eq_false_iff] at hs) <;> omega)
 refine aw_loop2 false [] [0, 1, 2, 11, 12] [] [] (fun i : {i : Nat // i ≤ a.length ∧ i ≤ b.length ∧ y3 (a.drop i) (b.drop i) = y3 a b} => [(13, slV (.i .i64 i.1))]) (fun i => []) (fun i => []) (fun i => a.length - i.1) (⟨0, by simp⟩) _ rfl ?_ ?_
 ·simp only [go_sem]
  all_goals first | omega | ((repeat' apply And.intro) <;> first | omega | rfl | skip)
 intro S0 hS0 i
 simp only [go_sem] at hS0
 obtain ⟨i, hi, hj, he⟩ := i
 (try refine A2Z ?_); simp only [go_sem, hS0]; (repeat' first | apply CJ.mk | intro hc); all_goals try ((repeat' first | apply And.intro | intro hs) <;> (try simp only [go_sem, Bool.and_eq_false_iff] at hs) <;> omega)
 ·rw [← he, b4T hi hj (by omega), if_neg (by omega), if_pos (by omega)]
 ·rw [← he, s9 (l := a) default (by omega), s9 (l := b) default (by omega), y3, if_neg (by simpa using hc)]
 ·have h2 := he
  rw [s9 (l := a) default (by omega), s9 (l := b) default (by omega), y3, if_pos (by simpa using hc)] at h2
  (refine lpK_n2 (⟨i + 1, by omega, by omega, h2⟩) _ rfl ?_; simp only [go_sem, hS0]; first | done | ((repeat' apply And.intro) <;> first | omega | (refine w64 ?_ ?_ ?_ <;> omega) | rfl | skip))
 ·rw [← he, b4T hi hj (by omega), if_pos (by omega)]
 ·rw [← he, b4T hi hj (by omega), if_neg (by omega), if_neg (by omega)]
noncomputable def b1g : CT := j7 (fun (x : (List c6) × (List c6)) => c6m x.1 x.2)
@[go_sem] theorem c8F (a b : List c6) : b1g [(false, [.sl false [.i .i64 0, .s []] (a.map c6.cells)]), (false, [.sl false [.i .i64 0, .s []] (b.map c6.cells)]), (false, [.f 287 []])] = some (True, [], .one (false, [.i .i64 (y3 a b)])) := f7 _ (by rintro ⟨_, _⟩ ⟨_, _⟩ h; simp at h; simp_all) (a, b)
theorem b9u : OkC Tryz.prog 319 b1g := f8 _
def a8D : ACode := q' ([o' 2 (.box 1 (.t 0)), o' 3 (.box 1 (.t 1)), z' 4 0]) (q' ([f' 5 0 2, l' 6 5, f' 7 0 3, l' 8 7, o' 9 (.call 319 [.t 6, .t 8, .k (.v false [.c (.f 287
 [])])]), m' 4 9]) .ret)
theorem b7v : cmp Tryz.prog Tryz.f262 = some a8D := by kernel_rfl
theorem b9W (a : c9) (b : c9) : A0m Tryz.prog 262 [(true, [.sl false [.i .i64 0, .s []] (a.V.map c6.cells)]), (true, [.sl false [.i .i64 0, .s []] (b.V.map c6.cells)])] [] (.one (false, [.i .i64 (y3 a.V b.V)])) := by
 refine spec_of2 false false none Tryz.func262 b7v (rvs := [.t 4]) (hΓ := mkCtx_ok (deep := false) (l := [(319, [], b1g)]) ⟨b9u, trivial⟩) (h := ?_)
 intro hb hE
 simp only [go_sem] at hb
 simp only [a8D, x']
 (try refine A2Z ?_); simp only [go_sem]; (repeat' first | apply CJ.mk | intro hc); all_goals try ((repeat' first | apply And.intro | intro hs) <;> (try simp only [go_sem, Bool.and_eq_false_iff] at hs) <;> omega)
noncomputable def a2w : CT := j7 (fun (x : c9 × c9) => b9W x.1 x.2)
@[go_sem] theorem c6K (x0 x1 : List c6) : a2w [(true, [.sl false [.i .i64 0, .s []] (x0.map c6.cells)]), (true, [.sl false [.i .i64 0, .s []] (x1.map c6.cells)])] = some (True, [], .one (false, [.i .i64 (y3 (c9.mk x0).V (c9.mk x1).V)])) := f7 _ (by rintro ⟨⟨_⟩, ⟨_⟩⟩ ⟨⟨_⟩, ⟨_⟩⟩ h; simp at h; simp_all) ((c9.mk x0), (c9.mk x1))
theorem a6G : OkC Tryz.prog 262 a2w := f8 _
def a4S : ACode := q' ([o' 2 (.box 1 (.t 0)), o' 3 (.box 1 (.t 1)), z' 4 0]) (.seq (q' ([e' 5 1 2, c' 6 159 [5], o' 7 (.not (.t 6)), m' 8 7, ⟨some 9, .ld true 1 (.t 3), some (8,
 false)⟩, ⟨some 10, .call 159 [.t 9], some (8, false)⟩, ⟨some 11, .not (.t 10), some (8, false)⟩, o' 12 (.pick (.t 8) (.k (.v false [.c (.b true)])) (.t 11))])
 (.cond (.t 12) (q' ([z' 4 2]) .ret) .skip)) (q' ([e' 13 1 2, e' 14 1 3, c' 15 291 [13, 14], m' 4 15]) .ret))
theorem b2g : cmp Tryz.prog Tryz.f258 = some a4S := by kernel_rfl
theorem b4p (a : c9) (b : c9) : A0m Tryz.prog 258 [(true, [.sl false [.i .i64 0, .s []] (a.V.map c6.cells)]), (true, [.sl false [.i .i64 0, .s []] (b.V.map c6.cells)])] [] (.one (false, [.i .i64 (a5t a b)])) := by
 refine spec_of2 false false none Tryz.func258 b2g (rvs := [.t 4]) (hΓ := mkCtx_ok (deep := false) (l := [(159, [], a2y), (291, [], a2d)]) ⟨a6I, a9x, trivial⟩) (h := ?_)
 intro hb hE
 simp only [go_sem] at hb
 simp only [a4S, x']
 (try refine A2Z ?_); simp only [go_sem]; (repeat' first | apply CJ.mk | intro hc); all_goals try ((repeat' first | apply And.intro | intro hs) <;> (try simp only [go_sem, Bool.and_eq_false_iff] at hs) <;> omega)
 ·rcases hc with h | h <;> simp [a5t, h]
 ·rw [a5t, hc.1, hc.2]; rfl
noncomputable def a2c : CT := j7 (fun (x : c9 × c9) => b4p x.1 x.2)
@[go_sem] theorem c2W (x0 x1 : List c6) : a2c [(true, [.sl false [.i .i64 0, .s []] (x0.map c6.cells)]), (true, [.sl false [.i .i64 0, .s []] (x1.map c6.cells)])] = some (True, [], .one (false, [.i .i64 (a5t (c9.mk x0) (c9.mk x1))])) := f7 _ (by rintro ⟨⟨_⟩, ⟨_⟩⟩ ⟨⟨_⟩, ⟨_⟩⟩ h; simp at h; simp_all) ((c9.mk x0), (c9.mk x1))
theorem a9w : OkC Tryz.prog 258 a2c := f8 _
theorem a3I {n : Nat} {p : Nat → Bool} (h : a5B n p = false) {j : Nat} (hj : j < n) : p j = false := by
 simp only [a5B, Bool.not_eq_false'] at h
 simpa using b4R h hj
theorem u2 {r : c9} (h : a0a r = true) : ∀ x ∈ r.V, i5 x = true := by
 simp only [a0a, Bool.and_eq_true, List.all_eq_true] at h
 exact h.2
theorem a1k {r : d8} {i : Nat} (h : y6 r i = false) : a0a (r.Rows.getD i default) = true := by
 simp only [y6, Bool.or_eq_false_iff, Bool.not_eq_false'] at h
 exact h.1.2
theorem bRow_ge {a b : List c6} (ha : ∀ x ∈ a, i5 x = true) (hb : ∀ x ∈ b, i5 x = true) : decide (0 ≤ y3 a b) = !(a0i a b == -1) := by
 have h := b0Z ha hb
 unfold sgn at h
 rw [Bool.eq_iff_iff]
 simp only [decide_eq_true_eq, Bool.not_eq_true', beq_eq_false_iff_ne]
 omega
theorem c6u {r : d8} {i : Nat} (ha : a5B i (y6 r) = false) : (!a0a (r.Rows.getD i default) || !((r.Rows.getD i default).V.length == r.Arity) || (decide (0 < i) && decide (0 ≤ y3 (r.Rows.getD (i - 1) default).V (r.Rows.getD i default).V))) = y6 r i := by
 rw [y6]
 cases h : a0a (r.Rows.getD i default) with
 | false => simp
 | true =>
   by_cases h0 : 0 < i
   ·rw [bRow_ge (u2 (a1k (a3I ha (show i - 1 < i by omega)))) (u2 h)]
    simp
   ·rw [decide_eq_false h0]; simp
theorem b6W {r : d8} {i : Nat} (hi : i < r.Rows.length) (h : y6 r i = true) : w7 r = false := by
 rw [w7, b1e hi h]; simp
def a8S : ACode := q' ([o' 1 (.box 2 (.t 0)), b' 2 false]) (.seq (q' ([f' 4 0 1, l' 5 4, o' 6 (.bin .lss (.t 5) (k' 0)), m' 7 6, ⟨some 8, .fa 0 (.t 1), some (7, false)⟩, ⟨some 9,
 .ld false 1 (.t 8), some (7, false)⟩, ⟨some 10, .bin .gtr (.t 9) (k' 6), some (7, false)⟩, o' 11 (.pick (.t 7) (.k (.v false [.c (.b true)])) (.t 10)), m' 12
 11, ⟨some 13, .fa 1 (.t 1), some (12, false)⟩, ⟨some 14, .ld false 1 (.t 13), some (12, false)⟩, ⟨some 15, .len (.t 14), some (12, false)⟩, ⟨some 16, .bin
 .gtr (.t 15) (k' 300), some (12, false)⟩, o' 17 (.pick (.t 12) (.k (.v false [.c (.b true)])) (.t 16))]) (.cond (.t 17) (q' ([b' 2 false]) .ret) .skip)) (.seq
 (q' ([f' 18 1 1, l' 19 18, n' 20 19, z' 21 0]) (.block 0 (.loop (q' ([r' 22 21 20]) (.seq (.cond (.t 22) .skip (.exit 0)) (.seq (.block 1 (q' ([m' 23 21, m' 3
 23]) (.seq (.seq (.reg true [f' 24 1 1, l' 25 24, m' 26 3, i' 27 1 25 26, f' 28 0 27, l' 29 28, n' 30 29, f' 31 0 1, l' 32 31, o' 33 (.bin .neq (.t 30) (.t
 32)), m' 34 33, ⟨some 35, .fa 1 (.t 1), some (34, false)⟩, ⟨some 36, .ld false 1 (.t 35), some (34, false)⟩, ⟨some 37, .mov (.t 3), some (34, false)⟩, ⟨some
 38, .ia 1 (.t 36) (.t 37), some (34, false)⟩, ⟨some 39, .ld true 1 (.t 38), some (34, false)⟩, ⟨some 40, .call 159 [.t 39], some (34, false)⟩, ⟨some 41, .not
 (.t 40), some (34, false)⟩, o' 42 (.pick (.t 34) (.k (.v false [.c (.b true)])) (.t 41))]) (.cond (.t 42) (q' ([b' 2 false]) .ret) .skip)) (.seq (.reg true
 [m' 43 3, o' 44 (.bin .gtr (.t 43) (k' 0)), m' 45 44, ⟨some 46, .fa 1 (.t 1), some (45, true)⟩, ⟨some 47, .ld false 1 (.t 46), some (45, true)⟩, ⟨some 48,
 .mov (.t 3), some (45, true)⟩, ⟨some 49, .bin .sub (.t 48) (k' 1), some (45, true)⟩, ⟨some 50, .ia 1 (.t 47) (.t 49), some (45, true)⟩, ⟨some 51, .ld true 1
 (.t 50), some (45, true)⟩, ⟨some 52, .fa 1 (.t 1), some (45, true)⟩, ⟨some 53, .ld false 1 (.t 52), some (45, true)⟩, ⟨some 54, .mov (.t 3), some (45, true)⟩,
 ⟨some 55, .ia 1 (.t 53) (.t 54), some (45, true)⟩, ⟨some 56, .ld true 1 (.t 55), some (45, true)⟩, ⟨some 57, .call 258 [.t 51, .t 56], some (45, true)⟩, ⟨some
 58, .bin .neq (.t 57) (.k (.v false [.c (.i .i64 (-1))])), some (45, true)⟩, o' 59 (.pick (.t 45) (.t 58) (.k (.v false [.c (.b false)])))]) (.cond (.t 59)
 (q' ([b' 2 false]) .ret) .skip))))) (g' [a' 60 21, m' 21 60]))))))) (q' ([b' 2 true]) .ret)))
theorem b7K : cmp Tryz.prog Tryz.f174 = some a8S := by kernel_rfl
theorem c0m (r : d8) : A0m Tryz.prog 174 [(true, [.i .i64 r.Arity, .sl false [.sl false [.i .i64 0, .s []] []] (r.Rows.map (c9.cells false false))])] [] (.one (false, [.b (w7 r)])) := by
 refine spec_of2 false false none Tryz.func174 b7K (rvs := [.t 2]) (hΓ := mkCtx_ok (deep := false) (l := [(159, [], a2y), (258, [], a2c)]) ⟨a6I, a9w, trivial⟩) (h := ?_)
 intro hb hE
 simp only [go_sem] at hb
 simp only [a8S, x']
 (try refine A2Z ?_); simp only [go_sem]; (repeat' first | apply CJ.mk | intro hc); all_goals try ((repeat' first | apply And.intro | intro hs) <;> (try simp only [go_sem, Bool.and_eq_false_iff] at hs) <;> omega)
 ·rcases hc with (h | h) | h
  ·rw [w7, decide_eq_false (show ¬ 0 ≤ r.Arity by omega)]; rfl
  ·rw [w7, decide_eq_false (show ¬ r.Arity ≤ 6 by omega)]; simp
  ·rw [w7, decide_eq_false (show ¬ (r.Rows.length : Int) ≤ 300 by omega)]; simp
 have hA := hc
 clear hc
 refine aw_loop2 false [] [1, 20] [2] [] (fun i : {i : Nat // i ≤ r.Rows.length ∧ a5B i (y6 r) = false} => [(21, slV (.i .i64 i.1))]) (fun i => []) (fun i => []) (fun i => r.Rows.length - i.1) (⟨0, by simp [a5b]⟩) _ rfl ?_ ?_
 ·simp only [go_sem]
  all_goals first | omega | ((repeat' apply And.intro) <;> first | omega | rfl | skip)
 intro S0 hS0 i
 simp only [go_sem] at hS0
 obtain ⟨i, hi, ha⟩ := i
 have hw : 0 < i → IntKind.i64.wrap ((i : Int) - 1) = ((i - 1 : Nat) : Int) := fun h => by rw [IntWalk.i64_in _ (by omega)]; omega
 (try refine A2Z ?_); simp only [go_sem, hS0]; (repeat' first | apply CJ.mk | intro hc); all_goals try ((repeat' first | apply And.intro | intro hs) <;> (try simp only [go_sem, Bool.and_eq_false_iff] at hs) <;> omega)
 ·have hq : y6 r i = true := by
   rw [y6]
   rcases hc with h | h
   ·simp only [bne] at h
    rw [h]; rfl
   ·rw [h]; simp
  rw [b6W (by omega) hq]
 ·rename_i h1
  have hq : y6 r i = true := by
   rw [hw (by omega)] at hc
   rw [a5t, h1.2, show ((i - 1 : Nat) : Int).toNat = i - 1 from rfl, a1k (a3I ha (show i - 1 < i by omega))] at hc
   rw [y6, decide_eq_true (show 0 < i by omega)]
   have h3 := hc.2
   simp only [bne, Bool.and_self, cond_true] at h3
   rw [h3]; simp
  rw [b6W (by omega) hq]
 ·rename_i h1
  have hq : y6 r i = false := by
   have h2 := h1.1
   simp only [bne] at h2
   rw [y6, h2, h1.2]
   by_cases h0 : 0 < i
   ·rw [hw h0, decide_eq_true (show (0 : Int) < i by omega), a5t, h1.2, show ((i - 1 : Nat) : Int).toNat = i - 1 from rfl, a1k (a3I ha (show i - 1 < i by omega))] at hc
    rw [decide_eq_true h0]
    exact hc
   ·rw [decide_eq_false h0]; rfl
  (refine lpK_n2 (⟨i + 1, by omega, a5a ha hq⟩) _ rfl ?_; simp only [go_sem, hS0]; first | done | ((repeat' apply And.intro) <;> first | omega | (refine w64 ?_ ?_ ?_ <;> omega) | rfl | skip))
 ·obtain rfl : i = r.Rows.length := by omega
  rw [w7, ha, decide_eq_true (show 0 ≤ r.Arity by omega), decide_eq_true (show r.Arity ≤ 6 by omega), decide_eq_true (show (r.Rows.length : Int) ≤ 300 by omega)]; rfl
noncomputable def a5U : CT := j7 (fun (x : d8) => c0m x)
@[go_sem] theorem c7a (x0 : Int) (x1 : List c9) : a5U [(true, [.i .i64 x0, .sl false [.sl false [.i .i64 0, .s []] []] (x1.map (c9.cells false false))])] = some (True, [], .one (false, [.b (w7 (d8.mk x0 x1))])) := f7 _ (by rintro ⟨_, _⟩ ⟨_, _⟩ h; simp at h; simp_all) (d8.mk x0 x1)
theorem b3p : OkC Tryz.prog 174 a5U := f8 _
def a8y : ACode := q' ([o' 1 (.box 2 (.t 0)), b' 2 false]) (.seq (q' ([f' 5 1 1, l' 6 5, n' 7 6, z' 8 0]) (.block 0 (.loop (q' ([r' 9 8 7]) (.seq (.cond (.t 9) .skip (.exit 0))
 (.seq (.block 1 (q' ([m' 10 8, i' 11 1 6 8, e' 12 1 11, w' 4 [.sl [.i .i64 0, .s []]], m' 3 10, s' 1 4 12]) (.seq (.reg true [e' 13 1 4, c' 14 162 [13], o' 15
 (.not (.t 14)), m' 16 15, ⟨some 17, .fa 0 (.t 4), some (16, false)⟩, ⟨some 18, .ld false 1 (.t 17), some (16, false)⟩, ⟨some 19, .len (.t 18), some (16,
 false)⟩, ⟨some 20, .fa 0 (.t 1), some (16, false)⟩, ⟨some 21, .ld false 1 (.t 20), some (16, false)⟩, ⟨some 22, .bin .neq (.t 19) (.t 21), some (16, false)⟩,
 o' 23 (.pick (.t 16) (.k (.v false [.c (.b true)])) (.t 22)), m' 24 23, ⟨some 25, .mov (.t 3), some (24, false)⟩, ⟨some 26, .bin .gtr (.t 25) (k' 0), some
 (24, false)⟩, ⟨some 27, .mov (.t 26), some (24, false)⟩, ⟨some 28, .fa 1 (.t 1), some (27, true)⟩, ⟨some 29, .ld false 1 (.t 28), some (27, true)⟩, ⟨some 30,
 .mov (.t 3), some (27, true)⟩, ⟨some 31, .bin .sub (.t 30) (k' 1), some (27, true)⟩, ⟨some 32, .ia 1 (.t 29) (.t 31), some (27, true)⟩, ⟨some 33, .ld true 1
 (.t 32), some (27, true)⟩, ⟨some 34, .ld true 1 (.t 4), some (27, true)⟩, ⟨some 35, .call 262 [.t 33, .t 34], some (27, true)⟩, ⟨some 36, .bin .geq (.t 35)
 (k' 0), some (27, true)⟩, ⟨some 37, .pick (.t 27) (.t 36) (.k (.v false [.c (.b false)])), some (24, false)⟩, o' 38 (.pick (.t 24) (.k (.v false [.c (.b
 true)])) (.t 37))]) (.cond (.t 38) (q' ([b' 2 false]) .ret) .skip)))) (g' [a' 39 8, m' 8 39]))))))) (q' ([f' 40 0 1, l' 41 40, o' 42 (.call 235 [.t 41, .k (.v
 false [.c (.i .i64 6)])]), m' 43 42, ⟨some 44, .fa 1 (.t 1), some (43, true)⟩, ⟨some 45, .ld false 1 (.t 44), some (43, true)⟩, ⟨some 46, .len (.t 45), some
 (43, true)⟩, ⟨some 47, .bin .leq (.t 46) (k' 300), some (43, true)⟩, o' 48 (.pick (.t 43) (.t 47) (.k (.v false [.c (.b false)]))), m' 2 48]) .ret))
theorem b7q : cmp Tryz.prog Tryz.f177 = some a8y := by kernel_rfl
theorem b9S (r : d8) : A0m Tryz.prog 177 [(true, [.i .i64 r.Arity, .sl false [.sl false [.i .i64 0, .s []] []] (r.Rows.map (c9.cells false false))])] [] (.one (false, [.b (w7 r)])) := by
 refine spec_of2 false false none Tryz.func177 b7q (rvs := [.t 2]) (hΓ := mkCtx_ok (deep := false) (l := [(162, [], a5D), (262, [], a2w), (235, [], a7K)]) ⟨b2Y, a6G, b5d, trivial⟩) (h := ?_)
 intro hb hE
 simp only [go_sem] at hb
 simp only [a8y, x']
 (try refine A2Z ?_); simp only [go_sem]; (repeat' first | apply CJ.mk | intro hc); all_goals try ((repeat' first | apply And.intro | intro hs) <;> (try simp only [go_sem, Bool.and_eq_false_iff] at hs) <;> omega)
 refine aw_loop2 false [] [1, 6, 7] [2] [] (fun i : {i : Nat // i ≤ r.Rows.length ∧ a5B i (y6 r) = false} => [(8, slV (.i .i64 i.1))]) (fun i => []) (fun i => []) (fun i => r.Rows.length - i.1) (⟨0, by simp [a5b]⟩) _ rfl ?_ ?_
 ·simp only [go_sem]
  all_goals first | omega | ((repeat' apply And.intro) <;> first | omega | rfl | skip)
 intro S0 hS0 i
 simp only [go_sem] at hS0
 obtain ⟨i, hi, ha⟩ := i
 have hR := c6u ha
 have hw : 0 < i → IntKind.i64.wrap ((i : Int) - 1) = ((i - 1 : Nat) : Int) := fun h => by rw [IntWalk.i64_in _ (by omega)]; omega
 (try refine A2Z ?_); simp only [go_sem, hS0]; (repeat' first | apply CJ.mk | intro hc); all_goals try ((repeat' first | apply And.intro | intro hs) <;> (try simp only [go_sem, Bool.and_eq_false_iff] at hs) <;> omega)
 ·have hq : y6 r i = true := by
   rw [← hR]
   rcases hc with (h | h) | ⟨h0, h⟩
   ·rw [h]; rfl
   ·simp only [bne] at h
    rw [h]; simp
   ·rw [hw (by omega)] at h
    have h' : 0 ≤ y3 (r.Rows.getD (i - 1) default).V (r.Rows.getD i default).V := h
    rw [decide_eq_true (show 0 < i by omega), decide_eq_true h']; simp
  rw [b6W (by omega) hq]
 ·have hq : y6 r i = false := by
   rw [← hR]
   obtain ⟨⟨h1, h2⟩, h3⟩ := hc
   simp only [bne] at h2
   rw [h1, h2]
   by_cases h0 : 0 < i
   ·rw [hw h0, decide_eq_true (show (0 : Int) < i by omega)] at h3
    rw [decide_eq_true h0]
    exact h3
   ·rw [decide_eq_false h0]; rfl
  (refine lpK_n2 (⟨i + 1, by omega, a5a ha hq⟩) _ rfl ?_; simp only [go_sem, hS0]; first | done | ((repeat' apply And.intro) <;> first | omega | (refine w64 ?_ ?_ ?_ <;> omega) | rfl | skip))
 ·obtain rfl : i = r.Rows.length := by omega
  rw [w7, ha]; simp
noncomputable def a5C : CT := j7 (fun (x : d8) => b9S x)
@[go_sem] theorem c6F (x0 : Int) (x1 : List c9) : a5C [(true, [.i .i64 x0, .sl false [.sl false [.i .i64 0, .s []] []] (x1.map (c9.cells false false))])] = some (True, [], .one (false, [.b (w7 (d8.mk x0 x1))])) := f7 _ (by rintro ⟨_, _⟩ ⟨_, _⟩ h; simp at h; simp_all) (d8.mk x0 x1)
theorem b2X : OkC Tryz.prog 177 a5C := f8 _
theorem b9d {s : d7} {i : Nat} (hi : i < s.Rels.length) (h : a0j s.Rels i = true) : l9 s = false := by
 rw [l9, b1e hi h]; simp
def a6A : ACode := q' ([o' 1 (.box 1 (.t 0)), b' 2 false]) (.seq (q' ([f' 4 0 1, l' 5 4, n' 6 5, o' 7 (.bin .gtr (.t 6) (k' 24))]) (.cond (.t 7) (q' ([b' 2 false]) .ret) .skip))
 (.seq (q' ([f' 8 0 1, l' 9 8, n' 10 9, z' 11 0]) (.block 0 (.loop (q' ([r' 12 11 10]) (.seq (.cond (.t 12) .skip (.exit 0)) (.seq (.block 1 (q' ([m' 13 11, m'
 3 13]) (.seq (.reg true [f' 14 0 1, l' 15 14, m' 16 3, i' 17 3 15 16, f' 18 0 17, l' 19 18, c' 20 173 [19], o' 21 (.not (.t 20)), m' 22 21, ⟨some 23, .fa 0
 (.t 1), some (22, false)⟩, ⟨some 24, .ld false 1 (.t 23), some (22, false)⟩, ⟨some 25, .mov (.t 3), some (22, false)⟩, ⟨some 26, .ia 3 (.t 24) (.t 25), some
 (22, false)⟩, ⟨some 27, .fa 1 (.t 26), some (22, false)⟩, ⟨some 28, .ld true 2 (.t 27), some (22, false)⟩, ⟨some 29, .call 174 [.t 28], some (22, false)⟩,
 ⟨some 30, .not (.t 29), some (22, false)⟩, o' 31 (.pick (.t 22) (.k (.v false [.c (.b true)])) (.t 30)), m' 32 31, ⟨some 33, .mov (.t 3), some (32, false)⟩,
 ⟨some 34, .bin .gtr (.t 33) (k' 0), some (32, false)⟩, ⟨some 35, .mov (.t 34), some (32, false)⟩, ⟨some 36, .fa 0 (.t 1), some (35, true)⟩, ⟨some 37, .ld
 false 1 (.t 36), some (35, true)⟩, ⟨some 38, .mov (.t 3), some (35, true)⟩, ⟨some 39, .bin .sub (.t 38) (k' 1), some (35, true)⟩, ⟨some 40, .ia 3 (.t 37) (.t
 39), some (35, true)⟩, ⟨some 41, .fa 0 (.t 40), some (35, true)⟩, ⟨some 42, .ld false 1 (.t 41), some (35, true)⟩, ⟨some 43, .fa 0 (.t 1), some (35, true)⟩,
 ⟨some 44, .ld false 1 (.t 43), some (35, true)⟩, ⟨some 45, .mov (.t 3), some (35, true)⟩, ⟨some 46, .ia 3 (.t 44) (.t 45), some (35, true)⟩, ⟨some 47, .fa 0
 (.t 46), some (35, true)⟩, ⟨some 48, .ld false 1 (.t 47), some (35, true)⟩, ⟨some 49, .bin .geq (.t 42) (.t 48), some (35, true)⟩, ⟨some 50, .pick (.t 35) (.t
 49) (.k (.v false [.c (.b false)])), some (32, false)⟩, o' 51 (.pick (.t 32) (.k (.v false [.c (.b true)])) (.t 50))]) (.cond (.t 51) (q' ([b' 2 false]) .ret)
 .skip)))) (g' [a' 52 11, m' 11 52]))))))) (q' ([b' 2 true]) .ret)))
theorem b3P : cmp Tryz.prog Tryz.f105 = some a6A := by kernel_rfl
theorem b6I (s : d7) : A0m Tryz.prog 105 [(true, [.sl false [.s [], .i .i64 0, .sl false [.sl false [.i .i64 0, .s []] []] []] (s.Rels.map (d6.cells false false))])] [] (.one (false, [.b (l9 s)])) := by
 refine spec_of2 false false none Tryz.func105 b3P (rvs := [.t 2]) (hΓ := mkCtx_ok (deep := false) (l := [(173, [], a0p), (174, [], a5U)]) ⟨a1c, b3p, trivial⟩) (h := ?_)
 intro hb hE
 simp only [go_sem] at hb
 simp only [a6A, x']
 (try refine A2Z ?_); simp only [go_sem]; (repeat' first | apply CJ.mk | intro hc); all_goals try ((repeat' first | apply And.intro | intro hs) <;> (try simp only [go_sem, Bool.and_eq_false_iff] at hs) <;> omega)
 ·rw [l9, decide_eq_false (by omega)]; rfl
 have hA := hc
 clear hc
 refine aw_loop2 false [] [1, 10] [2] [] (fun i : {i : Nat // i ≤ s.Rels.length ∧ a5B i (a0j s.Rels) = false} => [(11, slV (.i .i64 i.1))]) (fun i => []) (fun i => []) (fun i => s.Rels.length - i.1) (⟨0, by simp [a5b]⟩) _ rfl ?_ ?_
 ·simp only [go_sem]
  all_goals first | omega | ((repeat' apply And.intro) <;> first | omega | rfl | skip)
 intro S0 hS0 i
 simp only [go_sem] at hS0
 obtain ⟨i, hi, ha⟩ := i
 have hw : 0 < i → IntKind.i64.wrap ((i : Int) - 1) = ((i - 1 : Nat) : Int) := fun h => by rw [IntWalk.i64_in _ (by omega)]; omega
 (try refine A2Z ?_); simp only [go_sem, hS0]; (repeat' first | apply CJ.mk | intro hc); all_goals try ((repeat' first | apply And.intro | intro hs) <;> (try simp only [go_sem, Bool.and_eq_false_iff] at hs) <;> omega)
 ·have hq : a0j s.Rels i = true := by
   rw [a0j]
   rcases hc with (h | h) | ⟨h0, h⟩
   ·rw [h]; rfl
   ·rw [h]; simp
   ·rw [hw (by omega)] at h
    have h' : Op.bytesLess (s.Rels.getD (i - 1) default).Name (s.Rels.getD i default).Name = false := h
    rw [decide_eq_true (show 0 < i by omega), h']; simp
  rw [b9d (by omega) hq]
 ·have hq : a0j s.Rels i = false := by
   obtain ⟨⟨h1, h2⟩, h3⟩ := hc
   rw [a0j, h1, h2]
   by_cases h0 : 0 < i
   ·rw [hw h0, decide_eq_true (show (0 : Int) < i by omega)] at h3
    rw [decide_eq_true h0]
    exact h3
   ·rw [decide_eq_false h0]; rfl
  (refine lpK_n2 (⟨i + 1, by omega, a5a ha hq⟩) _ rfl ?_; simp only [go_sem, hS0]; first | done | ((repeat' apply And.intro) <;> first | omega | (refine w64 ?_ ?_ ?_ <;> omega) | rfl | skip))
 ·obtain rfl : i = s.Rels.length := by omega
  rw [l9, ha, decide_eq_true (show (s.Rels.length : Int) ≤ 24 by omega)]; rfl
noncomputable def a3k : CT := j7 (fun (x : d7) => b6I x)
@[go_sem] theorem c4j (x0 : List d6) : a3k [(true, [.sl false [.s [], .i .i64 0, .sl false [.sl false [.i .i64 0, .s []] []] []] (x0.map (d6.cells false false))])] = some (True, [], .one (false, [.b (l9 (d7.mk x0))])) := f7 _ (by rintro ⟨_⟩ ⟨_⟩ h; simp at h; simp_all) (d7.mk x0)
theorem b0u : OkC Tryz.prog 105 a3k := f8 _
def a6f : ACode := q' ([o' 1 (.box 1 (.t 0)), b' 2 false]) (.seq (q' ([f' 5 0 1, l' 6 5, n' 7 6, z' 8 0]) (.block 0 (.loop (q' ([r' 9 8 7]) (.seq (.cond (.t 9) .skip (.exit 0))
 (.seq (.block 1 (q' ([m' 10 8, i' 11 3 6 8, e' 12 3 11, w' 4 [.s, .i .i64, .sl [.sl false [.i .i64 0, .s []] []]], m' 3 10, s' 3 4 12]) (.seq (.reg true [f'
 13 0 4, l' 14 13, c' 15 176 [14], o' 16 (.not (.t 15)), m' 17 16, ⟨some 18, .fa 1 (.t 4), some (17, false)⟩, ⟨some 19, .ld true 2 (.t 18), some (17, false)⟩,
 ⟨some 20, .call 177 [.t 19], some (17, false)⟩, ⟨some 21, .not (.t 20), some (17, false)⟩, o' 22 (.pick (.t 17) (.k (.v false [.c (.b true)])) (.t 21)), m' 23
 22, ⟨some 24, .mov (.t 3), some (23, false)⟩, ⟨some 25, .bin .gtr (.t 24) (k' 0), some (23, false)⟩, ⟨some 26, .mov (.t 25), some (23, false)⟩, ⟨some 27, .fa
 0 (.t 1), some (26, true)⟩, ⟨some 28, .ld false 1 (.t 27), some (26, true)⟩, ⟨some 29, .mov (.t 3), some (26, true)⟩, ⟨some 30, .bin .sub (.t 29) (k' 1), some
 (26, true)⟩, ⟨some 31, .ia 3 (.t 28) (.t 30), some (26, true)⟩, ⟨some 32, .fa 0 (.t 31), some (26, true)⟩, ⟨some 33, .ld false 1 (.t 32), some (26, true)⟩,
 ⟨some 34, .fa 0 (.t 4), some (26, true)⟩, ⟨some 35, .ld false 1 (.t 34), some (26, true)⟩, ⟨some 36, .bin .geq (.t 33) (.t 35), some (26, true)⟩, ⟨some 37,
 .pick (.t 26) (.t 36) (.k (.v false [.c (.b false)])), some (23, false)⟩, o' 38 (.pick (.t 23) (.k (.v false [.c (.b true)])) (.t 37))]) (.cond (.t 38) (q'
 ([b' 2 false]) .ret) .skip)))) (g' [a' 39 8, m' 8 39]))))))) (q' ([f' 40 0 1, l' 41 40, n' 42 41, o' 43 (.bin .leq (.t 42) (k' 24)), m' 2 43]) .ret))
theorem b3u : cmp Tryz.prog Tryz.f108 = some a6f := by kernel_rfl
theorem b6n (s : d7) : A0m Tryz.prog 108 [(true, [.sl false [.s [], .i .i64 0, .sl false [.sl false [.i .i64 0, .s []] []] []] (s.Rels.map (d6.cells false false))])] [] (.one (false, [.b (l9 s)])) := by
 refine spec_of2 false false none Tryz.func108 b3u (rvs := [.t 2]) (hΓ := mkCtx_ok (deep := false) (l := [(176, [], a0o), (177, [], a5C)]) ⟨a0V, b2X, trivial⟩) (h := ?_)
 intro hb hE
 simp only [go_sem] at hb
 simp only [a6f, x']
 (try refine A2Z ?_); simp only [go_sem]; (repeat' first | apply CJ.mk | intro hc); all_goals try ((repeat' first | apply And.intro | intro hs) <;> (try simp only [go_sem, Bool.and_eq_false_iff] at hs) <;> omega)
 refine aw_loop2 false [] [1, 6, 7] [2] [] (fun i : {i : Nat // i ≤ s.Rels.length ∧ a5B i (a0j s.Rels) = false} => [(8, slV (.i .i64 i.1))]) (fun i => []) (fun i => []) (fun i => s.Rels.length - i.1) (⟨0, by simp [a5b]⟩) _ rfl ?_ ?_
 ·simp only [go_sem]
  all_goals first | omega | ((repeat' apply And.intro) <;> first | omega | rfl | skip)
 intro S0 hS0 i
 simp only [go_sem] at hS0
 obtain ⟨i, hi, ha⟩ := i
 have hw : 0 < i → IntKind.i64.wrap ((i : Int) - 1) = ((i - 1 : Nat) : Int) := fun h => by rw [IntWalk.i64_in _ (by omega)]; omega
 (try refine A2Z ?_); simp only [go_sem, hS0]; (repeat' first | apply CJ.mk | intro hc); all_goals try ((repeat' first | apply And.intro | intro hs) <;> (try simp only [go_sem, Bool.and_eq_false_iff] at hs) <;> omega)
 ·have hq : a0j s.Rels i = true := by
   rw [a0j]
   rcases hc with (h | h) | ⟨h0, h⟩
   ·rw [h]; rfl
   ·rw [h]; simp
   ·rw [hw (by omega)] at h
    have h' : Op.bytesLess (s.Rels.getD (i - 1) default).Name (s.Rels.getD i default).Name = false := h
    rw [decide_eq_true (show 0 < i by omega), h']; simp
  rw [b9d (by omega) hq]
 ·have hq : a0j s.Rels i = false := by
   obtain ⟨⟨h1, h2⟩, h3⟩ := hc
   rw [a0j, h1, h2]
   by_cases h0 : 0 < i
   ·rw [hw h0, decide_eq_true (show (0 : Int) < i by omega)] at h3
    rw [decide_eq_true h0]
    exact h3
   ·rw [decide_eq_false h0]; rfl
  (refine lpK_n2 (⟨i + 1, by omega, a5a ha hq⟩) _ rfl ?_; simp only [go_sem, hS0]; first | done | ((repeat' apply And.intro) <;> first | omega | (refine w64 ?_ ?_ ?_ <;> omega) | rfl | skip))
 ·obtain rfl : i = s.Rels.length := by omega
  rw [l9, ha, Bool.not_false, Bool.and_true]
noncomputable def a2V : CT := j7 (fun (x : d7) => b6n x)
@[go_sem] theorem c3O (x0 : List d6) : a2V [(true, [.sl false [.s [], .i .i64 0, .sl false [.sl false [.i .i64 0, .s []] []] []] (x0.map (d6.cells false false))])] = some (True, [], .one (false, [.b (l9 (d7.mk x0))])) := f7 _ (by rintro ⟨_⟩ ⟨_⟩ h; simp at h; simp_all) (d7.mk x0)
theorem b0f : OkC Tryz.prog 108 a2V := f8 _
theorem b2E {r : d8} (h : w7 r = true) : r.Rows.length ≤ 300 := by
 simp only [w7, Bool.and_eq_true, decide_eq_true_eq] at h
 omega
theorem c1L {s : d7} (h : l9 s = true) : ∀ x ∈ s.Rels, w7 x.Rel = true := by
 intro x hx
 obtain ⟨i, hi, rfl⟩ := List.getElem_of_mem hx
 simp only [l9, Bool.and_eq_true, Bool.not_eq_true'] at h
 have := a3I h.2 hi
 simp only [a0j, Bool.or_eq_false_iff, Bool.not_eq_false', k9 default hi] at this
 exact this.1.2
def s7 (s : d7) (n : List UInt8) : d8 × Bool := if 0 ≤ a3q (fun x : d6 => x.Name == n) s.Rels then ((s.Rels.getD (a3q (fun x : d6 => x.Name == n) s.Rels).toNat default).Rel, true) else (⟨0, []⟩, false)
theorem b6V {s : d7} {n : List UInt8} {i : Nat} (hi : i < s.Rels.length) (ha : (s.Rels.take i).any (fun x => x.Name == n) = false) (h : ((s.Rels.getD i default).Name == n) = true) : s7 s n = ((s.Rels.getD i default).Rel, true) := by
 rw [s7, a1i (p := fun x : d6 => x.Name == n) default hi ha h, if_pos (by omega)]; rfl
theorem b6U {s : d7} {n : List UInt8} (ha : s.Rels.any (fun x => x.Name == n) = false) : s7 s n = (⟨0, []⟩, false) := by
 rw [s7, a0w ha, if_neg (by decide)]
def a7y : ACode := q' ([o' 2 (.box 1 (.t 0)), w' 4 [.i .i64, .sl [.sl false [.i .i64 0, .s []] []]], b' 5 false]) (.seq (q' ([f' 7 0 2, l' 8 7, n' 9 8, z' 10 0]) (.block 0 (.loop
 (q' ([r' 11 10 9]) (.seq (.cond (.t 11) .skip (.exit 0)) (.seq (.block 1 (q' ([m' 12 10, m' 6 12]) (q' ([f' 13 0 2, l' 14 13, m' 15 6, i' 16 3 14 15, f' 17 0
 16, l' 18 17, m' 19 1, o' 20 (.bin .eql (.t 18) (.t 19))]) (.cond (.t 20) (q' ([f' 21 0 2, l' 22 21, m' 23 6, i' 24 3 22 23, f' 25 1 24, e' 26 2 25, s' 2 4
 26, b' 5 true]) .ret) .skip)))) (g' [a' 27 10, m' 10 27]))))))) (q' ([o' 28 (.bld [.i .i64, .sl [.sl false [.i .i64 0, .s []] []]] []), s' 2 4 28, b' 5
 false]) .ret))
theorem b5V : cmp Tryz.prog Tryz.f184 = some a7y := by kernel_rfl
theorem b8x (s : d7) (n : List UInt8) : A0m Tryz.prog 184 [(true, [.sl false [.s [], .i .i64 0, .sl false [.sl false [.i .i64 0, .s []] []] []] (s.Rels.map (d6.cells false false))]), (false, [.s n])] [] (.tup [(true, [.i .i64 (((s7 s n).1).Arity), .sl false [.sl false [.i .i64 0, .s []] []] ((((s7 s n).1).Rows).map (c9.cells false false))]), (false, [.b ((s7 s n).2)])]) := by
 refine spec_of2 false true none Tryz.func184 b5V (rvs := [.c 4 true 2, .t 5]) (hΓ := mkCtx_ok (deep := false) (l := []) trivial) (h := ?_)
 intro hb hE
 simp only [go_sem] at hb
 simp only [a7y, x']
 (try refine A2Z ?_); simp only [go_sem]; (repeat' first | apply CJ.mk | intro hc); all_goals try ((repeat' first | apply And.intro | intro hs) <;> (try simp only [go_sem, Bool.and_eq_false_iff] at hs) <;> omega)
 refine aw_loop2 false [] [1, 2, 4, 9] [4] [] (fun i : {i : Nat // i ≤ s.Rels.length ∧ (s.Rels.take i).any (fun x => x.Name == n) = false} => [(10, slV (.i .i64 i.1))]) (fun i => [(8, [.c (.i .i64 0), .nl [.sl false [.i .i64 0, .s []] []]])]) (fun i => []) (fun i => s.Rels.length - i.1) (⟨0, by simp⟩) _ rfl ?_ ?_
 ·simp only [go_sem]
  all_goals first | omega | ((repeat' apply And.intro) <;> first | omega | rfl | skip)
 intro S0 hS0 i
 simp only [go_sem] at hS0
 obtain ⟨i, hi, ha⟩ := i
 (try refine A2Z ?_); simp only [go_sem, hS0]; (repeat' first | apply CJ.mk | intro hc); all_goals try ((repeat' first | apply And.intro | intro hs) <;> (try simp only [go_sem, Bool.and_eq_false_iff] at hs) <;> omega)
 ·rw [b6V (by omega) ha hc]; exact ⟨⟨rfl, rfl⟩, rfl⟩
 ·(refine lpK_n2 (⟨i + 1, by omega, a0y (p := fun x : d6 => x.Name == n) default (by omega) ha hc⟩) _ rfl ?_; simp only [go_sem, hS0]; first | done | ((repeat' apply And.intro) <;> first | omega | (refine w64 ?_ ?_ ?_ <;> omega) | rfl | skip))
 ·rw [i8 (by omega)] at ha
  rw [b6U ha]; exact ⟨⟨rfl, rfl⟩, rfl⟩
noncomputable def a1y : CT := j7 (fun (x : d7 × (List UInt8)) => b8x x.1 x.2)
@[go_sem] theorem c5S (x0 : List d6) (n : List UInt8) : a1y [(true, [.sl false [.s [], .i .i64 0, .sl false [.sl false [.i .i64 0, .s []] []] []] (x0.map (d6.cells false false))]), (false, [.s n])] = some (True, [], .tup [(true, [.i .i64 (((s7 (d7.mk x0) n).1).Arity), .sl false [.sl false [.i .i64 0, .s []] []] ((((s7 (d7.mk x0) n).1).Rows).map (c9.cells false false))]), (false, [.b ((s7 (d7.mk x0) n).2)])]) := f7 _ (by rintro ⟨⟨_⟩, _⟩ ⟨⟨_⟩, _⟩ h; simp at h; simp_all) ((d7.mk x0), n)
theorem a5n : OkC Tryz.prog 184 a1y := f8 _
def a8G : ACode := q' ([o' 2 (.box 1 (.t 0)), w' 4 [.i .i64, .sl [.sl false [.i .i64 0, .s []] []]], b' 5 false]) (.seq (q' ([f' 8 0 2, l' 9 8, n' 10 9, z' 11 0]) (.block 0 (.loop
 (q' ([r' 12 11 10]) (.seq (.cond (.t 12) .skip (.exit 0)) (.seq (.block 1 (q' ([i' 13 3 9 11, e' 14 3 13, w' 7 [.s, .i .i64, .sl [.sl false [.i .i64 0, .s []]
 []]], s' 3 7 14]) (q' ([f' 15 0 7, l' 16 15, m' 17 1, o' 18 (.bin .eql (.t 16) (.t 17))]) (.cond (.t 18) (q' ([f' 19 1 7, e' 20 2 19, s' 2 4 20, b' 5 true])
 .ret) .skip)))) (g' [a' 21 11, m' 11 21]))))))) (q' ([o' 22 (.bld [.i .i64, .sl [.sl false [.i .i64 0, .s []] []]] []), s' 2 4 22, b' 5 false]) .ret))
theorem b7y : cmp Tryz.prog Tryz.f278 = some a8G := by kernel_rfl
theorem c0a (s : d7) (n : List UInt8) : A0m Tryz.prog 278 [(true, [.sl false [.s [], .i .i64 0, .sl false [.sl false [.i .i64 0, .s []] []] []] (s.Rels.map (d6.cells false false))]), (false, [.s n])] [] (.tup [(true, [.i .i64 (((s7 s n).1).Arity), .sl false [.sl false [.i .i64 0, .s []] []] ((((s7 s n).1).Rows).map (c9.cells false false))]), (false, [.b ((s7 s n).2)])]) := by
 refine spec_of2 false true none Tryz.func278 b7y (rvs := [.c 4 true 2, .t 5]) (hΓ := mkCtx_ok (deep := false) (l := []) trivial) (h := ?_)
 intro hb hE
 simp only [go_sem] at hb
 simp only [a8G, x']
 (try refine A2Z ?_); simp only [go_sem]; (repeat' first | apply CJ.mk | intro hc); all_goals try ((repeat' first | apply And.intro | intro hs) <;> (try simp only [go_sem, Bool.and_eq_false_iff] at hs) <;> omega)
 refine aw_loop2 false [] [1, 4, 9, 10] [] [] (fun i : {i : Nat // i ≤ s.Rels.length ∧ (s.Rels.take i).any (fun x => x.Name == n) = false} => [(11, slV (.i .i64 i.1))]) (fun i => [(8, [.c (.i .i64 0), .nl [.sl false [.i .i64 0, .s []] []]])]) (fun i => []) (fun i => s.Rels.length - i.1) (⟨0, by simp⟩) _ rfl ?_ ?_
 ·simp only [go_sem]
  all_goals first | omega | ((repeat' apply And.intro) <;> first | omega | rfl | skip)
 intro S0 hS0 i
 simp only [go_sem] at hS0
 obtain ⟨i, hi, ha⟩ := i
 (try refine A2Z ?_); simp only [go_sem, hS0]; (repeat' first | apply CJ.mk | intro hc); all_goals try ((repeat' first | apply And.intro | intro hs) <;> (try simp only [go_sem, Bool.and_eq_false_iff] at hs) <;> omega)
 ·rw [b6V (by omega) ha hc]; exact ⟨⟨rfl, rfl⟩, rfl⟩
 ·(refine lpK_n2 (⟨i + 1, by omega, a0y (p := fun x : d6 => x.Name == n) default (by omega) ha hc⟩) _ rfl ?_; simp only [go_sem, hS0]; first | done | ((repeat' apply And.intro) <;> first | omega | (refine w64 ?_ ?_ ?_ <;> omega) | rfl | skip))
 ·rw [i8 (by omega)] at ha
  rw [b6U ha]; exact ⟨⟨rfl, rfl⟩, rfl⟩
noncomputable def a2x : CT := j7 (fun (x : d7 × (List UInt8)) => c0a x.1 x.2)
@[go_sem] theorem c6O (x0 : List d6) (n : List UInt8) : a2x [(true, [.sl false [.s [], .i .i64 0, .sl false [.sl false [.i .i64 0, .s []] []] []] (x0.map (d6.cells false false))]), (false, [.s n])] = some (True, [], .tup [(true, [.i .i64 (((s7 (d7.mk x0) n).1).Arity), .sl false [.sl false [.i .i64 0, .s []] []] ((((s7 (d7.mk x0) n).1).Rows).map (c9.cells false false))]), (false, [.b ((s7 (d7.mk x0) n).2)])]) := f7 _ (by rintro ⟨⟨_⟩, _⟩ ⟨⟨_⟩, _⟩ h; simp at h; simp_all) ((d7.mk x0), n)
theorem a6H : OkC Tryz.prog 278 a2x := f8 _
def vNe (a b : List c6) (i : Nat) : Bool := !vEq (a.getD i default) (b.getD i default)
def a5w (a b : List c6) : Bool := decide (a.length = b.length) && !a5B a.length (vNe a b)
theorem c8q {a b : c6} (h : vEq a b = true) : a = b := by
 obtain ⟨n, s⟩ := a
 obtain ⟨m, r⟩ := b
 simp only [vEq, Bool.and_eq_true, beq_iff_eq] at h
 rw [h.1, h.2]
theorem vEq_rfl (a : c6) : vEq a a = true := by simp [vEq]
theorem c1I (a b : List c6) : a5w a b = decide (a = b) := by
 rw [Bool.eq_iff_iff, decide_eq_true_eq]
 constructor
 ·intro h
  simp only [a5w, Bool.and_eq_true, decide_eq_true_eq, Bool.not_eq_true'] at h
  refine List.ext_getElem h.1 fun i h1 h2 => ?_
  have := a3I h.2 h1
  simp only [vNe, Bool.not_eq_false', k9 default h1, k9 default h2] at this
  exact c8q this
 ·rintro rfl
  rw [a5w, decide_eq_true rfl, Bool.true_and, Bool.not_eq_true']
  cases h : a5B a.length (vNe a a) with
  | false => rfl
  | true =>
    simp only [a5B, Bool.not_eq_true'] at h
    rw [c7v.2 fun i _ => by simp [vNe, vEq_rfl]] at h
    cases h
def a2J : ACode := q' ([o' 2 (.box 1 (.t 0)), o' 3 (.box 1 (.t 1)), b' 4 false]) (.seq (q' ([f' 6 0 2, l' 7 6, n' 8 7, f' 9 0 3, l' 10 9, n' 11 10, o' 12 (.bin .neq (.t 8) (.t
 11))]) (.cond (.t 12) (q' ([b' 4 false]) .ret) .skip)) (.seq (q' ([f' 13 0 2, l' 14 13, n' 15 14, z' 16 0]) (.block 0 (.loop (q' ([r' 17 16 15]) (.seq (.cond
 (.t 17) .skip (.exit 0)) (.seq (.block 1 (q' ([m' 18 16, m' 5 18]) (.seq (.reg true [f' 19 0 2, l' 20 19, m' 21 5, i' 22 2 20 21, e' 23 2 22, f' 24 0 3, l' 25
 24, m' 26 5, i' 27 2 25 26, e' 28 2 27, o' 29 (.eqs true [.i .i64, .s] (.t 23) (.t 28))]) (.cond (.t 29) (q' ([b' 4 false]) .ret) .skip)))) (g' [a' 30 16, m'
 16 30]))))))) (q' ([b' 4 true]) .ret)))
theorem a9L : cmp Tryz.prog Tryz.f337 = some a2J := by kernel_rfl
theorem b0R (a : c9) (b : c9) : A0m Tryz.prog 337 [(true, [.sl false [.i .i64 0, .s []] (a.V.map c6.cells)]), (true, [.sl false [.i .i64 0, .s []] (b.V.map c6.cells)])] [] (.one (false, [.b (decide (a.V = b.V))])) := by
 refine spec_of2 false false none Tryz.func337 a9L (rvs := [.t 4]) (hΓ := mkCtx_ok (deep := false) (l := []) trivial) (h := ?_)
 intro hb hE
 simp only [go_sem] at hb
 simp only [a2J, x']
 rw [← c1I]
 (try refine A2Z ?_); simp only [go_sem]; (repeat' first | apply CJ.mk | intro hc); all_goals try ((repeat' first | apply And.intro | intro hs) <;> (try simp only [go_sem, Bool.and_eq_false_iff] at hs) <;> omega)
 ·rw [a5w, decide_eq_false (fun h => by simp [h] at hc)]; rfl
 have hl : a.V.length = b.V.length := by simpa [Int.ofNat_inj] using hc
 clear hc
 refine aw_loop2 false [] [2, 3, 15] [4, 6] [] (fun i : {i : Nat // i ≤ a.V.length ∧ a5B i (vNe a.V b.V) = false} => [(16, slV (.i .i64 i.1))]) (fun i => []) (fun i => []) (fun i => a.V.length - i.1) (⟨0, by simp [a5b]⟩) _ rfl ?_ ?_
 ·simp only [go_sem]
  all_goals first | omega | ((repeat' apply And.intro) <;> first | omega | rfl | skip)
 intro S0 hS0 i
 simp only [go_sem] at hS0
 obtain ⟨i, hi, ha⟩ := i
 (try refine A2Z ?_); simp only [go_sem, hS0]; (repeat' first | apply CJ.mk | intro hc); all_goals try ((repeat' first | apply And.intro | intro hs) <;> (try simp only [go_sem, Bool.and_eq_false_iff] at hs) <;> omega)
 ·rw [a5w, b1e (i := i) (by omega) (show vNe a.V b.V i = true by rw [vNe, vEq, hc]; rfl)]; simp
 ·(refine lpK_n2 (⟨i + 1, by omega, a5a ha (show vNe a.V b.V i = false by rw [vNe, vEq, hc.1, hc.2]; rfl)⟩) _ rfl ?_; simp only [go_sem, hS0]; first | done | ((repeat' apply And.intro) <;> first | omega | (refine w64 ?_ ?_ ?_ <;> omega) | rfl | skip))
 ·obtain rfl : i = a.V.length := by omega
  rw [a5w, ha, decide_eq_true hl]; rfl
noncomputable def a0I : CT := j7 (fun (x : c9 × c9) => b0R x.1 x.2)
@[go_sem] theorem c0R (x0 x1 : List c6) : a0I [(true, [.sl false [.i .i64 0, .s []] (x0.map c6.cells)]), (true, [.sl false [.i .i64 0, .s []] (x1.map c6.cells)])] = some (True, [], .one (false, [.b (decide ((c9.mk x0).V = (c9.mk x1).V))])) := f7 _ (by rintro ⟨⟨_⟩, ⟨_⟩⟩ ⟨⟨_⟩, ⟨_⟩⟩ h; simp at h; simp_all) ((c9.mk x0), (c9.mk x1))
theorem a7P : OkC Tryz.prog 337 a0I := f8 _
def a0t (l : List c9) (r : c9) : Bool := l.any fun x => decide (x.V = r.V)
def a7x : ACode := q' ([o' 3 (.box 1 (.t 1)), b' 4 false]) (.seq (q' ([m' 6 0, n' 7 6, z' 8 0]) (.block 0 (.loop (q' ([r' 9 8 7]) (.seq (.cond (.t 9) .skip (.exit 0)) (.seq
 (.block 1 (q' ([m' 10 8, m' 5 10]) (.seq (.reg true [m' 11 0, m' 12 5, i' 13 1 11 12, e' 14 1 13, e' 15 1 3, c' 16 337 [14, 15]]) (.cond (.t 16) (q' ([b' 4
 true]) .ret) .skip)))) (g' [a' 17 8, m' 8 17]))))))) (q' ([b' 4 false]) .ret))
theorem b5U : cmp Tryz.prog Tryz.f290 = some a7x := by kernel_rfl
theorem b8w (l : List c9) (r : c9) : A0m Tryz.prog 290 [(false, [.sl false [.sl false [.i .i64 0, .s []] []] (l.map (c9.cells false false))]), (true, [.sl false [.i .i64 0, .s []] (r.V.map c6.cells)])] [] (.one (false, [.b (a0t l r)])) := by
 refine spec_of2 false false none Tryz.func290 b5U (rvs := [.t 4]) (hΓ := mkCtx_ok (deep := false) (l := [(337, [], a0I)]) ⟨a7P, trivial⟩) (h := ?_)
 intro hb hE
 simp only [go_sem] at hb
 simp only [a7x, x']
 (try refine A2Z ?_); simp only [go_sem]; (repeat' first | apply CJ.mk | intro hc); all_goals try ((repeat' first | apply And.intro | intro hs) <;> (try simp only [go_sem, Bool.and_eq_false_iff] at hs) <;> omega)
 refine aw_loop2 false [] [0, 3, 7] [6] [] (fun i : {i : Nat // i ≤ l.length ∧ (l.take i).any (fun x => decide (x.V = r.V)) = false} => [(8, slV (.i .i64 i.1))]) (fun i => []) (fun i => []) (fun i => l.length - i.1) (⟨0, by simp⟩) _ rfl ?_ ?_
 ·simp only [go_sem]
  all_goals first | omega | ((repeat' apply And.intro) <;> first | omega | rfl | skip)
 intro S0 hS0 i
 simp only [go_sem] at hS0
 obtain ⟨i, hi, ha⟩ := i
 (try refine A2Z ?_); simp only [go_sem, hS0]; (repeat' first | apply CJ.mk | intro hc); all_goals try ((repeat' first | apply And.intro | intro hs) <;> (try simp only [go_sem, Bool.and_eq_false_iff] at hs) <;> omega)
 ·rw [a0t, any_true (p := fun x : c9 => decide (x.V = r.V)) (d := default) (i := i) (by omega) (decide_eq_true hc)]
 ·(refine lpK_n2 (⟨i + 1, by omega, a0y (p := fun x : c9 => decide (x.V = r.V)) default (by omega) ha (decide_eq_false hc)⟩) _ rfl ?_; simp only [go_sem, hS0]; first | done | ((repeat' apply And.intro) <;> first | omega | (refine w64 ?_ ?_ ?_ <;> omega) | rfl | skip))
 ·rw [i8 (by omega)] at ha
  rw [a0t, ha]
noncomputable def a4s : CT := j7 (fun (x : (List c9) × c9) => b8w x.1 x.2)
@[go_sem] theorem c5R (l : List c9) (x0 : List c6) : a4s [(false, [.sl false [.sl false [.i .i64 0, .s []] []] (l.map (c9.cells false false))]), (true, [.sl false [.i .i64 0, .s []] (x0.map c6.cells)])] = some (True, [], .one (false, [.b (a0t l (c9.mk x0))])) := f7 _ (by rintro ⟨_, ⟨_⟩⟩ ⟨_, ⟨_⟩⟩ h; simp at h; simp_all) (l, (c9.mk x0))
theorem b1D : OkC Tryz.prog 290 a4s := f8 _
def a8V : ACode := q' ([o' 3 (.box 1 (.t 0)), o' 5 (.box 1 (.t 2)), b' 6 false]) (q' ([e' 10 1 3, m' 11 1, c' 12 184 [10, 11], m' 9 12, o' 13 (.ext (.t 9) 0), o' 14 (.ext (.t 9)
 1), w' 7 [.i .i64, .sl [.sl false [.i .i64 0, .s []] []]], s' 2 7 13, m' 8 14]) (q' ([f' 15 1 7, l' 16 15, e' 17 1 5, c' 18 290 [16, 17], m' 6 18]) .ret))
theorem b7N : cmp Tryz.prog Tryz.f270 = some a8V := by kernel_rfl
theorem c0p (s : d7) (n : List UInt8) (r : c9) : A0m Tryz.prog 270 [(true, [.sl false [.s [], .i .i64 0, .sl false [.sl false [.i .i64 0, .s []] []] []] (s.Rels.map (d6.cells false false))]), (false, [.s n]), (true, [.sl false [.i .i64 0, .s []] (r.V.map c6.cells)])] [] (.one (false, [.b (a0t (s7 s n).1.Rows r)])) := by
 refine spec_of2 false false none Tryz.func270 b7N (rvs := [.t 6]) (hΓ := mkCtx_ok (deep := false) (l := [(184, [], a1y), (290, [], a4s)]) ⟨a5n, b1D, trivial⟩) (h := ?_)
 intro hb hE
 simp only [go_sem] at hb
 simp only [a8V, x']
 (try refine A2Z ?_); simp only [go_sem]; (repeat' first | apply CJ.mk | intro hc); all_goals try ((repeat' first | apply And.intro | intro hs) <;> (try simp only [go_sem, Bool.and_eq_false_iff] at hs) <;> omega)
noncomputable def a5W : CT := j7 (fun (x : d7 × (List UInt8) × c9) => c0p x.1 x.2.1 x.2.2)
@[go_sem] theorem c7d (x0 : List d6) (n : List UInt8) (x1 : List c6) : a5W [(true, [.sl false [.s [], .i .i64 0, .sl false [.sl false [.i .i64 0, .s []] []] []] (x0.map (d6.cells false false))]), (false, [.s n]), (true, [.sl false [.i .i64 0, .s []] (x1.map c6.cells)])] = some (True, [], .one (false, [.b (a0t (s7 (d7.mk x0) n).1.Rows (c9.mk x1))])) := f7 _ (by rintro ⟨⟨_⟩, _, ⟨_⟩⟩ ⟨⟨_⟩, _, ⟨_⟩⟩ h; simp at h; simp_all) ((d7.mk x0), n, (c9.mk x1))
theorem b3r : OkC Tryz.prog 270 a5W := f8 _
abbrev bsP (l : List c9) (t : c9) (k : Nat) : Bool := decide (0 ≤ y3 (l.getD k default).V t.V)
abbrev bsN (l : List c9) (t : c9) : Nat := a5X l.length (bsP l t)
theorem mid_eq {i j : Nat} (h : i + j ≤ 4000000) : IntKind.i64.wrap ((IntKind.u64.wrap (IntKind.i64.wrap ((i : Int) + j))).fdiv (2 ^ min 1 64)) = (((i + j) / 2 : Nat) : Int) := by
 have e1 : IntKind.i64.wrap ((i : Int) + j) = (i : Int) + j := IntWalk.i64_in _ (by omega)
 have e2 : IntKind.u64.wrap ((i : Int) + j) = (i : Int) + j := IntWalk.u64_in _ (by omega)
 have e3 : (2 : Int) ^ min 1 64 = 2 := by decide
 rw [e1, e2, e3, Int.fdiv_eq_ediv_of_nonneg _ (by decide)]
 have e4 : IntKind.i64.wrap (((i : Int) + j) / 2) = ((i : Int) + j) / 2 := IntWalk.i64_in _ (by omega)
 rw [e4]
 omega
theorem bs_end {l : List c9} {t : c9} {i : Nat} (hi : i ≤ l.length) (ha : ∀ k, k < i → bsP l t k = false) (hz : ∀ k, i ≤ k → k < l.length → bsP l t k = true) : bsN l t = i := by
 by_cases h : i < l.length
 ·exact a3R ha (hz i (Nat.le_refl _) h) h
 ·have : i = l.length := by omega
  subst this
  exact a7X ha
def c0F : ACode := q' ([o' 4 (.box 1 (.t 1)), z' 6 0, b' 7 false]) (q' ([m' 12 0, n' 13 12, m' 8 13]) (q' ([m' 14 8, z' 9 0, m' 10 14]) (.seq (.block 0 (.loop (.seq (q' ([m' 15 9,
 m' 16 10, r' 17 15 16]) (.cond (.t 17) .skip (.exit 0))) (.block 1 (q' ([m' 18 9, m' 19 10, o' 20 (.bin .add (.t 18) (.t 19)), o' 21 (.cv .u64 (.t 20)), o' 22
 (.bin .shr (.t 21) (.k (.v false [.c (.i .u64 1)]))), o' 23 (.cv .i64 (.t 22)), m' 11 23]) (.seq (.reg true [m' 24 2, m' 25 0, m' 26 11, i' 27 1 25 26, e' 28
 1 27, e' 29 1 4, o' 30 (.callv (.t 24) [.t 28, .t 29]), o' 31 (.bin .lss (.t 30) (k' 0))]) (.cond (.t 31) (g' [m' 32 11, a' 33 32, m' 9 33]) (g' [m' 34 11, m'
 10 34])))))))) (.seq (.reg true [m' 35 9, m' 36 9, m' 37 8, r' 38 36 37, m' 39 38, ⟨some 40, .mov (.t 2), some (39, true)⟩, ⟨some 41, .mov (.t 0), some (39,
 true)⟩, ⟨some 42, .mov (.t 9), some (39, true)⟩, ⟨some 43, .ia 1 (.t 41) (.t 42), some (39, true)⟩, ⟨some 44, .ld true 1 (.t 43), some (39, true)⟩, ⟨some 45,
 .ld true 1 (.t 4), some (39, true)⟩, ⟨some 46, .callv (.t 40) [.t 44, .t 45], some (39, true)⟩, ⟨some 47, .bin .eql (.t 46) (k' 0), some (39, true)⟩, o' 48
 (.pick (.t 39) (.t 47) (.k (.v false [.c (.b false)]))), m' 6 35, m' 7 48]) .ret))))
theorem c7T : cmp Tryz.prog Tryz.f351 = some c0F := by kernel_rfl
theorem k_bsRow (l : List c9) (t : c9) (hpre : l.length ≤ 1000000 ∧ ∀ a b, a ≤ b → b < l.length → y3 (l.getD b default).V t.V < 0 → y3 (l.getD a default).V t.V < 0) : A0m Tryz.prog 351 [(false, [.sl false [.sl false [.i .i64 0, .s []] []] (l.map (c9.cells false false))]), (true, [.sl false [.i .i64 0, .s []] (t.V.map c6.cells)]), (false, [.f 262 []])] [] (.tup [(false, [.i .i64 (((bsN l t : Nat), decide (bsN l t < l.length) && y3 (l.getD (bsN l t) default).V t.V == 0).1)]), (false, [.b (((bsN l t : Nat), decide (bsN l t < l.length) && y3 (l.getD (bsN l t) default).V t.V == 0).2)])]) := by
 refine spec_of2 false false none Tryz.func351 c7T (rvs := [.t 6, .t 7]) (hΓ := mkCtx_ok (deep := false) (l := [(262, [], a2w)]) ⟨a6G, trivial⟩) (h := ?_)
 intro hb hE
 simp only [go_sem] at hb
 simp only [c0F, x']
 obtain ⟨hlen, hmo⟩ := hpre
 (try refine A2Z ?_); simp only [go_sem]; (repeat' first | apply CJ.mk | intro hc); all_goals try ((repeat' first | apply And.intro | intro hs) <;> (try simp only [go_sem, Bool.and_eq_false_iff] at hs) <;> omega)
 refine aw_loop2 false [] [0, 2, 4, 8] [8] [] (fun i : {p : Nat × Nat // p.1 ≤ p.2 ∧ p.2 ≤ l.length ∧ (∀ k, k < p.1 → bsP l t k = false) ∧ (∀ k, p.2 ≤ k → k < l.length → bsP l t k = true)} => [(9, slV (.i .i64 i.1.1)), (10, slV (.i .i64 i.1.2))]) (fun i => []) (fun i => []) (fun i => i.1.2 - i.1.1) (⟨(0, l.length), by simp, by simp, by intro k h; simp at h, by intro k h1 h2; simp at h1; omega⟩) _ rfl ?_ ?_
 ·simp only [go_sem]
  all_goals first | omega | ((repeat' apply And.intro) <;> first | omega | rfl | skip)
 intro S0 hS0 i
 simp only [go_sem] at hS0
 obtain ⟨⟨i, j⟩, hij, hj, ha, hz⟩ := i
 simp only at hij hj ha hz
 have hm := mid_eq (i := i) (j := j) (by omega)
 (try refine A2Z ?_); simp only [go_sem, hS0, hm]; (repeat' first | apply CJ.mk | intro hc); all_goals try ((repeat' first | apply And.intro | intro hs) <;> (try simp only [go_sem, Bool.and_eq_false_iff] at hs) <;> omega)
 ·have h1 : ∀ k, k < (i + j) / 2 + 1 → bsP l t k = false := by
   intro k hk
   have := hmo k ((i + j) / 2) (by omega) (by omega) hc
   exact decide_eq_false (by omega)
  (refine lpK_n2 (⟨((i + j) / 2 + 1, j), by simp only; omega, hj, h1, hz⟩) _ rfl ?_; simp only [go_sem, hS0, hm]; first | done | ((repeat' apply And.intro) <;> first | omega | (refine w64 ?_ ?_ ?_ <;> omega) | rfl | skip))
 ·have h1 : ∀ k, (i + j) / 2 ≤ k → k < l.length → bsP l t k = true := by
   intro k hk hl
   refine decide_eq_true ?_
   have : ¬ y3 (l.getD k default).V t.V < 0 := fun h => hc (hmo _ k hk hl h)
   omega
  (refine lpK_n2 (⟨(i, (i + j) / 2), by simp only; omega, by simp only; omega, ha, h1⟩) _ rfl ?_; simp only [go_sem, hS0, hm]; first | done | ((repeat' apply And.intro) <;> first | omega | (refine w64 ?_ ?_ ?_ <;> omega) | rfl | skip))
 ·have hz' : ∀ k, i ≤ k → k < l.length → bsP l t k = true := fun k h1 h2 => hz k (by omega) h2
  rw [bs_end (by omega) ha hz']
  refine ⟨rfl, ?_⟩
  congr 1
  exact decide_eq_decide.2 (by omega)
noncomputable def b9t : CT := l8 (fun (x : (List c9) × c9) h => k_bsRow x.1 x.2 h)
@[go_sem] theorem c_bsRow_eq (l : List c9) (x0 : List c6) : b9t [(false, [.sl false [.sl false [.i .i64 0, .s []] []] (l.map (c9.cells false false))]), (true, [.sl false [.i .i64 0, .s []] (x0.map c6.cells)]), (false, [.f 262 []])] = some (l.length ≤ 1000000 ∧ ∀ a b, a ≤ b → b < l.length → y3 (l.getD b default).V (c9.mk x0).V < 0 → y3 (l.getD a default).V (c9.mk x0).V < 0, [], .tup [(false, [.i .i64 (((bsN l (c9.mk x0) : Nat), decide (bsN l (c9.mk x0) < l.length) && y3 (l.getD (bsN l (c9.mk x0)) default).V (c9.mk x0).V == 0).1)]), (false, [.b (((bsN l (c9.mk x0) : Nat), decide (bsN l (c9.mk x0) < l.length) && y3 (l.getD (bsN l (c9.mk x0)) default).V (c9.mk x0).V == 0).2)])]) := f9 _ (by rintro ⟨_, ⟨_⟩⟩ ⟨_, ⟨_⟩⟩ h; simp at h; simp_all) (l, (c9.mk x0))
theorem c2z : OkC Tryz.prog 351 b9t := i3 _
def a9X : ACode := q' ([o' 2 (.box 2 (.t 0)), o' 3 (.box 1 (.t 1)), z' 4 0, b' 5 false]) (q' ([f' 6 1 2, l' 7 6, e' 8 1 3, o' 9 (.call 351 [.t 7, .t 8, .k (.v false [.c (.f 262
 [])])]), o' 10 (.ext (.t 9) 0), o' 11 (.ext (.t 9) 1), m' 4 10, m' 5 11]) .ret)
theorem b9L : cmp Tryz.prog Tryz.f328 = some a9X := by kernel_rfl
theorem c1t (r : d8) (t : c9) (hpre : r.Rows.length ≤ 1000000 ∧ ∀ a b, a ≤ b → b < r.Rows.length → y3 (r.Rows.getD b default).V t.V < 0 → y3 (r.Rows.getD a default).V t.V < 0) : A0m Tryz.prog 328 [(true, [.i .i64 r.Arity, .sl false [.sl false [.i .i64 0, .s []] []] (r.Rows.map (c9.cells false false))]), (true, [.sl false [.i .i64 0, .s []] (t.V.map c6.cells)])] [] (.tup [(false, [.i .i64 (((bsN r.Rows t : Nat), decide (bsN r.Rows t < r.Rows.length) && y3 (r.Rows.getD (bsN r.Rows t) default).V t.V == 0).1)]), (false, [.b (((bsN r.Rows t : Nat), decide (bsN r.Rows t < r.Rows.length) && y3 (r.Rows.getD (bsN r.Rows t) default).V t.V == 0).2)])]) := by
 refine spec_of2 false false none Tryz.func328 b9L (rvs := [.t 4, .t 5]) (hΓ := mkCtx_ok (deep := false) (l := [(351, [], b9t)]) ⟨c2z, trivial⟩) (h := ?_)
 intro hb hE
 simp only [go_sem] at hb
 simp only [a9X, x']
 obtain ⟨hlen, hmo⟩ := hpre
 (try refine A2Z ?_); simp only [go_sem]; (repeat' first | apply CJ.mk | intro hc); all_goals try ((repeat' first | apply And.intro | intro hs) <;> (try simp only [go_sem, Bool.and_eq_false_iff] at hs) <;> omega)
 all_goals exact ⟨hlen, hmo⟩
noncomputable def a7J : CT := l8 (fun (x : d8 × c9) h => c1t x.1 x.2 h)
@[go_sem] theorem c7K (x0 : Int) (x1 : List c9) (x2 : List c6) : a7J [(true, [.i .i64 x0, .sl false [.sl false [.i .i64 0, .s []] []] (x1.map (c9.cells false false))]), (true, [.sl false [.i .i64 0, .s []] (x2.map c6.cells)])] = some ((d8.mk x0 x1).Rows.length ≤ 1000000 ∧ ∀ a b, a ≤ b → b < (d8.mk x0 x1).Rows.length → y3 ((d8.mk x0 x1).Rows.getD b default).V (c9.mk x2).V < 0 → y3 ((d8.mk x0 x1).Rows.getD a default).V (c9.mk x2).V < 0, [], .tup [(false, [.i .i64 (((bsN (d8.mk x0 x1).Rows (c9.mk x2) : Nat), decide (bsN (d8.mk x0 x1).Rows (c9.mk x2) < (d8.mk x0 x1).Rows.length) && y3 ((d8.mk x0 x1).Rows.getD (bsN (d8.mk x0 x1).Rows (c9.mk x2)) default).V (c9.mk x2).V == 0).1)]), (false, [.b (((bsN (d8.mk x0 x1).Rows (c9.mk x2) : Nat), decide (bsN (d8.mk x0 x1).Rows (c9.mk x2) < (d8.mk x0 x1).Rows.length) && y3 ((d8.mk x0 x1).Rows.getD (bsN (d8.mk x0 x1).Rows (c9.mk x2)) default).V (c9.mk x2).V == 0).2)])]) := f9 _ (by rintro ⟨⟨_, _⟩, ⟨_⟩⟩ ⟨⟨_, _⟩, ⟨_⟩⟩ h; simp at h; simp_all) ((d8.mk x0 x1), (c9.mk x2))
theorem b5c : OkC Tryz.prog 328 a7J := i3 _
theorem c0K {x y : List UInt8} (h : Op.bytesLess x y = true) : (y == []) = false := by
 cases y with
 | nil => cases x <;> simp [Op.bytesLess] at h
 | cons a y => rfl
theorem c8r {a b c : c6} (h1 : m9 a b = true) (h2 : m9 b c = true) : m9 a c = true := by
 unfold m9 at *
 cases ha : (a.S == []) <;> cases hb : (b.S == []) <;> cases hc : (c.S == []) <;> simp only [ha, hb, hc, Bool.and_self, Bool.and_false, Bool.false_and, Bool.and_true, cond_true, cond_false, decide_eq_true_eq] at h1 h2 ⊢
 all_goals first
  | (rw [c0K h1] at hb; exact absurd hb (by decide))
  | (rw [c0K h2] at hc; exact absurd hc (by decide))
  | omega
  | exact b0Y _ _ _ h1 h2
  | (rw [beq_iff_eq] at ha; rw [ha]; cases hcs : c.S with
      | nil => rw [hcs] at hc; cases hc
      | cons x y => rfl)
theorem c3C {a b : c6} (ha : i5 a = true) (hb : i5 b = true) (h1 : m9 a b = false) (h2 : m9 b a = false) : a = b := by
 have := b2H ha hb
 rw [h1, h2, Bool.false_or] at this
 exact c8q (by simpa using this)
abbrev okL (a : List c6) : Prop := ∀ x ∈ a, i5 x = true
theorem okL.tl {x : c6} {a : List c6} (h : okL (x :: a)) : okL a := fun y hy => h y (by simp [hy])
theorem c0s : ∀ {a b c : List c6}, okL a → okL b → okL c → a0i a b = -1 → a0i b c = -1 → a0i a c = -1
 | [], [], _, _, _, _, h, _ => by simp [a0i] at h
 | [], y :: b, [], _, _, _, _, h => by simp [a0i] at h
 | [], y :: b, z :: c, _, _, _, _, _ => rfl
 | x :: a, [], _, _, _, _, h, _ => by simp [a0i] at h
 | x :: a, y :: b, [], _, _, _, _, h => by simp [a0i] at h
 | x :: a, y :: b, z :: c, ha, hb, hc, h1, h2 => by
   have hx := ha x (by simp)
   have hy := hb y (by simp)
   have hz := hc z (by simp)
   rw [a0i] at h1 h2 ⊢
   cases e1 : m9 x y with
   | true =>
     cases e2 : m9 y z with
     | true => rw [c8r e1 e2]; rfl
     | false =>
       rw [e2, cond_false] at h2
       cases e3 : m9 z y with
       | true => rw [e3, cond_true] at h2; omega
       | false => rw [← c3C hy hz e2 e3, e1]; rfl
   | false =>
     rw [e1, cond_false] at h1
     cases e3 : m9 y x with
     | true => rw [e3, cond_true] at h1; omega
     | false =>
       rw [e3, cond_false] at h1
       have := c3C hx hy e1 e3
       subst this
       cases e2 : m9 x z with
       | true => rfl
       | false =>
         rw [e2, cond_false] at h2
         cases e4 : m9 z x with
         | true => rw [e4, cond_true] at h2; omega
         | false =>
           rw [e4, cond_false] at h2
           exact c0s ha.tl hb.tl hc.tl h1 h2
theorem b9c : ∀ {a b : List c6}, okL a → okL b → (a0i a b = 0 ↔ a = b)
 | [], [], _, _ => by simp [a0i]
 | [], y :: b, _, _ => by simp [a0i]
 | x :: a, [], _, _ => by simp [a0i]
 | x :: a, y :: b, ha, hb => by
   have ih := b9c ha.tl hb.tl
   rw [a0i]
   cases e1 : m9 x y with
   | true =>
     simp only [cond_true, List.cons.injEq]
     refine ⟨fun h => by omega, fun h => ?_⟩
     have h3 := b2H (ha x (by simp)) (hb y (by simp))
     rw [← h.1] at e1 h3
     rw [e1] at h3; simp at h3
   | false =>
     cases e2 : m9 y x with
     | true =>
       simp only [cond_true, cond_false, List.cons.injEq]
       refine ⟨fun h => by omega, fun h => ?_⟩
       rw [h.1] at e1 e2; rw [e1] at e2; cases e2
     | false =>
       have := c3C (ha x (by simp)) (hb y (by simp)) e1 e2
       subst this
       simpa using ih
theorem c3z {r : d8} (h : w7 r = true) : ∀ {b a : Nat}, a < b → b < r.Rows.length → a0i (r.Rows.getD a default).V (r.Rows.getD b default).V = -1 := by
 have hN : ∀ i, i < r.Rows.length → y6 r i = false := by
  intro i hi
  simp only [w7, Bool.and_eq_true, Bool.not_eq_true'] at h
  exact a3I h.2 hi
 have hO : ∀ i, i < r.Rows.length → okL (r.Rows.getD i default).V := fun i hi => u2 (a1k (hN i hi))
 intro b
 induction b with
 | zero => intro a h; omega
 | succ b ih =>
   intro a hab hb
   have hs : a0i (r.Rows.getD b default).V (r.Rows.getD (b + 1) default).V = -1 := by
    have := hN (b + 1) hb
    simp only [y6, Bool.or_eq_false_iff, Nat.zero_lt_succ, decide_true, Bool.true_and, Bool.not_eq_false', beq_iff_eq, Nat.add_sub_cancel] at this
    exact this.2
   rcases Nat.lt_succ_iff_lt_or_eq.1 hab with h1 | rfl
   ·exact c0s (hO a (by omega)) (hO b (by omega)) (hO _ hb) (ih h1 (by omega)) hs
   ·exact hs
theorem a2A {r : d8} (h : w7 r = true) {i : Nat} (hi : i < r.Rows.length) : okL (r.Rows.getD i default).V := by
 simp only [w7, Bool.and_eq_true, Bool.not_eq_true'] at h
 exact u2 (a1k (a3I h.2 hi))
theorem b9s {a b : List c6} (ha : okL a) (hb : okL b) : y3 a b < 0 ↔ a0i a b = -1 := by
 have h := b0Z ha hb
 unfold sgn at h
 omega
theorem b9r {a b : List c6} (ha : okL a) (hb : okL b) : y3 a b = 0 ↔ a = b := by
 have h := b0Z ha hb
 rw [← b9c ha hb]
 unfold sgn at h
 omega
theorem c8j {r : d8} (h : w7 r = true) {t : c9} (ht : a0a t = true) : ∀ a b, a ≤ b → b < r.Rows.length → y3 (r.Rows.getD b default).V t.V < 0 → y3 (r.Rows.getD a default).V t.V < 0 := by
 intro a b hab hb hl
 rcases Nat.lt_or_eq_of_le hab with h1 | rfl
 ·rw [b9s (a2A h hb) (u2 ht)] at hl
  rw [b9s (a2A h (by omega)) (u2 ht)]
  exact c0s (a2A h (by omega)) (a2A h hb) (u2 ht) (c3z h h1 hb) hl
 ·exact hl
theorem rel_has {r : d8} (h : w7 r = true) {t : c9} (ht : a0a t = true) : (decide (bsN r.Rows t < r.Rows.length) && y3 (r.Rows.getD (bsN r.Rows t) default).V t.V == 0) = a0t r.Rows t := by
 rw [Bool.eq_iff_iff]
 constructor
 ·intro hh
  simp only [Bool.and_eq_true, decide_eq_true_eq, beq_iff_eq] at hh
  exact any_true (p := fun x : c9 => decide (x.V = t.V)) (d := default) hh.1 (decide_eq_true ((b9r (a2A h hh.1) (u2 ht)).1 hh.2))
 ·intro hh
  rw [a0t, List.any_eq_true] at hh
  obtain ⟨x, hx, he⟩ := hh
  obtain ⟨k, hk, rfl⟩ := List.getElem_of_mem hx
  rw [decide_eq_true_eq] at he
  have hg := k9 (l := r.Rows) default hk
  have e : bsN r.Rows t = k := by
   refine a3R (fun j hj => ?_) ?_ hk
   ·refine decide_eq_false ?_
    have := (b9s (a2A h (show j < r.Rows.length by omega)) (u2 ht)).2 (by
     have := c3z h hj hk
     rw [hg, he] at this; exact this)
    omega
   ·refine decide_eq_true ?_
    rw [hg, (b9r (by rw [← hg]; exact a2A h hk) (u2 ht)).2 he]; omega
  rw [e, decide_eq_true hk, hg, (b9r (by rw [← hg]; exact a2A h hk) (u2 ht)).2 he]; rfl
def b2N : ACode := q' ([o' 2 (.box 2 (.t 0)), o' 3 (.box 1 (.t 1)), b' 4 false]) (q' ([e' 8 2 2, e' 9 1 3, c' 10 328 [8, 9], m' 7 10, o' 11 (.ext (.t 7) 0), o' 12 (.ext (.t 7) 1),
 m' 5 11, m' 6 12]) (q' ([m' 13 6, m' 4 13]) .ret))
theorem c1k : cmp Tryz.prog Tryz.f282 = some b2N := by kernel_rfl
theorem c3w (r : d8) (t : c9) (hpre : w7 r = true ∧ a0a t = true) : A0m Tryz.prog 282 [(true, [.i .i64 r.Arity, .sl false [.sl false [.i .i64 0, .s []] []] (r.Rows.map (c9.cells false false))]), (true, [.sl false [.i .i64 0, .s []] (t.V.map c6.cells)])] [] (.one (false, [.b (a0t r.Rows t)])) := by
 refine spec_of2 false false none Tryz.func282 c1k (rvs := [.t 4]) (hΓ := mkCtx_ok (deep := false) (l := [(328, [], a7J)]) ⟨b5c, trivial⟩) (h := ?_)
 intro hb hE
 simp only [go_sem] at hb
 simp only [b2N, x']
 obtain ⟨hR, hT⟩ := hpre
 (try refine A2Z ?_); simp only [go_sem]; (repeat' first | apply CJ.mk | intro hc); all_goals try ((repeat' first | apply And.intro | intro hs) <;> (try simp only [go_sem, Bool.and_eq_false_iff] at hs) <;> omega)
 ·exact ⟨by have := b2E hR; omega, c8j hR hT⟩
 ·exact rel_has hR hT
noncomputable def a9g : CT := l8 (fun (x : d8 × c9) h => c3w x.1 x.2 h)
@[go_sem] theorem c8B (x0 : Int) (x1 : List c9) (x2 : List c6) : a9g [(true, [.i .i64 x0, .sl false [.sl false [.i .i64 0, .s []] []] (x1.map (c9.cells false false))]), (true, [.sl false [.i .i64 0, .s []] (x2.map c6.cells)])] = some (w7 (d8.mk x0 x1) = true ∧ a0a (c9.mk x2) = true, [], .one (false, [.b (a0t (d8.mk x0 x1).Rows (c9.mk x2))])) := f9 _ (by rintro ⟨⟨_, _⟩, ⟨_⟩⟩ ⟨⟨_, _⟩, ⟨_⟩⟩ h; simp at h; simp_all) ((d8.mk x0 x1), (c9.mk x2))
theorem b7n : OkC Tryz.prog 282 a9g := i3 _
end Go.Aw
