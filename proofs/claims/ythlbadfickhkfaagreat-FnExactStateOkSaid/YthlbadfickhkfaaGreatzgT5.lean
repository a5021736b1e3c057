/- Rows, relations, stores. No condition. -/
import Derived.Test.YthlbadfickhkfaaGreatzgG3
import Derived.Test.YthlbadfickhkfaaGreatzgG8
import Derived.Test.YthlbadfickhkfaaGreathBwtzg
import Derived.Test.YthlbadfickhkfaaGreathMx1zg
namespace Go.Aw
open Go.Proofs
attribute [local irreducible] aft blk lpK retK AW A0l
set_option linter.unusedVariables false
set_option linter.unusedSimpArgs false
set_option maxRecDepth 100000
theorem p6 {α : Type} {l : List α} {i : Nat} (d : α) (h : i < l.length) : l.drop i = l.getD i d :: l.drop (i + 1) := by
 rw [m0 d h]; exact List.drop_eq_getElem_cons h
def a2q (r : d6) : Bool := decide ((r.V.length : Int) ≤ 6) && r.V.all j4
def a9e : List c9 → List c9 → Int
 | [], [] => 0
 | [], _ :: _ => -1
 | _ :: _, [] => 1
 | x :: a, y :: b => bif a0L x y then -1 else bif a0L y x then 1 else a9e a b
def a7Z : List c9 → List c9 → Int
 | [], [] => 0
 | [], _ :: _ => -1
 | _ :: _, [] => 1
 | x :: a, y :: b => if p8 x y = 0 then a7Z a b else p8 x y
def a5t (a b : d6) : Int := bif a2q a && a2q b then a9e a.V b.V else 2
def y6 (r : d9) (i : Nat) : Bool := !((r.Rows.getD i default).V.length == r.Arity) || !a2q (r.Rows.getD i default) || decide (0 < i) && !(a9e (r.Rows.getD (i - 1) default).V (r.Rows.getD i default).V == -1)
def a7d (r : d9) : Bool := decide (0 ≤ r.Arity) && decide (r.Arity ≤ 6) && decide ((r.Rows.length : Int) ≤ 300) && !a7e r.Rows.length (y6 r)
def a0i (l : List d4) (i : Nat) : Bool := !a0N (l.getD i default).Name || !a7d (l.getD i default).Rel || decide (0 < i) && !Op.bytesLess (l.getD (i - 1) default).Name (l.getD i default).Name
def a1z (s : d8) : Bool := decide ((s.Rels.length : Int) ≤ 24) && !a7e s.Rels.length (a0i s.Rels)
theorem a1D {α : Type} {l : List α} {i : Nat} (h : l.length ≤ i) : l.drop i = [] := List.drop_eq_nil_of_le h
theorem c8J {a b : List c9} {i : Nat} (hi : i ≤ a.length) (hj : i ≤ b.length) (h : ¬ (i < a.length ∧ i < b.length)) : a9e (a.drop i) (b.drop i) = if a.length < b.length then -1 else if b.length < a.length then 1 else 0 := by
 by_cases h1 : a.length < b.length
 ·rw [if_pos h1, a1D (show a.length ≤ i by omega), p6 (l := b) default (by omega)]; rfl
 ·rw [if_neg h1]
  by_cases h2 : b.length < a.length
  ·rw [if_pos h2, a1D (show b.length ≤ i by omega), p6 (l := a) default (by omega)]; rfl
  ·rw [if_neg h2, a1D (show a.length ≤ i by omega), a1D (show b.length ≤ i by omega)]; rfl
theorem b5J {a b : List c9} {i : Nat} (hi : i ≤ a.length) (hj : i ≤ b.length) (h : ¬ (i < a.length ∧ i < b.length)) : a7Z (a.drop i) (b.drop i) = if a.length < b.length then -1 else if b.length < a.length then 1 else 0 := by
 by_cases h1 : a.length < b.length
 ·rw [if_pos h1, a1D (show a.length ≤ i by omega), p6 (l := b) default (by omega)]; rfl
 ·rw [if_neg h1]
  by_cases h2 : b.length < a.length
  ·rw [if_pos h2, a1D (show b.length ≤ i by omega), p6 (l := a) default (by omega)]; rfl
  ·rw [if_neg h2, a1D (show a.length ≤ i by omega), a1D (show b.length ≤ i by omega)]; rfl
theorem c2r : ∀ {a b : List c9}, (∀ x ∈ a, j4 x = true) → (∀ x ∈ b, j4 x = true) → sgn (a7Z a b) = a9e a b
 | [], [], _, _ => by decide
 | [], _ :: _, _, _ => by simp only [a7Z, a9e]; decide
 | _ :: _, [], _, _ => by simp only [a7Z, a9e]; decide
 | x :: a, y :: b, ha, hb => by
   have h := c2s (ha x (by simp)) (hb y (by simp))
   have ih := c2r (a := a) (b := b) (fun z hz => ha z (by simp [hz])) (fun z hz => hb z (by simp [hz]))
   rw [a7Z, a9e]
   unfold vCmp at h
   split
   ·rename_i h0
    rw [h0] at h
    cases h1 : a0L x y with
    | true => rw [h1, cond_true] at h; unfold sgn at h; omega
    | false =>
      cases h2 : a0L y x with
      | true => rw [h1, h2, cond_true, cond_false] at h; unfold sgn at h; omega
      | false => exact ih
   ·rename_i h0
    cases h1 : a0L x y with
    | true => rw [h1] at h; exact h
    | false =>
      cases h2 : a0L y x with
      | true => rw [h1, h2] at h; exact h
      | false => rw [h1, h2] at h; unfold sgn at h; simp only [cond_false] at h; omega
def a6W : ACode := q' ([o' 2 (.box 2 (.t 0)), o' 3 (.box 2 (.t 1)), b' 4 false]) (.seq (q' ([f' 5 1 2, l' 6 5, o' 7 (.bin .eql (.t 6) (.k (.v false [.c (.s [])]))), m' 8 7, ⟨some
 9, .fa 1 (.t 3), some (8, true)⟩, ⟨some 10, .ld false 1 (.t 9), some (8, true)⟩, ⟨some 11, .bin .eql (.t 10) (.k (.v false [.c (.s [])])), some (8, true)⟩, o'
 12 (.pick (.t 8) (.t 11) (.k (.v false [.c (.b false)])))]) (.cond (.t 12) (q' ([f' 13 0 2, l' 14 13, f' 15 0 3, l' 16 15, r' 17 14 16, m' 4 17]) .ret)
 .skip)) (q' ([f' 18 1 2, l' 19 18, f' 20 1 3, l' 21 20, r' 22 19 21, m' 4 22]) .ret))
theorem b4V : cmp Tryz.prog Tryz.f322 = some a6W := by kernel_rfl
theorem b7C (a : c9) (b : c9) : A0l Tryz.prog 322 [(true, [.i .i64 a.N, .s a.S]), (true, [.i .i64 b.N, .s b.S])] [] (.one (false, [.b (a0L a b)])) := by
 refine spec_of2 false false none Tryz.func322 b4V (rvs := [.t 4]) (hΓ := mkCtx_ok (deep := false) (l := []) trivial) (h := ?_)
 intro hb hE
 simp only [go_sem] at hb
 simp only [a6W, x']
 (try refine A2V ?_); simp only [go_sem]; (repeat' first | apply CJ.mk | intro hc); all_goals try ((repeat' first | apply And.intro | intro hs) <;> (try simp only [go_sem, Bool.and_eq_false_iff] at hs) <;> omega)
 ·rw [a0L, hc.1, hc.2]; rfl
 ·rw [a0L, hc]; rfl
noncomputable def a3q : CT := i5 (fun (x : c9 × c9) => b7C x.1 x.2)
@[go_sem] theorem c5g (x0 : Int) (x1 : List UInt8) (x2 : Int) (x3 : List UInt8) : a3q [(true, [.i .i64 x0, .s x1]), (true, [.i .i64 x2, .s x3])] = some (True, [], .one (false, [.b (a0L (c9.mk x0 x1) (c9.mk x2 x3))])) := f7 _ (by rintro ⟨⟨_, _⟩, ⟨_, _⟩⟩ ⟨⟨_, _⟩, ⟨_, _⟩⟩ h; simp at h; simp_all) ((c9.mk x0 x1), (c9.mk x2 x3))
theorem b1s : OkC Tryz.prog 322 a3q := f8 _
def a4R : ACode := q' ([o' 2 (.box 1 (.t 0)), o' 3 (.box 1 (.t 1)), z' 4 0]) (.seq (q' ([z' 5 0]) (.block 0 (.loop (.seq (q' ([m' 6 5, f' 7 0 2, l' 8 7, n' 9 8, r' 10 6 9, m' 11
 10, ⟨some 12, .mov (.t 5), some (11, true)⟩, ⟨some 13, .fa 0 (.t 3), some (11, true)⟩, ⟨some 14, .ld false 1 (.t 13), some (11, true)⟩, ⟨some 15, .len (.t
 14), some (11, true)⟩, ⟨some 16, .bin .lss (.t 12) (.t 15), some (11, true)⟩, o' 17 (.pick (.t 11) (.t 16) (.k (.v false [.c (.b false)])))]) (.cond (.t 17)
 .skip (.exit 0))) (.seq (.block 1 (.seq (.seq (.reg true [f' 20 0 2, l' 21 20, m' 22 5, i' 23 2 21 22, e' 24 2 23, f' 25 0 3, l' 26 25, m' 27 5, i' 28 2 26
 27, e' 29 2 28, c' 30 322 [24, 29]]) (.cond (.t 30) (q' ([o' 4 (.mov (.k (.v false [.c (.i .i64 (-1))])))]) .ret) .skip)) (.seq (.reg true [f' 31 0 3, l' 32
 31, m' 33 5, i' 34 2 32 33, e' 35 2 34, f' 36 0 2, l' 37 36, m' 38 5, i' 39 2 37 38, e' 40 2 39, c' 41 322 [35, 40]]) (.cond (.t 41) (q' ([z' 4 1]) .ret)
 .skip)))) (g' [m' 18 5, a' 19 18, m' 5 19])))))) (.seq (q' ([f' 42 0 2, l' 43 42, n' 44 43, f' 45 0 3, l' 46 45, n' 47 46, r' 48 44 47]) (.cond (.t 48) (q'
 ([o' 4 (.mov (.k (.v false [.c (.i .i64 (-1))])))]) .ret) .skip)) (.seq (q' ([f' 49 0 2, l' 50 49, n' 51 50, f' 52 0 3, l' 53 52, n' 54 53, o' 55 (.bin .gtr
 (.t 51) (.t 54))]) (.cond (.t 55) (q' ([z' 4 1]) .ret) .skip)) (q' ([z' 4 0]) .ret))))
theorem b3c : cmp Tryz.prog Tryz.f291 = some a4R := by kernel_rfl
theorem b5n (a : d6) (b : d6) : A0l Tryz.prog 291 [(true, [.sl false [.i .i64 0, .s []] (a.V.map c9.cells)]), (true, [.sl false [.i .i64 0, .s []] (b.V.map c9.cells)])] [] (.one (false, [.i .i64 (a9e a.V b.V)])) := by
 refine spec_of2 false false none Tryz.func291 b3c (rvs := [.t 4]) (hΓ := mkCtx_ok (deep := false) (l := [(322, [], a3q)]) ⟨b1s, trivial⟩) (h := ?_)
 intro hb hE
 simp only [go_sem] at hb
 simp only [a4R, x']
 (try refine A2V ?_); simp only [go_sem]; (repeat' first | apply CJ.mk | intro hc); all_goals try ((repeat' first | apply And.intro | intro hs) <;> (try simp only [go_sem, Bool.and_eq_false_iff] at hs) <;> omega)
 refine aw_loop2 false [] [2, 3] [4, 6] [] (fun i : {i : Nat // i ≤ a.V.length ∧ i ≤ b.V.length ∧ a9e (a.V.drop i) (b.V.drop i) = a9e a.V b.V} => [(5, slV (.i .i64 i.1))]) (fun i => []) (fun i => []) (fun i => a.V.length - i.1) (⟨0, by simp⟩) _ rfl ?_ ?_
 ·simp only [go_sem]
  all_goals first | omega | ((repeat' apply And.intro) <;> first | omega | rfl | skip)
 intro S0 hS0 i
 simp only [go_sem] at hS0
 obtain ⟨i, hi, hj, he⟩ := i
 (try refine A2V ?_); simp only [go_sem, hS0]; (repeat' first | apply CJ.mk | intro hc); all_goals try ((repeat' first | apply And.intro | intro hs) <;> (try simp only [go_sem, Bool.and_eq_false_iff] at hs) <;> omega)
 ·rw [← he, p6 (l := a.V) default (by omega), p6 (l := b.V) default (by omega), a9e, hc]; rfl
 ·rename_i h1
  rw [← he, p6 (l := a.V) default (by omega), p6 (l := b.V) default (by omega), a9e, h1, hc]; rfl
 ·rename_i h1
  have h2 := he
  rw [p6 (l := a.V) default (by omega), p6 (l := b.V) default (by omega), a9e, h1, hc] at h2
  (refine lpK_n2 (⟨i + 1, by omega, by omega, h2⟩) _ rfl ?_; simp only [go_sem, hS0]; first | done | ((repeat' apply And.intro) <;> first | omega | (refine w64 ?_ ?_ ?_ <;> omega) | rfl | skip))
 all_goals have q : (decide ((i : Int) < a.V.length) && decide ((i : Int) < b.V.length)) = false := by assumption
 all_goals rw [Bool.and_eq_false_iff, decide_eq_false_iff_not, decide_eq_false_iff_not] at q
 all_goals rw [← he, c8J hi hj (by omega)]
 ·rw [if_pos (by omega)]
 ·rw [if_neg (by omega), if_pos (by omega)]
 ·rw [if_neg (by omega), if_neg (by omega)]
noncomputable def a1U : CT := i5 (fun (x : d6 × d6) => b5n x.1 x.2)
@[go_sem] theorem c3G (x0 x1 : List c9) : a1U [(true, [.sl false [.i .i64 0, .s []] (x0.map c9.cells)]), (true, [.sl false [.i .i64 0, .s []] (x1.map c9.cells)])] = some (True, [], .one (false, [.i .i64 (a9e (d6.mk x0).V (d6.mk x1).V)])) := f7 _ (by rintro ⟨⟨_⟩, ⟨_⟩⟩ ⟨⟨_⟩, ⟨_⟩⟩ h; simp at h; simp_all) ((d6.mk x0), (d6.mk x1))
theorem a9Z : OkC Tryz.prog 291 a1U := f8 _
def a9x : ACode := q' ([o' 1 (.box 1 (.t 0)), b' 2 false]) (.seq (q' ([f' 5 0 1, l' 6 5, n' 7 6, o' 8 (.bin .gtr (.t 7) (k' 6))]) (.cond (.t 8) (q' ([b' 2 false]) .ret) .skip))
 (.seq (q' ([f' 9 0 1, l' 10 9, n' 11 10, z' 12 0]) (.block 0 (.loop (q' ([r' 13 12 11]) (.seq (.cond (.t 13) .skip (.exit 0)) (.seq (.block 1 (q' ([i' 14 2 10
 12, e' 15 2 14, w' 4 [.i .i64, .s], s' 2 4 15]) (q' ([e' 16 2 4, c' 17 242 [16], o' 18 (.not (.t 17))]) (.cond (.t 18) (q' ([b' 2 false]) .ret) .skip)))) (g'
 [a' 19 12, m' 12 19]))))))) (q' ([b' 2 true]) .ret)))
theorem b8w : cmp Tryz.prog Tryz.f159 = some a9x := by kernel_rfl
theorem c0R (r : d6) : A0l Tryz.prog 159 [(true, [.sl false [.i .i64 0, .s []] (r.V.map c9.cells)])] [] (.one (false, [.b (a2q r)])) := by
 refine spec_of2 false false none Tryz.func159 b8w (rvs := [.t 2]) (hΓ := mkCtx_ok (deep := false) (l := [(242, [], a0E)]) ⟨a3Z, trivial⟩) (h := ?_)
 intro hb hE
 simp only [go_sem] at hb
 simp only [a9x, x']
 (try refine A2V ?_); simp only [go_sem]; (repeat' first | apply CJ.mk | intro hc); all_goals try ((repeat' first | apply And.intro | intro hs) <;> (try simp only [go_sem, Bool.and_eq_false_iff] at hs) <;> omega)
 ·rw [a2q, decide_eq_false (by omega)]; rfl
 have h6 : ((r.V.length : Int)) ≤ 6 := by omega
 refine aw_loop2 false [] [10, 11] [] [] (fun i : {i : Nat // i ≤ r.V.length ∧ (r.V.take i).all j4 = true} => [(12, slV (.i .i64 i.1))]) (fun i => []) (fun i => []) (fun i => r.V.length - i.1) (⟨0, by simp⟩) _ rfl ?_ ?_
 ·simp only [go_sem]
  all_goals first | omega | ((repeat' apply And.intro) <;> first | omega | rfl | skip)
 intro S0 hS0 i
 simp only [go_sem] at hS0
 obtain ⟨i, hi, ha⟩ := i
 (try refine A2V ?_); simp only [go_sem, hS0]; (repeat' first | apply CJ.mk | intro hc); all_goals try ((repeat' first | apply And.intro | intro hs) <;> (try simp only [go_sem, Bool.and_eq_false_iff] at hs) <;> omega)
 ·rw [a2q, all_false (d := default) (i := i) (by omega) hc, Bool.and_false]
 ·(refine lpK_n2 (⟨i + 1, by omega, a5b default (by omega) ha hc⟩) _ rfl ?_; simp only [go_sem, hS0]; first | done | ((repeat' apply And.intro) <;> first | omega | (refine w64 ?_ ?_ ?_ <;> omega) | rfl | skip))
 ·rw [i3 (by omega)] at ha
  rw [a2q, ha, decide_eq_true h6]; rfl
noncomputable def a2u : CT := i5 (fun (x : d6) => c0R x)
@[go_sem] theorem c7K (x0 : List c9) : a2u [(true, [.sl false [.i .i64 0, .s []] (x0.map c9.cells)])] = some (True, [], .one (false, [.b (a2q (d6.mk x0))])) := f7 _ (by rintro ⟨_⟩ ⟨_⟩ h; simp at h; simp_all) (d6.mk x0)
theorem a7b : OkC Tryz.prog 159 a2u := f8 _
def a6p : ACode := q' ([o' 1 (.box 2 (.t 0)), b' 2 false]) (q' ([e' 3 2 1, c' 4 245 [3], o' 5 (.not (.t 4)), m' 2 5]) .ret)
theorem b4o : cmp Tryz.prog Tryz.f244 = some a6p := by kernel_rfl
theorem b6V (v : c9) : A0l Tryz.prog 244 [(true, [.i .i64 v.N, .s v.S])] [] (.one (false, [.b (!j4 v)])) := by
 refine spec_of2 false false none Tryz.func244 b4o (rvs := [.t 2]) (hΓ := mkCtx_ok (deep := false) (l := [(245, [], a0t)]) ⟨a3Q, trivial⟩) (h := ?_)
 intro hb hE
 simp only [go_sem] at hb
 simp only [a6p, x']
 (try refine A2V ?_); simp only [go_sem]; (repeat' first | apply CJ.mk | intro hc); all_goals try ((repeat' first | apply And.intro | intro hs) <;> (try simp only [go_sem, Bool.and_eq_false_iff] at hs) <;> omega)
noncomputable def a2Q : CT := i5 (fun (x : c9) => b6V x)
@[go_sem] theorem c4z (x0 : Int) (x1 : List UInt8) : a2Q [(true, [.i .i64 x0, .s x1])] = some (True, [], .one (false, [.b (!j4 (c9.mk x0 x1))])) := f7 _ (by rintro ⟨_, _⟩ ⟨_, _⟩ h; simp at h; simp_all) (c9.mk x0 x1)
theorem b0S : OkC Tryz.prog 244 a2Q := f8 _
def b9n : ACode := q' ([z' 4 0]) (.seq (q' ([m' 6 0, n' 7 6, z' 8 0]) (.block 0 (.loop (q' ([r' 9 8 7]) (.seq (.cond (.t 9) .skip (.exit 0)) (.seq (.block 1 (q' ([m' 10 8, m' 5
 10]) (q' ([m' 11 1, m' 12 0, m' 13 5, i' 14 2 12 13, e' 15 2 14, o' 16 (.callv (.t 11) [.t 15])]) (.cond (.t 16) (q' ([m' 17 5, m' 4 17]) .ret) .skip)))) (g'
 [a' 18 8, m' 8 18]))))))) (q' ([o' 4 (.mov (.k (.v false [.c (.i .i64 (-1))])))]) .ret))
theorem c6P : cmp Tryz.prog Tryz.f246 = some b9n := by kernel_rfl
theorem c4h (l : List c9) : A0l Tryz.prog 246 [(false, [.sl false [.i .i64 0, .s []] (l.map c9.cells)]), (false, [.f 244 []])] [] (.one (false, [.i .i64 (y3 (fun y => !j4 y) l)])) := by
 refine spec_of2 false false none Tryz.func246 c6P (rvs := [.t 4]) (hΓ := mkCtx_ok (deep := false) (l := [(244, [], a2Q)]) ⟨b0S, trivial⟩) (h := ?_)
 intro hb hE
 simp only [go_sem] at hb
 simp only [b9n, x']
 (try refine A2V ?_); simp only [go_sem]; (repeat' first | apply CJ.mk | intro hc); all_goals try ((repeat' first | apply And.intro | intro hs) <;> (try simp only [go_sem, Bool.and_eq_false_iff] at hs) <;> omega)
 refine aw_loop2 false [] [0, 1, 7] [] [] (fun i : {i : Nat // i ≤ l.length ∧ (l.take i).any (fun y => !j4 y) = false} => [(8, slV (.i .i64 i.1))]) (fun i => []) (fun i => []) (fun i => l.length - i.1) (⟨0, by simp⟩) _ rfl ?_ ?_
 ·simp only [go_sem]
  all_goals first | omega | ((repeat' apply And.intro) <;> first | omega | rfl | skip)
 intro S0 hS0 i
 simp only [go_sem] at hS0
 obtain ⟨i, hi, ha⟩ := i
 (try refine A2V ?_); simp only [go_sem, hS0]; (repeat' first | apply CJ.mk | intro hc); all_goals try ((repeat' first | apply And.intro | intro hs) <;> (try simp only [go_sem, Bool.and_eq_false_iff] at hs) <;> omega)
 ·exact (n9 (p := fun y => !j4 y) (d := default) (by omega) ha (by simpa [-List.getD_eq_getElem?_getD] using hc)).symm
 ·(refine lpK_n2 (⟨i + 1, by omega, k7 (p := fun y => !j4 y) default (by omega) ha (by simpa [-List.getD_eq_getElem?_getD] using hc)⟩) _ rfl ?_; simp only [go_sem, hS0]; first | done | ((repeat' apply And.intro) <;> first | omega | (refine w64 ?_ ?_ ?_ <;> omega) | rfl | skip))
 ·exact (n8 (by rwa [i3 (by omega)] at ha)).symm
 all_goals trace_state
noncomputable def a9L : CT := i5 (fun (x : (List c9)) => c4h x)
@[go_sem] theorem c8U (l : List c9) : a9L [(false, [.sl false [.i .i64 0, .s []] (l.map c9.cells)]), (false, [.f 244 []])] = some (True, [], .one (false, [.i .i64 (y3 (fun y => !j4 y) l)])) := f7 _ (by intro x y h; simp at h; simp_all) l
theorem b8c : OkC Tryz.prog 246 a9L := f8 _
def b9m : ACode := q' ([b' 4 false]) (q' ([m' 5 0, m' 6 1, c' 7 246 [5, 6], o' 8 (.bin .geq (.t 7) (k' 0)), m' 4 8]) .ret)
theorem c6O : cmp Tryz.prog Tryz.f164 = some b9m := by kernel_rfl
theorem c4g (l : List c9) : A0l Tryz.prog 164 [(false, [.sl false [.i .i64 0, .s []] (l.map c9.cells)]), (false, [.f 244 []])] [] (.one (false, [.b (l.any (fun y => !j4 y))])) := by
 refine spec_of2 false false none Tryz.func164 c6O (rvs := [.t 4]) (hΓ := mkCtx_ok (deep := false) (l := [(246, [], a9L)]) ⟨b8c, trivial⟩) (h := ?_)
 intro hb hE
 simp only [go_sem] at hb
 simp only [b9m, x']
 (try refine A2V ?_); simp only [go_sem]; (repeat' first | apply CJ.mk | intro hc); all_goals try ((repeat' first | apply And.intro | intro hs) <;> (try simp only [go_sem, Bool.and_eq_false_iff] at hs) <;> omega)
 ·exact a0d _ _
noncomputable def a9K : CT := i5 (fun (x : (List c9)) => c4g x)
@[go_sem] theorem c8T (l : List c9) : a9K [(false, [.sl false [.i .i64 0, .s []] (l.map c9.cells)]), (false, [.f 244 []])] = some (True, [], .one (false, [.b (l.any (fun y => !j4 y))])) := f7 _ (by intro x y h; simp at h; simp_all) l
theorem b8b : OkC Tryz.prog 164 a9K := f8 _
def a9i : ACode := q' ([o' 1 (.box 1 (.t 0)), b' 2 false]) (q' ([f' 3 0 1, l' 4 3, n' 5 4, o' 6 (.bin .leq (.t 5) (k' 6)), m' 7 6, ⟨some 8, .fa 0 (.t 1), some (7, true)⟩, ⟨some 9,
 .ld false 1 (.t 8), some (7, true)⟩, ⟨some 10, .call 164 [.t 9, .k (.v false [.c (.f 244 [])])], some (7, true)⟩, ⟨some 11, .not (.t 10), some (7, true)⟩, o'
 12 (.pick (.t 7) (.t 11) (.k (.v false [.c (.b false)]))), m' 2 12]) .ret)
theorem b8h : cmp Tryz.prog Tryz.f162 = some a9i := by kernel_rfl
theorem c0C (r : d6) : A0l Tryz.prog 162 [(true, [.sl false [.i .i64 0, .s []] (r.V.map c9.cells)])] [] (.one (false, [.b (a2q r)])) := by
 refine spec_of2 false false none Tryz.func162 b8h (rvs := [.t 2]) (hΓ := mkCtx_ok (deep := false) (l := [(164, [], a9K)]) ⟨b8b, trivial⟩) (h := ?_)
 intro hb hE
 simp only [go_sem] at hb
 simp only [a9i, x']
 (try refine A2V ?_); simp only [go_sem]; (repeat' first | apply CJ.mk | intro hc); all_goals try ((repeat' first | apply And.intro | intro hs) <;> (try simp only [go_sem, Bool.and_eq_false_iff] at hs) <;> omega)
 all_goals rw [a8F, Bool.not_not, a2q]
noncomputable def a5N : CT := i5 (fun (x : d6) => c0C x)
@[go_sem] theorem c7v (x0 : List c9) : a5N [(true, [.sl false [.i .i64 0, .s []] (x0.map c9.cells)])] = some (True, [], .one (false, [.b (a2q (d6.mk x0))])) := f7 _ (by rintro ⟨_⟩ ⟨_⟩ h; simp at h; simp_all) (d6.mk x0)
theorem b3X : OkC Tryz.prog 162 a5N := f8 _
def b5B : ACode := q' ([z' 6 0]) (.seq (q' ([m' 11 0, n' 12 11, z' 13 0]) (.block 0 (.loop (q' ([r' 14 13 12]) (.seq (.cond (.t 14) .skip (.exit 0)) (.seq (.block 1 (q' ([m' 15
 13, i' 16 2 11 13, e' 17 2 16, w' 8 [.i .i64, .s], m' 7 15, s' 2 8 17]) (.seq (q' ([m' 18 7, m' 19 1, n' 20 19, o' 21 (.bin .geq (.t 18) (.t 20))]) (.cond (.t
 21) (q' ([z' 6 1]) .ret) .skip)) (q' ([m' 22 1, m' 23 7, i' 24 2 22 23, e' 25 2 24, w' 9 [.i .i64, .s], s' 2 9 25]) (q' ([m' 26 2, e' 27 2 8, e' 28 2 9, o' 29
 (.callv (.t 26) [.t 27, .t 28]), m' 10 29]) (q' ([m' 30 10, o' 31 (.bin .neq (.t 30) (k' 0))]) (.cond (.t 31) (q' ([m' 32 10, m' 6 32]) .ret) .skip))))))) (g'
 [a' 33 13, m' 13 33]))))))) (.seq (q' ([m' 34 0, n' 35 34, m' 36 1, n' 37 36, r' 38 35 37]) (.cond (.t 38) (q' ([o' 6 (.mov (.k (.v false [.c (.i .i64
 (-1))])))]) .ret) .skip)) (q' ([z' 6 0]) .ret)))
theorem c3Y : cmp Tryz.prog Tryz.f319 = some b5B := by kernel_rfl
theorem c6R (a : List c9) (b : List c9) : A0l Tryz.prog 319 [(false, [.sl false [.i .i64 0, .s []] (a.map c9.cells)]), (false, [.sl false [.i .i64 0, .s []] (b.map c9.cells)]), (false, [.f 287 []])] [] (.one (false, [.i .i64 (a7Z a b)])) := by
 refine spec_of2 false false none Tryz.func319 c3Y (rvs := [.t 6]) (hΓ := mkCtx_ok (deep := false) (l := [(287, [], a2U)]) ⟨b0W, trivial⟩) (h := ?_)
 intro hb hE
 simp only [go_sem] at hb
 simp only [b5B, x']
 (try refine A2V ?_); simp only [go_sem]; (repeat' first | apply CJ.mk | intro hc); all_goals try ((repeat' first | apply And.intro | intro hs) <;> (try simp only [go_sem, Bool.and_eq_false_iff] at hs) <;> omega)
 refine aw_loop2 false [] [0, 1, 2, 11, 12] [] [] (fun i : {i : Nat // i ≤ a.length ∧ i ≤ b.length ∧ a7Z (a.drop i) (b.drop i) = a7Z a b} => [(13, slV (.i .i64 i.1))]) (fun i => []) (fun i => []) (fun i => a.length - i.1) (⟨0, by simp⟩) _ rfl ?_ ?_
 ·simp only [go_sem]
  all_goals first | omega | ((repeat' apply And.intro) <;> first | omega | rfl | skip)
 intro S0 hS0 i
 simp only [go_sem] at hS0
 obtain ⟨i, hi, hj, he⟩ := i
 (try refine A2V ?_); simp only [go_sem, hS0]; (repeat' first | apply CJ.mk | intro hc); all_goals try ((repeat' first | apply And.intro | intro hs) <;> (try simp only [go_sem, Bool.and_eq_false_iff] at hs) <;> omega)
 ·rw [← he, b5J hi hj (by omega), if_neg (by omega), if_pos (by omega)]
 ·rw [← he, p6 (l := a) default (by omega), p6 (l := b) default (by omega), a7Z, if_neg (by simpa using hc)]
 ·have h2 := he
  rw [p6 (l := a) default (by omega), p6 (l := b) default (by omega), a7Z, if_pos (by simpa using hc)] at h2
  (refine lpK_n2 (⟨i + 1, by omega, by omega, h2⟩) _ rfl ?_; simp only [go_sem, hS0]; first | done | ((repeat' apply And.intro) <;> first | omega | (refine w64 ?_ ?_ ?_ <;> omega) | rfl | skip))
 ·rw [← he, b5J hi hj (by omega), if_pos (by omega)]
 ·rw [← he, b5J hi hj (by omega), if_neg (by omega), if_neg (by omega)]
noncomputable def b2j : CT := i5 (fun (x : (List c9) × (List c9)) => c6R x.1 x.2)
@[go_sem] theorem c8Y (a b : List c9) : b2j [(false, [.sl false [.i .i64 0, .s []] (a.map c9.cells)]), (false, [.sl false [.i .i64 0, .s []] (b.map c9.cells)]), (false, [.f 287 []])] = some (True, [], .one (false, [.i .i64 (a7Z a b)])) := f7 _ (by rintro ⟨_, _⟩ ⟨_, _⟩ h; simp at h; simp_all) (a, b)
theorem c0b : OkC Tryz.prog 319 b2j := f8 _
def a9l : ACode := q' ([o' 2 (.box 1 (.t 0)), o' 3 (.box 1 (.t 1)), z' 4 0]) (q' ([f' 5 0 2, l' 6 5, f' 7 0 3, l' 8 7, o' 9 (.call 319 [.t 6, .t 8, .k (.v false [.c (.f 287
 [])])]), m' 4 9]) .ret)
theorem b8k : cmp Tryz.prog Tryz.f262 = some a9l := by kernel_rfl
theorem c0F (a : d6) (b : d6) : A0l Tryz.prog 262 [(true, [.sl false [.i .i64 0, .s []] (a.V.map c9.cells)]), (true, [.sl false [.i .i64 0, .s []] (b.V.map c9.cells)])] [] (.one (false, [.i .i64 (a7Z a.V b.V)])) := by
 refine spec_of2 false false none Tryz.func262 b8k (rvs := [.t 4]) (hΓ := mkCtx_ok (deep := false) (l := [(319, [], b2j)]) ⟨c0b, trivial⟩) (h := ?_)
 intro hb hE
 simp only [go_sem] at hb
 simp only [a9l, x']
 (try refine A2V ?_); simp only [go_sem]; (repeat' first | apply CJ.mk | intro hc); all_goals try ((repeat' first | apply And.intro | intro hs) <;> (try simp only [go_sem, Bool.and_eq_false_iff] at hs) <;> omega)
noncomputable def a5Q : CT := i5 (fun (x : d6 × d6) => c0F x.1 x.2)
@[go_sem] theorem c7y (x0 x1 : List c9) : a5Q [(true, [.sl false [.i .i64 0, .s []] (x0.map c9.cells)]), (true, [.sl false [.i .i64 0, .s []] (x1.map c9.cells)])] = some (True, [], .one (false, [.i .i64 (a7Z (d6.mk x0).V (d6.mk x1).V)])) := f7 _ (by rintro ⟨⟨_⟩, ⟨_⟩⟩ ⟨⟨_⟩, ⟨_⟩⟩ h; simp at h; simp_all) ((d6.mk x0), (d6.mk x1))
theorem b4a : OkC Tryz.prog 262 a5Q := f8 _
def a4Q : ACode := q' ([o' 2 (.box 1 (.t 0)), o' 3 (.box 1 (.t 1)), z' 4 0]) (.seq (q' ([e' 5 1 2, c' 6 159 [5], o' 7 (.not (.t 6)), m' 8 7, ⟨some 9, .ld true 1 (.t 3), some (8,
 false)⟩, ⟨some 10, .call 159 [.t 9], some (8, false)⟩, ⟨some 11, .not (.t 10), some (8, false)⟩, o' 12 (.pick (.t 8) (.k (.v false [.c (.b true)])) (.t 11))])
 (.cond (.t 12) (q' ([z' 4 2]) .ret) .skip)) (q' ([e' 13 1 2, e' 14 1 3, c' 15 291 [13, 14], m' 4 15]) .ret))
theorem b3b : cmp Tryz.prog Tryz.f258 = some a4Q := by kernel_rfl
theorem b5m (a : d6) (b : d6) : A0l Tryz.prog 258 [(true, [.sl false [.i .i64 0, .s []] (a.V.map c9.cells)]), (true, [.sl false [.i .i64 0, .s []] (b.V.map c9.cells)])] [] (.one (false, [.i .i64 (a5t a b)])) := by
 refine spec_of2 false false none Tryz.func258 b3b (rvs := [.t 4]) (hΓ := mkCtx_ok (deep := false) (l := [(159, [], a2u), (291, [], a1U)]) ⟨a7b, a9Z, trivial⟩) (h := ?_)
 intro hb hE
 simp only [go_sem] at hb
 simp only [a4Q, x']
 (try refine A2V ?_); simp only [go_sem]; (repeat' first | apply CJ.mk | intro hc); all_goals try ((repeat' first | apply And.intro | intro hs) <;> (try simp only [go_sem, Bool.and_eq_false_iff] at hs) <;> omega)
 ·rcases hc with h | h <;> simp [a5t, h]
 ·rw [a5t, hc.1, hc.2]; rfl
noncomputable def a1T : CT := i5 (fun (x : d6 × d6) => b5m x.1 x.2)
@[go_sem] theorem c3F (x0 x1 : List c9) : a1T [(true, [.sl false [.i .i64 0, .s []] (x0.map c9.cells)]), (true, [.sl false [.i .i64 0, .s []] (x1.map c9.cells)])] = some (True, [], .one (false, [.i .i64 (a5t (d6.mk x0) (d6.mk x1))])) := f7 _ (by rintro ⟨⟨_⟩, ⟨_⟩⟩ ⟨⟨_⟩, ⟨_⟩⟩ h; simp at h; simp_all) ((d6.mk x0), (d6.mk x1))
theorem a9Y : OkC Tryz.prog 258 a1T := f8 _
theorem b9Z {n : Nat} {p : Nat → Bool} (h : a7e n p = false) {j : Nat} (hj : j < n) : p j = false := by
 simp only [a7e, Bool.not_eq_false'] at h
 simpa using c1p h hj
theorem b7P {r : d6} (h : a2q r = true) : ∀ x ∈ r.V, j4 x = true := by
 simp only [a2q, Bool.and_eq_true, List.all_eq_true] at h
 exact h.2
theorem b0A {r : d9} {i : Nat} (h : y6 r i = false) : a2q (r.Rows.getD i default) = true := by
 simp only [y6, Bool.or_eq_false_iff, Bool.not_eq_false'] at h
 exact h.1.2
theorem bRow_ge {a b : List c9} (ha : ∀ x ∈ a, j4 x = true) (hb : ∀ x ∈ b, j4 x = true) : decide (0 ≤ a7Z a b) = !(a9e a b == -1) := by
 have h := c2r ha hb
 unfold sgn at h
 rw [Bool.eq_iff_iff]
 simp only [decide_eq_true_eq, Bool.not_eq_true', beq_eq_false_iff_ne]
 omega
theorem c7e {r : d9} {i : Nat} (ha : a7e i (y6 r) = false) : (!a2q (r.Rows.getD i default) || !((r.Rows.getD i default).V.length == r.Arity) || (decide (0 < i) && decide (0 ≤ a7Z (r.Rows.getD (i - 1) default).V (r.Rows.getD i default).V))) = y6 r i := by
 rw [y6]
 cases h : a2q (r.Rows.getD i default) with
 | false => simp
 | true =>
   by_cases h0 : 0 < i
   ·rw [bRow_ge (b7P (b0A (b9Z ha (show i - 1 < i by omega)))) (b7P h)]
    simp
   ·rw [decide_eq_false h0]; simp
theorem b7O {r : d9} {i : Nat} (hi : i < r.Rows.length) (h : y6 r i = true) : a7d r = false := by
 rw [a7d, a8E hi h]; simp
def a9w : ACode := q' ([o' 1 (.box 2 (.t 0)), b' 2 false]) (.seq (q' ([f' 4 0 1, l' 5 4, o' 6 (.bin .lss (.t 5) (k' 0)), m' 7 6, ⟨some 8, .fa 0 (.t 1), some (7, false)⟩, ⟨some 9,
 .ld false 1 (.t 8), some (7, false)⟩, ⟨some 10, .bin .gtr (.t 9) (k' 6), some (7, false)⟩, o' 11 (.pick (.t 7) (.k (.v false [.c (.b true)])) (.t 10)), m' 12
 11, ⟨some 13, .fa 1 (.t 1), some (12, false)⟩, ⟨some 14, .ld false 1 (.t 13), some (12, false)⟩, ⟨some 15, .len (.t 14), some (12, false)⟩, ⟨some 16, .bin
 .gtr (.t 15) (k' 300), some (12, false)⟩, o' 17 (.pick (.t 12) (.k (.v false [.c (.b true)])) (.t 16))]) (.cond (.t 17) (q' ([b' 2 false]) .ret) .skip)) (.seq
 (q' ([f' 18 1 1, l' 19 18, n' 20 19, z' 21 0]) (.block 0 (.loop (q' ([r' 22 21 20]) (.seq (.cond (.t 22) .skip (.exit 0)) (.seq (.block 1 (q' ([m' 23 21, m' 3
 23]) (.seq (.seq (.reg true [f' 24 1 1, l' 25 24, m' 26 3, i' 27 1 25 26, f' 28 0 27, l' 29 28, n' 30 29, f' 31 0 1, l' 32 31, o' 33 (.bin .neq (.t 30) (.t
 32)), m' 34 33, ⟨some 35, .fa 1 (.t 1), some (34, false)⟩, ⟨some 36, .ld false 1 (.t 35), some (34, false)⟩, ⟨some 37, .mov (.t 3), some (34, false)⟩, ⟨some
 38, .ia 1 (.t 36) (.t 37), some (34, false)⟩, ⟨some 39, .ld true 1 (.t 38), some (34, false)⟩, ⟨some 40, .call 159 [.t 39], some (34, false)⟩, ⟨some 41, .not
 (.t 40), some (34, false)⟩, o' 42 (.pick (.t 34) (.k (.v false [.c (.b true)])) (.t 41))]) (.cond (.t 42) (q' ([b' 2 false]) .ret) .skip)) (.seq (.reg true
 [m' 43 3, o' 44 (.bin .gtr (.t 43) (k' 0)), m' 45 44, ⟨some 46, .fa 1 (.t 1), some (45, true)⟩, ⟨some 47, .ld false 1 (.t 46), some (45, true)⟩, ⟨some 48,
 .mov (.t 3), some (45, true)⟩, ⟨some 49, .bin .sub (.t 48) (k' 1), some (45, true)⟩, ⟨some 50, .ia 1 (.t 47) (.t 49), some (45, true)⟩, ⟨some 51, .ld true 1
 (.t 50), some (45, true)⟩, ⟨some 52, .fa 1 (.t 1), some (45, true)⟩, ⟨some 53, .ld false 1 (.t 52), some (45, true)⟩, ⟨some 54, .mov (.t 3), some (45, true)⟩,
 ⟨some 55, .ia 1 (.t 53) (.t 54), some (45, true)⟩, ⟨some 56, .ld true 1 (.t 55), some (45, true)⟩, ⟨some 57, .call 258 [.t 51, .t 56], some (45, true)⟩, ⟨some
 58, .bin .neq (.t 57) (.k (.v false [.c (.i .i64 (-1))])), some (45, true)⟩, o' 59 (.pick (.t 45) (.t 58) (.k (.v false [.c (.b false)])))]) (.cond (.t 59)
 (q' ([b' 2 false]) .ret) .skip))))) (g' [a' 60 21, m' 21 60]))))))) (q' ([b' 2 true]) .ret)))
theorem b8v : cmp Tryz.prog Tryz.f174 = some a9w := by kernel_rfl
theorem c0Q (r : d9) : A0l Tryz.prog 174 [(true, [.i .i64 r.Arity, .sl false [.sl false [.i .i64 0, .s []] []] (r.Rows.map (d6.cells false false))])] [] (.one (false, [.b (a7d r)])) := by
 refine spec_of2 false false none Tryz.func174 b8v (rvs := [.t 2]) (hΓ := mkCtx_ok (deep := false) (l := [(159, [], a2u), (258, [], a1T)]) ⟨a7b, a9Y, trivial⟩) (h := ?_)
 intro hb hE
 simp only [go_sem] at hb
 simp only [a9w, x']
 (try refine A2V ?_); simp only [go_sem]; (repeat' first | apply CJ.mk | intro hc); all_goals try ((repeat' first | apply And.intro | intro hs) <;> (try simp only [go_sem, Bool.and_eq_false_iff] at hs) <;> omega)
 ·rcases hc with (h | h) | h
  ·rw [a7d, decide_eq_false (show ¬ 0 ≤ r.Arity by omega)]; rfl
  ·rw [a7d, decide_eq_false (show ¬ r.Arity ≤ 6 by omega)]; simp
  ·rw [a7d, decide_eq_false (show ¬ (r.Rows.length : Int) ≤ 300 by omega)]; simp
 have hA := hc
 clear hc
 refine aw_loop2 false [] [1, 20] [2] [] (fun i : {i : Nat // i ≤ r.Rows.length ∧ a7e i (y6 r) = false} => [(21, slV (.i .i64 i.1))]) (fun i => []) (fun i => []) (fun i => r.Rows.length - i.1) (⟨0, by simp [a2w]⟩) _ rfl ?_ ?_
 ·simp only [go_sem]
  all_goals first | omega | ((repeat' apply And.intro) <;> first | omega | rfl | skip)
 intro S0 hS0 i
 simp only [go_sem] at hS0
 obtain ⟨i, hi, ha⟩ := i
 have hw : 0 < i → IntKind.i64.wrap ((i : Int) - 1) = ((i - 1 : Nat) : Int) := fun h => by rw [IntWalk.i64_in _ (by omega)]; omega
 (try refine A2V ?_); simp only [go_sem, hS0]; (repeat' first | apply CJ.mk | intro hc); all_goals try ((repeat' first | apply And.intro | intro hs) <;> (try simp only [go_sem, Bool.and_eq_false_iff] at hs) <;> omega)
 ·have hq : y6 r i = true := by
   rw [y6]
   rcases hc with h | h
   ·simp only [bne] at h
    rw [h]; rfl
   ·rw [h]; simp
  rw [b7O (by omega) hq]
 ·rename_i h1
  have hq : y6 r i = true := by
   rw [hw (by omega)] at hc
   rw [a5t, h1.2, show ((i - 1 : Nat) : Int).toNat = i - 1 from rfl, b0A (b9Z ha (show i - 1 < i by omega))] at hc
   rw [y6, decide_eq_true (show 0 < i by omega)]
   have h3 := hc.2
   simp only [bne, Bool.and_self, cond_true] at h3
   rw [h3]; simp
  rw [b7O (by omega) hq]
 ·rename_i h1
  have hq : y6 r i = false := by
   have h2 := h1.1
   simp only [bne] at h2
   rw [y6, h2, h1.2]
   by_cases h0 : 0 < i
   ·rw [hw h0, decide_eq_true (show (0 : Int) < i by omega), a5t, h1.2, show ((i - 1 : Nat) : Int).toNat = i - 1 from rfl, b0A (b9Z ha (show i - 1 < i by omega))] at hc
    rw [decide_eq_true h0]
    exact hc
   ·rw [decide_eq_false h0]; rfl
  (refine lpK_n2 (⟨i + 1, by omega, a2v ha hq⟩) _ rfl ?_; simp only [go_sem, hS0]; first | done | ((repeat' apply And.intro) <;> first | omega | (refine w64 ?_ ?_ ?_ <;> omega) | rfl | skip))
 ·obtain rfl : i = r.Rows.length := by omega
  rw [a7d, ha, decide_eq_true (show 0 ≤ r.Arity by omega), decide_eq_true (show r.Arity ≤ 6 by omega), decide_eq_true (show (r.Rows.length : Int) ≤ 300 by omega)]; rfl
noncomputable def a6b : CT := i5 (fun (x : d9) => c0Q x)
@[go_sem] theorem c7J (x0 : Int) (x1 : List d6) : a6b [(true, [.i .i64 x0, .sl false [.sl false [.i .i64 0, .s []] []] (x1.map (d6.cells false false))])] = some (True, [], .one (false, [.b (a7d (d9.mk x0 x1))])) := f7 _ (by rintro ⟨_, _⟩ ⟨_, _⟩ h; simp at h; simp_all) (d9.mk x0 x1)
theorem b4l : OkC Tryz.prog 174 a6b := f8 _
def a9h : ACode := q' ([o' 1 (.box 2 (.t 0)), b' 2 false]) (.seq (q' ([f' 5 1 1, l' 6 5, n' 7 6, z' 8 0]) (.block 0 (.loop (q' ([r' 9 8 7]) (.seq (.cond (.t 9) .skip (.exit 0))
 (.seq (.block 1 (q' ([m' 10 8, i' 11 1 6 8, e' 12 1 11, w' 4 [.sl [.i .i64 0, .s []]], m' 3 10, s' 1 4 12]) (.seq (.reg true [e' 13 1 4, c' 14 162 [13], o' 15
 (.not (.t 14)), m' 16 15, ⟨some 17, .fa 0 (.t 4), some (16, false)⟩, ⟨some 18, .ld false 1 (.t 17), some (16, false)⟩, ⟨some 19, .len (.t 18), some (16,
 false)⟩, ⟨some 20, .fa 0 (.t 1), some (16, false)⟩, ⟨some 21, .ld false 1 (.t 20), some (16, false)⟩, ⟨some 22, .bin .neq (.t 19) (.t 21), some (16, false)⟩,
 o' 23 (.pick (.t 16) (.k (.v false [.c (.b true)])) (.t 22)), m' 24 23, ⟨some 25, .mov (.t 3), some (24, false)⟩, ⟨some 26, .bin .gtr (.t 25) (k' 0), some
 (24, false)⟩, ⟨some 27, .mov (.t 26), some (24, false)⟩, ⟨some 28, .fa 1 (.t 1), some (27, true)⟩, ⟨some 29, .ld false 1 (.t 28), some (27, true)⟩, ⟨some 30,
 .mov (.t 3), some (27, true)⟩, ⟨some 31, .bin .sub (.t 30) (k' 1), some (27, true)⟩, ⟨some 32, .ia 1 (.t 29) (.t 31), some (27, true)⟩, ⟨some 33, .ld true 1
 (.t 32), some (27, true)⟩, ⟨some 34, .ld true 1 (.t 4), some (27, true)⟩, ⟨some 35, .call 262 [.t 33, .t 34], some (27, true)⟩, ⟨some 36, .bin .geq (.t 35)
 (k' 0), some (27, true)⟩, ⟨some 37, .pick (.t 27) (.t 36) (.k (.v false [.c (.b false)])), some (24, false)⟩, o' 38 (.pick (.t 24) (.k (.v false [.c (.b
 true)])) (.t 37))]) (.cond (.t 38) (q' ([b' 2 false]) .ret) .skip)))) (g' [a' 39 8, m' 8 39]))))))) (q' ([f' 40 0 1, l' 41 40, o' 42 (.call 235 [.t 41, .k (.v
 false [.c (.i .i64 6)])]), m' 43 42, ⟨some 44, .fa 1 (.t 1), some (43, true)⟩, ⟨some 45, .ld false 1 (.t 44), some (43, true)⟩, ⟨some 46, .len (.t 45), some
 (43, true)⟩, ⟨some 47, .bin .leq (.t 46) (k' 300), some (43, true)⟩, o' 48 (.pick (.t 43) (.t 47) (.k (.v false [.c (.b false)]))), m' 2 48]) .ret))
theorem b8g : cmp Tryz.prog Tryz.f177 = some a9h := by kernel_rfl
theorem c0B (r : d9) : A0l Tryz.prog 177 [(true, [.i .i64 r.Arity, .sl false [.sl false [.i .i64 0, .s []] []] (r.Rows.map (d6.cells false false))])] [] (.one (false, [.b (a7d r)])) := by
 refine spec_of2 false false none Tryz.func177 b8g (rvs := [.t 2]) (hΓ := mkCtx_ok (deep := false) (l := [(162, [], a5N), (262, [], a5Q), (235, [], a3U)]) ⟨b3X, b4a, a8q, trivial⟩) (h := ?_)
 intro hb hE
 simp only [go_sem] at hb
 simp only [a9h, x']
 (try refine A2V ?_); simp only [go_sem]; (repeat' first | apply CJ.mk | intro hc); all_goals try ((repeat' first | apply And.intro | intro hs) <;> (try simp only [go_sem, Bool.and_eq_false_iff] at hs) <;> omega)
 refine aw_loop2 false [] [1, 6, 7] [2] [] (fun i : {i : Nat // i ≤ r.Rows.length ∧ a7e i (y6 r) = false} => [(8, slV (.i .i64 i.1))]) (fun i => []) (fun i => []) (fun i => r.Rows.length - i.1) (⟨0, by simp [a2w]⟩) _ rfl ?_ ?_
 ·simp only [go_sem]
  all_goals first | omega | ((repeat' apply And.intro) <;> first | omega | rfl | skip)
 intro S0 hS0 i
 simp only [go_sem] at hS0
 obtain ⟨i, hi, ha⟩ := i
 have hR := c7e ha
 have hw : 0 < i → IntKind.i64.wrap ((i : Int) - 1) = ((i - 1 : Nat) : Int) := fun h => by rw [IntWalk.i64_in _ (by omega)]; omega
 (try refine A2V ?_); simp only [go_sem, hS0]; (repeat' first | apply CJ.mk | intro hc); all_goals try ((repeat' first | apply And.intro | intro hs) <;> (try simp only [go_sem, Bool.and_eq_false_iff] at hs) <;> omega)
 ·have hq : y6 r i = true := by
   rw [← hR]
   rcases hc with (h | h) | ⟨h0, h⟩
   ·rw [h]; rfl
   ·simp only [bne] at h
    rw [h]; simp
   ·rw [hw (by omega)] at h
    have h' : 0 ≤ a7Z (r.Rows.getD (i - 1) default).V (r.Rows.getD i default).V := h
    rw [decide_eq_true (show 0 < i by omega), decide_eq_true h']; simp
  rw [b7O (by omega) hq]
 ·have hq : y6 r i = false := by
   rw [← hR]
   obtain ⟨⟨h1, h2⟩, h3⟩ := hc
   simp only [bne] at h2
   rw [h1, h2]
   by_cases h0 : 0 < i
   ·rw [hw h0, decide_eq_true (show (0 : Int) < i by omega)] at h3
    rw [decide_eq_true h0]
    exact h3
   ·rw [decide_eq_false h0]; rfl
  (refine lpK_n2 (⟨i + 1, by omega, a2v ha hq⟩) _ rfl ?_; simp only [go_sem, hS0]; first | done | ((repeat' apply And.intro) <;> first | omega | (refine w64 ?_ ?_ ?_ <;> omega) | rfl | skip))
 ·obtain rfl : i = r.Rows.length := by omega
  rw [a7d, ha]; simp
noncomputable def a5M : CT := i5 (fun (x : d9) => c0B x)
@[go_sem] theorem c7u (x0 : Int) (x1 : List d6) : a5M [(true, [.i .i64 x0, .sl false [.sl false [.i .i64 0, .s []] []] (x1.map (d6.cells false false))])] = some (True, [], .one (false, [.b (a7d (d9.mk x0 x1))])) := f7 _ (by rintro ⟨_, _⟩ ⟨_, _⟩ h; simp at h; simp_all) (d9.mk x0 x1)
theorem b3W : OkC Tryz.prog 177 a5M := f8 _
theorem b9L {s : d8} {i : Nat} (hi : i < s.Rels.length) (h : a0i s.Rels i = true) : a1z s = false := by
 rw [a1z, a8E hi h]; simp
def a6U : ACode := q' ([o' 1 (.box 1 (.t 0)), b' 2 false]) (.seq (q' ([f' 4 0 1, l' 5 4, n' 6 5, o' 7 (.bin .gtr (.t 6) (k' 24))]) (.cond (.t 7) (q' ([b' 2 false]) .ret) .skip))
 (.seq (q' ([f' 8 0 1, l' 9 8, n' 10 9, z' 11 0]) (.block 0 (.loop (q' ([r' 12 11 10]) (.seq (.cond (.t 12) .skip (.exit 0)) (.seq (.block 1 (q' ([m' 13 11, m'
 3 13]) (.seq (.reg true [f' 14 0 1, l' 15 14, m' 16 3, i' 17 3 15 16, f' 18 0 17, l' 19 18, c' 20 173 [19], o' 21 (.not (.t 20)), m' 22 21, ⟨some 23, .fa 0
 (.t 1), some (22, false)⟩, ⟨some 24, .ld false 1 (.t 23), some (22, false)⟩, ⟨some 25, .mov (.t 3), some (22, false)⟩, ⟨some 26, .ia 3 (.t 24) (.t 25), some
 (22, false)⟩, ⟨some 27, .fa 1 (.t 26), some (22, false)⟩, ⟨some 28, .ld true 2 (.t 27), some (22, false)⟩, ⟨some 29, .call 174 [.t 28], some (22, false)⟩,
 ⟨some 30, .not (.t 29), some (22, false)⟩, o' 31 (.pick (.t 22) (.k (.v false [.c (.b true)])) (.t 30)), m' 32 31, ⟨some 33, .mov (.t 3), some (32, false)⟩,
 ⟨some 34, .bin .gtr (.t 33) (k' 0), some (32, false)⟩, ⟨some 35, .mov (.t 34), some (32, false)⟩, ⟨some 36, .fa 0 (.t 1), some (35, true)⟩, ⟨some 37, .ld
 false 1 (.t 36), some (35, true)⟩, ⟨some 38, .mov (.t 3), some (35, true)⟩, ⟨some 39, .bin .sub (.t 38) (k' 1), some (35, true)⟩, ⟨some 40, .ia 3 (.t 37) (.t
 39), some (35, true)⟩, ⟨some 41, .fa 0 (.t 40), some (35, true)⟩, ⟨some 42, .ld false 1 (.t 41), some (35, true)⟩, ⟨some 43, .fa 0 (.t 1), some (35, true)⟩,
 ⟨some 44, .ld false 1 (.t 43), some (35, true)⟩, ⟨some 45, .mov (.t 3), some (35, true)⟩, ⟨some 46, .ia 3 (.t 44) (.t 45), some (35, true)⟩, ⟨some 47, .fa 0
 (.t 46), some (35, true)⟩, ⟨some 48, .ld false 1 (.t 47), some (35, true)⟩, ⟨some 49, .bin .geq (.t 42) (.t 48), some (35, true)⟩, ⟨some 50, .pick (.t 35) (.t
 49) (.k (.v false [.c (.b false)])), some (32, false)⟩, o' 51 (.pick (.t 32) (.k (.v false [.c (.b true)])) (.t 50))]) (.cond (.t 51) (q' ([b' 2 false]) .ret)
 .skip)))) (g' [a' 52 11, m' 11 52]))))))) (q' ([b' 2 true]) .ret)))
theorem b4T : cmp Tryz.prog Tryz.f105 = some a6U := by kernel_rfl
theorem b7A (s : d8) : A0l Tryz.prog 105 [(true, [.sl false [.s [], .i .i64 0, .sl false [.sl false [.i .i64 0, .s []] []] []] (s.Rels.map (d4.cells false false))])] [] (.one (false, [.b (a1z s)])) := by
 refine spec_of2 false false none Tryz.func105 b4T (rvs := [.t 2]) (hΓ := mkCtx_ok (deep := false) (l := [(173, [], a0c), (174, [], a6b)]) ⟨a1c, b4l, trivial⟩) (h := ?_)
 intro hb hE
 simp only [go_sem] at hb
 simp only [a6U, x']
 (try refine A2V ?_); simp only [go_sem]; (repeat' first | apply CJ.mk | intro hc); all_goals try ((repeat' first | apply And.intro | intro hs) <;> (try simp only [go_sem, Bool.and_eq_false_iff] at hs) <;> omega)
 ·rw [a1z, decide_eq_false (by omega)]; rfl
 have hA := hc
 clear hc
 refine aw_loop2 false [] [1, 10] [2] [] (fun i : {i : Nat // i ≤ s.Rels.length ∧ a7e i (a0i s.Rels) = false} => [(11, slV (.i .i64 i.1))]) (fun i => []) (fun i => []) (fun i => s.Rels.length - i.1) (⟨0, by simp [a2w]⟩) _ rfl ?_ ?_
 ·simp only [go_sem]
  all_goals first | omega | ((repeat' apply And.intro) <;> first | omega | rfl | skip)
 intro S0 hS0 i
 simp only [go_sem] at hS0
 obtain ⟨i, hi, ha⟩ := i
 have hw : 0 < i → IntKind.i64.wrap ((i : Int) - 1) = ((i - 1 : Nat) : Int) := fun h => by rw [IntWalk.i64_in _ (by omega)]; omega
 (try refine A2V ?_); simp only [go_sem, hS0]; (repeat' first | apply CJ.mk | intro hc); all_goals try ((repeat' first | apply And.intro | intro hs) <;> (try simp only [go_sem, Bool.and_eq_false_iff] at hs) <;> omega)
 ·have hq : a0i s.Rels i = true := by
   rw [a0i]
   rcases hc with (h | h) | ⟨h0, h⟩
   ·rw [h]; rfl
   ·rw [h]; simp
   ·rw [hw (by omega)] at h
    have h' : Op.bytesLess (s.Rels.getD (i - 1) default).Name (s.Rels.getD i default).Name = false := h
    rw [decide_eq_true (show 0 < i by omega), h']; simp
  rw [b9L (by omega) hq]
 ·have hq : a0i s.Rels i = false := by
   obtain ⟨⟨h1, h2⟩, h3⟩ := hc
   rw [a0i, h1, h2]
   by_cases h0 : 0 < i
   ·rw [hw h0, decide_eq_true (show (0 : Int) < i by omega)] at h3
    rw [decide_eq_true h0]
    exact h3
   ·rw [decide_eq_false h0]; rfl
  (refine lpK_n2 (⟨i + 1, by omega, a2v ha hq⟩) _ rfl ?_; simp only [go_sem, hS0]; first | done | ((repeat' apply And.intro) <;> first | omega | (refine w64 ?_ ?_ ?_ <;> omega) | rfl | skip))
 ·obtain rfl : i = s.Rels.length := by omega
  rw [a1z, ha, decide_eq_true (show (s.Rels.length : Int) ≤ 24 by omega)]; rfl
noncomputable def a3p : CT := i5 (fun (x : d8) => b7A x)
@[go_sem] theorem c5e (x0 : List d4) : a3p [(true, [.sl false [.s [], .i .i64 0, .sl false [.sl false [.i .i64 0, .s []] []] []] (x0.map (d4.cells false false))])] = some (True, [], .one (false, [.b (a1z (d8.mk x0))])) := f7 _ (by rintro ⟨_⟩ ⟨_⟩ h; simp at h; simp_all) (d8.mk x0)
theorem b1r : OkC Tryz.prog 105 a3p := f8 _
def a6r : ACode := q' ([o' 1 (.box 1 (.t 0)), b' 2 false]) (.seq (q' ([f' 5 0 1, l' 6 5, n' 7 6, z' 8 0]) (.block 0 (.loop (q' ([r' 9 8 7]) (.seq (.cond (.t 9) .skip (.exit 0))
 (.seq (.block 1 (q' ([m' 10 8, i' 11 3 6 8, e' 12 3 11, w' 4 [.s, .i .i64, .sl [.sl false [.i .i64 0, .s []] []]], m' 3 10, s' 3 4 12]) (.seq (.reg true [f'
 13 0 4, l' 14 13, c' 15 176 [14], o' 16 (.not (.t 15)), m' 17 16, ⟨some 18, .fa 1 (.t 4), some (17, false)⟩, ⟨some 19, .ld true 2 (.t 18), some (17, false)⟩,
 ⟨some 20, .call 177 [.t 19], some (17, false)⟩, ⟨some 21, .not (.t 20), some (17, false)⟩, o' 22 (.pick (.t 17) (.k (.v false [.c (.b true)])) (.t 21)), m' 23
 22, ⟨some 24, .mov (.t 3), some (23, false)⟩, ⟨some 25, .bin .gtr (.t 24) (k' 0), some (23, false)⟩, ⟨some 26, .mov (.t 25), some (23, false)⟩, ⟨some 27, .fa
 0 (.t 1), some (26, true)⟩, ⟨some 28, .ld false 1 (.t 27), some (26, true)⟩, ⟨some 29, .mov (.t 3), some (26, true)⟩, ⟨some 30, .bin .sub (.t 29) (k' 1), some
 (26, true)⟩, ⟨some 31, .ia 3 (.t 28) (.t 30), some (26, true)⟩, ⟨some 32, .fa 0 (.t 31), some (26, true)⟩, ⟨some 33, .ld false 1 (.t 32), some (26, true)⟩,
 ⟨some 34, .fa 0 (.t 4), some (26, true)⟩, ⟨some 35, .ld false 1 (.t 34), some (26, true)⟩, ⟨some 36, .bin .geq (.t 33) (.t 35), some (26, true)⟩, ⟨some 37,
 .pick (.t 26) (.t 36) (.k (.v false [.c (.b false)])), some (23, false)⟩, o' 38 (.pick (.t 23) (.k (.v false [.c (.b true)])) (.t 37))]) (.cond (.t 38) (q'
 ([b' 2 false]) .ret) .skip)))) (g' [a' 39 8, m' 8 39]))))))) (q' ([f' 40 0 1, l' 41 40, n' 42 41, o' 43 (.bin .leq (.t 42) (k' 24)), m' 2 43]) .ret))
theorem b4q : cmp Tryz.prog Tryz.f108 = some a6r := by kernel_rfl
theorem b6X (s : d8) : A0l Tryz.prog 108 [(true, [.sl false [.s [], .i .i64 0, .sl false [.sl false [.i .i64 0, .s []] []] []] (s.Rels.map (d4.cells false false))])] [] (.one (false, [.b (a1z s)])) := by
 refine spec_of2 false false none Tryz.func108 b4q (rvs := [.t 2]) (hΓ := mkCtx_ok (deep := false) (l := [(176, [], a0b), (177, [], a5M)]) ⟨a0U, b3W, trivial⟩) (h := ?_)
 intro hb hE
 simp only [go_sem] at hb
 simp only [a6r, x']
 (try refine A2V ?_); simp only [go_sem]; (repeat' first | apply CJ.mk | intro hc); all_goals try ((repeat' first | apply And.intro | intro hs) <;> (try simp only [go_sem, Bool.and_eq_false_iff] at hs) <;> omega)
 refine aw_loop2 false [] [1, 6, 7] [2] [] (fun i : {i : Nat // i ≤ s.Rels.length ∧ a7e i (a0i s.Rels) = false} => [(8, slV (.i .i64 i.1))]) (fun i => []) (fun i => []) (fun i => s.Rels.length - i.1) (⟨0, by simp [a2w]⟩) _ rfl ?_ ?_
 ·simp only [go_sem]
  all_goals first | omega | ((repeat' apply And.intro) <;> first | omega | rfl | skip)
 intro S0 hS0 i
 simp only [go_sem] at hS0
 obtain ⟨i, hi, ha⟩ := i
 have hw : 0 < i → IntKind.i64.wrap ((i : Int) - 1) = ((i - 1 : Nat) : Int) := fun h => by rw [IntWalk.i64_in _ (by omega)]; omega
 (try refine A2V ?_); simp only [go_sem, hS0]; (repeat' first | apply CJ.mk | intro hc); all_goals try ((repeat' first | apply And.intro | intro hs) <;> (try simp only [go_sem, Bool.and_eq_false_iff] at hs) <;> omega)
 ·have hq : a0i s.Rels i = true := by
   rw [a0i]
   rcases hc with (h | h) | ⟨h0, h⟩
   ·rw [h]; rfl
   ·rw [h]; simp
   ·rw [hw (by omega)] at h
    have h' : Op.bytesLess (s.Rels.getD (i - 1) default).Name (s.Rels.getD i default).Name = false := h
    rw [decide_eq_true (show 0 < i by omega), h']; simp
  rw [b9L (by omega) hq]
 ·have hq : a0i s.Rels i = false := by
   obtain ⟨⟨h1, h2⟩, h3⟩ := hc
   rw [a0i, h1, h2]
   by_cases h0 : 0 < i
   ·rw [hw h0, decide_eq_true (show (0 : Int) < i by omega)] at h3
    rw [decide_eq_true h0]
    exact h3
   ·rw [decide_eq_false h0]; rfl
  (refine lpK_n2 (⟨i + 1, by omega, a2v ha hq⟩) _ rfl ?_; simp only [go_sem, hS0]; first | done | ((repeat' apply And.intro) <;> first | omega | (refine w64 ?_ ?_ ?_ <;> omega) | rfl | skip))
 ·obtain rfl : i = s.Rels.length := by omega
  rw [a1z, ha, Bool.not_false, Bool.and_true]
noncomputable def a2S : CT := i5 (fun (x : d8) => b6X x)
@[go_sem] theorem c4B (x0 : List d4) : a2S [(true, [.sl false [.s [], .i .i64 0, .sl false [.sl false [.i .i64 0, .s []] []] []] (x0.map (d4.cells false false))])] = some (True, [], .one (false, [.b (a1z (d8.mk x0))])) := f7 _ (by rintro ⟨_⟩ ⟨_⟩ h; simp at h; simp_all) (d8.mk x0)
theorem b0U : OkC Tryz.prog 108 a2S := f8 _
end Go.Aw
