/- Fitting a row to terms. No condition. -/
import Derived.Test.YthlbadfickhkfaaGreatzhG7
import Derived.Test.YthlbadfickhkfaaGreatzhT5
import Derived.Test.YthlbadfickhkfaaGreatzhI1
import Derived.Test.YthlbadfickhkfaaGreatlBx7zh
import Derived.Test.YthlbadfickhkfaaGreatlBx8zh
import Derived.Test.YthlbadfickhkfaaGreatlMx1zh
import Derived.Test.YthlbadfickhkfaaGreatShelf
namespace Go.Aw
open Go.Proofs
attribute [local irreducible] aft blk lpK retK AW A0m
set_option linter.unusedVariables false
set_option linter.unusedSimpArgs false
set_option maxRecDepth 100000
set_option maxHeartbeats 4000000
attribute [local irreducible] RM
def gtB (v : List UInt8) (b : c7) : Bool := Op.bytesLess v b.Var
def w8 (l : List c7) (v : List UInt8) (x : c6) : List c7 := l.takeWhile (fun b => !gtB v b) ++ ⟨v, x⟩ :: l.dropWhile (fun b => !gtB v b)
theorem c0v {α : Type} {p : α → Bool} : ∀ {l : List α}, l.any p = false → l.takeWhile (fun b => !p b) = l ∧ l.dropWhile (fun b => !p b) = []
 | [], _ => ⟨rfl, rfl⟩
 | x :: l, h => by
   rw [List.any_cons, Bool.or_eq_false_iff] at h
   have := c0v h.2
   rw [List.takeWhile_cons, List.dropWhile_cons, h.1]
   simp [this.1, this.2]
theorem c0u {α : Type} {p : α → Bool} {b : α} {r : List α} (hb : p b = true) : ∀ {l : List α}, l.any p = false → (l ++ b :: r).takeWhile (fun b => !p b) = l ∧ (l ++ b :: r).dropWhile (fun b => !p b) = b :: r
 | [], _ => by rw [List.nil_append, List.takeWhile_cons, List.dropWhile_cons, hb]; exact ⟨rfl, rfl⟩
 | x :: l, h => by
   rw [List.any_cons, Bool.or_eq_false_iff] at h
   have := c0u (r := r) hb h.2
   rw [List.cons_append, List.takeWhile_cons, List.dropWhile_cons, h.1]
   simp [this.1, this.2]
theorem c0t {α : Type} {p : α → Bool} {r : List α} : ∀ {l : List α}, l.any p = true → (l ++ r).takeWhile (fun b => !p b) = l.takeWhile (fun b => !p b) ∧ (l ++ r).dropWhile (fun b => !p b) = l.dropWhile (fun b => !p b) ++ r
 | [], h => by simp at h
 | x :: l, h => by
   rw [List.cons_append, List.takeWhile_cons, List.dropWhile_cons, List.takeWhile_cons, List.dropWhile_cons]
   cases hx : p x with
   | true => simp
   | false =>
     rw [List.any_cons, hx, Bool.false_or] at h
     have := c0t (r := r) h
     simp [this.1, this.2]
theorem b2F {l : List c7} {v : List UInt8} (x : c6) (h : l.any (gtB v) = false) : w8 l v x = l ++ [⟨v, x⟩] := by rw [w8, (c0v h).1, (c0v h).2]
theorem c8l {l : List c7} {v : List UInt8} {b : c7} (x : c6) (h : l.any (gtB v) = false) (hb : gtB v b = true) : w8 (l ++ [b]) v x = l ++ [⟨v, x⟩] ++ [b] := by rw [w8, (c0u hb h).1, (c0u hb h).2]; simp
theorem c6y {l : List c7} {v : List UInt8} {b : c7} (x : c6) (h : l.any (gtB v) = true) : w8 (l ++ [b]) v x = w8 l v x ++ [b] := by rw [w8, w8, (c0t h).1, (c0t h).2]; simp
theorem a1H (l : List c7) (v : List UInt8) (x : c6) : (w8 l v x).length = l.length + 1 := by
 have h := congrArg List.length (List.takeWhile_append_dropWhile (p := fun b => !gtB v b) (l := l))
 rw [List.length_append] at h
 rw [w8, List.length_append, List.length_cons]
 omega
def c1E (l : List c7) (v : List UInt8) : Int := bif decide (a3q (gtB v) l < 0) then (l.length : Int) else a3q (gtB v) l
theorem c7V (l : List c7) (v : List UInt8) (x : c6) : 0 ≤ c1E l v ∧ c1E l v ≤ l.length ∧ insL l (c1E l v) ⟨v, x⟩ = w8 l v x := by
 cases h : l.any (gtB v) with
 | false =>
   rw [c1E, a0w h]
   refine ⟨by simp, by simp, ?_⟩
   rw [b2F x h]
   simp [insL]
 | true =>
   obtain ⟨i, hi, ha, hp⟩ : ∃ i, i < l.length ∧ (l.take i).any (gtB v) = false ∧ gtB v (l.getD i default) = true := by
    have gen : ∀ l : List c7, l.any (gtB v) = true → ∃ i, i < l.length ∧ (l.take i).any (gtB v) = false ∧ gtB v (l.getD i default) = true := by
     intro l
     induction l with
     | nil => intro h; simp at h
     | cons y l ih =>
       intro h
       cases hy : gtB v y with
       | true => exact ⟨0, by simp, by simp, by simpa using hy⟩
       | false =>
         rw [List.any_cons, hy, Bool.false_or] at h
         obtain ⟨i, h1, h2, h3⟩ := ih h
         exact ⟨i + 1, by simpa using h1, by simp [hy, h2], by simpa using h3⟩
    exact gen l h
   have e := a1i (p := gtB v) (d := default) hi ha hp
   rw [c1E, e, decide_eq_false (by omega)]
   refine ⟨by simp, by simp; omega, ?_⟩
   have hs : l = l.take i ++ l.getD i default :: l.drop (i + 1) := by
    rw [k9 default hi]
    simp
   rw [cond_false, insL, Int.toNat_natCast, w8]
   generalize l.getD i default = b at hp hs
   generalize l.drop (i + 1) = r at hs
   have h1 := c0u (r := r) hp ha
   rw [← hs] at h1
   rw [h1.1, h1.2]
   have h2 : l.drop i = b :: r := by
    conv => lhs; rw [hs]
    rw [List.drop_append_of_le_length (by rw [List.length_take]; omega), List.drop_eq_nil_of_le (by rw [List.length_take]; omega)]; rfl
   rw [h2]
theorem gt_not (b v : List UInt8) : (!(Op.bytesLess b v || b == v)) = Op.bytesLess v b := by
 cases h1 : Op.bytesLess b v with
 | true =>
   cases h2 : Op.bytesLess v b with
   | false => rfl
   | true => have h3 := b0Y _ _ _ h1 h2; rw [a1l] at h3; cases h3
 | false =>
   cases h2 : Op.bytesLess v b with
   | false => rw [a8j _ _ h1 h2]; simp
   | true =>
     have : (b == v) = false := beq_eq_false_iff_ne.2 fun e => by subst e; have h3 := a1l b; rw [h3] at h2; cases h2
     rw [this]; rfl
def a6L (l : List c7) (v : List UInt8) (x : c6) : List c7 := bif l.any (gtB v) then w8 l v x else l
theorem c1B {l : List c7} {v : List UInt8} {x : c6} {b : c7} (h : l.any (gtB v) = false) (hb : gtB v b = true) : a6L (l ++ [b]) v x = a6L l v x ++ [⟨v, x⟩] ++ [b] ∧ (l ++ [b]).any (gtB v) = true := by
 have h2 : (l ++ [b]).any (gtB v) = true := by rw [List.any_append, List.any_cons, hb]; simp
 exact ⟨by rw [a6L, a6L, h2, h, cond_true, cond_false, c8l x h hb], h2⟩
theorem c4D {l : List c7} {v : List UInt8} {x : c6} {b : c7} (h : (!l.any (gtB v) && gtB v b) = false) : a6L (l ++ [b]) v x = a6L l v x ++ [b] ∧ (l ++ [b]).any (gtB v) = l.any (gtB v) := by
 cases ha : l.any (gtB v) with
 | true =>
   have h2 : (l ++ [b]).any (gtB v) = true := by rw [List.any_append, ha]; rfl
   exact ⟨by rw [a6L, a6L, h2, ha, cond_true, cond_true, c6y x ha], h2⟩
 | false =>
   rw [ha] at h
   have h2 : (l ++ [b]).any (gtB v) = false := by rw [List.any_append, ha, List.any_cons, show gtB v b = false from h]; rfl
   exact ⟨by rw [a6L, a6L, h2, ha, cond_false, cond_false], h2⟩
theorem c1C (l : List c7) (v : List UInt8) (x : c6) : (a6L l v x).length ≤ l.length + 1 := by
 rw [a6L]
 cases l.any (gtB v) with
 | true => rw [cond_true, a1H]; exact Nat.le_refl _
 | false => exact Nat.le_succ _
theorem c1o (l : List c7) (hpre : l.length < 1000000) : A0m Tryz.prog 120 [(false, [.sl false [.s [], .i .i64 0, .s []] (l.map c7.cells)])] [] (.one (false, [.sl true [.s [], .i .i64 0, .s []] (l.map c7.cells)])) := by
 exact b8Q (d := [.s [], .i .i64 0, .s []]) Tryz.cloneBind (by kernel_rfl) (hi := rfl) (hz0 := rfl) (hz1 := rfl) (bytes := 40) (hz2 := rfl) (hzs := rfl) (by decide) (fun w => rfl) _ (by rw [List.length_map]; omega)
noncomputable def a3J : CT := l8 (fun (x : (List c7)) h => c1o x h)
@[go_sem] theorem c7F (l : List c7) : a3J [(false, [.sl false [.s [], .i .i64 0, .s []] (l.map c7.cells)])] = some (l.length < 1000000, [], .one (false, [.sl true [.s [], .i .i64 0, .s []] (l.map c7.cells)])) := f9 _ (by intro x y h; simp at h; simp_all) l
theorem a7E : OkC Tryz.prog 120 a3J := i3 _
def a6U : ACode := q' ([o' 2 (.box 3 (.t 0)), b' 3 false]) (q' ([f' 4 0 2, l' 5 4, l' 6 1, o' 7 (.bin .gtr (.t 5) (.t 6)), m' 3 7]) .ret)
theorem b5r : cmp Tryz.prog Tryz.f326 = some a6U := by kernel_rfl
theorem b7S (b : c7) (v : List UInt8) : A0m Tryz.prog 326 [(true, [.s b.Var, .i .i64 b.Val.N, .s b.Val.S]), (false, [.p [.s v]])] [] (.one (false, [.b (gtB v b)])) := by
 refine spec_of2 false false none Tryz.func326 b5r (rvs := [.t 3]) (hΓ := mkCtx_ok (deep := false) (l := []) trivial) (h := ?_)
 intro hb hE
 simp only [go_sem] at hb
 simp only [a6U, x']
 (try refine A2Z ?_); simp only [go_sem]; (repeat' first | apply CJ.mk | intro hc); all_goals try ((repeat' first | apply And.intro | intro hs) <;> (try simp only [go_sem, Bool.and_eq_false_iff] at hs) <;> omega)
 exact gt_not _ _
noncomputable def a3Z : CT := j7 (fun (x : c7 × (List UInt8)) => b7S x.1 x.2)
@[go_sem] theorem c5n (x0 : List UInt8) (x1 : Int) (x2 v : List UInt8) : a3Z [(true, [.s x0, .i .i64 x1, .s x2]), (false, [.p [.s v]])] = some (True, [], .one (false, [.b (gtB v (c7.mk x0 (c6.mk x1 x2)))])) := f7 _ (by rintro ⟨⟨_, ⟨_, _⟩⟩, _⟩ ⟨⟨_, ⟨_, _⟩⟩, _⟩ h; simp at h; simp_all) ((c7.mk x0 (c6.mk x1 x2)), v)
theorem b1i : OkC Tryz.prog 326 a3Z := f8 _
def b4P : ACode := q' ([z' 4 0]) (.seq (q' ([m' 6 0, n' 7 6, z' 8 0]) (.block 0 (.loop (q' ([r' 9 8 7]) (.seq (.cond (.t 9) .skip (.exit 0)) (.seq (.block 1 (q' ([m' 10 8, m' 5
 10]) (q' ([m' 11 1, m' 12 0, m' 13 5, i' 14 3 12 13, e' 15 3 14, o' 16 (.callv (.t 11) [.t 15])]) (.cond (.t 16) (q' ([m' 17 5, m' 4 17]) .ret) .skip)))) (g'
 [a' 18 8, m' 8 18]))))))) (q' ([o' 4 (.mov (.k (.v false [.c (.i .i64 (-1))])))]) .ret))
theorem c3o : cmp Tryz.prog Tryz.f325 = some b4P := by kernel_rfl
theorem c1q (l : List c7) (v : List UInt8) : A0m Tryz.prog 325 [(false, [.sl false [.s [], .i .i64 0, .s []] (l.map c7.cells)]), (false, [.f 326 [.p [.s v]]])] [] (.one (false, [.i .i64 (a3q (gtB v) l)])) := by
 refine spec_of2 false false none Tryz.func325 c3o (rvs := [.t 4]) (hΓ := mkCtx_ok (deep := false) (l := [(326, [], a3Z)]) ⟨b1i, trivial⟩) (h := ?_)
 intro hb hE
 simp only [go_sem] at hb
 simp only [b4P, x']
 (try refine A2Z ?_); simp only [go_sem]; (repeat' first | apply CJ.mk | intro hc); all_goals try ((repeat' first | apply And.intro | intro hs) <;> (try simp only [go_sem, Bool.and_eq_false_iff] at hs) <;> omega)
 refine aw_loop2 false [] [0, 1, 7] [] [] (fun i : {i : Nat // i ≤ l.length ∧ (l.take i).any (gtB v) = false} => [(8, slV (.i .i64 i.1))]) (fun i => []) (fun i => []) (fun i => l.length - i.1) (⟨0, by simp⟩) _ rfl ?_ ?_
 ·simp only [go_sem]
  all_goals first | omega | ((repeat' apply And.intro) <;> first | omega | rfl | skip)
 intro S0 hS0 i
 simp only [go_sem] at hS0
 obtain ⟨i, hi, ha⟩ := i
 (try refine A2Z ?_); simp only [go_sem, hS0]; (repeat' first | apply CJ.mk | intro hc); all_goals try ((repeat' first | apply And.intro | intro hs) <;> (try simp only [go_sem, Bool.and_eq_false_iff] at hs) <;> omega)
 ·exact (a1i (p := gtB v) (d := default) (by omega) ha (by simpa [-List.getD_eq_getElem?_getD] using hc)).symm
 ·(refine lpK_n2 (⟨i + 1, by omega, a0y (p := gtB v) default (by omega) ha (by simpa [-List.getD_eq_getElem?_getD] using hc)⟩) _ rfl ?_; simp only [go_sem, hS0]; first | done | ((repeat' apply And.intro) <;> first | omega | (refine w64 ?_ ?_ ?_ <;> omega) | rfl | skip))
 ·exact (a0w (by rwa [i8 (by omega)] at ha)).symm
 all_goals trace_state
noncomputable def a7G : CT := j7 (fun (x : (List c7) × (List UInt8)) => c1q x.1 x.2)
@[go_sem] theorem c7H (l : List c7) (v : List UInt8) : a7G [(false, [.sl false [.s [], .i .i64 0, .s []] (l.map c7.cells)]), (false, [.f 326 [.p [.s v]]])] = some (True, [], .one (false, [.i .i64 (a3q (gtB v) l)])) := f7 _ (by rintro ⟨_, _⟩ ⟨_, _⟩ h; simp at h; simp_all) (l, v)
theorem b4Z : OkC Tryz.prog 325 a7G := f8 _
def a2L : ACode := q' ([o' 3 (.box 1 (.t 0)), o' 5 (.box 2 (.t 2)), w' 6 [.sl [.s [], .i .i64 0, .s []]]]) (q' ([o' 11 (.bld [.sl [.s [], .i .i64 0, .s []]] []), w' 7 [.sl [.s [],
 .i .i64 0, .s []]], s' 1 7 11]) (q' ([b' 8 false]) (.seq (q' ([f' 12 0 3, l' 13 12, n' 14 13, z' 15 0]) (.block 0 (.loop (q' ([r' 16 15 14]) (.seq (.cond (.t
 16) .skip (.exit 0)) (.seq (.block 1 (q' ([i' 17 3 13 15, e' 18 3 17, w' 10 [.s, .i .i64, .s], s' 3 10 18]) (.seq (q' ([m' 19 8, o' 20 (.not (.t 19)), m' 21
 20, ⟨some 22, .mov (.t 1), some (21, true)⟩, ⟨some 23, .fa 0 (.t 10), some (21, true)⟩, ⟨some 24, .ld false 1 (.t 23), some (21, true)⟩, ⟨some 25, .bin .lss
 (.t 22) (.t 24), some (21, true)⟩, o' 26 (.pick (.t 21) (.t 25) (.k (.v false [.c (.b false)])))]) (.cond (.t 26) (q' ([f' 27 0 7, l' 28 27, m' 29 1, e' 30 2
 5, o' 31 (.bld [.s, .i .i64, .s] [(0, 1, .t 29), (1, 2, .t 30)]), o' 32 (.bsl 3 1 [.s, .i .i64, .s] [(0, .t 31)]), o' 33 (.app 3 40 [.s, .i .i64, .s] (.t 28)
 (.t 32)), f' 34 0 7, s' 1 34 33]) (g' [b' 8 true])) .skip)) (g' [f' 35 0 7, l' 36 35, e' 37 3 10, o' 38 (.bsl 3 1 [.s, .i .i64, .s] [(0, .t 37)]), o' 39 (.app
 3 40 [.s, .i .i64, .s] (.t 36) (.t 38)), f' 40 0 7, s' 1 40 39])))) (g' [a' 41 15, m' 15 41]))))))) (.seq (q' ([m' 42 8, o' 43 (.not (.t 42))]) (.cond (.t 43)
 (g' [f' 44 0 7, l' 45 44, m' 46 1, e' 47 2 5, o' 48 (.bld [.s, .i .i64, .s] [(0, 1, .t 46), (1, 2, .t 47)]), o' 49 (.bsl 3 1 [.s, .i .i64, .s] [(0, .t 48)]),
 o' 50 (.app 3 40 [.s, .i .i64, .s] (.t 45) (.t 49)), f' 51 0 7, s' 1 51 50]) .skip)) (q' ([e' 52 1 7, s' 1 6 52]) .ret)))))
theorem a7Z : cmp Tryz.prog Tryz.f267 = some a2L := by kernel_rfl
theorem b8B (e : c8) (v : List UInt8) (x : c6) (hpre : e.Binds.length ≤ 1000) : A0m Tryz.prog 267 [(true, [.sl false [.s [], .i .i64 0, .s []] (e.Binds.map c7.cells)]), (false, [.s v]), (true, [.i .i64 x.N, .s x.S])] [] (.one (true, [.sl true [.s [], .i .i64 0, .s []] (((⟨w8 e.Binds v x⟩ : c8).Binds).map c7.cells)])) := by
 refine spec_of2 false false none Tryz.func267 a7Z (rvs := [.c 6 true 1]) (hΓ := mkCtx_ok (deep := false) (l := []) trivial) (h := ?_)
 intro hb hE
 simp only [go_sem] at hb
 simp only [a2L, x']
 (try refine A2Z ?_); simp only [go_sem]; (repeat' first | apply CJ.mk | intro hc); all_goals try ((repeat' first | apply And.intro | intro hs) <;> (try simp only [go_sem, Bool.and_eq_false_iff] at hs) <;> omega)
 refine aw_loop2 false [(true, 14, 0, 200028)] [1, 5, 6, 7, 13, 14] [10, 12] [] (fun i : {i : Nat // i ≤ e.Binds.length} => [(8, slV (.b ((e.Binds.take i.1).any (gtB v)))), (15, slV (.i .i64 i.1))]) (fun i => [(14, [.ow 200028])]) (fun i => [(200028, [.s [], .i .i64 0, .s []], (a6L (e.Binds.take i.1) v x).map c7.cells)]) (fun i => e.Binds.length - i.1) (⟨0, by simp⟩) _ (by simp only [go_sem]; try rfl) ?_ ?_
 ·simp only [go_sem]
  all_goals first | omega | ((repeat' apply And.intro) <;> first | omega | rfl | skip)
 intro S0 hS0 i
 simp only [go_sem] at hS0
 obtain ⟨i, hi⟩ := i
 have hol := c1C (e.Binds.take i) v x
 rw [List.length_take] at hol
 have hsn : i < e.Binds.length → e.Binds.take (i + 1) = e.Binds.take i ++ [e.Binds.getD i default] := fun h => i9 default h
 (try refine A2Z ?_); simp only [go_sem, hS0]; (repeat' first | apply CJ.mk | intro hc); all_goals try ((repeat' first | apply And.intro | intro hs) <;> (try simp only [go_sem, Bool.and_eq_false_iff] at hs) <;> omega)
 ·have h1 := c1B (x := x) hc.1 hc.2
  rw [← hsn (by omega)] at h1
  (refine lpK_n2 (⟨i + 1, by omega⟩) _ (by simp only [go_sem]; try rfl) ?_; simp only [go_sem, hS0]; first | done | ((repeat' apply And.intro) <;> first | omega | (refine w64 ?_ ?_ ?_ <;> omega) | rfl | skip))
  all_goals (first | exact congrArg (List.map c7.cells) h1.1.symm | (rw [h1.2]; done) | (rw [h1.2]; exact congrArg _ hc.1.symm) | trace_state)
 ·have h1 := c4D (x := x) hc
  rw [← hsn (by omega)] at h1
  (refine lpK_n2 (⟨i + 1, by omega⟩) _ (by simp only [go_sem]; try rfl) ?_; simp only [go_sem, hS0]; first | done | ((repeat' apply And.intro) <;> first | omega | (refine w64 ?_ ?_ ?_ <;> omega) | rfl | skip))
  all_goals (first | exact congrArg (List.map c7.cells) h1.1.symm | (rw [h1.2]; done) | (rw [h1.2]; exact congrArg _ hc.1.symm) | trace_state)
 ·rw [i8 (by omega)] at hc ⊢
  rw [a6L, hc, cond_false, b2F x hc]
 ·rw [i8 (by omega)] at hc ⊢
  rw [a6L, hc, cond_true]
noncomputable def a4u : CT := l8 (fun (x : c8 × (List UInt8) × c6) h => b8B x.1 x.2.1 x.2.2 h)
@[go_sem] theorem c5W (x0 : List c7) (v : List UInt8) (x1 : Int) (x2 : List UInt8) : a4u [(true, [.sl false [.s [], .i .i64 0, .s []] (x0.map c7.cells)]), (false, [.s v]), (true, [.i .i64 x1, .s x2])] = some ((c8.mk x0).Binds.length ≤ 1000, [], .one (true, [.sl true [.s [], .i .i64 0, .s []] (((⟨w8 (c8.mk x0).Binds v (c6.mk x1 x2)⟩ : c8).Binds).map c7.cells)])) := f9 _ (by rintro ⟨⟨_⟩, _, ⟨_, _⟩⟩ ⟨⟨_⟩, _, ⟨_, _⟩⟩ h; simp at h; simp_all) ((c8.mk x0), v, (c6.mk x1 x2))
theorem b1F : OkC Tryz.prog 267 a4u := i3 _
def a8X (a b : c6) : Bool := a.N == b.N && a.S == b.S
def b7o (b : List c7) (t : c4) (v : c6) : Option (List c7) := bif (i4 ⟨b⟩ t).2 then (bif a8X (i4 ⟨b⟩ t).1 v then some b else none) else some (w8 b t.Var v)
def a0L (b : List c7) (args : List c4) (vs : List c6) : Nat → Option (List c7)
 | 0 => some b
 | n + 1 => (a0L b args vs n).bind fun c => b7o c (args.getD n default) (vs.getD n default)
def a2z (e : c8) (args : List c4) (row : c9) : c8 × Bool := bif decide (args.length = row.V.length) then (match a0L e.Binds args row.V args.length with | some c => (⟨c⟩, true) | none => (default, false)) else (default, false)
theorem b8T {b : List c7} {args : List c4} {vs : List c6} {i : Nat} (h : a0L b args vs i = none) : ∀ {n : Nat}, i ≤ n → a0L b args vs n = none
 | 0, hn => by
   obtain rfl : i = 0 := by omega
   exact h
 | n + 1, hn => by
   rcases Nat.lt_or_ge i (n + 1) with h1 | h1
   ·rw [a0L, b8T h (show i ≤ n by omega)]; rfl
   ·obtain rfl : i = n + 1 := by omega
    exact h
theorem b0y {b : List c7} {args : List c4} {vs : List c6} : ∀ {n : Nat} {c : List c7}, a0L b args vs n = some c → c.length ≤ b.length + n
 | 0, c, h => by simp only [a0L, Option.some.injEq] at h; subst h; exact Nat.le_refl _
 | n + 1, c, h => by
   rw [a0L] at h
   obtain ⟨d, h1, h2⟩ := Option.bind_eq_some_iff.1 h
   have := b0y h1
   rw [b7o] at h2
   cases hv : (i4 ⟨d⟩ (args.getD n default)).2 with
   | true =>
     rw [hv, cond_true] at h2
     cases hs : a8X (i4 ⟨d⟩ (args.getD n default)).1 (vs.getD n default) with
     | true => rw [hs, cond_true, Option.some.injEq] at h2; subst h2; omega
     | false => rw [hs] at h2; cases h2
   | false =>
     rw [hv, cond_false, Option.some.injEq] at h2
     subst h2
     rw [a1H]; omega
theorem c4w {b c : List c7} {args : List c4} {vs : List c6} {i : Nat} (h : a0L b args vs i = some c) (hv : (i4 ⟨c⟩ (args.getD i default)).2 = false) : a0L b args vs (i + 1) = some (w8 c (args.getD i default).Var (vs.getD i default)) := by
 rw [a0L, h, Option.bind_some, b7o, hv, cond_false]
theorem b5l {b c : List c7} {args : List c4} {vs : List c6} {i : Nat} (h : a0L b args vs i = some c) (hv : (i4 ⟨c⟩ (args.getD i default)).2 = true) (hs : a8X (i4 ⟨c⟩ (args.getD i default)).1 (vs.getD i default) = true) : a0L b args vs (i + 1) = some c := by
 rw [a0L, h, Option.bind_some, b7o, hv, hs]; rfl
theorem b9G {b c : List c7} {args : List c4} {vs : List c6} {i n : Nat} (h : a0L b args vs i = some c) (hn : i < n) (hv : (i4 ⟨c⟩ (args.getD i default)).2 = true) (hs : a8X (i4 ⟨c⟩ (args.getD i default)).1 (vs.getD i default) = false) : a0L b args vs n = none := by
 refine b8T (i := i + 1) ?_ hn
 rw [a0L, h, Option.bind_some, b7o, hv, hs]; rfl
theorem b1b {e : c8} {t : c4} (h : (t.Var == []) = false) : i4 e t = l6 e t.Var := by rw [i4, h]; rfl
theorem a8l {e : c8} {t : c4} (h : (t.Var == []) = true) : i4 e t = (t.Val, true) := by rw [i4, h]; rfl
end Go.Aw
