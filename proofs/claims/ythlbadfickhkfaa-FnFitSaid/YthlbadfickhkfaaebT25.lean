/- Fitting a row to terms. No condition. -/
import Derived.Test.YthlbadfickhkfaaebG7
import Derived.Test.YthlbadfickhkfaaebT5
import Derived.Test.YthlbadfickhkfaaebI1
import Derived.Test.YthlbadfickhkfaakBx7eb
import Derived.Test.YthlbadfickhkfaakBx8eb
import Derived.Test.YthlbadfickhkfaakMx1eb
import Derived.Test.YthlbadfickhkfaaShelf
namespace Go.Aw
open Go.Proofs
attribute [local irreducible] aft blk lpK retK AW A0m
set_option linter.unusedVariables false
set_option linter.unusedSimpArgs false
set_option maxRecDepth 100000
set_option maxHeartbeats 4000000
attribute [local irreducible] RM
def gtB (v : List UInt8) (b : c6) : Bool := Op.bytesLess v b.Var
def u1 (l : List c6) (v : List UInt8) (x : c7) : List c6 := l.takeWhile (fun b => !gtB v b) ++ ⟨v, x⟩ :: l.dropWhile (fun b => !gtB v b)
theorem a8g {α : Type} {p : α → Bool} : ∀ {l : List α}, l.any p = false → l.takeWhile (fun b => !p b) = l ∧ l.dropWhile (fun b => !p b) = []
 | [], _ => ⟨rfl, rfl⟩
 | x :: l, h => by
   rw [List.any_cons, Bool.or_eq_false_iff] at h
   have := a8g h.2
   rw [List.takeWhile_cons, List.dropWhile_cons, h.1]
   simp [this.1, this.2]
theorem a8f {α : Type} {p : α → Bool} {b : α} {r : List α} (hb : p b = true) : ∀ {l : List α}, l.any p = false → (l ++ b :: r).takeWhile (fun b => !p b) = l ∧ (l ++ b :: r).dropWhile (fun b => !p b) = b :: r
 | [], _ => by rw [List.nil_append, List.takeWhile_cons, List.dropWhile_cons, hb]; exact ⟨rfl, rfl⟩
 | x :: l, h => by
   rw [List.any_cons, Bool.or_eq_false_iff] at h
   have := a8f (r := r) hb h.2
   rw [List.cons_append, List.takeWhile_cons, List.dropWhile_cons, h.1]
   simp [this.1, this.2]
theorem a8e {α : Type} {p : α → Bool} {r : List α} : ∀ {l : List α}, l.any p = true → (l ++ r).takeWhile (fun b => !p b) = l.takeWhile (fun b => !p b) ∧ (l ++ r).dropWhile (fun b => !p b) = l.dropWhile (fun b => !p b) ++ r
 | [], h => by simp at h
 | x :: l, h => by
   rw [List.cons_append, List.takeWhile_cons, List.dropWhile_cons, List.takeWhile_cons, List.dropWhile_cons]
   cases hx : p x with
   | true => simp
   | false =>
     rw [List.any_cons, hx, Bool.false_or] at h
     have := a8e (r := r) h
     simp [this.1, this.2]
theorem a7u {l : List c6} {v : List UInt8} (x : c7) (h : l.any (gtB v) = false) : u1 l v x = l ++ [⟨v, x⟩] := by rw [u1, (a8g h).1, (a8g h).2]
theorem b2A {l : List c6} {v : List UInt8} {b : c6} (x : c7) (h : l.any (gtB v) = false) (hb : gtB v b = true) : u1 (l ++ [b]) v x = l ++ [⟨v, x⟩] ++ [b] := by rw [u1, (a8f hb h).1, (a8f hb h).2]; simp
theorem b1m {l : List c6} {v : List UInt8} {b : c6} (x : c7) (h : l.any (gtB v) = true) : u1 (l ++ [b]) v x = u1 l v x ++ [b] := by rw [u1, u1, (a8e h).1, (a8e h).2]; simp
theorem a3S (l : List c6) (v : List UInt8) (x : c7) : (u1 l v x).length = l.length + 1 := by
 have h := congrArg List.length (List.takeWhile_append_dropWhile (p := fun b => !gtB v b) (l := l))
 rw [List.length_append] at h
 rw [u1, List.length_append, List.length_cons]
 omega
def a8M (l : List c6) (v : List UInt8) : Int := bif decide (a3N (gtB v) l < 0) then (l.length : Int) else a3N (gtB v) l
theorem b2t (l : List c6) (v : List UInt8) (x : c7) : 0 ≤ a8M l v ∧ a8M l v ≤ l.length ∧ insL l (a8M l v) ⟨v, x⟩ = u1 l v x := by
 cases h : l.any (gtB v) with
 | false =>
   rw [a8M, a1d h]
   refine ⟨by simp, by simp, ?_⟩
   rw [a7u x h]
   simp [insL]
 | true =>
   obtain ⟨i, hi, ha, hp⟩ : ∃ i, i < l.length ∧ (l.take i).any (gtB v) = false ∧ gtB v (l.getD i default) = true := by
    have gen : ∀ l : List c6, l.any (gtB v) = true → ∃ i, i < l.length ∧ (l.take i).any (gtB v) = false ∧ gtB v (l.getD i default) = true := by
     intro l
     induction l with
     | nil => intro h; simp at h
     | cons y l ih =>
       intro h
       cases hy : gtB v y with
       | true => exact ⟨0, by simp, by simp, by simpa using hy⟩
       | false =>
         rw [List.any_cons, hy, Bool.false_or] at h
         obtain ⟨i, h1, h2, h3⟩ := ih h
         exact ⟨i + 1, by simpa using h1, by simp [hy, h2], by simpa using h3⟩
    exact gen l h
   have e := a2z (p := gtB v) (d := default) hi ha hp
   rw [a8M, e, decide_eq_false (by omega)]
   refine ⟨by simp, by simp; omega, ?_⟩
   have hs : l = l.take i ++ l.getD i default :: l.drop (i + 1) := by
    rw [s6 default hi]
    simp
   rw [cond_false, insL, Int.toNat_natCast, u1]
   generalize l.getD i default = b at hp hs
   generalize l.drop (i + 1) = r at hs
   have h1 := a8f (r := r) hp ha
   rw [← hs] at h1
   rw [h1.1, h1.2]
   have h2 : l.drop i = b :: r := by
    conv => lhs; rw [hs]
    rw [List.drop_append_of_le_length (by rw [List.length_take]; omega), List.drop_eq_nil_of_le (by rw [List.length_take]; omega)]; rfl
   rw [h2]
theorem gt_not (b v : List UInt8) : (!(Op.bytesLess b v || b == v)) = Op.bytesLess v b := by
 cases h1 : Op.bytesLess b v with
 | true =>
   cases h2 : Op.bytesLess v b with
   | false => rfl
   | true => have h3 := a3R _ _ _ h1 h2; rw [a1g] at h3; cases h3
 | false =>
   cases h2 : Op.bytesLess v b with
   | false => rw [a2B _ _ h1 h2]; simp
   | true =>
     have : (b == v) = false := beq_eq_false_iff_ne.2 fun e => by subst e; have h3 := a1g b; rw [h3] at h2; cases h2
     rw [this]; rfl
def a3q (l : List c6) (v : List UInt8) (x : c7) : List c6 := bif l.any (gtB v) then u1 l v x else l
theorem b2w {l : List c6} {v : List UInt8} {x : c7} {b : c6} (h : l.any (gtB v) = false) (hb : gtB v b = true) : a3q (l ++ [b]) v x = a3q l v x ++ [⟨v, x⟩] ++ [b] ∧ (l ++ [b]).any (gtB v) = true := by
 have h2 : (l ++ [b]).any (gtB v) = true := by rw [List.any_append, List.any_cons, hb]; simp
 exact ⟨by rw [a3q, a3q, h2, h, cond_true, cond_false, b2A x h hb], h2⟩
theorem outB_no {l : List c6} {v : List UInt8} {x : c7} {b : c6} (h : (!l.any (gtB v) && gtB v b) = false) : a3q (l ++ [b]) v x = a3q l v x ++ [b] ∧ (l ++ [b]).any (gtB v) = l.any (gtB v) := by
 cases ha : l.any (gtB v) with
 | true =>
   have h2 : (l ++ [b]).any (gtB v) = true := by rw [List.any_append, ha]; rfl
   exact ⟨by rw [a3q, a3q, h2, ha, cond_true, cond_true, b1m x ha], h2⟩
 | false =>
   rw [ha] at h
   have h2 : (l ++ [b]).any (gtB v) = false := by rw [List.any_append, ha, List.any_cons, show gtB v b = false from h]; rfl
   exact ⟨by rw [a3q, a3q, h2, ha, cond_false, cond_false], h2⟩
theorem b2x (l : List c6) (v : List UInt8) (x : c7) : (a3q l v x).length ≤ l.length + 1 := by
 rw [a3q]
 cases l.any (gtB v) with
 | true => rw [cond_true, a3S]; exact Nat.le_refl _
 | false => exact Nat.le_succ _
theorem a8C (l : List c6) (hpre : l.length < 1000000) : A0m Try.prog 36 [(false, [.sl false [.s [], .i .i64 0, .s []] (l.map c6.cells)])] [] (.one (false, [.sl true [.s [], .i .i64 0, .s []] (l.map c6.cells)])) := by
 exact b0W (d := [.s [], .i .i64 0, .s []]) Try.cloneBind (by kernel_rfl) (hi := rfl) (hz0 := rfl) (hz1 := rfl) (bytes := 40) (hz2 := rfl) (hzs := rfl) (by decide) (fun w => rfl) _ (by rw [List.length_map]; omega)
noncomputable def a0z : CT := t9 (fun (x : (List c6)) h => a8C x h)
@[go_sem] theorem b2d (l : List c6) : a0z [(false, [.sl false [.s [], .i .i64 0, .s []] (l.map c6.cells)])] = some (l.length < 1000000, [], .one (false, [.sl true [.s [], .i .i64 0, .s []] (l.map c6.cells)])) := j8 _ (by intro x y h; simp at h; simp_all) l
theorem a2g : OkC Try.prog 36 a0z := k9 _
def a1P : ACode := q' ([o' 2 (.box 3 (.t 0)), b' 3 false]) (q' ([f' 4 0 2, l' 5 4, l' 6 1, o' 7 (.bin .gtr (.t 5) (.t 6)), m' 3 7]) .ret)
theorem a5T : cmp Try.prog Try.f95 = some a1P := by kernel_rfl
theorem a6W (b : c6) (v : List UInt8) : A0m Try.prog 95 [(true, [.s b.Var, .i .i64 b.Val.N, .s b.Val.S]), (false, [.p [.s v]])] [] (.one (false, [.b (gtB v b)])) := by
 refine spec_of2 false false none Try.func95 a5T (rvs := [.t 3]) (hΓ := mkCtx_ok (deep := false) (l := []) trivial) (h := ?_)
 intro hb hE
 simp only [go_sem] at hb
 simp only [a1P, x']
 (try refine A2Z ?_); simp only [go_sem]; (repeat' first | apply CJ.mk | intro hc); all_goals try ((repeat' first | apply And.intro | intro hs) <;> (try simp only [go_sem, Bool.and_eq_false_iff] at hs) <;> omega)
 exact gt_not _ _
noncomputable def a0K : CT := p8 (fun (x : c6 × (List UInt8)) => a6W x.1 x.2)
@[go_sem] theorem b0I (x0 : List UInt8) (x1 : Int) (x2 v : List UInt8) : a0K [(true, [.s x0, .i .i64 x1, .s x2]), (false, [.p [.s v]])] = some (True, [], .one (false, [.b (gtB v (c6.mk x0 (c7.mk x1 x2)))])) := i9 _ (by rintro ⟨⟨_, ⟨_, _⟩⟩, _⟩ ⟨⟨_, ⟨_, _⟩⟩, _⟩ h; simp at h; simp_all) ((c6.mk x0 (c7.mk x1 x2)), v)
theorem a4d : OkC Try.prog 95 a0K := j3 _
def a5w : ACode := q' ([z' 4 0]) (.seq (q' ([m' 6 0, n' 7 6, z' 8 0]) (.block 0 (.loop (q' ([r' 9 8 7]) (.seq (.cond (.t 9) .skip (.exit 0)) (.seq (.block 1 (q' ([m' 10 8, m' 5
 10]) (q' ([m' 11 1, m' 12 0, m' 13 5, i' 14 3 12 13, e' 15 3 14, o' 16 (.callv (.t 11) [.t 15])]) (.cond (.t 16) (q' ([m' 17 5, m' 4 17]) .ret) .skip)))) (g'
 [a' 18 8, m' 8 18]))))))) (q' ([o' 4 (.mov (.k (.v false [.c (.i .i64 (-1))])))]) .ret))
theorem a9D : cmp Try.prog Try.f94 = some a5w := by kernel_rfl
theorem a8E (l : List c6) (v : List UInt8) : A0m Try.prog 94 [(false, [.sl false [.s [], .i .i64 0, .s []] (l.map c6.cells)]), (false, [.f 95 [.p [.s v]]])] [] (.one (false, [.i .i64 (a3N (gtB v) l)])) := by
 refine spec_of2 false false none Try.func94 a9D (rvs := [.t 4]) (hΓ := mkCtx_ok (deep := false) (l := [(95, [], a0K)]) ⟨a4d, trivial⟩) (h := ?_)
 intro hb hE
 simp only [go_sem] at hb
 simp only [a5w, x']
 (try refine A2Z ?_); simp only [go_sem]; (repeat' first | apply CJ.mk | intro hc); all_goals try ((repeat' first | apply And.intro | intro hs) <;> (try simp only [go_sem, Bool.and_eq_false_iff] at hs) <;> omega)
 refine aw_loop2 false [] [0, 1, 7] [] [] (fun i : {i : Nat // i ≤ l.length ∧ (l.take i).any (gtB v) = false} => [(8, slV (.i .i64 i.1))]) (fun i => []) (fun i => []) (fun i => l.length - i.1) (⟨0, by simp⟩) _ rfl ?_ ?_
 ·simp only [go_sem]
  all_goals first | omega | ((repeat' apply And.intro) <;> first | omega | rfl | skip)
 intro S0 hS0 i
 simp only [go_sem] at hS0
 obtain ⟨i, hi, ha⟩ := i
 (try refine A2Z ?_); simp only [go_sem, hS0]; (repeat' first | apply CJ.mk | intro hc); all_goals try ((repeat' first | apply And.intro | intro hs) <;> (try simp only [go_sem, Bool.and_eq_false_iff] at hs) <;> omega)
 ·exact (a2z (p := gtB v) (d := default) (by omega) ha (by simpa [-List.getD_eq_getElem?_getD] using hc)).symm
 ·(refine lpK_n2 (⟨i + 1, by omega, a5y (p := gtB v) default (by omega) ha (by simpa [-List.getD_eq_getElem?_getD] using hc)⟩) _ rfl ?_; simp only [go_sem, hS0]; first | done | ((repeat' apply And.intro) <;> first | omega | (refine w64 ?_ ?_ ?_ <;> omega) | rfl | skip))
 ·exact (a1d (by rwa [a1i (by omega)] at ha)).symm
 all_goals trace_state
noncomputable def a2i : CT := p8 (fun (x : (List c6) × (List UInt8)) => a8E x.1 x.2)
@[go_sem] theorem b2f (l : List c6) (v : List UInt8) : a2i [(false, [.sl false [.s [], .i .i64 0, .s []] (l.map c6.cells)]), (false, [.f 95 [.p [.s v]]])] = some (True, [], .one (false, [.i .i64 (a3N (gtB v) l)])) := i9 _ (by rintro ⟨_, _⟩ ⟨_, _⟩ h; simp at h; simp_all) (l, v)
theorem a5B : OkC Try.prog 94 a2i := j3 _
def a3x : ACode := q' ([o' 3 (.box 1 (.t 0)), o' 4 (.box 1 (.t 1)), o' 5 (.box 2 (.t 2)), w' 6 [.sl [.s [], .i .i64 0, .s []]]]) (q' ([f' 8 0 3, l' 9 8, o' 10 (.mf 95 [.t 4]), c'
 11 94 [9, 10], m' 7 11]) (.seq (q' ([m' 12 7, o' 13 (.bin .lss (.t 12) (k' 0))]) (.cond (.t 13) (g' [f' 14 0 3, l' 15 14, n' 16 15, m' 7 16]) .skip)) (.seq
 (.regm [(true, 0, f' 17 0 3), (true, 1, l' 18 17), (true, 3, m' 20 7), (true, 4, l' 21 4), (true, 5, e' 22 2 5), (true, 6, o' 23 (.bld [.s, .i .i64, .s] [(0,
 1, .t 21), (1, 2, .t 22)])), (false, 2, c' 19 36 [18]), (false, 7, o' 24 (.bsl 3 1 [.s, .i .i64, .s] [(0, .t 23)])), (false, 8, c' 25 96 [19, 20, 24]),
 (false, 9, o' 26 (.bld [.sl [.s [], .i .i64 0, .s []]] [(0, 1, .t 25)])), (false, 10, s' 1 6 26)] [[(true, 0, f' 17 0 3), (true, 1, l' 18 17), (true, 3, m' 20
 7), (true, 4, l' 21 4), (true, 5, e' 22 2 5), (true, 6, o' 23 (.bld [.s, .i .i64, .s] [(0, 1, .t 21), (1, 2, .t 22)])), (false, 7, o' 24 (.bsl 3 1 [.s, .i
 .i64, .s] [(0, .t 23)])), (false, 2, c' 19 36 [18]), (false, 8, c' 25 96 [19, 20, 24]), (false, 9, o' 26 (.bld [.sl [.s [], .i .i64 0, .s []]] [(0, 1, .t
 25)])), (false, 10, s' 1 6 26)]] [6, 7, 8, 9, 10, 11]) .ret)))
theorem a7N : cmp Try.prog Try.f71 = some a3x := by kernel_rfl
theorem a8I (e : c9) (v : List UInt8) (x : c7) (hpre : e.Binds.length ≤ 1000) : A0m Try.prog 71 [(true, [.sl false [.s [], .i .i64 0, .s []] (e.Binds.map c6.cells)]), (false, [.s v]), (true, [.i .i64 x.N, .s x.S])] [] (.one (true, [.sl true [.s [], .i .i64 0, .s []] (((⟨u1 e.Binds v x⟩ : c9).Binds).map c6.cells)])) := by
 refine spec_of2 false false none Try.func71 a7N (rvs := [.c 6 true 1]) (hΓ := mkCtx_ok (deep := false) (l := [(36, [], a0z), (94, [], a2i), (96, [0, 2], a4e)]) ⟨a2g, a5B, a7G, trivial⟩) (h := ?_)
 intro hb hE
 simp only [go_sem] at hb
 simp only [a3x, x']
 have hI := b2t e.Binds v x
 (try refine A2Z ?_); simp only [go_sem]; (repeat' first | apply CJ.mk | intro hc | apply a0e); (all_goals (try ((first | refine w8 6 rfl ?_); intro S hS B0 hB; simp only [go_sem, List.take_succ_cons, List.take_zero] at hS hB; (repeat (first | replace hS := And.right hS | replace hS := CJ.r hS)); have Rr6 := congrArg (fun s : St => s.sl 6) hS; have Rr18 := congrArg (fun s : St => s.sl 18) hS; have Rr20 := congrArg (fun s : St => s.sl 20) hS; have Rr23 := congrArg (fun s : St => s.sl 23) hS; have Rb6 := congrArg (fun s : St => s.bx 6) hS; have Rb7 := congrArg (fun s : St => s.bx 7) hS; have Rb8 := congrArg (fun s : St => s.bx 8) hS; have Rb9 := congrArg (fun s : St => s.bx 9) hS; have Rb10 := congrArg (fun s : St => s.bx 10) hS; have Rb11 := congrArg (fun s : St => s.bx 11) hS; have Rb12 := congrArg (fun s : St => s.bx 12) hS; clear hS; simp only [go_sem] at Rr6 Rr18 Rr20 Rr23 Rb6 Rb7 Rb8 Rb9 Rb10 Rb11 Rb12; (try clear hc); intro K hc; simp only [go_sem, Rr6, Rr18, Rr20, Rr23, Rb6, Rb7, Rb8, Rb9, Rb10, Rb11, Rb12, hB, List.map_cons, List.map_nil, List.drop_succ_cons, List.drop_zero] at hc ⊢; simp only [go_sem, Rr6, Rr18, Rr20, Rr23, Rb6, Rb7, Rb8, Rb9, Rb10, Rb11, Rb12, hB, A6V, A6Z, A6o, A6n, A6U, A6m, nf_put_sub, A6X, A6W, nf_put_susK, nf_put_dip, nf_put_put, A6Y, A6T, A6p, n8, n7, nf_sub_sub] at hc ⊢; simp only [hc, and_self, true_and]; done))); all_goals try ((repeat' first | apply And.intro | intro hs) <;> (try simp only [go_sem, Bool.and_eq_false_iff] at hs) <;> omega)
 ·rw [← hI.2.2, a8M, decide_eq_true hc, cond_true]
 ·rw [a8M, decide_eq_false hc, cond_false] at hI
  exact ⟨⟨hI.1, hI.2.1⟩, by omega⟩
 ·rw [← hI.2.2, a8M, decide_eq_false hc, cond_false]
noncomputable def a2m : CT := t9 (fun (x : c9 × (List UInt8) × c7) h => a8I x.1 x.2.1 x.2.2 h)
@[go_sem] theorem b2j (x0 : List c6) (v : List UInt8) (x1 : Int) (x2 : List UInt8) : a2m [(true, [.sl false [.s [], .i .i64 0, .s []] (x0.map c6.cells)]), (false, [.s v]), (true, [.i .i64 x1, .s x2])] = some ((c9.mk x0).Binds.length ≤ 1000, [], .one (true, [.sl true [.s [], .i .i64 0, .s []] (((⟨u1 (c9.mk x0).Binds v (c7.mk x1 x2)⟩ : c9).Binds).map c6.cells)])) := j8 _ (by rintro ⟨⟨_⟩, _, ⟨_, _⟩⟩ ⟨⟨_⟩, _, ⟨_, _⟩⟩ h; simp at h; simp_all) ((c9.mk x0), v, (c7.mk x1 x2))
theorem a5F : OkC Try.prog 71 a2m := k9 _
def a2b : ACode := q' ([o' 3 (.box 1 (.t 0)), o' 5 (.box 2 (.t 2)), w' 6 [.sl [.s [], .i .i64 0, .s []]]]) (q' ([o' 11 (.bld [.sl [.s [], .i .i64 0, .s []]] []), w' 7 [.sl [.s [],
 .i .i64 0, .s []]], s' 1 7 11]) (q' ([b' 8 false]) (.seq (q' ([f' 12 0 3, l' 13 12, n' 14 13, z' 15 0]) (.block 0 (.loop (q' ([r' 16 15 14]) (.seq (.cond (.t
 16) .skip (.exit 0)) (.seq (.block 1 (q' ([i' 17 3 13 15, e' 18 3 17, w' 10 [.s, .i .i64, .s], s' 3 10 18]) (.seq (q' ([m' 19 8, o' 20 (.not (.t 19)), m' 21
 20, ⟨some 22, .mov (.t 1), some (21, true)⟩, ⟨some 23, .fa 0 (.t 10), some (21, true)⟩, ⟨some 24, .ld false 1 (.t 23), some (21, true)⟩, ⟨some 25, .bin .lss
 (.t 22) (.t 24), some (21, true)⟩, o' 26 (.pick (.t 21) (.t 25) (.k (.v false [.c (.b false)])))]) (.cond (.t 26) (q' ([f' 27 0 7, l' 28 27, m' 29 1, e' 30 2
 5, o' 31 (.bld [.s, .i .i64, .s] [(0, 1, .t 29), (1, 2, .t 30)]), o' 32 (.bsl 3 1 [.s, .i .i64, .s] [(0, .t 31)]), o' 33 (.app 3 40 [.s, .i .i64, .s] (.t 28)
 (.t 32)), f' 34 0 7, s' 1 34 33]) (g' [b' 8 true])) .skip)) (g' [f' 35 0 7, l' 36 35, e' 37 3 10, o' 38 (.bsl 3 1 [.s, .i .i64, .s] [(0, .t 37)]), o' 39 (.app
 3 40 [.s, .i .i64, .s] (.t 36) (.t 38)), f' 40 0 7, s' 1 40 39])))) (g' [a' 41 15, m' 15 41]))))))) (.seq (q' ([m' 42 8, o' 43 (.not (.t 42))]) (.cond (.t 43)
 (g' [f' 44 0 7, l' 45 44, m' 46 1, e' 47 2 5, o' 48 (.bld [.s, .i .i64, .s] [(0, 1, .t 46), (1, 2, .t 47)]), o' 49 (.bsl 3 1 [.s, .i .i64, .s] [(0, .t 48)]),
 o' 50 (.app 3 40 [.s, .i .i64, .s] (.t 45) (.t 49)), f' 51 0 7, s' 1 51 50]) .skip)) (q' ([e' 52 1 7, s' 1 6 52]) .ret)))))
theorem a6f : cmp Try.prog Try.f61 = some a2b := by kernel_rfl
theorem a7h (e : c9) (v : List UInt8) (x : c7) (hpre : e.Binds.length ≤ 1000) : A0m Try.prog 61 [(true, [.sl false [.s [], .i .i64 0, .s []] (e.Binds.map c6.cells)]), (false, [.s v]), (true, [.i .i64 x.N, .s x.S])] [] (.one (true, [.sl true [.s [], .i .i64 0, .s []] (((⟨u1 e.Binds v x⟩ : c9).Binds).map c6.cells)])) := by
 refine spec_of2 false false none Try.func61 a6f (rvs := [.c 6 true 1]) (hΓ := mkCtx_ok (deep := false) (l := []) trivial) (h := ?_)
 intro hb hE
 simp only [go_sem] at hb
 simp only [a2b, x']
 (try refine A2Z ?_); simp only [go_sem]; (repeat' first | apply CJ.mk | intro hc); all_goals try ((repeat' first | apply And.intro | intro hs) <;> (try simp only [go_sem, Bool.and_eq_false_iff] at hs) <;> omega)
 refine aw_loop2 false [(true, 14, 0, 200028)] [1, 5, 6, 7, 13, 14] [10, 12] [] (fun i : {i : Nat // i ≤ e.Binds.length} => [(8, slV (.b ((e.Binds.take i.1).any (gtB v)))), (15, slV (.i .i64 i.1))]) (fun i => [(14, [.ow 200028])]) (fun i => [(200028, [.s [], .i .i64 0, .s []], (a3q (e.Binds.take i.1) v x).map c6.cells)]) (fun i => e.Binds.length - i.1) (⟨0, by simp⟩) _ (by simp only [go_sem]; try rfl) ?_ ?_
 ·simp only [go_sem]
  all_goals first | omega | ((repeat' apply And.intro) <;> first | omega | rfl | skip)
 intro S0 hS0 i
 simp only [go_sem] at hS0
 obtain ⟨i, hi⟩ := i
 have hol := b2x (e.Binds.take i) v x
 rw [List.length_take] at hol
 have hsn : i < e.Binds.length → e.Binds.take (i + 1) = e.Binds.take i ++ [e.Binds.getD i default] := fun h => a9J default h
 (try refine A2Z ?_); simp only [go_sem, hS0]; (repeat' first | apply CJ.mk | intro hc); all_goals try ((repeat' first | apply And.intro | intro hs) <;> (try simp only [go_sem, Bool.and_eq_false_iff] at hs) <;> omega)
 ·have h1 := b2w (x := x) hc.1 hc.2
  rw [← hsn (by omega)] at h1
  (refine lpK_n2 (⟨i + 1, by omega⟩) _ (by simp only [go_sem]; try rfl) ?_; simp only [go_sem, hS0]; first | done | ((repeat' apply And.intro) <;> first | omega | (refine w64 ?_ ?_ ?_ <;> omega) | rfl | skip))
  all_goals (first | exact congrArg (List.map c6.cells) h1.1.symm | (rw [h1.2]; done) | (rw [h1.2]; exact congrArg _ hc.1.symm) | trace_state)
 ·have h1 := outB_no (x := x) hc
  rw [← hsn (by omega)] at h1
  (refine lpK_n2 (⟨i + 1, by omega⟩) _ (by simp only [go_sem]; try rfl) ?_; simp only [go_sem, hS0]; first | done | ((repeat' apply And.intro) <;> first | omega | (refine w64 ?_ ?_ ?_ <;> omega) | rfl | skip))
  all_goals (first | exact congrArg (List.map c6.cells) h1.1.symm | (rw [h1.2]; done) | (rw [h1.2]; exact congrArg _ hc.1.symm) | trace_state)
 ·rw [a1i (by omega)] at hc ⊢
  rw [a3q, hc, cond_false, a7u x hc]
 ·rw [a1i (by omega)] at hc ⊢
  rw [a3q, hc, cond_true]
noncomputable def u4 : CT := t9 (fun (x : c9 × (List UInt8) × c7) h => a7h x.1 x.2.1 x.2.2 h)
@[go_sem] theorem b0U (x0 : List c6) (v : List UInt8) (x1 : Int) (x2 : List UInt8) : u4 [(true, [.sl false [.s [], .i .i64 0, .s []] (x0.map c6.cells)]), (false, [.s v]), (true, [.i .i64 x1, .s x2])] = some ((c9.mk x0).Binds.length ≤ 1000, [], .one (true, [.sl true [.s [], .i .i64 0, .s []] (((⟨u1 (c9.mk x0).Binds v (c7.mk x1 x2)⟩ : c9).Binds).map c6.cells)])) := j8 _ (by rintro ⟨⟨_⟩, _, ⟨_, _⟩⟩ ⟨⟨_⟩, _, ⟨_, _⟩⟩ h; simp at h; simp_all) ((c9.mk x0), v, (c7.mk x1 x2))
theorem x9 : OkC Try.prog 61 u4 := k9 _
def a2Y (a b : c7) : Bool := a.N == b.N && a.S == b.S
def a7J (b : List c6) (t : c8) (v : c7) : Option (List c6) := bif (l5 ⟨b⟩ t).2 then (bif a2Y (l5 ⟨b⟩ t).1 v then some b else none) else some (u1 b t.Var v)
def z0 (b : List c6) (args : List c8) (vs : List c7) : Nat → Option (List c6)
 | 0 => some b
 | n + 1 => (z0 b args vs n).bind fun c => a7J c (args.getD n default) (vs.getD n default)
def p9 (e : c9) (args : List c8) (row : d3) : c9 × Bool := bif decide (args.length = row.V.length) then (match z0 e.Binds args row.V args.length with | some c => (⟨c⟩, true) | none => (default, false)) else (default, false)
theorem a7s {b : List c6} {args : List c8} {vs : List c7} {i : Nat} (h : z0 b args vs i = none) : ∀ {n : Nat}, i ≤ n → z0 b args vs n = none
 | 0, hn => by
   obtain rfl : i = 0 := by omega
   exact h
 | n + 1, hn => by
   rcases Nat.lt_or_ge i (n + 1) with h1 | h1
   ·rw [z0, a7s h (show i ≤ n by omega)]; rfl
   ·obtain rfl : i = n + 1 := by omega
    exact h
theorem a5M {b : List c6} {args : List c8} {vs : List c7} : ∀ {n : Nat} {c : List c6}, z0 b args vs n = some c → c.length ≤ b.length + n
 | 0, c, h => by simp only [z0, Option.some.injEq] at h; subst h; exact Nat.le_refl _
 | n + 1, c, h => by
   rw [z0] at h
   obtain ⟨d, h1, h2⟩ := Option.bind_eq_some_iff.1 h
   have := a5M h1
   rw [a7J] at h2
   cases hv : (l5 ⟨d⟩ (args.getD n default)).2 with
   | true =>
     rw [hv, cond_true] at h2
     cases hs : a2Y (l5 ⟨d⟩ (args.getD n default)).1 (vs.getD n default) with
     | true => rw [hs, cond_true, Option.some.injEq] at h2; subst h2; omega
     | false => rw [hs] at h2; cases h2
   | false =>
     rw [hv, cond_false, Option.some.injEq] at h2
     subst h2
     rw [a3S]; omega
theorem b0d {b c : List c6} {args : List c8} {vs : List c7} {i : Nat} (h : z0 b args vs i = some c) (hv : (l5 ⟨c⟩ (args.getD i default)).2 = false) : z0 b args vs (i + 1) = some (u1 c (args.getD i default).Var (vs.getD i default)) := by
 rw [z0, h, Option.bind_some, a7J, hv, cond_false]
theorem a5O {b c : List c6} {args : List c8} {vs : List c7} {i : Nat} (h : z0 b args vs i = some c) (hv : (l5 ⟨c⟩ (args.getD i default)).2 = true) (hs : a2Y (l5 ⟨c⟩ (args.getD i default)).1 (vs.getD i default) = true) : z0 b args vs (i + 1) = some c := by
 rw [z0, h, Option.bind_some, a7J, hv, hs]; rfl
theorem a7K {b c : List c6} {args : List c8} {vs : List c7} {i n : Nat} (h : z0 b args vs i = some c) (hn : i < n) (hv : (l5 ⟨c⟩ (args.getD i default)).2 = true) (hs : a2Y (l5 ⟨c⟩ (args.getD i default)).1 (vs.getD i default) = false) : z0 b args vs n = none := by
 refine a7s (i := i + 1) ?_ hn
 rw [z0, h, Option.bind_some, a7J, hv, hs]; rfl
theorem a3U {e : c9} {t : c8} (h : (t.Var == []) = false) : l5 e t = m7 e t.Var := by rw [l5, h]; rfl
theorem a2C {e : c9} {t : c8} (h : (t.Var == []) = true) : l5 e t = (t.Val, true) := by rw [l5, h]; rfl
def a4I : ACode := q' ([o' 3 (.box 1 (.t 0)), o' 5 (.box 1 (.t 2)), w' 6 [.sl [.s [], .i .i64 0, .s []]], b' 7 false]) (.seq (q' ([m' 12 1, n' 13 12, f' 14 0 5, l' 15 14, n' 16
 15, o' 17 (.bin .neq (.t 13) (.t 16))]) (.cond (.t 17) (q' ([o' 18 (.bld [.sl [.s [], .i .i64 0, .s []]] []), s' 1 6 18, b' 7 false]) .ret) .skip)) (.seq (q'
 ([m' 19 1, n' 20 19, z' 21 0]) (.block 0 (.loop (q' ([r' 22 21 20]) (.seq (.cond (.t 22) .skip (.exit 0)) (.seq (.block 1 (q' ([m' 23 21, i' 24 3 19 21, e' 25
 3 24, w' 9 [.s, .i .i64, .s], m' 8 23, s' 3 9 25]) (q' ([e' 27 1 3, e' 28 3 9, c' 29 70 [27, 28], m' 26 29, o' 30 (.ext (.t 26) 0), o' 31 (.ext (.t 26) 1), w'
 10 [.i .i64, .s], s' 2 10 30, m' 11 31]) (.block 2 (q' ([m' 33 11, o' 34 (.not (.t 33)), m' 32 34]) (.cond (.t 32) (.rego [(true, 1, f' 36 0 9), (true, 2, l'
 37 36), (true, 3, f' 38 0 5), (true, 4, l' 39 38), (true, 5, m' 40 8), (true, 6, i' 41 2 39 40), (true, 7, e' 42 2 41), (false, 0, e' 35 1 3), (false, 8, c'
 43 71 [35, 37, 42]), (false, 9, s' 1 3 43)] [18, 19, 10, 11]) (.seq (.reg true [e' 45 2 10, f' 46 0 5, l' 47 46, m' 48 8, i' 49 2 47 48, e' 50 2 49, o' 51
 (.eqs true [.i .i64, .s] (.t 45) (.t 50)), m' 44 51]) (.cond (.t 44) (q' ([o' 52 (.bld [.sl [.s [], .i .i64 0, .s []]] []), s' 1 6 52, b' 7 false]) .ret)
 .skip)))))))) (g' [a' 53 21, m' 21 53]))))))) (q' ([e' 54 1 3, s' 1 6 54, b' 7 true]) .ret)))
theorem a8y : cmp Try.prog Try.f35 = some a4I := by kernel_rfl
theorem a7W (e : c9) (args : List c8) (row : d3) (hpre : e.Binds.length ≤ 500 ∧ row.V.length ≤ 6) : A0m Try.prog 35 [(true, [.sl true [.s [], .i .i64 0, .s []] (e.Binds.map c6.cells)]), (false, [.sl false [.s [], .i .i64 0, .s []] (args.map c8.cells)]), (true, [.sl false [.i .i64 0, .s []] (row.V.map c7.cells)])] [] (.tup [(true, [.sl true [.s [], .i .i64 0, .s []] ((((p9 e args row).1).Binds).map c6.cells)]), (false, [.b ((p9 e args row).2)])]) := by
 refine spec_of2 true false none Try.func35 a8y (rvs := [.c 6 true 1, .t 7]) (hΓ := mkCtx_ok (deep := true) (l := [(70, [], w4), (71, [], a2m)]) ⟨a0B, a5F, trivial⟩) (h := ?_)
 intro hb hE
 simp only [go_sem] at hb
 simp only [a4I, x']
 obtain ⟨hp1, hp2⟩ := hpre
 (try refine A2Z ?_); simp only [go_sem]; (repeat' first | apply CJ.mk | intro hc); all_goals try ((repeat' first | apply And.intro | intro hs) <;> (try simp only [go_sem, Bool.and_eq_false_iff] at hs) <;> omega)
 ·rw [p9, decide_eq_false (by intro h; rw [h] at hc; simp at hc)]; exact ⟨rfl, rfl⟩
 have hl : args.length = row.V.length := by simpa [Int.ofNat_inj, bne] using hc
 clear hc
 refine aw_loop2 true [(true, 6, 0, 200012)] [3, 5, 6, 19, 20] [10, 11, 19] [] (fun i : {q : Nat × List c6 // q.1 ≤ args.length ∧ z0 e.Binds args row.V q.1 = some q.2} => [(21, slV (.i .i64 i.1.1))]) (fun i => [(6, [.ow 200012]), (12, [.nl [.s [], .i .i64 0, .s []]])]) (fun i => [(200012, [.s [], .i .i64 0, .s []], i.1.2.map c6.cells)]) (fun i => args.length - i.1.1) (⟨(0, e.Binds), by simp, rfl⟩) _ (by simp only [go_sem]; try rfl) ?_ ?_
 ·simp only [go_sem]
  all_goals first | omega | ((repeat' apply And.intro) <;> first | omega | rfl | skip)
 intro S0 hS0 i
 simp only [go_sem] at hS0
 obtain ⟨⟨i, c⟩, hi, hf⟩ := i
 simp only at hi hf
 have hcl := a5M hf
 (try refine A2Z ?_); simp only [go_sem, hS0]; (repeat' first | apply CJ.mk | intro hc); all_goals try ((repeat' first | apply And.intro | intro hs) <;> (try simp only [go_sem, Bool.and_eq_false_iff] at hs) <;> omega)
 ·(refine lpK_n2 (⟨(i + 1, u1 c (args.getD i default).Var (row.V.getD i default)), by simp only; omega, b0d hf hc⟩) _ (by simp only [go_sem]; try rfl) ?_; simp only [go_sem, hS0]; first | done | ((repeat' apply And.intro) <;> first | omega | (refine w64 ?_ ?_ ?_ <;> omega) | rfl | skip))
 ·rename_i hv
  rw [p9, decide_eq_true hl, cond_true, a7K hf (by omega) hv hc]; exact ⟨rfl, rfl⟩
 ·rename_i hv
  (refine lpK_n2 (⟨(i + 1, c), by simp only; omega, a5O hf hv (by rw [a2Y, hc.1, hc.2]; rfl)⟩) _ (by simp only [go_sem]; try rfl) ?_; simp only [go_sem, hS0]; first | done | ((repeat' apply And.intro) <;> first | omega | (refine w64 ?_ ?_ ?_ <;> omega) | rfl | skip))
 ·obtain rfl : i = args.length := by omega
  rw [p9, decide_eq_true hl, cond_true, hf]; exact ⟨rfl, rfl⟩
 all_goals trace_state
noncomputable def a1n : CT := t9 (fun (x : c9 × (List c8) × d3) h => a7W x.1 x.2.1 x.2.2 h)
@[go_sem] theorem b1u (x0 : List c6) (x1 : List c8) (x2 : List c7) : a1n [(true, [.sl true [.s [], .i .i64 0, .s []] (x0.map c6.cells)]), (false, [.sl false [.s [], .i .i64 0, .s []] (x1.map c8.cells)]), (true, [.sl false [.i .i64 0, .s []] (x2.map c7.cells)])] = some ((c9.mk x0).Binds.length ≤ 500 ∧ (d3.mk x2).V.length ≤ 6, [], .tup [(true, [.sl true [.s [], .i .i64 0, .s []] ((((p9 (c9.mk x0) x1 (d3.mk x2)).1).Binds).map c6.cells)]), (false, [.b ((p9 (c9.mk x0) x1 (d3.mk x2)).2)])]) := j8 _ (by rintro ⟨⟨_⟩, _, ⟨_⟩⟩ ⟨⟨_⟩, _, ⟨_⟩⟩ h; simp at h; simp_all) ((c9.mk x0), x1, (d3.mk x2))
theorem a4O : OkC Try.prog 35 a1n := k9 _
def a1Z : ACode := q' ([o' 3 (.box 1 (.t 0)), o' 5 (.box 1 (.t 2)), w' 6 [.sl [.s [], .i .i64 0, .s []]], b' 7 false]) (.seq (q' ([m' 14 1, n' 15 14, f' 16 0 5, l' 17 16, n' 18
 17, o' 19 (.bin .neq (.t 15) (.t 18))]) (.cond (.t 19) (q' ([o' 20 (.bld [.sl [.s [], .i .i64 0, .s []]] []), s' 1 6 20, b' 7 false]) .ret) .skip)) (q' ([o'
 21 (.bsl 3 0 [.s, .i .i64, .s] []), f' 22 0 3, l' 23 22, o' 24 (.app 3 40 [.s, .i .i64, .s] (.t 21) (.t 23)), o' 25 (.bld [.sl [.s [], .i .i64 0, .s []]] [(0,
 1, .t 24)]), w' 8 [.sl [.s [], .i .i64 0, .s []]], s' 1 8 25]) (.seq (q' ([m' 26 1, n' 27 26, z' 28 0]) (.block 0 (.loop (q' ([r' 29 28 27]) (.seq (.cond (.t
 29) .skip (.exit 0)) (.seq (.block 1 (q' ([m' 30 28, i' 31 3 26 28, e' 32 3 31, w' 10 [.s, .i .i64, .s], m' 9 30, s' 3 10 32]) (q' ([f' 33 1 10, e' 34 2 33,
 w' 11 [.i .i64, .s], s' 2 11 34]) (.seq (q' ([f' 35 0 10, l' 36 35, o' 37 (.bin .neq (.t 36) (.k (.v false [.c (.s [])])))]) (.cond (.t 37) (q' ([e' 39 1 8,
 f' 40 0 10, l' 41 40, c' 42 65 [39, 41], m' 38 42, o' 43 (.ext (.t 38) 0), o' 44 (.ext (.t 38) 1), w' 12 [.i .i64, .s], s' 2 12 43, m' 13 44]) (.seq (q' ([m'
 45 13, o' 46 (.not (.t 45))]) (.cond (.t 46) (.seq (.rego [(true, 1, f' 48 0 10), (true, 2, l' 49 48), (true, 3, f' 50 0 5), (true, 4, l' 51 50), (true, 5, m'
 52 9), (true, 6, i' 53 2 51 52), (true, 7, e' 54 2 53), (false, 0, e' 47 1 8), (false, 8, c' 55 61 [47, 49, 54]), (false, 9, s' 1 8 55)] [20, 21, 10, 11]) (g'
 [f' 56 0 5, l' 57 56, m' 58 9, i' 59 2 57 58, e' 60 2 59, s' 2 12 60])) .skip)) (g' [e' 61 2 12, s' 2 11 61]))) .skip)) (.seq (.reg true [e' 62 2 11, f' 63 0
 5, l' 64 63, m' 65 9, i' 66 2 64 65, e' 67 2 66, o' 68 (.eqs true [.i .i64, .s] (.t 62) (.t 67))]) (.cond (.t 68) (q' ([o' 69 (.bld [.sl [.s [], .i .i64 0, .s
 []]] []), s' 1 6 69, b' 7 false]) .ret) .skip)))))) (g' [a' 70 28, m' 28 70]))))))) (q' ([e' 71 1 8, s' 1 6 71, b' 7 true]) .ret))))
theorem a6d : cmp Try.prog Try.f40 = some a1Z := by kernel_rfl
theorem a7f (e : c9) (args : List c8) (row : d3) (hpre : e.Binds.length ≤ 500 ∧ row.V.length ≤ 6) : A0m Try.prog 40 [(true, [.sl false [.s [], .i .i64 0, .s []] (e.Binds.map c6.cells)]), (false, [.sl false [.s [], .i .i64 0, .s []] (args.map c8.cells)]), (true, [.sl false [.i .i64 0, .s []] (row.V.map c7.cells)])] [] (.tup [(true, [.sl true [.s [], .i .i64 0, .s []] ((((p9 e args row).1).Binds).map c6.cells)]), (false, [.b ((p9 e args row).2)])]) := by
 refine spec_of2 false false none Try.func40 a6d (rvs := [.c 6 true 1, .t 7]) (hΓ := mkCtx_ok (deep := false) (l := [(65, [], y6), (61, [], u4)]) ⟨a1c, x9, trivial⟩) (h := ?_)
 intro hb hE
 simp only [go_sem] at hb
 simp only [a1Z, x']
 obtain ⟨hp1, hp2⟩ := hpre
 (try refine A2Z ?_); simp only [go_sem]; (repeat' first | apply CJ.mk | intro hc); all_goals try ((repeat' first | apply And.intro | intro hs) <;> (try simp only [go_sem, Bool.and_eq_false_iff] at hs) <;> omega)
 ·rw [p9, decide_eq_false (by intro h; rw [h] at hc; simp at hc)]; exact ⟨rfl, rfl⟩
 have hl : args.length = row.V.length := by simpa [Int.ofNat_inj, bne] using hc
 clear hc
 refine aw_loop2 false [(true, 16, 0, 200032)] [5, 6, 8, 26, 27] [10, 11, 21] [] (fun i : {q : Nat × List c6 // q.1 ≤ args.length ∧ z0 e.Binds args row.V q.1 = some q.2} => [(28, slV (.i .i64 i.1.1))]) (fun i => [(16, [.ow 200032]), (12, [.nl [.s [], .i .i64 0, .s []]])]) (fun i => [(200032, [.s [], .i .i64 0, .s []], i.1.2.map c6.cells)]) (fun i => args.length - i.1.1) (⟨(0, e.Binds), by simp, rfl⟩) _ (by simp only [go_sem]; try rfl) ?_ ?_
 ·simp only [go_sem]
  all_goals first | omega | ((repeat' apply And.intro) <;> first | omega | rfl | skip)
 intro S0 hS0 i
 simp only [go_sem] at hS0
 obtain ⟨⟨i, c⟩, hi, hf⟩ := i
 simp only at hi hf
 have hcl := a5M hf
 (try refine A2Z ?_); simp only [go_sem, hS0]; (repeat' first | apply CJ.mk | intro hc); all_goals try ((repeat' first | apply And.intro | intro hs) <;> (try simp only [go_sem, Bool.and_eq_false_iff] at hs) <;> omega)
 ·rename_i hv
  (refine lpK_n2 (⟨(i + 1, u1 c (args.getD i default).Var (row.V.getD i default)), by simp only; omega, b0d hf (by rw [a3U hv]; exact hc)⟩) _ (by simp only [go_sem]; try rfl) ?_; simp only [go_sem, hS0]; first | done | ((repeat' apply And.intro) <;> first | omega | (refine w64 ?_ ?_ ?_ <;> omega) | rfl | skip))
 ·rename_i hv ho
  rw [p9, decide_eq_true hl, cond_true, a7K hf (by omega) (by rw [a3U hv]; exact ho) (by rw [a3U hv]; exact hc)]; exact ⟨rfl, rfl⟩
 ·rename_i hv ho
  (refine lpK_n2 (⟨(i + 1, c), by simp only; omega, a5O hf (by rw [a3U hv]; exact ho) (by rw [a3U hv, a2Y, hc.1, hc.2]; rfl)⟩) _ (by simp only [go_sem]; try rfl) ?_; simp only [go_sem, hS0]; first | done | ((repeat' apply And.intro) <;> first | omega | (refine w64 ?_ ?_ ?_ <;> omega) | rfl | skip))
 ·rename_i hv
  rw [p9, decide_eq_true hl, cond_true, a7K hf (by omega) (by rw [a2C hv]) (by rw [a2C hv]; exact hc)]; exact ⟨rfl, rfl⟩
 ·rename_i hv
  (refine lpK_n2 (⟨(i + 1, c), by simp only; omega, a5O hf (by rw [a2C hv]) (by rw [a2C hv, a2Y, hc.1, hc.2]; rfl)⟩) _ (by simp only [go_sem]; try rfl) ?_; simp only [go_sem, hS0]; first | done | ((repeat' apply And.intro) <;> first | omega | (refine w64 ?_ ?_ ?_ <;> omega) | rfl | skip))
 ·obtain rfl : i = args.length := by omega
  rw [p9, decide_eq_true hl, cond_true, hf]; exact ⟨rfl, rfl⟩
noncomputable def a0Q : CT := t9 (fun (x : c9 × (List c8) × d3) h => a7f x.1 x.2.1 x.2.2 h)
@[go_sem] theorem b0S (x0 : List c6) (x1 : List c8) (x2 : List c7) : a0Q [(true, [.sl false [.s [], .i .i64 0, .s []] (x0.map c6.cells)]), (false, [.sl false [.s [], .i .i64 0, .s []] (x1.map c8.cells)]), (true, [.sl false [.i .i64 0, .s []] (x2.map c7.cells)])] = some ((c9.mk x0).Binds.length ≤ 500 ∧ (d3.mk x2).V.length ≤ 6, [], .tup [(true, [.sl true [.s [], .i .i64 0, .s []] ((((p9 (c9.mk x0) x1 (d3.mk x2)).1).Binds).map c6.cells)]), (false, [.b ((p9 (c9.mk x0) x1 (d3.mk x2)).2)])]) := j8 _ (by rintro ⟨⟨_⟩, _, ⟨_⟩⟩ ⟨⟨_⟩, _, ⟨_⟩⟩ h; simp at h; simp_all) ((c9.mk x0), x1, (d3.mk x2))
theorem a4l : OkC Try.prog 40 a0Q := k9 _
def a0j (e : c9) (args : List c8) (row : d3) : c9 × Bool := bif s7 e && t7 row && args.all i8 then (bif (p9 e args row).2 && decide (((p9 e args row).1.Binds.length : Int) ≤ 60) then p9 e args row else (default, false)) else (default, false)
theorem b0b {e : c9} {args : List c8} {row : d3} (h : (s7 e = false ∨ t7 row = false) ∨ args.all i8 = false) : a0j e args row = (default, false) := by
 have : (s7 e && t7 row && args.all i8) = false := by
  rcases h with (h | h) | h <;> rw [h] <;> simp
 rw [a0j, this]; rfl
theorem a2t {e : c9} {args : List c8} {row : d3} (h : (s7 e = true ∧ t7 row = true) ∧ args.all i8 = true) : a0j e args row = bif (p9 e args row).2 && decide (((p9 e args row).1.Binds.length : Int) ≤ 60) then p9 e args row else (default, false) := by
 rw [a0j, h.1.1, h.1.2, h.2]; rfl
theorem a8w {e : c9} {args : List c8} {row : d3} (h : (s7 e = true ∧ t7 row = true) ∧ args.all i8 = true) (h2 : (p9 e args row).2 = false ∨ 60 < ((p9 e args row).1.Binds.length : Int)) : a0j e args row = (default, false) := by
 rw [a2t h]
 rcases h2 with h2 | h2
 ·rw [h2]; rfl
 ·rw [decide_eq_false (by omega), Bool.and_false]; rfl
theorem b0c {e : c9} {args : List c8} {row : d3} (h : (s7 e = true ∧ t7 row = true) ∧ args.all i8 = true) (h2 : (p9 e args row).2 = true ∧ ¬ 60 < ((p9 e args row).1.Binds.length : Int)) : a0j e args row = p9 e args row := by
 rw [a2t h, h2.1, decide_eq_true (by omega)]; rfl
theorem a4n {e : c9} {row : d3} (h : s7 e = true ∧ t7 row = true) : e.Binds.length ≤ 500 ∧ row.V.length ≤ 6 := by
 have h1 := h.1
 have h2 := h.2
 simp only [s7, Bool.and_eq_true, decide_eq_true_eq] at h1
 simp only [t7, Bool.and_eq_true, decide_eq_true_eq] at h2
 omega
theorem a3A {l : List c8} : (l.any fun y => !i8 y) = !l.all i8 := by
 induction l with
 | nil => rfl
 | cons x l ih => rw [List.any_cons, List.all_cons, ih, Bool.not_and]
def a2O : ACode := q' ([o' 1 (.box 3 (.t 0)), b' 2 false]) (q' ([e' 3 3 1, c' 4 34 [3], o' 5 (.not (.t 4)), m' 2 5]) .ret)
theorem a6L : cmp Try.prog Try.f33 = some a2O := by kernel_rfl
theorem a7T (t : c8) : A0m Try.prog 33 [(true, [.s t.Var, .i .i64 t.Val.N, .s t.Val.S])] [] (.one (false, [.b (!i8 t)])) := by
 refine spec_of2 false false none Try.func33 a6L (rvs := [.t 2]) (hΓ := mkCtx_ok (deep := false) (l := [(34, [], y4)]) ⟨a1a, trivial⟩) (h := ?_)
 intro hb hE
 simp only [go_sem] at hb
 simp only [a2O, x']
 (try refine A2Z ?_); simp only [go_sem]; (repeat' first | apply CJ.mk | intro hc); all_goals try ((repeat' first | apply And.intro | intro hs) <;> (try simp only [go_sem, Bool.and_eq_false_iff] at hs) <;> omega)
 all_goals (first | rfl | trace_state)
noncomputable def a1l : CT := p8 (fun (x : c8) => a7T x)
@[go_sem] theorem b1r (x0 : List UInt8) (x1 : Int) (x2 : List UInt8) : a1l [(true, [.s x0, .i .i64 x1, .s x2])] = some (True, [], .one (false, [.b (!i8 (c8.mk x0 (c7.mk x1 x2)))])) := i9 _ (by rintro ⟨_, ⟨_, _⟩⟩ ⟨_, ⟨_, _⟩⟩ h; simp at h; simp_all) (c8.mk x0 (c7.mk x1 x2))
theorem a4M : OkC Try.prog 33 a1l := j3 _
theorem a8F (l : List c8) : A0m Try.prog 68 [(false, [.sl false [.s [], .i .i64 0, .s []] (l.map c8.cells)]), (false, [.f 33 []])] [] (.one (false, [.i .i64 (a3N (fun y : c8 => !i8 y) l)])) := by
 refine spec_of2 false false none Try.func68 a5Q (rvs := [.t 4]) (hΓ := mkCtx_ok (deep := false) (l := [(33, [], a1l)]) ⟨a4M, trivial⟩) (h := ?_)
 intro hb hE
 simp only [go_sem] at hb
 simp only [a3c, x']
 (try refine A2Z ?_); simp only [go_sem]; (repeat' first | apply CJ.mk | intro hc); all_goals try ((repeat' first | apply And.intro | intro hs) <;> (try simp only [go_sem, Bool.and_eq_false_iff] at hs) <;> omega)
 refine aw_loop2 false [] [0, 1, 7] [] [] (fun i : {i : Nat // i ≤ l.length ∧ (l.take i).any (fun y : c8 => !i8 y) = false} => [(8, slV (.i .i64 i.1))]) (fun i => []) (fun i => []) (fun i => l.length - i.1) (⟨0, by simp⟩) _ rfl ?_ ?_
 ·simp only [go_sem]
  all_goals first | omega | ((repeat' apply And.intro) <;> first | omega | rfl | skip)
 intro S0 hS0 i
 simp only [go_sem] at hS0
 obtain ⟨i, hi, ha⟩ := i
 (try refine A2Z ?_); simp only [go_sem, hS0]; (repeat' first | apply CJ.mk | intro hc); all_goals try ((repeat' first | apply And.intro | intro hs) <;> (try simp only [go_sem, Bool.and_eq_false_iff] at hs) <;> omega)
 ·exact (a2z (p := fun y : c8 => !i8 y) (d := default) (by omega) ha (by simpa [-List.getD_eq_getElem?_getD] using hc)).symm
 ·(refine lpK_n2 (⟨i + 1, by omega, a5y (p := fun y : c8 => !i8 y) default (by omega) ha (by simpa [-List.getD_eq_getElem?_getD] using hc)⟩) _ rfl ?_; simp only [go_sem, hS0]; first | done | ((repeat' apply And.intro) <;> first | omega | (refine w64 ?_ ?_ ?_ <;> omega) | rfl | skip))
 ·exact (a1d (by rwa [a1i (by omega)] at ha)).symm
 all_goals trace_state
noncomputable def a2j : CT := p8 (fun (x : (List c8)) => a8F x)
@[go_sem] theorem b2g (l : List c8) : a2j [(false, [.sl false [.s [], .i .i64 0, .s []] (l.map c8.cells)]), (false, [.f 33 []])] = some (True, [], .one (false, [.i .i64 (a3N (fun y : c8 => !i8 y) l)])) := i9 _ (by intro x y h; simp at h; simp_all) l
theorem a5C : OkC Try.prog 68 a2j := j3 _
theorem a8D (l : List c8) : A0m Try.prog 32 [(false, [.sl false [.s [], .i .i64 0, .s []] (l.map c8.cells)]), (false, [.f 33 []])] [] (.one (false, [.b (l.any (fun y : c8 => !i8 y))])) := by
 refine spec_of2 false false none Try.func32 a5P (rvs := [.t 4]) (hΓ := mkCtx_ok (deep := false) (l := [(68, [], a2j)]) ⟨a5C, trivial⟩) (h := ?_)
 intro hb hE
 simp only [go_sem] at hb
 simp only [a3b, x']
 (try refine A2Z ?_); simp only [go_sem]; (repeat' first | apply CJ.mk | intro hc); all_goals try ((repeat' first | apply And.intro | intro hs) <;> (try simp only [go_sem, Bool.and_eq_false_iff] at hs) <;> omega)
 ·exact a8A _ _
noncomputable def a2h : CT := p8 (fun (x : (List c8)) => a8D x)
@[go_sem] theorem b2e (l : List c8) : a2h [(false, [.sl false [.s [], .i .i64 0, .s []] (l.map c8.cells)]), (false, [.f 33 []])] = some (True, [], .one (false, [.b (l.any (fun y : c8 => !i8 y))])) := i9 _ (by intro x y h; simp at h; simp_all) l
theorem a5A : OkC Try.prog 32 a2h := j3 _
def a4H : ACode := q' ([o' 3 (.box 1 (.t 0)), o' 5 (.box 1 (.t 2)), w' 6 [.sl [.s [], .i .i64 0, .s []]], b' 7 false]) (.seq (q' ([e' 10 1 3, c' 11 10 [10], o' 12 (.not (.t 11)),
 m' 13 12, ⟨some 14, .ld true 1 (.t 5), some (13, false)⟩, ⟨some 15, .call 31 [.t 14], some (13, false)⟩, ⟨some 16, .not (.t 15), some (13, false)⟩, o' 17
 (.pick (.t 13) (.k (.v false [.c (.b true)])) (.t 16)), m' 18 17, ⟨some 19, .mov (.t 1), some (18, false)⟩, ⟨some 20, .call 32 [.t 19, .k (.v false [.c (.f 33
 [])])], some (18, false)⟩, o' 21 (.pick (.t 18) (.k (.v false [.c (.b true)])) (.t 20))]) (.cond (.t 21) (q' ([o' 22 (.bld [.sl [.s [], .i .i64 0, .s []]]
 []), s' 1 6 22, b' 7 false]) .ret) .skip)) (.seq (.regm [(true, 0, f' 24 0 3), (true, 1, l' 25 24), (true, 4, m' 28 1), (true, 5, e' 29 1 5), (false, 2, c' 26
 36 [25]), (false, 3, o' 27 (.bld [.sl [.s [], .i .i64 0, .s []]] [(0, 1, .t 26)])), (false, 6, c' 30 35 [27, 28, 29]), (false, 7, m' 23 30), (false, 8, o' 31
 (.ext (.t 23) 0)), (false, 9, o' 32 (.ext (.t 23) 1)), (false, 10, w' 8 [.sl [.s [], .i .i64 0, .s []]]), (false, 11, s' 1 8 31), (false, 12, m' 9 32)]
 [[(true, 0, f' 24 0 3), (true, 1, l' 25 24), (true, 4, m' 28 1), (true, 5, e' 29 1 5), (false, 2, c' 26 36 [25]), (false, 3, o' 27 (.bld [.sl [.s [], .i .i64
 0, .s []]] [(0, 1, .t 26)])), (false, 6, c' 30 35 [27, 28, 29]), (false, 7, m' 23 30), (false, 8, o' 31 (.ext (.t 23) 0)), (false, 10, w' 8 [.sl [.s [], .i
 .i64 0, .s []]]), (false, 9, o' 32 (.ext (.t 23) 1)), (false, 11, s' 1 8 31), (false, 12, m' 9 32)], [(true, 0, f' 24 0 3), (true, 1, l' 25 24), (true, 4, m'
 28 1), (true, 5, e' 29 1 5), (false, 2, c' 26 36 [25]), (false, 3, o' 27 (.bld [.sl [.s [], .i .i64 0, .s []]] [(0, 1, .t 26)])), (false, 6, c' 30 35 [27, 28,
 29]), (false, 7, m' 23 30), (false, 8, o' 31 (.ext (.t 23) 0)), (false, 10, w' 8 [.sl [.s [], .i .i64 0, .s []]]), (false, 11, s' 1 8 31), (false, 9, o' 32
 (.ext (.t 23) 1)), (false, 12, m' 9 32)], [(true, 0, f' 24 0 3), (true, 1, l' 25 24), (true, 4, m' 28 1), (true, 5, e' 29 1 5), (false, 2, c' 26 36 [25]),
 (false, 3, o' 27 (.bld [.sl [.s [], .i .i64 0, .s []]] [(0, 1, .t 26)])), (false, 6, c' 30 35 [27, 28, 29]), (false, 7, m' 23 30), (false, 9, o' 32 (.ext (.t
 23) 1)), (false, 8, o' 31 (.ext (.t 23) 0)), (false, 10, w' 8 [.sl [.s [], .i .i64 0, .s []]]), (false, 11, s' 1 8 31), (false, 12, m' 9 32)], [(true, 0, f'
 24 0 3), (true, 1, l' 25 24), (true, 4, m' 28 1), (true, 5, e' 29 1 5), (false, 2, c' 26 36 [25]), (false, 3, o' 27 (.bld [.sl [.s [], .i .i64 0, .s []]] [(0,
 1, .t 26)])), (false, 6, c' 30 35 [27, 28, 29]), (false, 7, m' 23 30), (false, 9, o' 32 (.ext (.t 23) 1)), (false, 10, w' 8 [.sl [.s [], .i .i64 0, .s []]]),
 (false, 8, o' 31 (.ext (.t 23) 0)), (false, 11, s' 1 8 31), (false, 12, m' 9 32)], [(true, 0, f' 24 0 3), (true, 1, l' 25 24), (true, 4, m' 28 1), (true, 5,
 e' 29 1 5), (false, 2, c' 26 36 [25]), (false, 3, o' 27 (.bld [.sl [.s [], .i .i64 0, .s []]] [(0, 1, .t 26)])), (false, 6, c' 30 35 [27, 28, 29]), (false, 7,
 m' 23 30), (false, 10, w' 8 [.sl [.s [], .i .i64 0, .s []]]), (false, 8, o' 31 (.ext (.t 23) 0)), (false, 9, o' 32 (.ext (.t 23) 1)), (false, 11, s' 1 8 31),
 (false, 12, m' 9 32)], [(true, 0, f' 24 0 3), (true, 1, l' 25 24), (true, 4, m' 28 1), (true, 5, e' 29 1 5), (false, 2, c' 26 36 [25]), (false, 3, o' 27 (.bld
 [.sl [.s [], .i .i64 0, .s []]] [(0, 1, .t 26)])), (false, 6, c' 30 35 [27, 28, 29]), (false, 7, m' 23 30), (false, 10, w' 8 [.sl [.s [], .i .i64 0, .s []]]),
 (false, 8, o' 31 (.ext (.t 23) 0)), (false, 11, s' 1 8 31), (false, 9, o' 32 (.ext (.t 23) 1)), (false, 12, m' 9 32)], [(true, 0, f' 24 0 3), (true, 1, l' 25
 24), (true, 4, m' 28 1), (true, 5, e' 29 1 5), (false, 2, c' 26 36 [25]), (false, 3, o' 27 (.bld [.sl [.s [], .i .i64 0, .s []]] [(0, 1, .t 26)])), (false, 6,
 c' 30 35 [27, 28, 29]), (false, 7, m' 23 30), (false, 10, w' 8 [.sl [.s [], .i .i64 0, .s []]]), (false, 9, o' 32 (.ext (.t 23) 1)), (false, 8, o' 31 (.ext
 (.t 23) 0)), (false, 11, s' 1 8 31), (false, 12, m' 9 32)], [(true, 0, f' 24 0 3), (true, 1, l' 25 24), (true, 4, m' 28 1), (true, 5, e' 29 1 5), (false, 2,
 c' 26 36 [25]), (false, 3, o' 27 (.bld [.sl [.s [], .i .i64 0, .s []]] [(0, 1, .t 26)])), (false, 6, c' 30 35 [27, 28, 29]), (false, 10, w' 8 [.sl [.s [], .i
 .i64 0, .s []]]), (false, 7, m' 23 30), (false, 8, o' 31 (.ext (.t 23) 0)), (false, 9, o' 32 (.ext (.t 23) 1)), (false, 11, s' 1 8 31), (false, 12, m' 9 32)],
 [(true, 0, f' 24 0 3), (true, 1, l' 25 24), (true, 4, m' 28 1), (true, 5, e' 29 1 5), (false, 2, c' 26 36 [25]), (false, 3, o' 27 (.bld [.sl [.s [], .i .i64
 0, .s []]] [(0, 1, .t 26)])), (false, 6, c' 30 35 [27, 28, 29]), (false, 10, w' 8 [.sl [.s [], .i .i64 0, .s []]]), (false, 7, m' 23 30), (false, 8, o' 31
 (.ext (.t 23) 0)), (false, 11, s' 1 8 31), (false, 9, o' 32 (.ext (.t 23) 1)), (false, 12, m' 9 32)], [(true, 0, f' 24 0 3), (true, 1, l' 25 24), (true, 4, m'
 28 1), (true, 5, e' 29 1 5), (false, 2, c' 26 36 [25]), (false, 3, o' 27 (.bld [.sl [.s [], .i .i64 0, .s []]] [(0, 1, .t 26)])), (false, 6, c' 30 35 [27, 28,
 29]), (false, 10, w' 8 [.sl [.s [], .i .i64 0, .s []]]), (false, 7, m' 23 30), (false, 9, o' 32 (.ext (.t 23) 1)), (false, 8, o' 31 (.ext (.t 23) 0)), (false,
 11, s' 1 8 31), (false, 12, m' 9 32)], [(true, 0, f' 24 0 3), (true, 1, l' 25 24), (true, 4, m' 28 1), (true, 5, e' 29 1 5), (false, 2, c' 26 36 [25]),
 (false, 3, o' 27 (.bld [.sl [.s [], .i .i64 0, .s []]] [(0, 1, .t 26)])), (false, 10, w' 8 [.sl [.s [], .i .i64 0, .s []]]), (false, 6, c' 30 35 [27, 28,
 29]), (false, 7, m' 23 30), (false, 8, o' 31 (.ext (.t 23) 0)), (false, 9, o' 32 (.ext (.t 23) 1)), (false, 11, s' 1 8 31), (false, 12, m' 9 32)], [(true, 0,
 f' 24 0 3), (true, 1, l' 25 24), (true, 4, m' 28 1), (true, 5, e' 29 1 5), (false, 2, c' 26 36 [25]), (false, 3, o' 27 (.bld [.sl [.s [], .i .i64 0, .s []]]
 [(0, 1, .t 26)])), (false, 10, w' 8 [.sl [.s [], .i .i64 0, .s []]]), (false, 6, c' 30 35 [27, 28, 29]), (false, 7, m' 23 30), (false, 8, o' 31 (.ext (.t 23)
 0)), (false, 11, s' 1 8 31), (false, 9, o' 32 (.ext (.t 23) 1)), (false, 12, m' 9 32)], [(true, 0, f' 24 0 3), (true, 1, l' 25 24), (true, 4, m' 28 1), (true,
 5, e' 29 1 5), (false, 2, c' 26 36 [25]), (false, 3, o' 27 (.bld [.sl [.s [], .i .i64 0, .s []]] [(0, 1, .t 26)])), (false, 10, w' 8 [.sl [.s [], .i .i64 0,
 .s []]]), (false, 6, c' 30 35 [27, 28, 29]), (false, 7, m' 23 30), (false, 9, o' 32 (.ext (.t 23) 1)), (false, 8, o' 31 (.ext (.t 23) 0)), (false, 11, s' 1 8
 31), (false, 12, m' 9 32)], [(true, 0, f' 24 0 3), (true, 1, l' 25 24), (true, 4, m' 28 1), (true, 5, e' 29 1 5), (false, 2, c' 26 36 [25]), (false, 10, w' 8
 [.sl [.s [], .i .i64 0, .s []]]), (false, 3, o' 27 (.bld [.sl [.s [], .i .i64 0, .s []]] [(0, 1, .t 26)])), (false, 6, c' 30 35 [27, 28, 29]), (false, 7, m'
 23 30), (false, 8, o' 31 (.ext (.t 23) 0)), (false, 9, o' 32 (.ext (.t 23) 1)), (false, 11, s' 1 8 31), (false, 12, m' 9 32)], [(true, 0, f' 24 0 3), (true,
 1, l' 25 24), (true, 4, m' 28 1), (true, 5, e' 29 1 5), (false, 2, c' 26 36 [25]), (false, 10, w' 8 [.sl [.s [], .i .i64 0, .s []]]), (false, 3, o' 27 (.bld
 [.sl [.s [], .i .i64 0, .s []]] [(0, 1, .t 26)])), (false, 6, c' 30 35 [27, 28, 29]), (false, 7, m' 23 30), (false, 8, o' 31 (.ext (.t 23) 0)), (false, 11, s'
 1 8 31), (false, 9, o' 32 (.ext (.t 23) 1)), (false, 12, m' 9 32)], [(true, 0, f' 24 0 3), (true, 1, l' 25 24), (true, 4, m' 28 1), (true, 5, e' 29 1 5),
 (false, 2, c' 26 36 [25]), (false, 10, w' 8 [.sl [.s [], .i .i64 0, .s []]]), (false, 3, o' 27 (.bld [.sl [.s [], .i .i64 0, .s []]] [(0, 1, .t 26)])),
 (false, 6, c' 30 35 [27, 28, 29]), (false, 7, m' 23 30), (false, 9, o' 32 (.ext (.t 23) 1)), (false, 8, o' 31 (.ext (.t 23) 0)), (false, 11, s' 1 8 31),
 (false, 12, m' 9 32)], [(true, 0, f' 24 0 3), (true, 1, l' 25 24), (true, 4, m' 28 1), (true, 5, e' 29 1 5), (false, 10, w' 8 [.sl [.s [], .i .i64 0, .s
 []]]), (false, 2, c' 26 36 [25]), (false, 3, o' 27 (.bld [.sl [.s [], .i .i64 0, .s []]] [(0, 1, .t 26)])), (false, 6, c' 30 35 [27, 28, 29]), (false, 7, m'
 23 30), (false, 8, o' 31 (.ext (.t 23) 0)), (false, 9, o' 32 (.ext (.t 23) 1)), (false, 11, s' 1 8 31), (false, 12, m' 9 32)], [(true, 0, f' 24 0 3), (true,
 1, l' 25 24), (true, 4, m' 28 1), (true, 5, e' 29 1 5), (false, 10, w' 8 [.sl [.s [], .i .i64 0, .s []]]), (false, 2, c' 26 36 [25]), (false, 3, o' 27 (.bld
 [.sl [.s [], .i .i64 0, .s []]] [(0, 1, .t 26)])), (false, 6, c' 30 35 [27, 28, 29]), (false, 7, m' 23 30), (false, 8, o' 31 (.ext (.t 23) 0)), (false, 11, s'
 1 8 31), (false, 9, o' 32 (.ext (.t 23) 1)), (false, 12, m' 9 32)], [(true, 0, f' 24 0 3), (true, 1, l' 25 24), (true, 4, m' 28 1), (true, 5, e' 29 1 5),
 (false, 10, w' 8 [.sl [.s [], .i .i64 0, .s []]]), (false, 2, c' 26 36 [25]), (false, 3, o' 27 (.bld [.sl [.s [], .i .i64 0, .s []]] [(0, 1, .t 26)])),
 (false, 6, c' 30 35 [27, 28, 29]), (false, 7, m' 23 30), (false, 9, o' 32 (.ext (.t 23) 1)), (false, 8, o' 31 (.ext (.t 23) 0)), (false, 11, s' 1 8 31),
 (false, 12, m' 9 32)]] [6, 7, 10, 11]) (.seq (q' ([m' 33 9, o' 34 (.not (.t 33)), m' 35 34, ⟨some 36, .fa 0 (.t 8), some (35, false)⟩, ⟨some 37, .ld false 1
 (.t 36), some (35, false)⟩, ⟨some 38, .len (.t 37), some (35, false)⟩, ⟨some 39, .bin .gtr (.t 38) (k' 60), some (35, false)⟩, o' 40 (.pick (.t 35) (.k (.v
 false [.c (.b true)])) (.t 39))]) (.cond (.t 40) (q' ([o' 41 (.bld [.sl [.s [], .i .i64 0, .s []]] []), s' 1 6 41, b' 7 false]) .ret) .skip)) (q' ([e' 42 1 8,
 s' 1 6 42, b' 7 true]) .ret))))
theorem a8x : cmp Try.prog Try.f6 = some a4H := by kernel_rfl
theorem a9H (e : c9) (args : List c8) (row : d3) : A0m Try.prog 6 [(true, [.sl false [.s [], .i .i64 0, .s []] (e.Binds.map c6.cells)]), (false, [.sl false [.s [], .i .i64 0, .s []] (args.map c8.cells)]), (true, [.sl false [.i .i64 0, .s []] (row.V.map c7.cells)])] [] (.tup [(true, [.sl true [.s [], .i .i64 0, .s []] ((((a0j e args row).1).Binds).map c6.cells)]), (false, [.b ((a0j e args row).2)])]) := by
 refine spec_of2 true false none Try.func6 a8x (rvs := [.c 6 true 1, .t 7]) (hΓ := mkCtx_ok (deep := true) (l := [(10, [], v8), (31, [], a1m), (32, [], a2h), (36, [], a0z), (35, [0], a1n)]) ⟨z5, a4N, a5A, a2g, a4O, trivial⟩) (h := ?_)
 intro hb hE
 simp only [go_sem] at hb
 simp only [a4H, x']
 (try refine A2Z ?_); simp only [go_sem, a3A]; (repeat' first | apply CJ.mk | intro hc | apply a0e); (all_goals (try ((first | refine w8 4 rfl ?_); intro S hS B0 hB; simp only [go_sem, a3A, List.take_succ_cons, List.take_zero] at hS hB; (repeat (first | replace hS := And.right hS | replace hS := CJ.r hS)); have Rr25 := congrArg (fun s : St => s.sl 25) hS; have Rr28 := congrArg (fun s : St => s.sl 28) hS; have Rr29 := congrArg (fun s : St => s.sl 29) hS; have Rb6 := congrArg (fun s : St => s.bx 6) hS; have Rb7 := congrArg (fun s : St => s.bx 7) hS; have Rb10 := congrArg (fun s : St => s.bx 10) hS; have Rb11 := congrArg (fun s : St => s.bx 11) hS; have Rb12 := congrArg (fun s : St => s.bx 12) hS; clear hS; simp only [go_sem, a3A] at Rr25 Rr28 Rr29 Rb6 Rb7 Rb10 Rb11 Rb12; (try clear hc); intro K hc; simp only [go_sem, a3A, Rr25, Rr28, Rr29, Rb6, Rb7, Rb10, Rb11, Rb12, hB, List.map_cons, List.map_nil, List.drop_succ_cons, List.drop_zero] at hc ⊢; simp only [go_sem, a3A, Rr25, Rr28, Rr29, Rb6, Rb7, Rb10, Rb11, Rb12, hB, A6V, A6Z, A6o, A6n, A6U, A6m, nf_put_sub, A6X, A6W, nf_put_susK, nf_put_dip, nf_put_put, A6Y, A6T, A6p, n8, n7, nf_sub_sub] at hc ⊢; simp only [hc, and_self, true_and]; done))); all_goals try ((repeat' first | apply And.intro | intro hs) <;> (try simp only [go_sem, Bool.and_eq_false_iff] at hs) <;> omega)
 ·rw [b0b hc]; exact ⟨rfl, rfl⟩
 ·have := a4n hc.1; omega
 ·exact a4n hc.1
 ·rename_i h
  rw [a8w h hc]; exact ⟨rfl, rfl⟩
 ·rename_i h
  rw [b0c h hc]; exact ⟨rfl, hc.1.symm⟩
 all_goals trace_state
noncomputable def a3f : CT := p8 (fun (x : c9 × (List c8) × d3) => a9H x.1 x.2.1 x.2.2)
@[go_sem] theorem b2L (x0 : List c6) (x1 : List c8) (x2 : List c7) : a3f [(true, [.sl false [.s [], .i .i64 0, .s []] (x0.map c6.cells)]), (false, [.sl false [.s [], .i .i64 0, .s []] (x1.map c8.cells)]), (true, [.sl false [.i .i64 0, .s []] (x2.map c7.cells)])] = some (True, [], .tup [(true, [.sl true [.s [], .i .i64 0, .s []] ((((a0j (c9.mk x0) x1 (d3.mk x2)).1).Binds).map c6.cells)]), (false, [.b ((a0j (c9.mk x0) x1 (d3.mk x2)).2)])]) := i9 _ (by rintro ⟨⟨_⟩, _, ⟨_⟩⟩ ⟨⟨_⟩, _, ⟨_⟩⟩ h; simp at h; simp_all) ((c9.mk x0), x1, (d3.mk x2))
theorem a6H : OkC Try.prog 6 a3f := j3 _
def a4J : ACode := q' ([o' 3 (.box 1 (.t 0)), o' 5 (.box 1 (.t 2)), w' 6 [.sl [.s [], .i .i64 0, .s []]], b' 7 false]) (.seq (q' ([e' 10 1 3, c' 11 37 [10], o' 12 (.not (.t 11)),
 m' 13 12, ⟨some 14, .ld true 1 (.t 5), some (13, false)⟩, ⟨some 15, .call 38 [.t 14], some (13, false)⟩, ⟨some 16, .not (.t 15), some (13, false)⟩, o' 17
 (.pick (.t 13) (.k (.v false [.c (.b true)])) (.t 16)), m' 18 17, ⟨some 19, .mov (.t 1), some (18, false)⟩, ⟨some 20, .call 39 [.t 19], some (18, false)⟩,
 ⟨some 21, .not (.t 20), some (18, false)⟩, o' 22 (.pick (.t 18) (.k (.v false [.c (.b true)])) (.t 21))]) (.cond (.t 22) (q' ([o' 23 (.bld [.sl [.s [], .i
 .i64 0, .s []]] []), s' 1 6 23, b' 7 false]) .ret) .skip)) (q' ([e' 25 1 3, m' 26 1, e' 27 1 5, c' 28 40 [25, 26, 27], m' 24 28, o' 29 (.ext (.t 24) 0), o' 30
 (.ext (.t 24) 1), w' 8 [.sl [.s [], .i .i64 0, .s []]], s' 1 8 29, m' 9 30]) (.seq (q' ([m' 31 9, o' 32 (.not (.t 31)), m' 33 32, ⟨some 34, .fa 0 (.t 8), some
 (33, false)⟩, ⟨some 35, .ld false 1 (.t 34), some (33, false)⟩, ⟨some 36, .len (.t 35), some (33, false)⟩, ⟨some 37, .bin .gtr (.t 36) (k' 60), some (33,
 false)⟩, o' 38 (.pick (.t 33) (.k (.v false [.c (.b true)])) (.t 37))]) (.cond (.t 38) (q' ([o' 39 (.bld [.sl [.s [], .i .i64 0, .s []]] []), s' 1 6 39, b' 7
 false]) .ret) .skip)) (q' ([e' 40 1 8, s' 1 6 40, b' 7 true]) .ret))))
theorem a8z : cmp Try.prog Try.f7 = some a4J := by kernel_rfl
theorem a9I (e : c9) (args : List c8) (row : d3) : A0m Try.prog 7 [(true, [.sl false [.s [], .i .i64 0, .s []] (e.Binds.map c6.cells)]), (false, [.sl false [.s [], .i .i64 0, .s []] (args.map c8.cells)]), (true, [.sl false [.i .i64 0, .s []] (row.V.map c7.cells)])] [] (.tup [(true, [.sl true [.s [], .i .i64 0, .s []] ((((a0j e args row).1).Binds).map c6.cells)]), (false, [.b ((a0j e args row).2)])]) := by
 refine spec_of2 false false none Try.func7 a8z (rvs := [.c 6 true 1, .t 7]) (hΓ := mkCtx_ok (deep := false) (l := [(37, [], a1p), (38, [], a0h), (39, [], a0b), (40, [], a0Q)]) ⟨a4Q, a1H, a3m, a4l, trivial⟩) (h := ?_)
 intro hb hE
 simp only [go_sem] at hb
 simp only [a4J, x']
 (try refine A2Z ?_); simp only [go_sem]; (repeat' first | apply CJ.mk | intro hc); all_goals try ((repeat' first | apply And.intro | intro hs) <;> (try simp only [go_sem, Bool.and_eq_false_iff] at hs) <;> omega)
 ·rw [b0b hc]; exact ⟨rfl, rfl⟩
 ·exact a4n hc.1
 ·rename_i h
  rw [a8w h hc]; exact ⟨rfl, rfl⟩
 ·rename_i h
  rw [b0c h hc]; exact ⟨rfl, hc.1.symm⟩
 all_goals trace_state
noncomputable def a3h : CT := p8 (fun (x : c9 × (List c8) × d3) => a9I x.1 x.2.1 x.2.2)
@[go_sem] theorem b2M (x0 : List c6) (x1 : List c8) (x2 : List c7) : a3h [(true, [.sl false [.s [], .i .i64 0, .s []] (x0.map c6.cells)]), (false, [.sl false [.s [], .i .i64 0, .s []] (x1.map c8.cells)]), (true, [.sl false [.i .i64 0, .s []] (x2.map c7.cells)])] = some (True, [], .tup [(true, [.sl true [.s [], .i .i64 0, .s []] ((((a0j (c9.mk x0) x1 (d3.mk x2)).1).Binds).map c6.cells)]), (false, [.b ((a0j (c9.mk x0) x1 (d3.mk x2)).2)])]) := i9 _ (by rintro ⟨⟨_⟩, _, ⟨_⟩⟩ ⟨⟨_⟩, _, ⟨_⟩⟩ h; simp at h; simp_all) ((c9.mk x0), x1, (d3.mk x2))
theorem a6I : OkC Try.prog 7 a3h := j3 _
end Go.Aw
