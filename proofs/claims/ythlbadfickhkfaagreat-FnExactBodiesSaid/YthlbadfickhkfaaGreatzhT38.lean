/- Environments in their order; the bodies of a rule. No condition. -/
import Derived.Test.YthlbadfickhkfaaGreatzhT37
import Derived.Test.YthlbadfickhkfaaGreatlBx13zh
import Derived.Test.YthlbadfickhkfaaGreatShelf
namespace Go.Aw
open Go.Proofs Go.Shelf
attribute [local irreducible] aft blk lpK retK AW A0m
set_option linter.unusedVariables false
set_option linter.unusedSimpArgs false
set_option maxRecDepth 100000
set_option maxHeartbeats 4000000
attribute [local irreducible] RM
def Comp (vs : List (List UInt8)) (e : c8) : Prop := EnvS e.Binds ∧ e.Binds.map c7.Var = vs
theorem Comp.len {vs : List (List UInt8)} {a b : c8} (ha : Comp vs a) (hb : Comp vs b) : a.Binds.length = b.Binds.length := by
 have := congrArg List.length (ha.2.trans hb.2.symm)
 simpa using this
theorem Comp.cmp {vs : List (List UInt8)} {a b : c8} (ha : Comp vs a) (hb : Comp vs b) : a2n a.Binds b.Binds = bif o9 a b then -1 else bif o9 b a then 1 else 0 :=
 b5f (fun x hx => (ha.1.1 x hx).2) (fun x hx => (hb.1.1 x hx).2) (ha.2.trans hb.2.symm)
theorem Comp.eq0 {vs : List (List UInt8)} {a b : c8} (ha : Comp vs a) (hb : Comp vs b) (h : (a2n a.Binds b.Binds == 0) = true) : a = b := by
 rw [ha.cmp hb] at h
 cases h1 : o9 a b with
 | true => rw [h1, cond_true] at h; exact absurd h (by decide)
 | false =>
   cases h2 : o9 b a with
   | true => rw [h1, h2, cond_false, cond_true] at h; exact absurd h (by decide)
   | false => exact a1g.tri _ _ h1 h2
theorem Comp.ne0 {vs : List (List UInt8)} {a b : c8} (ha : Comp vs a) (hb : Comp vs b) (h : (a2n a.Binds b.Binds == 0) = false) : ¬ a = b := by
 rintro rfl
 rw [ha.cmp hb, a1g.irr] at h
 exact absurd h (by decide)
theorem Comp.lt1 {vs : List (List UInt8)} {a b : c8} (ha : Comp vs a) (hb : Comp vs b) : (a2n a.Binds b.Binds == -1) = o9 a b := by
 rw [ha.cmp hb]
 cases o9 a b with
 | true => rfl
 | false => cases o9 b a <;> rfl
theorem Comp.by {vs : List (List UInt8)} {a b : c8} (ha : Comp vs a) (hb : Comp vs b) : decide (a1f a.Binds.length (b5e a.Binds b.Binds) < 0) = o9 a b := by
 have h1 : sgn (a1f a.Binds.length (b5e a.Binds b.Binds)) = a2n a.Binds b.Binds := c0V fun i hi => b2S (ha.1.1 _ (a0M default hi)).2 (hb.1.1 _ (a0M default (by rw [← ha.len hb]; exact hi))).2
 rw [ha.cmp hb] at h1
 generalize a1f a.Binds.length (b5e a.Binds b.Binds) = x at h1
 unfold sgn at h1
 cases h : o9 a b with
 | true => rw [h, cond_true] at h1; exact decide_eq_true (by omega)
 | false =>
   rw [h, cond_false] at h1
   cases h2 : o9 b a with
   | true => rw [h2, cond_true] at h1; exact decide_eq_false (by omega)
   | false => rw [h2, cond_false] at h1; exact decide_eq_false (by omega)
def a4Z : ACode := q' ([o' 2 (.box 1 (.t 0)), o' 3 (.box 1 (.t 1)), z' 4 0]) (.seq (q' ([f' 6 0 2, l' 7 6, n' 8 7, z' 9 0]) (.block 0 (.loop (q' ([r' 10 9 8]) (.seq (.cond (.t 10)
 .skip (.exit 0)) (.seq (.block 1 (q' ([m' 11 9, m' 5 11]) (.seq (.seq (.reg true [f' 12 0 2, l' 13 12, m' 14 5, i' 15 3 13 14, f' 16 1 15, e' 17 2 16, f' 18 0
 3, l' 19 18, m' 20 5, i' 21 3 19 20, f' 22 1 21, e' 23 2 22, c' 24 322 [17, 23]]) (.cond (.t 24) (q' ([o' 4 (.mov (.k (.v false [.c (.i .i64 (-1))])))]) .ret)
 .skip)) (.seq (.reg true [f' 25 0 3, l' 26 25, m' 27 5, i' 28 3 26 27, f' 29 1 28, e' 30 2 29, f' 31 0 2, l' 32 31, m' 33 5, i' 34 3 32 33, f' 35 1 34, e' 36
 2 35, c' 37 322 [30, 36]]) (.cond (.t 37) (q' ([z' 4 1]) .ret) .skip))))) (g' [a' 38 9, m' 9 38]))))))) (q' ([z' 4 0]) .ret))
theorem b2n : cmp Tryz.prog Tryz.f271 = some a4Z := by kernel_rfl
theorem b4A (a : c8) (b : c8) (hpre : a.Binds.length = b.Binds.length) : A0m Tryz.prog 271 [(true, [.sl false [.s [], .i .i64 0, .s []] (a.Binds.map c7.cells)]), (true, [.sl false [.s [], .i .i64 0, .s []] (b.Binds.map c7.cells)])] [] (.one (false, [.i .i64 (a2n a.Binds b.Binds)])) := by
 refine spec_of2 false false none Tryz.func271 b2n (rvs := [.t 4]) (hΓ := mkCtx_ok (deep := false) (l := [(322, [], a0H)]) ⟨a3P, trivial⟩) (h := ?_)
 intro hb hE
 simp only [go_sem] at hb
 simp only [a4Z, x']
 (try refine A2Z ?_); simp only [go_sem]; (repeat' first | apply CJ.mk | intro hc); all_goals try ((repeat' first | apply And.intro | intro hs) <;> (try simp only [go_sem, Bool.and_eq_false_iff] at hs) <;> omega)
 refine aw_loop2 false [] [2, 3, 8] [4, 6] [] (fun i : {i : Nat // i ≤ a.Binds.length ∧ ∀ j, j < i → a8u (a.Binds.getD j default).Val (b.Binds.getD j default).Val = 0} => [(9, slV (.i .i64 i.1))]) (fun i => []) (fun i => []) (fun i => a.Binds.length - i.1) (⟨0, by simp⟩) _ rfl ?_ ?_
 ·simp only [go_sem]
  all_goals first | omega | ((repeat' apply And.intro) <;> first | omega | rfl | skip)
 intro S0 hS0 i
 simp only [go_sem] at hS0
 obtain ⟨i, hi, hz⟩ := i
 (try refine A2Z ?_); simp only [go_sem, hS0]; (repeat' first | apply CJ.mk | intro hc); all_goals try ((repeat' first | apply And.intro | intro hs) <;> (try simp only [go_sem, Bool.and_eq_false_iff] at hs) <;> omega)
 ·rw [b2Q hz (by rw [a8u, hc, cond_true]; decide) (by omega), a8u, hc]; rfl
 ·rename_i h1
  rw [b2Q hz (by rw [a8u, h1, hc]; decide) (by omega), a8u, h1, hc]; rfl
 ·rename_i h1
  (refine lpK_n2 (⟨i + 1, by omega, fun j hj => (Nat.lt_succ_iff_lt_or_eq.1 hj).elim (hz j) (fun q => q ▸ (by rw [a8u, h1, hc]; rfl))⟩) _ rfl ?_; simp only [go_sem, hS0]; first | done | ((repeat' apply And.intro) <;> first | omega | (refine w64 ?_ ?_ ?_ <;> omega) | rfl | skip))
 ·rw [c1a fun j hj => hz j (by omega)]
 all_goals trace_state
noncomputable def a2m : CT := l8 (fun (x : c8 × c8) h => b4A x.1 x.2 h)
@[go_sem] theorem c3g (x0 x1 : List c7) : a2m [(true, [.sl false [.s [], .i .i64 0, .s []] (x0.map c7.cells)]), (true, [.sl false [.s [], .i .i64 0, .s []] (x1.map c7.cells)])] = some ((c8.mk x0).Binds.length = (c8.mk x1).Binds.length, [], .one (false, [.i .i64 (a2n (c8.mk x0).Binds (c8.mk x1).Binds)])) := f9 _ (by rintro ⟨⟨_⟩, ⟨_⟩⟩ ⟨⟨_⟩, ⟨_⟩⟩ h; simp at h; simp_all) ((c8.mk x0), (c8.mk x1))
theorem a9H : OkC Tryz.prog 271 a2m := i3 _
def a7C : ACode := q' ([o' 3 (.box 1 (.t 1)), o' 4 (.mov (.k (.v false [.nl [.sl false [.s [], .i .i64 0, .s []] []]])))]) (q' ([o' 9 (.bsl 1 0 [.sl [.s [], .i .i64 0, .s []]]
 []), m' 5 9]) (q' ([b' 6 false]) (.seq (q' ([m' 10 0, n' 11 10, z' 12 0]) (.block 0 (.loop (q' ([r' 13 12 11]) (.seq (.cond (.t 13) .skip (.exit 0)) (.seq
 (.block 1 (q' ([m' 14 12, m' 7 14]) (.seq (.reg true [e' 15 1 3, m' 16 0, m' 17 7, i' 18 1 16 17, e' 19 1 18, c' 20 271 [15, 19], m' 8 20]) (.seq (q' ([m' 21
 8, o' 22 (.bin .eql (.t 21) (k' 0))]) (.cond (.t 22) (q' ([m' 23 0, m' 4 23]) .ret) .skip)) (.seq (q' ([m' 24 6, o' 25 (.not (.t 24)), m' 26 25, ⟨some 27,
 .mov (.t 8), some (26, true)⟩, ⟨some 28, .bin .eql (.t 27) (.k (.v false [.c (.i .i64 (-1))])), some (26, true)⟩, o' 29 (.pick (.t 26) (.t 28) (.k (.v false
 [.c (.b false)])))]) (.cond (.t 29) (q' ([m' 30 5, e' 31 1 3, o' 32 (.bsl 1 1 [.sl [.s [], .i .i64 0, .s []]] [(0, .t 31)]), o' 33 (.app 1 24 [.sl [.s [], .i
 .i64 0, .s []]] (.t 30) (.t 32)), m' 5 33]) (g' [b' 6 true])) .skip)) (g' [m' 34 5, m' 35 0, m' 36 7, i' 37 1 35 36, e' 38 1 37, o' 39 (.bsl 1 1 [.sl [.s [],
 .i .i64 0, .s []]] [(0, .t 38)]), o' 40 (.app 1 24 [.sl [.s [], .i .i64 0, .s []]] (.t 34) (.t 39)), m' 5 40])))))) (g' [a' 41 12, m' 12 41]))))))) (.seq (q'
 ([m' 42 6, o' 43 (.not (.t 42))]) (.cond (.t 43) (g' [m' 44 5, e' 45 1 3, o' 46 (.bsl 1 1 [.sl [.s [], .i .i64 0, .s []]] [(0, .t 45)]), o' 47 (.app 1 24 [.sl
 [.s [], .i .i64 0, .s []]] (.t 44) (.t 46)), m' 5 47]) .skip)) (q' ([m' 48 5, m' 4 48]) .ret)))))
theorem b5Z : cmp Tryz.prog Tryz.f188 = some a7C := by kernel_rfl
theorem b8C (l : List c8) (e : c8) (hpre : l.length ≤ 4000 ∧ ∃ vs, Comp vs e ∧ ∀ x ∈ l, Comp vs x) : A0m Tryz.prog 188 [(false, [.sl false [.sl false [.s [], .i .i64 0, .s []] []] (l.map (c8.cells false false))]), (true, [.sl false [.s [], .i .i64 0, .s []] (e.Binds.map c7.cells)])] [] (.one (false, [.sl false [.sl false [.s [], .i .i64 0, .s []] []] ((w6 o9 l e).map (c8.cells false false))])) := by
 refine spec_of2 false true none Tryz.func188 b5Z (rvs := [.t 4]) (hΓ := mkCtx_ok (deep := false) (l := [(271, [], a2m)]) ⟨a9H, trivial⟩) (h := ?_)
 intro hb hE
 simp only [go_sem] at hb
 simp only [a7C, x']
 obtain ⟨hlen, vs, he, hl0⟩ := hpre
 (try refine A2Z ?_); simp only [go_sem]; (repeat' first | apply CJ.mk | intro hc); all_goals try ((repeat' first | apply And.intro | intro hs) <;> (try simp only [go_sem, Bool.and_eq_false_iff] at hs) <;> omega)
 refine aw_loop2 false [(false, 5, 0, 100010)] [0, 3, 11] [6] [] (fun i : {i : Nat // i ≤ l.length ∧ ¬ e ∈ l.take i} => [(5, .v false [.ow 100010]), (6, slV (.b ((l.take i.1).any (o9 e)))), (12, slV (.i .i64 i.1))]) (fun i => []) (fun i => [(100010, [.sl false [.s [], .i .i64 0, .s []] []], (a0x o9 e (l.take i.1)).map (c8.cells false false))]) (fun i => l.length - i.1) (⟨0, by simp⟩) _ (by simp only [go_sem]; try rfl) ?_ ?_
 ·simp only [go_sem]
  all_goals first | omega | ((repeat' apply And.intro) <;> first | omega | rfl | skip)
 intro S0 hS0 i
 simp only [go_sem] at hS0
 obtain ⟨i, hi, hm⟩ := i
 have hl := b9R o9 e (l.take i)
 rw [List.length_take] at hl
 have hC := fun (h : i < l.length) => hl0 _ (a0M (l := l) default h)
 (try refine A2Z ?_); simp only [go_sem, hS0]; (repeat' first | apply CJ.mk | intro hc); all_goals try ((repeat' first | apply And.intro | intro hs) <;> (try simp only [go_sem, Bool.and_eq_false_iff] at hs) <;> omega)
 ·exact he.len (hC (by omega))
 ·have hm2 : e ∈ l := by rw [he.eq0 (hC (by omega)) hc]; exact a0M default (by omega)
  rw [w6, if_pos hm2]
 ·rename_i h0
  have hx := i9 (l := l) default (i := i) (by omega)
  have hn : ¬ e ∈ l.take (i + 1) := by rw [hx]; simp only [List.mem_append, List.mem_singleton]; rintro (h | h); exact hm h; exact he.ne0 (hC (by omega)) h0 h
  have h5 : o9 e (l.getD i default) = true := by rw [← he.lt1 (hC (by omega))]; exact hc.2
  have h1 : (l.take (i + 1)).any (o9 e) = true := by rw [hx, List.any_append, hc.1, List.any_cons, h5]; rfl
  have h2 : a0x o9 e (l.take (i + 1)) = a0x o9 e (l.take i) ++ [e] ++ [l.getD i default] := by rw [hx, b9Q hc.1 h5]
  (refine lpK_n2 (⟨i + 1, by omega, hn⟩) _ (by simp only [go_sem]; try rfl) ?_; simp only [go_sem, hS0]; first | done | ((repeat' apply And.intro) <;> first | omega | (refine w64 ?_ ?_ ?_ <;> omega) | rfl | skip))
  all_goals first | rw [h1] | rw [h2] | trace_state
 ·rename_i h0
  have hx := i9 (l := l) default (i := i) (by omega)
  have hn : ¬ e ∈ l.take (i + 1) := by rw [hx]; simp only [List.mem_append, List.mem_singleton]; rintro (h | h); exact hm h; exact he.ne0 (hC (by omega)) h0 h
  have h3 : (l.take (i + 1)).any (o9 e) = (l.take i).any (o9 e) ∧ a0x o9 e (l.take (i + 1)) = a0x o9 e (l.take i) ++ [l.getD i default] := by
   rw [hx]
   cases h : (l.take i).any (o9 e) with
   | true => exact ⟨by rw [List.any_append, h]; rfl, b6b h⟩
   | false =>
     rw [h, he.lt1 (hC (by omega))] at hc
     have hc2 : o9 e (l.getD i default) = false := hc
     exact ⟨by rw [List.any_append, h, List.any_cons, hc2]; rfl, c3q h hc2⟩
  (refine lpK_n2 (⟨i + 1, by omega, hn⟩) _ (by simp only [go_sem]; try rfl) ?_; simp only [go_sem, hS0]; first | done | ((repeat' apply And.intro) <;> first | omega | (refine w64 ?_ ?_ ?_ <;> omega) | rfl | skip))
  all_goals first | rw [h3.1] | rw [h3.2] | trace_state
 ·rw [i8 (by omega)] at hc hm ⊢
  rw [b6d hm hc]
 ·rw [i8 (by omega)] at hc hm ⊢
  rw [b6c hm hc]
noncomputable def a4v : CT := l8 (fun (x : (List c8) × c8) h => b8C x.1 x.2 h)
@[go_sem] theorem c5X (l : List c8) (x0 : List c7) : a4v [(false, [.sl false [.sl false [.s [], .i .i64 0, .s []] []] (l.map (c8.cells false false))]), (true, [.sl false [.s [], .i .i64 0, .s []] (x0.map c7.cells)])] = some (l.length ≤ 4000 ∧ ∃ vs, Comp vs (c8.mk x0) ∧ ∀ x ∈ l, Comp vs x, [], .one (false, [.sl false [.sl false [.s [], .i .i64 0, .s []] []] ((w6 o9 l (c8.mk x0)).map (c8.cells false false))])) := f9 _ (by rintro ⟨_, ⟨_⟩⟩ ⟨_, ⟨_⟩⟩ h; simp at h; simp_all) (l, (c8.mk x0))
theorem b1G : OkC Tryz.prog 188 a4v := i3 _
theorem c6o (a : List c8) (hpre : a.length < 4611686018427387904 ∧ ∃ vs, ∀ x ∈ a, Comp vs x) : A0m Tryz.prog 202 [(false, [.sl true [.sl false [.s [], .i .i64 0, .s []] []] (a.map (c8.cells false false))]), (false, [.f 203 []])] [(0, (false, [.sl true [.sl false [.s [], .i .i64 0, .s []] []] ((a1I o9 a).map (c8.cells false false))]))] (.tup []) := by
 obtain ⟨hlen, vs, hd⟩ := hpre
 exact c6A Tryz.sortEnv (by kernel_rfl) (k := 1) (fun w => rfl) (fun w => rfl) (cf := c8.cells false false) (z := [.sl false [.s [], .i .i64 0, .s []] []]) rfl (fun _ => rfl) (fun _ => rfl) (dom := Comp vs) (fun x y => a1f x.Binds.length (b5e x.Binds y.Binds)) a1g (fun x y hx hy => hx.by hy) (enters_of Tryz.func203 (by kernel_rfl) rfl) (fun x y hx hy => b0O x y (hx.len hy)) a hd hlen
noncomputable def b1z : CT := l8 (fun (x : (List c8)) h => c6o x h)
@[go_sem] theorem c8H (a : List c8) : b1z [(false, [.sl true [.sl false [.s [], .i .i64 0, .s []] []] (a.map (c8.cells false false))]), (false, [.f 203 []])] = some (a.length < 4611686018427387904 ∧ ∃ vs, ∀ x ∈ a, Comp vs x, [(0, (false, [.sl true [.sl false [.s [], .i .i64 0, .s []] []] ((a1I o9 a).map (c8.cells false false))]))], .tup []) := f9 _ (by intro x y h; simp at h; simp_all) a
theorem b9x : OkC Tryz.prog 202 b1z := i3 _
theorem a8g {r : d3} {s : d7} {l : List c8} {i : Nat} (h : i < l.length) : a5s r s (l.take (i + 1)) = a5s r s (l.take i) ++ (bif a3p r s (eqE r (l.getD i default)) then [eqE r (l.getD i default)] else []) := by
 rw [a5s, a5s, i9 default h, List.map_append, List.filter_append]
 congr 1
 all_goals (simp only [List.map_cons, List.map_nil, List.filter_cons, List.filter_nil]; cases a3p r s (eqE r (l.getD i default)) <;> rfl)
theorem a9N {r : d3} {s : d7} (hr : i6 r = true) (hs : l9 s = true) : (y4 r s).1.length ≤ 2000 ∧ (∀ e ∈ (y4 r s).1, e.Binds.length ≤ 100 ∧ EnvS e.Binds ∧ ∀ l ∈ r.Body, Rooted s e l) ∧ ∃ vs, ∀ e ∈ a5s r s (y4 r s).1, Comp vs e := by
 rw [y4]
 cases h : y9 r s r.Body.length with
 | none => exact ⟨by simp, by simp, [], by simp [a5s]⟩
 | some l =>
   have hJ := Jn.all hr hs (Nat.le_refl _) h
   have h8 := body8 hr
   obtain ⟨vs, ha⟩ := hJ.alk
   obtain ⟨ws, hb⟩ := c1D (s := s) hr ha
   refine ⟨b2o h, fun e he => ⟨by have := hJ.len e he; omega, ha.ok e he, fun x hx => ?_⟩, ws, fun e he => ⟨hb.ok e he, hb.dom e he⟩⟩
   obtain ⟨i, hi, rfl⟩ := List.getElem_of_mem hx
   have := hJ.root e he i hi
   rwa [k9 default hi] at this
theorem c3s {r : d3} {s : d7} (hr : i6 r = true) (hs : l9 s = true) : (a5s r s (y4 r s).1).Nodup := by
 rw [y4]
 cases h : y9 r s r.Body.length with
 | none => simp [a5s]
 | some l =>
   obtain ⟨vs, ha⟩ := (Jn.all hr hs (Nat.le_refl _) h).alk
   obtain ⟨ws, hb⟩ := c1D (s := s) hr ha
   exact hb.nd
theorem c6B {l : List c8} (h : l.Nodup) : a1I o9 l = k6 o9 [] l := by
 refine SS.uniq a1g (SS.of_sorted a1g (a6d a1g l) ((a0v o9 l).nodup_iff.2 h)) (SS.puts a1g SS.nil) fun x => ?_
 rw [b8X, t7]; simp
def a6V : ACode := q' ([o' 2 (.box 4 (.t 0)), o' 3 (.box 1 (.t 1)), o' 4 (.mov (.k (.v false [.nl [.sl false [.s [], .i .i64 0, .s []] []]]))), b' 5 false]) (q' ([e' 12 4 2, e' 13
 1 3, c' 14 199 [12, 13], m' 11 14, o' 15 (.ext (.t 11) 0), o' 16 (.ext (.t 11) 1), m' 6 15, m' 7 16]) (.seq (q' ([m' 17 7, o' 18 (.not (.t 17))]) (.cond (.t
 18) (q' ([o' 4 (.mov (.k (.v false [.nl [.sl false [.s [], .i .i64 0, .s []] []]]))), b' 5 false]) .ret) .skip)) (q' ([o' 19 (.bsl 1 0 [.sl [.s [], .i .i64 0,
 .s []]] []), m' 8 19]) (.seq (q' ([m' 20 6, n' 21 20, z' 22 0]) (.block 0 (.loop (q' ([r' 23 22 21]) (.seq (.cond (.t 23) .skip (.exit 0)) (.seq (.block 1 (q'
 ([i' 24 1 20 22, e' 25 1 24, w' 10 [.sl [.s [], .i .i64 0, .s []]], s' 1 10 25]) (q' ([e' 26 4 2, e' 27 1 10, c' 28 200 [26, 27], s' 1 10 28]) (q' ([e' 29 4
 2, e' 30 1 3, e' 31 1 10, c' 32 201 [29, 30, 31]]) (.cond (.t 32) (g' [m' 33 8, e' 34 1 10, o' 35 (.bsl 1 1 [.sl [.s [], .i .i64 0, .s []]] [(0, .t 34)]), o'
 36 (.app 1 24 [.sl [.s [], .i .i64 0, .s []]] (.t 33) (.t 35)), m' 8 36]) .skip))))) (g' [a' 37 22, m' 22 37]))))))) (q' ([m' 38 8, o' 39 (.call 202 [.t 38,
 .k (.v false [.c (.f 203 [])])])]) (q' ([m' 40 8, m' 4 40, b' 5 true]) .ret))))))
theorem b5s : cmp Tryz.prog Tryz.f119 = some a6V := by kernel_rfl
theorem b7U (r : d3) (s : d7) (hpre : i6 r = true ∧ l9 s = true) : A0m Tryz.prog 119 [(true, [.i .i64 r.Kind, .s r.Head.Name, .sl false [.s [], .i .i64 0, .s []] (r.Head.Args.map c4.cells), .sl false [.i .i64 0, .s [], .sl false [.s [], .i .i64 0, .s []] [], .i .i64 0, .s [], .i .i64 0, .s [], .s [], .i .i64 0, .s []] (r.Body.map (d4.cells false false))]), (true, [.sl false [.s [], .i .i64 0, .sl false [.sl false [.i .i64 0, .s []] []] []] (s.Rels.map (d6.cells false false))])] [] (.tup [(false, [.sl true [.sl false [.s [], .i .i64 0, .s []] []] (((l7 r s).1).map (c8.cells false false))]), (false, [.b ((l7 r s).2)])]) := by
 refine spec_of2 false false none Tryz.func119 b5s (rvs := [.t 4, .t 5]) (hΓ := mkCtx_ok (deep := false) (l := [(199, [], a4b), (200, [], a1M), (201, [], a5H), (202, [0], b1z)]) ⟨b1k, a9f, b3c, b9x, trivial⟩) (h := ?_)
 intro hb hE
 simp only [go_sem] at hb
 simp only [a6V, x']
 have hpre0 := hpre
 obtain ⟨hr, hs⟩ := hpre
 obtain ⟨hl, hf, vs, hv⟩ := a9N hr hs
 have hnd := c3s hr hs
 (try refine A2Z ?_); simp only [go_sem]; (repeat' first | apply CJ.mk | intro hc); all_goals try ((repeat' first | apply And.intro | intro hs) <;> (try simp only [go_sem, Bool.and_eq_false_iff] at hs) <;> omega)
 ·rw [l7, hc]; exact ⟨rfl, rfl⟩
 refine aw_loop2 false [(false, 8, 0, 100016)] [2, 3, 20, 21] [4, 6] [1792] (fun i : {i : Nat // i ≤ (y4 r s).1.length} => [(8, .v false [.ow 100016]), (22, slV (.i .i64 i.1))]) (fun i => []) (fun i => [(100016, [.sl false [.s [], .i .i64 0, .s []] []], (a5s r s ((y4 r s).1.take i.1)).map (c8.cells false false))]) (fun i => (y4 r s).1.length - i.1) (⟨0, by simp⟩) _ (by simp only [go_sem]; try rfl) ?_ ?_
 ·simp only [go_sem]
  all_goals first | omega | ((repeat' apply And.intro) <;> first | omega | rfl | skip)
 intro S0 hS0 i
 simp only [go_sem] at hS0
 obtain ⟨i, hi⟩ := i
 have hol := b0W r s ((y4 r s).1.take i)
 rw [List.length_take] at hol
 have hm := fun (h : i < (y4 r s).1.length) => hf _ (a0M default h)
 (try refine A2Z ?_); simp only [go_sem, hS0]; (repeat' first | apply CJ.mk | intro hc); all_goals try ((repeat' first | apply And.intro | intro hs) <;> (try simp only [go_sem, Bool.and_eq_false_iff] at hs) <;> omega)
 ·exact ⟨⟨hr, hs⟩, c7Q hr (hm (by omega)).2.1⟩
 ·(refine lpK_n2 (⟨i + 1, by omega⟩) _ (by simp only [go_sem]; try rfl) ?_; simp only [go_sem, hS0]; first | done | ((repeat' apply And.intro) <;> first | omega | (refine w64 ?_ ?_ ?_ <;> omega) | rfl | skip))
  all_goals (rw [a8g (by omega), hc]; rfl)
 ·(refine lpK_n2 (⟨i + 1, by omega⟩) _ (by simp only [go_sem]; try rfl) ?_; simp only [go_sem, hS0]; first | done | ((repeat' apply And.intro) <;> first | omega | (refine w64 ?_ ?_ ?_ <;> omega) | rfl | skip))
  all_goals (rw [a8g (by omega), hc]; simp)
 ·rw [i8 (by omega)]
  exact ⟨by have := b0W r s (y4 r s).1; omega, vs, hv⟩
 ·rename_i h1
  rw [i8 (by omega), c6B hnd, l7, h1]
  exact ⟨rfl, rfl⟩
noncomputable def a4a : CT := l8 (fun (x : d3 × d7) h => b7U x.1 x.2 h)
@[go_sem] theorem c5p (x0 : Int) (x1 : List UInt8) (x2 : List c4) (x3 : List d4) (x4 : List d6) : a4a [(true, [.i .i64 x0, .s x1, .sl false [.s [], .i .i64 0, .s []] (x2.map c4.cells), .sl false [.i .i64 0, .s [], .sl false [.s [], .i .i64 0, .s []] [], .i .i64 0, .s [], .i .i64 0, .s [], .s [], .i .i64 0, .s []] (x3.map (d4.cells false false))]), (true, [.sl false [.s [], .i .i64 0, .sl false [.sl false [.i .i64 0, .s []] []] []] (x4.map (d6.cells false false))])] = some (i6 (d3.mk x0 (d5.mk x1 x2) x3) = true ∧ l9 (d7.mk x4) = true, [], .tup [(false, [.sl true [.sl false [.s [], .i .i64 0, .s []] []] (((l7 (d3.mk x0 (d5.mk x1 x2) x3) (d7.mk x4)).1).map (c8.cells false false))]), (false, [.b ((l7 (d3.mk x0 (d5.mk x1 x2) x3) (d7.mk x4)).2)])]) := f9 _ (by rintro ⟨⟨_, ⟨_, _⟩, _⟩, ⟨_⟩⟩ ⟨⟨_, ⟨_, _⟩, _⟩, ⟨_⟩⟩ h; simp at h; simp_all) ((d3.mk x0 (d5.mk x1 x2) x3), (d7.mk x4))
theorem b1j : OkC Tryz.prog 119 a4a := i3 _
theorem c8h {vs : List (List UInt8)} : ∀ {l a : List c8}, (∀ x ∈ a, Comp vs x) → (∀ x ∈ l, Comp vs x) → ∀ x ∈ k6 o9 a l, Comp vs x := fun {l a} h1 h2 x hx => (t7.1 hx).elim (h1 x) (h2 x)
theorem b2D : ∀ (l a : List c8), (k6 o9 a l).length ≤ a.length + l.length
 | [], a => Nat.le_refl _
 | x :: l, a => by
   have h1 := b2D l (w6 o9 a x)
   have h2 : (w6 o9 a x).length ≤ a.length + 1 := by
    rw [w6]
    split
    ·omega
    ·have e := congrArg List.length (List.takeWhile_append_dropWhile (p := fun y => !o9 x y) (l := a))
     simp only [List.length_append, List.length_cons] at e ⊢
     omega
   simp only [k6, List.foldl_cons, List.length_cons] at h1 ⊢
   omega
theorem b6a {r : d3} {s : d7} {e : c8} (hr : i6 r = true) (h : ∀ l ∈ r.Body, Rooted s e l) : a5Z r s (eqE r e) = a3p r s (eqE r e) :=
 c7U hr fun l hl => (h l hl).ext (b9C r e.Binds)
theorem c8d {r : d3} {s : d7} {l : List c8} {i : Nat} {x : c8} (h : x ∈ a5s r s (l.take i)) : x ∈ a5s r s l := by
 rw [a5s, List.mem_filter, List.mem_map] at h ⊢
 obtain ⟨⟨e, he, hx⟩, h2⟩ := h
 exact ⟨⟨e, List.mem_of_mem_take he, hx⟩, h2⟩
theorem c3y (a l : List c8) (e : c8) : k6 o9 a (l ++ [e]) = w6 o9 (k6 o9 a l) e := by
 simp only [k6, List.foldl_append, List.foldl_cons, List.foldl_nil]
def a3H : ACode := q' ([o' 2 (.box 4 (.t 0)), o' 3 (.box 1 (.t 1)), o' 4 (.mov (.k (.v false [.nl [.sl false [.s [], .i .i64 0, .s []] []]]))), b' 5 false]) (q' ([o' 19 (.bld [.sl
 [.s [], .i .i64 0, .s []]] []), o' 20 (.bsl 1 1 [.sl [.s [], .i .i64 0, .s []]] [(0, .t 19)]), m' 6 20]) (.seq (q' ([f' 21 3 2, l' 22 21, n' 23 22, z' 24 0])
 (.block 0 (.loop (q' ([r' 25 24 23]) (.seq (.cond (.t 25) .skip (.exit 0)) (.seq (.block 1 (q' ([m' 26 24, m' 7 26]) (q' ([f' 27 3 2, l' 28 27, m' 29 7, i' 30
 10 28 29, e' 31 10 30, w' 8 [.i .i64, .s, .sl [.s [], .i .i64 0, .s []], .i .i64, .s, .i .i64, .s, .s, .i .i64, .s], s' 10 8 31]) (.seq (q' ([f' 32 0 8, l' 33
 32, o' 34 (.bin .neq (.t 33) (k' 1))]) (.cond (.t 34) (.exit 1) .skip)) (q' ([e' 36 1 3, f' 37 1 8, f' 38 0 37, l' 39 38, c' 40 184 [36, 39], m' 35 40, o' 41
 (.ext (.t 35) 0), o' 42 (.ext (.t 35) 1), w' 9 [.i .i64, .sl [.sl false [.i .i64 0, .s []] []]], s' 2 9 41, m' 10 42]) (q' ([o' 43 (.bsl 1 0 [.sl [.s [], .i
 .i64 0, .s []]] []), m' 11 43]) (.seq (q' ([m' 44 6, n' 45 44, z' 46 0]) (.block 2 (.loop (q' ([r' 47 46 45]) (.seq (.cond (.t 47) .skip (.exit 2)) (.seq
 (.block 3 (q' ([m' 48 46, m' 12 48]) (.seq (q' ([f' 49 1 9, l' 50 49, n' 51 50, z' 52 0]) (.block 4 (.loop (q' ([r' 53 52 51]) (.seq (.cond (.t 53) .skip
 (.exit 4)) (.seq (.block 5 (q' ([m' 54 52, m' 13 54]) (.seq (.regm [(true, 0, m' 56 6), (true, 1, m' 57 12), (true, 2, i' 58 1 56 57), (true, 3, e' 59 1 58),
 (true, 4, f' 60 1 8), (true, 5, f' 61 1 60), (true, 6, l' 62 61), (true, 7, f' 63 1 9), (true, 8, l' 64 63), (true, 9, m' 65 13), (true, 10, i' 66 1 64 65),
 (true, 11, e' 67 1 66), (false, 12, c' 68 185 [59, 62, 67]), (false, 13, m' 55 68), (false, 14, o' 69 (.ext (.t 55) 0)), (false, 15, o' 70 (.ext (.t 55) 1)),
 (false, 16, w' 14 [.sl [.s [], .i .i64 0, .s []]]), (false, 17, s' 1 14 69), (false, 18, m' 15 70)] [[(true, 0, m' 56 6), (true, 1, m' 57 12), (true, 2, i' 58
 1 56 57), (true, 3, e' 59 1 58), (true, 4, f' 60 1 8), (true, 5, f' 61 1 60), (true, 6, l' 62 61), (true, 7, f' 63 1 9), (true, 8, l' 64 63), (true, 9, m' 65
 13), (true, 10, i' 66 1 64 65), (true, 11, e' 67 1 66), (false, 12, c' 68 185 [59, 62, 67]), (false, 13, m' 55 68), (false, 14, o' 69 (.ext (.t 55) 0)),
 (false, 16, w' 14 [.sl [.s [], .i .i64 0, .s []]]), (false, 15, o' 70 (.ext (.t 55) 1)), (false, 17, s' 1 14 69), (false, 18, m' 15 70)], [(true, 0, m' 56 6),
 (true, 1, m' 57 12), (true, 2, i' 58 1 56 57), (true, 3, e' 59 1 58), (true, 4, f' 60 1 8), (true, 5, f' 61 1 60), (true, 6, l' 62 61), (true, 7, f' 63 1 9),
 (true, 8, l' 64 63), (true, 9, m' 65 13), (true, 10, i' 66 1 64 65), (true, 11, e' 67 1 66), (false, 12, c' 68 185 [59, 62, 67]), (false, 13, m' 55 68),
 (false, 14, o' 69 (.ext (.t 55) 0)), (false, 16, w' 14 [.sl [.s [], .i .i64 0, .s []]]), (false, 17, s' 1 14 69), (false, 15, o' 70 (.ext (.t 55) 1)), (false,
 18, m' 15 70)], [(true, 0, m' 56 6), (true, 1, m' 57 12), (true, 2, i' 58 1 56 57), (true, 3, e' 59 1 58), (true, 4, f' 60 1 8), (true, 5, f' 61 1 60), (true,
 6, l' 62 61), (true, 7, f' 63 1 9), (true, 8, l' 64 63), (true, 9, m' 65 13), (true, 10, i' 66 1 64 65), (true, 11, e' 67 1 66), (false, 12, c' 68 185 [59,
 62, 67]), (false, 13, m' 55 68), (false, 15, o' 70 (.ext (.t 55) 1)), (false, 14, o' 69 (.ext (.t 55) 0)), (false, 16, w' 14 [.sl [.s [], .i .i64 0, .s []]]),
 (false, 17, s' 1 14 69), (false, 18, m' 15 70)], [(true, 0, m' 56 6), (true, 1, m' 57 12), (true, 2, i' 58 1 56 57), (true, 3, e' 59 1 58), (true, 4, f' 60 1
 8), (true, 5, f' 61 1 60), (true, 6, l' 62 61), (true, 7, f' 63 1 9), (true, 8, l' 64 63), (true, 9, m' 65 13), (true, 10, i' 66 1 64 65), (true, 11, e' 67 1
 66), (false, 12, c' 68 185 [59, 62, 67]), (false, 13, m' 55 68), (false, 15, o' 70 (.ext (.t 55) 1)), (false, 16, w' 14 [.sl [.s [], .i .i64 0, .s []]]),
 (false, 14, o' 69 (.ext (.t 55) 0)), (false, 17, s' 1 14 69), (false, 18, m' 15 70)], [(true, 0, m' 56 6), (true, 1, m' 57 12), (true, 2, i' 58 1 56 57),
 (true, 3, e' 59 1 58), (true, 4, f' 60 1 8), (true, 5, f' 61 1 60), (true, 6, l' 62 61), (true, 7, f' 63 1 9), (true, 8, l' 64 63), (true, 9, m' 65 13),
 (true, 10, i' 66 1 64 65), (true, 11, e' 67 1 66), (false, 12, c' 68 185 [59, 62, 67]), (false, 13, m' 55 68), (false, 16, w' 14 [.sl [.s [], .i .i64 0, .s
 []]]), (false, 14, o' 69 (.ext (.t 55) 0)), (false, 15, o' 70 (.ext (.t 55) 1)), (false, 17, s' 1 14 69), (false, 18, m' 15 70)], [(true, 0, m' 56 6), (true,
 1, m' 57 12), (true, 2, i' 58 1 56 57), (true, 3, e' 59 1 58), (true, 4, f' 60 1 8), (true, 5, f' 61 1 60), (true, 6, l' 62 61), (true, 7, f' 63 1 9), (true,
 8, l' 64 63), (true, 9, m' 65 13), (true, 10, i' 66 1 64 65), (true, 11, e' 67 1 66), (false, 12, c' 68 185 [59, 62, 67]), (false, 13, m' 55 68), (false, 16,
 w' 14 [.sl [.s [], .i .i64 0, .s []]]), (false, 14, o' 69 (.ext (.t 55) 0)), (false, 17, s' 1 14 69), (false, 15, o' 70 (.ext (.t 55) 1)), (false, 18, m' 15
 70)], [(true, 0, m' 56 6), (true, 1, m' 57 12), (true, 2, i' 58 1 56 57), (true, 3, e' 59 1 58), (true, 4, f' 60 1 8), (true, 5, f' 61 1 60), (true, 6, l' 62
 61), (true, 7, f' 63 1 9), (true, 8, l' 64 63), (true, 9, m' 65 13), (true, 10, i' 66 1 64 65), (true, 11, e' 67 1 66), (false, 12, c' 68 185 [59, 62, 67]),
 (false, 13, m' 55 68), (false, 16, w' 14 [.sl [.s [], .i .i64 0, .s []]]), (false, 15, o' 70 (.ext (.t 55) 1)), (false, 14, o' 69 (.ext (.t 55) 0)), (false,
 17, s' 1 14 69), (false, 18, m' 15 70)], [(true, 0, m' 56 6), (true, 1, m' 57 12), (true, 2, i' 58 1 56 57), (true, 3, e' 59 1 58), (true, 4, f' 60 1 8),
 (true, 5, f' 61 1 60), (true, 6, l' 62 61), (true, 7, f' 63 1 9), (true, 8, l' 64 63), (true, 9, m' 65 13), (true, 10, i' 66 1 64 65), (true, 11, e' 67 1 66),
 (false, 12, c' 68 185 [59, 62, 67]), (false, 16, w' 14 [.sl [.s [], .i .i64 0, .s []]]), (false, 13, m' 55 68), (false, 14, o' 69 (.ext (.t 55) 0)), (false,
 15, o' 70 (.ext (.t 55) 1)), (false, 17, s' 1 14 69), (false, 18, m' 15 70)], [(true, 0, m' 56 6), (true, 1, m' 57 12), (true, 2, i' 58 1 56 57), (true, 3, e'
 59 1 58), (true, 4, f' 60 1 8), (true, 5, f' 61 1 60), (true, 6, l' 62 61), (true, 7, f' 63 1 9), (true, 8, l' 64 63), (true, 9, m' 65 13), (true, 10, i' 66 1
 64 65), (true, 11, e' 67 1 66), (false, 12, c' 68 185 [59, 62, 67]), (false, 16, w' 14 [.sl [.s [], .i .i64 0, .s []]]), (false, 13, m' 55 68), (false, 14, o'
 69 (.ext (.t 55) 0)), (false, 17, s' 1 14 69), (false, 15, o' 70 (.ext (.t 55) 1)), (false, 18, m' 15 70)], [(true, 0, m' 56 6), (true, 1, m' 57 12), (true,
 2, i' 58 1 56 57), (true, 3, e' 59 1 58), (true, 4, f' 60 1 8), (true, 5, f' 61 1 60), (true, 6, l' 62 61), (true, 7, f' 63 1 9), (true, 8, l' 64 63), (true,
 9, m' 65 13), (true, 10, i' 66 1 64 65), (true, 11, e' 67 1 66), (false, 12, c' 68 185 [59, 62, 67]), (false, 16, w' 14 [.sl [.s [], .i .i64 0, .s []]]),
 (false, 13, m' 55 68), (false, 15, o' 70 (.ext (.t 55) 1)), (false, 14, o' 69 (.ext (.t 55) 0)), (false, 17, s' 1 14 69), (false, 18, m' 15 70)], [(true, 0,
 m' 56 6), (true, 1, m' 57 12), (true, 2, i' 58 1 56 57), (true, 3, e' 59 1 58), (true, 4, f' 60 1 8), (true, 5, f' 61 1 60), (true, 6, l' 62 61), (true, 7, f'
 63 1 9), (true, 8, l' 64 63), (true, 9, m' 65 13), (true, 10, i' 66 1 64 65), (true, 11, e' 67 1 66), (false, 16, w' 14 [.sl [.s [], .i .i64 0, .s []]]),
 (false, 12, c' 68 185 [59, 62, 67]), (false, 13, m' 55 68), (false, 14, o' 69 (.ext (.t 55) 0)), (false, 15, o' 70 (.ext (.t 55) 1)), (false, 17, s' 1 14 69),
 (false, 18, m' 15 70)], [(true, 0, m' 56 6), (true, 1, m' 57 12), (true, 2, i' 58 1 56 57), (true, 3, e' 59 1 58), (true, 4, f' 60 1 8), (true, 5, f' 61 1
 60), (true, 6, l' 62 61), (true, 7, f' 63 1 9), (true, 8, l' 64 63), (true, 9, m' 65 13), (true, 10, i' 66 1 64 65), (true, 11, e' 67 1 66), (false, 16, w' 14
 [.sl [.s [], .i .i64 0, .s []]]), (false, 12, c' 68 185 [59, 62, 67]), (false, 13, m' 55 68), (false, 14, o' 69 (.ext (.t 55) 0)), (false, 17, s' 1 14 69),
 (false, 15, o' 70 (.ext (.t 55) 1)), (false, 18, m' 15 70)], [(true, 0, m' 56 6), (true, 1, m' 57 12), (true, 2, i' 58 1 56 57), (true, 3, e' 59 1 58), (true,
 4, f' 60 1 8), (true, 5, f' 61 1 60), (true, 6, l' 62 61), (true, 7, f' 63 1 9), (true, 8, l' 64 63), (true, 9, m' 65 13), (true, 10, i' 66 1 64 65), (true,
 11, e' 67 1 66), (false, 16, w' 14 [.sl [.s [], .i .i64 0, .s []]]), (false, 12, c' 68 185 [59, 62, 67]), (false, 13, m' 55 68), (false, 15, o' 70 (.ext (.t
 55) 1)), (false, 14, o' 69 (.ext (.t 55) 0)), (false, 17, s' 1 14 69), (false, 18, m' 15 70)]] [16, 17, 18, 19]) (q' ([m' 71 15]) (.cond (.t 71) (g' [m' 72
 11, e' 73 1 14, o' 74 (.bsl 1 1 [.sl [.s [], .i .i64 0, .s []]] [(0, .t 73)]), o' 75 (.app 1 24 [.sl [.s [], .i .i64 0, .s []]] (.t 72) (.t 74)), m' 11 75])
 .skip))))) (g' [a' 76 52, m' 52 76]))))))) (q' ([m' 77 11, n' 78 77, o' 79 (.bin .gtr (.t 78) (k' 2000))]) (.cond (.t 79) (q' ([o' 4 (.mov (.k (.v false [.nl
 [.sl false [.s [], .i .i64 0, .s []] []]]))), b' 5 false]) .ret) .skip))))) (g' [a' 80 46, m' 46 80]))))))) (g' [m' 81 11, m' 6 81])))))))) (g' [a' 82 24, m'
 24 82]))))))) (q' ([o' 83 (.bsl 1 0 [.sl [.s [], .i .i64 0, .s []]] []), m' 16 83]) (.seq (q' ([m' 84 6, n' 85 84, z' 86 0]) (.block 6 (.loop (q' ([r' 87 86
 85]) (.seq (.cond (.t 87) .skip (.exit 6)) (.seq (.block 7 (q' ([m' 88 86, m' 17 88]) (.seq (.regm [(true, 0, e' 89 4 2), (true, 1, m' 90 6), (true, 2, m' 91
 17), (true, 3, i' 92 1 90 91), (true, 4, e' 93 1 92), (false, 5, c' 94 186 [89, 93]), (false, 6, w' 18 [.sl [.s [], .i .i64 0, .s []]]), (false, 7, s' 1 18
 94)] [[(true, 0, e' 89 4 2), (true, 1, m' 90 6), (true, 2, m' 91 17), (true, 3, i' 92 1 90 91), (true, 4, e' 93 1 92), (false, 6, w' 18 [.sl [.s [], .i .i64
 0, .s []]]), (false, 5, c' 94 186 [89, 93]), (false, 7, s' 1 18 94)]] [4, 5]) (q' ([e' 95 4 2, e' 96 1 3, e' 97 1 18, c' 98 187 [95, 96, 97]]) (.cond (.t 98)
 (g' [m' 99 16, e' 100 1 18, c' 101 188 [99, 100], m' 16 101]) .skip))))) (g' [a' 102 86, m' 86 102]))))))) (q' ([m' 103 16, m' 4 103, b' 5 true]) .ret)))))
theorem b0K : cmp Tryz.prog Tryz.f114 = some a3H := by kernel_rfl
theorem b2A (r : d3) (s : d7) (hpre : i6 r = true ∧ l9 s = true) : A0m Tryz.prog 114 [(true, [.i .i64 r.Kind, .s r.Head.Name, .sl false [.s [], .i .i64 0, .s []] (r.Head.Args.map c4.cells), .sl false [.i .i64 0, .s [], .sl false [.s [], .i .i64 0, .s []] [], .i .i64 0, .s [], .i .i64 0, .s [], .s [], .i .i64 0, .s []] (r.Body.map (d4.cells false false))]), (true, [.sl false [.s [], .i .i64 0, .sl false [.sl false [.i .i64 0, .s []] []] []] (s.Rels.map (d6.cells false false))])] [] (.tup [(false, [.sl false [.sl false [.s [], .i .i64 0, .s []] []] (((l7 r s).1).map (c8.cells false false))]), (false, [.b ((l7 r s).2)])]) := by
 refine spec_of2 false true none Tryz.func114 b0K (rvs := [.t 4, .t 5]) (hΓ := mkCtx_ok (deep := false) (l := [(184, [], a1y), (185, [], a2i), (186, [], a2k), (187, [], a2l), (188, [], a4v)]) ⟨a5n, a9D, a9F, a9G, b1G, trivial⟩) (h := ?_)
 intro hb hE
 simp only [go_sem] at hb
 simp only [a3H, x']
 obtain ⟨hr, hs⟩ := hpre
 have hb8 := body8 hr
 (try refine A2Z ?_); simp only [go_sem]; (repeat' first | apply CJ.mk | intro hc | apply b8E); (all_goals (try (refine (show A3x _ _ _ _ _ _ from ?_); simp only [go_sem] at hc ⊢; simp only [go_sem, A6U, A6Y, A6o, A6n, A6T, A6m, nf_put_sub, A6W, A6V, nf_put_susK, nf_put_dip, nf_put_put, A6X, A6S, A6p, a2D, a2C, nf_sub_sub] at hc ⊢; simp only [hc, and_self, true_and]; done))); all_goals try ((repeat' first | apply And.intro | intro hs) <;> (try simp only [go_sem, Bool.and_eq_false_iff] at hs) <;> omega)
 refine aw_loop2 false [(false, 6, 0, 100012)] [2, 3, 23] [4, 6, 17, 19, 5] [] (fun i : {q : Nat × List c8 // q.1 ≤ r.Body.length ∧ y9 r s q.1 = some q.2} => [(6, .v false [.ow 100012]), (24, slV (.i .i64 i.1.1))]) (fun i => []) (fun i => [(100012, [.sl false [.s [], .i .i64 0, .s []] []], i.1.2.map (c8.cells false false))]) (fun i => r.Body.length - i.1.1) (⟨(0, [⟨[]⟩]), by simp, rfl⟩) _ (by simp only [go_sem]; try rfl) ?_ ?_
 ·simp only [go_sem]
  all_goals first | omega | ((repeat' apply And.intro) <;> first | omega | rfl | skip)
 intro S0 hS0 i
 simp only [go_sem] at hS0
 obtain ⟨⟨n, now⟩, hn, hj⟩ := i
 simp only at hn hj
 have hJ := Jn.all hr hs hn hj
 have hl := b2o hj
 have hR := a8h hs (r.Body.getD n default).Atom.Name
 have hRl := b2E hR
 have hRe : (arR r s n).length = (s7 s (r.Body.getD n default).Atom.Name).1.Rows.length := rfl
 (try refine A2Z ?_); simp only [go_sem, hS0]; (repeat' first | apply CJ.mk | intro hc | apply b8E); (all_goals (try (refine (show A3x _ _ _ _ _ _ from ?_); simp only [go_sem, hS0] at hc ⊢; simp only [go_sem, hS0, A6U, A6Y, A6o, A6n, A6T, A6m, nf_put_sub, A6W, A6V, nf_put_susK, nf_put_dip, nf_put_put, A6X, A6S, A6p, a2D, a2C, nf_sub_sub] at hc ⊢; simp only [hc, and_self, true_and]; done))); all_goals try ((repeat' first | apply And.intro | intro hs) <;> (try simp only [go_sem, Bool.and_eq_false_iff] at hs) <;> omega)
 ·(refine lpK_n2 (⟨(n + 1, now), by simp only; omega, b6i hj (by simpa [bne] using hc)⟩) _ (by simp only [go_sem]; try rfl) ?_; simp only [go_sem, hS0]; first | done | ((repeat' apply And.intro) <;> first | omega | (refine w64 ?_ ?_ ?_ <;> omega) | rfl | skip))
 ·have hk : ((r.Body.getD n default).Kind == 1) = true := by simpa [bne] using hc
  refine b4S 100012 ?_
  refine aw_loop2 false [(false, 11, 0, 100022)] [2, 3, 6, 8, 9, 23, 24, 45] [4, 6, 16, 18, 17, 19, 5] [] (fun i : {j : Nat // j ≤ now.length ∧ (n0 (arA r n) (arR r s n) (now.take j)).length ≤ 2000} => [(11, .v false [.ow 100022]), (46, slV (.i .i64 i.1))]) (fun i => []) (fun i => [(100022, [.sl false [.s [], .i .i64 0, .s []] []], (n0 (arA r n) (arR r s n) (now.take i.1)).map (c8.cells false false))]) (fun i => now.length - i.1) (⟨0, by simp, by simp [n0]⟩) _ (by simp only [go_sem, hS0]; try rfl) ?_ ?_
  ·simp only [go_sem, hS0]
   all_goals first | omega | ((repeat' apply And.intro) <;> first | omega | rfl | skip)
  intro S1 hS1 i
  simp only [go_sem, hS0] at hS1
  obtain ⟨j, hj1, hj2⟩ := i
  (try refine A2Z ?_); simp only [go_sem, hS0, hS1]; (repeat' first | apply CJ.mk | intro hc | apply b8E); (all_goals (try (refine (show A3x _ _ _ _ _ _ from ?_); simp only [go_sem, hS0, hS1] at hc ⊢; simp only [go_sem, hS0, hS1, A6U, A6Y, A6o, A6n, A6T, A6m, nf_put_sub, A6W, A6V, nf_put_susK, nf_put_dip, nf_put_put, A6X, A6S, A6p, a2D, a2C, nf_sub_sub] at hc ⊢; simp only [hc, and_self, true_and]; done))); all_goals try ((repeat' first | apply And.intro | intro hs) <;> (try simp only [go_sem, Bool.and_eq_false_iff] at hs) <;> omega)
  ·have hm := a0M (l := now) default (i := j) (by omega)
   have he6 := hJ.len _ hm
   have hall := c0G (A := arA r n) (R := arR r s n) (now := now) (j := j) (by omega)
   refine aw_loop2 false [(false, 11, 0, 100022)] [2, 3, 6, 8, 9, 12, 23, 24, 45, 46, 51] [4, 6, 16, 18, 17, 19, 5] [] (fun i : {k : Nat // k ≤ (arR r s n).length} => [(11, .v false [.ow 100022]), (52, slV (.i .i64 i.1))]) (fun i => []) (fun i => [(100022, [.sl false [.s [], .i .i64 0, .s []] []], (b2W (arA r n) (now.getD j default) (arR r s n) (n0 (arA r n) (arR r s n) (now.take j)) i.1).map (c8.cells false false))]) (fun i => (arR r s n).length - i.1) (⟨0, by simp⟩) _ (by simp only [go_sem, hS0, hS1]; try rfl) ?_ ?_
   ·simp only [go_sem, hS0, hS1]
    all_goals first | omega | ((repeat' apply And.intro) <;> first | omega | rfl | skip)
   intro S2 hS2 i
   simp only [go_sem, hS0, hS1] at hS2
   obtain ⟨k, hk1⟩ := i
   have hlk := c0H (A := arA r n) (e := now.getD j default) (R := arR r s n) (base := n0 (arA r n) (arR r s n) (now.take j)) hk1
   (try refine A2Z ?_); simp only [go_sem, hS0, hS1, hS2]; (repeat' first | apply CJ.mk | intro hc | apply b8E); (all_goals (try ((first | refine c2u 12 rfl ?_); intro S hS B0 hB; simp only [go_sem, hS0, hS1, hS2, List.take_succ_cons, List.take_zero] at hS hB; (repeat (first | replace hS := And.right hS | replace hS := CJ.r hS)); have Rr59 := congrArg (fun s : St => s.sl 59) hS; have Rr62 := congrArg (fun s : St => s.sl 62) hS; have Rr67 := congrArg (fun s : St => s.sl 67) hS; have Rb16 := congrArg (fun s : St => s.bx 16) hS; have Rb17 := congrArg (fun s : St => s.bx 17) hS; have Rb18 := congrArg (fun s : St => s.bx 18) hS; have Rb19 := congrArg (fun s : St => s.bx 19) hS; clear hS; simp only [go_sem, hS0, hS1, hS2] at Rr59 Rr62 Rr67 Rb16 Rb17 Rb18 Rb19; (try clear hc); intro K hc; simp only [go_sem, hS0, hS1, hS2, Rr59, Rr62, Rr67, Rb16, Rb17, Rb18, Rb19, hB, List.map_cons, List.map_nil, List.drop_succ_cons, List.drop_zero] at hc ⊢; simp only [go_sem, hS0, hS1, hS2, Rr59, Rr62, Rr67, Rb16, Rb17, Rb18, Rb19, hB, A6U, A6Y, A6o, A6n, A6T, A6m, nf_put_sub, A6W, A6V, nf_put_susK, nf_put_dip, nf_put_put, A6X, A6S, A6p, a2D, a2C, nf_sub_sub] at hc ⊢; simp only [hc, and_self, true_and]; done))); all_goals try ((repeat' first | apply And.intro | intro hs) <;> (try simp only [go_sem, Bool.and_eq_false_iff] at hs) <;> omega)
   ·exact ⟨by omega, c1F hR (by omega)⟩
   ·(refine lpK_n2 (⟨k + 1, by omega⟩) _ (by simp only [go_sem, hS0, hS1]; try rfl) ?_; simp only [go_sem, hS0, hS1, hS2]; first | done | ((repeat' apply And.intro) <;> first | omega | (refine w64 ?_ ?_ ?_ <;> omega) | rfl | skip))
    all_goals (rw [b2W, b5k hc]; rfl)
   ·(refine lpK_n2 (⟨k + 1, by omega⟩) _ (by simp only [go_sem, hS0, hS1]; try rfl) ?_; simp only [go_sem, hS0, hS1, hS2]; first | done | ((repeat' apply And.intro) <;> first | omega | (refine w64 ?_ ?_ ?_ <;> omega) | rfl | skip))
    all_goals (rw [b2W, b9F hc]; simp)
   ·obtain rfl : k = (arR r s n).length := by omega
    rw [hall] at hc
    rw [l7, b8U hj (by omega) hk (j := j + 1) (show 2000 < (n0 (arA r n) (arR r s n) (now.take (j + 1))).length by omega)]
    exact ⟨rfl, rfl⟩
   ·obtain rfl : k = (arR r s n).length := by omega
    rw [hall] at hc
    (refine lpK_n2 (⟨j + 1, by omega, by omega⟩) _ (by simp only [go_sem, hS0, hS1]; try rfl) ?_; simp only [go_sem, hS0, hS1, hS2]; first | done | ((repeat' apply And.intro) <;> first | omega | (refine w64 ?_ ?_ ?_ <;> omega) | rfl | skip))
    all_goals rw [hall]
  ·rw [i8 (by omega)] at hj2
   (refine lpK_n2 (⟨(n + 1, n0 (arA r n) (arR r s n) now), by simp only; omega, c1m hj hk hj2⟩) _ (by simp only [go_sem, hS0, hS1]; try rfl) ?_; simp only [go_sem, hS0, hS1]; first | done | ((repeat' apply And.intro) <;> first | omega | (refine w64 ?_ ?_ ?_ <;> omega) | rfl | skip))
   all_goals rw [i8 (by omega)]
 obtain rfl : n = r.Body.length := by omega
 have hJR := c1n hj
 obtain ⟨_, hf, vs, hv⟩ := a9N hr hs
 rw [hJR] at hf hv
 simp only at hf hv
 refine b4S 100012 ?_
 refine b4S 10624 ?_
 refine aw_loop2 false [] [2, 3, 6, 85] [4, 6, 5] [] (fun i : {i : Nat // i ≤ now.length} => [(16, .v false [.c (.sl false [.sl false [.s [], .i .i64 0, .s []] []] ((k6 o9 [] (a5s r s (now.take i.1))).map (c8.cells false false)))]), (86, slV (.i .i64 i.1))]) (fun i => []) (fun i => []) (fun i => now.length - i.1) (⟨0, by simp⟩) _ rfl ?_ ?_
 ·simp only [go_sem, hS0]
  all_goals first | omega | ((repeat' apply And.intro) <;> first | omega | rfl | skip)
 intro S3 hS3 i
 simp only [go_sem, hS0] at hS3
 obtain ⟨i, hi⟩ := i
 have hol := b0W r s (now.take i)
 rw [List.length_take] at hol
 have hpl := b2D (a5s r s (now.take i)) []
 have hm := fun (h : i < now.length) => hf _ (a0M default h)
 have hsub : ∀ k, ∀ x ∈ a5s r s (now.take k), Comp vs x := fun k x hx => hv x (c8d hx)
 have hsy := fun (h : i < now.length) (hc : a5Z r s (eqE r (now.getD i default)) = true) => (a8g (r := r) (s := s) h).trans (by rw [(b6a hr (hm h).2.2).symm, hc, cond_true])
 have hsn := fun (h : i < now.length) (hc : a5Z r s (eqE r (now.getD i default)) = false) => (a8g (r := r) (s := s) h).trans (by rw [(b6a hr (hm h).2.2).symm, hc, cond_false, List.append_nil])
 (try refine A2Z ?_); simp only [go_sem, hS0, hS3]; (repeat' first | apply CJ.mk | intro hc | apply b8E); (all_goals (try ((first | refine c2u 5 rfl ?_); intro S hS B0 hB; simp only [go_sem, hS0, hS3, List.take_succ_cons, List.take_zero] at hS hB; (repeat (first | replace hS := And.right hS | replace hS := CJ.r hS)); have Rr89 := congrArg (fun s : St => s.sl 89) hS; have Rr93 := congrArg (fun s : St => s.sl 93) hS; have Rb4 := congrArg (fun s : St => s.bx 4) hS; have Rb5 := congrArg (fun s : St => s.bx 5) hS; clear hS; simp only [go_sem, hS0, hS3] at Rr89 Rr93 Rb4 Rb5; (try clear hc); intro K hc; simp only [go_sem, hS0, hS3, Rr89, Rr93, Rb4, Rb5, hB, List.map_cons, List.map_nil, List.drop_succ_cons, List.drop_zero] at hc ⊢; simp only [go_sem, hS0, hS3, Rr89, Rr93, Rb4, Rb5, hB, A6U, A6Y, A6o, A6n, A6T, A6m, nf_put_sub, A6W, A6V, nf_put_susK, nf_put_dip, nf_put_put, A6X, A6S, A6p, a2D, a2C, nf_sub_sub] at hc ⊢; simp only [hc, and_self, true_and]; done))); all_goals try ((repeat' first | apply And.intro | intro hs) <;> (try simp only [go_sem, Bool.and_eq_false_iff] at hs) <;> omega)
 ·have h1 := hsy (by omega) hc
  refine ⟨by simp only [List.length_nil] at hpl; omega, vs, hsub (i + 1) _ (by rw [h1]; simp), c8h (by intro x hx; cases hx) (hsub i)⟩
 ·have h1 := hsy (by omega) hc
  (refine lpK_n2 (⟨i + 1, by omega⟩) _ rfl ?_; simp only [go_sem, hS0, hS3]; first | done | ((repeat' apply And.intro) <;> first | omega | (refine w64 ?_ ?_ ?_ <;> omega) | rfl | skip))
  all_goals rw [h1, c3y]
 ·have h1 := hsn (by omega) hc
  (refine lpK_n2 (⟨i + 1, by omega⟩) _ rfl ?_; simp only [go_sem, hS0, hS3]; first | done | ((repeat' apply And.intro) <;> first | omega | (refine w64 ?_ ?_ ?_ <;> omega) | rfl | skip))
  all_goals rw [h1]
 ·rw [i8 (by omega), l7, hJR]
  exact ⟨rfl, rfl⟩
noncomputable def a1e : CT := l8 (fun (x : d3 × d7) h => b2A x.1 x.2 h)
@[go_sem] theorem c2b (x0 : Int) (x1 : List UInt8) (x2 : List c4) (x3 : List d4) (x4 : List d6) : a1e [(true, [.i .i64 x0, .s x1, .sl false [.s [], .i .i64 0, .s []] (x2.map c4.cells), .sl false [.i .i64 0, .s [], .sl false [.s [], .i .i64 0, .s []] [], .i .i64 0, .s [], .i .i64 0, .s [], .s [], .i .i64 0, .s []] (x3.map (d4.cells false false))]), (true, [.sl false [.s [], .i .i64 0, .sl false [.sl false [.i .i64 0, .s []] []] []] (x4.map (d6.cells false false))])] = some (i6 (d3.mk x0 (d5.mk x1 x2) x3) = true ∧ l9 (d7.mk x4) = true, [], .tup [(false, [.sl false [.sl false [.s [], .i .i64 0, .s []] []] (((l7 (d3.mk x0 (d5.mk x1 x2) x3) (d7.mk x4)).1).map (c8.cells false false))]), (false, [.b ((l7 (d3.mk x0 (d5.mk x1 x2) x3) (d7.mk x4)).2)])]) := f9 _ (by rintro ⟨⟨_, ⟨_, _⟩, _⟩, ⟨_⟩⟩ ⟨⟨_, ⟨_, _⟩, _⟩, ⟨_⟩⟩ h; simp at h; simp_all) ((d3.mk x0 (d5.mk x1 x2) x3), (d7.mk x4))
theorem a8t : OkC Tryz.prog 114 a1e := i3 _
end Go.Aw
