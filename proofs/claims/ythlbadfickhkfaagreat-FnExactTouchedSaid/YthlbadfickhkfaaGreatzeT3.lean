/- Variables of terms, texts in order. No condition. -/
import Derived.Test.YthlbadfickhkfaaGreatzeG8
import Derived.Test.YthlbadfickhkfaaGreatzeS1
import Derived.Test.YthlbadfickhkfaaGreathBwtze
namespace Go.Aw
open Go.Proofs
attribute [local irreducible] aft blk lpK retK AW A0l
set_option linter.unusedVariables false
set_option linter.unusedSimpArgs false
set_option maxRecDepth 100000
abbrev sLt : List UInt8 → List UInt8 → Bool := Op.bytesLess
def a1Q {α : Type} (lt : α → α → Bool) (s : α) (t : List α) : List α := bif t.any (lt s) then t.takeWhile (fun x => !lt s x) ++ s :: t.dropWhile (fun x => !lt s x) else t
theorem c5A {α : Type} {q : α → Bool} {t : List α} (h : ∀ x ∈ t, q x = true) : t.takeWhile q = t ∧ t.dropWhile q = [] := by
 induction t with
 | nil => exact ⟨rfl, rfl⟩
 | cons a t ih =>
   have ha := h a (by simp)
   have := ih fun x hx => h x (by simp [hx])
   simp [List.takeWhile_cons, List.dropWhile_cons, ha, this.1, this.2]
theorem tw_app {α : Type} {q : α → Bool} {t u : List α} (h : ∃ x ∈ t, q x = false) : (t ++ u).takeWhile q = t.takeWhile q ∧ (t ++ u).dropWhile q = t.dropWhile q ++ u := by
 induction t with
 | nil => obtain ⟨x, hx, _⟩ := h; simp at hx
 | cons a t ih =>
   cases ha : q a with
   | false => simp [List.takeWhile_cons, List.dropWhile_cons, ha]
   | true =>
     obtain ⟨x, hx, hq⟩ := h
     have := ih ⟨x, by
      rcases List.mem_cons.1 hx with rfl | hx
      ·rw [ha] at hq; simp at hq
      ·exact hx, hq⟩
     simp [List.takeWhile_cons, List.dropWhile_cons, ha, this.1, this.2]
theorem a2i {α : Type} {lt : α → α → Bool} {s : α} {t : List α} (h : t.any (lt s) = false) : ∀ x ∈ t, (fun x => !lt s x) x = true := by
 intro x hx
 rw [List.any_eq_false] at h
 have := h x hx
 simpa using this
theorem b8F {α : Type} {lt : α → α → Bool} {s : α} {t : List α} (h : t.any (lt s) = true) : ∃ x ∈ t, (fun x => !lt s x) x = false := by
 rw [List.any_eq_true] at h
 obtain ⟨x, hx, hp⟩ := h
 exact ⟨x, hx, by simp [hp]⟩
theorem b9c {α : Type} {lt : α → α → Bool} {s x : α} {t : List α} (h : t.any (lt s) = true) : a1Q lt s (t ++ [x]) = a1Q lt s t ++ [x] := by
 have e := tw_app (u := [x]) (b8F h)
 have h2 : (t ++ [x]).any (lt s) = true := by rw [List.any_append, h]; rfl
 unfold a1Q
 rw [h, h2, e.1, e.2, cond_true, cond_true, List.append_assoc]; rfl
theorem c2i {α : Type} {lt : α → α → Bool} {s x : α} {t : List α} (h : t.any (lt s) = false) (hx : lt s x = true) : a1Q lt s (t ++ [x]) = a1Q lt s t ++ [s] ++ [x] := by
 have e := c5A (a2i h)
 have h2 : (t ++ [x]).any (lt s) = true := by rw [List.any_append, h]; simp [hx]
 unfold a1Q
 rw [h, h2, cond_true, cond_false]
 rw [List.takeWhile_append_of_pos (a2i h), List.dropWhile_append_of_pos (a2i h)]
 simp [List.takeWhile_cons, List.dropWhile_cons, hx]
theorem c5e {α : Type} {lt : α → α → Bool} {s x : α} {t : List α} (h : t.any (lt s) = false) (hx : lt s x = false) : a1Q lt s (t ++ [x]) = a1Q lt s t ++ [x] := by
 have h2 : (t ++ [x]).any (lt s) = false := by rw [List.any_append, h]; simp [hx]
 unfold a1Q
 rw [h, h2]; rfl
theorem b9d {α : Type} [DecidableEq α] {lt : α → α → Bool} {s : α} {l : List α} (hm : ¬ s ∈ l) (h : l.any (lt s) = true) : a0m lt l s = a1Q lt s l := by
 rw [a0m, if_neg hm, a1Q, h]; rfl
theorem b9e {α : Type} [DecidableEq α] {lt : α → α → Bool} {s : α} {l : List α} (hm : ¬ s ∈ l) (h : l.any (lt s) = false) : a0m lt l s = a1Q lt s l ++ [s] := by
 have e := c5A (a2i h)
 rw [a0m, if_neg hm, a1Q, h, e.1, e.2]; rfl
theorem c2j {α : Type} (lt : α → α → Bool) (s : α) (t : List α) : (a1Q lt s t).length ≤ t.length + 1 := by
 unfold a1Q
 cases t.any (lt s) with
 | false => simp
 | true =>
   have e := congrArg List.length (List.takeWhile_append_dropWhile (p := fun x => !lt s x) (l := t))
   simp only [List.length_append] at e
   simp only [cond_true, List.length_append, List.length_cons]
   omega
theorem put_len {α : Type} [DecidableEq α] (lt : α → α → Bool) (l : List α) (s : α) : (a0m lt l s).length ≤ l.length + 1 := by
 unfold a0m
 split
 ·omega
 ·have e := congrArg List.length (List.takeWhile_append_dropWhile (p := fun x => !lt s x) (l := l))
  simp only [List.length_append] at e
  simp only [List.length_append, List.length_cons]
  omega
theorem u4 {α : Type} [DecidableEq α] (lt : α → α → Bool) : ∀ (r l : List α), (j1 lt l r).length ≤ l.length + r.length := by
 intro r
 induction r with
 | nil => intro l; exact Nat.le_refl _
 | cons a r ih =>
   intro l
   have := ih (a0m lt l a)
   have := put_len lt l a
   simp only [j1, List.foldl_cons, List.length_cons] at *
   omega
theorem a7H {α : Type} [DecidableEq α] (lt : α → α → Bool) (l r : List α) (x : α) : j1 lt l (r ++ [x]) = a0m lt (j1 lt l r) x := by
 simp [j1, List.foldl_append]
def p9 (t : c5) : Bool := !(t.Var == [])
def j4 (l : List c5) : List (List UInt8) := (l.filter p9).map c5.Var
def a4W (l : List c5) : List (List UInt8) := j1 sLt [] (j4 l)
theorem c5B (l : List c5) : Lib.compact (a6f sLt (j4 l)) = a4W l :=
 a9S j3 (SS.puts j3 SS.nil) fun x => by rw [a4W, m7]; simp
theorem a0E (l : List c5) : (j4 l).length ≤ l.length := b1q _ _ _
theorem a8u (l : List (List UInt8)) (v : List UInt8) : l.contains v = l.any (fun x => x == v) := by
 rw [List.contains_eq_any_beq]; congr 1; funext x; exact Bool.eq_iff_iff.2 ⟨fun h => by rw [beq_iff_eq] at h ⊢; exact h.symm, fun h => by rw [beq_iff_eq] at h ⊢; exact h.symm⟩
def c1y : ACode := q' ([z' 4 0]) (.seq (q' ([m' 6 0, n' 7 6, z' 8 0]) (.block 0 (.loop (q' ([r' 9 8 7]) (.seq (.cond (.t 9) .skip (.exit 0)) (.seq (.block 1 (q' ([m' 10 8, m' 5
 10]) (q' ([m' 11 1, m' 12 0, m' 13 5, i' 14 1 12 13, l' 15 14, o' 16 (.bin .eql (.t 11) (.t 15))]) (.cond (.t 16) (q' ([m' 17 5, m' 4 17]) .ret) .skip)))) (g'
 [a' 18 8, m' 8 18]))))))) (q' ([o' 4 (.mov (.k (.v false [.c (.i .i64 (-1))])))]) .ret))
theorem hc_idxS : cmp Tryz.prog Tryz.f170 = some c1y := by kernel_rfl
theorem k_idxS (l : List (List UInt8)) (v : List UInt8) : A0l Tryz.prog 170 [(false, [.sl false [.s []] (l.map g8)]), (false, [.s v])] [] (.one (false, [.i .i64 (z7 (fun y => v == y) l)])) := by
 refine spec_of2 false false none Tryz.func170 hc_idxS (rvs := [.t 4]) (hΓ := mkCtx_ok (deep := false) (l := []) trivial) (h := ?_)
 intro hb hE
 simp only [go_sem] at hb
 simp only [c1y, x']
 (try refine A2V ?_); simp only [go_sem]; (repeat' first | apply CJ.mk | intro hc); all_goals try ((repeat' first | apply And.intro | intro hs) <;> (try simp only [go_sem, Bool.and_eq_false_iff] at hs) <;> omega)
 refine aw_loop2 false [] [0, 1, 7] [] [] (fun i : {i : Nat // i ≤ l.length ∧ (l.take i).any (fun y => v == y) = false} => [(8, slV (.i .i64 i.1))]) (fun i => []) (fun i => []) (fun i => l.length - i.1) (⟨0, by simp⟩) _ rfl ?_ ?_
 ·simp only [go_sem]
  all_goals first | omega | ((repeat' apply And.intro) <;> first | omega | rfl | skip)
 intro S0 hS0 i
 simp only [go_sem] at hS0
 obtain ⟨i, hi, ha⟩ := i
 (try refine A2V ?_); simp only [go_sem, hS0]; (repeat' first | apply CJ.mk | intro hc); all_goals try ((repeat' first | apply And.intro | intro hs) <;> (try simp only [go_sem, Bool.and_eq_false_iff] at hs) <;> omega)
 ·exact (o9 (p := fun y => v == y) (d := []) (by omega) ha hc).symm
 ·(refine lpK_n2 (⟨i + 1, by omega, l3 (p := fun y => v == y) [] (by omega) ha hc⟩) _ rfl ?_; simp only [go_sem, hS0]; first | done | ((repeat' apply And.intro) <;> first | omega | (refine w64 ?_ ?_ ?_ <;> omega) | rfl | skip))
 ·exact (o8 (by rwa [f9 (by omega)] at ha)).symm
noncomputable def c0G : CT := i8 (fun (x : (List (List UInt8)) × (List UInt8)) => k_idxS x.1 x.2)
@[go_sem] theorem c_idxS_eq (l : List (List UInt8)) (v : List UInt8) : c0G [(false, [.sl false [.s []] (l.map g8)]), (false, [.s v])] = some (True, [], .one (false, [.i .i64 (z7 (fun y => v == y) l)])) := f5 _ (by rintro ⟨_, _⟩ ⟨_, _⟩ h; simp at h; simp_all) (l, v)
theorem c2U : OkC Tryz.prog 170 c0G := f7 _
def c1x : ACode := q' ([b' 4 false]) (q' ([m' 5 0, m' 6 1, c' 7 170 [5, 6], o' 8 (.bin .geq (.t 7) (k' 0)), m' 4 8]) .ret)
theorem hc_conS : cmp Tryz.prog Tryz.f102 = some c1x := by kernel_rfl
theorem k_conS (l : List (List UInt8)) (v : List UInt8) : A0l Tryz.prog 102 [(false, [.sl false [.s []] (l.map g8)]), (false, [.s v])] [] (.one (false, [.b (l.contains v)])) := by
 refine spec_of2 false false none Tryz.func102 hc_conS (rvs := [.t 4]) (hΓ := mkCtx_ok (deep := false) (l := [(170, [], c0G)]) ⟨c2U, trivial⟩) (h := ?_)
 intro hb hE
 simp only [go_sem] at hb
 simp only [c1x, x']
 (try refine A2V ?_); simp only [go_sem]; (repeat' first | apply CJ.mk | intro hc); all_goals try ((repeat' first | apply And.intro | intro hs) <;> (try simp only [go_sem, Bool.and_eq_false_iff] at hs) <;> omega)
 all_goals (rw [List.contains_eq_any_beq]; exact z8 _ _)
noncomputable def b4b : CT := i8 (fun (x : (List (List UInt8)) × (List UInt8)) => k_conS x.1 x.2)
@[go_sem] theorem c_conS_eq (l : List (List UInt8)) (v : List UInt8) : b4b [(false, [.sl false [.s []] (l.map g8)]), (false, [.s v])] = some (True, [], .one (false, [.b (l.contains v)])) := f5 _ (by rintro ⟨_, _⟩ ⟨_, _⟩ h; simp at h; simp_all) (l, v)
theorem b0V : OkC Tryz.prog 102 b4b := f7 _
def a6V : ACode := q' ([b' 4 false]) (.seq (q' ([m' 7 0, n' 8 7, z' 9 0]) (.block 0 (.loop (q' ([r' 10 9 8]) (.seq (.cond (.t 10) .skip (.exit 0)) (.seq (.block 1 (q' ([i' 11 1 7
 9, l' 12 11, m' 6 12]) (q' ([m' 13 6, m' 14 1, o' 15 (.bin .eql (.t 13) (.t 14))]) (.cond (.t 15) (q' ([b' 4 true]) .ret) .skip)))) (g' [a' 16 9, m' 9
 16]))))))) (q' ([b' 4 false]) .ret))
theorem b4U : cmp Tryz.prog Tryz.f153 = some a6V := by kernel_rfl
theorem b6P (l : List (List UInt8)) (v : List UInt8) : A0l Tryz.prog 153 [(false, [.sl false [.s []] (l.map g8)]), (false, [.s v])] [] (.one (false, [.b (l.contains v)])) := by
 refine spec_of2 false false none Tryz.func153 b4U (rvs := [.t 4]) (hΓ := mkCtx_ok (deep := false) (l := []) trivial) (h := ?_)
 intro hb hE
 simp only [go_sem] at hb
 simp only [a6V, x']
 (try refine A2V ?_); simp only [go_sem]; (repeat' first | apply CJ.mk | intro hc); all_goals try ((repeat' first | apply And.intro | intro hs) <;> (try simp only [go_sem, Bool.and_eq_false_iff] at hs) <;> omega)
 refine aw_loop2 false [] [1, 7, 8] [] [] (fun i : {i : Nat // i ≤ l.length ∧ (l.take i).any (fun x => x == v) = false} => [(9, slV (.i .i64 i.1))]) (fun i => []) (fun i => []) (fun i => l.length - i.1) (⟨0, by simp⟩) _ rfl ?_ ?_
 ·simp only [go_sem]
  all_goals first | omega | ((repeat' apply And.intro) <;> first | omega | rfl | skip)
 intro S0 hS0 i
 simp only [go_sem] at hS0
 obtain ⟨i, hi, ha⟩ := i
 (try refine A2V ?_); simp only [go_sem, hS0]; (repeat' first | apply CJ.mk | intro hc); all_goals try ((repeat' first | apply And.intro | intro hs) <;> (try simp only [go_sem, Bool.and_eq_false_iff] at hs) <;> omega)
 ·rw [a8u, any_true (d := []) (i := i) (by omega) hc]
 ·(refine lpK_n2 (⟨i + 1, by omega, l3 [] (by omega) ha hc⟩) _ rfl ?_; simp only [go_sem, hS0]; first | done | ((repeat' apply And.intro) <;> first | omega | (refine w64 ?_ ?_ ?_ <;> omega) | rfl | skip))
 ·rw [a8u, ← ha, f9 (by omega)]
noncomputable def z6 : CT := i8 (fun (x : (List (List UInt8)) × (List UInt8)) => b6P x.1 x.2)
@[go_sem] theorem c3y (l : List (List UInt8)) (v : List UInt8) : z6 [(false, [.sl false [.s []] (l.map g8)]), (false, [.s v])] = some (True, [], .one (false, [.b (l.contains v)])) := f5 _ (by rintro ⟨_, _⟩ ⟨_, _⟩ h; simp at h; simp_all) (l, v)
theorem a0Z : OkC Tryz.prog 153 z6 := f7 _
def a2s : ACode := q' ([o' 4 (.mov (.k (.v false [.nl [.s []]])))]) (q' ([o' 9 (.bsl 1 0 [.s] []), m' 5 9]) (q' ([b' 6 false]) (.seq (q' ([m' 10 0, n' 11 10, z' 12 0]) (.block 0
 (.loop (q' ([r' 13 12 11]) (.seq (.cond (.t 13) .skip (.exit 0)) (.seq (.block 1 (q' ([i' 14 1 10 12, l' 15 14, m' 8 15]) (.seq (q' ([m' 16 8, m' 17 1, o' 18
 (.bin .eql (.t 16) (.t 17))]) (.cond (.t 18) (q' ([m' 19 0, m' 4 19]) .ret) .skip)) (.seq (q' ([m' 20 6, o' 21 (.not (.t 20)), m' 22 21, ⟨some 23, .mov (.t
 1), some (22, true)⟩, ⟨some 24, .mov (.t 8), some (22, true)⟩, ⟨some 25, .bin .lss (.t 23) (.t 24), some (22, true)⟩, o' 26 (.pick (.t 22) (.t 25) (.k (.v
 false [.c (.b false)])))]) (.cond (.t 26) (q' ([m' 27 5, m' 28 1, o' 29 (.bsl 1 1 [.s] [(0, .t 28)]), o' 30 (.app 1 16 [.s] (.t 27) (.t 29)), m' 5 30]) (g'
 [b' 6 true])) .skip)) (g' [m' 31 5, m' 32 8, o' 33 (.bsl 1 1 [.s] [(0, .t 32)]), o' 34 (.app 1 16 [.s] (.t 31) (.t 33)), m' 5 34]))))) (g' [a' 35 12, m' 12
 35]))))))) (.seq (q' ([m' 36 6, o' 37 (.not (.t 36))]) (.cond (.t 37) (g' [m' 38 5, m' 39 1, o' 40 (.bsl 1 1 [.s] [(0, .t 39)]), o' 41 (.app 1 16 [.s] (.t 38)
 (.t 40)), m' 5 41]) .skip)) (q' ([m' 42 5, m' 4 42]) .ret)))))
theorem a7y : cmp Tryz.prog Tryz.f98 = some a2s := by kernel_rfl
theorem b6Q (l : List (List UInt8)) (s : List UInt8) (hpre : l.length < 1099511627776) : A0l Tryz.prog 98 [(false, [.sl false [.s []] (l.map g8)]), (false, [.s s])] [] (.one (false, [.sl false [.s []] ((a0m sLt l s).map g8)])) := by
 refine spec_of2 false true none Tryz.func98 a7y (rvs := [.t 4]) (hΓ := mkCtx_ok (deep := false) (l := []) trivial) (h := ?_)
 intro hb hE
 simp only [go_sem] at hb
 simp only [a2s, x']
 (try refine A2V ?_); simp only [go_sem]; (repeat' first | apply CJ.mk | intro hc); all_goals try ((repeat' first | apply And.intro | intro hs) <;> (try simp only [go_sem, Bool.and_eq_false_iff] at hs) <;> omega)
 refine aw_loop2 false [(false, 5, 0, 100010)] [0, 1, 10, 11] [] [] (fun i : {i : Nat // i ≤ l.length ∧ ¬ s ∈ l.take i} => [(5, .v false [.ow 100010]), (6, slV (.b ((l.take i.1).any (sLt s)))), (12, slV (.i .i64 i.1))]) (fun i => []) (fun i => [(100010, [.s []], (a1Q sLt s (l.take i.1)).map g8)]) (fun i => l.length - i.1) (⟨0, by simp⟩) _ (by simp only [go_sem]; try rfl) ?_ ?_
 ·simp only [go_sem]
  all_goals first | omega | ((repeat' apply And.intro) <;> first | omega | rfl | skip)
 intro S0 hS0 i
 simp only [go_sem] at hS0
 obtain ⟨i, hi, hm⟩ := i
 (try refine A2V ?_); simp only [go_sem, hS0]; (repeat' first | apply CJ.mk | intro hc); all_goals try ((repeat' first | apply And.intro | intro hs) <;> (try simp only [go_sem, Bool.and_eq_false_iff] at hs) <;> omega)
 all_goals have hl := c2j sLt s (l.take i)
 all_goals rw [List.length_take] at hl
 ·have hm2 : s ∈ l := by
   rw [beq_iff_eq] at hc
   have := l9 (l := l) [] (i := i) (by omega)
   rw [← hc, this]; exact List.getElem_mem _
  rw [a0m, if_pos hm2]
 ·omega
 ·omega
 ·have hx := i4 (l := l) [] (i := i) (by omega)
  have hn : ¬ s ∈ l.take (i + 1) := by rw [hx]; simp only [List.mem_append, List.mem_singleton]; rintro (h | h); exact hm h; subst h; simp at *
  have h1 : (l.take (i + 1)).any (sLt s) = true := by rw [hx, List.any_append, hc.1, List.any_cons, show sLt s (l.getD i []) = true from hc.2]; rfl
  have h2 : a1Q sLt s (l.take (i + 1)) = a1Q sLt s (l.take i) ++ [s] ++ [l.getD i []] := by rw [hx, c2i hc.1 hc.2]
  (refine lpK_n2 (⟨i + 1, by omega, hn⟩) _ (by simp only [go_sem]; try rfl) ?_; simp only [go_sem, hS0]; first | done | ((repeat' apply And.intro) <;> first | omega | (refine w64 ?_ ?_ ?_ <;> omega) | rfl | skip))
  all_goals first | rw [h1] | rw [h2]
 ·omega
 ·have hx := i4 (l := l) [] (i := i) (by omega)
  have hn : ¬ s ∈ l.take (i + 1) := by rw [hx]; simp only [List.mem_append, List.mem_singleton]; rintro (h | h); exact hm h; subst h; simp at *
  have h3 : (l.take (i + 1)).any (sLt s) = (l.take i).any (sLt s) ∧ a1Q sLt s (l.take (i + 1)) = a1Q sLt s (l.take i) ++ [l.getD i []] := by
   rw [hx]
   cases h : (l.take i).any (sLt s) with
   | true => exact ⟨by rw [List.any_append, h]; rfl, b9c h⟩
   | false =>
     rw [h] at hc
     have hc2 : sLt s (l.getD i []) = false := hc
     exact ⟨by rw [List.any_append, h, List.any_cons, hc2]; rfl, c5e h hc2⟩
  (refine lpK_n2 (⟨i + 1, by omega, hn⟩) _ (by simp only [go_sem]; try rfl) ?_; simp only [go_sem, hS0]; first | done | ((repeat' apply And.intro) <;> first | omega | (refine w64 ?_ ?_ ?_ <;> omega) | rfl | skip))
  all_goals first | rw [h3.1] | rw [h3.2]
 ·omega
 ·rw [f9 (by omega)] at hc hm ⊢
  rw [b9e hm hc]
 ·rw [f9 (by omega)] at hc hm ⊢
  rw [b9d hm hc]
noncomputable def a1t : CT := p4 (fun (x : (List (List UInt8)) × (List UInt8)) h => b6Q x.1 x.2 h)
@[go_sem] theorem c3z (l : List (List UInt8)) (s : List UInt8) : a1t [(false, [.sl false [.s []] (l.map g8)]), (false, [.s s])] = some (l.length < 1099511627776, [], .one (false, [.sl false [.s []] ((a0m sLt l s).map g8)])) := i6 _ (by rintro ⟨_, _⟩ ⟨_, _⟩ h; simp at h; simp_all) (l, s)
theorem a4M : OkC Tryz.prog 98 a1t := i7 _
def a6z : ACode := q' ([o' 2 (.mov (.k (.v false [.nl [.s []]])))]) (q' ([o' 6 (.bsl 1 0 [.s] []), m' 3 6]) (.seq (q' ([m' 7 0, n' 8 7, z' 9 0]) (.block 0 (.loop (q' ([r' 10 9 8])
 (.seq (.cond (.t 10) .skip (.exit 0)) (.seq (.block 1 (q' ([i' 11 3 7 9, e' 12 3 11, w' 5 [.s, .i .i64, .s], s' 3 5 12]) (q' ([f' 13 0 5, l' 14 13, o' 15
 (.bin .neq (.t 14) (.k (.v false [.c (.s [])])))]) (.cond (.t 15) (g' [m' 16 3, f' 17 0 5, l' 18 17, o' 19 (.bsl 1 1 [.s] [(0, .t 18)]), o' 20 (.app 1 16 [.s]
 (.t 16) (.t 19)), m' 3 20]) .skip)))) (g' [a' 21 9, m' 9 21]))))))) (q' ([m' 22 3, c' 23 103 [22]]) (q' ([m' 24 3, c' 25 239 [24], m' 2 25]) .ret))))
theorem b4y : cmp Tryz.prog Tryz.f155 = some a6z := by kernel_rfl
theorem b6t (l : List c5) (hpre : l.length < 1099511627776) : A0l Tryz.prog 155 [(false, [.sl false [.s [], .i .i64 0, .s []] (l.map c5.cells)])] [] (.one (false, [.sl true [.s []] ((a4W l).map g8)])) := by
 refine spec_of2 false false none Tryz.func155 b4y (rvs := [.t 2]) (hΓ := mkCtx_ok (deep := false) (l := [(103, [0], a4K), (239, [0], a9s)]) ⟨a5o, b2r, trivial⟩) (h := ?_)
 intro hb hE
 simp only [go_sem] at hb
 simp only [a6z, x']
 (try refine A2V ?_); simp only [go_sem]; (repeat' first | apply CJ.mk | intro hc); all_goals try ((repeat' first | apply And.intro | intro hs) <;> (try simp only [go_sem, Bool.and_eq_false_iff] at hs) <;> omega)
 refine aw_loop2 false [(false, 3, 0, 100006)] [7, 8] [] [] (fun i : {i : Nat // i ≤ l.length} => [(3, .v false [.ow 100006]), (9, slV (.i .i64 i.1))]) (fun i => []) (fun i => [(100006, [.s []], (j4 (l.take i.1)).map g8)]) (fun i => l.length - i.1) (⟨0, by simp⟩) _ (by simp only [go_sem]; try rfl) ?_ ?_
 ·simp only [go_sem]
  all_goals first | omega | ((repeat' apply And.intro) <;> first | omega | rfl | skip)
 intro S0 hS0 i
 simp only [go_sem] at hS0
 obtain ⟨i, hi⟩ := i
 (try refine A2V ?_); simp only [go_sem, hS0]; (repeat' first | apply CJ.mk | intro hc); all_goals try ((repeat' first | apply And.intro | intro hs) <;> (try simp only [go_sem, Bool.and_eq_false_iff] at hs) <;> omega)
 all_goals have hl := a0E (l.take i)
 all_goals rw [List.length_take] at hl
 ·omega
 ·(refine lpK_n2 (⟨i + 1, by omega⟩) _ (by simp only [go_sem]; try rfl) ?_; simp only [go_sem, hS0]; first | done | ((repeat' apply And.intro) <;> first | omega | (refine w64 ?_ ?_ ?_ <;> omega) | rfl | skip))
  all_goals rw [j4, j4, a7u (p := p9) c5.Var default (by omega) (by rw [p9, hc]; rfl)]
 ·(refine lpK_n2 (⟨i + 1, by omega⟩) _ (by simp only [go_sem]; try rfl) ?_; simp only [go_sem, hS0]; first | done | ((repeat' apply And.intro) <;> first | omega | (refine w64 ?_ ?_ ?_ <;> omega) | rfl | skip))
  all_goals rw [j4, j4, a9V (p := p9) c5.Var default (by omega) (by rw [p9, hc]; rfl)]
 ·omega
 ·rw [f9 (by omega), c5B]
noncomputable def a1k : CT := p4 (fun (x : (List c5)) h => b6t x h)
@[go_sem] theorem c3d (l : List c5) : a1k [(false, [.sl false [.s [], .i .i64 0, .s []] (l.map c5.cells)])] = some (l.length < 1099511627776, [], .one (false, [.sl true [.s []] ((a4W l).map g8)])) := i6 _ (by intro x y h; simp at h; simp_all) l
theorem a4D : OkC Tryz.prog 155 a1k := i7 _
def a0J : ACode := q' ([o' 4 (.mov (.k (.v false [.nl [.s []]])))]) (.seq (q' ([m' 7 1, n' 8 7, z' 9 0]) (.block 0 (.loop (q' ([r' 10 9 8]) (.seq (.cond (.t 10) .skip (.exit 0))
 (.seq (.block 1 (q' ([i' 11 3 7 9, e' 12 3 11, w' 6 [.s, .i .i64, .s], s' 3 6 12]) (q' ([f' 13 0 6, l' 14 13, o' 15 (.bin .neq (.t 14) (.k (.v false [.c (.s
 [])])))]) (.cond (.t 15) (g' [m' 16 0, f' 17 0 6, l' 18 17, c' 19 98 [16, 18], m' 0 19]) .skip)))) (g' [a' 20 9, m' 9 20]))))))) (q' ([m' 21 0, m' 4 21])
 .ret))
theorem a4N : cmp Tryz.prog Tryz.f152 = some a0J := by kernel_rfl
theorem b3z (a : List (List UInt8)) (l : List c5) (hpre : a.length + l.length < 1099511627776) : A0l Tryz.prog 152 [(false, [.sl false [.s []] (a.map g8)]), (false, [.sl false [.s [], .i .i64 0, .s []] (l.map c5.cells)])] [] (.one (false, [.sl false [.s []] ((j1 sLt a (j4 l)).map g8)])) := by
 refine spec_of2 false true none Tryz.func152 a4N (rvs := [.t 4]) (hΓ := mkCtx_ok (deep := false) (l := [(98, [], a1t)]) ⟨a4M, trivial⟩) (h := ?_)
 intro hb hE
 simp only [go_sem] at hb
 simp only [a0J, x']
 (try refine A2V ?_); simp only [go_sem]; (repeat' first | apply CJ.mk | intro hc); all_goals try ((repeat' first | apply And.intro | intro hs) <;> (try simp only [go_sem, Bool.and_eq_false_iff] at hs) <;> omega)
 refine aw_loop2 false [] [7, 8] [] [] (fun i : {i : Nat // i ≤ l.length} => [(0, .v false [.c (.sl false [.s []] ((j1 sLt a (j4 (l.take i.1))).map g8))]), (9, slV (.i .i64 i.1))]) (fun i => []) (fun i => []) (fun i => l.length - i.1) (⟨0, by simp⟩) _ rfl ?_ ?_
 ·simp only [go_sem]
  all_goals first | omega | ((repeat' apply And.intro) <;> first | omega | rfl | skip)
 intro S0 hS0 i
 simp only [go_sem] at hS0
 obtain ⟨i, hi⟩ := i
 (try refine A2V ?_); simp only [go_sem, hS0]; (repeat' first | apply CJ.mk | intro hc); all_goals try ((repeat' first | apply And.intro | intro hs) <;> (try simp only [go_sem, Bool.and_eq_false_iff] at hs) <;> omega)
 all_goals have hl := a0E (l.take i)
 all_goals have hl2 := u4 sLt (j4 (l.take i)) a
 all_goals rw [List.length_take] at hl
 ·omega
 ·(refine lpK_n2 (⟨i + 1, by omega⟩) _ rfl ?_; simp only [go_sem, hS0]; first | done | ((repeat' apply And.intro) <;> first | omega | (refine w64 ?_ ?_ ?_ <;> omega) | rfl | skip))
  all_goals rw [show j4 (l.take (i + 1)) = j4 (l.take i) ++ [(l.getD i default).Var] by rw [j4, j4, a7u (p := p9) c5.Var default (by omega) (by rw [p9, hc]; rfl)], a7H]
 ·(refine lpK_n2 (⟨i + 1, by omega⟩) _ rfl ?_; simp only [go_sem, hS0]; first | done | ((repeat' apply And.intro) <;> first | omega | (refine w64 ?_ ?_ ?_ <;> omega) | rfl | skip))
  all_goals rw [show j4 (l.take (i + 1)) = j4 (l.take i) by rw [j4, j4, a9V (p := p9) c5.Var default (by omega) (by rw [p9, hc]; rfl)]]
 ·rw [f9 (by omega)]
noncomputable def u7 : CT := p4 (fun (x : (List (List UInt8)) × (List c5)) h => b3z x.1 x.2 h)
@[go_sem] theorem a2U (a : List (List UInt8)) (l : List c5) : u7 [(false, [.sl false [.s []] (a.map g8)]), (false, [.sl false [.s [], .i .i64 0, .s []] (l.map c5.cells)])] = some (a.length + l.length < 1099511627776, [], .one (false, [.sl false [.s []] ((j1 sLt a (j4 l)).map g8)])) := i6 _ (by rintro ⟨_, _⟩ ⟨_, _⟩ h; simp at h; simp_all) (a, l)
theorem a8K : OkC Tryz.prog 152 u7 := i7 _
end Go.Aw
