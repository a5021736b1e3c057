/- Variables of terms, texts in order. No condition. -/
import Derived.Test.YthlbadfickhkfaaGreatzhG8
import Derived.Test.YthlbadfickhkfaaGreatzhS1
import Derived.Test.YthlbadfickhkfaaGreatlBwtzh
namespace Go.Aw
open Go.Proofs
attribute [local irreducible] aft blk lpK retK AW A0m
set_option linter.unusedVariables false
set_option linter.unusedSimpArgs false
set_option maxRecDepth 100000
abbrev sLt : List UInt8 → List UInt8 → Bool := Op.bytesLess
def a0x {α : Type} (lt : α → α → Bool) (s : α) (t : List α) : List α := bif t.any (lt s) then t.takeWhile (fun x => !lt s x) ++ s :: t.dropWhile (fun x => !lt s x) else t
theorem c8p {α : Type} {q : α → Bool} {t : List α} (h : ∀ x ∈ t, q x = true) : t.takeWhile q = t ∧ t.dropWhile q = [] := by
 induction t with
 | nil => exact ⟨rfl, rfl⟩
 | cons a t ih =>
   have ha := h a (by simp)
   have := ih fun x hx => h x (by simp [hx])
   simp [List.takeWhile_cons, List.dropWhile_cons, ha, this.1, this.2]
theorem tw_app {α : Type} {q : α → Bool} {t u : List α} (h : ∃ x ∈ t, q x = false) : (t ++ u).takeWhile q = t.takeWhile q ∧ (t ++ u).dropWhile q = t.dropWhile q ++ u := by
 induction t with
 | nil => obtain ⟨x, hx, _⟩ := h; simp at hx
 | cons a t ih =>
   cases ha : q a with
   | false => simp [List.takeWhile_cons, List.dropWhile_cons, ha]
   | true =>
     obtain ⟨x, hx, hq⟩ := h
     have := ih ⟨x, by
      rcases List.mem_cons.1 hx with rfl | hx
      ·rw [ha] at hq; simp at hq
      ·exact hx, hq⟩
     simp [List.takeWhile_cons, List.dropWhile_cons, ha, this.1, this.2]
theorem a2v {α : Type} {lt : α → α → Bool} {s : α} {t : List α} (h : t.any (lt s) = false) : ∀ x ∈ t, (fun x => !lt s x) x = true := by
 intro x hx
 rw [List.any_eq_false] at h
 have := h x hx
 simpa using this
theorem c0J {α : Type} {lt : α → α → Bool} {s : α} {t : List α} (h : t.any (lt s) = true) : ∃ x ∈ t, (fun x => !lt s x) x = false := by
 rw [List.any_eq_true] at h
 obtain ⟨x, hx, hp⟩ := h
 exact ⟨x, hx, by simp [hp]⟩
theorem b6b {α : Type} {lt : α → α → Bool} {s x : α} {t : List α} (h : t.any (lt s) = true) : a0x lt s (t ++ [x]) = a0x lt s t ++ [x] := by
 have e := tw_app (u := [x]) (c0J h)
 have h2 : (t ++ [x]).any (lt s) = true := by rw [List.any_append, h]; rfl
 unfold a0x
 rw [h, h2, e.1, e.2, cond_true, cond_true, List.append_assoc]; rfl
theorem b9Q {α : Type} {lt : α → α → Bool} {s x : α} {t : List α} (h : t.any (lt s) = false) (hx : lt s x = true) : a0x lt s (t ++ [x]) = a0x lt s t ++ [s] ++ [x] := by
 have e := c8p (a2v h)
 have h2 : (t ++ [x]).any (lt s) = true := by rw [List.any_append, h]; simp [hx]
 unfold a0x
 rw [h, h2, cond_true, cond_false]
 rw [List.takeWhile_append_of_pos (a2v h), List.dropWhile_append_of_pos (a2v h)]
 simp [List.takeWhile_cons, List.dropWhile_cons, hx]
theorem c3q {α : Type} {lt : α → α → Bool} {s x : α} {t : List α} (h : t.any (lt s) = false) (hx : lt s x = false) : a0x lt s (t ++ [x]) = a0x lt s t ++ [x] := by
 have h2 : (t ++ [x]).any (lt s) = false := by rw [List.any_append, h]; simp [hx]
 unfold a0x
 rw [h, h2]; rfl
theorem b6c {α : Type} [DecidableEq α] {lt : α → α → Bool} {s : α} {l : List α} (hm : ¬ s ∈ l) (h : l.any (lt s) = true) : w6 lt l s = a0x lt s l := by
 rw [w6, if_neg hm, a0x, h]; rfl
theorem b6d {α : Type} [DecidableEq α] {lt : α → α → Bool} {s : α} {l : List α} (hm : ¬ s ∈ l) (h : l.any (lt s) = false) : w6 lt l s = a0x lt s l ++ [s] := by
 have e := c8p (a2v h)
 rw [w6, if_neg hm, a0x, h, e.1, e.2]; rfl
theorem b9R {α : Type} (lt : α → α → Bool) (s : α) (t : List α) : (a0x lt s t).length ≤ t.length + 1 := by
 unfold a0x
 cases t.any (lt s) with
 | false => simp
 | true =>
   have e := congrArg List.length (List.takeWhile_append_dropWhile (p := fun x => !lt s x) (l := t))
   simp only [List.length_append] at e
   simp only [cond_true, List.length_append, List.length_cons]
   omega
theorem put_len {α : Type} [DecidableEq α] (lt : α → α → Bool) (l : List α) (s : α) : (w6 lt l s).length ≤ l.length + 1 := by
 unfold w6
 split
 ·omega
 ·have e := congrArg List.length (List.takeWhile_append_dropWhile (p := fun x => !lt s x) (l := l))
  simp only [List.length_append] at e
  simp only [List.length_append, List.length_cons]
  omega
theorem a3u {α : Type} [DecidableEq α] (lt : α → α → Bool) : ∀ (r l : List α), (k6 lt l r).length ≤ l.length + r.length := by
 intro r
 induction r with
 | nil => intro l; exact Nat.le_refl _
 | cons a r ih =>
   intro l
   have := ih (w6 lt l a)
   have := put_len lt l a
   simp only [k6, List.foldl_cons, List.length_cons] at *
   omega
theorem b9a {α : Type} [DecidableEq α] (lt : α → α → Bool) (l r : List α) (x : α) : k6 lt l (r ++ [x]) = w6 lt (k6 lt l r) x := by
 simp [k6, List.foldl_append]
def t6 (t : c4) : Bool := !(t.Var == [])
def j5 (l : List c4) : List (List UInt8) := (l.filter t6).map c4.Var
def a5y (l : List c4) : List (List UInt8) := k6 sLt [] (j5 l)
theorem c8u (l : List c4) : Lib.compact (a1I sLt (j5 l)) = a5y l :=
 b0x t8 (SS.puts t8 SS.nil) fun x => by rw [a5y, t7]; simp
theorem a0Q (l : List c4) : (j5 l).length ≤ l.length := fm_len _ _ _
theorem a8W (l : List (List UInt8)) (v : List UInt8) : l.contains v = l.any (fun x => x == v) := by
 rw [List.contains_eq_any_beq]; congr 1; funext x; exact Bool.eq_iff_iff.2 ⟨fun h => by rw [beq_iff_eq] at h ⊢; exact h.symm, fun h => by rw [beq_iff_eq] at h ⊢; exact h.symm⟩
def c3H : ACode := q' ([z' 4 0]) (.seq (q' ([m' 6 0, n' 7 6, z' 8 0]) (.block 0 (.loop (q' ([r' 9 8 7]) (.seq (.cond (.t 9) .skip (.exit 0)) (.seq (.block 1 (q' ([m' 10 8, m' 5
 10]) (q' ([m' 11 1, m' 12 0, m' 13 5, i' 14 1 12 13, l' 15 14, o' 16 (.bin .eql (.t 11) (.t 15))]) (.cond (.t 16) (q' ([m' 17 5, m' 4 17]) .ret) .skip)))) (g'
 [a' 18 8, m' 8 18]))))))) (q' ([o' 4 (.mov (.k (.v false [.c (.i .i64 (-1))])))]) .ret))
theorem hc_idxS : cmp Tryz.prog Tryz.f170 = some c3H := by kernel_rfl
theorem k_idxS (l : List (List UInt8)) (v : List UInt8) : A0m Tryz.prog 170 [(false, [.sl false [.s []] (l.map j3)]), (false, [.s v])] [] (.one (false, [.i .i64 (a3q (fun y => v == y) l)])) := by
 refine spec_of2 false false none Tryz.func170 hc_idxS (rvs := [.t 4]) (hΓ := mkCtx_ok (deep := false) (l := []) trivial) (h := ?_)
 intro hb hE
 simp only [go_sem] at hb
 simp only [c3H, x']
 (try refine A2Z ?_); simp only [go_sem]; (repeat' first | apply CJ.mk | intro hc); all_goals try ((repeat' first | apply And.intro | intro hs) <;> (try simp only [go_sem, Bool.and_eq_false_iff] at hs) <;> omega)
 refine aw_loop2 false [] [0, 1, 7] [] [] (fun i : {i : Nat // i ≤ l.length ∧ (l.take i).any (fun y => v == y) = false} => [(8, slV (.i .i64 i.1))]) (fun i => []) (fun i => []) (fun i => l.length - i.1) (⟨0, by simp⟩) _ rfl ?_ ?_
 ·simp only [go_sem]
  all_goals first | omega | ((repeat' apply And.intro) <;> first | omega | rfl | skip)
 intro S0 hS0 i
 simp only [go_sem] at hS0
 obtain ⟨i, hi, ha⟩ := i
 (try refine A2Z ?_); simp only [go_sem, hS0]; (repeat' first | apply CJ.mk | intro hc); all_goals try ((repeat' first | apply And.intro | intro hs) <;> (try simp only [go_sem, Bool.and_eq_false_iff] at hs) <;> omega)
 ·exact (a1i (p := fun y => v == y) (d := []) (by omega) ha hc).symm
 ·(refine lpK_n2 (⟨i + 1, by omega, a0y (p := fun y => v == y) [] (by omega) ha hc⟩) _ rfl ?_; simp only [go_sem, hS0]; first | done | ((repeat' apply And.intro) <;> first | omega | (refine w64 ?_ ?_ ?_ <;> omega) | rfl | skip))
 ·exact (a0w (by rwa [i8 (by omega)] at ha)).symm
noncomputable def c2B : CT := j7 (fun (x : (List (List UInt8)) × (List UInt8)) => k_idxS x.1 x.2)
@[go_sem] theorem c_idxS_eq (l : List (List UInt8)) (v : List UInt8) : c2B [(false, [.sl false [.s []] (l.map j3)]), (false, [.s v])] = some (True, [], .one (false, [.i .i64 (a3q (fun y => v == y) l)])) := f7 _ (by rintro ⟨_, _⟩ ⟨_, _⟩ h; simp at h; simp_all) (l, v)
theorem c5j : OkC Tryz.prog 170 c2B := f8 _
def c3G : ACode := q' ([b' 4 false]) (q' ([m' 5 0, m' 6 1, c' 7 170 [5, 6], o' 8 (.bin .geq (.t 7) (k' 0)), m' 4 8]) .ret)
theorem hc_conS : cmp Tryz.prog Tryz.f102 = some c3G := by kernel_rfl
theorem k_conS (l : List (List UInt8)) (v : List UInt8) : A0m Tryz.prog 102 [(false, [.sl false [.s []] (l.map j3)]), (false, [.s v])] [] (.one (false, [.b (l.contains v)])) := by
 refine spec_of2 false false none Tryz.func102 hc_conS (rvs := [.t 4]) (hΓ := mkCtx_ok (deep := false) (l := [(170, [], c2B)]) ⟨c5j, trivial⟩) (h := ?_)
 intro hb hE
 simp only [go_sem] at hb
 simp only [c3G, x']
 (try refine A2Z ?_); simp only [go_sem]; (repeat' first | apply CJ.mk | intro hc); all_goals try ((repeat' first | apply And.intro | intro hs) <;> (try simp only [go_sem, Bool.and_eq_false_iff] at hs) <;> omega)
 all_goals (rw [List.contains_eq_any_beq]; exact b0M _ _)
noncomputable def c2A : CT := j7 (fun (x : (List (List UInt8)) × (List UInt8)) => k_conS x.1 x.2)
@[go_sem] theorem c_conS_eq (l : List (List UInt8)) (v : List UInt8) : c2A [(false, [.sl false [.s []] (l.map j3)]), (false, [.s v])] = some (True, [], .one (false, [.b (l.contains v)])) := f7 _ (by rintro ⟨_, _⟩ ⟨_, _⟩ h; simp at h; simp_all) (l, v)
theorem c5i : OkC Tryz.prog 102 c2A := f8 _
def a7z : ACode := q' ([b' 4 false]) (.seq (q' ([m' 7 0, n' 8 7, z' 9 0]) (.block 0 (.loop (q' ([r' 10 9 8]) (.seq (.cond (.t 10) .skip (.exit 0)) (.seq (.block 1 (q' ([i' 11 1 7
 9, l' 12 11, m' 6 12]) (q' ([m' 13 6, m' 14 1, o' 15 (.bin .eql (.t 13) (.t 14))]) (.cond (.t 15) (q' ([b' 4 true]) .ret) .skip)))) (g' [a' 16 9, m' 9
 16]))))))) (q' ([b' 4 false]) .ret))
theorem b5W : cmp Tryz.prog Tryz.f153 = some a7z := by kernel_rfl
theorem b8y (l : List (List UInt8)) (v : List UInt8) : A0m Tryz.prog 153 [(false, [.sl false [.s []] (l.map j3)]), (false, [.s v])] [] (.one (false, [.b (l.contains v)])) := by
 refine spec_of2 false false none Tryz.func153 b5W (rvs := [.t 4]) (hΓ := mkCtx_ok (deep := false) (l := []) trivial) (h := ?_)
 intro hb hE
 simp only [go_sem] at hb
 simp only [a7z, x']
 (try refine A2Z ?_); simp only [go_sem]; (repeat' first | apply CJ.mk | intro hc); all_goals try ((repeat' first | apply And.intro | intro hs) <;> (try simp only [go_sem, Bool.and_eq_false_iff] at hs) <;> omega)
 refine aw_loop2 false [] [1, 7, 8] [] [] (fun i : {i : Nat // i ≤ l.length ∧ (l.take i).any (fun x => x == v) = false} => [(9, slV (.i .i64 i.1))]) (fun i => []) (fun i => []) (fun i => l.length - i.1) (⟨0, by simp⟩) _ rfl ?_ ?_
 ·simp only [go_sem]
  all_goals first | omega | ((repeat' apply And.intro) <;> first | omega | rfl | skip)
 intro S0 hS0 i
 simp only [go_sem] at hS0
 obtain ⟨i, hi, ha⟩ := i
 (try refine A2Z ?_); simp only [go_sem, hS0]; (repeat' first | apply CJ.mk | intro hc); all_goals try ((repeat' first | apply And.intro | intro hs) <;> (try simp only [go_sem, Bool.and_eq_false_iff] at hs) <;> omega)
 ·rw [a8W, any_true (d := []) (i := i) (by omega) hc]
 ·(refine lpK_n2 (⟨i + 1, by omega, a0y [] (by omega) ha hc⟩) _ rfl ?_; simp only [go_sem, hS0]; first | done | ((repeat' apply And.intro) <;> first | omega | (refine w64 ?_ ?_ ?_ <;> omega) | rfl | skip))
 ·rw [a8W, ← ha, i8 (by omega)]
noncomputable def a1z : CT := j7 (fun (x : (List (List UInt8)) × (List UInt8)) => b8y x.1 x.2)
@[go_sem] theorem c5T (l : List (List UInt8)) (v : List UInt8) : a1z [(false, [.sl false [.s []] (l.map j3)]), (false, [.s v])] = some (True, [], .one (false, [.b (l.contains v)])) := f7 _ (by rintro ⟨_, _⟩ ⟨_, _⟩ h; simp at h; simp_all) (l, v)
theorem a5o : OkC Tryz.prog 153 a1z := f8 _
def a2K : ACode := q' ([o' 4 (.mov (.k (.v false [.nl [.s []]])))]) (q' ([o' 9 (.bsl 1 0 [.s] []), m' 5 9]) (q' ([b' 6 false]) (.seq (q' ([m' 10 0, n' 11 10, z' 12 0]) (.block 0
 (.loop (q' ([r' 13 12 11]) (.seq (.cond (.t 13) .skip (.exit 0)) (.seq (.block 1 (q' ([i' 14 1 10 12, l' 15 14, m' 8 15]) (.seq (q' ([m' 16 8, m' 17 1, o' 18
 (.bin .eql (.t 16) (.t 17))]) (.cond (.t 18) (q' ([m' 19 0, m' 4 19]) .ret) .skip)) (.seq (q' ([m' 20 6, o' 21 (.not (.t 20)), m' 22 21, ⟨some 23, .mov (.t
 1), some (22, true)⟩, ⟨some 24, .mov (.t 8), some (22, true)⟩, ⟨some 25, .bin .lss (.t 23) (.t 24), some (22, true)⟩, o' 26 (.pick (.t 22) (.t 25) (.k (.v
 false [.c (.b false)])))]) (.cond (.t 26) (q' ([m' 27 5, m' 28 1, o' 29 (.bsl 1 1 [.s] [(0, .t 28)]), o' 30 (.app 1 16 [.s] (.t 27) (.t 29)), m' 5 30]) (g'
 [b' 6 true])) .skip)) (g' [m' 31 5, m' 32 8, o' 33 (.bsl 1 1 [.s] [(0, .t 32)]), o' 34 (.app 1 16 [.s] (.t 31) (.t 33)), m' 5 34]))))) (g' [a' 35 12, m' 12
 35]))))))) (.seq (q' ([m' 36 6, o' 37 (.not (.t 36))]) (.cond (.t 37) (g' [m' 38 5, m' 39 1, o' 40 (.bsl 1 1 [.s] [(0, .t 39)]), o' 41 (.app 1 16 [.s] (.t 38)
 (.t 40)), m' 5 41]) .skip)) (q' ([m' 42 5, m' 4 42]) .ret)))))
theorem a7Y : cmp Tryz.prog Tryz.f98 = some a2K := by kernel_rfl
theorem b8z (l : List (List UInt8)) (s : List UInt8) (hpre : l.length < 1099511627776) : A0m Tryz.prog 98 [(false, [.sl false [.s []] (l.map j3)]), (false, [.s s])] [] (.one (false, [.sl false [.s []] ((w6 sLt l s).map j3)])) := by
 refine spec_of2 false true none Tryz.func98 a7Y (rvs := [.t 4]) (hΓ := mkCtx_ok (deep := false) (l := []) trivial) (h := ?_)
 intro hb hE
 simp only [go_sem] at hb
 simp only [a2K, x']
 (try refine A2Z ?_); simp only [go_sem]; (repeat' first | apply CJ.mk | intro hc); all_goals try ((repeat' first | apply And.intro | intro hs) <;> (try simp only [go_sem, Bool.and_eq_false_iff] at hs) <;> omega)
 refine aw_loop2 false [(false, 5, 0, 100010)] [0, 1, 10, 11] [] [] (fun i : {i : Nat // i ≤ l.length ∧ ¬ s ∈ l.take i} => [(5, .v false [.ow 100010]), (6, slV (.b ((l.take i.1).any (sLt s)))), (12, slV (.i .i64 i.1))]) (fun i => []) (fun i => [(100010, [.s []], (a0x sLt s (l.take i.1)).map j3)]) (fun i => l.length - i.1) (⟨0, by simp⟩) _ (by simp only [go_sem]; try rfl) ?_ ?_
 ·simp only [go_sem]
  all_goals first | omega | ((repeat' apply And.intro) <;> first | omega | rfl | skip)
 intro S0 hS0 i
 simp only [go_sem] at hS0
 obtain ⟨i, hi, hm⟩ := i
 (try refine A2Z ?_); simp only [go_sem, hS0]; (repeat' first | apply CJ.mk | intro hc); all_goals try ((repeat' first | apply And.intro | intro hs) <;> (try simp only [go_sem, Bool.and_eq_false_iff] at hs) <;> omega)
 all_goals have hl := b9R sLt s (l.take i)
 all_goals rw [List.length_take] at hl
 ·have hm2 : s ∈ l := by
   rw [beq_iff_eq] at hc
   have := k9 (l := l) [] (i := i) (by omega)
   rw [← hc, this]; exact List.getElem_mem _
  rw [w6, if_pos hm2]
 ·omega
 ·omega
 ·have hx := i9 (l := l) [] (i := i) (by omega)
  have hn : ¬ s ∈ l.take (i + 1) := by rw [hx]; simp only [List.mem_append, List.mem_singleton]; rintro (h | h); exact hm h; subst h; simp at *
  have h1 : (l.take (i + 1)).any (sLt s) = true := by rw [hx, List.any_append, hc.1, List.any_cons, show sLt s (l.getD i []) = true from hc.2]; rfl
  have h2 : a0x sLt s (l.take (i + 1)) = a0x sLt s (l.take i) ++ [s] ++ [l.getD i []] := by rw [hx, b9Q hc.1 hc.2]
  (refine lpK_n2 (⟨i + 1, by omega, hn⟩) _ (by simp only [go_sem]; try rfl) ?_; simp only [go_sem, hS0]; first | done | ((repeat' apply And.intro) <;> first | omega | (refine w64 ?_ ?_ ?_ <;> omega) | rfl | skip))
  all_goals first | rw [h1] | rw [h2]
 ·omega
 ·have hx := i9 (l := l) [] (i := i) (by omega)
  have hn : ¬ s ∈ l.take (i + 1) := by rw [hx]; simp only [List.mem_append, List.mem_singleton]; rintro (h | h); exact hm h; subst h; simp at *
  have h3 : (l.take (i + 1)).any (sLt s) = (l.take i).any (sLt s) ∧ a0x sLt s (l.take (i + 1)) = a0x sLt s (l.take i) ++ [l.getD i []] := by
   rw [hx]
   cases h : (l.take i).any (sLt s) with
   | true => exact ⟨by rw [List.any_append, h]; rfl, b6b h⟩
   | false =>
     rw [h] at hc
     have hc2 : sLt s (l.getD i []) = false := hc
     exact ⟨by rw [List.any_append, h, List.any_cons, hc2]; rfl, c3q h hc2⟩
  (refine lpK_n2 (⟨i + 1, by omega, hn⟩) _ (by simp only [go_sem]; try rfl) ?_; simp only [go_sem, hS0]; first | done | ((repeat' apply And.intro) <;> first | omega | (refine w64 ?_ ?_ ?_ <;> omega) | rfl | skip))
  all_goals first | rw [h3.1] | rw [h3.2]
 ·omega
 ·rw [i8 (by omega)] at hc hm ⊢
  rw [b6d hm hc]
 ·rw [i8 (by omega)] at hc hm ⊢
  rw [b6c hm hc]
noncomputable def a4t : CT := l8 (fun (x : (List (List UInt8)) × (List UInt8)) h => b8z x.1 x.2 h)
@[go_sem] theorem c5U (l : List (List UInt8)) (s : List UInt8) : a4t [(false, [.sl false [.s []] (l.map j3)]), (false, [.s s])] = some (l.length < 1099511627776, [], .one (false, [.sl false [.s []] ((w6 sLt l s).map j3)])) := f9 _ (by rintro ⟨_, _⟩ ⟨_, _⟩ h; simp at h; simp_all) (l, s)
theorem b1E : OkC Tryz.prog 98 a4t := i3 _
def a7a : ACode := q' ([o' 2 (.mov (.k (.v false [.nl [.s []]])))]) (q' ([o' 6 (.bsl 1 0 [.s] []), m' 3 6]) (.seq (q' ([m' 7 0, n' 8 7, z' 9 0]) (.block 0 (.loop (q' ([r' 10 9 8])
 (.seq (.cond (.t 10) .skip (.exit 0)) (.seq (.block 1 (q' ([i' 11 3 7 9, e' 12 3 11, w' 5 [.s, .i .i64, .s], s' 3 5 12]) (q' ([f' 13 0 5, l' 14 13, o' 15
 (.bin .neq (.t 14) (.k (.v false [.c (.s [])])))]) (.cond (.t 15) (g' [m' 16 3, f' 17 0 5, l' 18 17, o' 19 (.bsl 1 1 [.s] [(0, .t 18)]), o' 20 (.app 1 16 [.s]
 (.t 16) (.t 19)), m' 3 20]) .skip)))) (g' [a' 21 9, m' 9 21]))))))) (q' ([m' 22 3, c' 23 103 [22]]) (q' ([m' 24 3, c' 25 239 [24], m' 2 25]) .ret))))
theorem b5x : cmp Tryz.prog Tryz.f155 = some a7a := by kernel_rfl
theorem b7Z (l : List c4) (hpre : l.length < 1099511627776) : A0m Tryz.prog 155 [(false, [.sl false [.s [], .i .i64 0, .s []] (l.map c4.cells)])] [] (.one (false, [.sl true [.s []] ((a5y l).map j3)])) := by
 refine spec_of2 false false none Tryz.func155 b5x (rvs := [.t 2]) (hΓ := mkCtx_ok (deep := false) (l := [(103, [0], a8d), (239, [0], b0a)]) ⟨b0t, b2P, trivial⟩) (h := ?_)
 intro hb hE
 simp only [go_sem] at hb
 simp only [a7a, x']
 (try refine A2Z ?_); simp only [go_sem]; (repeat' first | apply CJ.mk | intro hc); all_goals try ((repeat' first | apply And.intro | intro hs) <;> (try simp only [go_sem, Bool.and_eq_false_iff] at hs) <;> omega)
 refine aw_loop2 false [(false, 3, 0, 100006)] [7, 8] [] [] (fun i : {i : Nat // i ≤ l.length} => [(3, .v false [.ow 100006]), (9, slV (.i .i64 i.1))]) (fun i => []) (fun i => [(100006, [.s []], (j5 (l.take i.1)).map j3)]) (fun i => l.length - i.1) (⟨0, by simp⟩) _ (by simp only [go_sem]; try rfl) ?_ ?_
 ·simp only [go_sem]
  all_goals first | omega | ((repeat' apply And.intro) <;> first | omega | rfl | skip)
 intro S0 hS0 i
 simp only [go_sem] at hS0
 obtain ⟨i, hi⟩ := i
 (try refine A2Z ?_); simp only [go_sem, hS0]; (repeat' first | apply CJ.mk | intro hc); all_goals try ((repeat' first | apply And.intro | intro hs) <;> (try simp only [go_sem, Bool.and_eq_false_iff] at hs) <;> omega)
 all_goals have hl := a0Q (l.take i)
 all_goals rw [List.length_take] at hl
 ·omega
 ·(refine lpK_n2 (⟨i + 1, by omega⟩) _ (by simp only [go_sem]; try rfl) ?_; simp only [go_sem, hS0]; first | done | ((repeat' apply And.intro) <;> first | omega | (refine w64 ?_ ?_ ?_ <;> omega) | rfl | skip))
  all_goals rw [j5, j5, b9H (p := t6) c4.Var default (by omega) (by rw [t6, hc]; rfl)]
 ·(refine lpK_n2 (⟨i + 1, by omega⟩) _ (by simp only [go_sem]; try rfl) ?_; simp only [go_sem, hS0]; first | done | ((repeat' apply And.intro) <;> first | omega | (refine w64 ?_ ?_ ?_ <;> omega) | rfl | skip))
  all_goals rw [j5, j5, c4x (p := t6) c4.Var default (by omega) (by rw [t6, hc]; rfl)]
 ·omega
 ·rw [i8 (by omega), c8u]
noncomputable def a1r : CT := l8 (fun (x : (List c4)) h => b7Z x h)
@[go_sem] theorem c5u (l : List c4) : a1r [(false, [.sl false [.s [], .i .i64 0, .s []] (l.map c4.cells)])] = some (l.length < 1099511627776, [], .one (false, [.sl true [.s []] ((a5y l).map j3)])) := f9 _ (by intro x y h; simp at h; simp_all) l
theorem a5g : OkC Tryz.prog 155 a1r := i3 _
def a0T : ACode := q' ([o' 4 (.mov (.k (.v false [.nl [.s []]])))]) (.seq (q' ([m' 7 1, n' 8 7, z' 9 0]) (.block 0 (.loop (q' ([r' 10 9 8]) (.seq (.cond (.t 10) .skip (.exit 0))
 (.seq (.block 1 (q' ([i' 11 3 7 9, e' 12 3 11, w' 6 [.s, .i .i64, .s], s' 3 6 12]) (q' ([f' 13 0 6, l' 14 13, o' 15 (.bin .neq (.t 14) (.k (.v false [.c (.s
 [])])))]) (.cond (.t 15) (g' [m' 16 0, f' 17 0 6, l' 18 17, c' 19 98 [16, 18], m' 0 19]) .skip)))) (g' [a' 20 9, m' 9 20]))))))) (q' ([m' 21 0, m' 4 21])
 .ret))
theorem a5q : cmp Tryz.prog Tryz.f152 = some a0T := by kernel_rfl
theorem b4u (a : List (List UInt8)) (l : List c4) (hpre : a.length + l.length < 1099511627776) : A0m Tryz.prog 152 [(false, [.sl false [.s []] (a.map j3)]), (false, [.sl false [.s [], .i .i64 0, .s []] (l.map c4.cells)])] [] (.one (false, [.sl false [.s []] ((k6 sLt a (j5 l)).map j3)])) := by
 refine spec_of2 false true none Tryz.func152 a5q (rvs := [.t 4]) (hΓ := mkCtx_ok (deep := false) (l := [(98, [], a4t)]) ⟨b1E, trivial⟩) (h := ?_)
 intro hb hE
 simp only [go_sem] at hb
 simp only [a0T, x']
 (try refine A2Z ?_); simp only [go_sem]; (repeat' first | apply CJ.mk | intro hc); all_goals try ((repeat' first | apply And.intro | intro hs) <;> (try simp only [go_sem, Bool.and_eq_false_iff] at hs) <;> omega)
 refine aw_loop2 false [] [7, 8] [] [] (fun i : {i : Nat // i ≤ l.length} => [(0, .v false [.c (.sl false [.s []] ((k6 sLt a (j5 (l.take i.1))).map j3))]), (9, slV (.i .i64 i.1))]) (fun i => []) (fun i => []) (fun i => l.length - i.1) (⟨0, by simp⟩) _ rfl ?_ ?_
 ·simp only [go_sem]
  all_goals first | omega | ((repeat' apply And.intro) <;> first | omega | rfl | skip)
 intro S0 hS0 i
 simp only [go_sem] at hS0
 obtain ⟨i, hi⟩ := i
 (try refine A2Z ?_); simp only [go_sem, hS0]; (repeat' first | apply CJ.mk | intro hc); all_goals try ((repeat' first | apply And.intro | intro hs) <;> (try simp only [go_sem, Bool.and_eq_false_iff] at hs) <;> omega)
 all_goals have hl := a0Q (l.take i)
 all_goals have hl2 := a3u sLt (j5 (l.take i)) a
 all_goals rw [List.length_take] at hl
 ·omega
 ·(refine lpK_n2 (⟨i + 1, by omega⟩) _ rfl ?_; simp only [go_sem, hS0]; first | done | ((repeat' apply And.intro) <;> first | omega | (refine w64 ?_ ?_ ?_ <;> omega) | rfl | skip))
  all_goals rw [show j5 (l.take (i + 1)) = j5 (l.take i) ++ [(l.getD i default).Var] by rw [j5, j5, b9H (p := t6) c4.Var default (by omega) (by rw [t6, hc]; rfl)], b9a]
 ·(refine lpK_n2 (⟨i + 1, by omega⟩) _ rfl ?_; simp only [go_sem, hS0]; first | done | ((repeat' apply And.intro) <;> first | omega | (refine w64 ?_ ?_ ?_ <;> omega) | rfl | skip))
  all_goals rw [show j5 (l.take (i + 1)) = j5 (l.take i) by rw [j5, j5, c4x (p := t6) c4.Var default (by omega) (by rw [t6, hc]; rfl)]]
 ·rw [i8 (by omega)]
noncomputable def y8 : CT := l8 (fun (x : (List (List UInt8)) × (List c4)) h => b4u x.1 x.2 h)
@[go_sem] theorem a3m (a : List (List UInt8)) (l : List c4) : y8 [(false, [.sl false [.s []] (a.map j3)]), (false, [.sl false [.s [], .i .i64 0, .s []] (l.map c4.cells)])] = some (a.length + l.length < 1099511627776, [], .one (false, [.sl false [.s []] ((k6 sLt a (j5 l)).map j3)])) := f9 _ (by rintro ⟨_, _⟩ ⟨_, _⟩ h; simp at h; simp_all) (a, l)
theorem a9B : OkC Tryz.prog 152 y8 := i3 _
end Go.Aw
