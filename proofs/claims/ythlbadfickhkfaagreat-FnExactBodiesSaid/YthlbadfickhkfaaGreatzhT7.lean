/- Bound variables. No condition. -/
import Derived.Test.YthlbadfickhkfaaGreatzhT3
namespace Go.Aw
open Go.Proofs
attribute [local irreducible] aft blk lpK retK AW A0m
set_option linter.unusedVariables false
set_option linter.unusedSimpArgs false
set_option maxRecDepth 100000
def u7 (l : d4) : Bool := l.Kind == 3 && l.Op == 1
inductive Bd (r : d3) : List UInt8 → Prop
 | base {l : d4} {t : c4} : l ∈ r.Body → (l.Kind == 1) = true → t ∈ l.Atom.Args → t6 t = true → Bd r t.Var
 | leftV {l : d4} : l ∈ r.Body → u7 l = true → t6 l.A = true → t6 l.B = false → Bd r l.A.Var
 | leftB {l : d4} : l ∈ r.Body → u7 l = true → t6 l.A = true → Bd r l.B.Var → Bd r l.A.Var
 | rightV {l : d4} : l ∈ r.Body → u7 l = true → t6 l.B = true → t6 l.A = false → Bd r l.B.Var
 | rightB {l : d4} : l ∈ r.Body → u7 l = true → t6 l.B = true → Bd r l.A.Var → Bd r l.B.Var
def o8 (out : List (List UInt8)) (t : c4) : Bool := t.Var == [] || out.contains t.Var
def t9 (out : List (List UInt8)) (l : d4) : Prop := u7 l = true → (o8 out l.A || o8 out l.B) = true → ∀ x ∈ j5 [l.A, l.B], x ∈ out
def a2O (r : d3) (out : List (List UInt8)) : Prop := ∀ l ∈ r.Body, (l.Kind == 1) = true → ∀ x ∈ j5 l.Atom.Args, x ∈ out
theorem u9 {l : List c4} {x : List UInt8} : x ∈ j5 l ↔ ∃ t ∈ l, t6 t = true ∧ t.Var = x := by
 simp only [j5, List.mem_map, List.mem_filter, and_assoc]
theorem Bd.mem {r : d3} {out : List (List UInt8)} (hb : a2O r out) (hc : ∀ l ∈ r.Body, t9 out l) {v : List UInt8} (h : Bd r v) : v ∈ out := by
 induction h with
 | base hl hk ht hv => exact hb _ hl hk _ (u9.2 ⟨_, ht, hv, rfl⟩)
 | leftV hl he hv hn =>
   refine hc _ hl he ?_ _ (u9.2 ⟨_, by simp, hv, rfl⟩)
   simp only [t6, Bool.not_eq_false'] at hn
   simp [o8, hn]
 | leftB hl he hv _ ih =>
   refine hc _ hl he ?_ _ (u9.2 ⟨_, by simp, hv, rfl⟩)
   simp [o8, ih]
 | rightV hl he hv hn =>
   refine hc _ hl he ?_ _ (u9.2 ⟨_, List.mem_cons_of_mem _ (List.mem_singleton.2 rfl), hv, rfl⟩)
   simp only [t6, Bool.not_eq_false'] at hn
   simp [o8, hn]
 | rightB hl he hv _ ih =>
   refine hc _ hl he ?_ _ (u9.2 ⟨_, List.mem_cons_of_mem _ (List.mem_singleton.2 rfl), hv, rfl⟩)
   simp [o8, ih]
def a6J (r : d3) : List (List UInt8) := r.Body.flatMap fun l => j5 l.Atom.Args ++ j5 [l.A, l.B]
theorem Bd.all {r : d3} {v : List UInt8} (h : Bd r v) : v ∈ a6J r := by
 have hm : ∀ {l : d4} {x : List UInt8}, l ∈ r.Body → (x ∈ j5 l.Atom.Args ∨ x ∈ j5 [l.A, l.B]) → x ∈ a6J r := fun hl hx => List.mem_flatMap.2 ⟨_, hl, List.mem_append.2 hx⟩
 cases h with
 | base hl hk ht hv => exact hm hl (.inl (u9.2 ⟨_, ht, hv, rfl⟩))
 | leftV hl he hv hn => exact hm hl (.inr (u9.2 ⟨_, by simp, hv, rfl⟩))
 | leftB hl he hv hn => exact hm hl (.inr (u9.2 ⟨_, by simp, hv, rfl⟩))
 | rightV hl he hv hn => exact hm hl (.inr (u9.2 ⟨_, List.mem_cons_of_mem _ (List.mem_singleton.2 rfl), hv, rfl⟩))
 | rightB hl he hv hn => exact hm hl (.inr (u9.2 ⟨_, List.mem_cons_of_mem _ (List.mem_singleton.2 rfl), hv, rfl⟩))
open Classical in
noncomputable def a0l (r : d3) : List (List UInt8) := (k6 sLt [] (a6J r)).filter fun v => decide (Bd r v)
theorem b8O (r : d3) : SS sLt (a0l r) := SS.filter (SS.puts t8 SS.nil) _
open Classical in
theorem a6a {r : d3} {v : List UInt8} : v ∈ a0l r ↔ Bd r v := by
 rw [a0l, List.mem_filter, t7, decide_eq_true_eq]
 exact ⟨fun h => h.2, fun h => ⟨.inr h.all, h⟩⟩
theorem c2y {r : d3} {out : List (List UInt8)} (hs : SS sLt out) (hB : ∀ v ∈ out, Bd r v) (hb : a2O r out) (hc : ∀ l ∈ r.Body, t9 out l) : out = a0l r :=
 SS.uniq t8 hs (b8O r) fun x => ⟨fun h => a6a.2 (hB x h), fun h => (a6a.1 h).mem hb hc⟩
theorem c2x {r : d3} {out : List (List UInt8)} (hB : ∀ v ∈ out, Bd r v) (hb : a2O r out) (hc : ∀ l ∈ r.Body, t9 out l) : Lib.compact (a1I sLt out) = a0l r :=
 b0x t8 (b8O r) fun x => ⟨fun h => (a6a.1 h).mem hb hc, fun h => a6a.2 (hB x h)⟩
theorem c8g {α : Type} [DecidableEq α] {lt : α → α → Bool} {l : List α} {s : α} (h : (w6 lt l s).length = l.length) : s ∈ l := by
 unfold w6 at h
 split at h
 ·assumption
 ·have e := congrArg List.length (List.takeWhile_append_dropWhile (p := fun x => !lt s x) (l := l))
  simp only [List.length_append, List.length_cons] at e h
  omega
theorem c8f {α : Type} [DecidableEq α] (lt : α → α → Bool) (l : List α) (s : α) : l.length ≤ (w6 lt l s).length := by
 unfold w6
 split
 ·omega
 ·have e := congrArg List.length (List.takeWhile_append_dropWhile (p := fun x => !lt s x) (l := l))
  simp only [List.length_append, List.length_cons] at e ⊢
  omega
theorem c4E {α : Type} [DecidableEq α] (lt : α → α → Bool) : ∀ (r l : List α), l.length ≤ (k6 lt l r).length := by
 intro r
 induction r with
 | nil => intro l; exact Nat.le_refl _
 | cons a r ih =>
   intro l
   have := ih (w6 lt l a)
   have := c8f lt l a
   simp only [k6, List.foldl_cons] at *
   omega
theorem c6t {α : Type} [DecidableEq α] {lt : α → α → Bool} : ∀ {r l : List α}, (k6 lt l r).length = l.length → k6 lt l r = l ∧ ∀ x ∈ r, x ∈ l := by
 intro r
 induction r with
 | nil => intro l _; exact ⟨rfl, by simp⟩
 | cons a r ih =>
   intro l h
   have h1 := c4E lt r (w6 lt l a)
   have h2 := c8f lt l a
   simp only [k6, List.foldl_cons] at h h1
   have ha : a ∈ l := c8g (lt := lt) (by omega)
   have e : w6 lt l a = l := by rw [w6, if_pos ha]
   rw [e] at h
   have h3 := ih (l := l) h
   simp only [k6, List.foldl_cons, e]
   refine ⟨h3.1, fun x hx => ?_⟩
   rcases List.mem_cons.1 hx with rfl | hx
   ·exact ha
   ·exact h3.2 x hx
theorem a2N {r : d3} (h : i6 r = true) : (a6J r).length ≤ 64 := by
 have h8 : r.Body.length ≤ 8 := by
  simp only [i6, Bool.and_eq_true, decide_eq_true_eq] at h; omega
 have ha : ∀ l ∈ r.Body, (j5 l.Atom.Args ++ j5 [l.A, l.B]).length ≤ 8 := by
  intro l hl
  simp only [i6, Bool.and_eq_true, List.all_eq_true] at h
  have hb := h.2 l hl
  have h1 := a0Q l.Atom.Args
  have h2 := a0Q [l.A, l.B]
  have h6 : l.Atom.Args.length ≤ 6 := by
   rw [a0n] at hb
   cases hk : (l.Kind == 3) <;> rw [hk] at hb <;> simp only [cond_true, cond_false, Bool.and_eq_true, decide_eq_true_eq, beq_iff_eq, a2p] at hb <;> omega
  simp only [List.length_append, List.length_cons, List.length_nil] at *
  omega
 unfold a6J
 revert ha h8
 generalize r.Body = b
 intro h8 ha
 have : ∀ b : List d4, (∀ l ∈ b, (j5 l.Atom.Args ++ j5 [l.A, l.B]).length ≤ 8) → (b.flatMap fun l => j5 l.Atom.Args ++ j5 [l.A, l.B]).length ≤ 8 * b.length := by
  intro b
  induction b with
  | nil => intro _; simp
  | cons x b ih =>
    intro hb
    have h1 := hb x (by simp)
    have h2 := ih fun l hl => hb l (by simp [hl])
    simp only [List.flatMap_cons, List.length_append, List.length_cons] at *
    omega
 have := this b ha
 omega
theorem b4t (l : List (List UInt8)) (s : List UInt8) (hpre : l.length < 1099511627776) : A0m Tryz.prog 98 [(false, [.sl true [.s []] (l.map j3)]), (false, [.s s])] [] (.one (false, [.sl true [.s []] ((w6 sLt l s).map j3)])) := by
 refine spec_of2 false false none Tryz.func98 a7Y (rvs := [.t 4]) (hΓ := mkCtx_ok (deep := false) (l := []) trivial) (h := ?_)
 intro hb hE
 simp only [go_sem] at hb
 simp only [a2K, x']
 (try refine A2Z ?_); simp only [go_sem]; (repeat' first | apply CJ.mk | intro hc); all_goals try ((repeat' first | apply And.intro | intro hs) <;> (try simp only [go_sem, Bool.and_eq_false_iff] at hs) <;> omega)
 refine aw_loop2 false [(false, 5, 0, 100010)] [0, 1, 10, 11] [] [1] (fun i : {i : Nat // i ≤ l.length ∧ ¬ s ∈ l.take i} => [(5, .v false [.ow 100010]), (6, slV (.b ((l.take i.1).any (sLt s)))), (12, slV (.i .i64 i.1))]) (fun i => []) (fun i => [(100010, [.s []], (a0x sLt s (l.take i.1)).map j3)]) (fun i => l.length - i.1) (⟨0, by simp⟩) _ (by simp only [go_sem]; try rfl) ?_ ?_
 ·simp only [go_sem]
  all_goals first | omega | ((repeat' apply And.intro) <;> first | omega | rfl | skip)
 intro S0 hS0 i
 simp only [go_sem] at hS0
 obtain ⟨i, hi, hm⟩ := i
 (try refine A2Z ?_); simp only [go_sem, hS0]; (repeat' first | apply CJ.mk | intro hc); all_goals try ((repeat' first | apply And.intro | intro hs) <;> (try simp only [go_sem, Bool.and_eq_false_iff] at hs) <;> omega)
 all_goals have hl := b9R sLt s (l.take i)
 all_goals rw [List.length_take] at hl
 ·have hm2 : s ∈ l := by
   rw [beq_iff_eq] at hc
   have := k9 (l := l) [] (i := i) (by omega)
   rw [← hc, this]; exact List.getElem_mem _
  rw [w6, if_pos hm2]
 ·omega
 ·omega
 ·have hx := i9 (l := l) [] (i := i) (by omega)
  have hn : ¬ s ∈ l.take (i + 1) := by rw [hx]; simp only [List.mem_append, List.mem_singleton]; rintro (h | h); exact hm h; subst h; simp at *
  have h1 : (l.take (i + 1)).any (sLt s) = true := by rw [hx, List.any_append, hc.1, List.any_cons, show sLt s (l.getD i []) = true from hc.2]; rfl
  have h2 : a0x sLt s (l.take (i + 1)) = a0x sLt s (l.take i) ++ [s] ++ [l.getD i []] := by rw [hx, b9Q hc.1 hc.2]
  (refine lpK_n2 (⟨i + 1, by omega, hn⟩) _ (by simp only [go_sem]; try rfl) ?_; simp only [go_sem, hS0]; first | done | ((repeat' apply And.intro) <;> first | omega | (refine w64 ?_ ?_ ?_ <;> omega) | rfl | skip))
  all_goals first | rw [h1] | rw [h2]
 ·omega
 ·have hx := i9 (l := l) [] (i := i) (by omega)
  have hn : ¬ s ∈ l.take (i + 1) := by rw [hx]; simp only [List.mem_append, List.mem_singleton]; rintro (h | h); exact hm h; subst h; simp at *
  have h3 : (l.take (i + 1)).any (sLt s) = (l.take i).any (sLt s) ∧ a0x sLt s (l.take (i + 1)) = a0x sLt s (l.take i) ++ [l.getD i []] := by
   rw [hx]
   cases h : (l.take i).any (sLt s) with
   | true => exact ⟨by rw [List.any_append, h]; rfl, b6b h⟩
   | false =>
     rw [h] at hc
     have hc2 : sLt s (l.getD i []) = false := hc
     exact ⟨by rw [List.any_append, h, List.any_cons, hc2]; rfl, c3q h hc2⟩
  (refine lpK_n2 (⟨i + 1, by omega, hn⟩) _ (by simp only [go_sem]; try rfl) ?_; simp only [go_sem, hS0]; first | done | ((repeat' apply And.intro) <;> first | omega | (refine w64 ?_ ?_ ?_ <;> omega) | rfl | skip))
  all_goals first | rw [h3.1] | rw [h3.2]
 ·omega
 ·rw [i8 (by omega)] at hc hm ⊢
  rw [b6d hm hc]
 ·rw [i8 (by omega)] at hc hm ⊢
  rw [b6c hm hc]
noncomputable def a2g : CT := l8 (fun (x : (List (List UInt8)) × (List UInt8)) h => b4t x.1 x.2 h)
@[go_sem] theorem c3a (l : List (List UInt8)) (s : List UInt8) : a2g [(false, [.sl true [.s []] (l.map j3)]), (false, [.s s])] = some (l.length < 1099511627776, [], .one (false, [.sl true [.s []] ((w6 sLt l s).map j3)])) := f9 _ (by rintro ⟨_, _⟩ ⟨_, _⟩ h; simp at h; simp_all) (l, s)
theorem a9A : OkC Tryz.prog 98 a2g := i3 _
theorem b0S (a : List (List UInt8)) (l : List c4) (hpre : a.length + l.length < 1099511627776) : A0m Tryz.prog 152 [(false, [.sl true [.s []] (a.map j3)]), (false, [.sl false [.s [], .i .i64 0, .s []] (l.map c4.cells)])] [] (.one (false, [.sl true [.s []] ((k6 sLt a (j5 l)).map j3)])) := by
 refine spec_of2 false false none Tryz.func152 a5q (rvs := [.t 4]) (hΓ := mkCtx_ok (deep := false) (l := [(98, [0], a2g)]) ⟨a9A, trivial⟩) (h := ?_)
 intro hb hE
 simp only [go_sem] at hb
 simp only [a0T, x']
 (try refine A2Z ?_); simp only [go_sem]; (repeat' first | apply CJ.mk | intro hc); all_goals try ((repeat' first | apply And.intro | intro hs) <;> (try simp only [go_sem, Bool.and_eq_false_iff] at hs) <;> omega)
 refine aw_loop2 false [(false, 0, 0, 100000)] [7, 8] [] [] (fun i : {i : Nat // i ≤ l.length} => [(0, .v false [.ow 100000]), (9, slV (.i .i64 i.1))]) (fun i => []) (fun i => [(100000, [.s []], (k6 sLt a (j5 (l.take i.1))).map j3)]) (fun i => l.length - i.1) (⟨0, by simp⟩) _ (by simp only [go_sem]; try rfl) ?_ ?_
 ·simp only [go_sem]
  all_goals first | omega | ((repeat' apply And.intro) <;> first | omega | rfl | skip)
 intro S0 hS0 i
 simp only [go_sem] at hS0
 obtain ⟨i, hi⟩ := i
 (try refine A2Z ?_); simp only [go_sem, hS0]; (repeat' first | apply CJ.mk | intro hc); all_goals try ((repeat' first | apply And.intro | intro hs) <;> (try simp only [go_sem, Bool.and_eq_false_iff] at hs) <;> omega)
 all_goals have hl := a0Q (l.take i)
 all_goals have hl2 := a3u sLt (j5 (l.take i)) a
 all_goals rw [List.length_take] at hl
 ·omega
 ·(refine lpK_n2 (⟨i + 1, by omega⟩) _ (by simp only [go_sem]; try rfl) ?_; simp only [go_sem, hS0]; first | done | ((repeat' apply And.intro) <;> first | omega | (refine w64 ?_ ?_ ?_ <;> omega) | rfl | skip))
  all_goals rw [show j5 (l.take (i + 1)) = j5 (l.take i) ++ [(l.getD i default).Var] by rw [j5, j5, b9H (p := t6) c4.Var default (by omega) (by rw [t6, hc]; rfl)], b9a]
 ·(refine lpK_n2 (⟨i + 1, by omega⟩) _ (by simp only [go_sem]; try rfl) ?_; simp only [go_sem, hS0]; first | done | ((repeat' apply And.intro) <;> first | omega | (refine w64 ?_ ?_ ?_ <;> omega) | rfl | skip))
  all_goals rw [show j5 (l.take (i + 1)) = j5 (l.take i) by rw [j5, j5, c4x (p := t6) c4.Var default (by omega) (by rw [t6, hc]; rfl)]]
 ·rw [i8 (by omega)]
noncomputable def z9 : CT := l8 (fun (x : (List (List UInt8)) × (List c4)) h => b0S x.1 x.2 h)
@[go_sem] theorem a7Q (a : List (List UInt8)) (l : List c4) : z9 [(false, [.sl true [.s []] (a.map j3)]), (false, [.sl false [.s [], .i .i64 0, .s []] (l.map c4.cells)])] = some (a.length + l.length < 1099511627776, [], .one (false, [.sl true [.s []] ((k6 sLt a (j5 l)).map j3)])) := f9 _ (by rintro ⟨_, _⟩ ⟨_, _⟩ h; simp at h; simp_all) (a, l)
theorem a7R : OkC Tryz.prog 152 z9 := i3 _
@[go_sem] theorem l16T_pair (a : List (List UInt8)) (v1 : List UInt8) (n1 : Int) (s1 v2 : List UInt8) (n2 : Int) (s2 : List UInt8) : z9 [(false, [.sl true [.s []] (a.map j3)]), (false, [.sl false [.s [], .i .i64 0, .s []] [[.s v1, .i .i64 n1, .s s1], [.s v2, .i .i64 n2, .s s2]]])] = some (a.length + 2 < 1099511627776, [], .one (false, [.sl true [.s []] ((k6 sLt a (j5 [⟨v1, ⟨n1, s1⟩⟩, ⟨v2, ⟨n2, s2⟩⟩])).map j3)])) := a7Q a [⟨v1, ⟨n1, s1⟩⟩, ⟨v2, ⟨n2, s2⟩⟩]
def a4W : ACode := q' ([o' 3 (.box 3 (.t 1)), b' 4 false]) (q' ([f' 5 0 3, l' 6 5, o' 7 (.bin .eql (.t 6) (.k (.v false [.c (.s [])]))), m' 8 7, ⟨some 9, .mov (.t 0), some (8,
 false)⟩, ⟨some 10, .fa 0 (.t 3), some (8, false)⟩, ⟨some 11, .ld false 1 (.t 10), some (8, false)⟩, ⟨some 12, .call 153 [.t 9, .t 11], some (8, false)⟩, o' 13
 (.pick (.t 8) (.k (.v false [.c (.b true)])) (.t 12)), m' 4 13]) .ret)
theorem b2k : cmp Tryz.prog Tryz.f265 = some a4W := by kernel_rfl
theorem b4v (w : List (List UInt8)) (t : c4) : A0m Tryz.prog 265 [(false, [.sl false [.s []] (w.map j3)]), (true, [.s t.Var, .i .i64 t.Val.N, .s t.Val.S])] [] (.one (false, [.b (o8 w t)])) := by
 refine spec_of2 false false none Tryz.func265 b2k (rvs := [.t 4]) (hΓ := mkCtx_ok (deep := false) (l := [(153, [], a1z)]) ⟨a5o, trivial⟩) (h := ?_)
 intro hb hE
 simp only [go_sem] at hb
 simp only [a4W, x']
 (try refine A2Z ?_); simp only [go_sem]; (repeat' first | apply CJ.mk | intro hc); all_goals try ((repeat' first | apply And.intro | intro hs) <;> (try simp only [go_sem, Bool.and_eq_false_iff] at hs) <;> omega)
 all_goals rfl
noncomputable def a2h : CT := j7 (fun (x : (List (List UInt8)) × c4) => b4v x.1 x.2)
@[go_sem] theorem c3b (w : List (List UInt8)) (x0 : List UInt8) (x1 : Int) (x2 : List UInt8) : a2h [(false, [.sl false [.s []] (w.map j3)]), (true, [.s x0, .i .i64 x1, .s x2])] = some (True, [], .one (false, [.b (o8 w (c4.mk x0 (c6.mk x1 x2)))])) := f7 _ (by rintro ⟨_, ⟨_, ⟨_, _⟩⟩⟩ ⟨_, ⟨_, ⟨_, _⟩⟩⟩ h; simp at h; simp_all) (w, (c4.mk x0 (c6.mk x1 x2)))
theorem a9C : OkC Tryz.prog 265 a2h := f8 _
theorem ss_len {out l : List (List UInt8)} (hs : SS sLt out) (h : ∀ v ∈ out, v ∈ l) : out.length ≤ l.length := by
 have e : out = (k6 sLt [] l).filter (fun v => out.contains v) := SS.uniq t8 hs (SS.filter (SS.puts t8 SS.nil) _) fun x => ⟨fun hx => List.mem_filter.2 ⟨t7.2 (.inr (h x hx)), by simpa using hx⟩, fun hx => by simpa using (List.mem_filter.1 hx).2⟩
 have e1 := congrArg List.length e
 have e2 := List.length_filter_le (fun v => out.contains v) (k6 sLt [] l)
 have e3 := a3u sLt l []
 simp only [List.length_nil] at e3
 omega
theorem c2w {r : d3} (h : i6 r = true) {out : List (List UInt8)} (hs : SS sLt out) (hB : ∀ v ∈ out, Bd r v) : out.length ≤ 64 :=
 Nat.le_trans (ss_len hs fun v hv => (hB v hv).all) (a2N h)
theorem a5v {r : d3} (h : i6 r = true) {l : d4} (hl : l ∈ r.Body) : l.Atom.Args.length ≤ 6 := by
 simp only [i6, Bool.and_eq_true, List.all_eq_true] at h
 have hb := h.2 l hl
 rw [a0n] at hb
 cases hk : (l.Kind == 3) <;> rw [hk] at hb <;> simp only [cond_true, cond_false, Bool.and_eq_true, decide_eq_true_eq, beq_iff_eq, a2p] at hb <;> omega
theorem c3J {r : d3} {l : d4} (hl : l ∈ r.Body) (hk : (l.Kind == 1) = true) {x : List UInt8} (hx : x ∈ j5 l.Atom.Args) : Bd r x := by
 obtain ⟨t, ht, hv, rfl⟩ := u9.1 hx
 exact Bd.base hl hk ht hv
theorem bd_step {r : d3} {l : d4} (hl : l ∈ r.Body) (he : u7 l = true) {out : List (List UInt8)} (hB : ∀ v ∈ out, Bd r v) (hk : (o8 out l.A || o8 out l.B) = true) {x : List UInt8} (hx : x ∈ j5 [l.A, l.B]) : Bd r x := by
 obtain ⟨t, ht, hv, rfl⟩ := u9.1 hx
 have hA : o8 out l.A = true → t6 l.A = false ∨ Bd r l.A.Var := by
  intro h
  simp only [o8, Bool.or_eq_true, List.contains_iff_mem] at h
  rcases h with h | h
  ·exact .inl (by simp [t6, h])
  ·exact .inr (hB _ h)
 have hBB : o8 out l.B = true → t6 l.B = false ∨ Bd r l.B.Var := by
  intro h
  simp only [o8, Bool.or_eq_true, List.contains_iff_mem] at h
  rcases h with h | h
  ·exact .inl (by simp [t6, h])
  ·exact .inr (hB _ h)
 simp only [Bool.or_eq_true] at hk
 simp only [List.mem_cons, List.not_mem_nil, or_false] at ht
 rcases ht with rfl | rfl
 ·rcases hk with h | h
  ·rcases hA h with h | h
   ·rw [h] at hv; cases hv
   ·exact h
  ·rcases hBB h with h | h
   ·exact Bd.leftV hl he hv h
   ·exact Bd.leftB hl he hv h
 ·rcases hk with h | h
  ·rcases hA h with h | h
   ·exact Bd.rightV hl he hv h
   ·exact Bd.rightB hl he hv h
  ·rcases hBB h with h | h
   ·rw [h] at hv; cases hv
   ·exact h
def a3B : ACode := q' ([o' 1 (.box 4 (.t 0)), o' 2 (.mov (.k (.v false [.nl [.s []]])))]) (q' ([o' 8 (.bsl 1 0 [.s] []), m' 3 8]) (.seq (q' ([e' 9 4 1, c' 10 112 [9], o' 11 (.not
 (.t 10))]) (.cond (.t 11) (q' ([m' 12 3, m' 2 12]) .ret) .skip)) (.seq (q' ([f' 13 3 1, l' 14 13, n' 15 14, z' 16 0]) (.block 0 (.loop (q' ([r' 17 16 15])
 (.seq (.cond (.t 17) .skip (.exit 0)) (.seq (.block 1 (q' ([m' 18 16, m' 4 18]) (q' ([f' 19 3 1, l' 20 19, m' 21 4, i' 22 10 20 21, f' 23 0 22, l' 24 23, o'
 25 (.bin .eql (.t 24) (k' 1))]) (.cond (.t 25) (g' [m' 26 3, f' 27 3 1, l' 28 27, m' 29 4, i' 30 10 28 29, f' 31 1 30, f' 32 1 31, l' 33 32, c' 34 152 [26,
 33], m' 3 34]) .skip)))) (g' [a' 35 16, m' 16 35]))))))) (.seq (q' ([o' 5 (.mov (.k (.v false [.c (.i .i64 (-1))])))]) (.block 2 (.loop (.seq (q' ([m' 36 5,
 m' 37 3, n' 38 37, r' 39 36 38]) (.cond (.t 39) .skip (.exit 2))) (.block 3 (q' ([m' 40 3, n' 41 40, m' 5 41]) (q' ([f' 42 3 1, l' 43 42, n' 44 43, z' 45 0])
 (.block 4 (.loop (q' ([r' 46 45 44]) (.seq (.cond (.t 46) .skip (.exit 4)) (.seq (.block 5 (q' ([m' 47 45, m' 6 47]) (q' ([f' 48 3 1, l' 49 48, m' 50 6, i' 51
 10 49 50, e' 52 10 51, w' 7 [.i .i64, .s, .sl [.s [], .i .i64 0, .s []], .i .i64, .s, .i .i64, .s, .s, .i .i64, .s], s' 10 7 52]) (q' ([f' 53 0 7, l' 54 53,
 o' 55 (.bin .eql (.t 54) (k' 3)), m' 56 55, ⟨some 57, .fa 3 (.t 7), some (56, true)⟩, ⟨some 58, .ld false 1 (.t 57), some (56, true)⟩, ⟨some 59, .bin .eql (.t
 58) (k' 1), some (56, true)⟩, o' 60 (.pick (.t 56) (.t 59) (.k (.v false [.c (.b false)]))), m' 61 60, ⟨some 62, .mov (.t 3), some (61, true)⟩, ⟨some 63, .fa
 4 (.t 7), some (61, true)⟩, ⟨some 64, .ld true 3 (.t 63), some (61, true)⟩, ⟨some 65, .call 265 [.t 62, .t 64], some (61, true)⟩, ⟨some 66, .mov (.t 65), some
 (61, true)⟩, ⟨some 67, .mov (.t 3), some (66, false)⟩, ⟨some 68, .fa 7 (.t 7), some (66, false)⟩, ⟨some 69, .ld true 3 (.t 68), some (66, false)⟩, ⟨some 70,
 .call 265 [.t 67, .t 69], some (66, false)⟩, ⟨some 71, .pick (.t 66) (.k (.v false [.c (.b true)])) (.t 70), some (61, true)⟩, o' 72 (.pick (.t 61) (.t 71)
 (.k (.v false [.c (.b false)])))]) (.cond (.t 72) (g' [m' 73 3, f' 74 4 7, e' 75 3 74, f' 76 7 7, e' 77 3 76, o' 78 (.bsl 3 2 [.s, .i .i64, .s] [(0, .t 75),
 (1, .t 77)]), c' 79 152 [73, 78], m' 3 79]) .skip))))) (g' [a' 80 45, m' 45 80]))))))))))))) (q' ([m' 81 3, m' 2 81]) .ret)))))
theorem b0E : cmp Tryz.prog Tryz.f182 = some a3B := by kernel_rfl
theorem b2u (r : d3) : A0m Tryz.prog 182 [(true, [.i .i64 r.Kind, .s r.Head.Name, .sl false [.s [], .i .i64 0, .s []] (r.Head.Args.map c4.cells), .sl false [.i .i64 0, .s [], .sl false [.s [], .i .i64 0, .s []] [], .i .i64 0, .s [], .i .i64 0, .s [], .s [], .i .i64 0, .s []] (r.Body.map (d4.cells false false))])] [] (.one (false, [.sl false [.s []] ((bif i6 r then a0l r else []).map j3)])) := by
 refine spec_of2 false true none Tryz.func182 b0E (rvs := [.t 2]) (hΓ := mkCtx_ok (deep := false) (l := [(112, [], w5), (152, [0], z9), (265, [], a2h)]) ⟨a0m, a7R, a9C, trivial⟩) (h := ?_)
 intro hb hE
 simp only [go_sem] at hb
 simp only [a3B, x']
 (try refine A2Z ?_); simp only [go_sem]; (repeat' first | apply CJ.mk | intro hc); all_goals try ((repeat' first | apply And.intro | intro hs) <;> (try simp only [go_sem, Bool.and_eq_false_iff] at hs) <;> omega)
 ·rw [hc]; rfl
 have hR : i6 r = true := hc
 have hb8 : r.Body.length ≤ 8 := by
  simp only [i6, Bool.and_eq_true, decide_eq_true_eq] at hR; omega
 rw [hR]
 clear hc
 refine aw_loop2 false [(false, 3, 0, 100006)] [1, 15] [2] [] (fun i : {p : Nat × List (List UInt8) // p.1 ≤ r.Body.length ∧ SS sLt p.2 ∧ (∀ v ∈ p.2, Bd r v) ∧ ∀ l ∈ r.Body.take p.1, (l.Kind == 1) = true → ∀ x ∈ j5 l.Atom.Args, x ∈ p.2} => [(3, .v false [.ow 100006]), (16, slV (.i .i64 i.1.1))]) (fun i => []) (fun i => [(100006, [.s []], i.1.2.map j3)]) (fun i => r.Body.length - i.1.1) (⟨(0, []), by simp, SS.nil, by simp, by simp⟩) _ (by simp only [go_sem]; try rfl) ?_ ?_
 ·simp only [go_sem]
  all_goals first | omega | ((repeat' apply And.intro) <;> first | omega | rfl | skip)
 intro S0 hS0 i
 simp only [go_sem] at hS0
 obtain ⟨⟨i, o⟩, hi, hs, hB, hI⟩ := i
 simp only at hi hs hB hI
 have hlen := c2w hR hs hB
 (try refine A2Z ?_); simp only [go_sem, hS0]; (repeat' first | apply CJ.mk | intro hc); all_goals try ((repeat' first | apply And.intro | intro hs) <;> (try simp only [go_sem, Bool.and_eq_false_iff] at hs) <;> omega)
 ·have := a5v hR (l := r.Body.getD i default) (by rw [k9 default (by omega)]; exact List.getElem_mem _); omega
 ·have hm : r.Body.getD i default ∈ r.Body := by rw [k9 default (by omega)]; exact List.getElem_mem _
  have h2 : ∀ v ∈ k6 sLt o (j5 (r.Body.getD i default).Atom.Args), Bd r v := fun v hv => (t7.1 hv).elim (hB v) (c3J hm hc)
  have h3 : ∀ l ∈ r.Body.take (i + 1), (l.Kind == 1) = true → ∀ x ∈ j5 l.Atom.Args, x ∈ k6 sLt o (j5 (r.Body.getD i default).Atom.Args) := by
   intro l hl hk x hx
   rw [i9 default (by omega), List.mem_append, List.mem_singleton] at hl
   rcases hl with hl | rfl
   ·exact t7.2 (.inl (hI l hl hk x hx))
   ·exact t7.2 (.inr hx)
  (refine lpK_n2 (⟨(i + 1, k6 sLt o (j5 (r.Body.getD i default).Atom.Args)), by simp only; omega, SS.puts t8 hs, h2, h3⟩) _ (by simp only [go_sem]; try rfl) ?_; simp only [go_sem, hS0]; first | done | ((repeat' apply And.intro) <;> first | omega | (refine w64 ?_ ?_ ?_ <;> omega) | rfl | skip))
 ·have h3 : ∀ l ∈ r.Body.take (i + 1), (l.Kind == 1) = true → ∀ x ∈ j5 l.Atom.Args, x ∈ o := by
   intro l hl hk x hx
   rw [i9 default (by omega), List.mem_append, List.mem_singleton] at hl
   rcases hl with hl | rfl
   ·exact hI l hl hk x hx
   ·rw [hc] at hk; cases hk
  (refine lpK_n2 (⟨(i + 1, o), by simp only; omega, hs, hB, h3⟩) _ (by simp only [go_sem]; try rfl) ?_; simp only [go_sem, hS0]; first | done | ((repeat' apply And.intro) <;> first | omega | (refine w64 ?_ ?_ ?_ <;> omega) | rfl | skip))
 rw [i8 (by omega)] at hI
 clear hc hi
 refine aw_loop2 false [(false, 3, 0, 100006)] [1] [2] [] (fun i : {p : Int × List (List UInt8) // -1 ≤ p.1 ∧ p.1 ≤ p.2.length ∧ SS sLt p.2 ∧ (∀ v ∈ p.2, Bd r v) ∧ a2O r p.2 ∧ (p.1 = p.2.length → ∀ l ∈ r.Body, t9 p.2 l)} => [(3, .v false [.ow 100006]), (5, slV (.i .i64 i.1.1))]) (fun i => []) (fun i => [(100006, [.s []], i.1.2.map j3)]) (fun i => (64 - i.1.1).toNat) (⟨(-1, o), by simp, by simp only; omega, hs, hB, hI, by intro h; simp only at h; omega⟩) _ (by simp only [go_sem, hS0]; try rfl) ?_ ?_
 ·simp only [go_sem, hS0]
  all_goals first | omega | ((repeat' apply And.intro) <;> first | omega | rfl | skip)
 intro S1 hS1 i
 simp only [go_sem, hS0] at hS1
 obtain ⟨⟨n, o1⟩, hn0, hn, hs1, hB1, hI1, hC1⟩ := i
 simp only at hn0 hn hs1 hB1 hI1 hC1
 have hlen1 := c2w hR hs1 hB1
 (try refine A2Z ?_); simp only [go_sem, hS0, hS1]; (repeat' first | apply CJ.mk | intro hc); all_goals try ((repeat' first | apply And.intro | intro hs) <;> (try simp only [go_sem, Bool.and_eq_false_iff] at hs) <;> omega)
 ·skip
  refine aw_loop2 false [(false, 3, 0, 100006)] [1, 5, 44] [2] [] (fun i : {p : Nat × List (List UInt8) // p.1 ≤ r.Body.length ∧ SS sLt p.2 ∧ (∀ v ∈ p.2, Bd r v) ∧ a2O r p.2 ∧ o1.length ≤ p.2.length ∧ (p.2.length = o1.length → ∀ l ∈ r.Body.take p.1, t9 p.2 l)} => [(3, .v false [.ow 100006]), (45, slV (.i .i64 i.1.1))]) (fun i => []) (fun i => [(100006, [.s []], i.1.2.map j3)]) (fun i => r.Body.length - i.1.1) (⟨(0, o1), by simp, hs1, hB1, hI1, by simp, by simp⟩) _ (by simp only [go_sem, hS0, hS1]; try rfl) ?_ ?_
  ·simp only [go_sem, hS0, hS1]
   all_goals first | omega | ((repeat' apply And.intro) <;> first | omega | rfl | skip)
  intro S2 hS2 i
  simp only [go_sem, hS0, hS1] at hS2
  obtain ⟨⟨i, o2⟩, hi, hs2, hB2, hI2, hge, hC2⟩ := i
  simp only at hi hs2 hB2 hI2 hge hC2
  have hlen2 := c2w hR hs2 hB2
  (try refine A2Z ?_); simp only [go_sem, hS0, hS1, hS2]; (repeat' first | apply CJ.mk | intro hc); all_goals try ((repeat' first | apply And.intro | intro hs) <;> (try simp only [go_sem, Bool.and_eq_false_iff] at hs) <;> omega)
  ·have hm : r.Body.getD i default ∈ r.Body := by rw [k9 default (by omega)]; exact List.getElem_mem _
   have he : u7 (r.Body.getD i default) = true := by rw [u7, hc.1.1, hc.1.2]; rfl
   have hk : (o8 o2 (r.Body.getD i default).A || o8 o2 (r.Body.getD i default).B) = true := by rw [Bool.or_eq_true]; exact hc.2
   have hg := c4E sLt (j5 [(r.Body.getD i default).A, (r.Body.getD i default).B]) o2
   have h2 : ∀ v ∈ k6 sLt o2 (j5 [(r.Body.getD i default).A, (r.Body.getD i default).B]), Bd r v := fun v hv => (t7.1 hv).elim (hB2 v) (bd_step hm he hB2 hk)
   have h3 : a2O r (k6 sLt o2 (j5 [(r.Body.getD i default).A, (r.Body.getD i default).B])) := fun l hl hk x hx => t7.2 (.inl (hI2 l hl hk x hx))
   have h4 : (k6 sLt o2 (j5 [(r.Body.getD i default).A, (r.Body.getD i default).B])).length = o1.length → ∀ l ∈ r.Body.take (i + 1), t9 (k6 sLt o2 (j5 [(r.Body.getD i default).A, (r.Body.getD i default).B])) l := by
    intro hq l hl
    have hs3 := c6t (lt := sLt) (r := j5 [(r.Body.getD i default).A, (r.Body.getD i default).B]) (l := o2) (by omega)
    rw [hs3.1]
    rw [i9 default (by omega), List.mem_append, List.mem_singleton] at hl
    rcases hl with hl | rfl
    ·exact hC2 (by omega) l hl
    ·exact fun _ _ => hs3.2
   (refine lpK_n2 (⟨(i + 1, k6 sLt o2 (j5 [(r.Body.getD i default).A, (r.Body.getD i default).B])), by simp only; omega, SS.puts t8 hs2, h2, h3, by simp only; omega, h4⟩) _ (by simp only [go_sem, hS0, hS1]; try rfl) ?_; simp only [go_sem, hS0, hS1, hS2]; first | done | ((repeat' apply And.intro) <;> first | omega | (refine w64 ?_ ?_ ?_ <;> omega) | rfl | skip))
  ·have h4 : o2.length = o1.length → ∀ l ∈ r.Body.take (i + 1), t9 o2 l := by
    intro hq l hl
    rw [i9 default (by omega), List.mem_append, List.mem_singleton] at hl
    rcases hl with hl | rfl
    ·exact hC2 hq l hl
    ·intro h5 h6
     rw [u7] at h5
     rw [h5, h6] at hc
     cases hc
   (refine lpK_n2 (⟨(i + 1, o2), by simp only; omega, hs2, hB2, hI2, hge, h4⟩) _ (by simp only [go_sem, hS0, hS1]; try rfl) ?_; simp only [go_sem, hS0, hS1, hS2]; first | done | ((repeat' apply And.intro) <;> first | omega | (refine w64 ?_ ?_ ?_ <;> omega) | rfl | skip))
  ·have h4 : (o1.length : Int) = o2.length → ∀ l ∈ r.Body, t9 o2 l := by
    intro hq l hl
    rw [i8 (by omega)] at hC2
    exact hC2 (by omega) l hl
   (refine lpK_n2 (⟨((o1.length : Int), o2), by simp only; omega, by simp only; omega, hs2, hB2, hI2, h4⟩) _ (by simp only [go_sem, hS0, hS1]; try rfl) ?_; simp only [go_sem, hS0, hS1, hS2]; first | done | ((repeat' apply And.intro) <;> first | omega | (refine w64 ?_ ?_ ?_ <;> omega) | rfl | skip))
 ·rw [c2y hs1 hB1 hI1 (hC1 (by omega))] <;> rfl
noncomputable def a0Z : CT := j7 (fun (x : d3) => b2u x)
@[go_sem] theorem c1V (x0 : Int) (x1 : List UInt8) (x2 : List c4) (x3 : List d4) : a0Z [(true, [.i .i64 x0, .s x1, .sl false [.s [], .i .i64 0, .s []] (x2.map c4.cells), .sl false [.i .i64 0, .s [], .sl false [.s [], .i .i64 0, .s []] [], .i .i64 0, .s [], .i .i64 0, .s [], .s [], .i .i64 0, .s []] (x3.map (d4.cells false false))])] = some (True, [], .one (false, [.sl false [.s []] ((bif i6 (d3.mk x0 (d5.mk x1 x2) x3) then a0l (d3.mk x0 (d5.mk x1 x2) x3) else []).map j3)])) := f7 _ (by rintro ⟨_, ⟨_, _⟩, _⟩ ⟨_, ⟨_, _⟩, _⟩ h; simp at h; simp_all) (d3.mk x0 (d5.mk x1 x2) x3)
theorem a8q : OkC Tryz.prog 182 a0Z := f8 _
def miss (r : d3) (out : List (List UInt8)) : Nat := ((a6J r).filter fun v => !out.contains v).length
theorem b4D (r : d3) (out : List (List UInt8)) : miss r out ≤ (a6J r).length := List.length_filter_le _ _
theorem b1K {α : Type} {p q : α → Bool} : ∀ {l : List α}, (∀ x, q x = true → p x = true) → (∃ x ∈ l, p x = true ∧ q x = false) → (l.filter q).length < (l.filter p).length
 | [], _, h => by obtain ⟨x, hx, _⟩ := h; simp at hx
 | a :: l, hpq, h => by
   have hle : (l.filter q).length ≤ (l.filter p).length := by
    clear h
    induction l with
    | nil => simp
    | cons b l ih =>
      have := hpq b
      cases hq : q b <;> cases hp : p b <;> simp_all <;> omega
   obtain ⟨x, hx, h1, h2⟩ := h
   rcases List.mem_cons.1 hx with rfl | hx
   ·simp only [List.filter_cons, h1, h2, if_true, Bool.false_eq_true, if_false, List.length_cons]; omega
   ·have ih := b1K (l := l) hpq ⟨x, hx, h1, h2⟩
    have := hpq a
    cases hq : q a <;> cases hp : p a <;> simp_all <;> omega
theorem miss_lt {r : d3} {out : List (List UInt8)} {v : List UInt8} (hv : v ∈ a6J r) (hn : out.contains v = false) : miss r (out ++ [v]) < miss r out := by
 refine b1K (fun x hx => ?_) ⟨v, hv, by rw [hn]; rfl, by simp⟩
 simp only [Bool.not_eq_true', List.contains_eq_mem, List.mem_append, decide_eq_false_iff_not, not_or] at hx ⊢
 exact hx.1
theorem b9g (l : List c4) : (a5y l).length ≤ l.length := by
 have h1 := a3u sLt (j5 l) []
 have h2 := a0Q l
 simp only [List.length_nil] at h1
 unfold a5y
 omega
theorem b8Y {l : List c4} {x : List UInt8} : x ∈ a5y l ↔ x ∈ j5 l := by
 rw [a5y, t7]; simp
theorem c6a {o : List (List UInt8)} {l : d4} (h0 : o8 o l.B = true → t6 l.A = true → l.A.Var ∈ o) (h1 : o8 o l.A = true → t6 l.B = true → l.B.Var ∈ o) : t9 o l := by
 intro _ hk x hx
 obtain ⟨t, ht, hv, rfl⟩ := u9.1 hx
 have hs : ∀ t : c4, t6 t = true → o8 o t = true → t.Var ∈ o := by
  intro t hv h
  simp only [o8, Bool.or_eq_true, List.contains_iff_mem] at h
  rcases h with h | h
  ·simp [t6, h] at hv
  ·exact h
 simp only [List.mem_cons, List.not_mem_nil, or_false] at ht
 rw [Bool.or_eq_true] at hk
 rcases ht with rfl | rfl
 ·rcases hk with h | h
  ·exact hs _ hv h
  ·exact h0 h hv
 ·rcases hk with h | h
  ·exact h1 h hv
  ·exact hs _ hv h
theorem c0I {r : d3} (hV : (a6J r).length ≤ 64) {o1 o3 : List (List UInt8)} {g3 : Bool} {v : List UInt8} (hl : o3.length + miss r o3 ≤ 112) (hB : ∀ v ∈ o3, Bd r v) (hI : a2O r o3) (hC : g3 = false → o3 = o1) (hM : g3 = true → miss r o3 < miss r o1) (hv : Bd r v) (hn : o3.contains v = false) : (o3 ++ [v]).length + miss r (o3 ++ [v]) ≤ 112 ∧ (∀ x ∈ o3 ++ [v], Bd r x) ∧ a2O r (o3 ++ [v]) ∧ miss r (o3 ++ [v]) < miss r o1 := by
 have h1 := miss_lt hv.all hn
 refine ⟨by simp only [List.length_append, List.length_cons, List.length_nil]; omega, fun x hx => ?_, fun l hl hk x hx => List.mem_append.2 (.inl (hI l hl hk x hx)), ?_⟩
 ·rcases List.mem_append.1 hx with h | h
  ·exact hB x h
  ·rw [List.mem_singleton.1 h]; exact hv
 ·cases g3 with
  | false => rw [hC rfl] at h1 ⊢; exact h1
  | true => have := hM rfl; omega
def a8B : ACode := q' ([o' 1 (.box 4 (.t 0)), o' 2 (.mov (.k (.v false [.nl [.s []]])))]) (q' ([o' 12 (.bsl 1 0 [.s] []), m' 3 12]) (.seq (q' ([f' 13 3 1, l' 14 13, n' 15 14, z'
 16 0]) (.block 0 (.loop (q' ([r' 17 16 15]) (.seq (.cond (.t 17) .skip (.exit 0)) (.seq (.block 1 (q' ([i' 18 10 14 16, e' 19 10 18, w' 5 [.i .i64, .s, .sl
 [.s [], .i .i64 0, .s []], .i .i64, .s, .i .i64, .s, .s, .i .i64, .s], s' 10 5 19]) (q' ([f' 20 0 5, l' 21 20, o' 22 (.bin .eql (.t 21) (k' 1))]) (.cond (.t
 22) (g' [m' 23 3, f' 24 1 5, f' 25 1 24, l' 26 25, c' 27 155 [26], o' 28 (.app 1 16 [.s] (.t 23) (.t 27)), m' 3 28]) .skip)))) (g' [a' 29 16, m' 16 29])))))))
 (.seq (q' ([b' 6 true]) (.block 2 (.loop (.seq (q' ([m' 30 6]) (.cond (.t 30) .skip (.exit 2))) (.block 3 (q' ([b' 6 false]) (q' ([f' 31 3 1, l' 32 31, n' 33
 32, z' 34 0]) (.block 4 (.loop (q' ([r' 35 34 33]) (.seq (.cond (.t 35) .skip (.exit 4)) (.seq (.block 5 (q' ([i' 36 10 32 34, e' 37 10 36, w' 8 [.i .i64, .s,
 .sl [.s [], .i .i64 0, .s []], .i .i64, .s, .i .i64, .s, .s, .i .i64, .s], s' 10 8 37]) (.seq (q' ([f' 38 0 8, l' 39 38, o' 40 (.bin .neq (.t 39) (k' 3)), m'
 41 40, ⟨some 42, .fa 3 (.t 8), some (41, false)⟩, ⟨some 43, .ld false 1 (.t 42), some (41, false)⟩, ⟨some 44, .bin .neq (.t 43) (k' 1), some (41, false)⟩, o'
 45 (.pick (.t 41) (.k (.v false [.c (.b true)])) (.t 44))]) (.cond (.t 45) (.exit 5) .skip)) (q' ([f' 46 4 8, e' 47 3 46, f' 48 7 8, e' 49 3 48, o' 50 (.bld
 [.s, .i .i64, .s, .s, .i .i64, .s] [(0, 3, .t 47), (3, 3, .t 49)]), f' 51 7 8, e' 52 3 51, f' 53 4 8, e' 54 3 53, o' 55 (.bld [.s, .i .i64, .s, .s, .i .i64,
 .s] [(0, 3, .t 52), (3, 3, .t 54)]), o' 56 (.bsl 6 2 [.s, .i .i64, .s, .s, .i .i64, .s] [(0, .t 50), (1, .t 55)]), n' 57 56, z' 58 0]) (.block 6 (.loop (q'
 ([r' 59 58 57]) (.seq (.cond (.t 59) .skip (.exit 6)) (.seq (.block 7 (q' ([i' 60 6 56 58, e' 61 6 60, w' 10 [.s, .i .i64, .s, .s, .i .i64, .s], s' 6 10 61])
 (q' ([o' 62 (.ib 2 3 (.t 10) (k' 1)), f' 63 0 62, l' 64 63, o' 65 (.bin .eql (.t 64) (.k (.v false [.c (.s [])]))), m' 66 65, ⟨some 67, .mov (.t 3), some (66,
 false)⟩, ⟨some 68, .ib 2 3 (.t 10) (k' 1), some (66, false)⟩, ⟨some 69, .fa 0 (.t 68), some (66, false)⟩, ⟨some 70, .ld false 1 (.t 69), some (66, false)⟩,
 ⟨some 71, .call 102 [.t 67, .t 70], some (66, false)⟩, o' 72 (.pick (.t 66) (.k (.v false [.c (.b true)])) (.t 71)), m' 11 72]) (q' ([m' 73 11, m' 74 73,
 ⟨some 75, .ib 2 3 (.t 10) (k' 0), some (74, true)⟩, ⟨some 76, .fa 0 (.t 75), some (74, true)⟩, ⟨some 77, .ld false 1 (.t 76), some (74, true)⟩, ⟨some 78, .bin
 .neq (.t 77) (.k (.v false [.c (.s [])])), some (74, true)⟩, o' 79 (.pick (.t 74) (.t 78) (.k (.v false [.c (.b false)]))), m' 80 79, ⟨some 81, .mov (.t 3),
 some (80, true)⟩, ⟨some 82, .ib 2 3 (.t 10) (k' 0), some (80, true)⟩, ⟨some 83, .fa 0 (.t 82), some (80, true)⟩, ⟨some 84, .ld false 1 (.t 83), some (80,
 true)⟩, ⟨some 85, .call 102 [.t 81, .t 84], some (80, true)⟩, ⟨some 86, .not (.t 85), some (80, true)⟩, o' 87 (.pick (.t 80) (.t 86) (.k (.v false [.c (.b
 false)])))]) (.cond (.t 87) (q' ([m' 88 3, o' 89 (.ib 2 3 (.t 10) (k' 0)), f' 90 0 89, l' 91 90, o' 92 (.bsl 1 1 [.s] [(0, .t 91)]), o' 93 (.app 1 16 [.s] (.t
 88) (.t 92)), m' 3 93]) (g' [b' 6 true])) .skip))))) (g' [a' 94 58, m' 58 94])))))))))) (g' [a' 95 34, m' 34 95]))))))))))))) (q' ([m' 96 3, c' 97 103 [96]])
 (q' ([m' 98 3, c' 99 239 [98], m' 2 99]) .ret)))))
theorem b7t : cmp Tryz.prog Tryz.f195 = some a8B := by kernel_rfl
theorem b9V (r : d3) (hpre : i6 r = true) : A0m Tryz.prog 195 [(true, [.i .i64 r.Kind, .s r.Head.Name, .sl false [.s [], .i .i64 0, .s []] (r.Head.Args.map c4.cells), .sl false [.i .i64 0, .s [], .sl false [.s [], .i .i64 0, .s []] [], .i .i64 0, .s [], .i .i64 0, .s [], .s [], .i .i64 0, .s []] (r.Body.map (d4.cells false false))])] [] (.one (false, [.sl true [.s []] ((a0l r).map j3)])) := by
 refine spec_of2 false false none Tryz.func195 b7t (rvs := [.t 2]) (hΓ := mkCtx_ok (deep := false) (l := [(155, [], a1r), (102, [], c2A), (103, [0], a8d), (239, [0], b0a)]) ⟨a5g, c5i, b0t, b2P, trivial⟩) (h := ?_)
 intro hb hE
 simp only [go_sem] at hb
 simp only [a8B, x']
 have hb8 : r.Body.length ≤ 8 := by
  simp only [i6, Bool.and_eq_true, decide_eq_true_eq] at hpre; omega
 have hV := a2N hpre
 (try refine A2Z ?_); simp only [go_sem]; (repeat' first | apply CJ.mk | intro hc); all_goals try ((repeat' first | apply And.intro | intro hs) <;> (try simp only [go_sem, Bool.and_eq_false_iff] at hs) <;> omega)
 refine aw_loop2 false [(false, 3, 0, 100006)] [1, 14, 15] [2] [] (fun i : {p : Nat × List (List UInt8) // p.1 ≤ r.Body.length ∧ p.2.length ≤ 6 * p.1 ∧ (∀ v ∈ p.2, Bd r v) ∧ ∀ l ∈ r.Body.take p.1, (l.Kind == 1) = true → ∀ x ∈ j5 l.Atom.Args, x ∈ p.2} => [(3, .v false [.ow 100006]), (16, slV (.i .i64 i.1.1))]) (fun i => []) (fun i => [(100006, [.s []], i.1.2.map j3)]) (fun i => r.Body.length - i.1.1) (⟨(0, []), by simp, by simp, by simp, by simp⟩) _ (by simp only [go_sem]; try rfl) ?_ ?_
 ·simp only [go_sem]
  all_goals first | omega | ((repeat' apply And.intro) <;> first | omega | rfl | skip)
 intro S0 hS0 i
 simp only [go_sem] at hS0
 obtain ⟨⟨i, o⟩, hi, hlen, hB, hI⟩ := i
 simp only at hi hlen hB hI
 (try refine A2Z ?_); simp only [go_sem, hS0]; (repeat' first | apply CJ.mk | intro hc); all_goals try ((repeat' first | apply And.intro | intro hs) <;> (try simp only [go_sem, Bool.and_eq_false_iff] at hs) <;> omega)
 ·have := a5v hpre (l := r.Body.getD i default) (by rw [k9 default (by omega)]; exact List.getElem_mem _); omega
 ·have := a5v hpre (l := r.Body.getD i default) (by rw [k9 default (by omega)]; exact List.getElem_mem _)
  have := b9g (r.Body.getD i default).Atom.Args
  omega
 ·have hm : r.Body.getD i default ∈ r.Body := by rw [k9 default (by omega)]; exact List.getElem_mem _
  have h6 := a5v hpre hm
  have hv6 := b9g (r.Body.getD i default).Atom.Args
  have h2 : ∀ v ∈ o ++ a5y (r.Body.getD i default).Atom.Args, Bd r v := fun v hv => (List.mem_append.1 hv).elim (hB v) fun h => c3J hm hc (b8Y.1 h)
  have h3 : ∀ l ∈ r.Body.take (i + 1), (l.Kind == 1) = true → ∀ x ∈ j5 l.Atom.Args, x ∈ o ++ a5y (r.Body.getD i default).Atom.Args := by
   intro l hl hk x hx
   rw [i9 default (by omega), List.mem_append, List.mem_singleton] at hl
   rcases hl with hl | rfl
   ·exact List.mem_append.2 (.inl (hI l hl hk x hx))
   ·exact List.mem_append.2 (.inr (b8Y.2 hx))
  (refine lpK_n2 (⟨(i + 1, o ++ a5y (r.Body.getD i default).Atom.Args), by simp only; omega, by simp only [List.length_append]; omega, h2, h3⟩) _ (by simp only [go_sem]; try rfl) ?_; simp only [go_sem, hS0]; first | done | ((repeat' apply And.intro) <;> first | omega | (refine w64 ?_ ?_ ?_ <;> omega) | rfl | skip))
  all_goals rw [List.map_append]
 ·have h3 : ∀ l ∈ r.Body.take (i + 1), (l.Kind == 1) = true → ∀ x ∈ j5 l.Atom.Args, x ∈ o := by
   intro l hl hk x hx
   rw [i9 default (by omega), List.mem_append, List.mem_singleton] at hl
   rcases hl with hl | rfl
   ·exact hI l hl hk x hx
   ·rw [hc] at hk; cases hk
  (refine lpK_n2 (⟨(i + 1, o), by simp only; omega, by simp only; omega, hB, h3⟩) _ (by simp only [go_sem]; try rfl) ?_; simp only [go_sem, hS0]; first | done | ((repeat' apply And.intro) <;> first | omega | (refine w64 ?_ ?_ ?_ <;> omega) | rfl | skip))
 rw [i8 (by omega)] at hI
 clear hc
 have hms := b4D r o
 refine aw_loop2 false [(false, 3, 0, 100006)] [1] [2] [] (fun i : {p : Bool × List (List UInt8) // p.2.length + miss r p.2 ≤ 112 ∧ (∀ v ∈ p.2, Bd r v) ∧ a2O r p.2 ∧ (p.1 = false → ∀ l ∈ r.Body, t9 p.2 l)} => [(3, .v false [.ow 100006]), (6, slV (.b i.1.1))]) (fun i => []) (fun i => [(100006, [.s []], i.1.2.map j3)]) (fun i => 2 * miss r i.1.2 + (bif i.1.1 then 1 else 0)) (⟨(true, o), by simp only; omega, hB, hI, by intro h; cases h⟩) _ (by simp only [go_sem, hS0]; try rfl) ?_ ?_
 ·simp only [go_sem, hS0]
  all_goals first | omega | ((repeat' apply And.intro) <;> first | omega | rfl | skip)
 intro S1 hS1 i
 simp only [go_sem, hS0] at hS1
 obtain ⟨⟨g, o1⟩, hl1, hB1, hI1, hC1⟩ := i
 simp only at hl1 hB1 hI1 hC1
 (try refine A2Z ?_); simp only [go_sem, hS0, hS1]; (repeat' first | apply CJ.mk | intro hc); all_goals try ((repeat' first | apply And.intro | intro hs) <;> (try simp only [go_sem, Bool.and_eq_false_iff] at hs) <;> omega)
 ·skip
  refine aw_loop2 false [(false, 3, 0, 100006)] [1, 32, 33] [2] [] (fun i : {p : Nat × Bool × List (List UInt8) // p.1 ≤ r.Body.length ∧ p.2.2.length + miss r p.2.2 ≤ 112 ∧ (∀ v ∈ p.2.2, Bd r v) ∧ a2O r p.2.2 ∧ (p.2.1 = false → p.2.2 = o1 ∧ ∀ l ∈ r.Body.take p.1, t9 o1 l) ∧ (p.2.1 = true → miss r p.2.2 < miss r o1)} => [(3, .v false [.ow 100006]), (6, slV (.b i.1.2.1)), (34, slV (.i .i64 i.1.1))]) (fun i => []) (fun i => [(100006, [.s []], i.1.2.2.map j3)]) (fun i => r.Body.length - i.1.1) (⟨(0, false, o1), by simp, hl1, hB1, hI1, by simp, by intro h; cases h⟩) _ (by simp only [go_sem, hS0, hS1]; try rfl) ?_ ?_
  ·simp only [go_sem, hS0, hS1]
   all_goals first | omega | ((repeat' apply And.intro) <;> first | omega | rfl | skip)
  intro S2 hS2 i
  simp only [go_sem, hS0, hS1] at hS2
  obtain ⟨⟨i, g2, o2⟩, hi2, hl2, hB2, hI2, hC2, hM2⟩ := i
  simp only at hi2 hl2 hB2 hI2 hC2 hM2
  (try refine A2Z ?_); simp only [go_sem, hS0, hS1, hS2]; (repeat' first | apply CJ.mk | intro hc); all_goals try ((repeat' first | apply And.intro | intro hs) <;> (try simp only [go_sem, Bool.and_eq_false_iff] at hs) <;> omega)
  ·have h3 : g2 = false → o2 = o1 ∧ ∀ l ∈ r.Body.take (i + 1), t9 o1 l := by
    intro hg
    refine ⟨(hC2 hg).1, fun l hl => ?_⟩
    rw [i9 default (by omega), List.mem_append, List.mem_singleton] at hl
    rcases hl with hl | rfl
    ·exact (hC2 hg).2 l hl
    ·intro h5
     simp only [u7, Bool.and_eq_true] at h5
     rcases hc with h | h
     ·simp only [bne, h5.1] at h; cases h
     ·simp only [bne, h5.2] at h; cases h
   (refine lpK_n2 (⟨(i + 1, g2, o2), by simp only; omega, hl2, hB2, hI2, h3, hM2⟩) _ (by simp only [go_sem, hS0, hS1]; try rfl) ?_; simp only [go_sem, hS0, hS1, hS2]; first | done | ((repeat' apply And.intro) <;> first | omega | (refine w64 ?_ ?_ ?_ <;> omega) | rfl | skip))
  ·skip
   refine aw_loop2 false [(false, 3, 0, 100006)] [1, 32, 33, 34, 56, 57] [2] [7168] (fun i : {p : Nat × Bool × List (List UInt8) // p.1 ≤ 2 ∧ p.2.2.length + miss r p.2.2 ≤ 112 ∧ (∀ v ∈ p.2.2, Bd r v) ∧ a2O r p.2.2 ∧ (p.2.1 = false → p.2.2 = o1 ∧ (∀ l ∈ r.Body.take i, t9 o1 l) ∧ (0 < p.1 → o8 o1 (r.Body.getD i default).B = true → t6 (r.Body.getD i default).A = true → (r.Body.getD i default).A.Var ∈ o1) ∧ (1 < p.1 → o8 o1 (r.Body.getD i default).A = true → t6 (r.Body.getD i default).B = true → (r.Body.getD i default).B.Var ∈ o1)) ∧ (p.2.1 = true → miss r p.2.2 < miss r o1)} => [(3, .v false [.ow 100006]), (6, slV (.b i.1.2.1)), (58, slV (.i .i64 i.1.1))]) (fun i => []) (fun i => [(100006, [.s []], i.1.2.2.map j3)]) (fun i => 2 - i.1.1) (⟨(0, g2, o2), by simp, hl2, hB2, hI2, fun hg => ⟨(hC2 hg).1, (hC2 hg).2, by simp, by simp⟩, hM2⟩) _ (by simp only [go_sem, hS0, hS1, hS2]; try rfl) ?_ ?_
   ·simp only [go_sem, hS0, hS1, hS2]
    all_goals first | omega | ((repeat' apply And.intro) <;> first | omega | rfl | skip)
   intro S3 hS3 i
   simp only [go_sem, hS0, hS1, hS2] at hS3
   obtain ⟨⟨k, g3, o3⟩, hk3, hl3, hB3, hI3, hC3, hM3⟩ := i
   simp only at hk3 hl3 hB3 hI3 hC3 hM3
   have hm : r.Body.getD i default ∈ r.Body := by rw [k9 default (by omega)]; exact List.getElem_mem _
   have he : u7 (r.Body.getD i default) = true := by
    simp only [bne, Bool.not_eq_false'] at hc
    rw [u7, hc.1, hc.2]; rfl
   rcases (show k = 0 ∨ k = 1 ∨ k = 2 by omega) with rfl | rfl | rfl
   ·(try refine A2Z ?_); simp only [go_sem, hS0, hS1, hS2, hS3]; (repeat' first | apply CJ.mk | intro hc); all_goals try ((repeat' first | apply And.intro | intro hs) <;> (try simp only [go_sem, Bool.and_eq_false_iff] at hs) <;> omega)
    ·have hv : Bd r (r.Body.getD i default).A.Var := by
      rcases hc.1.1 with h | h
      ·exact Bd.leftV hm he (by rw [t6, hc.1.2]; rfl) (by rw [t6, h]; rfl)
      ·exact Bd.leftB hm he (by rw [t6, hc.1.2]; rfl) (hB3 _ (List.contains_iff_mem.1 h))
     have ha := c0I hV hl3 hB3 hI3 (fun hg => (hC3 hg).1) hM3 hv hc.2
     (refine lpK_n2 (⟨(1, true, o3 ++ [(r.Body.getD i default).A.Var]), by simp, ha.1, ha.2.1, ha.2.2.1, fun h => absurd h (by simp), fun _ => ha.2.2.2⟩) _ (by simp only [go_sem, hS0, hS1, hS2]; try rfl) ?_; simp only [go_sem, hS0, hS1, hS2, hS3]; first | done | ((repeat' apply And.intro) <;> first | omega | (refine w64 ?_ ?_ ?_ <;> omega) | rfl | skip))
     all_goals rw [List.map_append]; rfl
    ·have h9 : g3 = false → o8 o1 (r.Body.getD i default).B = true → t6 (r.Body.getD i default).A = true → (r.Body.getD i default).A.Var ∈ o1 := by
      intro hg h5 h6
      rw [← (hC3 hg).1] at h5 ⊢
      rw [o8] at h5
      simp only [t6] at h6
      rw [h5, h6] at hc
      simpa using hc
     (refine lpK_n2 (⟨(1, g3, o3), by simp, hl3, hB3, hI3, fun hg => ⟨(hC3 hg).1, (hC3 hg).2.1, fun _ => h9 hg, by simp⟩, hM3⟩) _ (by simp only [go_sem, hS0, hS1, hS2]; try rfl) ?_; simp only [go_sem, hS0, hS1, hS2, hS3]; first | done | ((repeat' apply And.intro) <;> first | omega | (refine w64 ?_ ?_ ?_ <;> omega) | rfl | skip))
   ·(try refine A2Z ?_); simp only [go_sem, hS0, hS1, hS2, hS3]; (repeat' first | apply CJ.mk | intro hc); all_goals try ((repeat' first | apply And.intro | intro hs) <;> (try simp only [go_sem, Bool.and_eq_false_iff] at hs) <;> omega)
    ·have hv : Bd r (r.Body.getD i default).B.Var := by
      rcases hc.1.1 with h | h
      ·exact Bd.rightV hm he (by rw [t6, hc.1.2]; rfl) (by rw [t6, h]; rfl)
      ·exact Bd.rightB hm he (by rw [t6, hc.1.2]; rfl) (hB3 _ (List.contains_iff_mem.1 h))
     have ha := c0I hV hl3 hB3 hI3 (fun hg => (hC3 hg).1) hM3 hv hc.2
     (refine lpK_n2 (⟨(2, true, o3 ++ [(r.Body.getD i default).B.Var]), by simp, ha.1, ha.2.1, ha.2.2.1, fun h => absurd h (by simp), fun _ => ha.2.2.2⟩) _ (by simp only [go_sem, hS0, hS1, hS2]; try rfl) ?_; simp only [go_sem, hS0, hS1, hS2, hS3]; first | done | ((repeat' apply And.intro) <;> first | omega | (refine w64 ?_ ?_ ?_ <;> omega) | rfl | skip))
     all_goals rw [List.map_append]; rfl
    ·have h9 : g3 = false → o8 o1 (r.Body.getD i default).A = true → t6 (r.Body.getD i default).B = true → (r.Body.getD i default).B.Var ∈ o1 := by
      intro hg h5 h6
      rw [← (hC3 hg).1] at h5 ⊢
      rw [o8] at h5
      simp only [t6] at h6
      rw [h5, h6] at hc
      simpa using hc
     (refine lpK_n2 (⟨(2, g3, o3), by simp, hl3, hB3, hI3, fun hg => ⟨(hC3 hg).1, (hC3 hg).2.1, (fun _ => (hC3 hg).2.2.1 (by simp)), fun _ => h9 hg⟩, hM3⟩) _ (by simp only [go_sem, hS0, hS1, hS2]; try rfl) ?_; simp only [go_sem, hS0, hS1, hS2, hS3]; first | done | ((repeat' apply And.intro) <;> first | omega | (refine w64 ?_ ?_ ?_ <;> omega) | rfl | skip))
   ·(try refine A2Z ?_); simp only [go_sem, hS0, hS1, hS2, hS3]; (repeat' first | apply CJ.mk | intro hc); all_goals try ((repeat' first | apply And.intro | intro hs) <;> (try simp only [go_sem, Bool.and_eq_false_iff] at hs) <;> omega)
    have h9 : g3 = false → o3 = o1 ∧ ∀ l ∈ r.Body.take (i + 1), t9 o1 l := by
     intro hg
     obtain ⟨h5, h6, h7, h8⟩ := hC3 hg
     refine ⟨h5, fun l hl => ?_⟩
     rw [i9 default (by omega), List.mem_append, List.mem_singleton] at hl
     rcases hl with hl | rfl
     ·exact h6 l hl
     ·exact c6a (h7 (by simp)) (h8 (by simp))
    (refine lpK_n2 (⟨(i + 1, g3, o3), by simp only; omega, hl3, hB3, hI3, h9, hM3⟩) _ (by simp only [go_sem, hS0, hS1, hS2]; try rfl) ?_; simp only [go_sem, hS0, hS1, hS2, hS3]; first | done | ((repeat' apply And.intro) <;> first | omega | (refine w64 ?_ ?_ ?_ <;> omega) | rfl | skip))
  ·have h3 : g2 = false → ∀ l ∈ r.Body, t9 o2 l := by
    intro hg l hl
    have h5 := hC2 hg
    rw [i8 (by omega)] at h5
    rw [h5.1]; exact h5.2 l hl
   cases g2 with
   | false =>
     have h7 := (hC2 rfl).1
     (refine lpK_n2 (⟨(false, o2), hl2, hB2, hI2, h3⟩) _ (by simp only [go_sem, hS0, hS1, hS2]; try rfl) ?_; simp only [go_sem, hS0, hS1, hS2]; first | done | ((repeat' apply And.intro) <;> first | omega | (refine w64 ?_ ?_ ?_ <;> omega) | rfl | skip))
     all_goals (subst h7; rw [show g = true by assumption]; simp only [cond_true]; omega)
   | true =>
     have h7 := hM2 rfl
     (refine lpK_n2 (⟨(true, o2), hl2, hB2, hI2, h3⟩) _ (by simp only [go_sem, hS0, hS1, hS2]; try rfl) ?_; simp only [go_sem, hS0, hS1, hS2]; first | done | ((repeat' apply And.intro) <;> first | omega | (refine w64 ?_ ?_ ?_ <;> omega) | rfl | skip))
     all_goals (rw [show g = true by assumption]; simp only [cond_true]; omega)
 ·rw [c2x hB1 hI1 (hC1 hc)]
noncomputable def a5F : CT := l8 (fun (x : d3) h => b9V x h)
@[go_sem] theorem c6I (x0 : Int) (x1 : List UInt8) (x2 : List c4) (x3 : List d4) : a5F [(true, [.i .i64 x0, .s x1, .sl false [.s [], .i .i64 0, .s []] (x2.map c4.cells), .sl false [.i .i64 0, .s [], .sl false [.s [], .i .i64 0, .s []] [], .i .i64 0, .s [], .i .i64 0, .s [], .s [], .i .i64 0, .s []] (x3.map (d4.cells false false))])] = some (i6 (d3.mk x0 (d5.mk x1 x2) x3) = true, [], .one (false, [.sl true [.s []] ((a0l (d3.mk x0 (d5.mk x1 x2) x3)).map j3)])) := f9 _ (by rintro ⟨_, ⟨_, _⟩, _⟩ ⟨_, ⟨_, _⟩, _⟩ h; simp at h; simp_all) (d3.mk x0 (d5.mk x1 x2) x3)
theorem b3a : OkC Tryz.prog 195 a5F := i3 _
end Go.Aw
