/- What a view a0H on. No condition. -/
import Derived.Test.YthlbadfickhkfaaGreatzeT2
import Derived.Test.YthlbadfickhkfaaGreatzeT7
namespace Go.Aw
open Go.Proofs
attribute [local irreducible] aft blk lpK retK AW A0l
set_option linter.unusedVariables false
set_option linter.unusedSimpArgs false
set_option maxRecDepth 100000
def a8s (r : c4) : List (List UInt8) := ((i5 r).drop 1).map c9.Name
def a1R (p : c6) (a : List UInt8) (r : c4) : Bool := (r.Kind == 1 && u0 p r.Head.Name == 3) && r.Head.Name == a
def m8 (p : c6) (a : List UInt8) : List (List UInt8) := (p.Rules.filter (a1R p a)).flatMap a8s
inductive Rch (p : c6) (a : List UInt8) : List UInt8 → Prop
 | one {b : List UInt8} : b ∈ m8 p a → Rch p a b
 | step {b c : List UInt8} : Rch p a b → c ∈ m8 p b → Rch p a c
def b2q (p : c6) : List (List UInt8) := p.Rules.flatMap a8s
theorem b0H {p : c6} {a b : List UInt8} (h : b ∈ m8 p a) : b ∈ b2q p := by
 obtain ⟨r, hr, hb⟩ := List.mem_flatMap.1 h
 exact List.mem_flatMap.2 ⟨r, (List.mem_filter.1 hr).1, hb⟩
theorem Rch.all {p : c6} {a b : List UInt8} (h : Rch p a b) : b ∈ b2q p := by
 cases h with
 | one h => exact b0H h
 | step _ h => exact b0H h
theorem Rch.mem {p : c6} {a : List UInt8} {l : List (List UInt8)} (h1 : ∀ x ∈ m8 p a, x ∈ l) (h2 : ∀ x ∈ l, ∀ y ∈ m8 p x, y ∈ l) {b : List UInt8} (h : Rch p a b) : b ∈ l := by
 induction h with
 | one h => exact h1 _ h
 | step _ h ih => exact h2 _ ih _ h
open Classical in
noncomputable def c1p (p : c6) (a : List UInt8) : List (List UInt8) := (j1 sLt [] (b2q p)).filter fun v => decide (Rch p a v)
open Classical in
theorem b5F {p : c6} {a v : List UInt8} : v ∈ c1p p a ↔ Rch p a v := by
 rw [c1p, List.mem_filter, m7, decide_eq_true_eq]
 exact ⟨fun h => h.2, fun h => ⟨.inr h.all, h⟩⟩
noncomputable def a0H (p : c6) (a b : List UInt8) : Bool := (g9 p).1 == 0 && (c1p p a).contains b
theorem a9T {l l' : List (List UInt8)} {b : List UInt8} (h : b ∈ l ↔ b ∈ l') : l.contains b = l'.contains b := by
 rw [Bool.eq_iff_iff, List.contains_iff_mem, List.contains_iff_mem, h]
def p6 (o l : List (List UInt8)) : List (List UInt8) := l.foldl (fun o y => if y ∈ o then o else o ++ [y]) o
theorem b8D (o l r : List (List UInt8)) : p6 o (l ++ r) = p6 (p6 o l) r := by simp [p6, List.foldl_append]
theorem b3R : ∀ (l o : List (List UInt8)), ∃ s, p6 o l = o ++ s ∧ (∀ x ∈ s, x ∈ l)
 | [], o => ⟨[], by simp [p6], by simp⟩
 | y :: l, o => by
   by_cases h : y ∈ o
   ·obtain ⟨s, e, hs⟩ := b3R l o
    exact ⟨s, by rw [← e]; simp [p6, h], fun x hx => List.mem_cons_of_mem _ (hs x hx)⟩
   ·obtain ⟨s, e, hs⟩ := b3R l (o ++ [y])
    refine ⟨y :: s, ?_, ?_⟩
    ·have : p6 o (y :: l) = p6 (o ++ [y]) l := by simp [p6, h]
     rw [this, e]; simp
    ·intro x hx
     rcases List.mem_cons.1 hx with rfl | hx
     ·simp
     ·exact List.mem_cons_of_mem _ (hs x hx)
theorem a2t {l o : List (List UInt8)} {x : List UInt8} : x ∈ p6 o l ↔ x ∈ o ∨ x ∈ l := by
 induction l generalizing o with
 | nil => simp [p6]
 | cons y l ih =>
   have e : p6 o (y :: l) = p6 (if y ∈ o then o else o ++ [y]) l := rfl
   rw [e, ih]
   by_cases h : y ∈ o
   ·simp only [h, if_true, List.mem_cons]
    constructor
    ·rintro (h1 | h1); exact .inl h1; exact .inr (.inr h1)
    ·rintro (h1 | rfl | h1); exact .inl h1; exact .inl h; exact .inr h1
   ·rw [if_neg h, List.mem_append, List.mem_singleton, List.mem_cons, or_assoc]
theorem a4Z : ∀ {l o : List (List UInt8)}, o.Nodup → (p6 o l).Nodup
 | [], o, h => h
 | y :: l, o, h => by
   have e : p6 o (y :: l) = p6 (if y ∈ o then o else o ++ [y]) l := rfl
   rw [e]
   by_cases hy : y ∈ o
   ·rw [if_pos hy]; exact a4Z h
   ·rw [if_neg hy]
    refine a4Z (List.nodup_append.2 ⟨h, by simp, ?_⟩)
    intro a ha b hb
    rw [List.mem_singleton] at hb
    rintro rfl
    exact hy (hb ▸ ha)
theorem b7y {o l : List (List UInt8)} {x : List UInt8} (h : x ∈ p6 o l) : p6 o (l ++ [x]) = p6 o l := by
 rw [b8D]; exact if_pos h
theorem b5Z {o l : List (List UInt8)} {x : List UInt8} (h : ¬ x ∈ p6 o l) : p6 o (l ++ [x]) = p6 o l ++ [x] := by
 rw [b8D]; simp [p6] at h ⊢; intro h'; exact absurd h' h
def b5P (p : c6) : List (List UInt8) × List (List UInt8) → List (List UInt8) × List (List UInt8)
 | (o, []) => (o, [])
 | (o, x :: r) => (p6 o (m8 p x), r ++ (p6 o (m8 p x)).drop o.length)
def itF (p : c6) (v : List UInt8) : Nat → List (List UInt8) × List (List UInt8)
 | 0 => ([], [v])
 | k + 1 => b5P p (itF p v k)
def a3e (p : c6) : Nat := (b2q p).length
def a4d (p : c6) (v : List UInt8) : List (List UInt8) := (itF p v (2 * a3e p + 2)).1
structure FInv (p : c6) (v : List UInt8) (k : Nat) (o n : List (List UInt8)) : Prop where
 nd : o.Nodup
 un : ∀ x ∈ o, x ∈ b2q p
 ok : ∀ x ∈ o, Rch p v x
 nx : ∀ x ∈ n, x = v ∨ x ∈ o
 cl : ∀ x, x = v ∨ x ∈ o → x ∈ n ∨ ∀ y ∈ m8 p x, y ∈ o
 ms : n = [] ∨ k + 2 * (a3e p - o.length) + n.length ≤ 2 * a3e p + 1
theorem a4R {α : Type} [DecidableEq α] : ∀ {l m : List α}, l.Nodup → (∀ x ∈ l, x ∈ m) → l.length ≤ m.length
 | [], _, _, _ => Nat.zero_le _
 | x :: l, m, h, hm => by
   rw [List.nodup_cons] at h
   have h1 := a4R (l := l) (m := m.erase x) h.2 fun y hy => (List.mem_erase_of_ne (fun e => h.1 (by rw [← e]; exact hy))).2 (hm y (by simp [hy]))
   have h2 := List.length_erase_of_mem (hm x (by simp))
   have h3 : 0 < m.length := List.length_pos_of_mem (hm x (by simp))
   simp only [List.length_cons]; omega
theorem FInv.start (p : c6) (v : List UInt8) : FInv p v 0 [] [v] :=
 ⟨List.nodup_nil, by simp, by simp, by simp, fun x hx => .inl (by simpa using hx), .inr (by simp)⟩
theorem FInv.step {p : c6} {v : List UInt8} {k : Nat} {o r : List (List UInt8)} {x : List UInt8} (h : FInv p v k o (x :: r)) : FInv p v (k + 1) (p6 o (m8 p x)) (r ++ (p6 o (m8 p x)).drop o.length) := by
 obtain ⟨s, e, hs⟩ := b3R (m8 p x) o
 have hd : (p6 o (m8 p x)).drop o.length = s := by rw [e]; simp
 have hx : x = v ∨ Rch p v x := (h.nx x (by simp)).imp id (h.ok x)
 have hR : ∀ y ∈ m8 p x, Rch p v y := fun y hy => by
  rcases hx with rfl | hx
  ·exact .one hy
  ·exact .step hx hy
 have hun : ∀ y ∈ p6 o (m8 p x), y ∈ b2q p := fun y hy => (a2t.1 hy).elim (h.un y) b0H
 have hnd := a4Z (l := m8 p x) h.nd
 refine ⟨hnd, hun, fun y hy => (a2t.1 hy).elim (h.ok y) (hR y), ?_, ?_, ?_⟩
 ·intro y hy
  rw [hd] at hy
  rcases List.mem_append.1 hy with hy | hy
  ·exact (h.nx y (by simp [hy])).imp id fun hy => a2t.2 (.inl hy)
  ·exact .inr (a2t.2 (.inr (hs y hy)))
 ·intro y hy
  rw [hd]
  have old : y = v ∨ y ∈ o → y ∈ r ++ s ∨ ∀ z ∈ m8 p y, z ∈ p6 o (m8 p x) := by
   intro hy
   rcases h.cl y hy with h1 | h1
   ·rcases List.mem_cons.1 h1 with rfl | h1
    ·exact .inr fun z hz => a2t.2 (.inr hz)
    ·exact .inl (List.mem_append.2 (.inl h1))
   ·exact .inr fun z hz => a2t.2 (.inl (h1 z hz))
  rcases hy with hy | hy
  ·exact old (.inl hy)
  ·rw [e] at hy
   rcases List.mem_append.1 hy with hy | hy
   ·exact old (.inr hy)
   ·exact .inl (List.mem_append.2 (.inr hy))
 ·right
  have h1 := a4R hnd hun
  have h2 : (p6 o (m8 p x)).length = o.length + s.length := by rw [e, List.length_append]
  have h3 := h.ms.resolve_left (by simp)
  rw [hd]
  simp only [List.length_cons, List.length_append, a3e] at h1 h3 ⊢
  omega
theorem b7O (p : c6) (v : List UInt8) : ∀ k, FInv p v k (itF p v k).1 (itF p v k).2
 | 0 => FInv.start p v
 | k + 1 => by
   have h := b7O p v k
   have e : itF p v (k + 1) = b5P p (itF p v k) := rfl
   rw [e]
   generalize itF p v k = s at h
   obtain ⟨o, n⟩ := s
   cases n with
   | nil => exact ⟨h.nd, h.un, h.ok, h.nx, h.cl, .inl rfl⟩
   | cons x r => exact h.step
theorem b9f {p : c6} {v : List UInt8} {k : Nat} (h : (itF p v k).2 = []) : ∀ j, itF p v (k + j) = itF p v k
 | 0 => rfl
 | j + 1 => by
   have e : itF p v (k + (j + 1)) = b5P p (itF p v (k + j)) := rfl
   rw [e, b9f h j]
   generalize itF p v k = s at h
   obtain ⟨o, n⟩ := s
   simp only at h
   subst h; rfl
theorem c5t {p : c6} {v : List UInt8} {k : Nat} (hk : k ≤ 2 * a3e p + 1) (h : (itF p v k).2 = []) : (itF p v k).1 = a4d p v := by
 rw [a4d, show 2 * a3e p + 2 = k + (2 * a3e p + 2 - k) by omega, b9f h]
theorem c1o {p : c6} {v x : List UInt8} : x ∈ a4d p v ↔ Rch p v x := by
 have h := b7O p v (2 * a3e p + 2)
 have hn : (itF p v (2 * a3e p + 2)).2 = [] := by
  rcases h.ms with h | h
  ·exact h
  ·omega
 rw [hn] at h
 refine ⟨h.ok x, fun hx => ?_⟩
 have hc : ∀ y, y = v ∨ y ∈ a4d p v → ∀ z ∈ m8 p y, z ∈ a4d p v := fun y hy => (h.cl y hy).resolve_left (by simp)
 exact hx.mem (hc v (.inl rfl)) fun y hy => hc y (.inr hy)
theorem b0P {p : c6} (h : j7 p = true) : a3e p ≤ 192 := by
 have h2 : ∀ r ∈ p.Rules, (a8s r).length ≤ 8 := fun r hr => by
  have h1 := b4V h hr
  have h3 := a5a r
  rw [a8s, List.length_map, List.length_drop]; omega
 have h3 : p.Rules.length ≤ 24 := by
  simp only [j7, Bool.and_eq_true, decide_eq_true_eq] at h; omega
 have : ∀ {l : List c4}, (∀ r ∈ l, (a8s r).length ≤ 8) → (l.flatMap a8s).length ≤ 8 * l.length := by
  intro l
  induction l with
  | nil => intro _; simp
  | cons x l ih =>
    intro h
    have h1 := h x (by simp)
    have h2 := ih fun y hy => h y (by simp [hy])
    simp only [List.flatMap_cons, List.length_append, List.length_cons]
    omega
 have h4 := this h2
 rw [a3e, b2q]; omega
theorem a4v {p : c6} (h : j7 p = true) {i : Nat} (hi : i < p.Rules.length) : (p.Rules.getD i default).Body.length ≤ 8 := b4V h (A3l hi)
theorem a8B {r : c4} {j : Nat} (h : j < ((i5 r).drop 1).length) : (((i5 r).drop 1).take (j + 1)).map c9.Name = (((i5 r).drop 1).take j).map c9.Name ++ [(((i5 r).drop 1).getD j default).Name] := c5m c9.Name default h
theorem c3S (l r s : List (List UInt8)) : j1 sLt (j1 sLt l r) s = j1 sLt l (r ++ s) := by simp [j1, List.foldl_append]
theorem a9U {α β : Type} (q : α → Bool) (f : α → List β) : ∀ l : List α, ((l.filter q).flatMap f).length ≤ (l.flatMap f).length
 | [] => by simp
 | x :: l => by
   have h := a9U q f l
   simp only [List.filter_cons]
   split <;> simp only [List.flatMap_cons, List.length_append] <;> omega
def t6 (p : c6) (a : List UInt8) (n : Nat) : List (List UInt8) := ((p.Rules.take n).filter (a1R p a)).flatMap a8s
theorem b2i (p : c6) (a : List UInt8) (n : Nat) : (t6 p a n).length ≤ a3e p := by
 refine Nat.le_trans (a9U _ _ _) ?_
 have e : b2q p = (p.Rules.take n).flatMap a8s ++ (p.Rules.drop n).flatMap a8s := by rw [← List.flatMap_append, List.take_append_drop]; rfl
 rw [a3e, e, List.length_append]; omega
@[go_sem] theorem nextF_zero (p : c6) (a : List UInt8) : t6 p a 0 = [] := rfl
@[go_sem] theorem putsN_nil (l : List (List UInt8)) : j1 sLt l [] = l := rfl
@[go_sem] theorem addL_nil (o : List (List UInt8)) : p6 o [] = o := rfl
theorem b2h {p : c6} {a : List UInt8} {n : Nat} (h : ¬ n < p.Rules.length) : t6 p a n = m8 p a := by rw [t6, f9 h, m8]
theorem b7k {p : c6} {a : List UInt8} {i : Nat} (hi : i < p.Rules.length) (h : a1R p a (p.Rules.getD i default) = true) : t6 p a (i + 1) = t6 p a i ++ a8s (p.Rules.getD i default) := by
 rw [t6, c2g default hi h, List.flatMap_append, t6]; simp
theorem b9A {p : c6} {a : List UInt8} {i : Nat} (hi : i < p.Rules.length) (h : a1R p a (p.Rules.getD i default) = false) : t6 p a (i + 1) = t6 p a i := by
 rw [t6, f_no default hi h, t6]
theorem a1c {p : c6} (h : ((g9 p).1 == 0) = true) : j7 p = true := by
 cases hB : j7 p with
 | true => rfl
 | false => rw [a1u hB] at h; simp at h
theorem b3Q (o l : List (List UInt8)) : o.length ≤ (p6 o l).length ∧ (p6 o l).length ≤ o.length + l.length := by
 induction l generalizing o with
 | nil => exact ⟨Nat.le_refl _, Nat.le_refl _⟩
 | cons y l ih =>
   have e : p6 o (y :: l) = p6 (if y ∈ o then o else o ++ [y]) l := rfl
   rw [e]
   by_cases h : y ∈ o
   ·have := ih o; rw [if_pos h]; simp only [List.length_cons]; omega
   ·have := ih (o ++ [y]); rw [if_neg h]; simp only [List.length_append, List.length_cons, List.length_nil] at *; omega
theorem b5B (p : c6) (a : List UInt8) (r : c4) : a1R p a r = (((r.Kind == 1) && (r.Head.Name == a)) && ((n8 p a).Kind == 3)) := by
 rw [a1R]
 cases h : (r.Head.Name == a) with
 | false => simp
 | true => rw [beq_iff_eq] at h; rw [h, u0]; simp
def a2m : ACode := q' ([o' 2 (.box 2 (.t 0)), o' 3 (.box 4 (.t 1)), b' 4 false]) (q' ([f' 5 0 3, l' 6 5, o' 7 (.bin .eql (.t 6) (k' 1)), m' 8 7, ⟨some 9, .ld true 2 (.t 2), some
 (8, true)⟩, ⟨some 10, .fa 1 (.t 3), some (8, true)⟩, ⟨some 11, .fa 0 (.t 10), some (8, true)⟩, ⟨some 12, .ld false 1 (.t 11), some (8, true)⟩, ⟨some 13, .call
 82 [.t 9, .t 12], some (8, true)⟩, ⟨some 14, .bin .eql (.t 13) (k' 3), some (8, true)⟩, o' 15 (.pick (.t 8) (.t 14) (.k (.v false [.c (.b false)]))), m' 4
 15]) .ret)
theorem a8Q : cmp Tryz.prog Tryz.f79 = some a2m := by kernel_rfl
theorem b0u (p : c6) (r : c4) : A0l Tryz.prog 79 [(true, [.sl false [.i .i64 0, .s [], .i .i64 0] (p.Decls.map c7.cells), .sl false [.i .i64 0, .s [], .sl false [.s [], .i .i64 0, .s []] [], .sl false [.i .i64 0, .s [], .sl false [.s [], .i .i64 0, .s []] [], .i .i64 0, .s [], .i .i64 0, .s [], .s [], .i .i64 0, .s []] []] (p.Rules.map (c4.cells false false))]), (true, [.i .i64 r.Kind, .s r.Head.Name, .sl false [.s [], .i .i64 0, .s []] (r.Head.Args.map c5.cells), .sl false [.i .i64 0, .s [], .sl false [.s [], .i .i64 0, .s []] [], .i .i64 0, .s [], .i .i64 0, .s [], .s [], .i .i64 0, .s []] (r.Body.map (c8.cells false false))])] [] (.one (false, [.b (r.Kind == 1 && u0 p r.Head.Name == 3)])) := by
 refine spec_of2 false false none Tryz.func79 a8Q (rvs := [.t 4]) (hΓ := mkCtx_ok (deep := false) (l := [(82, [], u9)]) ⟨w8, trivial⟩) (h := ?_)
 intro hb hE
 simp only [go_sem] at hb
 simp only [a2m, x']
 (try refine A2V ?_); simp only [go_sem]; (repeat' first | apply CJ.mk | intro hc); all_goals try ((repeat' first | apply And.intro | intro hs) <;> (try simp only [go_sem, Bool.and_eq_false_iff] at hs) <;> omega)
 all_goals (first | rfl | (rw [hc]; rfl) | trace_state)
noncomputable def v6 : CT := i8 (fun (x : c6 × c4) => b0u x.1 x.2)
@[go_sem] theorem b8J (x0 : List c7) (x1 : List c4) (x2 : Int) (x3 : List UInt8) (x4 : List c5) (x5 : List c8) : v6 [(true, [.sl false [.i .i64 0, .s [], .i .i64 0] (x0.map c7.cells), .sl false [.i .i64 0, .s [], .sl false [.s [], .i .i64 0, .s []] [], .sl false [.i .i64 0, .s [], .sl false [.s [], .i .i64 0, .s []] [], .i .i64 0, .s [], .i .i64 0, .s [], .s [], .i .i64 0, .s []] []] (x1.map (c4.cells false false))]), (true, [.i .i64 x2, .s x3, .sl false [.s [], .i .i64 0, .s []] (x4.map c5.cells), .sl false [.i .i64 0, .s [], .sl false [.s [], .i .i64 0, .s []] [], .i .i64 0, .s [], .i .i64 0, .s [], .s [], .i .i64 0, .s []] (x5.map (c8.cells false false))])] = some (True, [], .one (false, [.b ((c4.mk x2 (c9.mk x3 x4) x5).Kind == 1 && u0 (c6.mk x0 x1) (c4.mk x2 (c9.mk x3 x4) x5).Head.Name == 3)])) := f5 _ (by rintro ⟨⟨_, _⟩, ⟨_, ⟨_, _⟩, _⟩⟩ ⟨⟨_, _⟩, ⟨_, ⟨_, _⟩, _⟩⟩ h; simp at h; simp_all) ((c6.mk x0 x1), (c4.mk x2 (c9.mk x3 x4) x5))
theorem a1z : OkC Tryz.prog 79 v6 := f7 _
def a2n : ACode := q' ([o' 1 (.box 2 (.t 0)), b' 2 false]) (q' ([e' 6 2 1, c' 7 138 [6], m' 5 7, o' 8 (.ext (.t 5) 0), o' 9 (.ext (.t 5) 1), m' 3 8, m' 4 9]) (q' ([m' 10 3, o' 11
 (.bin .eql (.t 10) (k' 0)), m' 2 11]) .ret))
theorem a8R : cmp Tryz.prog Tryz.f66 = some a2n := by kernel_rfl
theorem b0v (p : c6) : A0l Tryz.prog 66 [(true, [.sl false [.i .i64 0, .s [], .i .i64 0] (p.Decls.map c7.cells), .sl false [.i .i64 0, .s [], .sl false [.s [], .i .i64 0, .s []] [], .sl false [.i .i64 0, .s [], .sl false [.s [], .i .i64 0, .s []] [], .i .i64 0, .s [], .i .i64 0, .s [], .s [], .i .i64 0, .s []] []] (p.Rules.map (c4.cells false false))])] [] (.one (false, [.b ((g9 p).1 == 0)])) := by
 refine spec_of2 false false none Tryz.func66 a8R (rvs := [.t 2]) (hΓ := mkCtx_ok (deep := false) (l := [(138, [], a0q)]) ⟨a7h, trivial⟩) (h := ?_)
 intro hb hE
 simp only [go_sem] at hb
 simp only [a2n, x']
 (try refine A2V ?_); simp only [go_sem]; (repeat' first | apply CJ.mk | intro hc); all_goals try ((repeat' first | apply And.intro | intro hs) <;> (try simp only [go_sem, Bool.and_eq_false_iff] at hs) <;> omega)
 all_goals (first | rfl | trace_state)
noncomputable def a0v : CT := i8 (fun (x : c6) => b0v x)
@[go_sem] theorem b8K (x0 : List c7) (x1 : List c4) : a0v [(true, [.sl false [.i .i64 0, .s [], .i .i64 0] (x0.map c7.cells), .sl false [.i .i64 0, .s [], .sl false [.s [], .i .i64 0, .s []] [], .sl false [.i .i64 0, .s [], .sl false [.s [], .i .i64 0, .s []] [], .i .i64 0, .s [], .i .i64 0, .s [], .s [], .i .i64 0, .s []] []] (x1.map (c4.cells false false))])] = some (True, [], .one (false, [.b ((g9 (c6.mk x0 x1)).1 == 0)])) := f5 _ (by rintro ⟨_, _⟩ ⟨_, _⟩ h; simp at h; simp_all) (c6.mk x0 x1)
theorem a7k : OkC Tryz.prog 66 a0v := f7 _
def a6d : ACode := q' ([o' 2 (.box 2 (.t 0)), o' 4 (.mov (.k (.v false [.nl [.s []]])))]) (q' ([o' 9 (.bsl 1 0 [.s] []), m' 5 9]) (.seq (q' ([f' 10 1 2, l' 11 10, n' 12 11, z' 13
 0]) (.block 0 (.loop (q' ([r' 14 13 12]) (.seq (.cond (.t 14) .skip (.exit 0)) (.seq (.block 1 (q' ([m' 15 13, m' 6 15]) (q' ([f' 16 1 2, l' 17 16, m' 18 6,
 i' 19 4 17 18, f' 20 0 19, l' 21 20, o' 22 (.bin .eql (.t 21) (k' 1)), m' 23 22, ⟨some 24, .fa 1 (.t 2), some (23, true)⟩, ⟨some 25, .ld false 1 (.t 24), some
 (23, true)⟩, ⟨some 26, .mov (.t 6), some (23, true)⟩, ⟨some 27, .ia 4 (.t 25) (.t 26), some (23, true)⟩, ⟨some 28, .fa 1 (.t 27), some (23, true)⟩, ⟨some 29,
 .fa 0 (.t 28), some (23, true)⟩, ⟨some 30, .ld false 1 (.t 29), some (23, true)⟩, ⟨some 31, .mov (.t 1), some (23, true)⟩, ⟨some 32, .bin .eql (.t 30) (.t
 31), some (23, true)⟩, o' 33 (.pick (.t 23) (.t 32) (.k (.v false [.c (.b false)]))), m' 34 33, ⟨some 35, .ld true 2 (.t 2), some (34, true)⟩, ⟨some 36, .mov
 (.t 1), some (34, true)⟩, ⟨some 37, .call 160 [.t 35, .t 36], some (34, true)⟩, ⟨some 38, .fl false 0 1 (.t 37), some (34, true)⟩, ⟨some 39, .bin .eql (.t 38)
 (k' 3), some (34, true)⟩, o' 40 (.pick (.t 34) (.t 39) (.k (.v false [.c (.b false)])))]) (.cond (.t 40) (q' ([f' 41 1 2, l' 42 41, m' 43 6, i' 44 4 42 43, e'
 45 4 44, c' 46 214 [45], o' 47 (.slc 2 (.t 46) (some (k' 1)) none none), n' 48 47, z' 49 0]) (.block 2 (.loop (q' ([r' 50 49 48]) (.seq (.cond (.t 50) .skip
 (.exit 2)) (.seq (.block 3 (q' ([i' 51 2 47 49, e' 52 2 51, w' 8 [.s, .sl [.s [], .i .i64 0, .s []]], s' 2 8 52]) (g' [m' 53 5, f' 54 0 8, l' 55 54, c' 56 98
 [53, 55], m' 5 56]))) (g' [a' 57 49, m' 49 57]))))))) .skip)))) (g' [a' 58 13, m' 13 58]))))))) (q' ([m' 59 5, m' 4 59]) .ret)))
theorem b3n : cmp Tryz.prog Tryz.f167 = some a6d := by kernel_rfl
theorem b5A (p : c6) (a : List UInt8) (hpre : j7 p = true) : A0l Tryz.prog 167 [(true, [.sl false [.i .i64 0, .s [], .i .i64 0] (p.Decls.map c7.cells), .sl false [.i .i64 0, .s [], .sl false [.s [], .i .i64 0, .s []] [], .sl false [.i .i64 0, .s [], .sl false [.s [], .i .i64 0, .s []] [], .i .i64 0, .s [], .i .i64 0, .s [], .s [], .i .i64 0, .s []] []] (p.Rules.map (c4.cells false false))]), (false, [.s a])] [] (.one (false, [.sl false [.s []] ((j1 sLt [] (m8 p a)).map g8)])) := by
 refine spec_of2 false true none Tryz.func167 b3n (rvs := [.t 4]) (hΓ := mkCtx_ok (deep := false) (l := [(214, [], a0c), (160, [], t9), (98, [0], u6)]) ⟨a2V, v8, a0l, trivial⟩) (h := ?_)
 intro hb hE
 simp only [go_sem] at hb
 simp only [a6d, x']
 have hU := b0P hpre
 (try refine A2V ?_); simp only [go_sem, i3]; (repeat' first | apply CJ.mk | intro hc); all_goals try ((repeat' first | apply And.intro | intro hs) <;> (try simp only [go_sem, Bool.and_eq_false_iff] at hs) <;> omega)
 refine aw_loop2 false [(false, 5, 0, 100010)] [1, 2, 12] [4] [] (fun i : {i : Nat // i ≤ p.Rules.length} => [(5, .v false [.ow 100010]), (13, slV (.i .i64 i.1))]) (fun i => []) (fun i => [(100010, [.s []], (j1 sLt [] (t6 p a i.1)).map g8)]) (fun i => p.Rules.length - i.1) (⟨0, by simp⟩) _ (by simp only [go_sem, i3]; try rfl) ?_ ?_
 ·simp only [go_sem, i3]
  all_goals first | omega | ((repeat' apply And.intro) <;> first | omega | rfl | skip)
 intro S0 hS0 i
 simp only [go_sem, i3] at hS0
 obtain ⟨n, hn⟩ := i
 have hlen := b2i p a n
 generalize hO : j1 sLt [] (t6 p a n) = O
 have hOl : O.length ≤ 192 := by
  have := u4 sLt (t6 p a n) []
  rw [hO] at this
  simp only [List.length_nil] at this; omega
 (try refine A2V ?_); simp only [go_sem, i3, hS0]; (repeat' first | apply CJ.mk | intro hc); all_goals try ((repeat' first | apply And.intro | intro hs) <;> (try simp only [go_sem, Bool.and_eq_false_iff] at hs) <;> omega)
 ·exact a4v hpre (by omega)
 ·have := a3B (p.Rules.getD n default); omega
 ·have hq : a1R p a (p.Rules.getD n default) = true := by rw [b5B, hc.1.1, hc.1.2, hc.2]; rfl
  have hdl : ((i5 (p.Rules.getD n default)).drop 1).length ≤ 8 := by
   have h1 := a5a (p.Rules.getD n default)
   have h2 := a4v hpre (show n < p.Rules.length by omega)
   rw [List.length_drop]; omega
  clear hc
  refine aw_loop2 false [(false, 5, 0, 100010)] [1, 2, 12, 13, 47, 48] [4] [6016] (fun i : {j : Nat // j ≤ ((i5 (p.Rules.getD n default)).drop 1).length} => [(5, .v false [.ow 100010]), (49, slV (.i .i64 i.1))]) (fun i => []) (fun i => [(100010, [.s []], (j1 sLt O ((((i5 (p.Rules.getD n default)).drop 1).take i.1).map c9.Name)).map g8)]) (fun i => ((i5 (p.Rules.getD n default)).drop 1).length - i.1) (⟨0, by simp⟩) _ (by simp only [go_sem, i3, hS0]; try rfl) ?_ ?_
  ·simp only [go_sem, i3, hS0]
   all_goals first | omega | ((repeat' apply And.intro) <;> first | omega | rfl | skip)
  intro S1 hS1 i
  simp only [go_sem, i3, hS0] at hS1
  obtain ⟨j, hj⟩ := i
  have h2 := u4 sLt ((((i5 (p.Rules.getD n default)).drop 1).take j).map c9.Name) O
  rw [List.length_map, List.length_take] at h2
  (try refine A2V ?_); simp only [go_sem, i3, hS0, hS1]; (repeat' first | apply CJ.mk | intro hc); all_goals try ((repeat' first | apply And.intro | intro hs) <;> (try simp only [go_sem, Bool.and_eq_false_iff] at hs) <;> omega)
  all_goals first
   | omega
   | ((refine lpK_n2 (⟨j + 1, by omega⟩) _ (by simp only [go_sem, i3, hS0]; try rfl) ?_; simp only [go_sem, i3, hS0, hS1]; first | done | ((repeat' apply And.intro) <;> first | omega | (refine w64 ?_ ?_ ?_ <;> omega) | rfl | skip)); rw [a8B (by omega), a7H]; done)
   | ((refine lpK_n2 (⟨n + 1, by omega⟩) _ (by simp only [go_sem, i3, hS0]; try rfl) ?_; simp only [go_sem, i3, hS0, hS1]; first | done | ((repeat' apply And.intro) <;> first | omega | (refine w64 ?_ ?_ ?_ <;> omega) | rfl | skip)); rw [f9 (by omega), b7k (by omega) hq, ← c3S, hO]; first | done | rfl | trace_state)
   | trace_state
 ·have hq : a1R p a (p.Rules.getD n default) = false := by rw [b5B]; exact hc
  (refine lpK_n2 (⟨n + 1, by omega⟩) _ (by simp only [go_sem, i3, hS0]; try rfl) ?_; simp only [go_sem, i3, hS0]; first | done | ((repeat' apply And.intro) <;> first | omega | (refine w64 ?_ ?_ ?_ <;> omega) | rfl | skip))
  rw [b9A (by omega) hq, hO]
 ·rw [← hO, b2h (by omega)]
noncomputable def a2Y : CT := p4 (fun (x : c6 × (List UInt8)) h => b5A x.1 x.2 h)
@[go_sem] theorem c2f (x0 : List c7) (x1 : List c4) (a : List UInt8) : a2Y [(true, [.sl false [.i .i64 0, .s [], .i .i64 0] (x0.map c7.cells), .sl false [.i .i64 0, .s [], .sl false [.s [], .i .i64 0, .s []] [], .sl false [.i .i64 0, .s [], .sl false [.s [], .i .i64 0, .s []] [], .i .i64 0, .s [], .i .i64 0, .s [], .s [], .i .i64 0, .s []] []] (x1.map (c4.cells false false))]), (false, [.s a])] = some (j7 (c6.mk x0 x1) = true, [], .one (false, [.sl false [.s []] ((j1 sLt [] (m8 (c6.mk x0 x1) a)).map g8)])) := i6 _ (by rintro ⟨⟨_, _⟩, _⟩ ⟨⟨_, _⟩, _⟩ h; simp at h; simp_all) ((c6.mk x0 x1), a)
theorem a9R : OkC Tryz.prog 167 a2Y := i7 _
theorem b5Q {p : c6} {o nx : List (List UInt8)} (h : 0 < nx.length) : b5P p (o, nx) = (p6 o (m8 p (nx.getD 0 [])), nx.drop 1 ++ (p6 o (m8 p (nx.getD 0 []))).drop o.length) := by
 cases nx with
 | nil => simp at h
 | cons x r => rfl
theorem step_ms {p : c6} {v : List UInt8} {k : Nat} {o nx : List (List UInt8)} (h : FInv p v k o nx) (hm : k + 2 * (a3e p - o.length) + nx.length ≤ 2 * a3e p + 1) (hn : 0 < nx.length) : k + 1 + 2 * (a3e p - (b5P p (o, nx)).1.length) + (b5P p (o, nx)).2.length ≤ 2 * a3e p + 1 := by
 rw [b5Q hn]
 have h1 := a4R (a4Z (l := m8 p (nx.getD 0 [])) h.nd) fun y hy => (a2t.1 hy).elim (h.un y) b0H
 have h2 := (b3Q o (m8 p (nx.getD 0 []))).1
 simp only [List.length_append, List.length_drop, a3e] at *
 omega
@[go_sem] theorem c5E (l o : List (List UInt8)) : l ++ List.drop o.length o = l := by simp
def a5J : ACode := q' ([o' 2 (.box 2 (.t 0)), o' 4 (.mov (.k (.v false [.nl [.s []]])))]) (q' ([o' 12 (.bsl 1 0 [.s] []), m' 5 12]) (q' ([m' 13 1, o' 14 (.bsl 1 1 [.s] [(0, .t
 13)]), m' 6 14]) (.seq (.block 0 (.loop (.seq (q' ([m' 15 6, n' 16 15, o' 17 (.bin .gtr (.t 16) (k' 0))]) (.cond (.t 17) .skip (.exit 0))) (.block 1 (q' ([m'
 18 6, o' 19 (.ia 1 (.t 18) (k' 0)), l' 20 19, m' 7 20]) (q' ([m' 21 6, o' 22 (.slc 1 (.t 21) (some (k' 1)) none none), m' 6 22]) (q' ([f' 23 1 2, l' 24 23, n'
 25 24, z' 26 0]) (.block 2 (.loop (q' ([r' 27 26 25]) (.seq (.cond (.t 27) .skip (.exit 2)) (.seq (.block 3 (q' ([i' 28 4 24 26, e' 29 4 28, w' 9 [.i .i64,
 .s, .sl [.s [], .i .i64 0, .s []], .sl [.i .i64 0, .s [], .sl false [.s [], .i .i64 0, .s []] [], .i .i64 0, .s [], .i .i64 0, .s [], .s [], .i .i64 0, .s
 []]], s' 4 9 29]) (.seq (q' ([e' 30 2 2, e' 31 4 9, c' 32 79 [30, 31], o' 33 (.not (.t 32)), m' 34 33, ⟨some 35, .fa 1 (.t 9), some (34, false)⟩, ⟨some 36,
 .fa 0 (.t 35), some (34, false)⟩, ⟨some 37, .ld false 1 (.t 36), some (34, false)⟩, ⟨some 38, .mov (.t 7), some (34, false)⟩, ⟨some 39, .bin .neq (.t 37) (.t
 38), some (34, false)⟩, o' 40 (.pick (.t 34) (.k (.v false [.c (.b true)])) (.t 39))]) (.cond (.t 40) (.exit 3) .skip)) (q' ([e' 41 4 9, c' 42 168 [41], o' 43
 (.slc 2 (.t 42) (some (k' 1)) none none), n' 44 43, z' 45 0]) (.block 4 (.loop (q' ([r' 46 45 44]) (.seq (.cond (.t 46) .skip (.exit 4)) (.seq (.block 5 (q'
 ([i' 47 2 43 45, e' 48 2 47, w' 11 [.s, .sl [.s [], .i .i64 0, .s []]], s' 2 11 48]) (q' ([m' 49 5, f' 50 0 11, l' 51 50, c' 52 102 [49, 51], o' 53 (.not (.t
 52))]) (.cond (.t 53) (q' ([m' 54 5, f' 55 0 11, l' 56 55, o' 57 (.bsl 1 1 [.s] [(0, .t 56)]), o' 58 (.app 1 16 [.s] (.t 54) (.t 57)), m' 5 58]) (g' [m' 59 6,
 f' 60 0 11, l' 61 60, o' 62 (.bsl 1 1 [.s] [(0, .t 61)]), o' 63 (.app 1 16 [.s] (.t 59) (.t 62)), m' 6 63])) .skip)))) (g' [a' 64 45, m' 45 64])))))))))) (g'
 [a' 65 26, m' 26 65]))))))))))))) (q' ([m' 66 5, m' 4 66]) .ret))))
theorem b2T : cmp Tryz.prog Tryz.f99 = some a5J := by kernel_rfl
theorem b5h (p : c6) (v : List UInt8) (hpre : j7 p = true) : A0l Tryz.prog 99 [(true, [.sl false [.i .i64 0, .s [], .i .i64 0] (p.Decls.map c7.cells), .sl false [.i .i64 0, .s [], .sl false [.s [], .i .i64 0, .s []] [], .sl false [.i .i64 0, .s [], .sl false [.s [], .i .i64 0, .s []] [], .i .i64 0, .s [], .i .i64 0, .s [], .s [], .i .i64 0, .s []] []] (p.Rules.map (c4.cells false false))]), (false, [.s v])] [] (.one (false, [.sl true [.s []] ((a4d p v).map g8)])) := by
 refine spec_of2 false false none Tryz.func99 b2T (rvs := [.t 4]) (hΓ := mkCtx_ok (deep := false) (l := [(79, [], v6), (168, [], a0s), (102, [], b4b)]) ⟨a1z, a3E, b0V, trivial⟩) (h := ?_)
 intro hb hE
 simp only [go_sem] at hb
 simp only [a5J, x']
 have hU := b0P hpre
 (try refine A2V ?_); simp only [go_sem, i3]; (repeat' first | apply CJ.mk | intro hc); all_goals try ((repeat' first | apply And.intro | intro hs) <;> (try simp only [go_sem, Bool.and_eq_false_iff] at hs) <;> omega)
 refine aw_loop2 false [(false, 5, 0, 100010), (false, 6, 0, 100012)] [2] [4] [] (fun i : {k : Nat // k + 2 * (a3e p - (itF p v k).1.length) + (itF p v k).2.length ≤ 2 * a3e p + 1} => [(5, .v false [.ow 100010]), (6, .v false [.ow 100012])]) (fun i => []) (fun i => [(100010, [.s []], ((itF p v i.1).1).map g8), (100012, [.s []], ((itF p v i.1).2).map g8)]) (fun i => 2 * a3e p + 2 - i.1) (⟨0, by simp [itF]⟩) _ (by simp only [go_sem, i3]; try rfl) ?_ ?_
 ·simp only [go_sem, i3]
  all_goals first | omega | ((repeat' apply And.intro) <;> first | omega | rfl | skip)
 intro S0 hS0 i
 simp only [go_sem, i3] at hS0
 obtain ⟨k, hk⟩ := i
 obtain ⟨o, ho⟩ : ∃ o, (itF p v k).1 = o := ⟨_, rfl⟩
 obtain ⟨nx, hx⟩ : ∃ nx, (itF p v k).2 = nx := ⟨_, rfl⟩
 have hst : itF p v (k + 1) = b5P p (o, nx) := by rw [← ho, ← hx]; rfl
 have hI := b7O p v k
 have hfin : (itF p v k).2 = [] → (itF p v k).1 = a4d p v := fun h => c5t (by omega) h
 have hk2 := hk
 rw [ho, hx] at hI hfin hk2
 have hol : o.length ≤ a3e p := a4R hI.nd hI.un
 (try refine A2V ?_); simp only [go_sem, i3, hS0, ho, hx]; (repeat' first | apply CJ.mk | intro hc); all_goals try ((repeat' first | apply And.intro | intro hs) <;> (try simp only [go_sem, Bool.and_eq_false_iff] at hs) <;> omega)
 ·have hn0 : 0 < nx.length := by omega
  generalize hxx : nx.getD 0 [] = x
  clear hc
  refine aw_loop2 false [(false, 5, 0, 100010), (false, 6, 0, 100012)] [2, 7, 24, 25] [4] [] (fun i : {i : Nat // i ≤ p.Rules.length} => [(5, .v false [.ow 100010]), (6, .v false [.ow 100012]), (26, slV (.i .i64 i.1))]) (fun i => []) (fun i => [(100010, [.s []], (p6 o (t6 p x i.1)).map g8), (100012, [.s []], (nx.drop 1 ++ (p6 o (t6 p x i.1)).drop o.length).map g8)]) (fun i => p.Rules.length - i.1) (⟨0, by simp⟩) _ (by simp only [go_sem, i3, hS0, ho, hx]; try rfl) ?_ ?_
  ·simp only [go_sem, i3, hS0, ho, hx]
   all_goals first | omega | ((repeat' apply And.intro) <;> first | omega | rfl | skip)
  intro S1 hS1 i
  simp only [go_sem, i3, hS0, ho, hx] at hS1
  obtain ⟨n, hn⟩ := i
  have hF := b2i p x n
  have hA := b3Q o (t6 p x n)
  (try refine A2V ?_); simp only [go_sem, i3, hS0, ho, hx, hS1]; (repeat' first | apply CJ.mk | intro hc); all_goals try ((repeat' first | apply And.intro | intro hs) <;> (try simp only [go_sem, Bool.and_eq_false_iff] at hs) <;> omega)
  ·have hq : a1R p x (p.Rules.getD n default) = false := by
    rw [a1R]
    rcases hc with h | h
    ·rw [h]; rfl
    ·rw [h, Bool.and_false]
   (refine lpK_n2 (⟨n + 1, by omega⟩) _ (by simp only [go_sem, i3, hS0, ho, hx]; try rfl) ?_; simp only [go_sem, i3, hS0, ho, hx, hS1]; first | done | ((repeat' apply And.intro) <;> first | omega | (refine w64 ?_ ?_ ?_ <;> omega) | rfl | skip))
   all_goals rw [b9A (by omega) hq]
  ·exact a4v hpre (by omega)
  ·have := a3B (p.Rules.getD n default); omega
  ·have hq : a1R p x (p.Rules.getD n default) = true := by rw [a1R, hc.1.1, hc.1.2, hc.2]; rfl
   have hdl : ((i5 (p.Rules.getD n default)).drop 1).length ≤ 8 := by
    have h1 := a5a (p.Rules.getD n default)
    have h2 := a4v hpre (show n < p.Rules.length by omega)
    rw [List.length_drop]; omega
   clear hc
   refine aw_loop2 false [(false, 5, 0, 100010), (false, 6, 0, 100012)] [2, 7, 24, 25, 26, 43, 44] [4] [5504] (fun i : {j : Nat // j ≤ ((i5 (p.Rules.getD n default)).drop 1).length} => [(5, .v false [.ow 100010]), (6, .v false [.ow 100012]), (45, slV (.i .i64 i.1))]) (fun i => []) (fun i => [(100010, [.s []], (p6 o (t6 p x n ++ (((i5 (p.Rules.getD n default)).drop 1).take i.1).map c9.Name)).map g8), (100012, [.s []], (nx.drop 1 ++ (p6 o (t6 p x n ++ (((i5 (p.Rules.getD n default)).drop 1).take i.1).map c9.Name)).drop o.length).map g8)]) (fun i => ((i5 (p.Rules.getD n default)).drop 1).length - i.1) (⟨0, by simp⟩) _ (by simp only [go_sem, i3, hS0, ho, hx, hS1]; try rfl) ?_ ?_
   ·simp only [go_sem, i3, hS0, ho, hx, hS1]
    all_goals first | omega | ((repeat' apply And.intro) <;> first | omega | rfl | skip)
   intro S2 hS2 i
   simp only [go_sem, i3, hS0, ho, hx, hS1] at hS2
   obtain ⟨j, hj⟩ := i
   have hB := b3Q o (t6 p x n ++ (((i5 (p.Rules.getD n default)).drop 1).take j).map c9.Name)
   rw [List.length_append, List.length_map, List.length_take] at hB
   (try refine A2V ?_); simp only [go_sem, i3, hS0, ho, hx, hS1, hS2]; (repeat' first | apply CJ.mk | intro hc); all_goals try ((repeat' first | apply And.intro | intro hs) <;> (try simp only [go_sem, Bool.and_eq_false_iff] at hs) <;> omega)
   all_goals first
    | ((try simp only [List.length_append, List.length_drop]); omega)
    | (have hm : ((((i5 (p.Rules.getD n default)).drop 1).getD j default).Name) ∈ p6 o (t6 p x n ++ (((i5 (p.Rules.getD n default)).drop 1).take j).map c9.Name) := List.contains_iff_mem.1 hc
       (refine lpK_n2 (⟨j + 1, by omega⟩) _ (by simp only [go_sem, i3, hS0, ho, hx, hS1]; try rfl) ?_; simp only [go_sem, i3, hS0, ho, hx, hS1, hS2]; first | done | ((repeat' apply And.intro) <;> first | omega | (refine w64 ?_ ?_ ?_ <;> omega) | rfl | skip))
       all_goals rw [a8B (by omega), ← List.append_assoc, b7y hm]
       done)
    | (have hm : ¬ ((((i5 (p.Rules.getD n default)).drop 1).getD j default).Name) ∈ p6 o (t6 p x n ++ (((i5 (p.Rules.getD n default)).drop 1).take j).map c9.Name) := fun h => by rw [List.contains_iff_mem.2 h] at hc; cases hc
       (refine lpK_n2 (⟨j + 1, by omega⟩) _ (by simp only [go_sem, i3, hS0, ho, hx, hS1]; try rfl) ?_; simp only [go_sem, i3, hS0, ho, hx, hS1, hS2]; first | done | ((repeat' apply And.intro) <;> first | omega | (refine w64 ?_ ?_ ?_ <;> omega) | rfl | skip))
       all_goals rw [a8B (by omega), ← List.append_assoc, b5Z hm]
       all_goals first | done | rw [List.drop_append_of_le_length (by omega), ← List.append_assoc] | trace_state)
    | (have he : t6 p x n ++ (((i5 (p.Rules.getD n default)).drop 1).take j).map c9.Name = t6 p x (n + 1) := by rw [f9 (by omega), b7k (by omega) hq]; rfl
       rw [he]
       (refine lpK_n2 (⟨n + 1, by omega⟩) _ (by simp only [go_sem, i3, hS0, ho, hx, hS1]; try rfl) ?_; simp only [go_sem, i3, hS0, ho, hx, hS1, hS2]; first | done | ((repeat' apply And.intro) <;> first | omega | (refine w64 ?_ ?_ ?_ <;> omega) | rfl | skip))
       first | done | trace_state)
    | trace_state
  ·have he : t6 p x n = m8 p x := b2h (by omega)
   have hms := step_ms hI hk2 hn0
   have h1 : (itF p v (k + 1)).1 = p6 o (t6 p x n) := by rw [hst, b5Q hn0, hxx, he]
   have h2 : (itF p v (k + 1)).2 = nx.drop 1 ++ (p6 o (t6 p x n)).drop o.length := by rw [hst, b5Q hn0, hxx, he]
   (refine lpK_n2 (⟨k + 1, by rw [hst]; exact hms⟩) _ (by simp only [go_sem, i3, hS0, ho, hx, hS1]; try rfl) ?_; simp only [go_sem, i3, hS0, ho, hx, hS1]; first | done | ((repeat' apply And.intro) <;> first | omega | (refine w64 ?_ ?_ ?_ <;> omega) | rfl | skip))
   all_goals first | rw [h1] | rw [h2] | omega
 ·rw [hfin (List.length_eq_zero_iff.1 (by omega))]
noncomputable def a2E : CT := p4 (fun (x : c6 × (List UInt8)) h => b5h x.1 x.2 h)
@[go_sem] theorem c1M (x0 : List c7) (x1 : List c4) (v : List UInt8) : a2E [(true, [.sl false [.i .i64 0, .s [], .i .i64 0] (x0.map c7.cells), .sl false [.i .i64 0, .s [], .sl false [.s [], .i .i64 0, .s []] [], .sl false [.i .i64 0, .s [], .sl false [.s [], .i .i64 0, .s []] [], .i .i64 0, .s [], .i .i64 0, .s [], .s [], .i .i64 0, .s []] []] (x1.map (c4.cells false false))]), (false, [.s v])] = some (j7 (c6.mk x0 x1) = true, [], .one (false, [.sl true [.s []] ((a4d (c6.mk x0 x1) v).map g8)])) := i6 _ (by rintro ⟨⟨_, _⟩, _⟩ ⟨⟨_, _⟩, _⟩ h; simp at h; simp_all) ((c6.mk x0 x1), v)
theorem a9A : OkC Tryz.prog 99 a2E := i7 _
theorem c5k {p : c6} {a b : List UInt8} (h : ((g9 p).1 == 0) = false) : a0H p a b = false := by rw [a0H, h]; rfl
theorem c3N {p : c6} {a b : List UInt8} (h : ((g9 p).1 == 0) = true) : a0H p a b = (a4d p a).contains b := by
 rw [a0H, h, Bool.true_and, a9T (b5F.trans c1o.symm)]
theorem c1l {p : c6} {a b : List UInt8} (h : ((g9 p).1 == 0) = true) {l : List (List UInt8)} (h1 : ∀ x ∈ l, Rch p a x) (h2 : ∀ x ∈ m8 p a, x ∈ l) (h3 : ∀ x ∈ l, ∀ y ∈ m8 p x, y ∈ l) : a0H p a b = l.contains b := by
 rw [a0H, h, Bool.true_and, a9T (b5F.trans ⟨fun h => h.mem h2 h3, fun h => h1 _ h⟩)]
theorem c5p {p : c6} (h : j7 p = true) (a : List UInt8) : (j1 sLt [] (m8 p a)).length ≤ 192 := by
 have h1 := u4 sLt (m8 p a) []
 have h2 := b2i p a p.Rules.length
 rw [b2h (by omega)] at h2
 have h3 := b0P h
 simp only [List.length_nil] at h1
 omega
theorem c2s {p : c6} (hB : j7 p = true) {a : List UInt8} {l : List (List UInt8)} (hs : SS sLt l) (h : ∀ x ∈ l, Rch p a x) : l.length ≤ 192 :=
 Nat.le_trans (a4R (hs.nodup j3) fun x hx => (h x hx).all) (b0P hB)
def a8p : ACode := q' ([o' 3 (.box 2 (.t 0)), b' 6 false]) (q' ([e' 16 2 3, c' 17 62 [16], m' 15 17, o' 18 (.ext (.t 15) 0), o' 19 (.ext (.t 15) 1), m' 7 18, m' 8 19]) (.seq (q'
 ([m' 20 7, o' 21 (.bin .neq (.t 20) (k' 0))]) (.cond (.t 21) (q' ([b' 6 false]) .ret) .skip)) (q' ([e' 22 2 3, m' 23 1, c' 24 167 [22, 23], m' 9 24]) (.seq
 (q' ([o' 10 (.mov (.k (.v false [.c (.i .i64 (-1))])))]) (.block 0 (.loop (.seq (q' ([m' 25 10, m' 26 9, n' 27 26, r' 28 25 27]) (.cond (.t 28) .skip (.exit
 0))) (.block 1 (q' ([m' 29 9, n' 30 29, m' 10 30]) (q' ([m' 31 9, n' 32 31, z' 33 0]) (.block 2 (.loop (q' ([r' 34 33 32]) (.seq (.cond (.t 34) .skip (.exit
 2)) (.seq (.block 3 (q' ([i' 35 1 31 33, l' 36 35, m' 12 36]) (q' ([e' 37 2 3, m' 38 12, c' 39 167 [37, 38], n' 40 39, z' 41 0]) (.block 4 (.loop (q' ([r' 42
 41 40]) (.seq (.cond (.t 42) .skip (.exit 4)) (.seq (.block 5 (q' ([i' 43 1 39 41, l' 44 43, m' 14 44]) (g' [m' 45 9, m' 46 14, c' 47 98 [45, 46], m' 9 47])))
 (g' [a' 48 41, m' 41 48]))))))))) (g' [a' 49 33, m' 33 49]))))))))))))) (q' ([m' 50 9, m' 51 2, c' 52 153 [50, 51], m' 6 52]) .ret)))))
theorem b6i : cmp Tryz.prog Tryz.f97 = some a8p := by kernel_rfl
theorem b8b (p : c6) (a : List UInt8) (b : List UInt8) : A0l Tryz.prog 97 [(true, [.sl false [.i .i64 0, .s [], .i .i64 0] (p.Decls.map c7.cells), .sl false [.i .i64 0, .s [], .sl false [.s [], .i .i64 0, .s []] [], .sl false [.i .i64 0, .s [], .sl false [.s [], .i .i64 0, .s []] [], .i .i64 0, .s [], .i .i64 0, .s [], .s [], .i .i64 0, .s []] []] (p.Rules.map (c4.cells false false))]), (false, [.s a]), (false, [.s b])] [] (.one (false, [.b (a0H p a b)])) := by
 refine spec_of2 false false none Tryz.func97 b6i (rvs := [.t 6]) (hΓ := mkCtx_ok (deep := false) (l := [(62, [], s8), (167, [], a2Y), (98, [], a1t), (153, [], z6)]) ⟨w5, a9R, a4M, a0Z, trivial⟩) (h := ?_)
 intro hb hE
 simp only [go_sem] at hb
 simp only [a8p, x']
 (try refine A2V ?_); simp only [go_sem]; (repeat' first | apply CJ.mk | intro hc); all_goals try ((repeat' first | apply And.intro | intro hs) <;> (try simp only [go_sem, Bool.and_eq_false_iff] at hs) <;> omega)
 ·rw [c5k (by simpa [bne] using hc)]
 ·exact a1c (by simpa [bne] using hc)
 have hN : ((g9 p).1 == 0) = true := by simpa [bne] using hc
 have hB := a1c hN
 clear hc
 refine aw_loop2 false [] [2, 3] [6] [] (fun i : {q : Int × List (List UInt8) // -1 ≤ q.1 ∧ q.1 ≤ q.2.length ∧ SS sLt q.2 ∧ (∀ x ∈ q.2, Rch p a x) ∧ (∀ x ∈ m8 p a, x ∈ q.2) ∧ (q.1 = q.2.length → ∀ x ∈ q.2, ∀ y ∈ m8 p x, y ∈ q.2)} => [(9, .v false [.c (.sl false [.s []] (i.1.2.map g8))]), (10, slV (.i .i64 i.1.1))]) (fun i => []) (fun i => []) (fun i => (200 - i.1.1).toNat) (⟨(-1, j1 sLt [] (m8 p a)), by simp, by simp only; omega, SS.puts j3 SS.nil, fun x hx => .one (by simpa [m7] using hx), fun x hx => m7.2 (.inr hx), by intro h; simp only at h; omega⟩) _ rfl ?_ ?_
 ·simp only [go_sem]
  all_goals first | omega | ((repeat' apply And.intro) <;> first | omega | rfl | skip)
 intro S0 hS0 i
 simp only [go_sem] at hS0
 obtain ⟨⟨m, l⟩, hm1, hm2, hs, hR, hI, hC⟩ := i
 simp only at hm1 hm2 hs hR hI hC
 have hl := c2s hB hs hR
 (try refine A2V ?_); simp only [go_sem, hS0]; (repeat' first | apply CJ.mk | intro hc); all_goals try ((repeat' first | apply And.intro | intro hs) <;> (try simp only [go_sem, Bool.and_eq_false_iff] at hs) <;> omega)
 ·have hml := hc
  clear hc
  refine aw_loop2 false [] [2, 3, 10, 31, 32] [6] [] (fun i : {q : Nat × List (List UInt8) // q.1 ≤ l.length ∧ SS sLt q.2 ∧ (∀ x ∈ q.2, Rch p a x) ∧ (∀ x ∈ l, x ∈ q.2) ∧ l.length ≤ q.2.length ∧ (q.2.length = l.length → q.2 = l ∧ ∀ x ∈ l.take q.1, ∀ y ∈ m8 p x, y ∈ l)} => [(9, .v false [.c (.sl false [.s []] (i.1.2.map g8))]), (33, slV (.i .i64 i.1.1))]) (fun i => []) (fun i => []) (fun i => l.length - i.1.1) (⟨(0, l), by simp, hs, hR, fun x hx => hx, Nat.le_refl _, fun _ => ⟨rfl, by simp⟩⟩) _ rfl ?_ ?_
  ·simp only [go_sem, hS0]
   all_goals first | omega | ((repeat' apply And.intro) <;> first | omega | rfl | skip)
  intro S1 hS1 i
  simp only [go_sem, hS0] at hS1
  obtain ⟨⟨n, l1⟩, hn, hs1, hR1, hI1, hl1, hC1⟩ := i
  simp only at hn hs1 hR1 hI1 hl1 hC1
  have hll1 := c2s hB hs1 hR1
  have hyl := c5p hB (l.getD n [])
  (try refine A2V ?_); simp only [go_sem, hS0, hS1]; (repeat' first | apply CJ.mk | intro hc); all_goals try ((repeat' first | apply And.intro | intro hs) <;> (try simp only [go_sem, Bool.and_eq_false_iff] at hs) <;> omega)
  ·have hnl := hc
   clear hc
   generalize hys : j1 sLt [] (m8 p (l.getD n [])) = ys at hyl ⊢
   refine aw_loop2 false [] [2, 3, 10, 31, 32, 33, 39, 40] [6] [] (fun i : {j : Nat // j ≤ ys.length} => [(9, .v false [.c (.sl false [.s []] ((j1 sLt l1 (ys.take i.1)).map g8))]), (41, slV (.i .i64 i.1))]) (fun i => []) (fun i => []) (fun i => ys.length - i.1) (⟨0, by simp⟩) _ rfl ?_ ?_
   ·simp only [go_sem, hS0, hS1]
    all_goals first | omega | ((repeat' apply And.intro) <;> first | omega | rfl | skip)
   intro S2 hS2 i
   simp only [go_sem, hS0, hS1] at hS2
   obtain ⟨j, hj⟩ := i
   have h2 := u4 sLt (ys.take j) l1
   rw [List.length_take] at h2
   (try refine A2V ?_); simp only [go_sem, hS0, hS1, hS2]; (repeat' first | apply CJ.mk | intro hc); all_goals try ((repeat' first | apply And.intro | intro hs) <;> (try simp only [go_sem, Bool.and_eq_false_iff] at hs) <;> omega)
   all_goals first
    | omega
    | ((refine lpK_n2 (⟨j + 1, by omega⟩) _ rfl ?_; simp only [go_sem, hS0, hS1, hS2]; first | done | ((repeat' apply And.intro) <;> first | omega | (refine w64 ?_ ?_ ?_ <;> omega) | rfl | skip)); rw [i4 [] (by omega), a7H]; done)
    | (have he : ys.take j = ys := f9 (by omega)
       have hmy : ∀ y, y ∈ ys ↔ y ∈ m8 p (l.getD n []) := fun y => by rw [← hys, m7]; simp
       have hx : Rch p a (l.getD n []) := hR _ (A3l (by omega))
       have g1 : ∀ y ∈ j1 sLt l1 ys, Rch p a y := fun y hy => (m7.1 hy).elim (hR1 y) fun hy => .step hx ((hmy y).1 hy)
       have g2 := b8g sLt ys l1
       have g3 : (j1 sLt l1 ys).length = l.length → j1 sLt l1 ys = l ∧ ∀ x ∈ l.take (n + 1), ∀ y ∈ m8 p x, y ∈ l := fun e => by
        have e1 := b7l (lt := sLt) (r := ys) (l := l1) (by omega)
        have e2 := hC1 (by omega)
        refine ⟨e1.1.trans e2.1, fun x hx y hy => ?_⟩
        rw [i4 [] (by omega), List.mem_append, List.mem_singleton] at hx
        rcases hx with hx | rfl
        ·exact e2.2 x hx y hy
        ·rw [← e2.1]; exact e1.2 y ((hmy y).2 hy)
       rw [he]
       (refine lpK_n2 (⟨(n + 1, j1 sLt l1 ys), by simp only; omega, SS.puts j3 hs1, g1, fun x hx => m7.2 (.inl (hI1 x hx)), by simp only; omega, g3⟩) _ rfl ?_; simp only [go_sem, hS0, hS1, hS2]; first | done | ((repeat' apply And.intro) <;> first | omega | (refine w64 ?_ ?_ ?_ <;> omega) | rfl | skip))
       first | done | trace_state)
    | trace_state
  ·have g : (l.length : Int) = l1.length → ∀ x ∈ l1, ∀ y ∈ m8 p x, y ∈ l1 := fun e => by
    have e2 := hC1 (by omega)
    have e3 := e2.2
    rw [f9 (by omega)] at e3
    rw [e2.1]; exact e3
   (refine lpK_n2 (⟨((l.length : Int), l1), by simp only; omega, by simp only; omega, hs1, hR1, fun x hx => hI1 x (hI x hx), g⟩) _ rfl ?_; simp only [go_sem, hS0, hS1]; first | done | ((repeat' apply And.intro) <;> first | omega | (refine w64 ?_ ?_ ?_ <;> omega) | rfl | skip))
   all_goals first | omega | done | trace_state
 ·rw [c1l hN hR hI (hC (by omega))]
noncomputable def a5p : CT := i8 (fun (x : c6 × (List UInt8) × (List UInt8)) => b8b x.1 x.2.1 x.2.2)
@[go_sem] theorem c4m (x0 : List c7) (x1 : List c4) (a b : List UInt8) : a5p [(true, [.sl false [.i .i64 0, .s [], .i .i64 0] (x0.map c7.cells), .sl false [.i .i64 0, .s [], .sl false [.s [], .i .i64 0, .s []] [], .sl false [.i .i64 0, .s [], .sl false [.s [], .i .i64 0, .s []] [], .i .i64 0, .s [], .i .i64 0, .s [], .s [], .i .i64 0, .s []] []] (x1.map (c4.cells false false))]), (false, [.s a]), (false, [.s b])] = some (True, [], .one (false, [.b (a0H (c6.mk x0 x1) a b)])) := f5 _ (by rintro ⟨⟨_, _⟩, _, _⟩ ⟨⟨_, _⟩, _, _⟩ h; simp at h; simp_all) ((c6.mk x0 x1), a, b)
theorem b2I : OkC Tryz.prog 97 a5p := f7 _
end Go.Aw
