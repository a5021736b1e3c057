/- What a view leans on. No condition. -/
import Derived.Test.YthlbadfickhkfaaGreatzgT2
import Derived.Test.YthlbadfickhkfaaGreatzgT7
namespace Go.Aw
open Go.Proofs
attribute [local irreducible] aft blk lpK retK AW A0l
set_option linter.unusedVariables false
set_option linter.unusedSimpArgs false
set_option maxRecDepth 100000
def bodyN (r : c6) : List (List UInt8) := ((k8 r).drop 1).map d5.Name
def c8E (p : c7) (a : List UInt8) (r : c6) : Bool := (r.Kind == 1 && v5 p r.Head.Name == 3) && r.Head.Name == a
def a2p (p : c7) (a : List UInt8) : List (List UInt8) := (p.Rules.filter (c8E p a)).flatMap bodyN
inductive Rch (p : c7) (a : List UInt8) : List UInt8 → Prop
 | one {b : List UInt8} : b ∈ a2p p a → Rch p a b
 | step {b c : List UInt8} : Rch p a b → c ∈ a2p p b → Rch p a c
def b9r (p : c7) : List (List UInt8) := p.Rules.flatMap bodyN
theorem b7K {p : c7} {a b : List UInt8} (h : b ∈ a2p p a) : b ∈ b9r p := by
 obtain ⟨r, hr, hb⟩ := List.mem_flatMap.1 h
 exact List.mem_flatMap.2 ⟨r, (List.mem_filter.1 hr).1, hb⟩
theorem Rch.all {p : c7} {a b : List UInt8} (h : Rch p a b) : b ∈ b9r p := by
 cases h with
 | one h => exact b7K h
 | step _ h => exact b7K h
theorem Rch.mem {p : c7} {a : List UInt8} {l : List (List UInt8)} (h1 : ∀ x ∈ a2p p a, x ∈ l) (h2 : ∀ x ∈ l, ∀ y ∈ a2p p x, y ∈ l) {b : List UInt8} (h : Rch p a b) : b ∈ l := by
 induction h with
 | one h => exact h1 _ h
 | step _ h ih => exact h2 _ ih _ h
open Classical in
noncomputable def reachS (p : c7) (a : List UInt8) : List (List UInt8) := (j8 sLt [] (b9r p)).filter fun v => decide (Rch p a v)
noncomputable def leans (p : c7) (a b : List UInt8) : Bool := (i4 p).1 == 0 && (reachS p a).contains b
def a4Z (o l : List (List UInt8)) : List (List UInt8) := l.foldl (fun o y => if y ∈ o then o else o ++ [y]) o
theorem b5H : ∀ (l o : List (List UInt8)), ∃ s, a4Z o l = o ++ s ∧ (∀ x ∈ s, x ∈ l)
 | [], o => ⟨[], by simp [a4Z], by simp⟩
 | y :: l, o => by
   by_cases h : y ∈ o
   ·obtain ⟨s, e, hs⟩ := b5H l o
    exact ⟨s, by rw [← e]; simp [a4Z, h], fun x hx => List.mem_cons_of_mem _ (hs x hx)⟩
   ·obtain ⟨s, e, hs⟩ := b5H l (o ++ [y])
    refine ⟨y :: s, ?_, ?_⟩
    ·have : a4Z o (y :: l) = a4Z (o ++ [y]) l := by simp [a4Z, h]
     rw [this, e]; simp
    ·intro x hx
     rcases List.mem_cons.1 hx with rfl | hx
     ·simp
     ·exact List.mem_cons_of_mem _ (hs x hx)
theorem a5a {l o : List (List UInt8)} {x : List UInt8} : x ∈ a4Z o l ↔ x ∈ o ∨ x ∈ l := by
 induction l generalizing o with
 | nil => simp [a4Z]
 | cons y l ih =>
   have e : a4Z o (y :: l) = a4Z (if y ∈ o then o else o ++ [y]) l := rfl
   rw [e, ih]
   by_cases h : y ∈ o
   ·simp only [h, if_true, List.mem_cons]
    constructor
    ·rintro (h1 | h1); exact .inl h1; exact .inr (.inr h1)
    ·rintro (h1 | rfl | h1); exact .inl h1; exact .inl h; exact .inr h1
   ·rw [if_neg h, List.mem_append, List.mem_singleton, List.mem_cons, or_assoc]
theorem a9J : ∀ {l o : List (List UInt8)}, o.Nodup → (a4Z o l).Nodup
 | [], o, h => h
 | y :: l, o, h => by
   have e : a4Z o (y :: l) = a4Z (if y ∈ o then o else o ++ [y]) l := rfl
   rw [e]
   by_cases hy : y ∈ o
   ·rw [if_pos hy]; exact a9J h
   ·rw [if_neg hy]
    refine a9J (List.nodup_append.2 ⟨h, by simp, ?_⟩)
    intro a ha b hb
    rw [List.mem_singleton] at hb
    rintro rfl
    exact hy (hb ▸ ha)
def univ (p : c7) : Nat := (b9r p).length
structure FInv (p : c7) (v : List UInt8) (k : Nat) (o n : List (List UInt8)) : Prop where
 nd : o.Nodup
 un : ∀ x ∈ o, x ∈ b9r p
 ok : ∀ x ∈ o, Rch p v x
 nx : ∀ x ∈ n, x = v ∨ x ∈ o
 cl : ∀ x, x = v ∨ x ∈ o → x ∈ n ∨ ∀ y ∈ a2p p x, y ∈ o
 ms : n = [] ∨ k + 2 * (univ p - o.length) + n.length ≤ 2 * univ p + 1
theorem b9J {α : Type} [DecidableEq α] : ∀ {l m : List α}, l.Nodup → (∀ x ∈ l, x ∈ m) → l.length ≤ m.length
 | [], _, _, _ => Nat.zero_le _
 | x :: l, m, h, hm => by
   rw [List.nodup_cons] at h
   have h1 := b9J (l := l) (m := m.erase x) h.2 fun y hy => (List.mem_erase_of_ne (fun e => h.1 (by rw [← e]; exact hy))).2 (hm y (by simp [hy]))
   have h2 := List.length_erase_of_mem (hm x (by simp))
   have h3 : 0 < m.length := List.length_pos_of_mem (hm x (by simp))
   simp only [List.length_cons]; omega
theorem FInv.step {p : c7} {v : List UInt8} {k : Nat} {o r : List (List UInt8)} {x : List UInt8} (h : FInv p v k o (x :: r)) : FInv p v (k + 1) (a4Z o (a2p p x)) (r ++ (a4Z o (a2p p x)).drop o.length) := by
 obtain ⟨s, e, hs⟩ := b5H (a2p p x) o
 have hd : (a4Z o (a2p p x)).drop o.length = s := by rw [e]; simp
 have hx : x = v ∨ Rch p v x := (h.nx x (by simp)).imp id (h.ok x)
 have hR : ∀ y ∈ a2p p x, Rch p v y := fun y hy => by
  rcases hx with rfl | hx
  ·exact .one hy
  ·exact .step hx hy
 have hun : ∀ y ∈ a4Z o (a2p p x), y ∈ b9r p := fun y hy => (a5a.1 hy).elim (h.un y) b7K
 have hnd := a9J (l := a2p p x) h.nd
 refine ⟨hnd, hun, fun y hy => (a5a.1 hy).elim (h.ok y) (hR y), ?_, ?_, ?_⟩
 ·intro y hy
  rw [hd] at hy
  rcases List.mem_append.1 hy with hy | hy
  ·exact (h.nx y (by simp [hy])).imp id fun hy => a5a.2 (.inl hy)
  ·exact .inr (a5a.2 (.inr (hs y hy)))
 ·intro y hy
  rw [hd]
  have old : y = v ∨ y ∈ o → y ∈ r ++ s ∨ ∀ z ∈ a2p p y, z ∈ a4Z o (a2p p x) := by
   intro hy
   rcases h.cl y hy with h1 | h1
   ·rcases List.mem_cons.1 h1 with rfl | h1
    ·exact .inr fun z hz => a5a.2 (.inr hz)
    ·exact .inl (List.mem_append.2 (.inl h1))
   ·exact .inr fun z hz => a5a.2 (.inl (h1 z hz))
  rcases hy with hy | hy
  ·exact old (.inl hy)
  ·rw [e] at hy
   rcases List.mem_append.1 hy with hy | hy
   ·exact old (.inr hy)
   ·exact .inl (List.mem_append.2 (.inr hy))
 ·right
  have h1 := b9J hnd hun
  have h2 : (a4Z o (a2p p x)).length = o.length + s.length := by rw [e, List.length_append]
  have h3 := h.ms.resolve_left (by simp)
  rw [hd]
  simp only [List.length_cons, List.length_append, univ] at h1 h3 ⊢
  omega
theorem c1r {p : c7} (h : l4 p = true) {i : Nat} (hi : i < p.Rules.length) : (p.Rules.getD i default).Body.length ≤ 8 := c1R h (A3l hi)
def nextF (p : c7) (a : List UInt8) (n : Nat) : List (List UInt8) := ((p.Rules.take n).filter (c8E p a)).flatMap bodyN
@[go_sem] theorem nextF_zero (p : c7) (a : List UInt8) : nextF p a 0 = [] := rfl
@[go_sem] theorem putsN_nil (l : List (List UInt8)) : j8 sLt l [] = l := rfl
@[go_sem] theorem addL_nil (o : List (List UInt8)) : a4Z o [] = o := rfl
theorem a6l {p : c7} (h : ((i4 p).1 == 0) = true) : l4 p = true := by
 cases hB : l4 p with
 | true => rfl
 | false => rw [a1x hB] at h; simp at h
def a2C : ACode := q' ([o' 2 (.box 2 (.t 0)), o' 3 (.box 4 (.t 1)), b' 4 false]) (q' ([f' 5 0 3, l' 6 5, o' 7 (.bin .eql (.t 6) (k' 1)), m' 8 7, ⟨some 9, .ld true 2 (.t 2), some
 (8, true)⟩, ⟨some 10, .fa 1 (.t 3), some (8, true)⟩, ⟨some 11, .fa 0 (.t 10), some (8, true)⟩, ⟨some 12, .ld false 1 (.t 11), some (8, true)⟩, ⟨some 13, .call
 82 [.t 9, .t 12], some (8, true)⟩, ⟨some 14, .bin .eql (.t 13) (k' 3), some (8, true)⟩, o' 15 (.pick (.t 8) (.t 14) (.k (.v false [.c (.b false)]))), m' 4
 15]) .ret)
theorem b0o : cmp Tryz.prog Tryz.f79 = some a2C := by kernel_rfl
theorem b1O (p : c7) (r : c6) : A0l Tryz.prog 79 [(true, [.sl false [.i .i64 0, .s [], .i .i64 0] (p.Decls.map c8.cells), .sl false [.i .i64 0, .s [], .sl false [.s [], .i .i64 0, .s []] [], .sl false [.i .i64 0, .s [], .sl false [.s [], .i .i64 0, .s []] [], .i .i64 0, .s [], .i .i64 0, .s [], .s [], .i .i64 0, .s []] []] (p.Rules.map (c6.cells false false))]), (true, [.i .i64 r.Kind, .s r.Head.Name, .sl false [.s [], .i .i64 0, .s []] (r.Head.Args.map c4.cells), .sl false [.i .i64 0, .s [], .sl false [.s [], .i .i64 0, .s []] [], .i .i64 0, .s [], .i .i64 0, .s [], .s [], .i .i64 0, .s []] (r.Body.map (d3.cells false false))])] [] (.one (false, [.b (r.Kind == 1 && v5 p r.Head.Name == 3)])) := by
 refine spec_of2 false false none Tryz.func79 b0o (rvs := [.t 4]) (hΓ := mkCtx_ok (deep := false) (l := [(82, [], v8)]) ⟨y9, trivial⟩) (h := ?_)
 intro hb hE
 simp only [go_sem] at hb
 simp only [a2C, x']
 (try refine A2V ?_); simp only [go_sem]; (repeat' first | apply CJ.mk | intro hc); all_goals try ((repeat' first | apply And.intro | intro hs) <;> (try simp only [go_sem, Bool.and_eq_false_iff] at hs) <;> omega)
 all_goals (first | rfl | (rw [hc]; rfl) | trace_state)
noncomputable def a0x : CT := i5 (fun (x : c7 × c6) => b1O x.1 x.2)
@[go_sem] theorem c1w (x0 : List c8) (x1 : List c6) (x2 : Int) (x3 : List UInt8) (x4 : List c4) (x5 : List d3) : a0x [(true, [.sl false [.i .i64 0, .s [], .i .i64 0] (x0.map c8.cells), .sl false [.i .i64 0, .s [], .sl false [.s [], .i .i64 0, .s []] [], .sl false [.i .i64 0, .s [], .sl false [.s [], .i .i64 0, .s []] [], .i .i64 0, .s [], .i .i64 0, .s [], .s [], .i .i64 0, .s []] []] (x1.map (c6.cells false false))]), (true, [.i .i64 x2, .s x3, .sl false [.s [], .i .i64 0, .s []] (x4.map c4.cells), .sl false [.i .i64 0, .s [], .sl false [.s [], .i .i64 0, .s []] [], .i .i64 0, .s [], .i .i64 0, .s [], .s [], .i .i64 0, .s []] (x5.map (d3.cells false false))])] = some (True, [], .one (false, [.b ((c6.mk x2 (d5.mk x3 x4) x5).Kind == 1 && v5 (c7.mk x0 x1) (c6.mk x2 (d5.mk x3 x4) x5).Head.Name == 3)])) := f7 _ (by rintro ⟨⟨_, _⟩, ⟨_, ⟨_, _⟩, _⟩⟩ ⟨⟨_, _⟩, ⟨_, ⟨_, _⟩, _⟩⟩ h; simp at h; simp_all) ((c7.mk x0 x1), (c6.mk x2 (d5.mk x3 x4) x5))
theorem a8m : OkC Tryz.prog 79 a0x := f8 _
def a2D : ACode := q' ([o' 1 (.box 2 (.t 0)), b' 2 false]) (q' ([e' 6 2 1, c' 7 138 [6], m' 5 7, o' 8 (.ext (.t 5) 0), o' 9 (.ext (.t 5) 1), m' 3 8, m' 4 9]) (q' ([m' 10 3, o' 11
 (.bin .eql (.t 10) (k' 0)), m' 2 11]) .ret))
theorem b0p : cmp Tryz.prog Tryz.f66 = some a2D := by kernel_rfl
theorem b1P (p : c7) : A0l Tryz.prog 66 [(true, [.sl false [.i .i64 0, .s [], .i .i64 0] (p.Decls.map c8.cells), .sl false [.i .i64 0, .s [], .sl false [.s [], .i .i64 0, .s []] [], .sl false [.i .i64 0, .s [], .sl false [.s [], .i .i64 0, .s []] [], .i .i64 0, .s [], .i .i64 0, .s [], .s [], .i .i64 0, .s []] []] (p.Rules.map (c6.cells false false))])] [] (.one (false, [.b ((i4 p).1 == 0)])) := by
 refine spec_of2 false false none Tryz.func66 b0p (rvs := [.t 2]) (hΓ := mkCtx_ok (deep := false) (l := [(138, [], a0r)]) ⟨a8i, trivial⟩) (h := ?_)
 intro hb hE
 simp only [go_sem] at hb
 simp only [a2D, x']
 (try refine A2V ?_); simp only [go_sem]; (repeat' first | apply CJ.mk | intro hc); all_goals try ((repeat' first | apply And.intro | intro hs) <;> (try simp only [go_sem, Bool.and_eq_false_iff] at hs) <;> omega)
 all_goals (first | rfl | trace_state)
noncomputable def w5 : CT := i5 (fun (x : c7) => b1P x)
@[go_sem] theorem c1x (x0 : List c8) (x1 : List c6) : w5 [(true, [.sl false [.i .i64 0, .s [], .i .i64 0] (x0.map c8.cells), .sl false [.i .i64 0, .s [], .sl false [.s [], .i .i64 0, .s []] [], .sl false [.i .i64 0, .s [], .sl false [.s [], .i .i64 0, .s []] [], .i .i64 0, .s [], .i .i64 0, .s [], .s [], .i .i64 0, .s []] []] (x1.map (c6.cells false false))])] = some (True, [], .one (false, [.b ((i4 (c7.mk x0 x1)).1 == 0)])) := f7 _ (by rintro ⟨_, _⟩ ⟨_, _⟩ h; simp at h; simp_all) (c7.mk x0 x1)
theorem a1B : OkC Tryz.prog 66 w5 := f8 _
@[go_sem] theorem c8S (l o : List (List UInt8)) : l ++ List.drop o.length o = l := by simp
end Go.Aw
