/- What a view leans on. No condition. -/
import Derived.Test.YthlbadfickhkfaaGreatzdT2
import Derived.Test.YthlbadfickhkfaaGreatzdT7
namespace Go.Aw
open Go.Proofs
attribute [local irreducible] aft blk lpK retK AW A0l
set_option linter.unusedVariables false
set_option linter.unusedSimpArgs false
set_option maxRecDepth 100000
def bodyN (r : GRule) : List (List UInt8) := ((g9 r).drop 1).map GAtom.Name
def c3X (p : GProgram) (a : List UInt8) (r : GRule) : Bool := (r.Kind == 1 && l3 p r.Head.Name == 3) && r.Head.Name == a
def a1r (p : GProgram) (a : List UInt8) : List (List UInt8) := (p.Rules.filter (c3X p a)).flatMap bodyN
inductive Rch (p : GProgram) (a : List UInt8) : List UInt8 → Prop
 | one {b : List UInt8} : b ∈ a1r p a → Rch p a b
 | step {b c : List UInt8} : Rch p a b → c ∈ a1r p b → Rch p a c
def b5H (p : GProgram) : List (List UInt8) := p.Rules.flatMap bodyN
theorem b4r {p : GProgram} {a b : List UInt8} (h : b ∈ a1r p a) : b ∈ b5H p := by
 obtain ⟨r, hr, hb⟩ := List.mem_flatMap.1 h
 exact List.mem_flatMap.2 ⟨r, (List.mem_filter.1 hr).1, hb⟩
theorem Rch.all {p : GProgram} {a b : List UInt8} (h : Rch p a b) : b ∈ b5H p := by
 cases h with
 | one h => exact b4r h
 | step _ h => exact b4r h
theorem Rch.mem {p : GProgram} {a : List UInt8} {l : List (List UInt8)} (h1 : ∀ x ∈ a1r p a, x ∈ l) (h2 : ∀ x ∈ l, ∀ y ∈ a1r p x, y ∈ l) {b : List UInt8} (h : Rch p a b) : b ∈ l := by
 induction h with
 | one h => exact h1 _ h
 | step _ h ih => exact h2 _ ih _ h
open Classical in
noncomputable def reachS (p : GProgram) (a : List UInt8) : List (List UInt8) := (f9 sLt [] (b5H p)).filter fun v => decide (Rch p a v)
open Classical in
noncomputable def leans (p : GProgram) (a b : List UInt8) : Bool := (c7 p).1 == 0 && (reachS p a).contains b
def a3C (o l : List (List UInt8)) : List (List UInt8) := l.foldl (fun o y => if y ∈ o then o else o ++ [y]) o
theorem b2C : ∀ (l o : List (List UInt8)), ∃ s, a3C o l = o ++ s ∧ (∀ x ∈ s, x ∈ l)
 | [], o => ⟨[], by simp [a3C], by simp⟩
 | y :: l, o => by
  by_cases h : y ∈ o
  ·obtain ⟨s, e, hs⟩ := b2C l o
   exact ⟨s, by rw [← e]; simp [a3C, h], fun x hx => List.mem_cons_of_mem _ (hs x hx)⟩
  ·obtain ⟨s, e, hs⟩ := b2C l (o ++ [y])
   refine ⟨y :: s, ?_, ?_⟩
   ·have : a3C o (y :: l) = a3C (o ++ [y]) l := by simp [a3C, h]
    rw [this, e]; simp
   ·intro x hx
    rcases List.mem_cons.1 hx with rfl | hx
    ·simp
    ·exact List.mem_cons_of_mem _ (hs x hx)
theorem a3D {l o : List (List UInt8)} {x : List UInt8} : x ∈ a3C o l ↔ x ∈ o ∨ x ∈ l := by
 induction l generalizing o with
 | nil => simp [a3C]
 | cons y l ih =>
  have e : a3C o (y :: l) = a3C (if y ∈ o then o else o ++ [y]) l := rfl
  rw [e, ih]
  by_cases h : y ∈ o
  ·simp only [h, if_true, List.mem_cons]
   constructor
   ·rintro (h1 | h1); exact .inl h1; exact .inr (.inr h1)
   ·rintro (h1 | rfl | h1); exact .inl h1; exact .inl h; exact .inr h1
  ·rw [if_neg h, List.mem_append, List.mem_singleton, List.mem_cons, or_assoc]
theorem a7C : ∀ {l o : List (List UInt8)}, o.Nodup → (a3C o l).Nodup
 | [], o, h => h
 | y :: l, o, h => by
  have e : a3C o (y :: l) = a3C (if y ∈ o then o else o ++ [y]) l := rfl
  rw [e]
  by_cases hy : y ∈ o
  ·rw [if_pos hy]; exact a7C h
  ·rw [if_neg hy]
   refine a7C (List.nodup_append.2 ⟨h, by simp, ?_⟩)
   intro a ha b hb
   rw [List.mem_singleton] at hb
   rintro rfl
   exact hy (hb ▸ ha)
def univ (p : GProgram) : Nat := (b5H p).length
structure FInv (p : GProgram) (v : List UInt8) (k : Nat) (o n : List (List UInt8)) : Prop where
 nd : o.Nodup
 un : ∀ x ∈ o, x ∈ b5H p
 ok : ∀ x ∈ o, Rch p v x
 nx : ∀ x ∈ n, x = v ∨ x ∈ o
 cl : ∀ x, x = v ∨ x ∈ o → x ∈ n ∨ ∀ y ∈ a1r p x, y ∈ o
 ms : n = [] ∨ k + 2 * (univ p - o.length) + n.length ≤ 2 * univ p + 1
theorem b5Z {α : Type} [DecidableEq α] : ∀ {l m : List α}, l.Nodup → (∀ x ∈ l, x ∈ m) → l.length ≤ m.length
 | [], _, _, _ => Nat.zero_le _
 | x :: l, m, h, hm => by
  rw [List.nodup_cons] at h
  have h1 := b5Z (l := l) (m := m.erase x) h.2 fun y hy => (List.mem_erase_of_ne (fun e => h.1 (by rw [← e]; exact hy))).2 (hm y (by simp [hy]))
  have h2 := List.length_erase_of_mem (hm x (by simp))
  have h3 : 0 < m.length := List.length_pos_of_mem (hm x (by simp))
  simp only [List.length_cons]; omega
theorem FInv.step {p : GProgram} {v : List UInt8} {k : Nat} {o r : List (List UInt8)} {x : List UInt8} (h : FInv p v k o (x :: r)) : FInv p v (k + 1) (a3C o (a1r p x)) (r ++ (a3C o (a1r p x)).drop o.length) := by
 obtain ⟨s, e, hs⟩ := b2C (a1r p x) o
 have hd : (a3C o (a1r p x)).drop o.length = s := by rw [e]; simp
 have hx : x = v ∨ Rch p v x := (h.nx x (by simp)).imp id (h.ok x)
 have hR : ∀ y ∈ a1r p x, Rch p v y := fun y hy => by
  rcases hx with rfl | hx
  ·exact .one hy
  ·exact .step hx hy
 have hun : ∀ y ∈ a3C o (a1r p x), y ∈ b5H p := fun y hy => (a3D.1 hy).elim (h.un y) b4r
 have hnd := a7C (l := a1r p x) h.nd
 refine ⟨hnd, hun, fun y hy => (a3D.1 hy).elim (h.ok y) (hR y), ?_, ?_, ?_⟩
 ·intro y hy
  rw [hd] at hy
  rcases List.mem_append.1 hy with hy | hy
  ·exact (h.nx y (by simp [hy])).imp id fun hy => a3D.2 (.inl hy)
  ·exact .inr (a3D.2 (.inr (hs y hy)))
 ·intro y hy
  rw [hd]
  have old : y = v ∨ y ∈ o → y ∈ r ++ s ∨ ∀ z ∈ a1r p y, z ∈ a3C o (a1r p x) := by
   intro hy
   rcases h.cl y hy with h1 | h1
   ·rcases List.mem_cons.1 h1 with rfl | h1
    ·exact .inr fun z hz => a3D.2 (.inr hz)
    ·exact .inl (List.mem_append.2 (.inl h1))
   ·exact .inr fun z hz => a3D.2 (.inl (h1 z hz))
  rcases hy with hy | hy
  ·exact old (.inl hy)
  ·rw [e] at hy
   rcases List.mem_append.1 hy with hy | hy
   ·exact old (.inr hy)
   ·exact .inl (List.mem_append.2 (.inr hy))
 ·right
  have h1 := b5Z hnd hun
  have h2 : (a3C o (a1r p x)).length = o.length + s.length := by rw [e, List.length_append]
  have h3 := h.ms.resolve_left (by simp)
  rw [hd]
  simp only [List.length_cons, List.length_append, univ] at h1 h3 ⊢
  omega
theorem b7y {p : GProgram} (h : j1 p = true) {i : Nat} (hi : i < p.Rules.length) : (p.Rules.getD i default).Body.length ≤ 8 := b7V h (A3l hi)
def nextF (p : GProgram) (a : List UInt8) (n : Nat) : List (List UInt8) := ((p.Rules.take n).filter (c3X p a)).flatMap bodyN
@[go_sem] theorem nextF_zero (p : GProgram) (a : List UInt8) : nextF p a 0 = [] := rfl
@[go_sem] theorem putsN_nil (l : List (List UInt8)) : f9 sLt l [] = l := rfl
@[go_sem] theorem addL_nil (o : List (List UInt8)) : a3C o [] = o := rfl
theorem c0e {p : GProgram} (h : ((c7 p).1 == 0) = true) : j1 p = true := by
 cases hB : j1 p with
 | true => rfl
 | false => rw [a0I hB] at h; simp at h
def a1B : ACode := q' ([o' 2 (.box 2 (.t 0)), o' 3 (.box 4 (.t 1)), b' 4 false]) (q' ([f' 5 0 3, l' 6 5, o' 7 (.bin .eql (.t 6) (k' 1)), m' 8 7, ⟨some 9, .ld true 2 (.t 2), some
 (8, true)⟩, ⟨some 10, .fa 1 (.t 3), some (8, true)⟩, ⟨some 11, .fa 0 (.t 10), some (8, true)⟩, ⟨some 12, .ld false 1 (.t 11), some (8, true)⟩, ⟨some 13, .call
 82 [.t 9, .t 12], some (8, true)⟩, ⟨some 14, .bin .eql (.t 13) (k' 3), some (8, true)⟩, o' 15 (.pick (.t 8) (.t 14) (.k (.v false [.c (.b false)]))), m' 4
 15]) .ret)
theorem a8b : cmp Tryz.prog Tryz.f79 = some a1B := by kernel_rfl
theorem a9s (p : GProgram) (r : GRule) : A0l Tryz.prog 79 [(true, [.sl false [.i .i64 0, .s [], .i .i64 0] (p.Decls.map GDecl.cells), .sl false [.i .i64 0, .s [], .sl false [.s [], .i .i64 0, .s []] [], .sl false [.i .i64 0, .s [], .sl false [.s [], .i .i64 0, .s []] [], .i .i64 0, .s [], .i .i64 0, .s [], .s [], .i .i64 0, .s []] []] (p.Rules.map (GRule.cells false false))]), (true, [.i .i64 r.Kind, .s r.Head.Name, .sl false [.s [], .i .i64 0, .s []] (r.Head.Args.map GTerm.cells), .sl false [.i .i64 0, .s [], .sl false [.s [], .i .i64 0, .s []] [], .i .i64 0, .s [], .i .i64 0, .s [], .s [], .i .i64 0, .s []] (r.Body.map (GLit.cells false false))])] [] (.one (false, [.b (r.Kind == 1 && l3 p r.Head.Name == 3)])) := by
 refine spec_of2 false false none Tryz.func79 a8b (rvs := [.t 4]) (hΓ := mkCtx_ok (deep := false) (l := [(82, [], n9)]) ⟨o7, trivial⟩) (h := ?_)
 intro hb hE
 simp only [go_sem] at hb
 simp only [a1B, x']
 (try refine A2V ?_); simp only [go_sem]; (repeat' first | apply CJ.mk | intro hc); all_goals try ((repeat' first | apply And.intro | intro hs) <;> (try simp only [go_sem, Bool.and_eq_false_iff] at hs) <;> omega)
 all_goals (first | rfl | (rw [hc]; rfl) | trace_state)
noncomputable def w6 : CT := c8 (fun (x : GProgram × GRule) => a9s x.1 x.2)
@[go_sem] theorem b7C (p_Decls : List GDecl) (p_Rules : List GRule) (r_Kind : Int) (r_Head_Name : List UInt8) (r_Head_Args : List GTerm) (r_Body : List GLit) : w6 [(true, [.sl false [.i .i64 0, .s [], .i .i64 0] (p_Decls.map GDecl.cells), .sl false [.i .i64 0, .s [], .sl false [.s [], .i .i64 0, .s []] [], .sl false [.i .i64 0, .s [], .sl false [.s [], .i .i64 0, .s []] [], .i .i64 0, .s [], .i .i64 0, .s [], .s [], .i .i64 0, .s []] []] (p_Rules.map (GRule.cells false false))]), (true, [.i .i64 r_Kind, .s r_Head_Name, .sl false [.s [], .i .i64 0, .s []] (r_Head_Args.map GTerm.cells), .sl false [.i .i64 0, .s [], .sl false [.s [], .i .i64 0, .s []] [], .i .i64 0, .s [], .i .i64 0, .s [], .s [], .i .i64 0, .s []] (r_Body.map (GLit.cells false false))])] = some (True, [], .one (false, [.b ((GRule.mk r_Kind (GAtom.mk r_Head_Name r_Head_Args) r_Body).Kind == 1 && l3 (GProgram.mk p_Decls p_Rules) (GRule.mk r_Kind (GAtom.mk r_Head_Name r_Head_Args) r_Body).Head.Name == 3)])) := c4 _ (by rintro ⟨⟨_, _⟩, ⟨_, ⟨_, _⟩, _⟩⟩ ⟨⟨_, _⟩, ⟨_, ⟨_, _⟩, _⟩⟩ h; simp at h; simp_all) ((GProgram.mk p_Decls p_Rules), (GRule.mk r_Kind (GAtom.mk r_Head_Name r_Head_Args) r_Body))
theorem a6o : OkC Tryz.prog 79 w6 := c5 _
def a1C : ACode := q' ([o' 1 (.box 2 (.t 0)), b' 2 false]) (q' ([e' 6 2 1, c' 7 138 [6], m' 5 7, o' 8 (.ext (.t 5) 0), o' 9 (.ext (.t 5) 1), m' 3 8, m' 4 9]) (q' ([m' 10 3, o' 11
 (.bin .eql (.t 10) (k' 0)), m' 2 11]) .ret))
theorem a8c : cmp Tryz.prog Tryz.f66 = some a1C := by kernel_rfl
theorem a9t (p : GProgram) : A0l Tryz.prog 66 [(true, [.sl false [.i .i64 0, .s [], .i .i64 0] (p.Decls.map GDecl.cells), .sl false [.i .i64 0, .s [], .sl false [.s [], .i .i64 0, .s []] [], .sl false [.i .i64 0, .s [], .sl false [.s [], .i .i64 0, .s []] [], .i .i64 0, .s [], .i .i64 0, .s [], .s [], .i .i64 0, .s []] []] (p.Rules.map (GRule.cells false false))])] [] (.one (false, [.b ((c7 p).1 == 0)])) := by
 refine spec_of2 false false none Tryz.func66 a8c (rvs := [.t 2]) (hΓ := mkCtx_ok (deep := false) (l := [(138, [], v8)]) ⟨a6l, trivial⟩) (h := ?_)
 intro hb hE
 simp only [go_sem] at hb
 simp only [a1C, x']
 (try refine A2V ?_); simp only [go_sem]; (repeat' first | apply CJ.mk | intro hc); all_goals try ((repeat' first | apply And.intro | intro hs) <;> (try simp only [go_sem, Bool.and_eq_false_iff] at hs) <;> omega)
 all_goals (first | rfl | trace_state)
noncomputable def w7 : CT := c8 (fun (x : GProgram) => a9t x)
@[go_sem] theorem b7D (p_Decls : List GDecl) (p_Rules : List GRule) : w7 [(true, [.sl false [.i .i64 0, .s [], .i .i64 0] (p_Decls.map GDecl.cells), .sl false [.i .i64 0, .s [], .sl false [.s [], .i .i64 0, .s []] [], .sl false [.i .i64 0, .s [], .sl false [.s [], .i .i64 0, .s []] [], .i .i64 0, .s [], .i .i64 0, .s [], .s [], .i .i64 0, .s []] []] (p_Rules.map (GRule.cells false false))])] = some (True, [], .one (false, [.b ((c7 (GProgram.mk p_Decls p_Rules)).1 == 0)])) := c4 _ (by rintro ⟨_, _⟩ ⟨_, _⟩ h; simp at h; simp_all) (GProgram.mk p_Decls p_Rules)
theorem a6p : OkC Tryz.prog 66 w7 := c5 _
@[go_sem] theorem c4k (l o : List (List UInt8)) : l ++ List.drop o.length o = l := by simp
end Go.Aw
