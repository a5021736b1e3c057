/- What a view a0s on. No condition. -/
import Derived.Test.YthlbadfickhkfaaGreatzeT2
import Derived.Test.YthlbadfickhkfaaGreatzeT7
namespace Go.Aw
open Go.Proofs
attribute [local irreducible] aft blk lpK retK AW A0n
set_option linter.unusedVariables false
set_option linter.unusedSimpArgs false
set_option maxRecDepth 100000
def a8d (r : GRule) : List (List UInt8) := ((d4 r).drop 1).map GAtom.Name
def a1C (p : GProgram) (a : List UInt8) (r : GRule) : Bool := (r.Kind == 1 && p9 p r.Head.Name == 3) && r.Head.Name == a
def j8 (p : GProgram) (a : List UInt8) : List (List UInt8) := (p.Rules.filter (a1C p a)).flatMap a8d
inductive Rch (p : GProgram) (a : List UInt8) : List UInt8 → Prop
 | one {b : List UInt8} : b ∈ j8 p a → Rch p a b
 | step {b c : List UInt8} : Rch p a b → c ∈ j8 p b → Rch p a c
def b2b (p : GProgram) : List (List UInt8) := p.Rules.flatMap a8d
theorem b0s {p : GProgram} {a b : List UInt8} (h : b ∈ j8 p a) : b ∈ b2b p := by
 obtain ⟨r, hr, hb⟩ := List.mem_flatMap.1 h
 exact List.mem_flatMap.2 ⟨r, (List.mem_filter.1 hr).1, hb⟩
theorem Rch.all {p : GProgram} {a b : List UInt8} (h : Rch p a b) : b ∈ b2b p := by
 cases h with
 | one h => exact b0s h
 | step _ h => exact b0s h
theorem Rch.mem {p : GProgram} {a : List UInt8} {l : List (List UInt8)} (h1 : ∀ x ∈ j8 p a, x ∈ l) (h2 : ∀ x ∈ l, ∀ y ∈ j8 p x, y ∈ l) {b : List UInt8} (h : Rch p a b) : b ∈ l := by
 induction h with
 | one h => exact h1 _ h
 | step _ h ih => exact h2 _ ih _ h
open Classical in
noncomputable def c1a (p : GProgram) (a : List UInt8) : List (List UInt8) := (d9 sLt [] (b2b p)).filter fun v => decide (Rch p a v)
open Classical in
theorem b5q {p : GProgram} {a v : List UInt8} : v ∈ c1a p a ↔ Rch p a v := by
 rw [c1a, List.mem_filter, j7, decide_eq_true_eq]
 exact ⟨fun h => h.2, fun h => ⟨.inr h.all, h⟩⟩
noncomputable def a0s (p : GProgram) (a b : List UInt8) : Bool := (c8 p).1 == 0 && (c1a p a).contains b
theorem a9E {l l' : List (List UInt8)} {b : List UInt8} (h : b ∈ l ↔ b ∈ l') : l.contains b = l'.contains b := by
 rw [Bool.eq_iff_iff, List.contains_iff_mem, List.contains_iff_mem, h]
def m7 (o l : List (List UInt8)) : List (List UInt8) := l.foldl (fun o y => if y ∈ o then o else o ++ [y]) o
theorem b8o (o l r : List (List UInt8)) : m7 o (l ++ r) = m7 (m7 o l) r := by simp [m7, List.foldl_append]
theorem b3C : ∀ (l o : List (List UInt8)), ∃ s, m7 o l = o ++ s ∧ (∀ x ∈ s, x ∈ l)
 | [], o => ⟨[], by simp [m7], by simp⟩
 | y :: l, o => by
  by_cases h : y ∈ o
  · obtain ⟨s, e, hs⟩ := b3C l o
   exact ⟨s, by rw [← e]; simp [m7, h], fun x hx => List.mem_cons_of_mem _ (hs x hx)⟩
  · obtain ⟨s, e, hs⟩ := b3C l (o ++ [y])
   refine ⟨y :: s, ?_, ?_⟩
   · have : m7 o (y :: l) = m7 (o ++ [y]) l := by simp [m7, h]
    rw [this, e]; simp
   · intro x hx
    rcases List.mem_cons.1 hx with rfl | hx
    · simp
    · exact List.mem_cons_of_mem _ (hs x hx)
theorem a2e {l o : List (List UInt8)} {x : List UInt8} : x ∈ m7 o l ↔ x ∈ o ∨ x ∈ l := by
 induction l generalizing o with
 | nil => simp [m7]
 | cons y l ih =>
  have e : m7 o (y :: l) = m7 (if y ∈ o then o else o ++ [y]) l := rfl
  rw [e, ih]
  by_cases h : y ∈ o
  · simp only [h, if_true, List.mem_cons]
   constructor
   · rintro (h1 | h1); exact .inl h1; exact .inr (.inr h1)
   · rintro (h1 | rfl | h1); exact .inl h1; exact .inl h; exact .inr h1
  · rw [if_neg h, List.mem_append, List.mem_singleton, List.mem_cons, or_assoc]
theorem a4K : ∀ {l o : List (List UInt8)}, o.Nodup → (m7 o l).Nodup
 | [], o, h => h
 | y :: l, o, h => by
  have e : m7 o (y :: l) = m7 (if y ∈ o then o else o ++ [y]) l := rfl
  rw [e]
  by_cases hy : y ∈ o
  · rw [if_pos hy]; exact a4K h
  · rw [if_neg hy]
   refine a4K (List.nodup_append.2 ⟨h, by simp, ?_⟩)
   intro a ha b hb
   rw [List.mem_singleton] at hb
   rintro rfl
   exact hy (hb ▸ ha)
theorem b7j {o l : List (List UInt8)} {x : List UInt8} (h : x ∈ m7 o l) : m7 o (l ++ [x]) = m7 o l := by
 rw [b8o]; exact if_pos h
theorem b5K {o l : List (List UInt8)} {x : List UInt8} (h : ¬ x ∈ m7 o l) : m7 o (l ++ [x]) = m7 o l ++ [x] := by
 rw [b8o]; simp [m7] at h ⊢; intro h'; exact absurd h' h
def b5A (p : GProgram) : List (List UInt8) × List (List UInt8) → List (List UInt8) × List (List UInt8)
 | (o, []) => (o, [])
 | (o, x :: r) => (m7 o (j8 p x), r ++ (m7 o (j8 p x)).drop o.length)
def itF (p : GProgram) (v : List UInt8) : Nat → List (List UInt8) × List (List UInt8)
 | 0 => ([], [v])
 | k + 1 => b5A p (itF p v k)
def a2P (p : GProgram) : Nat := (b2b p).length
def a3O (p : GProgram) (v : List UInt8) : List (List UInt8) := (itF p v (2 * a2P p + 2)).1
structure FInv (p : GProgram) (v : List UInt8) (k : Nat) (o n : List (List UInt8)) : Prop where
 nd : o.Nodup
 un : ∀ x ∈ o, x ∈ b2b p
 ok : ∀ x ∈ o, Rch p v x
 nx : ∀ x ∈ n, x = v ∨ x ∈ o
 cl : ∀ x, x = v ∨ x ∈ o → x ∈ n ∨ ∀ y ∈ j8 p x, y ∈ o
 ms : n = [] ∨ k + 2 * (a2P p - o.length) + n.length ≤ 2 * a2P p + 1
theorem a4C {α : Type} [DecidableEq α] : ∀ {l m : List α}, l.Nodup → (∀ x ∈ l, x ∈ m) → l.length ≤ m.length
 | [], _, _, _ => Nat.zero_le _
 | x :: l, m, h, hm => by
  rw [List.nodup_cons] at h
  have h1 := a4C (l := l) (m := m.erase x) h.2 fun y hy => (List.mem_erase_of_ne (fun e => h.1 (by rw [← e]; exact hy))).2 (hm y (by simp [hy]))
  have h2 := List.length_erase_of_mem (hm x (by simp))
  have h3 : 0 < m.length := List.length_pos_of_mem (hm x (by simp))
  simp only [List.length_cons]; omega
theorem FInv.start (p : GProgram) (v : List UInt8) : FInv p v 0 [] [v] :=
 ⟨List.nodup_nil, by simp, by simp, by simp, fun x hx => .inl (by simpa using hx), .inr (by simp)⟩
theorem FInv.step {p : GProgram} {v : List UInt8} {k : Nat} {o r : List (List UInt8)} {x : List UInt8} (h : FInv p v k o (x :: r)) : FInv p v (k + 1) (m7 o (j8 p x)) (r ++ (m7 o (j8 p x)).drop o.length) := by
 obtain ⟨s, e, hs⟩ := b3C (j8 p x) o
 have hd : (m7 o (j8 p x)).drop o.length = s := by rw [e]; simp
 have hx : x = v ∨ Rch p v x := (h.nx x (by simp)).imp id (h.ok x)
 have hR : ∀ y ∈ j8 p x, Rch p v y := fun y hy => by
  rcases hx with rfl | hx
  · exact .one hy
  · exact .step hx hy
 have hun : ∀ y ∈ m7 o (j8 p x), y ∈ b2b p := fun y hy => (a2e.1 hy).elim (h.un y) b0s
 have hnd := a4K (l := j8 p x) h.nd
 refine ⟨hnd, hun, fun y hy => (a2e.1 hy).elim (h.ok y) (hR y), ?_, ?_, ?_⟩
 · intro y hy
  rw [hd] at hy
  rcases List.mem_append.1 hy with hy | hy
  · exact (h.nx y (by simp [hy])).imp id fun hy => a2e.2 (.inl hy)
  · exact .inr (a2e.2 (.inr (hs y hy)))
 · intro y hy
  rw [hd]
  have old : y = v ∨ y ∈ o → y ∈ r ++ s ∨ ∀ z ∈ j8 p y, z ∈ m7 o (j8 p x) := by
   intro hy
   rcases h.cl y hy with h1 | h1
   · rcases List.mem_cons.1 h1 with rfl | h1
    · exact .inr fun z hz => a2e.2 (.inr hz)
    · exact .inl (List.mem_append.2 (.inl h1))
   · exact .inr fun z hz => a2e.2 (.inl (h1 z hz))
  rcases hy with hy | hy
  · exact old (.inl hy)
  · rw [e] at hy
   rcases List.mem_append.1 hy with hy | hy
   · exact old (.inr hy)
   · exact .inl (List.mem_append.2 (.inr hy))
 · right
  have h1 := a4C hnd hun
  have h2 : (m7 o (j8 p x)).length = o.length + s.length := by rw [e, List.length_append]
  have h3 := h.ms.resolve_left (by simp)
  rw [hd]
  simp only [List.length_cons, List.length_append, a2P] at h1 h3 ⊢
  omega
theorem b7z (p : GProgram) (v : List UInt8) : ∀ k, FInv p v k (itF p v k).1 (itF p v k).2
 | 0 => FInv.start p v
 | k + 1 => by
  have h := b7z p v k
  have e : itF p v (k + 1) = b5A p (itF p v k) := rfl
  rw [e]
  generalize itF p v k = s at h
  obtain ⟨o, n⟩ := s
  cases n with
  | nil => exact ⟨h.nd, h.un, h.ok, h.nx, h.cl, .inl rfl⟩
  | cons x r => exact h.step
theorem b8Q {p : GProgram} {v : List UInt8} {k : Nat} (h : (itF p v k).2 = []) : ∀ j, itF p v (k + j) = itF p v k
 | 0 => rfl
 | j + 1 => by
  have e : itF p v (k + (j + 1)) = b5A p (itF p v (k + j)) := rfl
  rw [e, b8Q h j]
  generalize itF p v k = s at h
  obtain ⟨o, n⟩ := s
  simp only at h
  subst h; rfl
theorem c5e {p : GProgram} {v : List UInt8} {k : Nat} (hk : k ≤ 2 * a2P p + 1) (h : (itF p v k).2 = []) : (itF p v k).1 = a3O p v := by
 rw [a3O, show 2 * a2P p + 2 = k + (2 * a2P p + 2 - k) by omega, b8Q h]
theorem c0Z {p : GProgram} {v x : List UInt8} : x ∈ a3O p v ↔ Rch p v x := by
 have h := b7z p v (2 * a2P p + 2)
 have hn : (itF p v (2 * a2P p + 2)).2 = [] := by
  rcases h.ms with h | h
  · exact h
  · omega
 rw [hn] at h
 refine ⟨h.ok x, fun hx => ?_⟩
 have hc : ∀ y, y = v ∨ y ∈ a3O p v → ∀ z ∈ j8 p y, z ∈ a3O p v := fun y hy => (h.cl y hy).resolve_left (by simp)
 exact hx.mem (hc v (.inl rfl)) fun y hy => hc y (.inr hy)
theorem b0A {p : GProgram} (h : g8 p = true) : a2P p ≤ 192 := by
 have h2 : ∀ r ∈ p.Rules, (a8d r).length ≤ 8 := fun r hr => by
  have h1 := b4G h hr
  have h3 := a4L r
  rw [a8d, List.length_map, List.length_drop]; omega
 have h3 : p.Rules.length ≤ 24 := by
  simp only [g8, Bool.and_eq_true, decide_eq_true_eq] at h; omega
 have : ∀ {l : List GRule}, (∀ r ∈ l, (a8d r).length ≤ 8) → (l.flatMap a8d).length ≤ 8 * l.length := by
  intro l
  induction l with
  | nil => intro _; simp
  | cons x l ih =>
   intro h
   have h1 := h x (by simp)
   have h2 := ih fun y hy => h y (by simp [hy])
   simp only [List.flatMap_cons, List.length_append, List.length_cons]
   omega
 have h4 := this h2
 rw [a2P, b2b]; omega
theorem a4g {p : GProgram} (h : g8 p = true) {i : Nat} (hi : i < p.Rules.length) : (p.Rules.getD i default).Body.length ≤ 8 := b4G h (A3n hi)
theorem a8m {r : GRule} {j : Nat} (h : j < ((d4 r).drop 1).length) : (((d4 r).drop 1).take (j + 1)).map GAtom.Name = (((d4 r).drop 1).take j).map GAtom.Name ++ [(((d4 r).drop 1).getD j default).Name] := c4X GAtom.Name default h
theorem c3D (l r s : List (List UInt8)) : d9 sLt (d9 sLt l r) s = d9 sLt l (r ++ s) := by simp [d9, List.foldl_append]
theorem a9F {α β : Type} (q : α → Bool) (f : α → List β) : ∀ l : List α, ((l.filter q).flatMap f).length ≤ (l.flatMap f).length
 | [] => by simp
 | x :: l => by
  have h := a9F q f l
  simp only [List.filter_cons]
  split <;> simp only [List.flatMap_cons, List.length_append] <;> omega
def p5 (p : GProgram) (a : List UInt8) (n : Nat) : List (List UInt8) := ((p.Rules.take n).filter (a1C p a)).flatMap a8d
theorem b1T (p : GProgram) (a : List UInt8) (n : Nat) : (p5 p a n).length ≤ a2P p := by
 refine Nat.le_trans (a9F _ _ _) ?_
 have e : b2b p = (p.Rules.take n).flatMap a8d ++ (p.Rules.drop n).flatMap a8d := by rw [← List.flatMap_append, List.take_append_drop]; rfl
 rw [a2P, e, List.length_append]; omega
@[go_sem] theorem nextF_zero (p : GProgram) (a : List UInt8) : p5 p a 0 = [] := rfl
@[go_sem] theorem putsN_nil (l : List (List UInt8)) : d9 sLt l [] = l := rfl
@[go_sem] theorem addL_nil (o : List (List UInt8)) : m7 o [] = o := rfl
theorem b1S {p : GProgram} {a : List UInt8} {n : Nat} (h : ¬ n < p.Rules.length) : p5 p a n = j8 p a := by rw [p5, c6 h, j8]
theorem b6V {p : GProgram} {a : List UInt8} {i : Nat} (hi : i < p.Rules.length) (h : a1C p a (p.Rules.getD i default) = true) : p5 p a (i + 1) = p5 p a i ++ a8d (p.Rules.getD i default) := by
 rw [p5, c1R default hi h, List.flatMap_append, p5]; simp
theorem b9l {p : GProgram} {a : List UInt8} {i : Nat} (hi : i < p.Rules.length) (h : a1C p a (p.Rules.getD i default) = false) : p5 p a (i + 1) = p5 p a i := by
 rw [p5, f_no default hi h, p5]
theorem a0N {p : GProgram} (h : ((c8 p).1 == 0) = true) : g8 p = true := by
 cases hB : g8 p with
 | true => rfl
 | false => rw [a1f hB] at h; simp at h
theorem b3B (o l : List (List UInt8)) : o.length ≤ (m7 o l).length ∧ (m7 o l).length ≤ o.length + l.length := by
 induction l generalizing o with
 | nil => exact ⟨Nat.le_refl _, Nat.le_refl _⟩
 | cons y l ih =>
  have e : m7 o (y :: l) = m7 (if y ∈ o then o else o ++ [y]) l := rfl
  rw [e]
  by_cases h : y ∈ o
  · have := ih o; rw [if_pos h]; simp only [List.length_cons]; omega
  · have := ih (o ++ [y]); rw [if_neg h]; simp only [List.length_append, List.length_cons, List.length_nil] at *; omega
theorem b5m (p : GProgram) (a : List UInt8) (r : GRule) : a1C p a r = (((r.Kind == 1) && (r.Head.Name == a)) && ((k8 p a).Kind == 3)) := by
 rw [a1C]
 cases h : (r.Head.Name == a) with
 | false => simp
 | true => rw [beq_iff_eq] at h; rw [h, p9]; simp
def a1X : ACode := q' ([o' 2 (.box 2 (.t 0)), o' 3 (.box 4 (.t 1)), b' 4 false]) (q' ([f' 5 0 3, l' 6 5, o' 7 (.bin .eql (.t 6) (k' 1)), m' 8 7, ⟨some 9, .ld true 2 (.t 2), some
 (8, true)⟩, ⟨some 10, .fa 1 (.t 3), some (8, true)⟩, ⟨some 11, .fa 0 (.t 10), some (8, true)⟩, ⟨some 12, .ld false 1 (.t 11), some (8, true)⟩, ⟨some 13, .call
 82 [.t 9, .t 12], some (8, true)⟩, ⟨some 14, .bin .eql (.t 13) (k' 3), some (8, true)⟩, o' 15 (.pick (.t 8) (.t 14) (.k (.v false [.c (.b false)]))), m' 4
 15]) .ret)
theorem a8B : cmp Tryz.prog Tryz.f79 = some a1X := by kernel_rfl
theorem b0f (p : GProgram) (r : GRule) : A0n Tryz.prog 79 [(true, [.sl false [.i .i64 0, .s [], .i .i64 0] (p.Decls.map GDecl.cells), .sl false [.i .i64 0, .s [], .sl false [.s [], .i .i64 0, .s []] [], .sl false [.i .i64 0, .s [], .sl false [.s [], .i .i64 0, .s []] [], .i .i64 0, .s [], .i .i64 0, .s [], .s [], .i .i64 0, .s []] []] (p.Rules.map (GRule.cells false false))]), (true, [.i .i64 r.Kind, .s r.Head.Name, .sl false [.s [], .i .i64 0, .s []] (r.Head.Args.map GTerm.cells), .sl false [.i .i64 0, .s [], .sl false [.s [], .i .i64 0, .s []] [], .i .i64 0, .s [], .i .i64 0, .s [], .s [], .i .i64 0, .s []] (r.Body.map (GLit.cells false false))])] [] (.one (false, [.b (r.Kind == 1 && p9 p r.Head.Name == 3)])) := by
 refine spec_of2 false false none Tryz.func79 a8B (rvs := [.t 4]) (hΓ := mkCtx_ok (deep := false) (l := [(82, [], s9)]) ⟨u4, trivial⟩) (h := ?_)
 intro hb hE
 simp only [go_sem] at hb
 simp only [a1X, x']
 (try refine A2X ?_); simp only [go_sem]; (repeat' first | apply CJ.mk | intro hc); all_goals try ((repeat' first | apply And.intro | intro hs) <;> (try simp only [go_sem, Bool.and_eq_false_iff] at hs) <;> omega)
 all_goals (first | rfl | (rw [hc]; rfl) | trace_state)
noncomputable def t5 : CT := d7 (fun (x : GProgram × GRule) => b0f x.1 x.2)
@[go_sem] theorem b8u (p_Decls : List GDecl) (p_Rules : List GRule) (r_Kind : Int) (r_Head_Name : List UInt8) (r_Head_Args : List GTerm) (r_Body : List GLit) : t5 [(true, [.sl false [.i .i64 0, .s [], .i .i64 0] (p_Decls.map GDecl.cells), .sl false [.i .i64 0, .s [], .sl false [.s [], .i .i64 0, .s []] [], .sl false [.i .i64 0, .s [], .sl false [.s [], .i .i64 0, .s []] [], .i .i64 0, .s [], .i .i64 0, .s [], .s [], .i .i64 0, .s []] []] (p_Rules.map (GRule.cells false false))]), (true, [.i .i64 r_Kind, .s r_Head_Name, .sl false [.s [], .i .i64 0, .s []] (r_Head_Args.map GTerm.cells), .sl false [.i .i64 0, .s [], .sl false [.s [], .i .i64 0, .s []] [], .i .i64 0, .s [], .i .i64 0, .s [], .s [], .i .i64 0, .s []] (r_Body.map (GLit.cells false false))])] = some (True, [], .one (false, [.b ((GRule.mk r_Kind (GAtom.mk r_Head_Name r_Head_Args) r_Body).Kind == 1 && p9 (GProgram.mk p_Decls p_Rules) (GRule.mk r_Kind (GAtom.mk r_Head_Name r_Head_Args) r_Body).Head.Name == 3)])) := c4 _ (by rintro ⟨⟨_, _⟩, ⟨_, ⟨_, _⟩, _⟩⟩ ⟨⟨_, _⟩, ⟨_, ⟨_, _⟩, _⟩⟩ h; simp at h; simp_all) ((GProgram.mk p_Decls p_Rules), (GRule.mk r_Kind (GAtom.mk r_Head_Name r_Head_Args) r_Body))
theorem a1k : OkC Tryz.prog 79 t5 := c5 _
def a1Y : ACode := q' ([o' 1 (.box 2 (.t 0)), b' 2 false]) (q' ([e' 6 2 1, c' 7 138 [6], m' 5 7, o' 8 (.ext (.t 5) 0), o' 9 (.ext (.t 5) 1), m' 3 8, m' 4 9]) (q' ([m' 10 3, o' 11
 (.bin .eql (.t 10) (k' 0)), m' 2 11]) .ret))
theorem a8C : cmp Tryz.prog Tryz.f66 = some a1Y := by kernel_rfl
theorem b0g (p : GProgram) : A0n Tryz.prog 66 [(true, [.sl false [.i .i64 0, .s [], .i .i64 0] (p.Decls.map GDecl.cells), .sl false [.i .i64 0, .s [], .sl false [.s [], .i .i64 0, .s []] [], .sl false [.i .i64 0, .s [], .sl false [.s [], .i .i64 0, .s []] [], .i .i64 0, .s [], .i .i64 0, .s [], .s [], .i .i64 0, .s []] []] (p.Rules.map (GRule.cells false false))])] [] (.one (false, [.b ((c8 p).1 == 0)])) := by
 refine spec_of2 false false none Tryz.func66 a8C (rvs := [.t 2]) (hΓ := mkCtx_ok (deep := false) (l := [(138, [], a0b)]) ⟨a6S, trivial⟩) (h := ?_)
 intro hb hE
 simp only [go_sem] at hb
 simp only [a1Y, x']
 (try refine A2X ?_); simp only [go_sem]; (repeat' first | apply CJ.mk | intro hc); all_goals try ((repeat' first | apply And.intro | intro hs) <;> (try simp only [go_sem, Bool.and_eq_false_iff] at hs) <;> omega)
 all_goals (first | rfl | trace_state)
noncomputable def a0g : CT := d7 (fun (x : GProgram) => b0g x)
@[go_sem] theorem b8v (p_Decls : List GDecl) (p_Rules : List GRule) : a0g [(true, [.sl false [.i .i64 0, .s [], .i .i64 0] (p_Decls.map GDecl.cells), .sl false [.i .i64 0, .s [], .sl false [.s [], .i .i64 0, .s []] [], .sl false [.i .i64 0, .s [], .sl false [.s [], .i .i64 0, .s []] [], .i .i64 0, .s [], .i .i64 0, .s [], .s [], .i .i64 0, .s []] []] (p_Rules.map (GRule.cells false false))])] = some (True, [], .one (false, [.b ((c8 (GProgram.mk p_Decls p_Rules)).1 == 0)])) := c4 _ (by rintro ⟨_, _⟩ ⟨_, _⟩ h; simp at h; simp_all) (GProgram.mk p_Decls p_Rules)
theorem a6V : OkC Tryz.prog 66 a0g := c5 _
def a5O : ACode := q' ([o' 2 (.box 2 (.t 0)), o' 4 (.mov (.k (.v false [.nl [.s []]])))]) (q' ([o' 9 (.bsl 1 0 [.s] []), m' 5 9]) (.seq (q' ([f' 10 1 2, l' 11 10, n' 12 11, z' 13
 0]) (.block 0 (.loop (q' ([r' 14 13 12]) (.seq (.cond (.t 14) .skip (.exit 0)) (.seq (.block 1 (q' ([m' 15 13, m' 6 15]) (q' ([f' 16 1 2, l' 17 16, m' 18 6,
 i' 19 4 17 18, f' 20 0 19, l' 21 20, o' 22 (.bin .eql (.t 21) (k' 1)), m' 23 22, ⟨some 24, .fa 1 (.t 2), some (23, true)⟩, ⟨some 25, .ld false 1 (.t 24), some
 (23, true)⟩, ⟨some 26, .mov (.t 6), some (23, true)⟩, ⟨some 27, .ia 4 (.t 25) (.t 26), some (23, true)⟩, ⟨some 28, .fa 1 (.t 27), some (23, true)⟩, ⟨some 29,
 .fa 0 (.t 28), some (23, true)⟩, ⟨some 30, .ld false 1 (.t 29), some (23, true)⟩, ⟨some 31, .mov (.t 1), some (23, true)⟩, ⟨some 32, .bin .eql (.t 30) (.t
 31), some (23, true)⟩, o' 33 (.pick (.t 23) (.t 32) (.k (.v false [.c (.b false)]))), m' 34 33, ⟨some 35, .ld true 2 (.t 2), some (34, true)⟩, ⟨some 36, .mov
 (.t 1), some (34, true)⟩, ⟨some 37, .call 160 [.t 35, .t 36], some (34, true)⟩, ⟨some 38, .fl false 0 1 (.t 37), some (34, true)⟩, ⟨some 39, .bin .eql (.t 38)
 (k' 3), some (34, true)⟩, o' 40 (.pick (.t 34) (.t 39) (.k (.v false [.c (.b false)])))]) (.cond (.t 40) (q' ([f' 41 1 2, l' 42 41, m' 43 6, i' 44 4 42 43, e'
 45 4 44, c' 46 214 [45], o' 47 (.slc 2 (.t 46) (some (k' 1)) none none), n' 48 47, z' 49 0]) (.block 2 (.loop (q' ([r' 50 49 48]) (.seq (.cond (.t 50) .skip
 (.exit 2)) (.seq (.block 3 (q' ([i' 51 2 47 49, e' 52 2 51, w' 8 [.s, .sl [.s [], .i .i64 0, .s []]], s' 2 8 52]) (g' [m' 53 5, f' 54 0 8, l' 55 54, c' 56 98
 [53, 55], m' 5 56]))) (g' [a' 57 49, m' 49 57]))))))) .skip)))) (g' [a' 58 13, m' 13 58]))))))) (q' ([m' 59 5, m' 4 59]) .ret)))
theorem b2Y : cmp Tryz.prog Tryz.f167 = some a5O := by kernel_rfl
theorem b5l (p : GProgram) (a : List UInt8) (hpre : g8 p = true) : A0n Tryz.prog 167 [(true, [.sl false [.i .i64 0, .s [], .i .i64 0] (p.Decls.map GDecl.cells), .sl false [.i .i64 0, .s [], .sl false [.s [], .i .i64 0, .s []] [], .sl false [.i .i64 0, .s [], .sl false [.s [], .i .i64 0, .s []] [], .i .i64 0, .s [], .i .i64 0, .s [], .s [], .i .i64 0, .s []] []] (p.Rules.map (GRule.cells false false))]), (false, [.s a])] [] (.one (false, [.sl false [.s []] ((d9 sLt [] (j8 p a)).map c7)])) := by
 refine spec_of2 false true none Tryz.func167 b2Y (rvs := [.t 4]) (hΓ := mkCtx_ok (deep := false) (l := [(214, [], w9), (160, [], p8), (98, [0], s7)]) ⟨a2G, t7, z6, trivial⟩) (h := ?_)
 intro hb hE
 simp only [go_sem] at hb
 simp only [a5O, x']
 have hU := b0A hpre
 (try refine A2X ?_); simp only [go_sem, c9]; (repeat' first | apply CJ.mk | intro hc); all_goals try ((repeat' first | apply And.intro | intro hs) <;> (try simp only [go_sem, Bool.and_eq_false_iff] at hs) <;> omega)
 refine aw_loop2 false [(false, 5, 0, 100010)] [1, 2, 12] [4] [] (fun i : {i : Nat // i ≤ p.Rules.length} => [(5, .v false [.ow 100010]), (13, slV (.i .i64 i.1))]) (fun i => []) (fun i => [(100010, [.s []], (d9 sLt [] (p5 p a i.1)).map c7)]) (fun i => p.Rules.length - i.1) (⟨0, by simp⟩) _ (by simp only [go_sem, c9]; try rfl) ?_ ?_
 · simp only [go_sem, c9]
  all_goals first | omega | ((repeat' apply And.intro) <;> first | omega | rfl | skip)
 intro S0 hS0 i
 simp only [go_sem, c9] at hS0
 obtain ⟨n, hn⟩ := i
 have hlen := b1T p a n
 generalize hO : d9 sLt [] (p5 p a n) = O
 have hOl : O.length ≤ 192 := by
  have := s5 sLt (p5 p a n) []
  rw [hO] at this
  simp only [List.length_nil] at this; omega
 (try refine A2X ?_); simp only [go_sem, c9, hS0]; (repeat' first | apply CJ.mk | intro hc); all_goals try ((repeat' first | apply And.intro | intro hs) <;> (try simp only [go_sem, Bool.and_eq_false_iff] at hs) <;> omega)
 · exact a4g hpre (by omega)
 · have := a3m (p.Rules.getD n default); omega
 · have hq : a1C p a (p.Rules.getD n default) = true := by rw [b5m, hc.1.1, hc.1.2, hc.2]; rfl
  have hdl : ((d4 (p.Rules.getD n default)).drop 1).length ≤ 8 := by
   have h1 := a4L (p.Rules.getD n default)
   have h2 := a4g hpre (show n < p.Rules.length by omega)
   rw [List.length_drop]; omega
  clear hc
  refine aw_loop2 false [(false, 5, 0, 100010)] [1, 2, 12, 13, 47, 48] [4] [6016] (fun i : {j : Nat // j ≤ ((d4 (p.Rules.getD n default)).drop 1).length} => [(5, .v false [.ow 100010]), (49, slV (.i .i64 i.1))]) (fun i => []) (fun i => [(100010, [.s []], (d9 sLt O ((((d4 (p.Rules.getD n default)).drop 1).take i.1).map GAtom.Name)).map c7)]) (fun i => ((d4 (p.Rules.getD n default)).drop 1).length - i.1) (⟨0, by simp⟩) _ (by simp only [go_sem, c9, hS0]; try rfl) ?_ ?_
  · simp only [go_sem, c9, hS0]
   all_goals first | omega | ((repeat' apply And.intro) <;> first | omega | rfl | skip)
  intro S1 hS1 i
  simp only [go_sem, c9, hS0] at hS1
  obtain ⟨j, hj⟩ := i
  have h2 := s5 sLt ((((d4 (p.Rules.getD n default)).drop 1).take j).map GAtom.Name) O
  rw [List.length_map, List.length_take] at h2
  (try refine A2X ?_); simp only [go_sem, c9, hS0, hS1]; (repeat' first | apply CJ.mk | intro hc); all_goals try ((repeat' first | apply And.intro | intro hs) <;> (try simp only [go_sem, Bool.and_eq_false_iff] at hs) <;> omega)
  all_goals first
   | omega
   | ((refine lpK_n2 (⟨j + 1, by omega⟩) _ (by simp only [go_sem, c9, hS0]; try rfl) ?_; simp only [go_sem, c9, hS0, hS1]; first | done | ((repeat' apply And.intro) <;> first | omega | (refine w64 ?_ ?_ ?_ <;> omega) | rfl | skip)); rw [a8m (by omega), a7s]; done)
   | ((refine lpK_n2 (⟨n + 1, by omega⟩) _ (by simp only [go_sem, c9, hS0]; try rfl) ?_; simp only [go_sem, c9, hS0, hS1]; first | done | ((repeat' apply And.intro) <;> first | omega | (refine w64 ?_ ?_ ?_ <;> omega) | rfl | skip)); rw [c6 (by omega), b6V (by omega) hq, ← c3D, hO]; first | done | rfl | trace_state)
   | trace_state
 · have hq : a1C p a (p.Rules.getD n default) = false := by rw [b5m]; exact hc
  (refine lpK_n2 (⟨n + 1, by omega⟩) _ (by simp only [go_sem, c9, hS0]; try rfl) ?_; simp only [go_sem, c9, hS0]; first | done | ((repeat' apply And.intro) <;> first | omega | (refine w64 ?_ ?_ ?_ <;> omega) | rfl | skip))
  rw [b9l (by omega) hq, hO]
 · rw [← hO, b1S (by omega)]
noncomputable def a2J : CT := l9 (fun (x : GProgram × (List UInt8)) h => b5l x.1 x.2 h)
@[go_sem] theorem c1Q (p_Decls : List GDecl) (p_Rules : List GRule) (a : List UInt8) : a2J [(true, [.sl false [.i .i64 0, .s [], .i .i64 0] (p_Decls.map GDecl.cells), .sl false [.i .i64 0, .s [], .sl false [.s [], .i .i64 0, .s []] [], .sl false [.i .i64 0, .s [], .sl false [.s [], .i .i64 0, .s []] [], .i .i64 0, .s [], .i .i64 0, .s [], .s [], .i .i64 0, .s []] []] (p_Rules.map (GRule.cells false false))]), (false, [.s a])] = some (g8 (GProgram.mk p_Decls p_Rules) = true, [], .one (false, [.sl false [.s []] ((d9 sLt [] (j8 (GProgram.mk p_Decls p_Rules) a)).map c7)])) := d5 _ (by rintro ⟨⟨_, _⟩, _⟩ ⟨⟨_, _⟩, _⟩ h; simp at h; simp_all) ((GProgram.mk p_Decls p_Rules), a)
theorem a9C : OkC Tryz.prog 167 a2J := d6 _
theorem b5B {p : GProgram} {o nx : List (List UInt8)} (h : 0 < nx.length) : b5A p (o, nx) = (m7 o (j8 p (nx.getD 0 [])), nx.drop 1 ++ (m7 o (j8 p (nx.getD 0 []))).drop o.length) := by
 cases nx with
 | nil => simp at h
 | cons x r => rfl
theorem step_ms {p : GProgram} {v : List UInt8} {k : Nat} {o nx : List (List UInt8)} (h : FInv p v k o nx) (hm : k + 2 * (a2P p - o.length) + nx.length ≤ 2 * a2P p + 1) (hn : 0 < nx.length) : k + 1 + 2 * (a2P p - (b5A p (o, nx)).1.length) + (b5A p (o, nx)).2.length ≤ 2 * a2P p + 1 := by
 rw [b5B hn]
 have h1 := a4C (a4K (l := j8 p (nx.getD 0 [])) h.nd) fun y hy => (a2e.1 hy).elim (h.un y) b0s
 have h2 := (b3B o (j8 p (nx.getD 0 []))).1
 simp only [List.length_append, List.length_drop, a2P] at *
 omega
@[go_sem] theorem c5p (l o : List (List UInt8)) : l ++ List.drop o.length o = l := by simp
def a5u : ACode := q' ([o' 2 (.box 2 (.t 0)), o' 4 (.mov (.k (.v false [.nl [.s []]])))]) (q' ([o' 12 (.bsl 1 0 [.s] []), m' 5 12]) (q' ([m' 13 1, o' 14 (.bsl 1 1 [.s] [(0, .t
 13)]), m' 6 14]) (.seq (.block 0 (.loop (.seq (q' ([m' 15 6, n' 16 15, o' 17 (.bin .gtr (.t 16) (k' 0))]) (.cond (.t 17) .skip (.exit 0))) (.block 1 (q' ([m'
 18 6, o' 19 (.ia 1 (.t 18) (k' 0)), l' 20 19, m' 7 20]) (q' ([m' 21 6, o' 22 (.slc 1 (.t 21) (some (k' 1)) none none), m' 6 22]) (q' ([f' 23 1 2, l' 24 23, n'
 25 24, z' 26 0]) (.block 2 (.loop (q' ([r' 27 26 25]) (.seq (.cond (.t 27) .skip (.exit 2)) (.seq (.block 3 (q' ([i' 28 4 24 26, e' 29 4 28, w' 9 [.i .i64,
 .s, .sl [.s [], .i .i64 0, .s []], .sl [.i .i64 0, .s [], .sl false [.s [], .i .i64 0, .s []] [], .i .i64 0, .s [], .i .i64 0, .s [], .s [], .i .i64 0, .s
 []]], s' 4 9 29]) (.seq (q' ([e' 30 2 2, e' 31 4 9, c' 32 79 [30, 31], o' 33 (.not (.t 32)), m' 34 33, ⟨some 35, .fa 1 (.t 9), some (34, false)⟩, ⟨some 36,
 .fa 0 (.t 35), some (34, false)⟩, ⟨some 37, .ld false 1 (.t 36), some (34, false)⟩, ⟨some 38, .mov (.t 7), some (34, false)⟩, ⟨some 39, .bin .neq (.t 37) (.t
 38), some (34, false)⟩, o' 40 (.pick (.t 34) (.k (.v false [.c (.b true)])) (.t 39))]) (.cond (.t 40) (.exit 3) .skip)) (q' ([e' 41 4 9, c' 42 168 [41], o' 43
 (.slc 2 (.t 42) (some (k' 1)) none none), n' 44 43, z' 45 0]) (.block 4 (.loop (q' ([r' 46 45 44]) (.seq (.cond (.t 46) .skip (.exit 4)) (.seq (.block 5 (q'
 ([i' 47 2 43 45, e' 48 2 47, w' 11 [.s, .sl [.s [], .i .i64 0, .s []]], s' 2 11 48]) (q' ([m' 49 5, f' 50 0 11, l' 51 50, c' 52 102 [49, 51], o' 53 (.not (.t
 52))]) (.cond (.t 53) (q' ([m' 54 5, f' 55 0 11, l' 56 55, o' 57 (.bsl 1 1 [.s] [(0, .t 56)]), o' 58 (.app 1 16 [.s] (.t 54) (.t 57)), m' 5 58]) (g' [m' 59 6,
 f' 60 0 11, l' 61 60, o' 62 (.bsl 1 1 [.s] [(0, .t 61)]), o' 63 (.app 1 16 [.s] (.t 59) (.t 62)), m' 6 63])) .skip)))) (g' [a' 64 45, m' 45 64])))))))))) (g'
 [a' 65 26, m' 26 65]))))))))))))) (q' ([m' 66 5, m' 4 66]) .ret))))
theorem b2E : cmp Tryz.prog Tryz.f99 = some a5u := by kernel_rfl
theorem b4S (p : GProgram) (v : List UInt8) (hpre : g8 p = true) : A0n Tryz.prog 99 [(true, [.sl false [.i .i64 0, .s [], .i .i64 0] (p.Decls.map GDecl.cells), .sl false [.i .i64 0, .s [], .sl false [.s [], .i .i64 0, .s []] [], .sl false [.i .i64 0, .s [], .sl false [.s [], .i .i64 0, .s []] [], .i .i64 0, .s [], .i .i64 0, .s [], .s [], .i .i64 0, .s []] []] (p.Rules.map (GRule.cells false false))]), (false, [.s v])] [] (.one (false, [.sl true [.s []] ((a3O p v).map c7)])) := by
 refine spec_of2 false false none Tryz.func99 b2E (rvs := [.t 4]) (hΓ := mkCtx_ok (deep := false) (l := [(79, [], t5), (168, [], a0d), (102, [], b3M)]) ⟨a1k, a3p, b0G, trivial⟩) (h := ?_)
 intro hb hE
 simp only [go_sem] at hb
 simp only [a5u, x']
 have hU := b0A hpre
 (try refine A2X ?_); simp only [go_sem, c9]; (repeat' first | apply CJ.mk | intro hc); all_goals try ((repeat' first | apply And.intro | intro hs) <;> (try simp only [go_sem, Bool.and_eq_false_iff] at hs) <;> omega)
 refine aw_loop2 false [(false, 5, 0, 100010), (false, 6, 0, 100012)] [2] [4] [] (fun i : {k : Nat // k + 2 * (a2P p - (itF p v k).1.length) + (itF p v k).2.length ≤ 2 * a2P p + 1} => [(5, .v false [.ow 100010]), (6, .v false [.ow 100012])]) (fun i => []) (fun i => [(100010, [.s []], ((itF p v i.1).1).map c7), (100012, [.s []], ((itF p v i.1).2).map c7)]) (fun i => 2 * a2P p + 2 - i.1) (⟨0, by simp [itF]⟩) _ (by simp only [go_sem, c9]; try rfl) ?_ ?_
 · simp only [go_sem, c9]
  all_goals first | omega | ((repeat' apply And.intro) <;> first | omega | rfl | skip)
 intro S0 hS0 i
 simp only [go_sem, c9] at hS0
 obtain ⟨k, hk⟩ := i
 obtain ⟨o, ho⟩ : ∃ o, (itF p v k).1 = o := ⟨_, rfl⟩
 obtain ⟨nx, hx⟩ : ∃ nx, (itF p v k).2 = nx := ⟨_, rfl⟩
 have hst : itF p v (k + 1) = b5A p (o, nx) := by rw [← ho, ← hx]; rfl
 have hI := b7z p v k
 have hfin : (itF p v k).2 = [] → (itF p v k).1 = a3O p v := fun h => c5e (by omega) h
 have hk2 := hk
 rw [ho, hx] at hI hfin hk2
 have hol : o.length ≤ a2P p := a4C hI.nd hI.un
 (try refine A2X ?_); simp only [go_sem, c9, hS0, ho, hx]; (repeat' first | apply CJ.mk | intro hc); all_goals try ((repeat' first | apply And.intro | intro hs) <;> (try simp only [go_sem, Bool.and_eq_false_iff] at hs) <;> omega)
 · have hn0 : 0 < nx.length := by omega
  generalize hxx : nx.getD 0 [] = x
  clear hc
  refine aw_loop2 false [(false, 5, 0, 100010), (false, 6, 0, 100012)] [2, 7, 24, 25] [4] [] (fun i : {i : Nat // i ≤ p.Rules.length} => [(5, .v false [.ow 100010]), (6, .v false [.ow 100012]), (26, slV (.i .i64 i.1))]) (fun i => []) (fun i => [(100010, [.s []], (m7 o (p5 p x i.1)).map c7), (100012, [.s []], (nx.drop 1 ++ (m7 o (p5 p x i.1)).drop o.length).map c7)]) (fun i => p.Rules.length - i.1) (⟨0, by simp⟩) _ (by simp only [go_sem, c9, hS0, ho, hx]; try rfl) ?_ ?_
  · simp only [go_sem, c9, hS0, ho, hx]
   all_goals first | omega | ((repeat' apply And.intro) <;> first | omega | rfl | skip)
  intro S1 hS1 i
  simp only [go_sem, c9, hS0, ho, hx] at hS1
  obtain ⟨n, hn⟩ := i
  have hF := b1T p x n
  have hA := b3B o (p5 p x n)
  (try refine A2X ?_); simp only [go_sem, c9, hS0, ho, hx, hS1]; (repeat' first | apply CJ.mk | intro hc); all_goals try ((repeat' first | apply And.intro | intro hs) <;> (try simp only [go_sem, Bool.and_eq_false_iff] at hs) <;> omega)
  · have hq : a1C p x (p.Rules.getD n default) = false := by
    rw [a1C]
    rcases hc with h | h
    · rw [h]; rfl
    · rw [h, Bool.and_false]
   (refine lpK_n2 (⟨n + 1, by omega⟩) _ (by simp only [go_sem, c9, hS0, ho, hx]; try rfl) ?_; simp only [go_sem, c9, hS0, ho, hx, hS1]; first | done | ((repeat' apply And.intro) <;> first | omega | (refine w64 ?_ ?_ ?_ <;> omega) | rfl | skip))
   all_goals rw [b9l (by omega) hq]
  · exact a4g hpre (by omega)
  · have := a3m (p.Rules.getD n default); omega
  · have hq : a1C p x (p.Rules.getD n default) = true := by rw [a1C, hc.1.1, hc.1.2, hc.2]; rfl
   have hdl : ((d4 (p.Rules.getD n default)).drop 1).length ≤ 8 := by
    have h1 := a4L (p.Rules.getD n default)
    have h2 := a4g hpre (show n < p.Rules.length by omega)
    rw [List.length_drop]; omega
   clear hc
   refine aw_loop2 false [(false, 5, 0, 100010), (false, 6, 0, 100012)] [2, 7, 24, 25, 26, 43, 44] [4] [5504] (fun i : {j : Nat // j ≤ ((d4 (p.Rules.getD n default)).drop 1).length} => [(5, .v false [.ow 100010]), (6, .v false [.ow 100012]), (45, slV (.i .i64 i.1))]) (fun i => []) (fun i => [(100010, [.s []], (m7 o (p5 p x n ++ (((d4 (p.Rules.getD n default)).drop 1).take i.1).map GAtom.Name)).map c7), (100012, [.s []], (nx.drop 1 ++ (m7 o (p5 p x n ++ (((d4 (p.Rules.getD n default)).drop 1).take i.1).map GAtom.Name)).drop o.length).map c7)]) (fun i => ((d4 (p.Rules.getD n default)).drop 1).length - i.1) (⟨0, by simp⟩) _ (by simp only [go_sem, c9, hS0, ho, hx, hS1]; try rfl) ?_ ?_
   · simp only [go_sem, c9, hS0, ho, hx, hS1]
    all_goals first | omega | ((repeat' apply And.intro) <;> first | omega | rfl | skip)
   intro S2 hS2 i
   simp only [go_sem, c9, hS0, ho, hx, hS1] at hS2
   obtain ⟨j, hj⟩ := i
   have hB := b3B o (p5 p x n ++ (((d4 (p.Rules.getD n default)).drop 1).take j).map GAtom.Name)
   rw [List.length_append, List.length_map, List.length_take] at hB
   (try refine A2X ?_); simp only [go_sem, c9, hS0, ho, hx, hS1, hS2]; (repeat' first | apply CJ.mk | intro hc); all_goals try ((repeat' first | apply And.intro | intro hs) <;> (try simp only [go_sem, Bool.and_eq_false_iff] at hs) <;> omega)
   all_goals first
    | ((try simp only [List.length_append, List.length_drop]); omega)
    | (have hm : ((((d4 (p.Rules.getD n default)).drop 1).getD j default).Name) ∈ m7 o (p5 p x n ++ (((d4 (p.Rules.getD n default)).drop 1).take j).map GAtom.Name) := List.contains_iff_mem.1 hc
       (refine lpK_n2 (⟨j + 1, by omega⟩) _ (by simp only [go_sem, c9, hS0, ho, hx, hS1]; try rfl) ?_; simp only [go_sem, c9, hS0, ho, hx, hS1, hS2]; first | done | ((repeat' apply And.intro) <;> first | omega | (refine w64 ?_ ?_ ?_ <;> omega) | rfl | skip))
       all_goals rw [a8m (by omega), ← List.append_assoc, b7j hm]
       done)
    | (have hm : ¬ ((((d4 (p.Rules.getD n default)).drop 1).getD j default).Name) ∈ m7 o (p5 p x n ++ (((d4 (p.Rules.getD n default)).drop 1).take j).map GAtom.Name) := fun h => by rw [List.contains_iff_mem.2 h] at hc; cases hc
       (refine lpK_n2 (⟨j + 1, by omega⟩) _ (by simp only [go_sem, c9, hS0, ho, hx, hS1]; try rfl) ?_; simp only [go_sem, c9, hS0, ho, hx, hS1, hS2]; first | done | ((repeat' apply And.intro) <;> first | omega | (refine w64 ?_ ?_ ?_ <;> omega) | rfl | skip))
       all_goals rw [a8m (by omega), ← List.append_assoc, b5K hm]
       all_goals first | done | rw [List.drop_append_of_le_length (by omega), ← List.append_assoc] | trace_state)
    | (have he : p5 p x n ++ (((d4 (p.Rules.getD n default)).drop 1).take j).map GAtom.Name = p5 p x (n + 1) := by rw [c6 (by omega), b6V (by omega) hq]; rfl
       rw [he]
       (refine lpK_n2 (⟨n + 1, by omega⟩) _ (by simp only [go_sem, c9, hS0, ho, hx, hS1]; try rfl) ?_; simp only [go_sem, c9, hS0, ho, hx, hS1, hS2]; first | done | ((repeat' apply And.intro) <;> first | omega | (refine w64 ?_ ?_ ?_ <;> omega) | rfl | skip))
       first | done | trace_state)
    | trace_state
  · have he : p5 p x n = j8 p x := b1S (by omega)
   have hms := step_ms hI hk2 hn0
   have h1 : (itF p v (k + 1)).1 = m7 o (p5 p x n) := by rw [hst, b5B hn0, hxx, he]
   have h2 : (itF p v (k + 1)).2 = nx.drop 1 ++ (m7 o (p5 p x n)).drop o.length := by rw [hst, b5B hn0, hxx, he]
   (refine lpK_n2 (⟨k + 1, by rw [hst]; exact hms⟩) _ (by simp only [go_sem, c9, hS0, ho, hx, hS1]; try rfl) ?_; simp only [go_sem, c9, hS0, ho, hx, hS1]; first | done | ((repeat' apply And.intro) <;> first | omega | (refine w64 ?_ ?_ ?_ <;> omega) | rfl | skip))
   all_goals first | rw [h1] | rw [h2] | omega
 · rw [hfin (List.length_eq_zero_iff.1 (by omega))]
noncomputable def a2p : CT := l9 (fun (x : GProgram × (List UInt8)) h => b4S x.1 x.2 h)
@[go_sem] theorem c1x (p_Decls : List GDecl) (p_Rules : List GRule) (v : List UInt8) : a2p [(true, [.sl false [.i .i64 0, .s [], .i .i64 0] (p_Decls.map GDecl.cells), .sl false [.i .i64 0, .s [], .sl false [.s [], .i .i64 0, .s []] [], .sl false [.i .i64 0, .s [], .sl false [.s [], .i .i64 0, .s []] [], .i .i64 0, .s [], .i .i64 0, .s [], .s [], .i .i64 0, .s []] []] (p_Rules.map (GRule.cells false false))]), (false, [.s v])] = some (g8 (GProgram.mk p_Decls p_Rules) = true, [], .one (false, [.sl true [.s []] ((a3O (GProgram.mk p_Decls p_Rules) v).map c7)])) := d5 _ (by rintro ⟨⟨_, _⟩, _⟩ ⟨⟨_, _⟩, _⟩ h; simp at h; simp_all) ((GProgram.mk p_Decls p_Rules), v)
theorem a9l : OkC Tryz.prog 99 a2p := d6 _
theorem c4V {p : GProgram} {a b : List UInt8} (h : ((c8 p).1 == 0) = false) : a0s p a b = false := by rw [a0s, h]; rfl
theorem c3y {p : GProgram} {a b : List UInt8} (h : ((c8 p).1 == 0) = true) : a0s p a b = (a3O p a).contains b := by
 rw [a0s, h, Bool.true_and, a9E (b5q.trans c0Z.symm)]
theorem c0W {p : GProgram} {a b : List UInt8} (h : ((c8 p).1 == 0) = true) {l : List (List UInt8)} (h1 : ∀ x ∈ l, Rch p a x) (h2 : ∀ x ∈ j8 p a, x ∈ l) (h3 : ∀ x ∈ l, ∀ y ∈ j8 p x, y ∈ l) : a0s p a b = l.contains b := by
 rw [a0s, h, Bool.true_and, a9E (b5q.trans ⟨fun h => h.mem h2 h3, fun h => h1 _ h⟩)]
theorem c5a {p : GProgram} (h : g8 p = true) (a : List UInt8) : (d9 sLt [] (j8 p a)).length ≤ 192 := by
 have h1 := s5 sLt (j8 p a) []
 have h2 := b1T p a p.Rules.length
 rw [b1S (by omega)] at h2
 have h3 := b0A h
 simp only [List.length_nil] at h1
 omega
theorem c2d {p : GProgram} (hB : g8 p = true) {a : List UInt8} {l : List (List UInt8)} (hs : SS sLt l) (h : ∀ x ∈ l, Rch p a x) : l.length ≤ 192 :=
 Nat.le_trans (a4C (hs.nodup e8) fun x hx => (h x hx).all) (b0A hB)
def a8a : ACode := q' ([o' 3 (.box 2 (.t 0)), b' 6 false]) (q' ([e' 16 2 3, c' 17 62 [16], m' 15 17, o' 18 (.ext (.t 15) 0), o' 19 (.ext (.t 15) 1), m' 7 18, m' 8 19]) (.seq (q'
 ([m' 20 7, o' 21 (.bin .neq (.t 20) (k' 0))]) (.cond (.t 21) (q' ([b' 6 false]) .ret) .skip)) (q' ([e' 22 2 3, m' 23 1, c' 24 167 [22, 23], m' 9 24]) (.seq
 (q' ([o' 10 (.mov (.k (.v false [.c (.i .i64 (-1))])))]) (.block 0 (.loop (.seq (q' ([m' 25 10, m' 26 9, n' 27 26, r' 28 25 27]) (.cond (.t 28) .skip (.exit
 0))) (.block 1 (q' ([m' 29 9, n' 30 29, m' 10 30]) (q' ([m' 31 9, n' 32 31, z' 33 0]) (.block 2 (.loop (q' ([r' 34 33 32]) (.seq (.cond (.t 34) .skip (.exit
 2)) (.seq (.block 3 (q' ([i' 35 1 31 33, l' 36 35, m' 12 36]) (q' ([e' 37 2 3, m' 38 12, c' 39 167 [37, 38], n' 40 39, z' 41 0]) (.block 4 (.loop (q' ([r' 42
 41 40]) (.seq (.cond (.t 42) .skip (.exit 4)) (.seq (.block 5 (q' ([i' 43 1 39 41, l' 44 43, m' 14 44]) (g' [m' 45 9, m' 46 14, c' 47 98 [45, 46], m' 9 47])))
 (g' [a' 48 41, m' 41 48]))))))))) (g' [a' 49 33, m' 33 49]))))))))))))) (q' ([m' 50 9, m' 51 2, c' 52 153 [50, 51], m' 6 52]) .ret)))))
theorem b5T : cmp Tryz.prog Tryz.f97 = some a8a := by kernel_rfl
theorem b7M (p : GProgram) (a : List UInt8) (b : List UInt8) : A0n Tryz.prog 97 [(true, [.sl false [.i .i64 0, .s [], .i .i64 0] (p.Decls.map GDecl.cells), .sl false [.i .i64 0, .s [], .sl false [.s [], .i .i64 0, .s []] [], .sl false [.i .i64 0, .s [], .sl false [.s [], .i .i64 0, .s []] [], .i .i64 0, .s [], .i .i64 0, .s [], .s [], .i .i64 0, .s []] []] (p.Rules.map (GRule.cells false false))]), (false, [.s a]), (false, [.s b])] [] (.one (false, [.b (a0s p a b)])) := by
 refine spec_of2 false false none Tryz.func97 b5T (rvs := [.t 6]) (hΓ := mkCtx_ok (deep := false) (l := [(62, [], o7), (167, [], a2J), (98, [], a1e), (153, [], w3)]) ⟨u1, a9C, a4x, a0K, trivial⟩) (h := ?_)
 intro hb hE
 simp only [go_sem] at hb
 simp only [a8a, x']
 (try refine A2X ?_); simp only [go_sem]; (repeat' first | apply CJ.mk | intro hc); all_goals try ((repeat' first | apply And.intro | intro hs) <;> (try simp only [go_sem, Bool.and_eq_false_iff] at hs) <;> omega)
 · rw [c4V (by simpa [bne] using hc)]
 · exact a0N (by simpa [bne] using hc)
 have hN : ((c8 p).1 == 0) = true := by simpa [bne] using hc
 have hB := a0N hN
 clear hc
 refine aw_loop2 false [] [2, 3] [6] [] (fun i : {q : Int × List (List UInt8) // -1 ≤ q.1 ∧ q.1 ≤ q.2.length ∧ SS sLt q.2 ∧ (∀ x ∈ q.2, Rch p a x) ∧ (∀ x ∈ j8 p a, x ∈ q.2) ∧ (q.1 = q.2.length → ∀ x ∈ q.2, ∀ y ∈ j8 p x, y ∈ q.2)} => [(9, .v false [.c (.sl false [.s []] (i.1.2.map c7))]), (10, slV (.i .i64 i.1.1))]) (fun i => []) (fun i => []) (fun i => (200 - i.1.1).toNat) (⟨(-1, d9 sLt [] (j8 p a)), by simp, by simp only; omega, SS.puts e8 SS.nil, fun x hx => .one (by simpa [j7] using hx), fun x hx => j7.2 (.inr hx), by intro h; simp only at h; omega⟩) _ rfl ?_ ?_
 · simp only [go_sem]
  all_goals first | omega | ((repeat' apply And.intro) <;> first | omega | rfl | skip)
 intro S0 hS0 i
 simp only [go_sem] at hS0
 obtain ⟨⟨m, l⟩, hm1, hm2, hs, hR, hI, hC⟩ := i
 simp only at hm1 hm2 hs hR hI hC
 have hl := c2d hB hs hR
 (try refine A2X ?_); simp only [go_sem, hS0]; (repeat' first | apply CJ.mk | intro hc); all_goals try ((repeat' first | apply And.intro | intro hs) <;> (try simp only [go_sem, Bool.and_eq_false_iff] at hs) <;> omega)
 · have hml := hc
  clear hc
  refine aw_loop2 false [] [2, 3, 10, 31, 32] [6] [] (fun i : {q : Nat × List (List UInt8) // q.1 ≤ l.length ∧ SS sLt q.2 ∧ (∀ x ∈ q.2, Rch p a x) ∧ (∀ x ∈ l, x ∈ q.2) ∧ l.length ≤ q.2.length ∧ (q.2.length = l.length → q.2 = l ∧ ∀ x ∈ l.take q.1, ∀ y ∈ j8 p x, y ∈ l)} => [(9, .v false [.c (.sl false [.s []] (i.1.2.map c7))]), (33, slV (.i .i64 i.1.1))]) (fun i => []) (fun i => []) (fun i => l.length - i.1.1) (⟨(0, l), by simp, hs, hR, fun x hx => hx, Nat.le_refl _, fun _ => ⟨rfl, by simp⟩⟩) _ rfl ?_ ?_
  · simp only [go_sem, hS0]
   all_goals first | omega | ((repeat' apply And.intro) <;> first | omega | rfl | skip)
  intro S1 hS1 i
  simp only [go_sem, hS0] at hS1
  obtain ⟨⟨n, l1⟩, hn, hs1, hR1, hI1, hl1, hC1⟩ := i
  simp only at hn hs1 hR1 hI1 hl1 hC1
  have hll1 := c2d hB hs1 hR1
  have hyl := c5a hB (l.getD n [])
  (try refine A2X ?_); simp only [go_sem, hS0, hS1]; (repeat' first | apply CJ.mk | intro hc); all_goals try ((repeat' first | apply And.intro | intro hs) <;> (try simp only [go_sem, Bool.and_eq_false_iff] at hs) <;> omega)
  · have hnl := hc
   clear hc
   generalize hys : d9 sLt [] (j8 p (l.getD n [])) = ys at hyl ⊢
   refine aw_loop2 false [] [2, 3, 10, 31, 32, 33, 39, 40] [6] [] (fun i : {j : Nat // j ≤ ys.length} => [(9, .v false [.c (.sl false [.s []] ((d9 sLt l1 (ys.take i.1)).map c7))]), (41, slV (.i .i64 i.1))]) (fun i => []) (fun i => []) (fun i => ys.length - i.1) (⟨0, by simp⟩) _ rfl ?_ ?_
   · simp only [go_sem, hS0, hS1]
    all_goals first | omega | ((repeat' apply And.intro) <;> first | omega | rfl | skip)
   intro S2 hS2 i
   simp only [go_sem, hS0, hS1] at hS2
   obtain ⟨j, hj⟩ := i
   have h2 := s5 sLt (ys.take j) l1
   rw [List.length_take] at h2
   (try refine A2X ?_); simp only [go_sem, hS0, hS1, hS2]; (repeat' first | apply CJ.mk | intro hc); all_goals try ((repeat' first | apply And.intro | intro hs) <;> (try simp only [go_sem, Bool.and_eq_false_iff] at hs) <;> omega)
   all_goals first
    | omega
    | ((refine lpK_n2 (⟨j + 1, by omega⟩) _ rfl ?_; simp only [go_sem, hS0, hS1, hS2]; first | done | ((repeat' apply And.intro) <;> first | omega | (refine w64 ?_ ?_ ?_ <;> omega) | rfl | skip)); rw [d3 [] (by omega), a7s]; done)
    | (have he : ys.take j = ys := c6 (by omega)
       have hmy : ∀ y, y ∈ ys ↔ y ∈ j8 p (l.getD n []) := fun y => by rw [← hys, j7]; simp
       have hx : Rch p a (l.getD n []) := hR _ (A3n (by omega))
       have g1 : ∀ y ∈ d9 sLt l1 ys, Rch p a y := fun y hy => (j7.1 hy).elim (hR1 y) fun hy => .step hx ((hmy y).1 hy)
       have g2 := b7R sLt ys l1
       have g3 : (d9 sLt l1 ys).length = l.length → d9 sLt l1 ys = l ∧ ∀ x ∈ l.take (n + 1), ∀ y ∈ j8 p x, y ∈ l := fun e => by
        have e1 := b6W (lt := sLt) (r := ys) (l := l1) (by omega)
        have e2 := hC1 (by omega)
        refine ⟨e1.1.trans e2.1, fun x hx y hy => ?_⟩
        rw [d3 [] (by omega), List.mem_append, List.mem_singleton] at hx
        rcases hx with hx | rfl
        · exact e2.2 x hx y hy
        · rw [← e2.1]; exact e1.2 y ((hmy y).2 hy)
       rw [he]
       (refine lpK_n2 (⟨(n + 1, d9 sLt l1 ys), by simp only; omega, SS.puts e8 hs1, g1, fun x hx => j7.2 (.inl (hI1 x hx)), by simp only; omega, g3⟩) _ rfl ?_; simp only [go_sem, hS0, hS1, hS2]; first | done | ((repeat' apply And.intro) <;> first | omega | (refine w64 ?_ ?_ ?_ <;> omega) | rfl | skip))
       first | done | trace_state)
    | trace_state
  · have g : (l.length : Int) = l1.length → ∀ x ∈ l1, ∀ y ∈ j8 p x, y ∈ l1 := fun e => by
    have e2 := hC1 (by omega)
    have e3 := e2.2
    rw [c6 (by omega)] at e3
    rw [e2.1]; exact e3
   (refine lpK_n2 (⟨((l.length : Int), l1), by simp only; omega, by simp only; omega, hs1, hR1, fun x hx => hI1 x (hI x hx), g⟩) _ rfl ?_; simp only [go_sem, hS0, hS1]; first | done | ((repeat' apply And.intro) <;> first | omega | (refine w64 ?_ ?_ ?_ <;> omega) | rfl | skip))
   all_goals first | omega | done | trace_state
 · rw [c0W hN hR hI (hC (by omega))]
noncomputable def a5a : CT := d7 (fun (x : GProgram × (List UInt8) × (List UInt8)) => b7M x.1 x.2.1 x.2.2)
@[go_sem] theorem c3X (p_Decls : List GDecl) (p_Rules : List GRule) (a : List UInt8) (b : List UInt8) : a5a [(true, [.sl false [.i .i64 0, .s [], .i .i64 0] (p_Decls.map GDecl.cells), .sl false [.i .i64 0, .s [], .sl false [.s [], .i .i64 0, .s []] [], .sl false [.i .i64 0, .s [], .sl false [.s [], .i .i64 0, .s []] [], .i .i64 0, .s [], .i .i64 0, .s [], .s [], .i .i64 0, .s []] []] (p_Rules.map (GRule.cells false false))]), (false, [.s a]), (false, [.s b])] = some (True, [], .one (false, [.b (a0s (GProgram.mk p_Decls p_Rules) a b)])) := c4 _ (by rintro ⟨⟨_, _⟩, _, _⟩ ⟨⟨_, _⟩, _, _⟩ h; simp at h; simp_all) ((GProgram.mk p_Decls p_Rules), a, b)
theorem b2t : OkC Tryz.prog 97 a5a := c5 _
end Go.Aw
