/- The bodies of a rule: the mathematics. No condition. -/
import Derived.Test.YthlbadfickhkfaaGreatzhT29
import Derived.Test.YthlbadfickhkfaaGreatzhT7
namespace Go.Aw
open Go.Proofs
set_option linter.unusedVariables false
set_option linter.unusedSimpArgs false
set_option maxRecDepth 100000
theorem STO.two {α β γ : Type} {lb : β → β → Bool} {lg : γ → γ → Bool} (ob : STO lb) (og : STO lg) (f : α → β) (g : α → γ) (inj : ∀ x y, f x = f y → g x = g y → x = y) : STO fun x y => lb (f x) (f y) || (!lb (f y) (f x) && lg (g x) (g y)) where
 irr x := by rw [ob.irr, og.irr]; rfl
 tr x y z h1 h2 := by
  simp only [Bool.or_eq_true, Bool.and_eq_true, Bool.not_eq_true'] at h1 h2 ⊢
  rcases h1 with h1 | ⟨h1, h1'⟩
  ·rcases h2 with h2 | ⟨h2, h2'⟩
   ·exact .inl (ob.tr _ _ _ h1 h2)
   ·cases h : lb (f y) (f z) with
    | true => exact .inl (ob.tr _ _ _ h1 h)
    | false => rw [← ob.tri _ _ h h2]; exact .inl h1
  ·cases h : lb (f x) (f y) with
   | true =>
     rcases h2 with h2 | ⟨h2, h2'⟩
     ·exact .inl (ob.tr _ _ _ h h2)
     ·cases h3 : lb (f y) (f z) with
      | true => exact .inl (ob.tr _ _ _ h h3)
      | false => rw [← ob.tri _ _ h3 h2]; exact .inl h
   | false =>
     rw [ob.tri _ _ h h1]
     rcases h2 with h2 | ⟨h2, h2'⟩
     ·exact .inl h2
     ·exact .inr ⟨h2, og.tr _ _ _ h1' h2'⟩
 tri x y h1 h2 := by
  simp only [Bool.or_eq_false_iff, Bool.and_eq_false_iff, Bool.not_eq_false'] at h1 h2
  obtain ⟨a1, a2⟩ := h1
  obtain ⟨b1, b2⟩ := h2
  rcases a2 with a2 | a2
  ·rw [b1] at a2; cases a2
  rcases b2 with b2 | b2
  ·rw [a1] at b2; cases b2
  exact inj _ _ (ob.tri _ _ a1 b1) (og.tri _ _ a2 b2)
def b0U {α : Type} (lt : α → α → Bool) : List α → List α → Bool
 | _, [] => false
 | [], _ :: _ => true
 | x :: a, y :: b => lt x y || (!lt y x && b0U lt a b)
theorem STO.lex {α : Type} {lt : α → α → Bool} (o : STO lt) : STO (b0U lt) where
 irr x := by
  induction x with
  | nil => rfl
  | cons x a ih => rw [b0U, o.irr, ih]; rfl
 tr x := by
  induction x with
  | nil =>
    intro y z h1 h2
    cases z with
    | nil => cases y <;> simp [b0U] at h2
    | cons z c => rfl
  | cons x a ih =>
    intro y z h1 h2
    cases y with
    | nil => simp [b0U] at h1
    | cons y b =>
      cases z with
      | nil => simp [b0U] at h2
      | cons z c =>
        simp only [b0U, Bool.or_eq_true, Bool.and_eq_true, Bool.not_eq_true'] at h1 h2 ⊢
        rcases h1 with h1 | ⟨h1, h1'⟩
        ·rcases h2 with h2 | ⟨h2, h2'⟩
         ·exact .inl (o.tr _ _ _ h1 h2)
         ·cases h : lt y z with
          | true => exact .inl (o.tr _ _ _ h1 h)
          | false => rw [← o.tri _ _ h h2]; exact .inl h1
        ·cases h : lt x y with
         | true =>
           rcases h2 with h2 | ⟨h2, h2'⟩
           ·exact .inl (o.tr _ _ _ h h2)
           ·cases h3 : lt y z with
            | true => exact .inl (o.tr _ _ _ h h3)
            | false => rw [← o.tri _ _ h3 h2]; exact .inl h
         | false =>
           rw [o.tri _ _ h h1]
           rcases h2 with h2 | ⟨h2, h2'⟩
           ·exact .inl h2
           ·exact .inr ⟨h2, ih _ _ h1' h2'⟩
 tri x := by
  induction x with
  | nil =>
    intro y h1 h2
    cases y with
    | nil => rfl
    | cons y b => simp [b0U] at h1
  | cons x a ih =>
    intro y h1 h2
    cases y with
    | nil => simp [b0U] at h2
    | cons y b =>
      simp only [b0U, Bool.or_eq_false_iff, Bool.and_eq_false_iff, Bool.not_eq_false'] at h1 h2
      obtain ⟨a1, a2⟩ := h1
      obtain ⟨b1, b2⟩ := h2
      rcases a2 with a2 | a2
      ·rw [b1] at a2; cases a2
      rcases b2 with b2 | b2
      ·rw [a1] at b2; cases b2
      rw [o.tri _ _ a1 b1, ih _ a2 b2]
def vLt (a b : c6) : Bool := Op.bytesLess a.S b.S || (!Op.bytesLess b.S a.S && iLt a.N b.N)
theorem vLt_sto : STO vLt := STO.two t8 c4y c6.S c6.N fun x y h1 h2 => by cases x; cases y; simp_all
def bLt (a b : c7) : Bool := Op.bytesLess a.Var b.Var || (!Op.bytesLess b.Var a.Var && vLt a.Val b.Val)
theorem b9q : STO bLt := STO.two t8 vLt_sto c7.Var c7.Val fun x y h1 h2 => by cases x; cases y; simp_all
def o9 (a b : c8) : Bool := b0U bLt a.Binds b.Binds
theorem a1g : STO o9 where
 irr x := b9q.lex.irr _
 tr x y z := b9q.lex.tr _ _ _
 tri x y h1 h2 := by
  have := b9q.lex.tri _ _ h1 h2
  cases x; cases y; simp_all
theorem c8s {a b : c6} (ha : i5 a = true) (hb : i5 b = true) : vLt a b = m9 a b := by
 have hn : ∀ v : c6, i5 v = true → (v.S == []) = false → v.N = 0 := by
  intro v hv hs
  rw [i5, hs, cond_false, Bool.and_eq_true] at hv
  simpa using hv.1
 rw [vLt, m9]
 cases h1 : a.S == [] with
 | true =>
   rw [beq_iff_eq] at h1
   cases h2 : b.S == [] with
   | true =>
     rw [beq_iff_eq] at h2
     rw [h1, h2]; rfl
   | false =>
     rw [h1]
     cases hbs : b.S with
     | nil => rw [hbs] at h2; cases h2
     | cons x y => rfl
 | false =>
   rw [Bool.false_and, cond_false, hn a ha h1]
   cases h2 : b.S == [] with
   | true =>
     rw [beq_iff_eq] at h2
     rw [h2]
     cases has : a.S with
     | nil => rw [has] at h1; cases h1
     | cons x y => rfl
   | false =>
     rw [hn b hb h2, c4y.irr, Bool.and_false, Bool.or_false]
theorem c6b (n : Nat) (f : Nat → Int) : a1f (n + 1) f = if f 0 = 0 then a1f n (fun i => f (i + 1)) else f 0 := by
 induction n with
 | zero => simp [a1f]
 | succ n ih =>
   rw [a1f, ih]
   by_cases h : f 0 = 0
   ·rw [if_pos h, if_pos h, a1f]
   ·rw [if_neg h, if_neg h, if_neg h]
def okB (l : List c7) : Prop := ∀ b ∈ l, i5 b.Val = true
theorem b5f : ∀ {a b : List c7}, okB a → okB b → a.map c7.Var = b.map c7.Var → a2n a b = bif b0U bLt a b then -1 else bif b0U bLt b a then 1 else 0
 | [], [], _, _, _ => rfl
 | [], y :: b, _, _, h => by cases h
 | x :: a, [], _, _, h => by cases h
 | x :: a, y :: b, ha, hb, h => by
   simp only [List.map_cons, List.cons.injEq] at h
   have ih := b5f (a := a) (b := b) (fun z hz => ha z (by simp [hz])) (fun z hz => hb z (by simp [hz])) h.2
   have hx := ha x (by simp)
   have hy := hb y (by simp)
   rw [a2n] at ih
   have e1 : bLt x y = m9 x.Val y.Val := by rw [bLt, h.1, a1l, c8s hx hy]; simp
   have e2 : bLt y x = m9 y.Val x.Val := by rw [bLt, h.1, a1l, c8s hy hx]; simp
   rw [a2n, List.length_cons, c6b]
   simp only [List.getD_cons_zero, List.getD_cons_succ, b0U, e1, e2, ih]
   rw [a8u]
   cases h1 : m9 x.Val y.Val with
   | true => rfl
   | false =>
     cases h2 : m9 y.Val x.Val with
     | true => rfl
     | false => rfl
def b5j (args : List c4) (e : c8) (row : c9) : Option c8 := bif (a2z e args row).2 then some (a2z e args row).1 else none
def a3T (args : List c4) (rows : List c9) (e : c8) : List c8 := rows.filterMap (b5j args e)
def n0 (args : List c4) (rows : List c9) (now : List c8) : List c8 := now.flatMap (a3T args rows)
def y9 (r : d3) (s : d7) : Nat → Option (List c8)
 | 0 => some [⟨[]⟩]
 | n + 1 => (y9 r s n).bind fun now => bif (r.Body.getD n default).Kind == 1 then (bif decide ((n0 (r.Body.getD n default).Atom.Args (s7 s (r.Body.getD n default).Atom.Name).1.Rows now).length ≤ 2000) then some (n0 (r.Body.getD n default).Atom.Args (s7 s (r.Body.getD n default).Atom.Name).1.Rows now) else none) else some now
def y4 (r : d3) (s : d7) : List c8 × Bool := match y9 r s r.Body.length with | some l => (l, true) | none => ([], false)
theorem b6h {r : d3} {s : d7} {i : Nat} (h : y9 r s i = none) : ∀ {n : Nat}, i ≤ n → y9 r s n = none
 | 0, hn => by
   obtain rfl : i = 0 := by omega
   exact h
 | n + 1, hn => by
   rcases Nat.lt_or_ge i (n + 1) with h1 | h1
   ·rw [y9, b6h h (show i ≤ n by omega)]; rfl
   ·obtain rfl : i = n + 1 := by omega
    exact h
theorem b8D (args : List c4) (rows : List c9) (now : List c8) (j : Nat) : (n0 args rows (now.take j)).length ≤ (n0 args rows now).length := by
 conv => rhs; rw [← List.take_append_drop j now]
 rw [n0, n0, List.flatMap_append, List.length_append]
 omega
theorem c3A {args : List c4} {rows : List c9} {now : List c8} {j : Nat} (h : j < now.length) : n0 args rows (now.take (j + 1)) = n0 args rows (now.take j) ++ a3T args rows (now.getD j default) := by
 rw [i9 default h, n0, n0, List.flatMap_append]; simp
theorem c8k {args : List c4} {rows : List c9} {e c : c8} {k : Nat} (h : k < rows.length) (hf : b5j args e (rows.getD k default) = some c) : a3T args (rows.take (k + 1)) e = a3T args (rows.take k) e ++ [c] := by
 rw [i9 default h, a3T, a3T, List.filterMap_append, List.filterMap_cons, hf]; rfl
theorem rows_no {args : List c4} {rows : List c9} {e : c8} {k : Nat} (h : k < rows.length) (hf : b5j args e (rows.getD k default) = none) : a3T args (rows.take (k + 1)) e = a3T args (rows.take k) e := by
 rw [i9 default h, a3T, a3T, List.filterMap_append, List.filterMap_cons, hf]; simp
theorem c6x (args : List c4) (rows : List c9) (e : c8) : (a3T args rows e).length ≤ rows.length := List.length_filterMap_le _ _
theorem b5k {args : List c4} {e : c8} {row : c9} (h : (a2z e args row).2 = true) : b5j args e row = some (a2z e args row).1 := by rw [b5j, h]; rfl
theorem b9F {args : List c4} {e : c8} {row : c9} (h : (a2z e args row).2 = false) : b5j args e row = none := by rw [b5j, h]; rfl
theorem b8U {r : d3} {s : d7} {i j : Nat} {now : List c8} (hj : y9 r s i = some now) (hi : i < r.Body.length) (hk : ((r.Body.getD i default).Kind == 1) = true) (hl : 2000 < (n0 (r.Body.getD i default).Atom.Args (s7 s (r.Body.getD i default).Atom.Name).1.Rows (now.take j)).length) : y4 r s = ([], false) := by
 have h1 := b8D (r.Body.getD i default).Atom.Args (s7 s (r.Body.getD i default).Atom.Name).1.Rows now j
 have h2 : y9 r s (i + 1) = none := by rw [y9, hj, Option.bind_some, hk, cond_true, decide_eq_false (by omega)]; rfl
 rw [y4, b6h h2 (show i + 1 ≤ r.Body.length by omega)]
theorem c1m {r : d3} {s : d7} {i : Nat} {now : List c8} (hj : y9 r s i = some now) (hk : ((r.Body.getD i default).Kind == 1) = true) (hl : (n0 (r.Body.getD i default).Atom.Args (s7 s (r.Body.getD i default).Atom.Name).1.Rows now).length ≤ 2000) : y9 r s (i + 1) = some (n0 (r.Body.getD i default).Atom.Args (s7 s (r.Body.getD i default).Atom.Name).1.Rows now) := by
 rw [y9, hj, Option.bind_some, hk, cond_true, decide_eq_true hl]; rfl
theorem b6i {r : d3} {s : d7} {i : Nat} {now : List c8} (hj : y9 r s i = some now) (hk : ((r.Body.getD i default).Kind == 1) = false) : y9 r s (i + 1) = some now := by
 rw [y9, hj, Option.bind_some, hk]; rfl
theorem c1n {r : d3} {s : d7} {now : List c8} (hj : y9 r s r.Body.length = some now) : y4 r s = (now, true) := by rw [y4, hj]
theorem b2o {r : d3} {s : d7} {n : Nat} {now : List c8} (h : y9 r s n = some now) : now.length ≤ 2000 := by
 induction n generalizing now with
 | zero => simp only [y9, Option.some.injEq] at h; subst h; simp
 | succ n ih =>
   rw [y9] at h
   obtain ⟨d, h1, h2⟩ := Option.bind_eq_some_iff.1 h
   cases hk : (r.Body.getD n default).Kind == 1 with
   | false => rw [hk, cond_false, Option.some.injEq] at h2; subst h2; exact ih h1
   | true =>
     rw [hk, cond_true] at h2
     by_cases hl : (n0 (r.Body.getD n default).Atom.Args (s7 s (r.Body.getD n default).Atom.Name).1.Rows d).length ≤ 2000
     ·rw [decide_eq_true hl, cond_true, Option.some.injEq] at h2; subst h2; exact hl
     ·rw [decide_eq_false hl] at h2; cases h2
def ExtB (b c : List c7) : Prop := ∀ s x, Back b s x → Back c s x
theorem ExtB.refl (b : List c7) : ExtB b b := fun _ _ h => h
theorem ExtB.trans {b c d : List c7} (h1 : ExtB b c) (h2 : ExtB c d) : ExtB b d := fun s x h => h2 s x (h1 s x h)
def dom1 (vs : List (List UInt8)) (t : c4) : List (List UInt8) := bif t.Var == [] then vs else w6 Op.bytesLess vs t.Var
theorem c7S {b c : List c7} {t : c4} {v : c6} (h : b7o b t v = some c) : c.map c7.Var = dom1 (b.map c7.Var) t := by
 rcases a9I h with ⟨rfl, h1⟩ | ⟨rfl, h1, h2⟩
 ·rw [dom1]
  cases ht : t.Var == [] with
  | true => rfl
  | false =>
    unfold Back at h1
    rw [i4, ht, cond_false] at h1
    rw [cond_false, w6, if_pos (c8c.1 (by rw [h1]))]
 ·rw [dom1, h1, cond_false, a2E v (a8f h2)]
theorem c1g {b : List c7} {args : List c4} {vs : List c6} : ∀ {n : Nat} {c : List c7}, n ≤ args.length → a0L b args vs n = some c → c.map c7.Var = (args.take n).foldl dom1 (b.map c7.Var)
 | 0, c, _, h => by
   simp only [a0L, Option.some.injEq] at h
   subst h; rfl
 | n + 1, c, hn, h => by
   rw [a0L] at h
   obtain ⟨d, h1, h2⟩ := Option.bind_eq_some_iff.1 h
   rw [i9 default (by omega), List.foldl_append, ← c1g (by omega) h1, c7S h2]; rfl
structure FitFact (args : List c4) (e : c8) (row : c9) (c : c8) : Prop where
 len : args.length = row.V.length
 back : ∀ i, i < args.length → Back c.Binds (args.getD i default) (row.V.getD i default)
 ext : ExtB e.Binds c.Binds
 dom : c.Binds.map c7.Var = args.foldl dom1 (e.Binds.map c7.Var)
 ok : EnvS e.Binds → args.all m0 = true → row.V.all i5 = true → EnvS c.Binds
 lenB : c.Binds.length ≤ e.Binds.length + args.length
theorem a1D {args : List c4} {e : c8} {row : c9} {c : c8} (h : b5j args e row = some c) : FitFact args e row c := by
 cases h2 : (a2z e args row).2 with
 | false => rw [b9F h2] at h; cases h
 | true =>
   rw [b5k h2, Option.some.injEq] at h
   subst h
   obtain ⟨hl, hf⟩ := fitR_on h2
   refine ⟨hl, (b1L hf).1, (b1L hf).2, ?_, fun hE ha hv => hE.fits ha hv (Nat.le_refl _) (by omega) hf, b0y hf⟩
   rw [c1g (Nat.le_refl _) hf, List.take_length]
theorem c6f {l : List c7} (hn : (l.map c7.Var).Nodup) {b : c7} (hb : b ∈ l) : l.find? (fun x => x.Var == b.Var) = some b := by
 induction l with
 | nil => cases hb
 | cons a l ih =>
   rw [List.map_cons, List.nodup_cons] at hn
   rw [List.find?_cons]
   rcases List.mem_cons.1 hb with rfl | hb
   ·rw [beq_self_eq_true]
   ·have : (a.Var == b.Var) = false := beq_eq_false_iff_ne.2 fun e => hn.1 (e ▸ List.mem_map.2 ⟨b, hb, rfl⟩)
    rw [this]
    exact ih hn.2 hb
theorem c1P {v : List UInt8} (h : a3V v = true) : (v == []) = false := by
 cases v with
 | nil => revert h; decide
 | cons a v => rfl
theorem EnvS.nodup {l : List c7} (h : EnvS l) : (l.map c7.Var).Nodup := SS.nodup t8 h.2
theorem EnvS.at {l : List c7} (h : EnvS l) {b : c7} (hb : b ∈ l) : l6 ⟨l⟩ b.Var = (b.Val, true) := by
 rw [a1h, c6f h.nodup hb]
theorem c4v {a b c : List c7} (ha : EnvS a) (hb : EnvS b) (hv : a.map c7.Var = b.map c7.Var) (h1 : ExtB a c) (h2 : ExtB b c) : a = b := by
 have key : ∀ {l : List c7}, EnvS l → ExtB l c → l = (l.map c7.Var).map fun v => ⟨v, (l6 ⟨c⟩ v).1⟩ := by
  intro l hl he
  rw [List.map_map]
  refine (List.map_id _).symm.trans (List.map_congr_left fun b hb => ?_)
  have h3 := he ⟨b.Var, default⟩ b.Val (by
   unfold Back
   rw [i4]
   simp only [c1P (hl.1 b hb).1, cond_false]
   exact hl.at hb)
  unfold Back at h3
  rw [i4] at h3
  simp only [c1P (hl.1 b hb).1, cond_false] at h3
  simp only [Function.comp, h3, id]
 rw [key ha h1, key hb h2, hv]
structure Alk (vs : List (List UInt8)) (l : List c8) : Prop where
 nd : l.Nodup
 ok : ∀ e ∈ l, EnvS e.Binds
 dom : ∀ e ∈ l, e.Binds.map c7.Var = vs
theorem c7x {c : List c7} {args : List c4} {row row' : c9} (hl : args.length = row.V.length) (hl' : args.length = row'.V.length) (h : ∀ i, i < args.length → Back c (args.getD i default) (row.V.getD i default)) (h' : ∀ i, i < args.length → Back c (args.getD i default) (row'.V.getD i default)) : row = row' := by
 have := (b1J hl h).symm.trans (b1J hl' h')
 exact (Prod.mk.inj this).1
theorem Alk.stage {vs : List (List UInt8)} {l : List c8} {args : List c4} {rows : List c9} (h : Alk vs l) (ha : args.all m0 = true) (hr : rows.Nodup) (hv : ∀ x ∈ rows, x.V.all i5 = true) : Alk (args.foldl dom1 vs) (n0 args rows l) := by
 have mem : ∀ {c : c8}, c ∈ n0 args rows l → ∃ e ∈ l, ∃ row ∈ rows, b5j args e row = some c := by
  intro c hc
  obtain ⟨e, he, hc⟩ := List.mem_flatMap.1 hc
  obtain ⟨row, hrow, hf⟩ := List.mem_filterMap.1 hc
  exact ⟨e, he, row, hrow, hf⟩
 refine ⟨?_, fun c hc => ?_, fun c hc => ?_⟩
 ·unfold List.Nodup
  rw [n0, List.pairwise_flatMap]
  refine ⟨fun e he => ?_, ?_⟩
  ·rw [a3T, List.pairwise_filterMap]
   refine List.Pairwise.imp ?_ hr
   intro x y hxy c hc d hd hcd
   subst hcd
   have f1 := a1D hc
   have f2 := a1D hd
   exact hxy (c7x f1.len f2.len f1.back f2.back)
  ·refine List.Pairwise.imp_of_mem ?_ h.nd
   intro e e' he he' hne c hc d hd hcd
   subst hcd
   obtain ⟨_, _, hf⟩ := List.mem_filterMap.1 hc
   obtain ⟨_, _, hf'⟩ := List.mem_filterMap.1 hd
   have f1 := a1D hf
   have f2 := a1D hf'
   have := c4v (h.ok e he) (h.ok e' he') ((h.dom e he).trans (h.dom e' he').symm) f1.ext f2.ext
   exact hne (by cases e; cases e'; simp_all)
 ·obtain ⟨e, he, row, hrow, hf⟩ := mem hc
  exact (a1D hf).ok (h.ok e he) ha (hv row hrow)
 ·obtain ⟨e, he, row, hrow, hf⟩ := mem hc
  rw [(a1D hf).dom, h.dom e he]
end Go.Aw
