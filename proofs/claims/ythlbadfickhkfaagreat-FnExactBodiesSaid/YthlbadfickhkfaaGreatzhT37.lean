/- Equalities bind; what holds. No condition. -/
import Derived.Test.YthlbadfickhkfaaGreatzhT36
namespace Go.Aw
open Go.Proofs
attribute [local irreducible] aft blk lpK retK AW A0m
set_option linter.unusedVariables false
set_option linter.unusedSimpArgs false
set_option maxRecDepth 100000
set_option maxHeartbeats 4000000
attribute [local irreducible] RM
def b3s (l : d4) (b : List c7) : Bool := u7 l && ((i4 ⟨b⟩ l.A).2 && !(i4 ⟨b⟩ l.B).2 || (i4 ⟨b⟩ l.B).2 && !(i4 ⟨b⟩ l.A).2)
def eqG (r : d3) (b : List c7) : Nat → Bool
 | 0 => false
 | n + 1 => eqG r b n || b3s (r.Body.getD n default) (eqP r b n)
theorem b9A {l : d4} {b : List c7} (h : b3s l b = false) : eqS l b = b := by
 rw [b3s] at h
 rw [eqS]
 cases h0 : u7 l with
 | false => rfl
 | true =>
   rw [h0] at h
   cases h1 : (i4 ⟨b⟩ l.A).2 <;> cases h2 : (i4 ⟨b⟩ l.B).2 <;> rw [h1, h2] at h <;> first | rfl | (exact absurd h (by decide))
theorem c7N {r : d3} {l : d4} {b : List c7} (hl : l ∈ r.Body) (h : b3s l b = true) : miss r ((eqS l b).map c7.Var) < miss r (b.map c7.Var) := by
 rcases (a5p l b).miss hl with h1 | ⟨_, h1⟩
 ·exfalso
  have h2 := congrArg List.length h1
  rw [b3s, Bool.and_eq_true] at h
  obtain ⟨h0, h⟩ := h
  rw [eqS, h0] at h2
  cases h3 : (i4 ⟨b⟩ l.A).2 <;> cases h4 : (i4 ⟨b⟩ l.B).2 <;> rw [h3, h4] at h h2
  ·exact absurd h (by decide)
  ·simp only [cond_true, cond_false, a1H] at h2; omega
  ·simp only [cond_true, cond_false, a1H] at h2; omega
  ·exact absurd h (by decide)
 ·exact h1
theorem c3l {r : d3} {b : List c7} : ∀ {n : Nat}, eqG r b n = false → eqP r b n = b
 | 0, _ => rfl
 | n + 1, h => by
   rw [eqG, Bool.or_eq_false_iff] at h
   have h1 := b9A h.2
   rw [c3l h.1] at h1
   rw [eqP, c3l h.1, h1]
theorem c4p {r : d3} {b : List c7} : ∀ {n : Nat}, n ≤ r.Body.length → eqG r b n = true → miss r ((eqP r b n).map c7.Var) < miss r (b.map c7.Var)
 | 0, _, h => by cases h
 | n + 1, hn, h => by
   have hm := a0M (l := r.Body) default (i := n) (by omega)
   have hle := (a3o (r := r) (b := b) (n := n) (by omega)).2
   rw [eqG, Bool.or_eq_true] at h
   rw [eqP]
   rcases h with h | h
   ·have h1 := c4p (by omega) h
    rcases (a5p (r.Body.getD n default) (eqP r b n)).miss hm with h2 | ⟨_, h2⟩
    ·rw [h2]; exact h1
    ·omega
   ·have h1 := c7N hm h
    rcases hle with h2 | h2
    ·rw [h2] at h1 ⊢; exact h1
    ·omega
theorem c1d {r : d3} {b : List c7} (hV : (a6J r).length ≤ 64) {n : Nat} (hn : n ≤ r.Body.length) : (eqP r b n).length ≤ b.length + 64 := by
 have h1 := (a3o (r := r) (b := b) hn).1
 have h2 := b4D r (b.map c7.Var)
 omega
theorem c1c {r : d3} {b : List c7} (hV : (a6J r).length ≤ 64) (k : Nat) : (eqI r b k).length ≤ b.length + 64 := by
 have h1 := b5h (r := r) (b := b) k
 have h2 := b4D r (b.map c7.Var)
 omega
theorem c4C {l : d4} (h : (l.Kind != 3) = true ∨ (l.Op != 1) = true) : u7 l = false := by
 rw [u7]
 rcases h with h | h <;> simp only [bne, Bool.not_eq_true'] at h <;> rw [h] <;> simp
theorem b4I {l : d4} (h : (l.Kind != 3) = false ∧ (l.Op != 1) = false) : u7 l = true := by
 simp only [bne, Bool.not_eq_false'] at h
 rw [u7, h.1, h.2]; rfl
def a4y : ACode := q' ([o' 4 (.box 2 (.t 1)), o' 5 (.box 2 (.t 2)), b' 6 false]) (.seq (q' ([e' 7 2 4, c' 8 245 [7], o' 9 (.not (.t 8)), m' 10 9, ⟨some 11, .ld true 2 (.t 5), some
 (10, false)⟩, ⟨some 12, .call 245 [.t 11], some (10, false)⟩, ⟨some 13, .not (.t 12), some (10, false)⟩, o' 14 (.pick (.t 10) (.k (.v false [.c (.b true)]))
 (.t 13))]) (.cond (.t 14) (q' ([b' 6 false]) .ret) .skip)) (.seq (q' ([m' 15 0]) (.block 0 (q' ([o' 17 (.bin .eql (.t 15) (k' 1)), m' 16 17]) (.cond (.t 16)
 (q' ([e' 18 2 4, e' 19 2 5, o' 20 (.eqs false [.i .i64, .s] (.t 18) (.t 19)), m' 6 20]) .ret) (q' ([o' 22 (.bin .eql (.t 15) (k' 2)), m' 21 22]) (.cond (.t
 21) (q' ([e' 23 2 4, e' 24 2 5, o' 25 (.eqs true [.i .i64, .s] (.t 23) (.t 24)), m' 6 25]) .ret) (q' ([o' 27 (.bin .eql (.t 15) (k' 3)), m' 26 27]) (.cond (.t
 26) (q' ([e' 28 2 4, e' 29 2 5, c' 30 287 [28, 29], o' 31 (.bin .lss (.t 30) (k' 0)), m' 6 31]) .ret) (q' ([o' 33 (.bin .eql (.t 15) (k' 4)), m' 32 33])
 (.cond (.t 32) (q' ([e' 34 2 4, e' 35 2 5, c' 36 287 [34, 35], o' 37 (.bin .leq (.t 36) (k' 0)), m' 6 37]) .ret) .skip)))))))))) (q' ([b' 6 false]) .ret)))
theorem b1M : cmp Tryz.prog Tryz.f283 = some a4y := by kernel_rfl
theorem b3V (op : Int) (a : c6) (b : c6) : A0m Tryz.prog 283 [(false, [.i .i64 op]), (true, [.i .i64 a.N, .s a.S]), (true, [.i .i64 b.N, .s b.S])] [] (.one (false, [.b (o5 op a b)])) := by
 refine spec_of2 false false none Tryz.func283 b1M (rvs := [.t 6]) (hΓ := mkCtx_ok (deep := false) (l := [(245, [], a0b), (287, [], a0c)]) ⟨a0z, a0A, trivial⟩) (h := ?_)
 intro hb hE
 simp only [go_sem] at hb
 simp only [a4y, x']
 (try refine A2Z ?_); simp only [go_sem]; (repeat' first | apply CJ.mk | intro hc); all_goals try ((repeat' first | apply And.intro | intro hs) <;> (try simp only [go_sem, Bool.and_eq_false_iff] at hs) <;> omega)
 ·rcases hc with h | h <;> simp [o5, h]
 ·rename_i h; simp [o5, h, hc, vEq]
 ·rename_i h h1; simp [o5, h, hc, h1, vEq]
 ·rename_i h h1 h2; simp only [o5, h.1, h.2, hc, h1, h2, cond_true, cond_false, Bool.true_and]; exact b4V h.1 h.2
 ·rename_i h h1 h2 h3; simp only [o5, h.1, h.2, hc, h1, h2, h3, cond_true, cond_false, Bool.true_and]; exact b4U h.1 h.2
 ·rename_i h h1 h2 h3; simp only [o5, h.1, h.2, hc, h1, h2, h3, cond_false, Bool.true_and]
noncomputable def a1K : CT := j7 (fun (x : Int × c6 × c6) => b3V x.1 x.2.1 x.2.2)
@[go_sem] theorem c2C (op x0 : Int) (x1 : List UInt8) (x2 : Int) (x3 : List UInt8) : a1K [(false, [.i .i64 op]), (true, [.i .i64 x0, .s x1]), (true, [.i .i64 x2, .s x3])] = some (True, [], .one (false, [.b (o5 op (c6.mk x0 x1) (c6.mk x2 x3))])) := f7 _ (by rintro ⟨_, ⟨_, _⟩, ⟨_, _⟩⟩ ⟨_, ⟨_, _⟩, ⟨_, _⟩⟩ h; simp at h; simp_all) (op, (c6.mk x0 x1), (c6.mk x2 x3))
theorem a9d : OkC Tryz.prog 283 a1K := f8 _
def a4R : ACode := q' ([o' 4 (.box 2 (.t 1)), o' 5 (.box 2 (.t 2)), b' 6 false]) (.seq (q' ([e' 7 2 4, c' 8 242 [7], o' 9 (.not (.t 8)), m' 10 9, ⟨some 11, .ld true 2 (.t 5), some
 (10, false)⟩, ⟨some 12, .call 242 [.t 11], some (10, false)⟩, ⟨some 13, .not (.t 12), some (10, false)⟩, o' 14 (.pick (.t 10) (.k (.v false [.c (.b true)]))
 (.t 13))]) (.cond (.t 14) (q' ([b' 6 false]) .ret) .skip)) (.seq (q' ([m' 15 0]) (.block 0 (q' ([o' 17 (.bin .eql (.t 15) (k' 1)), m' 16 17]) (.cond (.t 16)
 (q' ([e' 18 2 4, e' 19 2 5, o' 20 (.eqs false [.i .i64, .s] (.t 18) (.t 19)), m' 6 20]) .ret) (q' ([o' 22 (.bin .eql (.t 15) (k' 2)), m' 21 22]) (.cond (.t
 21) (q' ([e' 23 2 4, e' 24 2 5, o' 25 (.eqs true [.i .i64, .s] (.t 23) (.t 24)), m' 6 25]) .ret) (q' ([o' 27 (.bin .eql (.t 15) (k' 3)), m' 26 27]) (.cond (.t
 26) (q' ([e' 28 2 4, e' 29 2 5, c' 30 321 [28, 29], m' 6 30]) .ret) (q' ([o' 32 (.bin .eql (.t 15) (k' 4)), m' 31 32]) (.cond (.t 31) (q' ([e' 33 2 4, e' 34 2
 5, c' 35 321 [33, 34], m' 36 35, ⟨some 37, .ld true 2 (.t 4), some (36, false)⟩, ⟨some 38, .ld true 2 (.t 5), some (36, false)⟩, ⟨some 39, .eqs false [.i
 .i64, .s] (.t 37) (.t 38), some (36, false)⟩, o' 40 (.pick (.t 36) (.k (.v false [.c (.b true)])) (.t 39)), m' 6 40]) .ret) .skip)))))))))) (q' ([b' 6 false])
 .ret)))
theorem b2f : cmp Tryz.prog Tryz.f269 = some a4R := by kernel_rfl
theorem b4o (op : Int) (a : c6) (b : c6) : A0m Tryz.prog 269 [(false, [.i .i64 op]), (true, [.i .i64 a.N, .s a.S]), (true, [.i .i64 b.N, .s b.S])] [] (.one (false, [.b (o5 op a b)])) := by
 refine spec_of2 false false none Tryz.func269 b2f (rvs := [.t 6]) (hΓ := mkCtx_ok (deep := false) (l := [(242, [], w4), (321, [], a1b)]) ⟨z8, a8s, trivial⟩) (h := ?_)
 intro hb hE
 simp only [go_sem] at hb
 simp only [a4R, x']
 (try refine A2Z ?_); simp only [go_sem]; (repeat' first | apply CJ.mk | intro hc); all_goals try ((repeat' first | apply And.intro | intro hs) <;> (try simp only [go_sem, Bool.and_eq_false_iff] at hs) <;> omega)
 ·rcases hc with h | h <;> simp [o5, h]
 ·rename_i h; simp [o5, h, hc, vEq]
 ·rename_i h h1; simp [o5, h, hc, h1, vEq]
 ·rename_i h h1 h2; simp only [o5, a1m, h.1, h.2, hc, h1, h2, cond_true, cond_false, Bool.true_and]
 ·rename_i h h1 h2 h3; simp only [o5, a1m, h.1, h.2, hc, h1, h2, h3, cond_true, cond_false, Bool.true_and, vEq]
 ·rename_i h h1 h2 h3; simp only [o5, h.1, h.2, hc, h1, h2, h3, cond_false, Bool.true_and]
noncomputable def a2b : CT := j7 (fun (x : Int × c6 × c6) => b4o x.1 x.2.1 x.2.2)
@[go_sem] theorem c2V (op x0 : Int) (x1 : List UInt8) (x2 : Int) (x3 : List UInt8) : a2b [(false, [.i .i64 op]), (true, [.i .i64 x0, .s x1]), (true, [.i .i64 x2, .s x3])] = some (True, [], .one (false, [.b (o5 op (c6.mk x0 x1) (c6.mk x2 x3))])) := f7 _ (by rintro ⟨_, ⟨_, _⟩, ⟨_, _⟩⟩ ⟨_, ⟨_, _⟩, ⟨_, _⟩⟩ h; simp at h; simp_all) (op, (c6.mk x0 x1), (c6.mk x2 x3))
theorem a9v : OkC Tryz.prog 269 a2b := f8 _
def a4A : ACode := q' ([o' 2 (.box 4 (.t 0)), o' 3 (.box 1 (.t 1)), w' 4 [.sl [.s [], .i .i64 0, .s []]]]) (.seq (q' ([b' 5 true]) (.block 0 (.loop (.seq (q' ([m' 12 5]) (.cond
 (.t 12) .skip (.exit 0))) (.block 1 (q' ([b' 5 false]) (q' ([f' 13 3 2, l' 14 13, n' 15 14, z' 16 0]) (.block 2 (.loop (q' ([r' 17 16 15]) (.seq (.cond (.t
 17) .skip (.exit 2)) (.seq (.block 3 (q' ([i' 18 10 14 16, e' 19 10 18, w' 7 [.i .i64, .s, .sl [.s [], .i .i64 0, .s []], .i .i64, .s, .i .i64, .s, .s, .i
 .i64, .s], s' 10 7 19]) (.seq (q' ([f' 20 0 7, l' 21 20, o' 22 (.bin .neq (.t 21) (k' 3)), m' 23 22, ⟨some 24, .fa 3 (.t 7), some (23, false)⟩, ⟨some 25, .ld
 false 1 (.t 24), some (23, false)⟩, ⟨some 26, .bin .neq (.t 25) (k' 1), some (23, false)⟩, o' 27 (.pick (.t 23) (.k (.v false [.c (.b true)])) (.t 26))])
 (.cond (.t 27) (.exit 3) .skip)) (q' ([e' 29 1 3, f' 30 4 7, e' 31 3 30, c' 32 280 [29, 31], m' 28 32, o' 33 (.ext (.t 28) 0), o' 34 (.ext (.t 28) 1), w' 8
 [.i .i64, .s], s' 2 8 33, m' 9 34]) (q' ([e' 36 1 3, f' 37 7 7, e' 38 3 37, c' 39 280 [36, 38], m' 35 39, o' 40 (.ext (.t 35) 0), o' 41 (.ext (.t 35) 1), w'
 10 [.i .i64, .s], s' 2 10 40, m' 11 41]) (.block 4 (q' ([m' 43 9, m' 44 43, ⟨some 45, .mov (.t 11), some (44, true)⟩, ⟨some 46, .not (.t 45), some (44,
 true)⟩, o' 47 (.pick (.t 44) (.t 46) (.k (.v false [.c (.b false)]))), m' 42 47]) (.cond (.t 42) (q' ([e' 48 1 3, f' 49 7 7, f' 50 0 49, l' 51 50, e' 52 2 8,
 c' 53 281 [48, 51, 52], s' 1 3 53]) (g' [b' 5 true])) (q' ([m' 55 11, m' 56 55, ⟨some 57, .mov (.t 9), some (56, true)⟩, ⟨some 58, .not (.t 57), some (56,
 true)⟩, o' 59 (.pick (.t 56) (.t 58) (.k (.v false [.c (.b false)]))), m' 54 59]) (.cond (.t 54) (q' ([e' 60 1 3, f' 61 4 7, f' 62 0 61, l' 63 62, e' 64 2 10,
 c' 65 281 [60, 63, 64], s' 1 3 65]) (g' [b' 5 true])) .skip)))))))))) (g' [a' 66 16, m' 16 66]))))))))))))) (q' ([e' 67 1 3, s' 1 4 67]) .ret))
theorem b1O : cmp Tryz.prog Tryz.f200 = some a4A := by kernel_rfl
theorem b3X (r : d3) (e : c8) (hpre : i6 r = true ∧ e.Binds.length ≤ 100) : A0m Tryz.prog 200 [(true, [.i .i64 r.Kind, .s r.Head.Name, .sl false [.s [], .i .i64 0, .s []] (r.Head.Args.map c4.cells), .sl false [.i .i64 0, .s [], .sl false [.s [], .i .i64 0, .s []] [], .i .i64 0, .s [], .i .i64 0, .s [], .s [], .i .i64 0, .s []] (r.Body.map (d4.cells false false))]), (true, [.sl false [.s [], .i .i64 0, .s []] (e.Binds.map c7.cells)])] [] (.one (true, [.sl false [.s [], .i .i64 0, .s []] (((eqE r e).Binds).map c7.cells)])) := by
 refine spec_of2 false true none Tryz.func200 b1O (rvs := [.c 4 true 1]) (hΓ := mkCtx_ok (deep := false) (l := [(280, [], w3), (281, [], a1o)]) ⟨z7, a5d, trivial⟩) (h := ?_)
 intro hb hE
 simp only [go_sem] at hb
 simp only [a4A, x']
 obtain ⟨hr, he⟩ := hpre
 have hV := a2N hr
 (try refine A2Z ?_); simp only [go_sem]; (repeat' first | apply CJ.mk | intro hc); all_goals try ((repeat' first | apply And.intro | intro hs) <;> (try simp only [go_sem, Bool.and_eq_false_iff] at hs) <;> omega)
 refine aw_loop2 false [] [2, 3, 4] [4, 8] [] (fun i : {q : Bool × List c7 // (∃ k, eqI r e.Binds k = q.2) ∧ (q.1 = false → a6b r q.2 = q.2)} => [(5, slV (.b i.1.1))]) (fun i => [(6, [.c (.sl false [.s [], .i .i64 0, .s []] (i.1.2.map c7.cells))])]) (fun i => []) (fun i => 2 * miss r (i.1.2.map c7.Var) + (bif i.1.1 then 1 else 0)) (⟨(true, e.Binds), ⟨0, rfl⟩, by intro h; cases h⟩) _ rfl ?_ ?_
 ·simp only [go_sem]
  all_goals first | omega | ((repeat' apply And.intro) <;> first | omega | rfl | skip)
 intro S0 hS0 i
 simp only [go_sem] at hS0
 obtain ⟨⟨g, c⟩, ⟨k, hk⟩, hp⟩ := i
 simp only at hk hp
 have hcl : c.length ≤ e.Binds.length + 64 := by rw [← hk]; exact c1c hV k
 (try refine A2Z ?_); simp only [go_sem, hS0]; (repeat' first | apply CJ.mk | intro hc); all_goals try ((repeat' first | apply And.intro | intro hs) <;> (try simp only [go_sem, Bool.and_eq_false_iff] at hs) <;> omega)
 ·skip
  refine aw_loop2 false [] [2, 3, 4, 14, 15] [4, 8] [] (fun i : {j : Nat // j ≤ r.Body.length} => [(5, slV (.b (eqG r c i.1))), (16, slV (.i .i64 i.1))]) (fun i => [(6, [.c (.sl false [.s [], .i .i64 0, .s []] ((eqP r c i.1).map c7.cells))])]) (fun i => []) (fun i => r.Body.length - i.1) (⟨0, by simp⟩) _ rfl ?_ ?_
  ·simp only [go_sem, hS0]
   all_goals first | omega | ((repeat' apply And.intro) <;> first | omega | rfl | skip)
  intro S1 hS1 i
  simp only [go_sem, hS0] at hS1
  obtain ⟨j, hj⟩ := i
  have hl2 := c1d (b := c) hV hj
  (try refine A2Z ?_); simp only [go_sem, hS0, hS1]; (repeat' first | apply CJ.mk | intro hc); all_goals try ((repeat' first | apply And.intro | intro hs) <;> (try simp only [go_sem, Bool.and_eq_false_iff] at hs) <;> omega)
  ·have h0 := c4C hc
   (refine lpK_n2 (⟨j + 1, by omega⟩) _ rfl ?_; simp only [go_sem, hS0, hS1]; first | done | ((repeat' apply And.intro) <;> first | omega | (refine w64 ?_ ?_ ?_ <;> omega) | rfl | skip))
   all_goals first | (rw [eqP, c1f h0]; done) | (rw [eqG, b3s, h0]; simp; done)
  ·rename_i h1
   have h0 := b4I h1
   (refine lpK_n2 (⟨j + 1, by omega⟩) _ rfl ?_; simp only [go_sem, hS0, hS1]; first | done | ((repeat' apply And.intro) <;> first | omega | (refine w64 ?_ ?_ ?_ <;> omega) | rfl | skip))
   all_goals first | (rw [eqP, b8S h0 hc.1 hc.2]; done) | (rw [eqG, b3s, h0, hc.1, hc.2]; simp; done)
  ·rename_i h1 h2
   have h0 := b4I h1
   (refine lpK_n2 (⟨j + 1, by omega⟩) _ rfl ?_; simp only [go_sem, hS0, hS1]; first | done | ((repeat' apply And.intro) <;> first | omega | (refine w64 ?_ ?_ ?_ <;> omega) | rfl | skip))
   all_goals first | (rw [eqP, c1e h0 hc.1 hc.2]; done) | (rw [eqG, b3s, h0, hc.1, hc.2]; simp; done)
  ·rename_i h1 h2
   have h3 : b3s (r.Body.getD j default) (eqP r c j) = false := by rw [b3s, h2, hc]; simp
   (refine lpK_n2 (⟨j + 1, by omega⟩) _ rfl ?_; simp only [go_sem, hS0, hS1]; first | done | ((repeat' apply And.intro) <;> first | omega | (refine w64 ?_ ?_ ?_ <;> omega) | rfl | skip))
   all_goals first | (rw [eqP, b9A h3]; done) | (rw [eqG, h3, Bool.or_false]; done)
  ·obtain rfl : j = r.Body.length := by omega
   have h1 : eqG r c r.Body.length = false → eqP r c r.Body.length = c := c3l
   have h2 := c4p (r := r) (b := c) (Nat.le_refl _)
   have h4 : eqI r e.Binds (k + 1) = eqP r c r.Body.length := by rw [eqI, hk]; rfl
   cases hG : eqG r c r.Body.length with
   | true =>
     have h5 := h2 hG
     (refine lpK_n2 (⟨(true, eqP r c r.Body.length), ⟨k + 1, h4⟩, by intro h; cases h⟩) _ rfl ?_; simp only [go_sem, hS0, hS1]; first | done | ((repeat' apply And.intro) <;> first | omega | (refine w64 ?_ ?_ ?_ <;> omega) | rfl | skip))
     all_goals first | rfl | (rename_i h; rw [h]; simp only [cond_true]; omega) | (simp only [*, cond_true]; omega) | trace_state
   | false =>
     have h5 := h1 hG
     rw [h5]
     (refine lpK_n2 (⟨(false, c), ⟨k, hk⟩, fun _ => h5⟩) _ rfl ?_; simp only [go_sem, hS0, hS1]; first | done | ((repeat' apply And.intro) <;> first | omega | (refine w64 ?_ ?_ ?_ <;> omega) | rfl | skip))
     all_goals first | rfl | (simp only [*, cond_true, cond_false]; omega) | trace_state
 ·exact congrArg (List.map c7.cells) (b9E ⟨k, hk, hp hc⟩).symm
 all_goals trace_state
noncomputable def a1M : CT := l8 (fun (x : d3 × c8) h => b3X x.1 x.2 h)
@[go_sem] theorem c2E (x0 : Int) (x1 : List UInt8) (x2 : List c4) (x3 : List d4) (x4 : List c7) : a1M [(true, [.i .i64 x0, .s x1, .sl false [.s [], .i .i64 0, .s []] (x2.map c4.cells), .sl false [.i .i64 0, .s [], .sl false [.s [], .i .i64 0, .s []] [], .i .i64 0, .s [], .i .i64 0, .s [], .s [], .i .i64 0, .s []] (x3.map (d4.cells false false))]), (true, [.sl false [.s [], .i .i64 0, .s []] (x4.map c7.cells)])] = some (i6 (d3.mk x0 (d5.mk x1 x2) x3) = true ∧ (c8.mk x4).Binds.length ≤ 100, [], .one (true, [.sl false [.s [], .i .i64 0, .s []] (((eqE (d3.mk x0 (d5.mk x1 x2) x3) (c8.mk x4)).Binds).map c7.cells)])) := f9 _ (by rintro ⟨⟨_, ⟨_, _⟩, _⟩, ⟨_⟩⟩ ⟨⟨_, ⟨_, _⟩, _⟩, ⟨_⟩⟩ h; simp at h; simp_all) ((d3.mk x0 (d5.mk x1 x2) x3), (c8.mk x4))
theorem a9f : OkC Tryz.prog 200 a1M := i3 _
def a6F : ACode := q' ([o' 2 (.box 1 (.t 0)), o' 3 (.box 3 (.t 1)), w' 4 [.i .i64, .s], b' 5 false]) (.seq (q' ([f' 6 0 3, l' 7 6, o' 8 (.bin .eql (.t 7) (.k (.v false [.c (.s
 [])])))]) (.cond (.t 8) (q' ([f' 9 1 3, e' 10 2 9, s' 2 4 10, b' 5 true]) .ret) .skip)) (q' ([e' 11 1 2, f' 12 0 3, l' 13 12, c' 14 266 [11, 13], o' 15 (.ext
 (.t 14) 0), o' 16 (.ext (.t 14) 1), s' 2 4 15, m' 5 16]) .ret))
theorem b3U : cmp Tryz.prog Tryz.f268 = some a6F := by kernel_rfl
theorem b6N (e : c8) (t : c4) : A0m Tryz.prog 268 [(true, [.sl false [.s [], .i .i64 0, .s []] (e.Binds.map c7.cells)]), (true, [.s t.Var, .i .i64 t.Val.N, .s t.Val.S])] [] (.tup [(true, [.i .i64 (((i4 e t).1).N), .s (((i4 e t).1).S)]), (false, [.b ((i4 e t).2)])]) := by
 refine spec_of2 false false none Tryz.func268 b3U (rvs := [.c 4 true 2, .t 5]) (hΓ := mkCtx_ok (deep := false) (l := [(266, [], a0q)]) ⟨a1d, trivial⟩) (h := ?_)
 intro hb hE
 simp only [go_sem] at hb
 simp only [a6F, x']
 (try refine A2Z ?_); simp only [go_sem]; (repeat' first | apply CJ.mk | intro hc); all_goals try ((repeat' first | apply And.intro | intro hs) <;> (try simp only [go_sem, Bool.and_eq_false_iff] at hs) <;> omega)
 all_goals first | (rw [i4, hc]; exact ⟨⟨rfl, rfl⟩, rfl⟩) | trace_state
noncomputable def a0J : CT := j7 (fun (x : c8 × c4) => b6N x.1 x.2)
@[go_sem] theorem c4o (x0 : List c7) (x1 : List UInt8) (x2 : Int) (x3 : List UInt8) : a0J [(true, [.sl false [.s [], .i .i64 0, .s []] (x0.map c7.cells)]), (true, [.s x1, .i .i64 x2, .s x3])] = some (True, [], .tup [(true, [.i .i64 (((i4 (c8.mk x0) (c4.mk x1 (c6.mk x2 x3))).1).N), .s (((i4 (c8.mk x0) (c4.mk x1 (c6.mk x2 x3))).1).S)]), (false, [.b ((i4 (c8.mk x0) (c4.mk x1 (c6.mk x2 x3))).2)])]) := f7 _ (by rintro ⟨⟨_⟩, ⟨_, ⟨_, _⟩⟩⟩ ⟨⟨_⟩, ⟨_, ⟨_, _⟩⟩⟩ h; simp at h; simp_all) ((c8.mk x0), (c4.mk x1 (c6.mk x2 x3)))
theorem a3Q : OkC Tryz.prog 268 a0J := f8 _
def a4X : ACode := q' ([o' 2 (.box 4 (.t 0)), o' 3 (.box 1 (.t 1)), w' 4 [.sl [.s [], .i .i64 0, .s []]]]) (.seq (q' ([o' 5 (.mov (.k (.v false [.c (.i .i64 (-1))])))]) (.block 0
 (.loop (.seq (q' ([m' 12 5, f' 13 0 3, l' 14 13, n' 15 14, r' 16 12 15]) (.cond (.t 16) .skip (.exit 0))) (.block 1 (q' ([f' 17 0 3, l' 18 17, n' 19 18, m' 5
 19]) (q' ([f' 20 3 2, l' 21 20, n' 22 21, z' 23 0]) (.block 2 (.loop (q' ([r' 24 23 22]) (.seq (.cond (.t 24) .skip (.exit 2)) (.seq (.block 3 (q' ([m' 25 23,
 m' 6 25]) (q' ([f' 26 3 2, l' 27 26, m' 28 6, i' 29 10 27 28, e' 30 10 29, w' 7 [.i .i64, .s, .sl [.s [], .i .i64 0, .s []], .i .i64, .s, .i .i64, .s, .s, .i
 .i64, .s], s' 10 7 30]) (.seq (q' ([f' 31 0 7, l' 32 31, o' 33 (.bin .neq (.t 32) (k' 3)), m' 34 33, ⟨some 35, .fa 3 (.t 7), some (34, false)⟩, ⟨some 36, .ld
 false 1 (.t 35), some (34, false)⟩, ⟨some 37, .bin .neq (.t 36) (k' 1), some (34, false)⟩, o' 38 (.pick (.t 34) (.k (.v false [.c (.b true)])) (.t 37))])
 (.cond (.t 38) (.exit 3) .skip)) (q' ([e' 40 1 3, f' 41 4 7, e' 42 3 41, c' 43 268 [40, 42], m' 39 43, o' 44 (.ext (.t 39) 0), o' 45 (.ext (.t 39) 1), w' 8
 [.i .i64, .s], s' 2 8 44, m' 9 45]) (q' ([e' 47 1 3, f' 48 7 7, e' 49 3 48, c' 50 268 [47, 49], m' 46 50, o' 51 (.ext (.t 46) 0), o' 52 (.ext (.t 46) 1), w'
 10 [.i .i64, .s], s' 2 10 51, m' 11 52]) (.seq (q' ([m' 53 9, m' 54 53, ⟨some 55, .mov (.t 11), some (54, true)⟩, ⟨some 56, .not (.t 55), some (54, true)⟩, o'
 57 (.pick (.t 54) (.t 56) (.k (.v false [.c (.b false)])))]) (.cond (.t 57) (g' [e' 58 1 3, f' 59 7 7, f' 60 0 59, l' 61 60, e' 62 2 8, c' 63 267 [58, 61,
 62], s' 1 3 63]) .skip)) (q' ([m' 64 11, m' 65 64, ⟨some 66, .mov (.t 9), some (65, true)⟩, ⟨some 67, .not (.t 66), some (65, true)⟩, o' 68 (.pick (.t 65) (.t
 67) (.k (.v false [.c (.b false)])))]) (.cond (.t 68) (g' [e' 69 1 3, f' 70 4 7, f' 71 0 70, l' 72 71, e' 73 2 10, c' 74 267 [69, 72, 73], s' 1 3 74])
 .skip))))))))) (g' [a' 75 23, m' 23 75]))))))))))))) (q' ([e' 76 1 3, s' 1 4 76]) .ret))
theorem b2l : cmp Tryz.prog Tryz.f186 = some a4X := by kernel_rfl
theorem b4y (r : d3) (e : c8) (hpre : i6 r = true ∧ e.Binds.length ≤ 100) : A0m Tryz.prog 186 [(true, [.i .i64 r.Kind, .s r.Head.Name, .sl false [.s [], .i .i64 0, .s []] (r.Head.Args.map c4.cells), .sl false [.i .i64 0, .s [], .sl false [.s [], .i .i64 0, .s []] [], .i .i64 0, .s [], .i .i64 0, .s [], .s [], .i .i64 0, .s []] (r.Body.map (d4.cells false false))]), (true, [.sl false [.s [], .i .i64 0, .s []] (e.Binds.map c7.cells)])] [] (.one (true, [.sl false [.s [], .i .i64 0, .s []] (((eqE r e).Binds).map c7.cells)])) := by
 refine spec_of2 false true none Tryz.func186 b2l (rvs := [.c 4 true 1]) (hΓ := mkCtx_ok (deep := false) (l := [(268, [], a0J), (267, [], a2j)]) ⟨a3Q, a9E, trivial⟩) (h := ?_)
 intro hb hE
 simp only [go_sem] at hb
 simp only [a4X, x']
 obtain ⟨hr, he⟩ := hpre
 have hV := a2N hr
 (try refine A2Z ?_); simp only [go_sem]; (repeat' first | apply CJ.mk | intro hc); all_goals try ((repeat' first | apply And.intro | intro hs) <;> (try simp only [go_sem, Bool.and_eq_false_iff] at hs) <;> omega)
 refine aw_loop2 false [] [2, 3, 4] [4, 8] [] (fun i : {q : Int × List c7 // (∃ k, eqI r e.Binds k = q.2) ∧ -1 ≤ q.1 ∧ (¬ q.1 < q.2.length → a6b r q.2 = q.2)} => [(5, slV (.i .i64 i.1.1))]) (fun i => [(6, [.c (.sl false [.s [], .i .i64 0, .s []] (i.1.2.map c7.cells))])]) (fun i => []) (fun i => 2 * miss r (i.1.2.map c7.Var) + (bif decide (i.1.1 < i.1.2.length) then 1 else 0)) (⟨(-1, e.Binds), ⟨0, rfl⟩, by simp, by simp only; omega⟩) _ rfl ?_ ?_
 ·simp only [go_sem]
  all_goals first | omega | ((repeat' apply And.intro) <;> first | omega | rfl | skip)
 intro S0 hS0 i
 simp only [go_sem] at hS0
 obtain ⟨⟨g, c⟩, ⟨k, hk⟩, hg, hp⟩ := i
 simp only at hk hg hp
 have hcl : c.length ≤ e.Binds.length + 64 := by rw [← hk]; exact c1c hV k
 (try refine A2Z ?_); simp only [go_sem, hS0]; (repeat' first | apply CJ.mk | intro hc); all_goals try ((repeat' first | apply And.intro | intro hs) <;> (try simp only [go_sem, Bool.and_eq_false_iff] at hs) <;> omega)
 ·skip
  refine aw_loop2 false [] [2, 3, 4, 5, 22] [4, 8] [] (fun i : {j : Nat // j ≤ r.Body.length} => [(23, slV (.i .i64 i.1))]) (fun i => [(6, [.c (.sl false [.s [], .i .i64 0, .s []] ((eqP r c i.1).map c7.cells))])]) (fun i => []) (fun i => r.Body.length - i.1) (⟨0, by simp⟩) _ rfl ?_ ?_
  ·simp only [go_sem, hS0]
   all_goals first | omega | ((repeat' apply And.intro) <;> first | omega | rfl | skip)
  intro S1 hS1 i
  simp only [go_sem, hS0] at hS1
  obtain ⟨j, hj⟩ := i
  have hl2 := c1d (b := c) hV hj
  (try refine A2Z ?_); simp only [go_sem, hS0, hS1]; (repeat' first | apply CJ.mk | intro hc); all_goals try ((repeat' first | apply And.intro | intro hs) <;> (try simp only [go_sem, Bool.and_eq_false_iff] at hs) <;> omega)
  ·have h0 := c4C hc
   (refine lpK_n2 (⟨j + 1, by omega⟩) _ rfl ?_; simp only [go_sem, hS0, hS1]; first | done | ((repeat' apply And.intro) <;> first | omega | (refine w64 ?_ ?_ ?_ <;> omega) | rfl | skip))
   all_goals rw [eqP, c1f h0]
  ·rename_i h1 h2
   rw [h2.2] at hc; exact absurd hc.1 (by decide)
  ·rename_i h1 h2
   rw [h2.2] at hc; exact absurd hc.1 (by decide)
  ·rename_i h1 h2
   have h0 := b4I h1
   (refine lpK_n2 (⟨j + 1, by omega⟩) _ rfl ?_; simp only [go_sem, hS0, hS1]; first | done | ((repeat' apply And.intro) <;> first | omega | (refine w64 ?_ ?_ ?_ <;> omega) | rfl | skip))
   all_goals rw [eqP, b8S h0 h2.1 h2.2]
  ·rename_i h1 h2
   have h0 := b4I h1
   (refine lpK_n2 (⟨j + 1, by omega⟩) _ rfl ?_; simp only [go_sem, hS0, hS1]; first | done | ((repeat' apply And.intro) <;> first | omega | (refine w64 ?_ ?_ ?_ <;> omega) | rfl | skip))
   all_goals rw [eqP, c1e h0 hc.1 hc.2]
  ·rename_i h1 h2
   have h3 : b3s (r.Body.getD j default) (eqP r c j) = false := by rw [b3s, h2, hc]; simp
   (refine lpK_n2 (⟨j + 1, by omega⟩) _ rfl ?_; simp only [go_sem, hS0, hS1]; first | done | ((repeat' apply And.intro) <;> first | omega | (refine w64 ?_ ?_ ?_ <;> omega) | rfl | skip))
   all_goals rw [eqP, b9A h3]
  ·obtain rfl : j = r.Body.length := by omega
   have h4 : eqI r e.Binds (k + 1) = eqP r c r.Body.length := by rw [eqI, hk]; rfl
   have h5 := (a3o (r := r) (b := c) (Nat.le_refl _)).2
   have h6 : ¬ (c.length : Int) < (eqP r c r.Body.length).length → a6b r (eqP r c r.Body.length) = eqP r c r.Body.length := fun h => by
    have : a6b r c = c := b8Z (by rw [a6b]; omega)
    rw [a6b] at this
    rw [this]; exact this
   have h7 : 2 * miss r ((eqP r c r.Body.length).map c7.Var) + (bif decide ((c.length : Int) < (eqP r c r.Body.length).length) then 1 else 0) < 2 * miss r (c.map c7.Var) + (bif decide (g < (c.length : Int)) then 1 else 0) := by
    rw [decide_eq_true (p := g < (c.length : Int)) (by omega), cond_true]
    rcases h5 with h5 | h5
    ·rw [h5, decide_eq_false (by omega), cond_false]; omega
    ·cases decide ((c.length : Int) < (eqP r c r.Body.length).length) <;> simp only [cond_true, cond_false] <;> omega
   (refine lpK_n2 (⟨(c.length, eqP r c r.Body.length), ⟨k + 1, h4⟩, by simp only; omega, h6⟩) _ rfl ?_; simp only [go_sem, hS0, hS1]; first | done | ((repeat' apply And.intro) <;> first | omega | (refine w64 ?_ ?_ ?_ <;> omega) | rfl | skip))
   all_goals first | exact h7 | trace_state
 ·exact congrArg (List.map c7.cells) (b9E ⟨k, hk, hp (by omega)⟩).symm
 all_goals trace_state
noncomputable def a2k : CT := l8 (fun (x : d3 × c8) h => b4y x.1 x.2 h)
@[go_sem] theorem c3e (x0 : Int) (x1 : List UInt8) (x2 : List c4) (x3 : List d4) (x4 : List c7) : a2k [(true, [.i .i64 x0, .s x1, .sl false [.s [], .i .i64 0, .s []] (x2.map c4.cells), .sl false [.i .i64 0, .s [], .sl false [.s [], .i .i64 0, .s []] [], .i .i64 0, .s [], .i .i64 0, .s [], .s [], .i .i64 0, .s []] (x3.map (d4.cells false false))]), (true, [.sl false [.s [], .i .i64 0, .s []] (x4.map c7.cells)])] = some (i6 (d3.mk x0 (d5.mk x1 x2) x3) = true ∧ (c8.mk x4).Binds.length ≤ 100, [], .one (true, [.sl false [.s [], .i .i64 0, .s []] (((eqE (d3.mk x0 (d5.mk x1 x2) x3) (c8.mk x4)).Binds).map c7.cells)])) := f9 _ (by rintro ⟨⟨_, ⟨_, _⟩, _⟩, ⟨_⟩⟩ ⟨⟨_, ⟨_, _⟩, _⟩, ⟨_⟩⟩ h; simp at h; simp_all) ((d3.mk x0 (d5.mk x1 x2) x3), (c8.mk x4))
theorem a9F : OkC Tryz.prog 186 a2k := i3 _
theorem c7R {b : List c7} {args : List c4} (hb : EnvS b) (ha : args.all m0 = true) (hl : args.length ≤ 6) : a0a (s8 ⟨b⟩ args).1 = true := by
 rw [s8]
 cases h : args.all (fun t => (i4 ⟨b⟩ t).2) with
 | false => rfl
 | true =>
   rw [cond_true, a0a, decide_eq_true (by rw [List.length_map]; omega), Bool.true_and, List.all_eq_true]
   intro x hx
   obtain ⟨t, ht, rfl⟩ := List.mem_map.1 hx
   exact b7e hb (List.all_eq_true.1 ha t ht) (List.all_eq_true.1 h t ht)
theorem b8W {r : d3} (hr : i6 r = true) {i : Nat} (hi : i < r.Body.length) (hk : ((r.Body.getD i default).Kind == 3) = false) : (r.Body.getD i default).Atom.Args.all m0 = true ∧ (r.Body.getD i default).Atom.Args.length ≤ 6 := b6Y hr (a0M default hi) hk
theorem k2_3 {k : Int} (h : (k == 2) = true) : (k == 3) = false := by rw [beq_iff_eq] at h; rw [h]; rfl
theorem hH_no {r : d3} {s : d7} {e : c8} {i : Nat} (hi : i < r.Body.length) (h : b2B s e (r.Body.getD i default) = false) : a3p r s e = false := all_false (p := b2B s e) (d := default) hi h
theorem hX_no {r : d3} {s : d7} {e : c8} {i : Nat} (hi : i < r.Body.length) (h : b6P s e (r.Body.getD i default) = false) : a5Z r s e = false := all_false (p := b6P s e) (d := default) hi h
def a8E : ACode := q' ([o' 3 (.box 4 (.t 0)), o' 4 (.box 1 (.t 1)), o' 5 (.box 1 (.t 2)), b' 6 false]) (.seq (q' ([f' 17 3 3, l' 18 17, n' 19 18, z' 20 0]) (.block 0 (.loop (q'
 ([r' 21 20 19]) (.seq (.cond (.t 21) .skip (.exit 0)) (.seq (.block 1 (q' ([i' 22 10 18 20, e' 23 10 22, w' 8 [.i .i64, .s, .sl [.s [], .i .i64 0, .s []], .i
 .i64, .s, .i .i64, .s, .s, .i .i64, .s], s' 10 8 23]) (q' ([f' 24 0 8, l' 25 24]) (.block 2 (q' ([o' 27 (.bin .eql (.t 25) (k' 2)), m' 26 27]) (.cond (.t 26)
 (q' ([e' 29 1 5, f' 30 1 8, f' 31 1 30, l' 32 31, c' 33 209 [29, 32], m' 28 33, o' 34 (.ext (.t 28) 0), o' 35 (.ext (.t 28) 1), w' 9 [.sl [.i .i64 0, .s []]],
 s' 1 9 34, m' 10 35]) (q' ([e' 37 1 4, f' 38 1 8, f' 39 0 38, l' 40 39, c' 41 278 [37, 40], m' 36 41, o' 42 (.ext (.t 36) 0), o' 43 (.ext (.t 36) 1), w' 11
 [.i .i64, .sl [.sl false [.i .i64 0, .s []] []]], s' 2 11 42, m' 12 43]) (q' ([e' 44 2 11, e' 45 1 9, c' 46 282 [44, 45]]) (.cond (.t 46) (q' ([b' 6 false])
 .ret) .skip)))) (q' ([o' 48 (.bin .eql (.t 25) (k' 3)), m' 47 48]) (.cond (.t 47) (q' ([e' 50 1 5, f' 51 4 8, e' 52 3 51, c' 53 280 [50, 52], m' 49 53, o' 54
 (.ext (.t 49) 0), o' 55 (.ext (.t 49) 1), w' 13 [.i .i64, .s], s' 2 13 54, m' 14 55]) (q' ([e' 57 1 5, f' 58 7 8, e' 59 3 58, c' 60 280 [57, 59], m' 56 60, o'
 61 (.ext (.t 56) 0), o' 62 (.ext (.t 56) 1), w' 15 [.i .i64, .s], s' 2 15 61, m' 16 62]) (q' ([f' 63 3 8, l' 64 63, e' 65 2 13, e' 66 2 15, c' 67 283 [64, 65,
 66], o' 68 (.not (.t 67))]) (.cond (.t 68) (q' ([b' 6 false]) .ret) .skip)))) .skip)))))))) (g' [a' 69 20, m' 20 69]))))))) (q' ([b' 6 true]) .ret))
theorem b7w : cmp Tryz.prog Tryz.f201 = some a8E := by kernel_rfl
theorem b9Y (r : d3) (s : d7) (e : c8) (hpre : i6 r = true ∧ l9 s = true ∧ EnvS e.Binds) : A0m Tryz.prog 201 [(true, [.i .i64 r.Kind, .s r.Head.Name, .sl false [.s [], .i .i64 0, .s []] (r.Head.Args.map c4.cells), .sl false [.i .i64 0, .s [], .sl false [.s [], .i .i64 0, .s []] [], .i .i64 0, .s [], .i .i64 0, .s [], .s [], .i .i64 0, .s []] (r.Body.map (d4.cells false false))]), (true, [.sl false [.s [], .i .i64 0, .sl false [.sl false [.i .i64 0, .s []] []] []] (s.Rels.map (d6.cells false false))]), (true, [.sl false [.s [], .i .i64 0, .s []] (e.Binds.map c7.cells)])] [] (.one (false, [.b (a3p r s e)])) := by
 refine spec_of2 false false none Tryz.func201 b7w (rvs := [.t 6]) (hΓ := mkCtx_ok (deep := false) (l := [(209, [], a7I), (278, [], a2x), (282, [], a9g), (280, [], w3), (283, [], a1K)]) ⟨b5b, a6H, b7n, z7, a9d, trivial⟩) (h := ?_)
 intro hb hE
 simp only [go_sem] at hb
 simp only [a8E, x']
 obtain ⟨hr, hs, he⟩ := hpre
 (try refine A2Z ?_); simp only [go_sem]; (repeat' first | apply CJ.mk | intro hc); all_goals try ((repeat' first | apply And.intro | intro hs) <;> (try simp only [go_sem, Bool.and_eq_false_iff] at hs) <;> omega)
 refine aw_loop2 false [] [4, 5, 18, 19] [8, 10] [] (fun i : {i : Nat // i ≤ r.Body.length ∧ (r.Body.take i).all (b2B s e) = true} => [(20, slV (.i .i64 i.1))]) (fun i => []) (fun i => []) (fun i => r.Body.length - i.1) (⟨0, by simp⟩) _ rfl ?_ ?_
 ·simp only [go_sem]
  all_goals first | omega | ((repeat' apply And.intro) <;> first | omega | rfl | skip)
 intro S0 hS0 i
 simp only [go_sem] at hS0
 obtain ⟨i, hi, ha⟩ := i
 have hR := a8h hs (r.Body.getD i default).Atom.Name
 have hT := fun (h1 : i < r.Body.length) (h2 : ((r.Body.getD i default).Kind == 2) = true) => b8W hr h1 (k2_3 h2)
 (try refine A2Z ?_); simp only [go_sem, hS0]; (repeat' first | apply CJ.mk | intro hc); all_goals try ((repeat' first | apply And.intro | intro hs) <;> (try simp only [go_sem, Bool.and_eq_false_iff] at hs) <;> omega)
 ·exact (hT (by omega) hc).2
 ·exact ⟨hR, c7R he (hT (by omega) hc).1 (hT (by omega) hc).2⟩
 ·rename_i h1
  rw [hH_no (i := i) (by omega) (by rw [b2B, h1, cond_true, hc]; rfl)]
 ·rename_i h1
  (refine lpK_n2 (⟨i + 1, by omega, a1B (p := b2B s e) default (by omega) ha (by rw [b2B, h1, cond_true, hc]; rfl)⟩) _ rfl ?_; simp only [go_sem, hS0]; first | done | ((repeat' apply And.intro) <;> first | omega | (refine w64 ?_ ?_ ?_ <;> omega) | rfl | skip))
 ·rename_i h1 h2
  rw [hH_no (i := i) (by omega) (by rw [b2B, h1, cond_false, h2, cond_true]; exact hc)]
 ·rename_i h1 h2
  (refine lpK_n2 (⟨i + 1, by omega, a1B (p := b2B s e) default (by omega) ha (by rw [b2B, h1, cond_false, h2, cond_true]; exact hc)⟩) _ rfl ?_; simp only [go_sem, hS0]; first | done | ((repeat' apply And.intro) <;> first | omega | (refine w64 ?_ ?_ ?_ <;> omega) | rfl | skip))
 ·rename_i h1
  (refine lpK_n2 (⟨i + 1, by omega, a1B (p := b2B s e) default (by omega) ha (by rw [b2B, h1, cond_false, hc]; rfl)⟩) _ rfl ?_; simp only [go_sem, hS0]; first | done | ((repeat' apply And.intro) <;> first | omega | (refine w64 ?_ ?_ ?_ <;> omega) | rfl | skip))
 ·rw [i8 (by omega)] at ha
  rw [a3p, ha]
noncomputable def a5H : CT := l8 (fun (x : d3 × d7 × c8) h => b9Y x.1 x.2.1 x.2.2 h)
@[go_sem] theorem c6M (x0 : Int) (x1 : List UInt8) (x2 : List c4) (x3 : List d4) (x4 : List d6) (x5 : List c7) : a5H [(true, [.i .i64 x0, .s x1, .sl false [.s [], .i .i64 0, .s []] (x2.map c4.cells), .sl false [.i .i64 0, .s [], .sl false [.s [], .i .i64 0, .s []] [], .i .i64 0, .s [], .i .i64 0, .s [], .s [], .i .i64 0, .s []] (x3.map (d4.cells false false))]), (true, [.sl false [.s [], .i .i64 0, .sl false [.sl false [.i .i64 0, .s []] []] []] (x4.map (d6.cells false false))]), (true, [.sl false [.s [], .i .i64 0, .s []] (x5.map c7.cells)])] = some (i6 (d3.mk x0 (d5.mk x1 x2) x3) = true ∧ l9 (d7.mk x4) = true ∧ EnvS (c8.mk x5).Binds, [], .one (false, [.b (a3p (d3.mk x0 (d5.mk x1 x2) x3) (d7.mk x4) (c8.mk x5))])) := f9 _ (by rintro ⟨⟨_, ⟨_, _⟩, _⟩, ⟨_⟩, ⟨_⟩⟩ ⟨⟨_, ⟨_, _⟩, _⟩, ⟨_⟩, ⟨_⟩⟩ h; simp at h; simp_all) ((d3.mk x0 (d5.mk x1 x2) x3), (d7.mk x4), (c8.mk x5))
theorem b3c : OkC Tryz.prog 201 a5H := i3 _
def a4Y : ACode := q' ([o' 3 (.box 4 (.t 0)), o' 4 (.box 1 (.t 1)), o' 5 (.box 1 (.t 2)), b' 6 false]) (.seq (q' ([f' 15 3 3, l' 16 15, n' 17 16, z' 18 0]) (.block 0 (.loop (q'
 ([r' 19 18 17]) (.seq (.cond (.t 19) .skip (.exit 0)) (.seq (.block 1 (q' ([m' 20 18, m' 7 20]) (q' ([f' 21 3 3, l' 22 21, m' 23 7, i' 24 10 22 23, e' 25 10
 24, w' 8 [.i .i64, .s, .sl [.s [], .i .i64 0, .s []], .i .i64, .s, .i .i64, .s, .s, .i .i64, .s], s' 10 8 25]) (.seq (q' ([f' 26 0 8, l' 27 26, o' 28 (.bin
 .eql (.t 27) (k' 3))]) (.cond (.t 28) (q' ([e' 30 1 5, f' 31 4 8, e' 32 3 31, c' 33 268 [30, 32], m' 29 33, o' 34 (.ext (.t 29) 0), o' 35 (.ext (.t 29) 1), w'
 9 [.i .i64, .s], s' 2 9 34, m' 10 35]) (q' ([e' 37 1 5, f' 38 7 8, e' 39 3 38, c' 40 268 [37, 39], m' 36 40, o' 41 (.ext (.t 36) 0), o' 42 (.ext (.t 36) 1),
 w' 11 [.i .i64, .s], s' 2 11 41, m' 12 42]) (.seq (q' ([f' 43 3 8, l' 44 43, e' 45 2 9, e' 46 2 11, c' 47 269 [44, 45, 46], o' 48 (.not (.t 47))]) (.cond (.t
 48) (q' ([b' 6 false]) .ret) .skip)) (.exit 1)))) .skip)) (q' ([e' 50 1 5, f' 51 1 8, f' 52 1 51, l' 53 52, c' 54 207 [50, 53], m' 49 54, o' 55 (.ext (.t 49)
 0), o' 56 (.ext (.t 49) 1), w' 13 [.sl [.i .i64 0, .s []]], s' 1 13 55, m' 14 56]) (.seq (.reg true [e' 57 1 4, f' 58 1 8, f' 59 0 58, l' 60 59, e' 61 1 13,
 c' 62 270 [57, 60, 61], f' 63 0 8, l' 64 63, o' 65 (.bin .eql (.t 64) (k' 1)), o' 66 (.binb .neq (.t 62) (.t 65))]) (.cond (.t 66) (q' ([b' 6 false]) .ret)
 .skip))))))) (g' [a' 67 18, m' 18 67]))))))) (q' ([b' 6 true]) .ret))
theorem b2m : cmp Tryz.prog Tryz.f187 = some a4Y := by kernel_rfl
theorem b4z (r : d3) (s : d7) (e : c8) (hpre : i6 r = true) : A0m Tryz.prog 187 [(true, [.i .i64 r.Kind, .s r.Head.Name, .sl false [.s [], .i .i64 0, .s []] (r.Head.Args.map c4.cells), .sl false [.i .i64 0, .s [], .sl false [.s [], .i .i64 0, .s []] [], .i .i64 0, .s [], .i .i64 0, .s [], .s [], .i .i64 0, .s []] (r.Body.map (d4.cells false false))]), (true, [.sl false [.s [], .i .i64 0, .sl false [.sl false [.i .i64 0, .s []] []] []] (s.Rels.map (d6.cells false false))]), (true, [.sl false [.s [], .i .i64 0, .s []] (e.Binds.map c7.cells)])] [] (.one (false, [.b (a5Z r s e)])) := by
 refine spec_of2 false false none Tryz.func187 b2m (rvs := [.t 6]) (hΓ := mkCtx_ok (deep := false) (l := [(207, [], a3n), (270, [], a5W), (268, [], a0J), (269, [], a2b)]) ⟨b0w, b3r, a3Q, a9v, trivial⟩) (h := ?_)
 intro hb hE
 simp only [go_sem] at hb
 simp only [a4Y, x']
 (try refine A2Z ?_); simp only [go_sem]; (repeat' first | apply CJ.mk | intro hc); all_goals try ((repeat' first | apply And.intro | intro hs) <;> (try simp only [go_sem, Bool.and_eq_false_iff] at hs) <;> omega)
 refine aw_loop2 false [] [3, 4, 5, 17] [6, 8, 10] [] (fun i : {i : Nat // i ≤ r.Body.length ∧ (r.Body.take i).all (b6P s e) = true} => [(18, slV (.i .i64 i.1))]) (fun i => []) (fun i => []) (fun i => r.Body.length - i.1) (⟨0, by simp⟩) _ rfl ?_ ?_
 ·simp only [go_sem]
  all_goals first | omega | ((repeat' apply And.intro) <;> first | omega | rfl | skip)
 intro S0 hS0 i
 simp only [go_sem] at hS0
 obtain ⟨i, hi, ha⟩ := i
 have hT := fun (h1 : i < r.Body.length) (h2 : ((r.Body.getD i default).Kind == 3) = false) => b8W hpre h1 h2
 (try refine A2Z ?_); simp only [go_sem, hS0]; (repeat' first | apply CJ.mk | intro hc); all_goals try ((repeat' first | apply And.intro | intro hs) <;> (try simp only [go_sem, Bool.and_eq_false_iff] at hs) <;> omega)
 ·rename_i h1
  rw [hX_no (i := i) (by omega) (by rw [b6P, h1, cond_true]; exact hc)]
 ·rename_i h1
  (refine lpK_n2 (⟨i + 1, by omega, a1B (p := b6P s e) default (by omega) ha (by rw [b6P, h1, cond_true]; exact hc)⟩) _ rfl ?_; simp only [go_sem, hS0]; first | done | ((repeat' apply And.intro) <;> first | omega | (refine w64 ?_ ?_ ?_ <;> omega) | rfl | skip))
 ·exact (hT (by omega) hc).2
 ·rename_i h1
  rw [hX_no (i := i) (by omega) (by rw [b6P, h1, cond_false]; exact hc)]
 ·rename_i h1
  (refine lpK_n2 (⟨i + 1, by omega, a1B (p := b6P s e) default (by omega) ha (by rw [b6P, h1, cond_false]; exact hc)⟩) _ rfl ?_; simp only [go_sem, hS0]; first | done | ((repeat' apply And.intro) <;> first | omega | (refine w64 ?_ ?_ ?_ <;> omega) | rfl | skip))
 ·rw [i8 (by omega)] at ha
  rw [a5Z, ha]
noncomputable def a2l : CT := l8 (fun (x : d3 × d7 × c8) h => b4z x.1 x.2.1 x.2.2 h)
@[go_sem] theorem c3f (x0 : Int) (x1 : List UInt8) (x2 : List c4) (x3 : List d4) (x4 : List d6) (x5 : List c7) : a2l [(true, [.i .i64 x0, .s x1, .sl false [.s [], .i .i64 0, .s []] (x2.map c4.cells), .sl false [.i .i64 0, .s [], .sl false [.s [], .i .i64 0, .s []] [], .i .i64 0, .s [], .i .i64 0, .s [], .s [], .i .i64 0, .s []] (x3.map (d4.cells false false))]), (true, [.sl false [.s [], .i .i64 0, .sl false [.sl false [.i .i64 0, .s []] []] []] (x4.map (d6.cells false false))]), (true, [.sl false [.s [], .i .i64 0, .s []] (x5.map c7.cells)])] = some (i6 (d3.mk x0 (d5.mk x1 x2) x3) = true, [], .one (false, [.b (a5Z (d3.mk x0 (d5.mk x1 x2) x3) (d7.mk x4) (c8.mk x5))])) := f9 _ (by rintro ⟨⟨_, ⟨_, _⟩, _⟩, ⟨_⟩, ⟨_⟩⟩ ⟨⟨_, ⟨_, _⟩, _⟩, ⟨_⟩, ⟨_⟩⟩ h; simp at h; simp_all) ((d3.mk x0 (d5.mk x1 x2) x3), (d7.mk x4), (c8.mk x5))
theorem a9G : OkC Tryz.prog 187 a2l := i3 _
end Go.Aw
