/- Levels: the reference's. No condition. -/
import Derived.Test.YthlbadfickhkfaaGreatzgT15
import Derived.Test.YthlbadfickhkfaaGreatzgT16
namespace Go.Aw
open Go.Proofs
attribute [local irreducible] aft blk lpK retK AW A0l
set_option linter.unusedVariables false
set_option linter.unusedSimpArgs false
set_option maxRecDepth 100000
def a9z : ACode := q' ([z' 4 0]) (.seq (q' ([m' 6 0, n' 7 6, z' 8 0]) (.block 0 (.loop (q' ([r' 9 8 7]) (.seq (.cond (.t 9) .skip (.exit 0)) (.seq (.block 1 (q' ([m' 10 8, m' 5
 10]) (q' ([m' 11 0, m' 12 5, i' 13 2 11 12, f' 14 0 13, l' 15 14, m' 16 1, o' 17 (.bin .eql (.t 15) (.t 16))]) (.cond (.t 17) (q' ([m' 18 0, m' 19 5, i' 20 2
 18 19, f' 21 1 20, l' 22 21, m' 4 22]) .ret) .skip)))) (g' [a' 23 8, m' 8 23]))))))) (q' ([o' 4 (.mov (.k (.v false [.c (.i .i64 (-1))])))]) .ret))
theorem b8y : cmp Tryz.prog Tryz.f75 = some a9z := by kernel_rfl
theorem c0T (l : List d7) (v : List UInt8) : A0l Tryz.prog 75 [(false, [.sl false [.s [], .i .i64 0] (l.map d7.cells)]), (false, [.s v])] [] (.one (false, [.i .i64 (w8 l v)])) := by
 refine spec_of2 false false none Tryz.func75 b8y (rvs := [.t 4]) (hΓ := mkCtx_ok (deep := false) (l := []) trivial) (h := ?_)
 intro hb hE
 simp only [go_sem] at hb
 simp only [a9z, x']
 (try refine A2V ?_); simp only [go_sem]; (repeat' first | apply CJ.mk | intro hc); all_goals try ((repeat' first | apply And.intro | intro hs) <;> (try simp only [go_sem, Bool.and_eq_false_iff] at hs) <;> omega)
 refine aw_loop2 false [] [0, 1, 7] [] [] (fun i : {i : Nat // i ≤ l.length ∧ (l.take i).any (fun d => d.Name == v) = false} => [(8, slV (.i .i64 i.1))]) (fun i => []) (fun i => []) (fun i => l.length - i.1) (⟨0, by simp⟩) _ rfl ?_ ?_
 ·simp only [go_sem]
  all_goals first | omega | ((repeat' apply And.intro) <;> first | omega | rfl | skip)
 intro S0 hS0 i
 simp only [go_sem] at hS0
 obtain ⟨i, hi, ha⟩ := i
 (try refine A2V ?_); simp only [go_sem, hS0]; (repeat' first | apply CJ.mk | intro hc); all_goals try ((repeat' first | apply And.intro | intro hs) <;> (try simp only [go_sem, Bool.and_eq_false_iff] at hs) <;> omega)
 ·rw [w8, c0i (d := default) (i := i) (by omega) ha hc]; rfl
 ·(refine lpK_n2 (⟨i + 1, by omega, k7 (p := fun d : d7 => d.Name == v) default (by omega) ha hc⟩) _ rfl ?_; simp only [go_sem, hS0]; first | done | ((repeat' apply And.intro) <;> first | omega | (refine w64 ?_ ?_ ?_ <;> omega) | rfl | skip))
 ·rw [w8, a8I (by rwa [i3 (by omega)] at ha)]; rfl
noncomputable def a6d : CT := i5 (fun (x : (List d7) × (List UInt8)) => c0T x.1 x.2)
@[go_sem] theorem c7M (l : List d7) (v : List UInt8) : a6d [(false, [.sl false [.s [], .i .i64 0] (l.map d7.cells)]), (false, [.s v])] = some (True, [], .one (false, [.i .i64 (w8 l v)])) := f7 _ (by rintro ⟨_, _⟩ ⟨_, _⟩ h; simp at h; simp_all) (l, v)
theorem b4n : OkC Tryz.prog 75 a6d := f8 _
def relL (l : List d4) : List d7 := l.map fun x => ⟨x.Name, 0⟩
theorem c8K (p : c7) : relL (o0 (a0n p 3)) = lvl p fun _ => 0 := by
 have h := a6f (a0n p 3)
 have e : relL (o0 (a0n p 3)) = ((o0 (a0n p 3)).map d4.Name).map fun v => (⟨v, 0⟩ : d7) := by rw [List.map_map]; rfl
 rw [e, h]; rfl
theorem c6Y (p : c7) (k : Int) : (o0 (a0n p k)).length ≤ p.Decls.length := by
 have h1 := b0i (a0n p k)
 have h2 := List.length_filter_le (fun d : c8 => d.Kind == k) p.Decls
 exact Nat.le_trans h1 h2
theorem vw_at {p : c7} {n : Nat} (hn : n < (vwS p).length) : (vwS p).getD n [] ∈ vwS p ∧ (∀ g, (lvl p g).getD n default = ⟨(vwS p).getD n [], g ((vwS p).getD n [])⟩) ∧ ∀ g x, (lvl p g).set n ⟨(vwS p).getD n [], x⟩ = lvl p (upd g ((vwS p).getD n []) x) :=
 ⟨A3l hn, fun g => c2l p g hn, fun g x => c5q p g hn x⟩
theorem c0U {p : c7} {g : Lev} {l : d3} {x : Int} (h0 : ∀ v, 0 ≤ g v) (hx : ((l.Kind == 2 && decide (0 ≤ w8 (lvl p g) l.Atom.Name)) = true ∧ x = w8 (lvl p g) l.Atom.Name + 1) ∨ ((l.Kind == 2 && decide (0 ≤ w8 (lvl p g) l.Atom.Name)) = false ∧ x = w8 (lvl p g) l.Atom.Name)) : (l.Atom.Name ∈ vwS p ∧ x = g l.Atom.Name + a8C l) ∨ (¬ l.Atom.Name ∈ vwS p ∧ x = -1) := by
 by_cases e : l.Atom.Name ∈ vwS p
 ·refine .inl ⟨e, ?_⟩
  rw [b9D g e, decide_eq_true (h0 l.Atom.Name), Bool.and_true] at hx
  rcases hx with ⟨h1, h2⟩ | ⟨h1, h2⟩
  ·rw [b7J h1]; exact h2
  ·rw [c0V h1]; omega
 ·refine .inr ⟨e, ?_⟩
  rw [c2h g e, show decide ((0 : Int) ≤ -1) = false from rfl, Bool.and_false] at hx
  rcases hx with ⟨h1, h2⟩ | ⟨h1, h2⟩
  ·cases h1
  ·exact h2
theorem c2i {p : c7} {g : Lev} {h : List UInt8} {l : d3} {x : Int} (h0 : ∀ v, 0 ≤ g v) (hx : ((l.Kind == 2 && decide (0 ≤ w8 (lvl p g) l.Atom.Name)) = true ∧ x = w8 (lvl p g) l.Atom.Name + 1) ∨ ((l.Kind == 2 && decide (0 ≤ w8 (lvl p g) l.Atom.Name)) = false ∧ x = w8 (lvl p g) l.Atom.Name)) (hc : (l.Kind != 3 && decide (g h < x)) = false) : a1F p g h l := by
 by_cases hk : (l.Kind == 3) = true
 ·exact b9F hk
 ·have hn : ¬ g h < x := by
   rw [bne, (by simpa using hk : (l.Kind == 3) = false), Bool.not_false, Bool.true_and] at hc
   exact of_decide_eq_false hc
  rcases c0U h0 hx with ⟨h1, h2⟩ | ⟨h1, h2⟩
  ·exact c4k h2 hn
  ·exact b9G h1
theorem c2j {p : c7} {g : Lev} {h : List UInt8} {b : List d3} {j : Nat} (hj : j < b.length) (h1 : ∀ l ∈ b.take j, a1F p g h l) (h2 : a1F p g h (b.getD j default)) : ∀ l ∈ b.take (j + 1), a1F p g h l := fun l hl => by
 rw [i8 default hj, List.mem_append, List.mem_singleton] at hl
 rcases hl with hl | rfl
 ·exact h1 l hl
 ·exact h2
def a7T : ACode := q' ([o' 1 (.box 2 (.t 0)), o' 2 (.mov (.k (.v false [.nl [.s [], .i .i64 0]]))), b' 3 false]) (q' ([e' 16 2 1, c' 17 62 [16], m' 15 17, o' 18 (.ext (.t 15) 0),
 o' 19 (.ext (.t 15) 1), m' 4 18, m' 5 19]) (.seq (q' ([m' 20 4, o' 21 (.bin .neq (.t 20) (k' 0))]) (.cond (.t 21) (q' ([o' 2 (.mov (.k (.v false [.nl [.s [],
 .i .i64 0]]))), b' 3 false]) .ret) .skip)) (q' ([o' 22 (.bsl 2 0 [.s, .i .i64] []), m' 6 22]) (.seq (q' ([e' 23 2 1, o' 24 (.call 63 [.t 23, .k (.v false [.c
 (.i .i64 3)])]), o' 25 (.fl false 0 1 (.t 24)), n' 26 25, z' 27 0]) (.block 0 (.loop (q' ([r' 28 27 26]) (.seq (.cond (.t 28) .skip (.exit 0)) (.seq (.block 1
 (q' ([i' 29 3 25 27, e' 30 3 29, w' 8 [.s, .i .i64, .sl [.sl false [.i .i64 0, .s []] []]], s' 3 8 30]) (g' [m' 31 6, f' 32 0 8, l' 33 32, o' 34 (.bld [.s, .i
 .i64] [(0, 1, .t 33)]), o' 35 (.bsl 2 1 [.s, .i .i64] [(0, .t 34)]), o' 36 (.app 2 24 [.s, .i .i64] (.t 31) (.t 35)), m' 6 36]))) (g' [a' 37 27, m' 27
 37]))))))) (.seq (q' ([b' 9 true]) (.block 2 (.loop (.seq (q' ([m' 38 9]) (.cond (.t 38) .skip (.exit 2))) (.block 3 (q' ([b' 9 false]) (q' ([m' 39 6, n' 40
 39, z' 41 0]) (.block 4 (.loop (q' ([r' 42 41 40]) (.seq (.cond (.t 42) .skip (.exit 4)) (.seq (.block 5 (q' ([m' 43 41, m' 10 43]) (.seq (q' ([f' 44 1 1, l'
 45 44, n' 46 45, z' 47 0]) (.block 6 (.loop (q' ([r' 48 47 46]) (.seq (.cond (.t 48) .skip (.exit 6)) (.seq (.block 7 (q' ([m' 49 47, m' 11 49]) (q' ([f' 50 1
 1, l' 51 50, m' 52 11, i' 53 4 51 52, e' 54 4 53, w' 12 [.i .i64, .s, .sl [.s [], .i .i64 0, .s []], .sl [.i .i64 0, .s [], .sl false [.s [], .i .i64 0, .s
 []] [], .i .i64 0, .s [], .i .i64 0, .s [], .s [], .i .i64 0, .s []]], s' 4 12 54]) (.seq (.seq (.reg true [f' 55 1 12, f' 56 0 55, l' 57 56, m' 58 6, m' 59
 10, i' 60 2 58 59, f' 61 0 60, l' 62 61, o' 63 (.bin .neq (.t 57) (.t 62))]) (.cond (.t 63) (.exit 7) .skip)) (q' ([f' 64 3 12, l' 65 64, n' 66 65, z' 67 0])
 (.block 8 (.loop (q' ([r' 68 67 66]) (.seq (.cond (.t 68) .skip (.exit 8)) (.seq (.block 9 (q' ([m' 69 67, m' 13 69]) (q' ([m' 70 6, f' 71 3 12, l' 72 71, m'
 73 13, i' 74 10 72 73, f' 75 1 74, f' 76 0 75, l' 77 76, c' 78 75 [70, 77], m' 14 78]) (.seq (q' ([f' 79 3 12, l' 80 79, m' 81 13, i' 82 10 80 81, f' 83 0 82,
 l' 84 83, o' 85 (.bin .eql (.t 84) (k' 2)), m' 86 85, ⟨some 87, .mov (.t 14), some (86, true)⟩, ⟨some 88, .bin .geq (.t 87) (k' 0), some (86, true)⟩, o' 89
 (.pick (.t 86) (.t 88) (.k (.v false [.c (.b false)])))]) (.cond (.t 89) (g' [m' 90 14, a' 91 90, m' 14 91]) .skip)) (q' ([f' 92 3 12, l' 93 92, m' 94 13, i'
 95 10 93 94, f' 96 0 95, l' 97 96, o' 98 (.bin .neq (.t 97) (k' 3)), m' 99 98, ⟨some 100, .mov (.t 14), some (99, true)⟩, ⟨some 101, .mov (.t 6), some (99,
 true)⟩, ⟨some 102, .mov (.t 10), some (99, true)⟩, ⟨some 103, .ia 2 (.t 101) (.t 102), some (99, true)⟩, ⟨some 104, .fa 1 (.t 103), some (99, true)⟩, ⟨some
 105, .ld false 1 (.t 104), some (99, true)⟩, ⟨some 106, .bin .gtr (.t 100) (.t 105), some (99, true)⟩, o' 107 (.pick (.t 99) (.t 106) (.k (.v false [.c (.b
 false)])))]) (.cond (.t 107) (q' ([m' 108 6, m' 109 10, m' 110 14, i' 111 2 108 109, f' 112 1 111, s' 1 112 110]) (g' [b' 9 true])) .skip)))))) (g' [a' 113
 67, m' 67 113]))))))))))) (g' [a' 114 47, m' 47 114]))))))) (q' ([m' 115 6, m' 116 10, i' 117 2 115 116, f' 118 1 117, l' 119 118, m' 120 6, n' 121 120, o'
 122 (.bin .gtr (.t 119) (.t 121))]) (.cond (.t 122) (q' ([o' 2 (.mov (.k (.v false [.nl [.s [], .i .i64 0]]))), b' 3 false]) .ret) .skip))))) (g' [a' 123 41,
 m' 41 123]))))))))))))) (q' ([m' 124 6, m' 2 124, b' 3 true]) .ret))))))
theorem b6I : cmp Tryz.prog Tryz.f21 = some a7T := by kernel_rfl
theorem b9f (p : c7) : A0l Tryz.prog 21 [(true, [.sl false [.i .i64 0, .s [], .i .i64 0] (p.Decls.map c8.cells), .sl false [.i .i64 0, .s [], .sl false [.s [], .i .i64 0, .s []] [], .sl false [.i .i64 0, .s [], .sl false [.s [], .i .i64 0, .s []] [], .i .i64 0, .s [], .i .i64 0, .s [], .s [], .i .i64 0, .s []] []] (p.Rules.map (c6.cells false false))])] [] (.tup [(false, [.sl false [.s [], .i .i64 0] (((t5 p).1).map d7.cells)]), (false, [.b ((t5 p).2)])]) := by
 refine spec_of2 false true none Tryz.func21 b6I (rvs := [.t 2, .t 3]) (hΓ := mkCtx_ok (deep := false) (l := [(62, [], w6), (63, [], a0g), (75, [], a6d)]) ⟨a1C, a3t, b4n, trivial⟩) (h := ?_)
 intro hb hE
 simp only [go_sem] at hb
 simp only [a7T, x']
 (try refine A2V ?_); simp only [go_sem]; (repeat' first | apply CJ.mk | intro hc); all_goals try ((repeat' first | apply And.intro | intro hs) <;> (try simp only [go_sem, Bool.and_eq_false_iff] at hs) <;> omega)
 ·rw [t5, show ((i4 p).1 == 0) = false by simpa [bne] using hc]; exact ⟨rfl, rfl⟩
 ·have hB := a6l (p := p) (by simpa [bne] using hc)
  simp only [l4, Bool.and_eq_true, decide_eq_true_eq] at hB
  omega
 have hN : ((i4 p).1 == 0) = true := by simpa [bne] using hc
 obtain ⟨hB, hD, hRb⟩ := b7I (by simpa using hN)
 have hdl : p.Decls.length ≤ 16 := by
  have := hB; simp only [l4, Bool.and_eq_true, decide_eq_true_eq] at this; omega
 have hrl : p.Rules.length ≤ 24 := by
  have := hB; simp only [l4, Bool.and_eq_true, decide_eq_true_eq] at this; omega
 have hvl := c5v hB
 have hel := c6Y p 3
 clear hc
 refine aw_loop2 false [(false, 6, 0, 100012)] [1, 25, 26] [2] [] (fun i : {i : Nat // i ≤ (o0 (a0n p 3)).length} => [(6, .v false [.ow 100012]), (27, slV (.i .i64 i.1))]) (fun i => []) (fun i => [(100012, [.s [], .i .i64 0], (relL ((o0 (a0n p 3)).take i.1)).map d7.cells)]) (fun i => (o0 (a0n p 3)).length - i.1) (⟨0, by simp⟩) _ (by simp only [go_sem]; try rfl) ?_ ?_
 ·simp only [go_sem]
  all_goals first | omega | ((repeat' apply And.intro) <;> first | omega | rfl | skip)
 intro S0 hS0 i
 simp only [go_sem] at hS0
 obtain ⟨i, hi⟩ := i
 have hl : (relL ((o0 (a0n p 3)).take i)).length ≤ 16 := by rw [relL, List.length_map, List.length_take]; omega
 (try refine A2V ?_); simp only [go_sem, hS0]; (repeat' first | apply CJ.mk | intro hc); all_goals try ((repeat' first | apply And.intro | intro hs) <;> (try simp only [go_sem, Bool.and_eq_false_iff] at hs) <;> omega)
 ·(refine lpK_n2 (⟨i + 1, by omega⟩) _ (by simp only [go_sem]; try rfl) ?_; simp only [go_sem, hS0]; first | done | ((repeat' apply And.intro) <;> first | omega | (refine w64 ?_ ?_ ?_ <;> omega) | rfl | skip))
  rw [show relL ((o0 (a0n p 3)).take (i + 1)) = relL ((o0 (a0n p 3)).take i) ++ [⟨((o0 (a0n p 3)).getD i default).Name, 0⟩] from m_snoc (fun x : d4 => (⟨x.Name, 0⟩ : d7)) default (by omega)]
  first | done | (rw [List.map_append]; rfl) | trace_state
 rw [i3 (by omega), c8K]
 clear hc hl hi
 refine aw_loop2 false [] [1, 6] [2] [] (fun i : {q : Bool × Lev // Low p q.2 ∧ (∀ v ∈ vwS p, q.2 v ≤ (vwS p).length) ∧ (q.1 = false → Fx p q.2)} => [(9, slV (.b i.1.1))]) (fun i => []) (fun i => [(100012, [.s [], .i .i64 0], (lvl p i.1.2).map d7.cells)]) (fun i => 2 * a1G p i.1.2 + (bif i.1.1 then 1 else 0)) (⟨(true, fun _ => 0), Low.zero p, fun v _ => by simp only; omega, by intro h; cases h⟩) _ rfl ?_ ?_
 ·simp only [go_sem, hS0]
  all_goals first | omega | ((repeat' apply And.intro) <;> first | omega | rfl | skip)
 intro S1 hS1 i
 simp only [go_sem, hS0] at hS1
 obtain ⟨⟨ag, g⟩, hL, hle, hF⟩ := i
 simp only at hL hle hF
 have hll := b2a p
 (try refine A2V ?_); simp only [go_sem, hS0, hS1, hll]; (repeat' first | apply CJ.mk | intro hc); all_goals try ((repeat' first | apply And.intro | intro hs) <;> (try simp only [go_sem, Bool.and_eq_false_iff] at hs) <;> omega)
 ·have hag := hc
  clear hc
  refine aw_loop2 false [] [1, 6, 40] [2] [] (fun i : {q : Nat × Bool × Lev // q.1 ≤ (vwS p).length ∧ Low p q.2.2 ∧ (∀ v ∈ vwS p, q.2.2 v ≤ (vwS p).length) ∧ (q.2.1 = false → q.2.2 = g ∧ ∀ r ∈ p.Rules, r.Head.Name ∈ (vwS p).take q.1 → t9 p g r) ∧ (q.2.1 = true → a1G p q.2.2 < a1G p g)} => [(9, slV (.b i.1.2.1)), (41, slV (.i .i64 i.1.1))]) (fun i => []) (fun i => [(100012, [.s [], .i .i64 0], (lvl p i.1.2.2).map d7.cells)]) (fun i => (vwS p).length - i.1.1) (⟨(0, false, g), by simp, hL, hle, fun _ => ⟨rfl, by simp⟩, by intro h; cases h⟩) _ rfl ?_ ?_
  ·simp only [go_sem, hS0, hS1, hll]
   all_goals first | omega | ((repeat' apply And.intro) <;> first | omega | rfl | skip)
  intro S2 hS2 i
  simp only [go_sem, hS0, hS1, hll] at hS2
  obtain ⟨⟨n, ag2, g2⟩, hn, hL2, hle2, hF2, hM2⟩ := i
  simp only at hn hL2 hle2 hF2 hM2
  (try refine A2V ?_); simp only [go_sem, hS0, hS1, hll, hS2]; (repeat' first | apply CJ.mk | intro hc); all_goals try ((repeat' first | apply And.intro | intro hs) <;> (try simp only [go_sem, Bool.and_eq_false_iff] at hs) <;> omega)
  ·have hnl : n < (vwS p).length := by omega
   clear hc
   obtain ⟨hv, hgm, hsm⟩ := vw_at hnl
   refine aw_loop2 false [] [1, 6, 10, 40, 41, 46] [2] [] (fun i : {q : Nat × Bool × Lev // q.1 ≤ p.Rules.length ∧ Low p q.2.2 ∧ (∀ v ∈ vwS p, v ≠ (vwS p).getD n [] → q.2.2 v ≤ (vwS p).length) ∧ q.2.2 ((vwS p).getD n []) ≤ (vwS p).length + (8 * q.1 : Nat) ∧ (q.2.1 = false → q.2.2 = g ∧ (∀ r ∈ p.Rules, r.Head.Name ∈ (vwS p).take n → t9 p g r) ∧ ∀ r ∈ p.Rules.take q.1, r.Head.Name = (vwS p).getD n [] → t9 p g r) ∧ (q.2.1 = true → a1G p q.2.2 < a1G p g)} => [(9, slV (.b i.1.2.1)), (47, slV (.i .i64 i.1.1))]) (fun i => []) (fun i => [(100012, [.s [], .i .i64 0], (lvl p i.1.2.2).map d7.cells)]) (fun i => p.Rules.length - i.1.1) (⟨(0, ag2, g2), by simp, hL2, fun v hv2 _ => hle2 v hv2, by simp only; have := hle2 _ hv; omega, fun h => ⟨(hF2 h).1, (hF2 h).2, by simp⟩, hM2⟩) _ rfl ?_ ?_
   ·simp only [go_sem, hS0, hS1, hll, hS2, hgm, hsm]
    all_goals first | omega | ((repeat' apply And.intro) <;> first | omega | rfl | skip)
   intro S3 hS3 i
   simp only [go_sem, hS0, hS1, hll, hS2, hgm, hsm] at hS3
   obtain ⟨⟨k, ag3, g3⟩, hk, hL3, ho3, hh3, hF3, hM3⟩ := i
   simp only at hk hL3 ho3 hh3 hF3 hM3
   (try refine A2V ?_); simp only [go_sem, hS0, hS1, hll, hS2, hgm, hsm, hS3]; (repeat' first | apply CJ.mk | intro hc); all_goals try ((repeat' first | apply And.intro | intro hs) <;> (try simp only [go_sem, Bool.and_eq_false_iff] at hs) <;> omega)
   ·have h3 : ag3 = false → g3 = g ∧ (∀ r ∈ p.Rules, r.Head.Name ∈ (vwS p).take n → t9 p g r) ∧ ∀ r ∈ p.Rules.take (k + 1), r.Head.Name = (vwS p).getD n [] → t9 p g r := fun h => by
     refine ⟨(hF3 h).1, (hF3 h).2.1, fun r hr he => ?_⟩
     rw [i8 default (by omega), List.mem_append, List.mem_singleton] at hr
     rcases hr with hr | rfl
     ·exact (hF3 h).2.2 r hr he
     ·rw [he] at hc; simp at hc
    (refine lpK_n2 (⟨(k + 1, ag3, g3), by simp only; omega, hL3, ho3, by simp only; omega, h3, hM3⟩) _ rfl ?_; simp only [go_sem, hS0, hS1, hll, hS2, hgm, hsm, hS3]; first | done | ((repeat' apply And.intro) <;> first | omega | (refine w64 ?_ ?_ ?_ <;> omega) | rfl | skip))
   ·have hkl : k < p.Rules.length := by omega
    have hrh : (p.Rules.getD k default).Head.Name = (vwS p).getD n [] := by simpa using hc
    clear hc
    have hb8 := c1r hB hkl
    have hrm : p.Rules.getD k default ∈ p.Rules := A3l hkl
    refine aw_loop2 false [] [1, 6, 10, 12, 40, 41, 46, 47, 66] [2, 24] [] (fun i : {q : Nat × Bool × Lev // q.1 ≤ (p.Rules.getD k default).Body.length ∧ Low p q.2.2 ∧ (∀ v ∈ vwS p, v ≠ (vwS p).getD n [] → q.2.2 v ≤ (vwS p).length) ∧ q.2.2 ((vwS p).getD n []) ≤ (vwS p).length + (8 * k + q.1 : Nat) ∧ (q.2.1 = false → q.2.2 = g ∧ (∀ r ∈ p.Rules, r.Head.Name ∈ (vwS p).take n → t9 p g r) ∧ (∀ r ∈ p.Rules.take k, r.Head.Name = (vwS p).getD n [] → t9 p g r) ∧ ∀ l ∈ (p.Rules.getD k default).Body.take q.1, a1F p g ((vwS p).getD n []) l) ∧ (q.2.1 = true → a1G p q.2.2 < a1G p g)} => [(9, slV (.b i.1.2.1)), (67, slV (.i .i64 i.1.1))]) (fun i => []) (fun i => [(100012, [.s [], .i .i64 0], (lvl p i.1.2.2).map d7.cells)]) (fun i => (p.Rules.getD k default).Body.length - i.1.1) (⟨(0, ag3, g3), by simp, hL3, ho3, by simp only; omega, fun h => ⟨(hF3 h).1, (hF3 h).2.1, (hF3 h).2.2, by simp⟩, hM3⟩) _ rfl ?_ ?_
    ·simp only [go_sem, hS0, hS1, hll, hS2, hgm, hsm, hS3]
     all_goals first | omega | ((repeat' apply And.intro) <;> first | omega | rfl | skip)
    intro S4 hS4 i
    simp only [go_sem, hS0, hS1, hll, hS2, hgm, hsm, hS3] at hS4
    obtain ⟨⟨j, ag4, g4⟩, hj, hL4, ho4, hh4, hF4, hM4⟩ := i
    simp only at hj hL4 ho4 hh4 hF4 hM4
    have hLb : ∀ v, -1 ≤ w8 (lvl p g4) v ∧ w8 (lvl p g4) v ≤ 400 := fun v => by
     by_cases e : v ∈ vwS p
     ·rw [b9D g4 e]
      have := hL4.ge v
      by_cases e2 : v = (vwS p).getD n []
      ·rw [e2] at this ⊢; omega
      ·have := ho4 v e e2; omega
     ·rw [c2h g4 e]; omega
    have hw : ∀ v, IntKind.i64.wrap (w8 (lvl p g4) v + 1) = w8 (lvl p g4) v + 1 := fun v => by have := hLb v; rw [IntWalk.i64_in _ (by omega)]
    (try refine A2V ?_); simp only [go_sem, hS0, hS1, hll, hS2, hgm, hsm, hS3, hS4, hw]; (repeat' first | apply CJ.mk | intro hc); all_goals try ((repeat' first | apply And.intro | intro hs) <;> (try simp only [go_sem, Bool.and_eq_false_iff] at hs) <;> omega)
    ·rename_i hq
     have hjl : j < (p.Rules.getD k default).Body.length := by omega
     have hlm : ((p.Rules.getD k default).Body.getD j default) ∈ (p.Rules.getD k default).Body := A3l hjl
     have hkk : ((p.Rules.getD k default).Body.getD j default).Kind ≠ 3 := by simpa using hc.1
     have hx0 := c0U (x := w8 (lvl p g4) ((p.Rules.getD k default).Body.getD j default).Atom.Name + 1) hL4.ge (.inl ⟨by simpa using hq, rfl⟩)
     have hh0 := hL4.ge ((vwS p).getD n [])
     have hc2 := hc.2
     rcases hx0 with ⟨hvv, e⟩ | ⟨hvv, e⟩
     ·have hMM : a1G p g4 ≤ a1G p g := by
       cases hag4 : ag4 with
       | true => exact Nat.le_of_lt (hM4 hag4)
       | false => rw [(hF4 hag4).1]; exact Nat.le_refl _
      have R := a8K (j := 8 * k + j) hrm (by rw [hrh]; exact hv) hlm hkk hvv hL4 (by rw [hrh]; exact ho4) (by rw [hrh]; exact hh4) (by omega) e (by rw [hrh]; exact hc2) hMM
      rw [hrh] at R
      (refine lpK_n2 (⟨(j + 1, true, upd g4 ((vwS p).getD n []) (w8 (lvl p g4) ((p.Rules.getD k default).Body.getD j default).Atom.Name + 1)), by simp only; omega, R.1, R.2.1, R.2.2.1, fun h => (by cases h), fun _ => R.2.2.2⟩) _ rfl ?_; simp only [go_sem, hS0, hS1, hll, hS2, hgm, hsm, hS3, hS4, hw]; first | done | ((repeat' apply And.intro) <;> first | omega | (refine w64 ?_ ?_ ?_ <;> omega) | rfl | skip))
     ·exfalso; omega
    ·rename_i hq
     have hjl : j < (p.Rules.getD k default).Body.length := by omega
     have hst : a1F p g4 ((vwS p).getD n []) ((p.Rules.getD k default).Body.getD j default) := c2i hL4.ge (.inl ⟨by simpa using hq, rfl⟩) hc
     have h3 : ag4 = false → g4 = g ∧ (∀ r ∈ p.Rules, r.Head.Name ∈ (vwS p).take n → t9 p g r) ∧ (∀ r ∈ p.Rules.take k, r.Head.Name = ((vwS p).getD n []) → t9 p g r) ∧ ∀ l ∈ (p.Rules.getD k default).Body.take (j + 1), a1F p g ((vwS p).getD n []) l := fun h => by
      have h5 := hF4 h
      refine ⟨h5.1, h5.2.1, h5.2.2.1, c2j hjl h5.2.2.2 ?_⟩
      rw [← h5.1]; exact hst
     (refine lpK_n2 (⟨(j + 1, ag4, g4), by simp only; omega, hL4, ho4, by simp only; omega, h3, hM4⟩) _ rfl ?_; simp only [go_sem, hS0, hS1, hll, hS2, hgm, hsm, hS3, hS4, hw]; first | done | ((repeat' apply And.intro) <;> first | omega | (refine w64 ?_ ?_ ?_ <;> omega) | rfl | skip))
    ·rename_i hq
     have hjl : j < (p.Rules.getD k default).Body.length := by omega
     have hlm : ((p.Rules.getD k default).Body.getD j default) ∈ (p.Rules.getD k default).Body := A3l hjl
     have hkk : ((p.Rules.getD k default).Body.getD j default).Kind ≠ 3 := by simpa using hc.1
     have hx0 := c0U (x := w8 (lvl p g4) ((p.Rules.getD k default).Body.getD j default).Atom.Name) hL4.ge (.inr ⟨hq, rfl⟩)
     have hh0 := hL4.ge ((vwS p).getD n [])
     have hc2 := hc.2
     rcases hx0 with ⟨hvv, e⟩ | ⟨hvv, e⟩
     ·have hMM : a1G p g4 ≤ a1G p g := by
       cases hag4 : ag4 with
       | true => exact Nat.le_of_lt (hM4 hag4)
       | false => rw [(hF4 hag4).1]; exact Nat.le_refl _
      have R := a8K (j := 8 * k + j) hrm (by rw [hrh]; exact hv) hlm hkk hvv hL4 (by rw [hrh]; exact ho4) (by rw [hrh]; exact hh4) (by omega) e (by rw [hrh]; exact hc2) hMM
      rw [hrh] at R
      (refine lpK_n2 (⟨(j + 1, true, upd g4 ((vwS p).getD n []) (w8 (lvl p g4) ((p.Rules.getD k default).Body.getD j default).Atom.Name)), by simp only; omega, R.1, R.2.1, R.2.2.1, fun h => (by cases h), fun _ => R.2.2.2⟩) _ rfl ?_; simp only [go_sem, hS0, hS1, hll, hS2, hgm, hsm, hS3, hS4, hw]; first | done | ((repeat' apply And.intro) <;> first | omega | (refine w64 ?_ ?_ ?_ <;> omega) | rfl | skip))
     ·exfalso; omega
    ·rename_i hq
     have hjl : j < (p.Rules.getD k default).Body.length := by omega
     have hst : a1F p g4 ((vwS p).getD n []) ((p.Rules.getD k default).Body.getD j default) := c2i hL4.ge (.inr ⟨hq, rfl⟩) hc
     have h3 : ag4 = false → g4 = g ∧ (∀ r ∈ p.Rules, r.Head.Name ∈ (vwS p).take n → t9 p g r) ∧ (∀ r ∈ p.Rules.take k, r.Head.Name = ((vwS p).getD n []) → t9 p g r) ∧ ∀ l ∈ (p.Rules.getD k default).Body.take (j + 1), a1F p g ((vwS p).getD n []) l := fun h => by
      have h5 := hF4 h
      refine ⟨h5.1, h5.2.1, h5.2.2.1, c2j hjl h5.2.2.2 ?_⟩
      rw [← h5.1]; exact hst
     (refine lpK_n2 (⟨(j + 1, ag4, g4), by simp only; omega, hL4, ho4, by simp only; omega, h3, hM4⟩) _ rfl ?_; simp only [go_sem, hS0, hS1, hll, hS2, hgm, hsm, hS3, hS4, hw]; first | done | ((repeat' apply And.intro) <;> first | omega | (refine w64 ?_ ?_ ?_ <;> omega) | rfl | skip))
    ·have h3 : ag4 = false → g4 = g ∧ (∀ r ∈ p.Rules, r.Head.Name ∈ (vwS p).take n → t9 p g r) ∧ ∀ r ∈ p.Rules.take (k + 1), r.Head.Name = ((vwS p).getD n []) → t9 p g r := fun h => by
      have h5 := hF4 h
      refine ⟨h5.1, h5.2.1, fun r hr he => ?_⟩
      rw [i8 default (by omega), List.mem_append, List.mem_singleton] at hr
      rcases hr with hr | rfl
      ·exact h5.2.2.1 r hr he
      ·intro _ l hl
       rw [he]
       refine h5.2.2.2 l ?_
       rw [i3 (by omega)]; exact hl
     (refine lpK_n2 (⟨(k + 1, ag4, g4), by simp only; omega, hL4, ho4, by simp only; omega, h3, hM4⟩) _ rfl ?_; simp only [go_sem, hS0, hS1, hll, hS2, hgm, hsm, hS3, hS4, hw]; first | done | ((repeat' apply And.intro) <;> first | omega | (refine w64 ?_ ?_ ?_ <;> omega) | rfl | skip))
   ·rw [b9E hL3 hv hc]; exact ⟨rfl, rfl⟩
   ·have h1 : ∀ v ∈ vwS p, g3 v ≤ (vwS p).length := fun v hv2 => by
     by_cases e : v = ((vwS p).getD n [])
     ·rw [e]; omega
     ·exact ho3 v hv2 e
    have h3 : ag3 = false → g3 = g ∧ ∀ r ∈ p.Rules, r.Head.Name ∈ (vwS p).take (n + 1) → t9 p g r := fun h => by
     have h5 := hF3 h
     refine ⟨h5.1, fun r hr he => ?_⟩
     rw [i8 [] (by omega), List.mem_append, List.mem_singleton] at he
     rcases he with he | he
     ·exact h5.2.1 r hr he
     ·exact h5.2.2 r (by rw [i3 (by omega)]; exact hr) he
    (refine lpK_n2 (⟨(n + 1, ag3, g3), by simp only; omega, hL3, h1, h3, hM3⟩) _ rfl ?_; simp only [go_sem, hS0, hS1, hll, hS2, hgm, hsm, hS3]; first | done | ((repeat' apply And.intro) <;> first | omega | (refine w64 ?_ ?_ ?_ <;> omega) | rfl | skip))
  ·have h3 : ag2 = false → Fx p g2 := fun h => by
    have h5 := hF2 h
    rw [i3 (by omega)] at h5
    rw [h5.1]
    intro r hr hv2
    exact h5.2 r hr hv2 hv2
   have hmm : ag2 = false → g2 = g := fun h => (hF2 h).1
   (refine lpK_n2 (⟨(ag2, g2), hL2, hle2, h3⟩) _ rfl ?_; simp only [go_sem, hS0, hS1, hll, hS2]; first | done | ((repeat' apply And.intro) <;> first | omega | (refine w64 ?_ ?_ ?_ <;> omega) | rfl | skip))
   cases hag2 : ag2 with
   | false => rw [hmm hag2, hag]; simp only [cond_true, cond_false]; omega
   | true => have := hM2 hag2; rw [hag]; simp only [cond_true]; omega
 ·rw [b7H hN ⟨hF hc, hL, hle⟩]; exact ⟨rfl, rfl⟩
noncomputable def a4x : CT := i5 (fun (x : c7) => b9f x)
@[go_sem] theorem c6F (x0 : List c8) (x1 : List c6) : a4x [(true, [.sl false [.i .i64 0, .s [], .i .i64 0] (x0.map c8.cells), .sl false [.i .i64 0, .s [], .sl false [.s [], .i .i64 0, .s []] [], .sl false [.i .i64 0, .s [], .sl false [.s [], .i .i64 0, .s []] [], .i .i64 0, .s [], .i .i64 0, .s [], .s [], .i .i64 0, .s []] []] (x1.map (c6.cells false false))])] = some (True, [], .tup [(false, [.sl false [.s [], .i .i64 0] (((t5 (c7.mk x0 x1)).1).map d7.cells)]), (false, [.b ((t5 (c7.mk x0 x1)).2)])]) := f7 _ (by rintro ⟨_, _⟩ ⟨_, _⟩ h; simp at h; simp_all) (c7.mk x0 x1)
theorem b2E : OkC Tryz.prog 21 a4x := f8 _
end Go.Aw
