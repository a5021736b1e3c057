/- What a row is fitted to, drawn. No condition. -/
import Derived.Test.YthlbadfickhkfaaebT28
import Derived.Test.YthlbadfickhkfaakBx14eb
namespace Go.Aw
open Go.Proofs
attribute [local irreducible] aft blk lpK retK AW A0m
set_option linter.unusedVariables false
set_option linter.unusedSimpArgs false
set_option maxRecDepth 100000
set_option maxHeartbeats 8000000
attribute [local irreducible] RM
theorem newC_ok {code : List Int} (h : code.length ≤ 1048576) : j5 (a4C code) := ⟨⟨Int.le_refl _, by simp only [a4C]; omega⟩, h⟩
theorem b1V {c : c4} (h : j5 c) (n : Int) : j5 (s9 c n).2 := by
 have h0 := a5z h n.toNat
 have h1 := i6 h0 14
 unfold s9
 cases decide (0 < n) with
 | false => exact h0
 | true =>
   rw [cond_true]
   cases i4 (o0 c n.toNat).2 14 == 0 with
   | false => exact h1
   | true => exact i6 (i6 h1 n) 3
theorem b0E (c : c4) (n : Int) : (s9 c n).1.length = n.toNat := by
 have h := a3Y c n.toNat
 unfold s9
 cases decide (0 < n) with
 | false => exact h
 | true =>
   rw [cond_true]
   cases i4 (o0 c n.toNat).2 14 == 0 with
   | false => exact h
   | true => simp only [cond_true, List.length_set]; exact h
theorem anyE_ok {c : c4} (h : j5 c) : j5 (u7 c).2 := by
 have h1 : j5 (eD c) := i6 (a5p h 5) 14
 have h2 := i6 h1 (eB c).length
 unfold u7
 cases i4 (eC c) 14 == 0 with
 | true =>
   rw [cond_true]
   cases decide (0 < ((eB c).length : Int)) with
   | true => exact i6 h2 4
   | false => exact h1
 | false =>
   rw [cond_false]
   cases i4 (eC c) 14 == 1 with
   | true =>
     rw [cond_true]
     cases decide (0 < ((eB c).length : Int)) with
     | true => exact a9L h2
     | false => exact h1
   | false =>
     rw [cond_false]
     cases i4 (eC c) 14 == 2 with
     | true =>
       rw [cond_true]
       cases decide (1 < ((eB c).length : Int)) with
       | true => exact h1
       | false => exact h1
     | false =>
       rw [cond_false]
       cases i4 (eC c) 14 == 3 with
       | true => exact i6 (a5x h1 _) 3
       | false => exact h1
def dE (code : List Int) : List c6 × c4 := u7 (a4C code)
def dN (code : List Int) : Int := i4 (dE code).2 5
def dA (code : List Int) : List c8 × c4 := s9 (i5 (dE code).2 5) (dN code)
def dR (code : List Int) : List c7 × c4 := u3 (dA code).2 (dN code).toNat
def dF (code : List Int) : d3 × Bool := o6 ⟨(dE code).1⟩ (dA code).1
def dK (code : List Int) : c4 := i5 (dR code).2 2
def a8u (code : List Int) : d3 := bif i4 (dR code).2 2 == 0 then (bif (dF code).2 then (dF code).1 else ⟨(dR code).1⟩) else ⟨(dR code).1⟩
def y7 (code : List Int) : c9 × List c8 × d3 := (⟨(dE code).1⟩, (dA code).1, bif i4 (dK code) 8 == 0 then ⟨(arF (i5 (dK code) 8)).1⟩ else a8u code)
theorem b2o {code : List Int} (h : (i4 (dK code) 8 == 0) = true) : (y7 code).2.2.V = (arF (i5 (dK code) 8)).1 := by simp only [y7, h, cond_true]
theorem a4m {code : List Int} (h : (i4 (dK code) 8 == 0) = false) : (y7 code).2.2.V = (a8u code).V := by simp only [y7, h, cond_false]
theorem dRow_no {code : List Int} (h : (i4 (dR code).2 2 == 0) = false) : (a8u code).V = (dR code).1 := by simp only [a8u, h, cond_false]
theorem b2n {code : List Int} (h : (i4 (dR code).2 2 == 0) = true) (h2 : (dF code).2 = true) : (a8u code).V = (dF code).1.V := by simp only [a8u, h, h2, cond_true]
theorem b2m {code : List Int} (h : (i4 (dR code).2 2 == 0) = true) (h2 : (dF code).2 = false) : (a8u code).V = (dR code).1 := by simp only [a8u, h, h2, cond_true, cond_false]
theorem a5m (c : c4) (hpre : j5 c) : A0m Try.prog 25 [(false, [.mp [.sl false [.i .u8 0] (c.b.map cU8), .i .i64 c.i, .i .i64 c.h]])] [(0, (false, [.mp [.sl false [.i .u8 0] ((((u7 c).2).b).map cU8), .i .i64 (((u7 c).2).i), .i .i64 (((u7 c).2).h)]]))] (.one (true, [.sl false [.s [], .i .i64 0, .s []] (((⟨(u7 c).1⟩ : c9).Binds).map c6.cells)])) := by
 exact a1h (a2X c hpre) (by simp only [go_sem, R.free, List.map])
noncomputable def a0a : CT := t9 (fun (x : c4) h => a5m x h)
@[go_sem] theorem a9z (x0 : List Int) (x1 x2 : Int) : a0a [(false, [.mp [.sl false [.i .u8 0] (x0.map cU8), .i .i64 x1, .i .i64 x2]])] = some (j5 (c4.mk x0 x1 x2), [(0, (false, [.mp [.sl false [.i .u8 0] ((((u7 (c4.mk x0 x1 x2)).2).b).map cU8), .i .i64 (((u7 (c4.mk x0 x1 x2)).2).i), .i .i64 (((u7 (c4.mk x0 x1 x2)).2).h)]]))], .one (true, [.sl false [.s [], .i .i64 0, .s []] (((⟨(u7 (c4.mk x0 x1 x2)).1⟩ : c9).Binds).map c6.cells)])) := j8 _ (by rintro ⟨_, _, _⟩ ⟨_, _, _⟩ h; simp at h; simp_all) (c4.mk x0 x1 x2)
theorem a3l : OkC Try.prog 25 a0a := k9 _
theorem a4A (c : c4) (n : Int) (hpre : j5 c ∧ n ≤ 1000) : A0m Try.prog 27 [(false, [.mp [.sl false [.i .u8 0] (c.b.map cU8), .i .i64 c.i, .i .i64 c.h]]), (false, [.i .i64 n])] [(0, (false, [.mp [.sl false [.i .u8 0] ((((s9 c n).2).b).map cU8), .i .i64 (((s9 c n).2).i), .i .i64 (((s9 c n).2).h)]]))] (.one (false, [.sl false [.s [], .i .i64 0, .s []] (((s9 c n).1).map c8.cells)])) := by
 exact a1h (a2u c n hpre) (by simp only [go_sem, R.free, List.map])
noncomputable def x7 : CT := t9 (fun (x : c4 × Int) h => a4A x.1 x.2 h)
@[go_sem] theorem a8X (x0 : List Int) (x1 x2 n : Int) : x7 [(false, [.mp [.sl false [.i .u8 0] (x0.map cU8), .i .i64 x1, .i .i64 x2]]), (false, [.i .i64 n])] = some (j5 (c4.mk x0 x1 x2) ∧ n ≤ 1000, [(0, (false, [.mp [.sl false [.i .u8 0] ((((s9 (c4.mk x0 x1 x2) n).2).b).map cU8), .i .i64 (((s9 (c4.mk x0 x1 x2) n).2).i), .i .i64 (((s9 (c4.mk x0 x1 x2) n).2).h)]]))], .one (false, [.sl false [.s [], .i .i64 0, .s []] (((s9 (c4.mk x0 x1 x2) n).1).map c8.cells)])) := j8 _ (by rintro ⟨⟨_, _, _⟩, _⟩ ⟨⟨_, _, _⟩, _⟩ h; simp at h; simp_all) ((c4.mk x0 x1 x2), n)
theorem a2H : OkC Try.prog 27 x7 := k9 _
theorem a2J (c : c4) (n : Int) (hpre : j5 c ∧ n ≤ 1000) : A0m Try.prog 28 [(false, [.mp [.sl false [.i .u8 0] (c.b.map cU8), .i .i64 c.i, .i .i64 c.h]]), (false, [.i .i64 n])] [(0, (false, [.mp [.sl false [.i .u8 0] ((((u3 c n.toNat).2).b).map cU8), .i .i64 (((u3 c n.toNat).2).i), .i .i64 (((u3 c n.toNat).2).h)]]))] (.one (true, [.sl false [.i .i64 0, .s []] (((⟨(u3 c n.toNat).1⟩ : d3).V).map c7.cells)])) := by
 exact a1h (a0E c n hpre) (by simp only [go_sem, R.free, List.map])
noncomputable def u2 : CT := t9 (fun (x : c4 × Int) h => a2J x.1 x.2 h)
@[go_sem] theorem a7I (x0 : List Int) (x1 x2 n : Int) : u2 [(false, [.mp [.sl false [.i .u8 0] (x0.map cU8), .i .i64 x1, .i .i64 x2]]), (false, [.i .i64 n])] = some (j5 (c4.mk x0 x1 x2) ∧ n ≤ 1000, [(0, (false, [.mp [.sl false [.i .u8 0] ((((u3 (c4.mk x0 x1 x2) n.toNat).2).b).map cU8), .i .i64 (((u3 (c4.mk x0 x1 x2) n.toNat).2).i), .i .i64 (((u3 (c4.mk x0 x1 x2) n.toNat).2).h)]]))], .one (true, [.sl false [.i .i64 0, .s []] (((⟨(u3 (c4.mk x0 x1 x2) n.toNat).1⟩ : d3).V).map c7.cells)])) := j8 _ (by rintro ⟨⟨_, _, _⟩, _⟩ ⟨⟨_, _, _⟩, _⟩ h; simp at h; simp_all) ((c4.mk x0 x1 x2), n)
theorem a1q : OkC Try.prog 28 u2 := k9 _
theorem a3o (c : c4) (hpre : j5 c) : A0m Try.prog 30 [(false, [.mp [.sl false [.i .u8 0] (c.b.map cU8), .i .i64 c.i, .i .i64 c.h]])] [(0, (false, [.mp [.sl false [.i .u8 0] ((((arF c).2).b).map cU8), .i .i64 (((arF c).2).i), .i .i64 (((arF c).2).h)]]))] (.one (true, [.sl false [.i .i64 0, .s []] (((⟨(arF c).1⟩ : d3).V).map c7.cells)])) := by
 exact a1h (a1e c hpre) (by simp only [go_sem, R.free, List.map])
noncomputable def u9 : CT := t9 (fun (x : c4) h => a3o x h)
@[go_sem] theorem a8h (x0 : List Int) (x1 x2 : Int) : u9 [(false, [.mp [.sl false [.i .u8 0] (x0.map cU8), .i .i64 x1, .i .i64 x2]])] = some (j5 (c4.mk x0 x1 x2), [(0, (false, [.mp [.sl false [.i .u8 0] ((((arF (c4.mk x0 x1 x2)).2).b).map cU8), .i .i64 (((arF (c4.mk x0 x1 x2)).2).i), .i .i64 (((arF (c4.mk x0 x1 x2)).2).h)]]))], .one (true, [.sl false [.i .i64 0, .s []] (((⟨(arF (c4.mk x0 x1 x2)).1⟩ : d3).V).map c7.cells)])) := j8 _ (by rintro ⟨_, _, _⟩ ⟨_, _, _⟩ h; simp at h; simp_all) (c4.mk x0 x1 x2)
theorem a1J : OkC Try.prog 30 u9 := k9 _
theorem a4B (e : c9) (args : List c8) (hpre : args.length ≤ 6) : A0m Try.prog 29 [(true, [.sl false [.s [], .i .i64 0, .s []] (e.Binds.map c6.cells)]), (false, [.sl false [.s [], .i .i64 0, .s []] (args.map c8.cells)])] [] (.tup [(true, [.sl false [.i .i64 0, .s []] ((((o6 e args).1).V).map c7.cells)]), (false, [.b ((o6 e args).2)])]) := by
 exact a1h (a2v e args hpre) (by simp only [go_sem, R.free, List.map])
noncomputable def x8 : CT := t9 (fun (x : c9 × (List c8)) h => a4B x.1 x.2 h)
@[go_sem] theorem a8Y (x0 : List c6) (x1 : List c8) : x8 [(true, [.sl false [.s [], .i .i64 0, .s []] (x0.map c6.cells)]), (false, [.sl false [.s [], .i .i64 0, .s []] (x1.map c8.cells)])] = some (x1.length ≤ 6, [], .tup [(true, [.sl false [.i .i64 0, .s []] ((((o6 (c9.mk x0) x1).1).V).map c7.cells)]), (false, [.b ((o6 (c9.mk x0) x1).2)])]) := j8 _ (by rintro ⟨⟨_⟩, _⟩ ⟨⟨_⟩, _⟩ h; simp at h; simp_all) ((c9.mk x0), x1)
theorem a2I : OkC Try.prog 29 x8 := k9 _
def a1x : ACode := q' ([w' 2 [.sl [.s [], .i .i64 0, .s []]], o' 3 (.mov (.k (.v false [.nl [.s [], .i .i64 0, .s []]]))), w' 4 [.sl [.i .i64 0, .s []]]]) (q' ([m' 12 0, c' 13 24
 [12], m' 5 13]) (q' ([m' 14 5, c' 15 25 [14], w' 6 [.sl [.s [], .i .i64 0, .s []]], s' 1 6 15]) (q' ([m' 16 5, o' 17 (.call 26 [.t 16, .k (.v false [.c (.i
 .i64 5)])]), m' 7 17]) (q' ([m' 18 5, m' 19 7, c' 20 27 [18, 19], m' 8 20]) (q' ([m' 21 5, m' 22 7, c' 23 28 [21, 22], w' 9 [.sl [.i .i64 0, .s []]], s' 1 9
 23]) (.seq (q' ([m' 24 5, o' 25 (.call 26 [.t 24, .k (.v false [.c (.i .i64 2)])]), o' 26 (.bin .eql (.t 25) (k' 0))]) (.cond (.t 26) (q' ([e' 28 1 6, m' 29
 8, c' 30 29 [28, 29], m' 27 30, o' 31 (.ext (.t 27) 0), o' 32 (.ext (.t 27) 1), w' 10 [.sl [.i .i64 0, .s []]], s' 1 10 31, m' 11 32]) (q' ([m' 33 11]) (.cond
 (.t 33) (g' [e' 34 1 10, s' 1 9 34]) .skip))) .skip)) (.seq (q' ([m' 35 5, o' 36 (.call 26 [.t 35, .k (.v false [.c (.i .i64 8)])]), o' 37 (.bin .eql (.t 36)
 (k' 0))]) (.cond (.t 37) (g' [m' 38 5, c' 39 30 [38], s' 1 9 39]) .skip)) (.seq (.rego [(true, 0, e' 40 1 6), (true, 1, m' 41 8), (true, 2, e' 42 1 9),
 (false, 3, s' 1 2 40), (false, 4, m' 3 41), (false, 5, s' 1 4 42)] [12, 13, 18, 19]) .ret))))))))
theorem a4W : cmp Try.prog Try.f5 = some a1x := by kernel_rfl
theorem a6o (code : List Int) (hpre : code.length ≤ 1048576) : A0m Try.prog 5 [(false, [.sl false [.i .u8 0] (code.map cU8)])] [] (.tup [(true, [.sl false [.s [], .i .i64 0, .s []] ((((y7 code).1).Binds).map c6.cells)]), (false, [.sl false [.s [], .i .i64 0, .s []] (((y7 code).2.1).map c8.cells)]), (true, [.sl false [.i .i64 0, .s []] ((((y7 code).2.2).V).map c7.cells)])]) := by
 refine spec_of2 false true none Try.func5 a4W (rvs := [.c 2 true 1, .t 3, .c 4 true 1]) (hΓ := mkCtx_ok (deep := false) (l := [(24, [], a0M), (25, [0], a0a), (26, [0], j6), (27, [0], x7), (28, [0], u2), (29, [], x8), (30, [0], u9)]) ⟨a4g, a3l, j4, a2H, a1q, a2I, a1J, trivial⟩) (h := ?_)
 intro hb hE
 simp only [go_sem] at hb
 simp only [a1x, x']
 have h0 := newC_ok hpre
 have h1 := anyE_ok h0
 have h2 := i6 h1 5
 have hn := o7 (dE code).2 (n := 5) (by omega)
 have h3 := b1V h2 (dN code)
 have hl := b0E (i5 (dE code).2 5) (dN code)
 have h4 := a8O h3 (dN code)
 have h5 := i6 h4 2
 have h6 := i6 h5 8
 (try refine A2Z ?_); simp only [go_sem, pc_susB]; (repeat' first | apply CJ.mk | intro hc); all_goals try ((repeat' first | apply And.intro | intro hs) <;> (try simp only [go_sem, Bool.and_eq_false_iff] at hs) <;> omega)
 all_goals first
  | exact h0
  | exact h1
  | exact ⟨h2, by have := hn.2; unfold dE at this; omega⟩
  | exact ⟨h3, by have := hn.2; unfold dE at this; omega⟩
  | exact h4
  | exact h5
  | exact h6
  | (have h7 : (s9 (i5 (u7 (a4C code)).2 5) (i4 (u7 (a4C code)).2 5)).1.length = (i4 (u7 (a4C code)).2 5).toNat := hl
     have h8 : i4 (u7 (a4C code)).2 5 < 5 := hn.2
     omega)
  | exact ⟨⟨rfl, rfl⟩, congrArg _ (b2o (by assumption)).symm⟩
  | exact ⟨⟨rfl, rfl⟩, congrArg _ ((a4m (by assumption)).trans (dRow_no (by assumption))).symm⟩
  | exact ⟨⟨rfl, rfl⟩, congrArg _ ((a4m (by assumption)).trans (b2n (by assumption) (by assumption))).symm⟩
  | exact ⟨⟨rfl, rfl⟩, congrArg _ ((a4m (by assumption)).trans (b2m (by assumption) (by assumption))).symm⟩
  | trace_state
noncomputable def a0p : CT := t9 (fun (x : (List Int)) h => a6o x h)
@[go_sem] theorem a9S (x0 : List Int) : a0p [(false, [.sl false [.i .u8 0] (x0.map cU8)])] = some (x0.length ≤ 1048576, [], .tup [(true, [.sl false [.s [], .i .i64 0, .s []] ((((y7 x0).1).Binds).map c6.cells)]), (false, [.sl false [.s [], .i .i64 0, .s []] (((y7 x0).2.1).map c8.cells)]), (true, [.sl false [.i .i64 0, .s []] ((((y7 x0).2.2).V).map c7.cells)])]) := j8 _ (by intro x y h; simp at h; simp_all) x0
theorem a3D : OkC Try.prog 5 a0p := k9 _
end Go.Aw
