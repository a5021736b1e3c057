/- Names in programs. No condition. -/
import Derived.Test.YthlbadfickhkfaaGreatzgG8
namespace Go.Aw
open Go.Proofs
attribute [local irreducible] aft blk lpK retK AW A0l
set_option linter.unusedVariables false
set_option linter.unusedSimpArgs false
set_option maxRecDepth 100000
def pkB : List UInt8 := [112, 97, 99, 107, 101, 116]
def fwB : List UInt8 := [102, 111, 114, 119, 97, 114, 100]
def a0q (p : c7) (name : List UInt8) : Int := bif name == pkB then 4 else bif name == fwB then 1 else bif u2 p name then (o8 p name).Arity else -1
def v5 (p : c7) (name : List UInt8) : Int := (o8 p name).Kind
def movB (p : c7) (name : List UInt8) : Bool := name == pkB || v5 p name == 2
def k8 (r : c6) : List d5 := r.Head :: (r.Body.filter fun l => !(l.Kind == 3)).map d3.Atom
def a6k (p : c7) (l : d3) : Bool := !(l.Kind == 3) && movB p l.Atom.Name
def c1N (p : c7) (r : c6) : Bool := decide ((0 : Int) < r.Body.length) && (r.Body.getD 0 default).Kind == 1 && (movB p (r.Body.getD 0 default).Atom.Name && (!(r.Kind == 1) || (r.Body.getD 0 default).Atom.Name == pkB))
def b3k (p : c7) (r : c6) : Bool := bif !(r.Kind == 1) || r.Head.Name == fwB then c1N p r && !(r.Body.drop 1).any (a6k p) else !r.Body.any (a6k p)
def a2j (p : c7) (a : d5) : Bool := decide (a0q p a.Name < 0)
def a2k (p : c7) (a : d5) : Bool := !(a0q p a.Name == (a.Args.length : Int))
def b0v (a : d5) : Bool := a.Name == fwB
def a4c (p : c7) (r : c6) : Bool := bif r.Kind == 1 then !(v5 p r.Head.Name == 3) && !(r.Head.Name == fwB) else !(v5 p r.Head.Name == 1)
def l6 (p : c7) (r : c6) : Int := bif (k8 r).any (a2j p) then 3 else bif (k8 r).any (a2k p) then 4 else bif a4c p r then 5 else bif ((k8 r).drop 1).any b0v then 6 else bif !b3k p r then 7 else 0
def l5 (p : c7) (i : Nat) : Bool := (p.Decls.getD i default).Name == pkB || (p.Decls.getD i default).Name == fwB || (p.Decls.take i).any fun x => x.Name == (p.Decls.getD i default).Name
def o7 (p : c7) (i : Nat) : Bool := !(l6 p (p.Rules.getD i default) == 0)
def i4 (p : c7) : Int × Int :=
 bif !l4 p then (1, 0) else
 if a2d p.Decls.length (l5 p) < p.Decls.length then (2, (a2d p.Decls.length (l5 p) : Int)) else
 if a2d p.Rules.length (o7 p) < p.Rules.length then (l6 p (p.Rules.getD (a2d p.Rules.length (o7 p)) default), (a2d p.Rules.length (o7 p) : Int)) else (0, 0)
def atB (l : d3) : Bool := !(l.Kind == 3)
theorem c3l (r : c6) : (k8 r).length ≤ r.Body.length + 1 := by
 have := b2N (fun l : d3 => !(l.Kind == 3)) d3.Atom r.Body
 simp only [k8, List.length_cons]; omega
theorem b3H (r : c6) : 1 ≤ (k8 r).length := by simp [k8]
theorem b5I (r : c6) : k8 r = r.Head :: (r.Body.filter atB).map d3.Atom := rfl
def a6t : ACode := q' ([o' 2 (.box 2 (.t 0)), z' 4 0]) (.seq (q' ([m' 7 1]) (.block 0 (q' ([o' 9 (.bin .eql (.t 7) (.k (.v false [.c (.s [112, 97, 99, 107, 101, 116])]))), m' 8
 9]) (.cond (.t 8) (q' ([z' 4 4]) .ret) (q' ([o' 11 (.bin .eql (.t 7) (.k (.v false [.c (.s [102, 111, 114, 119, 97, 114, 100])]))), m' 10 11]) (.cond (.t 10)
 (q' ([z' 4 1]) .ret) .skip)))))) (q' ([e' 13 2 2, m' 14 1, c' 15 149 [13, 14], m' 12 15, o' 16 (.ext (.t 12) 0), o' 17 (.ext (.t 12) 1), w' 5 [.i .i64, .s, .i
 .i64], s' 3 5 16, m' 6 17]) (.seq (q' ([m' 18 6, o' 19 (.not (.t 18))]) (.cond (.t 19) (q' ([o' 4 (.mov (.k (.v false [.c (.i .i64 (-1))])))]) .ret) .skip))
 (q' ([f' 20 2 5, l' 21 20, m' 4 21]) .ret))))
theorem b4s : cmp Tryz.prog Tryz.f163 = some a6t := by kernel_rfl
theorem b6Z (p : c7) (name : List UInt8) : A0l Tryz.prog 163 [(true, [.sl false [.i .i64 0, .s [], .i .i64 0] (p.Decls.map c8.cells), .sl false [.i .i64 0, .s [], .sl false [.s [], .i .i64 0, .s []] [], .sl false [.i .i64 0, .s [], .sl false [.s [], .i .i64 0, .s []] [], .i .i64 0, .s [], .i .i64 0, .s [], .s [], .i .i64 0, .s []] []] (p.Rules.map (c6.cells false false))]), (false, [.s name])] [] (.one (false, [.i .i64 (a0q p name)])) := by
 refine spec_of2 false false none Tryz.func163 b4s (rvs := [.t 4]) (hΓ := mkCtx_ok (deep := false) (l := [(149, [], a1j)]) ⟨a5d, trivial⟩) (h := ?_)
 intro hb hE
 simp only [go_sem] at hb
 simp only [a6t, x']
 (try refine A2V ?_); simp only [go_sem]; (repeat' first | apply CJ.mk | intro hc); all_goals try ((repeat' first | apply And.intro | intro hs) <;> (try simp only [go_sem, Bool.and_eq_false_iff] at hs) <;> omega)
 all_goals simp only [a0q, pkB, fwB, *, cond_true, cond_false]
noncomputable def a0u : CT := i5 (fun (x : c7 × (List UInt8)) => b6Z x.1 x.2)
@[go_sem] theorem c4D (x0 : List c8) (x1 : List c6) (x2 : List UInt8) : a0u [(true, [.sl false [.i .i64 0, .s [], .i .i64 0] (x0.map c8.cells), .sl false [.i .i64 0, .s [], .sl false [.s [], .i .i64 0, .s []] [], .sl false [.i .i64 0, .s [], .sl false [.s [], .i .i64 0, .s []] [], .i .i64 0, .s [], .i .i64 0, .s [], .s [], .i .i64 0, .s []] []] (x1.map (c6.cells false false))]), (false, [.s x2])] = some (True, [], .one (false, [.i .i64 (a0q (c7.mk x0 x1) x2)])) := f7 _ (by rintro ⟨⟨_, _⟩, _⟩ ⟨⟨_, _⟩, _⟩ h; simp at h; simp_all) ((c7.mk x0 x1), x2)
theorem a3R : OkC Tryz.prog 163 a0u := f8 _
def a7u : ACode := q' ([o' 2 (.box 2 (.t 0)), z' 4 0]) (q' ([e' 8 2 2, m' 9 1, c' 10 149 [8, 9], m' 7 10, o' 11 (.ext (.t 7) 0), o' 12 (.ext (.t 7) 1), w' 5 [.i .i64, .s, .i
 .i64], s' 3 5 11, m' 6 12]) (q' ([f' 13 0 5, l' 14 13, m' 4 14]) .ret))
theorem b6j : cmp Tryz.prog Tryz.f82 = some a7u := by kernel_rfl
theorem b8F (p : c7) (name : List UInt8) : A0l Tryz.prog 82 [(true, [.sl false [.i .i64 0, .s [], .i .i64 0] (p.Decls.map c8.cells), .sl false [.i .i64 0, .s [], .sl false [.s [], .i .i64 0, .s []] [], .sl false [.i .i64 0, .s [], .sl false [.s [], .i .i64 0, .s []] [], .i .i64 0, .s [], .i .i64 0, .s [], .s [], .i .i64 0, .s []] []] (p.Rules.map (c6.cells false false))]), (false, [.s name])] [] (.one (false, [.i .i64 (v5 p name)])) := by
 refine spec_of2 false false none Tryz.func82 b6j (rvs := [.t 4]) (hΓ := mkCtx_ok (deep := false) (l := [(149, [], a1j)]) ⟨a5d, trivial⟩) (h := ?_)
 intro hb hE
 simp only [go_sem] at hb
 simp only [a7u, x']
 (try refine A2V ?_); simp only [go_sem]; (repeat' first | apply CJ.mk | intro hc); all_goals try ((repeat' first | apply And.intro | intro hs) <;> (try simp only [go_sem, Bool.and_eq_false_iff] at hs) <;> omega)
 all_goals (first | rfl | trace_state)
noncomputable def v8 : CT := i5 (fun (x : c7 × (List UInt8)) => b8F x.1 x.2)
@[go_sem] theorem c6g (x0 : List c8) (x1 : List c6) (x2 : List UInt8) : v8 [(true, [.sl false [.i .i64 0, .s [], .i .i64 0] (x0.map c8.cells), .sl false [.i .i64 0, .s [], .sl false [.s [], .i .i64 0, .s []] [], .sl false [.i .i64 0, .s [], .sl false [.s [], .i .i64 0, .s []] [], .i .i64 0, .s [], .i .i64 0, .s [], .s [], .i .i64 0, .s []] []] (x1.map (c6.cells false false))]), (false, [.s x2])] = some (True, [], .one (false, [.i .i64 (v5 (c7.mk x0 x1) x2)])) := f7 _ (by rintro ⟨⟨_, _⟩, _⟩ ⟨⟨_, _⟩, _⟩ h; simp at h; simp_all) ((c7.mk x0 x1), x2)
theorem y9 : OkC Tryz.prog 82 v8 := f8 _
def a6x : ACode := q' ([o' 2 (.box 2 (.t 0)), b' 4 false]) (q' ([m' 5 1, o' 6 (.bin .eql (.t 5) (.k (.v false [.c (.s [112, 97, 99, 107, 101, 116])]))), m' 7 6, ⟨some 8, .ld true
 2 (.t 2), some (7, false)⟩, ⟨some 9, .mov (.t 1), some (7, false)⟩, ⟨some 10, .call 82 [.t 8, .t 9], some (7, false)⟩, ⟨some 11, .bin .eql (.t 10) (k' 2),
 some (7, false)⟩, o' 12 (.pick (.t 7) (.k (.v false [.c (.b true)])) (.t 11)), m' 4 12]) .ret)
theorem b4w : cmp Tryz.prog Tryz.f342 = some a6x := by kernel_rfl
theorem b7d (p : c7) (name : List UInt8) : A0l Tryz.prog 342 [(true, [.sl false [.i .i64 0, .s [], .i .i64 0] (p.Decls.map c8.cells), .sl false [.i .i64 0, .s [], .sl false [.s [], .i .i64 0, .s []] [], .sl false [.i .i64 0, .s [], .sl false [.s [], .i .i64 0, .s []] [], .i .i64 0, .s [], .i .i64 0, .s [], .s [], .i .i64 0, .s []] []] (p.Rules.map (c6.cells false false))]), (false, [.s name])] [] (.one (false, [.b (movB p name)])) := by
 refine spec_of2 false false none Tryz.func342 b4w (rvs := [.t 4]) (hΓ := mkCtx_ok (deep := false) (l := [(82, [], v8)]) ⟨y9, trivial⟩) (h := ?_)
 intro hb hE
 simp only [go_sem] at hb
 simp only [a6x, x']
 (try refine A2V ?_); simp only [go_sem]; (repeat' first | apply CJ.mk | intro hc); all_goals try ((repeat' first | apply And.intro | intro hs) <;> (try simp only [go_sem, Bool.and_eq_false_iff] at hs) <;> omega)
 all_goals (first | rfl | trace_state)
noncomputable def a0w : CT := i5 (fun (x : c7 × (List UInt8)) => b7d x.1 x.2)
@[go_sem] theorem c4H (x0 : List c8) (x1 : List c6) (x2 : List UInt8) : a0w [(true, [.sl false [.i .i64 0, .s [], .i .i64 0] (x0.map c8.cells), .sl false [.i .i64 0, .s [], .sl false [.s [], .i .i64 0, .s []] [], .sl false [.i .i64 0, .s [], .sl false [.s [], .i .i64 0, .s []] [], .i .i64 0, .s [], .i .i64 0, .s [], .s [], .i .i64 0, .s []] []] (x1.map (c6.cells false false))]), (false, [.s x2])] = some (True, [], .one (false, [.b (movB (c7.mk x0 x1) x2)])) := f7 _ (by rintro ⟨⟨_, _⟩, _⟩ ⟨⟨_, _⟩, _⟩ h; simp at h; simp_all) ((c7.mk x0 x1), x2)
theorem a3T : OkC Tryz.prog 342 a0w := f8 _
def a6u : ACode := q' ([o' 1 (.box 4 (.t 0)), o' 2 (.mov (.k (.v false [.nl [.s [], .sl false [.s [], .i .i64 0, .s []] []]])))]) (q' ([f' 6 1 1, e' 7 2 6, o' 8 (.bsl 2 1 [.s, .sl
 [.s [], .i .i64 0, .s []]] [(0, .t 7)]), m' 3 8]) (.seq (q' ([f' 9 3 1, l' 10 9, n' 11 10, z' 12 0]) (.block 0 (.loop (q' ([r' 13 12 11]) (.seq (.cond (.t 13)
 .skip (.exit 0)) (.seq (.block 1 (q' ([i' 14 10 10 12, e' 15 10 14, w' 5 [.i .i64, .s, .sl [.s [], .i .i64 0, .s []], .i .i64, .s, .i .i64, .s, .s, .i .i64,
 .s], s' 10 5 15]) (q' ([f' 16 0 5, l' 17 16, o' 18 (.bin .neq (.t 17) (k' 3))]) (.cond (.t 18) (g' [m' 19 3, f' 20 1 5, e' 21 2 20, o' 22 (.bsl 2 1 [.s, .sl
 [.s [], .i .i64 0, .s []]] [(0, .t 21)]), o' 23 (.app 2 40 [.s, .sl [.s [], .i .i64 0, .s []]] (.t 19) (.t 22)), m' 3 23]) .skip)))) (g' [a' 24 12, m' 12
 24]))))))) (q' ([m' 25 3, m' 2 25]) .ret)))
theorem b4t : cmp Tryz.prog Tryz.f168 = some a6u := by kernel_rfl
theorem b7a (r : c6) (hpre : r.Body.length ≤ 8) : A0l Tryz.prog 168 [(true, [.i .i64 r.Kind, .s r.Head.Name, .sl false [.s [], .i .i64 0, .s []] (r.Head.Args.map c4.cells), .sl false [.i .i64 0, .s [], .sl false [.s [], .i .i64 0, .s []] [], .i .i64 0, .s [], .i .i64 0, .s [], .s [], .i .i64 0, .s []] (r.Body.map (d3.cells false false))])] [] (.one (false, [.sl true [.s [], .sl false [.s [], .i .i64 0, .s []] []] ((k8 r).map (d5.cells false false))])) := by
 refine spec_of2 false false none Tryz.func168 b4t (rvs := [.t 2]) (hΓ := mkCtx_ok (deep := false) (l := []) trivial) (h := ?_)
 intro hb hE
 simp only [go_sem] at hb
 simp only [a6u, x']
 (try refine A2V ?_); simp only [go_sem]; (repeat' first | apply CJ.mk | intro hc); all_goals try ((repeat' first | apply And.intro | intro hs) <;> (try simp only [go_sem, Bool.and_eq_false_iff] at hs) <;> omega)
 refine aw_loop2 false [(false, 3, 0, 100006)] [10, 11] [] [] (fun i : {i : Nat // i ≤ r.Body.length} => [(3, .v false [.ow 100006]), (12, slV (.i .i64 i.1))]) (fun i => []) (fun i => [(100006, [.s [], .sl false [.s [], .i .i64 0, .s []] []], (r.Head :: ((r.Body.take i.1).filter atB).map d3.Atom).map (d5.cells false false))]) (fun i => r.Body.length - i.1) (⟨0, by simp⟩) _ (by simp only [go_sem]; try rfl) ?_ ?_
 ·simp only [go_sem]
  all_goals first | omega | ((repeat' apply And.intro) <;> first | omega | rfl | skip)
 intro S0 hS0 i
 simp only [go_sem] at hS0
 obtain ⟨i, hi⟩ := i
 (try refine A2V ?_); simp only [go_sem, hS0]; (repeat' first | apply CJ.mk | intro hc); all_goals try ((repeat' first | apply And.intro | intro hs) <;> (try simp only [go_sem, Bool.and_eq_false_iff] at hs) <;> omega)
 ·have := b2N atB d3.Atom (r.Body.take i); simp at this; omega
 ·have hp : atB (r.Body.getD i default) = true := hc
  (refine lpK_n2 (⟨i + 1, by omega⟩) _ (by simp only [go_sem]; try rfl) ?_; simp only [go_sem, hS0]; first | done | ((repeat' apply And.intro) <;> first | omega | (refine w64 ?_ ?_ ?_ <;> omega) | rfl | skip))
  all_goals (rw [b0j d3.Atom default (by omega) hp] <;> rfl)
 ·have hp : atB (r.Body.getD i default) = false := hc
  (refine lpK_n2 (⟨i + 1, by omega⟩) _ (by simp only [go_sem]; try rfl) ?_; simp only [go_sem, hS0]; first | done | ((repeat' apply And.intro) <;> first | omega | (refine w64 ?_ ?_ ?_ <;> omega) | rfl | skip))
  all_goals (rw [b6c d3.Atom default (by omega) hp] <;> rfl)
 ·rw [i3 (by omega), b5I]; rfl
noncomputable def a2T : CT := o6 (fun (x : c6) h => b7a x h)
@[go_sem] theorem c4E (x0 : Int) (x1 : List UInt8) (x2 : List c4) (x3 : List d3) : a2T [(true, [.i .i64 x0, .s x1, .sl false [.s [], .i .i64 0, .s []] (x2.map c4.cells), .sl false [.i .i64 0, .s [], .sl false [.s [], .i .i64 0, .s []] [], .i .i64 0, .s [], .i .i64 0, .s [], .s [], .i .i64 0, .s []] (x3.map (d3.cells false false))])] = some ((c6.mk x0 (d5.mk x1 x2) x3).Body.length ≤ 8, [], .one (false, [.sl true [.s [], .sl false [.s [], .i .i64 0, .s []] []] ((k8 (c6.mk x0 (d5.mk x1 x2) x3)).map (d5.cells false false))])) := i6 _ (by rintro ⟨_, ⟨_, _⟩, _⟩ ⟨_, ⟨_, _⟩, _⟩ h; simp at h; simp_all) (c6.mk x0 (d5.mk x1 x2) x3)
theorem b0V : OkC Tryz.prog 168 a2T := i7 _
def a4U : ACode := q' ([o' 2 (.box 2 (.t 0)), z' 4 0]) (.seq (q' ([m' 6 1, o' 7 (.bin .eql (.t 6) (.k (.v false [.c (.s [112, 97, 99, 107, 101, 116])])))]) (.cond (.t 7) (q' ([z'
 4 4]) .ret) .skip)) (.seq (q' ([m' 8 1, o' 9 (.bin .eql (.t 8) (.k (.v false [.c (.s [102, 111, 114, 119, 97, 114, 100])])))]) (.cond (.t 9) (q' ([z' 4 1])
 .ret) .skip)) (q' ([e' 10 2 2, m' 11 1, c' 12 160 [10, 11], w' 5 [.i .i64, .s, .i .i64], s' 3 5 12]) (.seq (q' ([f' 13 0 5, l' 14 13, o' 15 (.bin .eql (.t 14)
 (k' 0))]) (.cond (.t 15) (q' ([o' 4 (.mov (.k (.v false [.c (.i .i64 (-1))])))]) .ret) .skip)) (q' ([f' 16 2 5, l' 17 16, m' 4 17]) .ret)))))
theorem b3f : cmp Tryz.prog Tryz.f215 = some a4U := by kernel_rfl
theorem b5s (p : c7) (name : List UInt8) (hpre : l4 p = true) : A0l Tryz.prog 215 [(true, [.sl false [.i .i64 0, .s [], .i .i64 0] (p.Decls.map c8.cells), .sl false [.i .i64 0, .s [], .sl false [.s [], .i .i64 0, .s []] [], .sl false [.i .i64 0, .s [], .sl false [.s [], .i .i64 0, .s []] [], .i .i64 0, .s [], .i .i64 0, .s [], .s [], .i .i64 0, .s []] []] (p.Rules.map (c6.cells false false))]), (false, [.s name])] [] (.one (false, [.i .i64 (a0q p name)])) := by
 refine spec_of2 false false none Tryz.func215 b3f (rvs := [.t 4]) (hΓ := mkCtx_ok (deep := false) (l := [(160, [], y5)]) ⟨a0G, trivial⟩) (h := ?_)
 intro hb hE
 simp only [go_sem] at hb
 simp only [a4U, x']
 (try refine A2V ?_); simp only [go_sem]; (repeat' first | apply CJ.mk | intro hc); all_goals try ((repeat' first | apply And.intro | intro hs) <;> (try simp only [go_sem, Bool.and_eq_false_iff] at hs) <;> omega)
 ·simp only [a0q, pkB, fwB, *, cond_true, cond_false]
 ·simp only [a0q, pkB, fwB, *, cond_true, cond_false]
 all_goals rw [c0k hpre] at hc
 ·rw [Bool.not_eq_true'] at hc
  simp only [a0q, pkB, fwB, *, cond_true, cond_false]
 ·rw [Bool.not_eq_false'] at hc
  simp only [a0q, pkB, fwB, *, cond_true, cond_false]
noncomputable def a1Y : CT := o6 (fun (x : c7 × (List UInt8)) h => b5s x.1 x.2 h)
@[go_sem] theorem c3K (x0 : List c8) (x1 : List c6) (x2 : List UInt8) : a1Y [(true, [.sl false [.i .i64 0, .s [], .i .i64 0] (x0.map c8.cells), .sl false [.i .i64 0, .s [], .sl false [.s [], .i .i64 0, .s []] [], .sl false [.i .i64 0, .s [], .sl false [.s [], .i .i64 0, .s []] [], .i .i64 0, .s [], .i .i64 0, .s [], .s [], .i .i64 0, .s []] []] (x1.map (c6.cells false false))]), (false, [.s x2])] = some (l4 (c7.mk x0 x1) = true, [], .one (false, [.i .i64 (a0q (c7.mk x0 x1) x2)])) := i6 _ (by rintro ⟨⟨_, _⟩, _⟩ ⟨⟨_, _⟩, _⟩ h; simp at h; simp_all) ((c7.mk x0 x1), x2)
theorem b0e : OkC Tryz.prog 215 a1Y := i7 _
def a3O : ACode := q' ([o' 2 (.box 2 (.t 0)), b' 4 false]) (q' ([m' 5 1, o' 6 (.bin .eql (.t 5) (.k (.v false [.c (.s [112, 97, 99, 107, 101, 116])]))), m' 7 6, ⟨some 8, .ld true
 2 (.t 2), some (7, false)⟩, ⟨some 9, .mov (.t 1), some (7, false)⟩, ⟨some 10, .call 160 [.t 8, .t 9], some (7, false)⟩, ⟨some 11, .fl false 0 1 (.t 10), some
 (7, false)⟩, ⟨some 12, .bin .eql (.t 11) (k' 2), some (7, false)⟩, o' 13 (.pick (.t 7) (.k (.v false [.c (.b true)])) (.t 12)), m' 4 13]) .ret)
theorem b1K : cmp Tryz.prog Tryz.f216 = some a3O := by kernel_rfl
theorem b3A (p : c7) (name : List UInt8) : A0l Tryz.prog 216 [(true, [.sl false [.i .i64 0, .s [], .i .i64 0] (p.Decls.map c8.cells), .sl false [.i .i64 0, .s [], .sl false [.s [], .i .i64 0, .s []] [], .sl false [.i .i64 0, .s [], .sl false [.s [], .i .i64 0, .s []] [], .i .i64 0, .s [], .i .i64 0, .s [], .s [], .i .i64 0, .s []] []] (p.Rules.map (c6.cells false false))]), (false, [.s name])] [] (.one (false, [.b (movB p name)])) := by
 refine spec_of2 false false none Tryz.func216 b1K (rvs := [.t 4]) (hΓ := mkCtx_ok (deep := false) (l := [(160, [], y5)]) ⟨a0G, trivial⟩) (h := ?_)
 intro hb hE
 simp only [go_sem] at hb
 simp only [a3O, x']
 (try refine A2V ?_); simp only [go_sem]; (repeat' first | apply CJ.mk | intro hc); all_goals try ((repeat' first | apply And.intro | intro hs) <;> (try simp only [go_sem, Bool.and_eq_false_iff] at hs) <;> omega)
 all_goals (first | rfl | trace_state)
noncomputable def a1e : CT := i5 (fun (x : c7 × (List UInt8)) => b3A x.1 x.2)
@[go_sem] theorem c2P (x0 : List c8) (x1 : List c6) (x2 : List UInt8) : a1e [(true, [.sl false [.i .i64 0, .s [], .i .i64 0] (x0.map c8.cells), .sl false [.i .i64 0, .s [], .sl false [.s [], .i .i64 0, .s []] [], .sl false [.i .i64 0, .s [], .sl false [.s [], .i .i64 0, .s []] [], .i .i64 0, .s [], .i .i64 0, .s [], .s [], .i .i64 0, .s []] []] (x1.map (c6.cells false false))]), (false, [.s x2])] = some (True, [], .one (false, [.b (movB (c7.mk x0 x1) x2)])) := f7 _ (by rintro ⟨⟨_, _⟩, _⟩ ⟨⟨_, _⟩, _⟩ h; simp at h; simp_all) ((c7.mk x0 x1), x2)
theorem a8Z : OkC Tryz.prog 216 a1e := f8 _
def a4V : ACode := q' ([o' 1 (.box 4 (.t 0)), o' 2 (.mov (.k (.v false [.nl [.s [], .sl false [.s [], .i .i64 0, .s []] []]])))]) (q' ([f' 5 1 1, e' 6 2 5, o' 7 (.bsl 2 1 [.s, .sl
 [.s [], .i .i64 0, .s []]] [(0, .t 6)]), m' 3 7]) (.seq (q' ([f' 8 3 1, l' 9 8, n' 10 9, z' 11 0]) (.block 0 (.loop (q' ([r' 12 11 10]) (.seq (.cond (.t 12)
 .skip (.exit 0)) (.seq (.block 1 (q' ([m' 13 11, m' 4 13]) (q' ([f' 14 3 1, l' 15 14, m' 16 4, i' 17 10 15 16, f' 18 0 17, l' 19 18, o' 20 (.bin .neq (.t 19)
 (k' 3))]) (.cond (.t 20) (g' [m' 21 3, f' 22 3 1, l' 23 22, m' 24 4, i' 25 10 23 24, f' 26 1 25, e' 27 2 26, o' 28 (.bsl 2 1 [.s, .sl [.s [], .i .i64 0, .s
 []]] [(0, .t 27)]), o' 29 (.app 2 40 [.s, .sl [.s [], .i .i64 0, .s []]] (.t 21) (.t 28)), m' 3 29]) .skip)))) (g' [a' 30 11, m' 11 30]))))))) (q' ([m' 31 3,
 m' 2 31]) .ret)))
theorem b3g : cmp Tryz.prog Tryz.f214 = some a4V := by kernel_rfl
theorem b5t (r : c6) (hpre : r.Body.length ≤ 8) : A0l Tryz.prog 214 [(true, [.i .i64 r.Kind, .s r.Head.Name, .sl false [.s [], .i .i64 0, .s []] (r.Head.Args.map c4.cells), .sl false [.i .i64 0, .s [], .sl false [.s [], .i .i64 0, .s []] [], .i .i64 0, .s [], .i .i64 0, .s [], .s [], .i .i64 0, .s []] (r.Body.map (d3.cells false false))])] [] (.one (false, [.sl true [.s [], .sl false [.s [], .i .i64 0, .s []] []] ((k8 r).map (d5.cells false false))])) := by
 refine spec_of2 false false none Tryz.func214 b3g (rvs := [.t 2]) (hΓ := mkCtx_ok (deep := false) (l := []) trivial) (h := ?_)
 intro hb hE
 simp only [go_sem] at hb
 simp only [a4V, x']
 (try refine A2V ?_); simp only [go_sem]; (repeat' first | apply CJ.mk | intro hc); all_goals try ((repeat' first | apply And.intro | intro hs) <;> (try simp only [go_sem, Bool.and_eq_false_iff] at hs) <;> omega)
 refine aw_loop2 false [(false, 3, 0, 100006)] [1, 10] [2] [] (fun i : {i : Nat // i ≤ r.Body.length} => [(3, .v false [.ow 100006]), (11, slV (.i .i64 i.1))]) (fun i => []) (fun i => [(100006, [.s [], .sl false [.s [], .i .i64 0, .s []] []], (r.Head :: ((r.Body.take i.1).filter atB).map d3.Atom).map (d5.cells false false))]) (fun i => r.Body.length - i.1) (⟨0, by simp⟩) _ (by simp only [go_sem]; try rfl) ?_ ?_
 ·simp only [go_sem]
  all_goals first | omega | ((repeat' apply And.intro) <;> first | omega | rfl | skip)
 intro S0 hS0 i
 simp only [go_sem] at hS0
 obtain ⟨i, hi⟩ := i
 (try refine A2V ?_); simp only [go_sem, hS0]; (repeat' first | apply CJ.mk | intro hc); all_goals try ((repeat' first | apply And.intro | intro hs) <;> (try simp only [go_sem, Bool.and_eq_false_iff] at hs) <;> omega)
 ·have := b2N atB d3.Atom (r.Body.take i); simp at this; omega
 ·have hp : atB (r.Body.getD i default) = true := hc
  (refine lpK_n2 (⟨i + 1, by omega⟩) _ (by simp only [go_sem]; try rfl) ?_; simp only [go_sem, hS0]; first | done | ((repeat' apply And.intro) <;> first | omega | (refine w64 ?_ ?_ ?_ <;> omega) | rfl | skip))
  all_goals (rw [b0j d3.Atom default (by omega) hp] <;> rfl)
 ·have hp : atB (r.Body.getD i default) = false := hc
  (refine lpK_n2 (⟨i + 1, by omega⟩) _ (by simp only [go_sem]; try rfl) ?_; simp only [go_sem, hS0]; first | done | ((repeat' apply And.intro) <;> first | omega | (refine w64 ?_ ?_ ?_ <;> omega) | rfl | skip))
  all_goals (rw [b6c d3.Atom default (by omega) hp] <;> rfl)
 ·rw [i3 (by omega), b5I]; rfl
noncomputable def a1Z : CT := o6 (fun (x : c6) h => b5t x h)
@[go_sem] theorem c3L (x0 : Int) (x1 : List UInt8) (x2 : List c4) (x3 : List d3) : a1Z [(true, [.i .i64 x0, .s x1, .sl false [.s [], .i .i64 0, .s []] (x2.map c4.cells), .sl false [.i .i64 0, .s [], .sl false [.s [], .i .i64 0, .s []] [], .i .i64 0, .s [], .i .i64 0, .s [], .s [], .i .i64 0, .s []] (x3.map (d3.cells false false))])] = some ((c6.mk x0 (d5.mk x1 x2) x3).Body.length ≤ 8, [], .one (false, [.sl true [.s [], .sl false [.s [], .i .i64 0, .s []] []] ((k8 (c6.mk x0 (d5.mk x1 x2) x3)).map (d5.cells false false))])) := i6 _ (by rintro ⟨_, ⟨_, _⟩, _⟩ ⟨_, ⟨_, _⟩, _⟩ h; simp at h; simp_all) (c6.mk x0 (d5.mk x1 x2) x3)
theorem b0f : OkC Tryz.prog 214 a1Z := i7 _
theorem c1R {p : c7} (h : l4 p = true) {r : c6} (hr : r ∈ p.Rules) : r.Body.length ≤ 8 := by
 simp only [l4, Bool.and_eq_true, List.all_eq_true] at h
 have := h.2 r hr
 simp only [j1, Bool.and_eq_true, decide_eq_true_eq] at this
 omega
def a0O : ACode := q' ([o' 2 (.box 10 (.t 0)), b' 3 false]) (q' ([f' 4 0 2, l' 5 4, o' 6 (.bin .neq (.t 5) (k' 3)), m' 7 6, ⟨some 8, .ld true 2 (.t 1), some (7, true)⟩, ⟨some 9,
 .fa 1 (.t 2), some (7, true)⟩, ⟨some 10, .fa 0 (.t 9), some (7, true)⟩, ⟨some 11, .ld false 1 (.t 10), some (7, true)⟩, ⟨some 12, .call 342 [.t 8, .t 11],
 some (7, true)⟩, o' 13 (.pick (.t 7) (.t 12) (.k (.v false [.c (.b false)]))), m' 3 13]) .ret)
theorem a7k : cmp Tryz.prog Tryz.f343 = some a0O := by kernel_rfl
theorem a8A (l : d3) (p : c7) : A0l Tryz.prog 343 [(true, [.i .i64 l.Kind, .s l.Atom.Name, .sl false [.s [], .i .i64 0, .s []] (l.Atom.Args.map c4.cells), .i .i64 l.Op, .s l.A.Var, .i .i64 l.A.Val.N, .s l.A.Val.S, .s l.B.Var, .i .i64 l.B.Val.N, .s l.B.Val.S]), (false, [.p [.sl false [.i .i64 0, .s [], .i .i64 0] (p.Decls.map c8.cells), .sl false [.i .i64 0, .s [], .sl false [.s [], .i .i64 0, .s []] [], .sl false [.i .i64 0, .s [], .sl false [.s [], .i .i64 0, .s []] [], .i .i64 0, .s [], .i .i64 0, .s [], .s [], .i .i64 0, .s []] []] (p.Rules.map (c6.cells false false))]])] [] (.one (false, [.b (a6k p l)])) := by
 refine spec_of2 false false none Tryz.func343 a7k (rvs := [.t 3]) (hΓ := mkCtx_ok (deep := false) (l := [(342, [], a0w)]) ⟨a3T, trivial⟩) (h := ?_)
 intro hb hE
 simp only [go_sem] at hb
 simp only [a0O, x']
 (try refine A2V ?_); simp only [go_sem]; (repeat' first | apply CJ.mk | intro hc); all_goals try ((repeat' first | apply And.intro | intro hs) <;> (try simp only [go_sem, Bool.and_eq_false_iff] at hs) <;> omega)
 all_goals (first | rfl | trace_state)
noncomputable def y4 : CT := i5 (fun (x : d3 × c7) => a8A x.1 x.2)
@[go_sem] theorem b9t (x0 : Int) (x1 : List UInt8) (x2 : List c4) (x3 : Int) (x4 : List UInt8) (x5 : Int) (x6 x7 : List UInt8) (x8 : Int) (x9 : List UInt8) (x10 : List c8) (x11 : List c6) : y4 [(true, [.i .i64 x0, .s x1, .sl false [.s [], .i .i64 0, .s []] (x2.map c4.cells), .i .i64 x3, .s x4, .i .i64 x5, .s x6, .s x7, .i .i64 x8, .s x9]), (false, [.p [.sl false [.i .i64 0, .s [], .i .i64 0] (x10.map c8.cells), .sl false [.i .i64 0, .s [], .sl false [.s [], .i .i64 0, .s []] [], .sl false [.i .i64 0, .s [], .sl false [.s [], .i .i64 0, .s []] [], .i .i64 0, .s [], .i .i64 0, .s [], .s [], .i .i64 0, .s []] []] (x11.map (c6.cells false false))]])] = some (True, [], .one (false, [.b (a6k (c7.mk x10 x11) (d3.mk x0 (d5.mk x1 x2) x3 (c4.mk x4 (c9.mk x5 x6)) (c4.mk x7 (c9.mk x8 x9))))])) := f7 _ (by rintro ⟨⟨_, ⟨_, _⟩, _, ⟨_, ⟨_, _⟩⟩, ⟨_, ⟨_, _⟩⟩⟩, ⟨_, _⟩⟩ ⟨⟨_, ⟨_, _⟩, _, ⟨_, ⟨_, _⟩⟩, ⟨_, ⟨_, _⟩⟩⟩, ⟨_, _⟩⟩ h; simp at h; simp_all) ((d3.mk x0 (d5.mk x1 x2) x3 (c4.mk x4 (c9.mk x5 x6)) (c4.mk x7 (c9.mk x8 x9))), (c7.mk x10 x11))
theorem a5e : OkC Tryz.prog 343 y4 := f8 _
theorem c0y (l : List d3) (p : c7) : A0l Tryz.prog 275 [(false, [.sl false [.i .i64 0, .s [], .sl false [.s [], .i .i64 0, .s []] [], .i .i64 0, .s [], .i .i64 0, .s [], .s [], .i .i64 0, .s []] (l.map (d3.cells false false))]), (false, [.f 343 [.p [.sl false [.i .i64 0, .s [], .i .i64 0] (p.Decls.map c8.cells), .sl false [.i .i64 0, .s [], .sl false [.s [], .i .i64 0, .s []] [], .sl false [.i .i64 0, .s [], .sl false [.s [], .i .i64 0, .s []] [], .i .i64 0, .s [], .i .i64 0, .s [], .s [], .i .i64 0, .s []] []] (p.Rules.map (c6.cells false false))]]])] [] (.one (false, [.i .i64 (y3 (fun y => a6k p y) l)])) := by
 refine spec_of2 false false none Tryz.func275 b9C (rvs := [.t 4]) (hΓ := mkCtx_ok (deep := false) (l := [(343, [], y4)]) ⟨a5e, trivial⟩) (h := ?_)
 intro hb hE
 simp only [go_sem] at hb
 simp only [b2h, x']
 (try refine A2V ?_); simp only [go_sem]; (repeat' first | apply CJ.mk | intro hc); all_goals try ((repeat' first | apply And.intro | intro hs) <;> (try simp only [go_sem, Bool.and_eq_false_iff] at hs) <;> omega)
 refine aw_loop2 false [] [0, 1, 7] [] [] (fun i : {i : Nat // i ≤ l.length ∧ (l.take i).any (fun y => a6k p y) = false} => [(8, slV (.i .i64 i.1))]) (fun i => []) (fun i => []) (fun i => l.length - i.1) (⟨0, by simp⟩) _ rfl ?_ ?_
 ·simp only [go_sem]
  all_goals first | omega | ((repeat' apply And.intro) <;> first | omega | rfl | skip)
 intro S0 hS0 i
 simp only [go_sem] at hS0
 obtain ⟨i, hi, ha⟩ := i
 (try refine A2V ?_); simp only [go_sem, hS0]; (repeat' first | apply CJ.mk | intro hc); all_goals try ((repeat' first | apply And.intro | intro hs) <;> (try simp only [go_sem, Bool.and_eq_false_iff] at hs) <;> omega)
 ·exact (n9 (p := fun y => a6k p y) (d := default) (by omega) ha (by simpa [-List.getD_eq_getElem?_getD] using hc)).symm
 ·(refine lpK_n2 (⟨i + 1, by omega, k7 (p := fun y => a6k p y) default (by omega) ha (by simpa [-List.getD_eq_getElem?_getD] using hc)⟩) _ rfl ?_; simp only [go_sem, hS0]; first | done | ((repeat' apply And.intro) <;> first | omega | (refine w64 ?_ ?_ ?_ <;> omega) | rfl | skip))
 ·exact (n8 (by rwa [i3 (by omega)] at ha)).symm
 all_goals trace_state
noncomputable def a5I : CT := i5 (fun (x : (List d3) × c7) => c0y x.1 x.2)
@[go_sem] theorem c7r (l : List d3) (x0 : List c8) (x1 : List c6) : a5I [(false, [.sl false [.i .i64 0, .s [], .sl false [.s [], .i .i64 0, .s []] [], .i .i64 0, .s [], .i .i64 0, .s [], .s [], .i .i64 0, .s []] (l.map (d3.cells false false))]), (false, [.f 343 [.p [.sl false [.i .i64 0, .s [], .i .i64 0] (x0.map c8.cells), .sl false [.i .i64 0, .s [], .sl false [.s [], .i .i64 0, .s []] [], .sl false [.i .i64 0, .s [], .sl false [.s [], .i .i64 0, .s []] [], .i .i64 0, .s [], .i .i64 0, .s [], .s [], .i .i64 0, .s []] []] (x1.map (c6.cells false false))]]])] = some (True, [], .one (false, [.i .i64 (y3 (fun y => a6k (c7.mk x0 x1) y) l)])) := f7 _ (by rintro ⟨_, ⟨_, _⟩⟩ ⟨_, ⟨_, _⟩⟩ h; simp at h; simp_all) (l, (c7.mk x0 x1))
theorem b3T : OkC Tryz.prog 275 a5I := f8 _
theorem c0v (l : List d3) (p : c7) : A0l Tryz.prog 192 [(false, [.sl false [.i .i64 0, .s [], .sl false [.s [], .i .i64 0, .s []] [], .i .i64 0, .s [], .i .i64 0, .s [], .s [], .i .i64 0, .s []] (l.map (d3.cells false false))]), (false, [.f 343 [.p [.sl false [.i .i64 0, .s [], .i .i64 0] (p.Decls.map c8.cells), .sl false [.i .i64 0, .s [], .sl false [.s [], .i .i64 0, .s []] [], .sl false [.i .i64 0, .s [], .sl false [.s [], .i .i64 0, .s []] [], .i .i64 0, .s [], .i .i64 0, .s [], .s [], .i .i64 0, .s []] []] (p.Rules.map (c6.cells false false))]]])] [] (.one (false, [.b (l.any (fun y => a6k p y))])) := by
 refine spec_of2 false false none Tryz.func192 b9B (rvs := [.t 4]) (hΓ := mkCtx_ok (deep := false) (l := [(275, [], a5I)]) ⟨b3T, trivial⟩) (h := ?_)
 intro hb hE
 simp only [go_sem] at hb
 simp only [b2g, x']
 (try refine A2V ?_); simp only [go_sem]; (repeat' first | apply CJ.mk | intro hc); all_goals try ((repeat' first | apply And.intro | intro hs) <;> (try simp only [go_sem, Bool.and_eq_false_iff] at hs) <;> omega)
 ·exact a0d _ _
noncomputable def a5F : CT := i5 (fun (x : (List d3) × c7) => c0v x.1 x.2)
@[go_sem] theorem c7o (l : List d3) (x0 : List c8) (x1 : List c6) : a5F [(false, [.sl false [.i .i64 0, .s [], .sl false [.s [], .i .i64 0, .s []] [], .i .i64 0, .s [], .i .i64 0, .s [], .s [], .i .i64 0, .s []] (l.map (d3.cells false false))]), (false, [.f 343 [.p [.sl false [.i .i64 0, .s [], .i .i64 0] (x0.map c8.cells), .sl false [.i .i64 0, .s [], .sl false [.s [], .i .i64 0, .s []] [], .sl false [.i .i64 0, .s [], .sl false [.s [], .i .i64 0, .s []] [], .i .i64 0, .s [], .i .i64 0, .s [], .s [], .i .i64 0, .s []] []] (x1.map (c6.cells false false))]]])] = some (True, [], .one (false, [.b (l.any (fun y => a6k (c7.mk x0 x1) y))])) := f7 _ (by rintro ⟨_, ⟨_, _⟩⟩ ⟨_, ⟨_, _⟩⟩ h; simp at h; simp_all) (l, (c7.mk x0 x1))
theorem b3Q : OkC Tryz.prog 192 a5F := f8 _
def a2i : ACode := q' ([o' 2 (.box 2 (.t 0)), o' 3 (.box 4 (.t 1)), b' 4 false]) (q' ([f' 7 3 3, l' 8 7, m' 5 8]) (.seq (q' ([f' 9 0 3, l' 10 9, o' 11 (.bin .neq (.t 10) (k' 1)),
 m' 12 11, ⟨some 13, .fa 1 (.t 3), some (12, false)⟩, ⟨some 14, .fa 0 (.t 13), some (12, false)⟩, ⟨some 15, .ld false 1 (.t 14), some (12, false)⟩, ⟨some 16,
 .bin .eql (.t 15) (.k (.v false [.c (.s [102, 111, 114, 119, 97, 114, 100])])), some (12, false)⟩, o' 17 (.pick (.t 12) (.k (.v false [.c (.b true)])) (.t
 16))]) (.cond (.t 17) (.seq (q' ([m' 18 5, n' 19 18, o' 20 (.bin .eql (.t 19) (k' 0)), m' 21 20, ⟨some 22, .mov (.t 5), some (21, false)⟩, ⟨some 23, .ia 10
 (.t 22) (k' 0), some (21, false)⟩, ⟨some 24, .fa 0 (.t 23), some (21, false)⟩, ⟨some 25, .ld false 1 (.t 24), some (21, false)⟩, ⟨some 26, .bin .neq (.t 25)
 (k' 1), some (21, false)⟩, o' 27 (.pick (.t 21) (.k (.v false [.c (.b true)])) (.t 26))]) (.cond (.t 27) (q' ([b' 4 false]) .ret) .skip)) (q' ([m' 28 5, o' 29
 (.ia 10 (.t 28) (k' 0)), f' 30 1 29, f' 31 0 30, l' 32 31, m' 6 32]) (.seq (q' ([m' 33 6, o' 34 (.bin .neq (.t 33) (.k (.v false [.c (.s [112, 97, 99, 107,
 101, 116])]))), m' 35 34, ⟨some 36, .fa 0 (.t 3), some (35, true)⟩, ⟨some 37, .ld false 1 (.t 36), some (35, true)⟩, ⟨some 38, .bin .eql (.t 37) (k' 1), some
 (35, true)⟩, ⟨some 39, .mov (.t 38), some (35, true)⟩, ⟨some 40, .ld true 2 (.t 2), some (39, false)⟩, ⟨some 41, .mov (.t 6), some (39, false)⟩, ⟨some 42,
 .call 342 [.t 40, .t 41], some (39, false)⟩, ⟨some 43, .not (.t 42), some (39, false)⟩, ⟨some 44, .pick (.t 39) (.k (.v false [.c (.b true)])) (.t 43), some
 (35, true)⟩, o' 45 (.pick (.t 35) (.t 44) (.k (.v false [.c (.b false)])))]) (.cond (.t 45) (q' ([b' 4 false]) .ret) .skip)) (g' [m' 46 5, o' 47 (.slc 10 (.t
 46) (some (k' 1)) none none), m' 5 47])))) .skip)) (q' ([m' 48 5, o' 49 (.mf 343 [.t 2]), c' 50 192 [48, 49], o' 51 (.not (.t 50)), m' 4 51]) .ret)))
theorem a9c : cmp Tryz.prog Tryz.f303 = some a2i := by kernel_rfl
theorem b0y (p : c7) (r : c6) : A0l Tryz.prog 303 [(true, [.sl false [.i .i64 0, .s [], .i .i64 0] (p.Decls.map c8.cells), .sl false [.i .i64 0, .s [], .sl false [.s [], .i .i64 0, .s []] [], .sl false [.i .i64 0, .s [], .sl false [.s [], .i .i64 0, .s []] [], .i .i64 0, .s [], .i .i64 0, .s [], .s [], .i .i64 0, .s []] []] (p.Rules.map (c6.cells false false))]), (true, [.i .i64 r.Kind, .s r.Head.Name, .sl false [.s [], .i .i64 0, .s []] (r.Head.Args.map c4.cells), .sl false [.i .i64 0, .s [], .sl false [.s [], .i .i64 0, .s []] [], .i .i64 0, .s [], .i .i64 0, .s [], .s [], .i .i64 0, .s []] (r.Body.map (d3.cells false false))])] [] (.one (false, [.b (b3k p r)])) := by
 refine spec_of2 false false none Tryz.func303 a9c (rvs := [.t 4]) (hΓ := mkCtx_ok (deep := false) (l := [(342, [], a0w), (192, [], a5F)]) ⟨a3T, b3Q, trivial⟩) (h := ?_)
 intro hb hE
 simp only [go_sem] at hb
 simp only [a2i, x']
 (try refine A2V ?_); simp only [go_sem]; (repeat' first | apply CJ.mk | intro hc); all_goals try ((repeat' first | apply And.intro | intro hs) <;> (try simp only [go_sem, Bool.and_eq_false_iff] at hs) <;> omega)
 all_goals (try simp only [m9] at *)
 all_goals (clear hb)
 all_goals (first | (simp at hc; omega) | grind [b3k, c1N, pkB, fwB, movB] | trace_state)
noncomputable def a0l : CT := i5 (fun (x : c7 × c6) => b0y x.1 x.2)
@[go_sem] theorem c1a (x0 : List c8) (x1 : List c6) (x2 : Int) (x3 : List UInt8) (x4 : List c4) (x5 : List d3) : a0l [(true, [.sl false [.i .i64 0, .s [], .i .i64 0] (x0.map c8.cells), .sl false [.i .i64 0, .s [], .sl false [.s [], .i .i64 0, .s []] [], .sl false [.i .i64 0, .s [], .sl false [.s [], .i .i64 0, .s []] [], .i .i64 0, .s [], .i .i64 0, .s [], .s [], .i .i64 0, .s []] []] (x1.map (c6.cells false false))]), (true, [.i .i64 x2, .s x3, .sl false [.s [], .i .i64 0, .s []] (x4.map c4.cells), .sl false [.i .i64 0, .s [], .sl false [.s [], .i .i64 0, .s []] [], .i .i64 0, .s [], .i .i64 0, .s [], .s [], .i .i64 0, .s []] (x5.map (d3.cells false false))])] = some (True, [], .one (false, [.b (b3k (c7.mk x0 x1) (c6.mk x2 (d5.mk x3 x4) x5))])) := f7 _ (by rintro ⟨⟨_, _⟩, ⟨_, ⟨_, _⟩, _⟩⟩ ⟨⟨_, _⟩, ⟨_, ⟨_, _⟩, _⟩⟩ h; simp at h; simp_all) ((c7.mk x0 x1), (c6.mk x2 (d5.mk x3 x4) x5))
theorem a7h : OkC Tryz.prog 303 a0l := f8 _
def a2E : ACode := q' ([o' 2 (.box 2 (.t 0)), b' 3 false]) (q' ([e' 4 2 1, f' 5 0 2, l' 6 5, c' 7 163 [4, 6], o' 8 (.bin .lss (.t 7) (k' 0)), m' 3 8]) .ret)
theorem b0q : cmp Tryz.prog Tryz.f300 = some a2E := by kernel_rfl
theorem b1Q (a : d5) (p : c7) : A0l Tryz.prog 300 [(true, [.s a.Name, .sl false [.s [], .i .i64 0, .s []] (a.Args.map c4.cells)]), (false, [.p [.sl false [.i .i64 0, .s [], .i .i64 0] (p.Decls.map c8.cells), .sl false [.i .i64 0, .s [], .sl false [.s [], .i .i64 0, .s []] [], .sl false [.i .i64 0, .s [], .sl false [.s [], .i .i64 0, .s []] [], .i .i64 0, .s [], .i .i64 0, .s [], .s [], .i .i64 0, .s []] []] (p.Rules.map (c6.cells false false))]])] [] (.one (false, [.b (a2j p a)])) := by
 refine spec_of2 false false none Tryz.func300 b0q (rvs := [.t 3]) (hΓ := mkCtx_ok (deep := false) (l := [(163, [], a0u)]) ⟨a3R, trivial⟩) (h := ?_)
 intro hb hE
 simp only [go_sem] at hb
 simp only [a2E, x']
 (try refine A2V ?_); simp only [go_sem]; (repeat' first | apply CJ.mk | intro hc); all_goals try ((repeat' first | apply And.intro | intro hs) <;> (try simp only [go_sem, Bool.and_eq_false_iff] at hs) <;> omega)
 all_goals (first | rfl | trace_state)
noncomputable def a0y : CT := i5 (fun (x : d5 × c7) => b1Q x.1 x.2)
@[go_sem] theorem c1y (x0 : List UInt8) (x1 : List c4) (x2 : List c8) (x3 : List c6) : a0y [(true, [.s x0, .sl false [.s [], .i .i64 0, .s []] (x1.map c4.cells)]), (false, [.p [.sl false [.i .i64 0, .s [], .i .i64 0] (x2.map c8.cells), .sl false [.i .i64 0, .s [], .sl false [.s [], .i .i64 0, .s []] [], .sl false [.i .i64 0, .s [], .sl false [.s [], .i .i64 0, .s []] [], .i .i64 0, .s [], .i .i64 0, .s [], .s [], .i .i64 0, .s []] []] (x3.map (c6.cells false false))]])] = some (True, [], .one (false, [.b (a2j (c7.mk x2 x3) (d5.mk x0 x1))])) := f7 _ (by rintro ⟨⟨_, _⟩, ⟨_, _⟩⟩ ⟨⟨_, _⟩, ⟨_, _⟩⟩ h; simp at h; simp_all) ((d5.mk x0 x1), (c7.mk x2 x3))
theorem a8n : OkC Tryz.prog 300 a0y := f8 _
def a2F : ACode := q' ([o' 2 (.box 2 (.t 0)), b' 3 false]) (.seq (.reg true [e' 4 2 1, f' 5 0 2, l' 6 5, c' 7 163 [4, 6], f' 8 1 2, l' 9 8, n' 10 9, o' 11 (.bin .neq (.t 7) (.t
 10)), m' 3 11]) .ret)
theorem b0r : cmp Tryz.prog Tryz.f301 = some a2F := by kernel_rfl
theorem b1R (a : d5) (p : c7) : A0l Tryz.prog 301 [(true, [.s a.Name, .sl false [.s [], .i .i64 0, .s []] (a.Args.map c4.cells)]), (false, [.p [.sl false [.i .i64 0, .s [], .i .i64 0] (p.Decls.map c8.cells), .sl false [.i .i64 0, .s [], .sl false [.s [], .i .i64 0, .s []] [], .sl false [.i .i64 0, .s [], .sl false [.s [], .i .i64 0, .s []] [], .i .i64 0, .s [], .i .i64 0, .s [], .s [], .i .i64 0, .s []] []] (p.Rules.map (c6.cells false false))]])] [] (.one (false, [.b (a2k p a)])) := by
 refine spec_of2 false false none Tryz.func301 b0r (rvs := [.t 3]) (hΓ := mkCtx_ok (deep := false) (l := [(163, [], a0u)]) ⟨a3R, trivial⟩) (h := ?_)
 intro hb hE
 simp only [go_sem] at hb
 simp only [a2F, x']
 (try refine A2V ?_); simp only [go_sem]; (repeat' first | apply CJ.mk | intro hc); all_goals try ((repeat' first | apply And.intro | intro hs) <;> (try simp only [go_sem, Bool.and_eq_false_iff] at hs) <;> omega)
 all_goals (first | rfl | trace_state)
noncomputable def a0z : CT := i5 (fun (x : d5 × c7) => b1R x.1 x.2)
@[go_sem] theorem c1z (x0 : List UInt8) (x1 : List c4) (x2 : List c8) (x3 : List c6) : a0z [(true, [.s x0, .sl false [.s [], .i .i64 0, .s []] (x1.map c4.cells)]), (false, [.p [.sl false [.i .i64 0, .s [], .i .i64 0] (x2.map c8.cells), .sl false [.i .i64 0, .s [], .sl false [.s [], .i .i64 0, .s []] [], .sl false [.i .i64 0, .s [], .sl false [.s [], .i .i64 0, .s []] [], .i .i64 0, .s [], .i .i64 0, .s [], .s [], .i .i64 0, .s []] []] (x3.map (c6.cells false false))]])] = some (True, [], .one (false, [.b (a2k (c7.mk x2 x3) (d5.mk x0 x1))])) := f7 _ (by rintro ⟨⟨_, _⟩, ⟨_, _⟩⟩ ⟨⟨_, _⟩, ⟨_, _⟩⟩ h; simp at h; simp_all) ((d5.mk x0 x1), (c7.mk x2 x3))
theorem a8o : OkC Tryz.prog 301 a0z := f8 _
def a2G : ACode := q' ([o' 1 (.box 2 (.t 0)), b' 2 false]) (q' ([f' 3 0 1, l' 4 3, o' 5 (.bin .eql (.t 4) (.k (.v false [.c (.s [102, 111, 114, 119, 97, 114, 100])]))), m' 2 5])
 .ret)
theorem b0s : cmp Tryz.prog Tryz.f302 = some a2G := by kernel_rfl
theorem b1S (a : d5) : A0l Tryz.prog 302 [(true, [.s a.Name, .sl false [.s [], .i .i64 0, .s []] (a.Args.map c4.cells)])] [] (.one (false, [.b (b0v a)])) := by
 refine spec_of2 false false none Tryz.func302 b0s (rvs := [.t 2]) (hΓ := mkCtx_ok (deep := false) (l := []) trivial) (h := ?_)
 intro hb hE
 simp only [go_sem] at hb
 simp only [a2G, x']
 (try refine A2V ?_); simp only [go_sem]; (repeat' first | apply CJ.mk | intro hc); all_goals try ((repeat' first | apply And.intro | intro hs) <;> (try simp only [go_sem, Bool.and_eq_false_iff] at hs) <;> omega)
 all_goals (first | rfl | trace_state)
noncomputable def a0A : CT := i5 (fun (x : d5) => b1S x)
@[go_sem] theorem c1A (x0 : List UInt8) (x1 : List c4) : a0A [(true, [.s x0, .sl false [.s [], .i .i64 0, .s []] (x1.map c4.cells)])] = some (True, [], .one (false, [.b (b0v (d5.mk x0 x1))])) := f7 _ (by rintro ⟨_, _⟩ ⟨_, _⟩ h; simp at h; simp_all) (d5.mk x0 x1)
theorem a8p : OkC Tryz.prog 302 a0A := f8 _
def a5C : ACode := q' ([z' 4 0]) (.seq (q' ([m' 6 0, n' 7 6, z' 8 0]) (.block 0 (.loop (q' ([r' 9 8 7]) (.seq (.cond (.t 9) .skip (.exit 0)) (.seq (.block 1 (q' ([m' 10 8, m' 5
 10]) (q' ([m' 11 1, m' 12 0, m' 13 5, i' 14 2 12 13, e' 15 2 14, o' 16 (.callv (.t 11) [.t 15])]) (.cond (.t 16) (q' ([m' 17 5, m' 4 17]) .ret) .skip)))) (g'
 [a' 18 8, m' 8 18]))))))) (q' ([o' 4 (.mov (.k (.v false [.c (.i .i64 (-1))])))]) .ret))
theorem b0l : cmp Tryz.prog Tryz.f341 = some a5C := by kernel_rfl
theorem c1Z (l : List d5) (p : c7) : A0l Tryz.prog 341 [(false, [.sl false [.s [], .sl false [.s [], .i .i64 0, .s []] []] (l.map (d5.cells false false))]), (false, [.f 300 [.p [.sl false [.i .i64 0, .s [], .i .i64 0] (p.Decls.map c8.cells), .sl false [.i .i64 0, .s [], .sl false [.s [], .i .i64 0, .s []] [], .sl false [.i .i64 0, .s [], .sl false [.s [], .i .i64 0, .s []] [], .i .i64 0, .s [], .i .i64 0, .s [], .s [], .i .i64 0, .s []] []] (p.Rules.map (c6.cells false false))]]])] [] (.one (false, [.i .i64 (y3 (fun y => a2j p y) l)])) := by
 refine spec_of2 false false none Tryz.func341 b0l (rvs := [.t 4]) (hΓ := mkCtx_ok (deep := false) (l := [(300, [], a0y)]) ⟨a8n, trivial⟩) (h := ?_)
 intro hb hE
 simp only [go_sem] at hb
 simp only [a5C, x']
 (try refine A2V ?_); simp only [go_sem]; (repeat' first | apply CJ.mk | intro hc); all_goals try ((repeat' first | apply And.intro | intro hs) <;> (try simp only [go_sem, Bool.and_eq_false_iff] at hs) <;> omega)
 refine aw_loop2 false [] [0, 1, 7] [] [] (fun i : {i : Nat // i ≤ l.length ∧ (l.take i).any (fun y => a2j p y) = false} => [(8, slV (.i .i64 i.1))]) (fun i => []) (fun i => []) (fun i => l.length - i.1) (⟨0, by simp⟩) _ rfl ?_ ?_
 ·simp only [go_sem]
  all_goals first | omega | ((repeat' apply And.intro) <;> first | omega | rfl | skip)
 intro S0 hS0 i
 simp only [go_sem] at hS0
 obtain ⟨i, hi, ha⟩ := i
 (try refine A2V ?_); simp only [go_sem, hS0]; (repeat' first | apply CJ.mk | intro hc); all_goals try ((repeat' first | apply And.intro | intro hs) <;> (try simp only [go_sem, Bool.and_eq_false_iff] at hs) <;> omega)
 ·exact (n9 (p := fun y => a2j p y) (d := default) (by omega) ha (by simpa [-List.getD_eq_getElem?_getD] using hc)).symm
 ·(refine lpK_n2 (⟨i + 1, by omega, k7 (p := fun y => a2j p y) default (by omega) ha (by simpa [-List.getD_eq_getElem?_getD] using hc)⟩) _ rfl ?_; simp only [go_sem, hS0]; first | done | ((repeat' apply And.intro) <;> first | omega | (refine w64 ?_ ?_ ?_ <;> omega) | rfl | skip))
 ·exact (n8 (by rwa [i3 (by omega)] at ha)).symm
 all_goals trace_state
noncomputable def a8f : CT := i5 (fun (x : (List d5) × c7) => c1Z x.1 x.2)
@[go_sem] theorem c8n (l : List d5) (x0 : List c8) (x1 : List c6) : a8f [(false, [.sl false [.s [], .sl false [.s [], .i .i64 0, .s []] []] (l.map (d5.cells false false))]), (false, [.f 300 [.p [.sl false [.i .i64 0, .s [], .i .i64 0] (x0.map c8.cells), .sl false [.i .i64 0, .s [], .sl false [.s [], .i .i64 0, .s []] [], .sl false [.i .i64 0, .s [], .sl false [.s [], .i .i64 0, .s []] [], .i .i64 0, .s [], .i .i64 0, .s [], .s [], .i .i64 0, .s []] []] (x1.map (c6.cells false false))]]])] = some (True, [], .one (false, [.i .i64 (y3 (fun y => a2j (c7.mk x0 x1) y) l)])) := f7 _ (by rintro ⟨_, ⟨_, _⟩⟩ ⟨_, ⟨_, _⟩⟩ h; simp at h; simp_all) (l, (c7.mk x0 x1))
theorem b5T : OkC Tryz.prog 341 a8f := f8 _
def a5B : ACode := q' ([b' 4 false]) (q' ([m' 5 0, m' 6 1, c' 7 341 [5, 6], o' 8 (.bin .geq (.t 7) (k' 0)), m' 4 8]) .ret)
theorem b0k : cmp Tryz.prog Tryz.f299 = some a5B := by kernel_rfl
theorem c1W (l : List d5) (p : c7) : A0l Tryz.prog 299 [(false, [.sl false [.s [], .sl false [.s [], .i .i64 0, .s []] []] (l.map (d5.cells false false))]), (false, [.f 300 [.p [.sl false [.i .i64 0, .s [], .i .i64 0] (p.Decls.map c8.cells), .sl false [.i .i64 0, .s [], .sl false [.s [], .i .i64 0, .s []] [], .sl false [.i .i64 0, .s [], .sl false [.s [], .i .i64 0, .s []] [], .i .i64 0, .s [], .i .i64 0, .s [], .s [], .i .i64 0, .s []] []] (p.Rules.map (c6.cells false false))]]])] [] (.one (false, [.b (l.any (fun y => a2j p y))])) := by
 refine spec_of2 false false none Tryz.func299 b0k (rvs := [.t 4]) (hΓ := mkCtx_ok (deep := false) (l := [(341, [], a8f)]) ⟨b5T, trivial⟩) (h := ?_)
 intro hb hE
 simp only [go_sem] at hb
 simp only [a5B, x']
 (try refine A2V ?_); simp only [go_sem]; (repeat' first | apply CJ.mk | intro hc); all_goals try ((repeat' first | apply And.intro | intro hs) <;> (try simp only [go_sem, Bool.and_eq_false_iff] at hs) <;> omega)
 ·exact a0d _ _
noncomputable def a8c : CT := i5 (fun (x : (List d5) × c7) => c1W x.1 x.2)
@[go_sem] theorem b5M (l : List d5) (x0 : List c8) (x1 : List c6) : a8c [(false, [.sl false [.s [], .sl false [.s [], .i .i64 0, .s []] []] (l.map (d5.cells false false))]), (false, [.f 300 [.p [.sl false [.i .i64 0, .s [], .i .i64 0] (x0.map c8.cells), .sl false [.i .i64 0, .s [], .sl false [.s [], .i .i64 0, .s []] [], .sl false [.i .i64 0, .s [], .sl false [.s [], .i .i64 0, .s []] [], .i .i64 0, .s [], .i .i64 0, .s [], .s [], .i .i64 0, .s []] []] (x1.map (c6.cells false false))]]])] = some (True, [], .one (false, [.b (l.any (fun y => a2j (c7.mk x0 x1) y))])) := f7 _ (by rintro ⟨_, ⟨_, _⟩⟩ ⟨_, ⟨_, _⟩⟩ h; simp at h; simp_all) (l, (c7.mk x0 x1))
theorem b5N : OkC Tryz.prog 299 a8c := f8 _
theorem c2a (l : List d5) (p : c7) : A0l Tryz.prog 341 [(false, [.sl false [.s [], .sl false [.s [], .i .i64 0, .s []] []] (l.map (d5.cells false false))]), (false, [.f 301 [.p [.sl false [.i .i64 0, .s [], .i .i64 0] (p.Decls.map c8.cells), .sl false [.i .i64 0, .s [], .sl false [.s [], .i .i64 0, .s []] [], .sl false [.i .i64 0, .s [], .sl false [.s [], .i .i64 0, .s []] [], .i .i64 0, .s [], .i .i64 0, .s [], .s [], .i .i64 0, .s []] []] (p.Rules.map (c6.cells false false))]]])] [] (.one (false, [.i .i64 (y3 (fun y => a2k p y) l)])) := by
 refine spec_of2 false false none Tryz.func341 b0l (rvs := [.t 4]) (hΓ := mkCtx_ok (deep := false) (l := [(301, [], a0z)]) ⟨a8o, trivial⟩) (h := ?_)
 intro hb hE
 simp only [go_sem] at hb
 simp only [a5C, x']
 (try refine A2V ?_); simp only [go_sem]; (repeat' first | apply CJ.mk | intro hc); all_goals try ((repeat' first | apply And.intro | intro hs) <;> (try simp only [go_sem, Bool.and_eq_false_iff] at hs) <;> omega)
 refine aw_loop2 false [] [0, 1, 7] [] [] (fun i : {i : Nat // i ≤ l.length ∧ (l.take i).any (fun y => a2k p y) = false} => [(8, slV (.i .i64 i.1))]) (fun i => []) (fun i => []) (fun i => l.length - i.1) (⟨0, by simp⟩) _ rfl ?_ ?_
 ·simp only [go_sem]
  all_goals first | omega | ((repeat' apply And.intro) <;> first | omega | rfl | skip)
 intro S0 hS0 i
 simp only [go_sem] at hS0
 obtain ⟨i, hi, ha⟩ := i
 (try refine A2V ?_); simp only [go_sem, hS0]; (repeat' first | apply CJ.mk | intro hc); all_goals try ((repeat' first | apply And.intro | intro hs) <;> (try simp only [go_sem, Bool.and_eq_false_iff] at hs) <;> omega)
 ·exact (n9 (p := fun y => a2k p y) (d := default) (by omega) ha (by simpa [-List.getD_eq_getElem?_getD] using hc)).symm
 ·(refine lpK_n2 (⟨i + 1, by omega, k7 (p := fun y => a2k p y) default (by omega) ha (by simpa [-List.getD_eq_getElem?_getD] using hc)⟩) _ rfl ?_; simp only [go_sem, hS0]; first | done | ((repeat' apply And.intro) <;> first | omega | (refine w64 ?_ ?_ ?_ <;> omega) | rfl | skip))
 ·exact (n8 (by rwa [i3 (by omega)] at ha)).symm
 all_goals trace_state
noncomputable def a8g : CT := i5 (fun (x : (List d5) × c7) => c2a x.1 x.2)
@[go_sem] theorem c8o (l : List d5) (x0 : List c8) (x1 : List c6) : a8g [(false, [.sl false [.s [], .sl false [.s [], .i .i64 0, .s []] []] (l.map (d5.cells false false))]), (false, [.f 301 [.p [.sl false [.i .i64 0, .s [], .i .i64 0] (x0.map c8.cells), .sl false [.i .i64 0, .s [], .sl false [.s [], .i .i64 0, .s []] [], .sl false [.i .i64 0, .s [], .sl false [.s [], .i .i64 0, .s []] [], .i .i64 0, .s [], .i .i64 0, .s [], .s [], .i .i64 0, .s []] []] (x1.map (c6.cells false false))]]])] = some (True, [], .one (false, [.i .i64 (y3 (fun y => a2k (c7.mk x0 x1) y) l)])) := f7 _ (by rintro ⟨_, ⟨_, _⟩⟩ ⟨_, ⟨_, _⟩⟩ h; simp at h; simp_all) (l, (c7.mk x0 x1))
theorem b5U : OkC Tryz.prog 341 a8g := f8 _
theorem c1X (l : List d5) (p : c7) : A0l Tryz.prog 299 [(false, [.sl false [.s [], .sl false [.s [], .i .i64 0, .s []] []] (l.map (d5.cells false false))]), (false, [.f 301 [.p [.sl false [.i .i64 0, .s [], .i .i64 0] (p.Decls.map c8.cells), .sl false [.i .i64 0, .s [], .sl false [.s [], .i .i64 0, .s []] [], .sl false [.i .i64 0, .s [], .sl false [.s [], .i .i64 0, .s []] [], .i .i64 0, .s [], .i .i64 0, .s [], .s [], .i .i64 0, .s []] []] (p.Rules.map (c6.cells false false))]]])] [] (.one (false, [.b (l.any (fun y => a2k p y))])) := by
 refine spec_of2 false false none Tryz.func299 b0k (rvs := [.t 4]) (hΓ := mkCtx_ok (deep := false) (l := [(341, [], a8g)]) ⟨b5U, trivial⟩) (h := ?_)
 intro hb hE
 simp only [go_sem] at hb
 simp only [a5B, x']
 (try refine A2V ?_); simp only [go_sem]; (repeat' first | apply CJ.mk | intro hc); all_goals try ((repeat' first | apply And.intro | intro hs) <;> (try simp only [go_sem, Bool.and_eq_false_iff] at hs) <;> omega)
 ·exact a0d _ _
noncomputable def a8d : CT := i5 (fun (x : (List d5) × c7) => c1X x.1 x.2)
@[go_sem] theorem b5O (l : List d5) (x0 : List c8) (x1 : List c6) : a8d [(false, [.sl false [.s [], .sl false [.s [], .i .i64 0, .s []] []] (l.map (d5.cells false false))]), (false, [.f 301 [.p [.sl false [.i .i64 0, .s [], .i .i64 0] (x0.map c8.cells), .sl false [.i .i64 0, .s [], .sl false [.s [], .i .i64 0, .s []] [], .sl false [.i .i64 0, .s [], .sl false [.s [], .i .i64 0, .s []] [], .i .i64 0, .s [], .i .i64 0, .s [], .s [], .i .i64 0, .s []] []] (x1.map (c6.cells false false))]]])] = some (True, [], .one (false, [.b (l.any (fun y => a2k (c7.mk x0 x1) y))])) := f7 _ (by rintro ⟨_, ⟨_, _⟩⟩ ⟨_, ⟨_, _⟩⟩ h; simp at h; simp_all) (l, (c7.mk x0 x1))
theorem b5P : OkC Tryz.prog 299 a8d := f8 _
theorem c2b (l : List d5) : A0l Tryz.prog 341 [(false, [.sl false [.s [], .sl false [.s [], .i .i64 0, .s []] []] (l.map (d5.cells false false))]), (false, [.f 302 []])] [] (.one (false, [.i .i64 (y3 (fun y => b0v y) l)])) := by
 refine spec_of2 false false none Tryz.func341 b0l (rvs := [.t 4]) (hΓ := mkCtx_ok (deep := false) (l := [(302, [], a0A)]) ⟨a8p, trivial⟩) (h := ?_)
 intro hb hE
 simp only [go_sem] at hb
 simp only [a5C, x']
 (try refine A2V ?_); simp only [go_sem]; (repeat' first | apply CJ.mk | intro hc); all_goals try ((repeat' first | apply And.intro | intro hs) <;> (try simp only [go_sem, Bool.and_eq_false_iff] at hs) <;> omega)
 refine aw_loop2 false [] [0, 1, 7] [] [] (fun i : {i : Nat // i ≤ l.length ∧ (l.take i).any (fun y => b0v y) = false} => [(8, slV (.i .i64 i.1))]) (fun i => []) (fun i => []) (fun i => l.length - i.1) (⟨0, by simp⟩) _ rfl ?_ ?_
 ·simp only [go_sem]
  all_goals first | omega | ((repeat' apply And.intro) <;> first | omega | rfl | skip)
 intro S0 hS0 i
 simp only [go_sem] at hS0
 obtain ⟨i, hi, ha⟩ := i
 (try refine A2V ?_); simp only [go_sem, hS0]; (repeat' first | apply CJ.mk | intro hc); all_goals try ((repeat' first | apply And.intro | intro hs) <;> (try simp only [go_sem, Bool.and_eq_false_iff] at hs) <;> omega)
 ·exact (n9 (p := fun y => b0v y) (d := default) (by omega) ha (by simpa [-List.getD_eq_getElem?_getD] using hc)).symm
 ·(refine lpK_n2 (⟨i + 1, by omega, k7 (p := fun y => b0v y) default (by omega) ha (by simpa [-List.getD_eq_getElem?_getD] using hc)⟩) _ rfl ?_; simp only [go_sem, hS0]; first | done | ((repeat' apply And.intro) <;> first | omega | (refine w64 ?_ ?_ ?_ <;> omega) | rfl | skip))
 ·exact (n8 (by rwa [i3 (by omega)] at ha)).symm
 all_goals trace_state
noncomputable def a8h : CT := i5 (fun (x : (List d5)) => c2b x)
@[go_sem] theorem c8p (l : List d5) : a8h [(false, [.sl false [.s [], .sl false [.s [], .i .i64 0, .s []] []] (l.map (d5.cells false false))]), (false, [.f 302 []])] = some (True, [], .one (false, [.i .i64 (y3 (fun y => b0v y) l)])) := f7 _ (by intro x y h; simp at h; simp_all) l
theorem b5V : OkC Tryz.prog 341 a8h := f8 _
theorem c1Y (l : List d5) : A0l Tryz.prog 299 [(false, [.sl false [.s [], .sl false [.s [], .i .i64 0, .s []] []] (l.map (d5.cells false false))]), (false, [.f 302 []])] [] (.one (false, [.b (l.any (fun y => b0v y))])) := by
 refine spec_of2 false false none Tryz.func299 b0k (rvs := [.t 4]) (hΓ := mkCtx_ok (deep := false) (l := [(341, [], a8h)]) ⟨b5V, trivial⟩) (h := ?_)
 intro hb hE
 simp only [go_sem] at hb
 simp only [a5B, x']
 (try refine A2V ?_); simp only [go_sem]; (repeat' first | apply CJ.mk | intro hc); all_goals try ((repeat' first | apply And.intro | intro hs) <;> (try simp only [go_sem, Bool.and_eq_false_iff] at hs) <;> omega)
 ·exact a0d _ _
noncomputable def a8e : CT := i5 (fun (x : (List d5)) => c1Y x)
@[go_sem] theorem b5Q (l : List d5) : a8e [(false, [.sl false [.s [], .sl false [.s [], .i .i64 0, .s []] []] (l.map (d5.cells false false))]), (false, [.f 302 []])] = some (True, [], .one (false, [.b (l.any (fun y => b0v y))])) := f7 _ (by intro x y h; simp at h; simp_all) l
theorem b5R : OkC Tryz.prog 299 a8e := f8 _
noncomputable def p9 : CT := (ctO a8c (ctO a8d a8e))
@[go_sem] theorem c1b (l : List d5) (x0 : List c8) (x1 : List c6) : p9 [(false, [.sl false [.s [], .sl false [.s [], .i .i64 0, .s []] []] (l.map (d5.cells false false))]), (false, [.f 300 [.p [.sl false [.i .i64 0, .s [], .i .i64 0] (x0.map c8.cells), .sl false [.i .i64 0, .s [], .sl false [.s [], .i .i64 0, .s []] [], .sl false [.i .i64 0, .s [], .sl false [.s [], .i .i64 0, .s []] [], .i .i64 0, .s [], .i .i64 0, .s [], .s [], .i .i64 0, .s []] []] (x1.map (c6.cells false false))]]])] = some (True, [], .one (false, [.b (l.any (fun y => a2j (c7.mk x0 x1) y))])) := c1G (b5M l x0 x1)
@[go_sem] theorem c1c (l : List d5) (x0 : List c8) (x1 : List c6) : p9 [(false, [.sl false [.s [], .sl false [.s [], .i .i64 0, .s []] []] (l.map (d5.cells false false))]), (false, [.f 301 [.p [.sl false [.i .i64 0, .s [], .i .i64 0] (x0.map c8.cells), .sl false [.i .i64 0, .s [], .sl false [.s [], .i .i64 0, .s []] [], .sl false [.i .i64 0, .s [], .sl false [.s [], .i .i64 0, .s []] [], .i .i64 0, .s [], .i .i64 0, .s [], .s [], .i .i64 0, .s []] []] (x1.map (c6.cells false false))]]])] = some (True, [], .one (false, [.b (l.any (fun y => a2k (c7.mk x0 x1) y))])) := (b5Z (b2M (fun x h => by simp only [List.cons.injEq, Prod.mk.injEq, C.i.injEq, C.s.injEq, C.b.injEq, C.sl.injEq, C.p.injEq, C.mp.injEq, C.f.injEq, reduceCtorEq, Bool.false_eq_true, Nat.reduceEqDiff, Bool.true_eq_false, true_and, and_true, false_and, and_false] at h))).trans (c1G (b5O l x0 x1))
@[go_sem] theorem c1d (l : List d5) : p9 [(false, [.sl false [.s [], .sl false [.s [], .i .i64 0, .s []] []] (l.map (d5.cells false false))]), (false, [.f 302 []])] = some (True, [], .one (false, [.b (l.any (fun y => b0v y))])) := (b5Z (b2M (fun x h => by simp only [List.cons.injEq, Prod.mk.injEq, C.i.injEq, C.s.injEq, C.b.injEq, C.sl.injEq, C.p.injEq, C.mp.injEq, C.f.injEq, reduceCtorEq, Bool.false_eq_true, Nat.reduceEqDiff, Bool.true_eq_false, true_and, and_true, false_and, and_false] at h))).trans ((b5Z (b2M (fun x h => by simp only [List.cons.injEq, Prod.mk.injEq, C.i.injEq, C.s.injEq, C.b.injEq, C.sl.injEq, C.p.injEq, C.mp.injEq, C.f.injEq, reduceCtorEq, Bool.false_eq_true, Nat.reduceEqDiff, Bool.true_eq_false, true_and, and_true, false_and, and_false] at h))).trans (b5Q l))
theorem a7i : OkC Tryz.prog 299 p9 := (c8w b5N (c8w b5P b5R))
def a4I : ACode := q' ([o' 2 (.box 2 (.t 0)), o' 3 (.box 4 (.t 1)), z' 4 0]) (q' ([e' 8 4 3, c' 9 168 [8], m' 5 9]) (.seq (q' ([m' 10 5, o' 11 (.mf 300 [.t 2]), c' 12 299 [10,
 11]]) (.cond (.t 12) (q' ([z' 4 3]) .ret) .skip)) (.seq (q' ([m' 13 5, o' 14 (.mf 301 [.t 2]), c' 15 299 [13, 14]]) (.cond (.t 15) (q' ([z' 4 4]) .ret)
 .skip)) (q' ([e' 16 2 2, f' 17 1 3, f' 18 0 17, l' 19 18, c' 20 82 [16, 19], m' 6 20]) (q' ([m' 21 6, o' 22 (.bin .eql (.t 21) (k' 3)), m' 23 22, ⟨some 24,
 .fa 1 (.t 3), some (23, false)⟩, ⟨some 25, .fa 0 (.t 24), some (23, false)⟩, ⟨some 26, .ld false 1 (.t 25), some (23, false)⟩, ⟨some 27, .bin .eql (.t 26) (.k
 (.v false [.c (.s [102, 111, 114, 119, 97, 114, 100])])), some (23, false)⟩, o' 28 (.pick (.t 23) (.k (.v false [.c (.b true)])) (.t 27)), m' 7 28]) (.seq
 (.block 0 (q' ([f' 30 0 3, l' 31 30, o' 32 (.bin .eql (.t 31) (k' 1)), m' 33 32, ⟨some 34, .mov (.t 7), some (33, true)⟩, ⟨some 35, .not (.t 34), some (33,
 true)⟩, o' 36 (.pick (.t 33) (.t 35) (.k (.v false [.c (.b false)]))), m' 37 36, ⟨some 38, .fa 0 (.t 3), some (37, false)⟩, ⟨some 39, .ld false 1 (.t 38),
 some (37, false)⟩, ⟨some 40, .bin .neq (.t 39) (k' 1), some (37, false)⟩, ⟨some 41, .mov (.t 40), some (37, false)⟩, ⟨some 42, .mov (.t 6), some (41, true)⟩,
 ⟨some 43, .bin .neq (.t 42) (k' 1), some (41, true)⟩, ⟨some 44, .pick (.t 41) (.t 43) (.k (.v false [.c (.b false)])), some (37, false)⟩, o' 45 (.pick (.t 37)
 (.k (.v false [.c (.b true)])) (.t 44)), m' 29 45]) (.cond (.t 29) (q' ([z' 4 5]) .ret) (q' ([m' 47 5, o' 48 (.slc 2 (.t 47) (some (k' 1)) none none), o' 49
 (.call 299 [.t 48, .k (.v false [.c (.f 302 [])])]), m' 46 49]) (.cond (.t 46) (q' ([z' 4 6]) .ret) (q' ([e' 51 2 2, e' 52 4 3, c' 53 303 [51, 52], o' 54
 (.not (.t 53)), m' 50 54]) (.cond (.t 50) (q' ([z' 4 7]) .ret) .skip))))))) (q' ([z' 4 0]) .ret)))))))
theorem b2T : cmp Tryz.prog Tryz.f220 = some a4I := by kernel_rfl
theorem b5e (p : c7) (r : c6) (hpre : r.Body.length ≤ 8) : A0l Tryz.prog 220 [(true, [.sl false [.i .i64 0, .s [], .i .i64 0] (p.Decls.map c8.cells), .sl false [.i .i64 0, .s [], .sl false [.s [], .i .i64 0, .s []] [], .sl false [.i .i64 0, .s [], .sl false [.s [], .i .i64 0, .s []] [], .i .i64 0, .s [], .i .i64 0, .s [], .s [], .i .i64 0, .s []] []] (p.Rules.map (c6.cells false false))]), (true, [.i .i64 r.Kind, .s r.Head.Name, .sl false [.s [], .i .i64 0, .s []] (r.Head.Args.map c4.cells), .sl false [.i .i64 0, .s [], .sl false [.s [], .i .i64 0, .s []] [], .i .i64 0, .s [], .i .i64 0, .s [], .s [], .i .i64 0, .s []] (r.Body.map (d3.cells false false))])] [] (.one (false, [.i .i64 (l6 p r)])) := by
 refine spec_of2 false false none Tryz.func220 b2T (rvs := [.t 4]) (hΓ := mkCtx_ok (deep := false) (l := [(168, [], a2T), (299, [], p9), (82, [], v8), (303, [], a0l)]) ⟨b0V, a7i, y9, a7h, trivial⟩) (h := ?_)
 intro hb hE
 simp only [go_sem] at hb
 simp only [a4I, x']
 (try refine A2V ?_); simp only [go_sem]; (repeat' first | apply CJ.mk | intro hc); all_goals try ((repeat' first | apply And.intro | intro hs) <;> (try simp only [go_sem, Bool.and_eq_false_iff] at hs) <;> omega)
 all_goals (try simp only [m9] at *)
 all_goals (clear hb)
 all_goals (first | (have := b3H r; omega) | grind [l6, a4c, fwB] | trace_state)
noncomputable def a1L : CT := o6 (fun (x : c7 × c6) h => b5e x.1 x.2 h)
@[go_sem] theorem c3x (x0 : List c8) (x1 : List c6) (x2 : Int) (x3 : List UInt8) (x4 : List c4) (x5 : List d3) : a1L [(true, [.sl false [.i .i64 0, .s [], .i .i64 0] (x0.map c8.cells), .sl false [.i .i64 0, .s [], .sl false [.s [], .i .i64 0, .s []] [], .sl false [.i .i64 0, .s [], .sl false [.s [], .i .i64 0, .s []] [], .i .i64 0, .s [], .i .i64 0, .s [], .s [], .i .i64 0, .s []] []] (x1.map (c6.cells false false))]), (true, [.i .i64 x2, .s x3, .sl false [.s [], .i .i64 0, .s []] (x4.map c4.cells), .sl false [.i .i64 0, .s [], .sl false [.s [], .i .i64 0, .s []] [], .i .i64 0, .s [], .i .i64 0, .s [], .s [], .i .i64 0, .s []] (x5.map (d3.cells false false))])] = some ((c6.mk x2 (d5.mk x3 x4) x5).Body.length ≤ 8, [], .one (false, [.i .i64 (l6 (c7.mk x0 x1) (c6.mk x2 (d5.mk x3 x4) x5))])) := i6 _ (by rintro ⟨⟨_, _⟩, ⟨_, ⟨_, _⟩, _⟩⟩ ⟨⟨_, _⟩, ⟨_, ⟨_, _⟩, _⟩⟩ h; simp at h; simp_all) ((c7.mk x0 x1), (c6.mk x2 (d5.mk x3 x4) x5))
theorem a9P : OkC Tryz.prog 220 a1L := i7 _
theorem b0N {α : Type} {q : α → Bool} {l : List α} {i : Nat} (d : α) (h : i < l.length) (hp : q (l.getD i d) = true) : l.any q = true := by
 rw [List.any_eq_true]
 exact ⟨l.getD i d, by rw [m0 d h]; exact List.getElem_mem h, hp⟩
theorem c5X {α : Type} {q : α → Bool} {l : List α} {i k : Nat} (d : α) (hk : k ≤ i) (h : i < l.length) (ha : ((l.take i).drop k).any q = false) (hp : q (l.getD i d) = false) : ((l.take (i + 1)).drop k).any q = false := by
 rw [i8 d h, List.drop_append_of_le_length (by rw [List.length_take]; omega), List.any_append, ha]
 simp only [List.any_cons, List.any_nil, hp, Bool.or_false]
theorem c8e {α : Type} {q : α → Bool} {l : List α} {i k : Nat} (d : α) (hk : k ≤ i) (h : i < l.length) (hp : q (l.getD i d) = true) : (l.drop k).any q = true := by
 rw [List.any_eq_true]
 refine ⟨l.getD i d, ?_, hp⟩
 rw [m0 d h, List.mem_drop_iff_getElem]
 exact ⟨i - k, by omega, by congr 1; omega⟩
def a6Z : ACode := q' ([o' 2 (.box 2 (.t 0)), o' 3 (.box 4 (.t 1)), z' 4 0]) (q' ([e' 15 4 3, c' 16 214 [15], m' 5 16]) (.seq (q' ([m' 17 5, n' 18 17, z' 19 0]) (.block 0 (.loop
 (q' ([r' 20 19 18]) (.seq (.cond (.t 20) .skip (.exit 0)) (.seq (.block 1 (q' ([i' 21 2 17 19, e' 22 2 21, w' 7 [.s, .sl [.s [], .i .i64 0, .s []]], s' 2 7
 22]) (q' ([e' 23 2 2, f' 24 0 7, l' 25 24, c' 26 215 [23, 25], o' 27 (.bin .lss (.t 26) (k' 0))]) (.cond (.t 27) (q' ([z' 4 3]) .ret) .skip)))) (g' [a' 28 19,
 m' 19 28]))))))) (.seq (q' ([m' 29 5, n' 30 29, z' 31 0]) (.block 2 (.loop (q' ([r' 32 31 30]) (.seq (.cond (.t 32) .skip (.exit 2)) (.seq (.block 3 (q' ([i'
 33 2 29 31, e' 34 2 33, w' 9 [.s, .sl [.s [], .i .i64 0, .s []]], s' 2 9 34]) (.seq (.reg true [e' 35 2 2, f' 36 0 9, l' 37 36, c' 38 215 [35, 37], f' 39 1 9,
 l' 40 39, n' 41 40, o' 42 (.bin .neq (.t 38) (.t 41))]) (.cond (.t 42) (q' ([z' 4 4]) .ret) .skip)))) (g' [a' 43 31, m' 31 43]))))))) (q' ([e' 44 2 2, f' 45 1
 3, f' 46 0 45, l' 47 46, c' 48 160 [44, 47], o' 49 (.fl false 0 1 (.t 48)), m' 10 49]) (.seq (q' ([f' 50 0 3, l' 51 50, o' 52 (.bin .eql (.t 51) (k' 1)), m'
 53 52, ⟨some 54, .mov (.t 10), some (53, true)⟩, ⟨some 55, .bin .neq (.t 54) (k' 3), some (53, true)⟩, o' 56 (.pick (.t 53) (.t 55) (.k (.v false [.c (.b
 false)]))), m' 57 56, ⟨some 58, .fa 1 (.t 3), some (57, true)⟩, ⟨some 59, .fa 0 (.t 58), some (57, true)⟩, ⟨some 60, .ld false 1 (.t 59), some (57, true)⟩,
 ⟨some 61, .bin .neq (.t 60) (.k (.v false [.c (.s [102, 111, 114, 119, 97, 114, 100])])), some (57, true)⟩, o' 62 (.pick (.t 57) (.t 61) (.k (.v false [.c (.b
 false)]))), m' 63 62, ⟨some 64, .fa 0 (.t 3), some (63, false)⟩, ⟨some 65, .ld false 1 (.t 64), some (63, false)⟩, ⟨some 66, .bin .neq (.t 65) (k' 1), some
 (63, false)⟩, ⟨some 67, .mov (.t 66), some (63, false)⟩, ⟨some 68, .mov (.t 10), some (67, true)⟩, ⟨some 69, .bin .neq (.t 68) (k' 1), some (67, true)⟩, ⟨some
 70, .pick (.t 67) (.t 69) (.k (.v false [.c (.b false)])), some (63, false)⟩, o' 71 (.pick (.t 63) (.k (.v false [.c (.b true)])) (.t 70))]) (.cond (.t 71)
 (q' ([z' 4 5]) .ret) .skip)) (.seq (q' ([m' 72 5, o' 73 (.slc 2 (.t 72) (some (k' 1)) none none), n' 74 73, z' 75 0]) (.block 4 (.loop (q' ([r' 76 75 74])
 (.seq (.cond (.t 76) .skip (.exit 4)) (.seq (.block 5 (q' ([i' 77 2 73 75, e' 78 2 77, w' 12 [.s, .sl [.s [], .i .i64 0, .s []]], s' 2 12 78]) (q' ([f' 79 0
 12, l' 80 79, o' 81 (.bin .eql (.t 80) (.k (.v false [.c (.s [102, 111, 114, 119, 97, 114, 100])])))]) (.cond (.t 81) (q' ([z' 4 6]) .ret) .skip)))) (g' [a'
 82 75, m' 75 82]))))))) (q' ([z' 13 0]) (.seq (q' ([f' 83 0 3, l' 84 83, o' 85 (.bin .neq (.t 84) (k' 1)), m' 86 85, ⟨some 87, .fa 1 (.t 3), some (86,
 false)⟩, ⟨some 88, .fa 0 (.t 87), some (86, false)⟩, ⟨some 89, .ld false 1 (.t 88), some (86, false)⟩, ⟨some 90, .bin .eql (.t 89) (.k (.v false [.c (.s [102,
 111, 114, 119, 97, 114, 100])])), some (86, false)⟩, o' 91 (.pick (.t 86) (.k (.v false [.c (.b true)])) (.t 90))]) (.cond (.t 91) (.seq (.seq (.reg true [f'
 92 3 3, l' 93 92, n' 94 93, o' 95 (.bin .eql (.t 94) (k' 0)), m' 96 95, ⟨some 97, .fa 3 (.t 3), some (96, false)⟩, ⟨some 98, .ld false 1 (.t 97), some (96,
 false)⟩, ⟨some 99, .ia 10 (.t 98) (k' 0), some (96, false)⟩, ⟨some 100, .fa 0 (.t 99), some (96, false)⟩, ⟨some 101, .ld false 1 (.t 100), some (96, false)⟩,
 ⟨some 102, .bin .neq (.t 101) (k' 1), some (96, false)⟩, o' 103 (.pick (.t 96) (.k (.v false [.c (.b true)])) (.t 102)), m' 104 103, ⟨some 105, .ld true 2 (.t
 2), some (104, false)⟩, ⟨some 106, .fa 3 (.t 3), some (104, false)⟩, ⟨some 107, .ld false 1 (.t 106), some (104, false)⟩, ⟨some 108, .ia 10 (.t 107) (k' 0),
 some (104, false)⟩, ⟨some 109, .fa 1 (.t 108), some (104, false)⟩, ⟨some 110, .fa 0 (.t 109), some (104, false)⟩, ⟨some 111, .ld false 1 (.t 110), some (104,
 false)⟩, ⟨some 112, .call 216 [.t 105, .t 111], some (104, false)⟩, ⟨some 113, .not (.t 112), some (104, false)⟩, o' 114 (.pick (.t 104) (.k (.v false [.c (.b
 true)])) (.t 113))]) (.cond (.t 114) (q' ([z' 4 7]) .ret) .skip)) (.seq (q' ([f' 115 0 3, l' 116 115, o' 117 (.bin .eql (.t 116) (k' 1)), m' 118 117, ⟨some
 119, .fa 3 (.t 3), some (118, true)⟩, ⟨some 120, .ld false 1 (.t 119), some (118, true)⟩, ⟨some 121, .ia 10 (.t 120) (k' 0), some (118, true)⟩, ⟨some 122, .fa
 1 (.t 121), some (118, true)⟩, ⟨some 123, .fa 0 (.t 122), some (118, true)⟩, ⟨some 124, .ld false 1 (.t 123), some (118, true)⟩, ⟨some 125, .bin .neq (.t 124)
 (.k (.v false [.c (.s [112, 97, 99, 107, 101, 116])])), some (118, true)⟩, o' 126 (.pick (.t 118) (.t 125) (.k (.v false [.c (.b false)])))]) (.cond (.t 126)
 (q' ([z' 4 7]) .ret) .skip)) (g' [z' 13 1]))) .skip)) (.seq (q' ([m' 127 13, m' 14 127]) (.block 6 (.loop (.seq (q' ([m' 128 14, f' 129 3 3, l' 130 129, n'
 131 130, r' 132 128 131]) (.cond (.t 132) .skip (.exit 6))) (.seq (.block 7 (.seq (.reg true [f' 135 3 3, l' 136 135, m' 137 14, i' 138 10 136 137, f' 139 0
 138, l' 140 139, o' 141 (.bin .neq (.t 140) (k' 3)), m' 142 141, ⟨some 143, .ld true 2 (.t 2), some (142, true)⟩, ⟨some 144, .fa 3 (.t 3), some (142, true)⟩,
 ⟨some 145, .ld false 1 (.t 144), some (142, true)⟩, ⟨some 146, .mov (.t 14), some (142, true)⟩, ⟨some 147, .ia 10 (.t 145) (.t 146), some (142, true)⟩, ⟨some
 148, .fa 1 (.t 147), some (142, true)⟩, ⟨some 149, .fa 0 (.t 148), some (142, true)⟩, ⟨some 150, .ld false 1 (.t 149), some (142, true)⟩, ⟨some 151, .call 216
 [.t 143, .t 150], some (142, true)⟩, o' 152 (.pick (.t 142) (.t 151) (.k (.v false [.c (.b false)])))]) (.cond (.t 152) (q' ([z' 4 7]) .ret) .skip))) (g' [m'
 133 14, a' 134 133, m' 14 134])))))) (q' ([z' 4 0]) .ret))))))))))
theorem b4Y : cmp Tryz.prog Tryz.f135 = some a6Z := by kernel_rfl
theorem b7E (p : c7) (r : c6) (hpre : r.Body.length ≤ 8 ∧ l4 p = true) : A0l Tryz.prog 135 [(true, [.sl false [.i .i64 0, .s [], .i .i64 0] (p.Decls.map c8.cells), .sl false [.i .i64 0, .s [], .sl false [.s [], .i .i64 0, .s []] [], .sl false [.i .i64 0, .s [], .sl false [.s [], .i .i64 0, .s []] [], .i .i64 0, .s [], .i .i64 0, .s [], .s [], .i .i64 0, .s []] []] (p.Rules.map (c6.cells false false))]), (true, [.i .i64 r.Kind, .s r.Head.Name, .sl false [.s [], .i .i64 0, .s []] (r.Head.Args.map c4.cells), .sl false [.i .i64 0, .s [], .sl false [.s [], .i .i64 0, .s []] [], .i .i64 0, .s [], .i .i64 0, .s [], .s [], .i .i64 0, .s []] (r.Body.map (d3.cells false false))])] [] (.one (false, [.i .i64 (l6 p r)])) := by
 refine spec_of2 false false none Tryz.func135 b4Y (rvs := [.t 4]) (hΓ := mkCtx_ok (deep := false) (l := [(214, [], a1Z), (215, [], a1Y), (160, [], y5), (216, [], a1e)]) ⟨b0f, b0e, a0G, a8Z, trivial⟩) (h := ?_)
 intro hb hE
 simp only [go_sem] at hb
 simp only [a6Z, x']
 obtain ⟨hp8, hpB⟩ := hpre
 have hA := c3l r
 have hA1 := b3H r
 (try refine A2V ?_); simp only [go_sem, m9]; (repeat' first | apply CJ.mk | intro hc); all_goals try ((repeat' first | apply And.intro | intro hs) <;> (try simp only [go_sem, Bool.and_eq_false_iff] at hs) <;> omega)
 refine aw_loop2 false [] [2, 3, 5, 17, 18] [4, 6] [2048] (fun i : {i : Nat // i ≤ (k8 r).length ∧ ((k8 r).take i).any (a2j p) = false} => [(19, slV (.i .i64 i.1))]) (fun i => []) (fun i => []) (fun i => (k8 r).length - i.1) (⟨0, by simp⟩) _ rfl ?_ ?_
 ·simp only [go_sem, m9]
  all_goals first | omega | ((repeat' apply And.intro) <;> first | omega | rfl | skip)
 intro S0 hS0 i
 simp only [go_sem, m9] at hS0
 obtain ⟨i, hi, ha⟩ := i
 (try refine A2V ?_); simp only [go_sem, m9, hS0]; (repeat' first | apply CJ.mk | intro hc); all_goals try ((repeat' first | apply And.intro | intro hs) <;> (try simp only [go_sem, Bool.and_eq_false_iff] at hs) <;> omega)
 ·rw [l6, b0N (q := a2j p) default (by omega) (decide_eq_true hc)]; rfl
 ·(refine lpK_n2 (⟨i + 1, by omega, k7 (p := a2j p) default (by omega) ha (decide_eq_false hc)⟩) _ rfl ?_; simp only [go_sem, m9, hS0]; first | done | ((repeat' apply And.intro) <;> first | omega | (refine w64 ?_ ?_ ?_ <;> omega) | rfl | skip))
 rw [i3 (by omega)] at ha
 clear hc hi
 refine aw_loop2 false [] [2, 3, 5, 29, 30] [4, 6] [2048] (fun i : {i : Nat // i ≤ (k8 r).length ∧ ((k8 r).take i).any (a2k p) = false} => [(31, slV (.i .i64 i.1))]) (fun i => []) (fun i => []) (fun i => (k8 r).length - i.1) (⟨0, by simp⟩) _ rfl ?_ ?_
 ·simp only [go_sem, m9, hS0]
  all_goals first | omega | ((repeat' apply And.intro) <;> first | omega | rfl | skip)
 intro S1 hS1 i
 simp only [go_sem, m9, hS0] at hS1
 obtain ⟨i, hi, hb1⟩ := i
 (try refine A2V ?_); simp only [go_sem, m9, hS0, hS1]; (repeat' first | apply CJ.mk | intro hc); all_goals try ((repeat' first | apply And.intro | intro hs) <;> (try simp only [go_sem, Bool.and_eq_false_iff] at hs) <;> omega)
 ·rw [l6, ha, b0N (q := a2k p) default (by omega) hc]; rfl
 ·(refine lpK_n2 (⟨i + 1, by omega, k7 (p := a2k p) default (by omega) hb1 hc⟩) _ rfl ?_; simp only [go_sem, m9, hS0, hS1]; first | done | ((repeat' apply And.intro) <;> first | omega | (refine w64 ?_ ?_ ?_ <;> omega) | rfl | skip))
 ·rw [i3 (by omega)] at hb1
  clear hb hS0 hS1
  grind [l6, a4c, v5, fwB]
 rw [i3 (by omega)] at hb1
 have hk : a4c p r = false := by
  clear hb hS0 hS1
  grind [a4c, v5, fwB]
 clear hc hi
 refine aw_loop2 false [] [2, 3, 73, 74] [4, 6] [9344] (fun i : {i : Nat // i ≤ ((k8 r).drop 1).length ∧ (((k8 r).drop 1).take i).any b0v = false} => [(75, slV (.i .i64 i.1))]) (fun i => []) (fun i => []) (fun i => ((k8 r).drop 1).length - i.1) (⟨0, by simp⟩) _ rfl ?_ ?_
 ·simp only [go_sem, m9, hS0, hS1]
  all_goals first | omega | ((repeat' apply And.intro) <;> first | omega | rfl | skip)
 intro S2 hS2 i
 simp only [go_sem, m9, hS0, hS1] at hS2
 obtain ⟨i, hi, hf⟩ := i
 have hD : ((k8 r).drop 1).length ≤ 8 := by rw [List.length_drop]; omega
 (try refine A2V ?_); simp only [go_sem, m9, hS0, hS1, hS2]; (repeat' first | apply CJ.mk | intro hc); all_goals try ((repeat' first | apply And.intro | intro hs) <;> (try simp only [go_sem, Bool.and_eq_false_iff] at hs) <;> omega)
 ·rw [l6, ha, hb1, hk, b0N (q := b0v) default (by omega) hc]; rfl
 ·(refine lpK_n2 (⟨i + 1, by omega, k7 (p := b0v) default (by omega) hf hc⟩) _ rfl ?_; simp only [go_sem, m9, hS0, hS1, hS2]; first | done | ((repeat' apply And.intro) <;> first | omega | (refine w64 ?_ ?_ ?_ <;> omega) | rfl | skip))
 all_goals (rw [i3 (by omega)] at hf)
 ·clear hb hS0 hS1 hS2; grind
 ·clear hb hS0 hS1 hS2; grind
 ·clear hb hS0 hS1 hS2; grind [l6, b3k, c1N, pkB, fwB]
 ·clear hb hS0 hS1 hS2; grind
 ·clear hb hS0 hS1 hS2; grind [l6, b3k, c1N, pkB, fwB]
 ·have hg : b3k p r = !(r.Body.drop 1).any (a6k p) := by
   clear hb hS0 hS1 hS2; grind [b3k, c1N, pkB, fwB]
  have h1 : 1 ≤ r.Body.length := by
   clear hb hS0 hS1 hS2; grind
  clear hc
  refine aw_loop2 false [] [2, 3] [4, 6] [] (fun i : {i : Nat // 1 ≤ i ∧ i ≤ r.Body.length ∧ ((r.Body.take i).drop 1).any (a6k p) = false} => [(14, slV (.i .i64 i.1))]) (fun i => []) (fun i => []) (fun i => r.Body.length - i.1) (⟨1, by omega, by omega, by cases r.Body <;> rfl⟩) _ rfl ?_ ?_
  ·simp only [go_sem, m9, hS0, hS1, hS2]
   all_goals first | omega | ((repeat' apply And.intro) <;> first | omega | rfl | skip)
  intro S3 hS3 i
  simp only [go_sem, m9, hS0, hS1, hS2] at hS3
  obtain ⟨i, h1i, hi, hm⟩ := i
  (try refine A2V ?_); simp only [go_sem, m9, hS0, hS1, hS2, hS3]; (repeat' first | apply CJ.mk | intro hc); all_goals try ((repeat' first | apply And.intro | intro hs) <;> (try simp only [go_sem, Bool.and_eq_false_iff] at hs) <;> omega)
  ·have : b3k p r = false := by rw [hg, c8e (q := a6k p) (i := i) default (by omega) (by omega) (Bool.and_eq_true_iff.2 hc)]; rfl
   rw [l6, ha, hb1, hk, hf, this]; rfl
  ·(refine lpK_n2 (⟨i + 1, by omega, by omega, c5X (q := a6k p) default (by omega) (by omega) hm hc⟩) _ rfl ?_; simp only [go_sem, m9, hS0, hS1, hS2, hS3]; first | done | ((repeat' apply And.intro) <;> first | omega | (refine w64 ?_ ?_ ?_ <;> omega) | rfl | skip))
  ·rw [i3 (by omega)] at hm
   rw [hm] at hg
   rw [l6, ha, hb1, hk, hf, hg]; rfl
 ·have hg : b3k p r = !r.Body.any (a6k p) := by
   clear hb hS0 hS1 hS2; grind [b3k, fwB]
  clear hc
  refine aw_loop2 false [] [2, 3] [4, 6] [] (fun i : {i : Nat // i ≤ r.Body.length ∧ (r.Body.take i).any (a6k p) = false} => [(14, slV (.i .i64 i.1))]) (fun i => []) (fun i => []) (fun i => r.Body.length - i.1) (⟨0, by omega, by simp⟩) _ rfl ?_ ?_
  ·simp only [go_sem, m9, hS0, hS1, hS2]
   all_goals first | omega | ((repeat' apply And.intro) <;> first | omega | rfl | skip)
  intro S3 hS3 i
  simp only [go_sem, m9, hS0, hS1, hS2] at hS3
  obtain ⟨i, hi, hm⟩ := i
  (try refine A2V ?_); simp only [go_sem, m9, hS0, hS1, hS2, hS3]; (repeat' first | apply CJ.mk | intro hc); all_goals try ((repeat' first | apply And.intro | intro hs) <;> (try simp only [go_sem, Bool.and_eq_false_iff] at hs) <;> omega)
  ·have : b3k p r = false := by rw [hg, b0N (q := a6k p) (i := i) default (by omega) (Bool.and_eq_true_iff.2 hc)]; rfl
   rw [l6, ha, hb1, hk, hf, this]; rfl
  ·(refine lpK_n2 (⟨i + 1, by omega, k7 (p := a6k p) default (by omega) hm hc⟩) _ rfl ?_; simp only [go_sem, m9, hS0, hS1, hS2, hS3]; first | done | ((repeat' apply And.intro) <;> first | omega | (refine w64 ?_ ?_ ?_ <;> omega) | rfl | skip))
  ·rw [i3 (by omega)] at hm
   rw [hm] at hg
   rw [l6, ha, hb1, hk, hf, hg]; rfl
noncomputable def a3s : CT := o6 (fun (x : c7 × c6) h => b7E x.1 x.2 h)
@[go_sem] theorem c5i (x0 : List c8) (x1 : List c6) (x2 : Int) (x3 : List UInt8) (x4 : List c4) (x5 : List d3) : a3s [(true, [.sl false [.i .i64 0, .s [], .i .i64 0] (x0.map c8.cells), .sl false [.i .i64 0, .s [], .sl false [.s [], .i .i64 0, .s []] [], .sl false [.i .i64 0, .s [], .sl false [.s [], .i .i64 0, .s []] [], .i .i64 0, .s [], .i .i64 0, .s [], .s [], .i .i64 0, .s []] []] (x1.map (c6.cells false false))]), (true, [.i .i64 x2, .s x3, .sl false [.s [], .i .i64 0, .s []] (x4.map c4.cells), .sl false [.i .i64 0, .s [], .sl false [.s [], .i .i64 0, .s []] [], .i .i64 0, .s [], .i .i64 0, .s [], .s [], .i .i64 0, .s []] (x5.map (d3.cells false false))])] = some ((c6.mk x2 (d5.mk x3 x4) x5).Body.length ≤ 8 ∧ l4 (c7.mk x0 x1) = true, [], .one (false, [.i .i64 (l6 (c7.mk x0 x1) (c6.mk x2 (d5.mk x3 x4) x5))])) := i6 _ (by rintro ⟨⟨_, _⟩, ⟨_, ⟨_, _⟩, _⟩⟩ ⟨⟨_, _⟩, ⟨_, ⟨_, _⟩, _⟩⟩ h; simp at h; simp_all) ((c7.mk x0 x1), (c6.mk x2 (d5.mk x3 x4) x5))
theorem b1t : OkC Tryz.prog 135 a3s := i7 _
theorem b3L (p : c7) (r : c6) : 0 ≤ l6 p r := by
 unfold l6
 cases (k8 r).any (a2j p) <;> cases (k8 r).any (a2k p) <;> cases a4c p r <;> cases ((k8 r).drop 1).any b0v <;> cases b3k p r <;> decide
theorem a1x {p : c7} (h : l4 p = false) : i4 p = (1, 0) := by simp [i4, h]
theorem a0h {p : c7} (h : l4 p = true) {i : Nat} (hi : i < p.Decls.length) (ha : ∀ j, j < i → l5 p j = false) (hq : l5 p i = true) : i4 p = (2, (i : Int)) := by
 rw [i4, h, a8w ha hq hi, if_pos hi]; rfl
theorem a2c {p : c7} (h : l4 p = true) (hd : ∀ j, j < p.Decls.length → l5 p j = false) {i : Nat} (hi : i < p.Rules.length) (ha : ∀ j, j < i → o7 p j = false) (hq : o7 p i = true) : i4 p = (l6 p (p.Rules.getD i default), (i : Int)) := by
 rw [i4, h, a4b hd, if_neg (by omega), a8w ha hq hi, if_pos hi]; rfl
theorem a9A {p : c7} (h : l4 p = true) (hd : ∀ j, j < p.Decls.length → l5 p j = false) (ha : ∀ j, j < p.Rules.length → o7 p j = false) : i4 p = (0, 0) := by
 rw [i4, h, a4b hd, if_neg (by omega), a4b ha, if_neg (by omega)]; rfl
theorem b1Y {q : Nat → Bool} {i : Nat} (h : ∀ j, j < i → q j = false) (hi : q i = false) : ∀ j, j < i + 1 → q j = false := by
 intro j hj
 rcases Nat.lt_succ_iff_lt_or_eq.1 hj with h1 | rfl
 ·exact h j h1
 ·exact hi
theorem c2p {p : c7} (h : l4 p = true) {i : Nat} (hi : i < p.Rules.length) : (p.Rules.getD i default).Body.length ≤ 8 := by
 rw [m0 default hi]; exact c1R h (List.getElem_mem hi)
def a1A : ACode := q' ([o' 2 (.box 3 (.t 0)), b' 3 false]) (q' ([f' 4 1 2, l' 5 4, f' 6 1 1, l' 7 6, o' 8 (.bin .eql (.t 5) (.t 7)), m' 3 8]) .ret)
theorem a8y : cmp Tryz.prog Tryz.f219 = some a1A := by kernel_rfl
theorem a9d (y : c8) (d : c8) : A0l Tryz.prog 219 [(true, [.i .i64 y.Kind, .s y.Name, .i .i64 y.Arity]), (false, [.p [.i .i64 d.Kind, .s d.Name, .i .i64 d.Arity]])] [] (.one (false, [.b (y.Name == d.Name)])) := by
 refine spec_of2 false false none Tryz.func219 a8y (rvs := [.t 3]) (hΓ := mkCtx_ok (deep := false) (l := []) trivial) (h := ?_)
 intro hb hE
 simp only [go_sem] at hb
 simp only [a1A, x']
 (try refine A2V ?_); simp only [go_sem]; (repeat' first | apply CJ.mk | intro hc); all_goals try ((repeat' first | apply And.intro | intro hs) <;> (try simp only [go_sem, Bool.and_eq_false_iff] at hs) <;> omega)
 all_goals (first | rfl | trace_state)
noncomputable def z9 : CT := i5 (fun (x : c8 × c8) => a9d x.1 x.2)
@[go_sem] theorem c0e (x0 : Int) (x1 : List UInt8) (x2 x3 : Int) (x4 : List UInt8) (x5 : Int) : z9 [(true, [.i .i64 x0, .s x1, .i .i64 x2]), (false, [.p [.i .i64 x3, .s x4, .i .i64 x5]])] = some (True, [], .one (false, [.b ((c8.mk x0 x1 x2).Name == (c8.mk x3 x4 x5).Name)])) := f7 _ (by rintro ⟨⟨_, _, _⟩, ⟨_, _, _⟩⟩ ⟨⟨_, _, _⟩, ⟨_, _, _⟩⟩ h; simp at h; simp_all) ((c8.mk x0 x1 x2), (c8.mk x3 x4 x5))
theorem a5L : OkC Tryz.prog 219 z9 := f8 _
def b5F : ACode := q' ([z' 4 0]) (.seq (q' ([m' 6 0, n' 7 6, z' 8 0]) (.block 0 (.loop (q' ([r' 9 8 7]) (.seq (.cond (.t 9) .skip (.exit 0)) (.seq (.block 1 (q' ([m' 10 8, m' 5
 10]) (q' ([m' 11 1, m' 12 0, m' 13 5, i' 14 3 12 13, e' 15 3 14, o' 16 (.callv (.t 11) [.t 15])]) (.cond (.t 16) (q' ([m' 17 5, m' 4 17]) .ret) .skip)))) (g'
 [a' 18 8, m' 8 18]))))))) (q' ([o' 4 (.mov (.k (.v false [.c (.i .i64 (-1))])))]) .ret))
theorem c4c : cmp Tryz.prog Tryz.f298 = some b5F := by kernel_rfl
theorem c0w (l : List c8) (d : c8) : A0l Tryz.prog 298 [(false, [.sl false [.i .i64 0, .s [], .i .i64 0] (l.map c8.cells)]), (false, [.f 219 [.p [.i .i64 d.Kind, .s d.Name, .i .i64 d.Arity]]])] [] (.one (false, [.i .i64 (y3 (fun y : c8 => y.Name == d.Name) l)])) := by
 refine spec_of2 false false none Tryz.func298 c4c (rvs := [.t 4]) (hΓ := mkCtx_ok (deep := false) (l := [(219, [], z9)]) ⟨a5L, trivial⟩) (h := ?_)
 intro hb hE
 simp only [go_sem] at hb
 simp only [b5F, x']
 (try refine A2V ?_); simp only [go_sem]; (repeat' first | apply CJ.mk | intro hc); all_goals try ((repeat' first | apply And.intro | intro hs) <;> (try simp only [go_sem, Bool.and_eq_false_iff] at hs) <;> omega)
 refine aw_loop2 false [] [0, 1, 7] [] [] (fun i : {i : Nat // i ≤ l.length ∧ (l.take i).any (fun y : c8 => y.Name == d.Name) = false} => [(8, slV (.i .i64 i.1))]) (fun i => []) (fun i => []) (fun i => l.length - i.1) (⟨0, by simp⟩) _ rfl ?_ ?_
 ·simp only [go_sem]
  all_goals first | omega | ((repeat' apply And.intro) <;> first | omega | rfl | skip)
 intro S0 hS0 i
 simp only [go_sem] at hS0
 obtain ⟨i, hi, ha⟩ := i
 (try refine A2V ?_); simp only [go_sem, hS0]; (repeat' first | apply CJ.mk | intro hc); all_goals try ((repeat' first | apply And.intro | intro hs) <;> (try simp only [go_sem, Bool.and_eq_false_iff] at hs) <;> omega)
 ·exact (n9 (p := fun y : c8 => y.Name == d.Name) (d := default) (by omega) ha (by simpa [-List.getD_eq_getElem?_getD] using hc)).symm
 ·(refine lpK_n2 (⟨i + 1, by omega, k7 (p := fun y : c8 => y.Name == d.Name) default (by omega) ha (by simpa [-List.getD_eq_getElem?_getD] using hc)⟩) _ rfl ?_; simp only [go_sem, hS0]; first | done | ((repeat' apply And.intro) <;> first | omega | (refine w64 ?_ ?_ ?_ <;> omega) | rfl | skip))
 ·exact (n8 (by rwa [i3 (by omega)] at ha)).symm
 all_goals trace_state
noncomputable def a5G : CT := i5 (fun (x : (List c8) × c8) => c0w x.1 x.2)
@[go_sem] theorem c7p (l : List c8) (x0 : Int) (x1 : List UInt8) (x2 : Int) : a5G [(false, [.sl false [.i .i64 0, .s [], .i .i64 0] (l.map c8.cells)]), (false, [.f 219 [.p [.i .i64 x0, .s x1, .i .i64 x2]]])] = some (True, [], .one (false, [.i .i64 (y3 (fun y : c8 => y.Name == (c8.mk x0 x1 x2).Name) l)])) := f7 _ (by rintro ⟨_, ⟨_, _, _⟩⟩ ⟨_, ⟨_, _, _⟩⟩ h; simp at h; simp_all) (l, (c8.mk x0 x1 x2))
theorem b3R : OkC Tryz.prog 298 a5G := f8 _
def b5C : ACode := q' ([b' 4 false]) (q' ([m' 5 0, m' 6 1, c' 7 298 [5, 6], o' 8 (.bin .geq (.t 7) (k' 0)), m' 4 8]) .ret)
theorem c3Z : cmp Tryz.prog Tryz.f218 = some b5C := by kernel_rfl
theorem c0u (l : List c8) (d : c8) : A0l Tryz.prog 218 [(false, [.sl false [.i .i64 0, .s [], .i .i64 0] (l.map c8.cells)]), (false, [.f 219 [.p [.i .i64 d.Kind, .s d.Name, .i .i64 d.Arity]]])] [] (.one (false, [.b (l.any (fun y : c8 => y.Name == d.Name))])) := by
 refine spec_of2 false false none Tryz.func218 c3Z (rvs := [.t 4]) (hΓ := mkCtx_ok (deep := false) (l := [(298, [], a5G)]) ⟨b3R, trivial⟩) (h := ?_)
 intro hb hE
 simp only [go_sem] at hb
 simp only [b5C, x']
 (try refine A2V ?_); simp only [go_sem]; (repeat' first | apply CJ.mk | intro hc); all_goals try ((repeat' first | apply And.intro | intro hs) <;> (try simp only [go_sem, Bool.and_eq_false_iff] at hs) <;> omega)
 ·exact a0d _ _
noncomputable def a5E : CT := i5 (fun (x : (List c8) × c8) => c0u x.1 x.2)
@[go_sem] theorem c7n (l : List c8) (x0 : Int) (x1 : List UInt8) (x2 : Int) : a5E [(false, [.sl false [.i .i64 0, .s [], .i .i64 0] (l.map c8.cells)]), (false, [.f 219 [.p [.i .i64 x0, .s x1, .i .i64 x2]]])] = some (True, [], .one (false, [.b (l.any (fun y : c8 => y.Name == (c8.mk x0 x1 x2).Name))])) := f7 _ (by rintro ⟨_, ⟨_, _, _⟩⟩ ⟨_, ⟨_, _, _⟩⟩ h; simp at h; simp_all) (l, (c8.mk x0 x1 x2))
theorem b3P : OkC Tryz.prog 218 a5E := f8 _
def a2H : ACode := q' ([o' 1 (.box 2 (.t 0)), z' 2 0, z' 3 0]) (.seq (q' ([e' 9 2 1, c' 10 134 [9], o' 11 (.not (.t 10))]) (.cond (.t 11) (q' ([z' 2 1, z' 3 0]) .ret) .skip))
 (.seq (q' ([f' 12 0 1, l' 13 12, n' 14 13, z' 15 0]) (.block 0 (.loop (q' ([r' 16 15 14]) (.seq (.cond (.t 16) .skip (.exit 0)) (.seq (.block 1 (q' ([m' 17
 15, m' 4 17]) (q' ([f' 18 0 1, l' 19 18, m' 20 4, i' 21 3 19 20, f' 22 1 21, l' 23 22, m' 5 23]) (.seq (q' ([m' 24 5, o' 25 (.bin .eql (.t 24) (.k (.v false
 [.c (.s [112, 97, 99, 107, 101, 116])]))), m' 26 25, ⟨some 27, .mov (.t 5), some (26, false)⟩, ⟨some 28, .bin .eql (.t 27) (.k (.v false [.c (.s [102, 111,
 114, 119, 97, 114, 100])])), some (26, false)⟩, o' 29 (.pick (.t 26) (.k (.v false [.c (.b true)])) (.t 28))]) (.cond (.t 29) (q' ([m' 30 4, z' 2 2, m' 3 30])
 .ret) .skip)) (q' ([z' 6 0]) (.block 2 (.loop (.seq (q' ([m' 31 6, m' 32 4, r' 33 31 32]) (.cond (.t 33) .skip (.exit 2))) (.seq (.block 3 (q' ([f' 36 0 1, l'
 37 36, m' 38 6, i' 39 3 37 38, f' 40 1 39, l' 41 40, m' 42 5, o' 43 (.bin .eql (.t 41) (.t 42))]) (.cond (.t 43) (q' ([m' 44 4, z' 2 2, m' 3 44]) .ret)
 .skip))) (g' [m' 34 6, a' 35 34, m' 6 35])))))))))) (g' [a' 45 15, m' 15 45]))))))) (.seq (q' ([f' 46 1 1, l' 47 46, n' 48 47, z' 49 0]) (.block 4 (.loop (q'
 ([r' 50 49 48]) (.seq (.cond (.t 50) .skip (.exit 4)) (.seq (.block 5 (q' ([m' 51 49, m' 7 51]) (.seq (.reg true [e' 52 2 1, f' 53 1 1, l' 54 53, m' 55 7, i'
 56 4 54 55, e' 57 4 56, c' 58 135 [52, 57], m' 8 58]) (q' ([m' 59 8, o' 60 (.bin .gtr (.t 59) (k' 0))]) (.cond (.t 60) (q' ([m' 61 8, m' 62 7, m' 2 61, m' 3
 62]) .ret) .skip))))) (g' [a' 63 49, m' 49 63]))))))) (q' ([z' 2 0, z' 3 0]) .ret))))
theorem b0t : cmp Tryz.prog Tryz.f62 = some a2H := by kernel_rfl
theorem b1T (p : c7) : A0l Tryz.prog 62 [(true, [.sl false [.i .i64 0, .s [], .i .i64 0] (p.Decls.map c8.cells), .sl false [.i .i64 0, .s [], .sl false [.s [], .i .i64 0, .s []] [], .sl false [.i .i64 0, .s [], .sl false [.s [], .i .i64 0, .s []] [], .i .i64 0, .s [], .i .i64 0, .s [], .s [], .i .i64 0, .s []] []] (p.Rules.map (c6.cells false false))])] [] (.tup [(false, [.i .i64 ((i4 p).1)]), (false, [.i .i64 ((i4 p).2)])]) := by
 refine spec_of2 false false none Tryz.func62 b0t (rvs := [.t 2, .t 3]) (hΓ := mkCtx_ok (deep := false) (l := [(134, [], z5), (135, [], a3s)]) ⟨a2m, b1t, trivial⟩) (h := ?_)
 intro hb hE
 simp only [go_sem] at hb
 simp only [a2H, x']
 (try refine A2V ?_); simp only [go_sem]; (repeat' first | apply CJ.mk | intro hc); all_goals try ((repeat' first | apply And.intro | intro hs) <;> (try simp only [go_sem, Bool.and_eq_false_iff] at hs) <;> omega)
 ·rw [a1x hc]; exact ⟨rfl, rfl⟩
 have hB : l4 p = true := hc
 clear hc
 refine aw_loop2 false [] [1, 14] [2] [] (fun i : {i : Nat // i ≤ p.Decls.length ∧ ∀ j, j < i → l5 p j = false} => [(15, slV (.i .i64 i.1))]) (fun i => []) (fun i => []) (fun i => p.Decls.length - i.1) (⟨0, by omega, by intro j h; omega⟩) _ rfl ?_ ?_
 ·simp only [go_sem]
  all_goals first | omega | ((repeat' apply And.intro) <;> first | omega | rfl | skip)
 intro S0 hS0 i
 simp only [go_sem] at hS0
 obtain ⟨n, hn, ha⟩ := i
 (try refine A2V ?_); simp only [go_sem, hS0]; (repeat' first | apply CJ.mk | intro hc); all_goals try ((repeat' first | apply And.intro | intro hs) <;> (try simp only [go_sem, Bool.and_eq_false_iff] at hs) <;> omega)
 ·have hq : l5 p n = true := by rcases hc with hc | hc <;> (simp only [l5, pkB, fwB, hc, Bool.true_or, Bool.or_true])
  rw [a0h hB (by omega) ha hq]; exact ⟨rfl, rfl⟩
 ·have hN := hc
  clear hc
  refine aw_loop2 false [] [1, 4, 5, 14, 15] [2] [] (fun i : {k : Nat // k ≤ n ∧ (p.Decls.take k).any (fun x => x.Name == (p.Decls.getD n default).Name) = false} => [(6, slV (.i .i64 i.1))]) (fun i => []) (fun i => []) (fun i => n - i.1) (⟨0, by omega, by simp⟩) _ rfl ?_ ?_
  ·simp only [go_sem, hS0]
   all_goals first | omega | ((repeat' apply And.intro) <;> first | omega | rfl | skip)
  intro S1 hS1 i
  simp only [go_sem, hS0] at hS1
  obtain ⟨k, hk, hx⟩ := i
  (try refine A2V ?_); simp only [go_sem, hS0, hS1]; (repeat' first | apply CJ.mk | intro hc); all_goals try ((repeat' first | apply And.intro | intro hs) <;> (try simp only [go_sem, Bool.and_eq_false_iff] at hs) <;> omega)
  ·have : ((p.Decls.take n).any fun x => x.Name == (p.Decls.getD n default).Name) = true := by
    refine b0N (q := fun x : c8 => x.Name == (p.Decls.getD n default).Name) (i := k) default (by rw [List.length_take]; omega) ?_
    have e : (p.Decls.take n).getD k default = p.Decls.getD k default := by
     simp only [List.getD_eq_getElem?_getD, List.getElem?_take]; rw [if_pos (by omega)]
    rw [e]; exact hc
   have hq : l5 p n = true := by rw [l5, this, Bool.or_true]
   rw [a0h hB (by omega) ha hq]; exact ⟨rfl, rfl⟩
  ·(refine lpK_n2 (⟨k + 1, by omega, k7 (p := fun x : c8 => x.Name == (p.Decls.getD n default).Name) default (by omega) hx hc⟩) _ rfl ?_; simp only [go_sem, hS0, hS1]; first | done | ((repeat' apply And.intro) <;> first | omega | (refine w64 ?_ ?_ ?_ <;> omega) | rfl | skip))
  ·have e : k = n := by omega
   subst e
   have hq : l5 p k = false := by rw [l5, hx]; simp only [pkB, fwB, hN, Bool.or_false]
   (refine lpK_n2 (⟨k + 1, by omega, b1Y ha hq⟩) _ rfl ?_; simp only [go_sem, hS0, hS1]; first | done | ((repeat' apply And.intro) <;> first | omega | (refine w64 ?_ ?_ ?_ <;> omega) | rfl | skip))
 have hd : ∀ j, j < p.Decls.length → l5 p j = false := fun j hj => ha j (by omega)
 clear hc ha
 refine aw_loop2 false [] [1, 48] [2] [] (fun i : {i : Nat // i ≤ p.Rules.length ∧ ∀ j, j < i → o7 p j = false} => [(49, slV (.i .i64 i.1))]) (fun i => []) (fun i => []) (fun i => p.Rules.length - i.1) (⟨0, by omega, by intro j h; omega⟩) _ rfl ?_ ?_
 ·simp only [go_sem, hS0]
  all_goals first | omega | ((repeat' apply And.intro) <;> first | omega | rfl | skip)
 intro S2 hS2 i
 simp only [go_sem, hS0] at hS2
 obtain ⟨n, hn, ha⟩ := i
 (try refine A2V ?_); simp only [go_sem, hS0, hS2]; (repeat' first | apply CJ.mk | intro hc); all_goals try ((repeat' first | apply And.intro | intro hs) <;> (try simp only [go_sem, Bool.and_eq_false_iff] at hs) <;> omega)
 ·exact ⟨c2p hB (by omega), hB⟩
 ·have hq : o7 p n = true := by
   have := b3L p (p.Rules.getD n default)
   rw [o7, Bool.not_eq_true', beq_eq_false_iff_ne]; omega
  rw [a2c hB hd (by omega) ha hq]; exact ⟨rfl, rfl⟩
 ·have hq : o7 p n = false := by
   have := b3L p (p.Rules.getD n default)
   rw [o7, Bool.not_eq_false', beq_iff_eq]; omega
  (refine lpK_n2 (⟨n + 1, by omega, b1Y ha hq⟩) _ rfl ?_; simp only [go_sem, hS0, hS2]; first | done | ((repeat' apply And.intro) <;> first | omega | (refine w64 ?_ ?_ ?_ <;> omega) | rfl | skip))
 ·rw [a9A hB hd (fun j hj => ha j (by omega))]; exact ⟨rfl, rfl⟩
noncomputable def w6 : CT := i5 (fun (x : c7) => b1T x)
@[go_sem] theorem c1B (x0 : List c8) (x1 : List c6) : w6 [(true, [.sl false [.i .i64 0, .s [], .i .i64 0] (x0.map c8.cells), .sl false [.i .i64 0, .s [], .sl false [.s [], .i .i64 0, .s []] [], .sl false [.i .i64 0, .s [], .sl false [.s [], .i .i64 0, .s []] [], .i .i64 0, .s [], .i .i64 0, .s [], .s [], .i .i64 0, .s []] []] (x1.map (c6.cells false false))])] = some (True, [], .tup [(false, [.i .i64 ((i4 (c7.mk x0 x1)).1)]), (false, [.i .i64 ((i4 (c7.mk x0 x1)).2)])]) := f7 _ (by rintro ⟨_, _⟩ ⟨_, _⟩ h; simp at h; simp_all) (c7.mk x0 x1)
theorem a1C : OkC Tryz.prog 62 w6 := f8 _
theorem c1H {α : Type} (l : List α) (n : Nat) : cut l 0 n = l.take n := by unfold cut; simp
def a2A : ACode := q' ([o' 1 (.box 2 (.t 0)), z' 2 0, z' 3 0]) (.seq (q' ([e' 9 2 1, c' 10 150 [9], o' 11 (.not (.t 10))]) (.cond (.t 11) (q' ([z' 2 1, z' 3 0]) .ret) .skip))
 (.seq (q' ([f' 12 0 1, l' 13 12, n' 14 13, z' 15 0]) (.block 0 (.loop (q' ([r' 16 15 14]) (.seq (.cond (.t 16) .skip (.exit 0)) (.seq (.block 1 (q' ([m' 17
 15, i' 18 3 13 15, e' 19 3 18, w' 5 [.i .i64, .s, .i .i64], m' 4 17, s' 3 5 19]) (q' ([f' 20 1 5, l' 21 20, o' 22 (.bin .eql (.t 21) (.k (.v false [.c (.s
 [112, 97, 99, 107, 101, 116])]))), m' 23 22, ⟨some 24, .fa 1 (.t 5), some (23, false)⟩, ⟨some 25, .ld false 1 (.t 24), some (23, false)⟩, ⟨some 26, .bin .eql
 (.t 25) (.k (.v false [.c (.s [102, 111, 114, 119, 97, 114, 100])])), some (23, false)⟩, o' 27 (.pick (.t 23) (.k (.v false [.c (.b true)])) (.t 26)), m' 28
 27, ⟨some 29, .fa 0 (.t 1), some (28, false)⟩, ⟨some 30, .ld false 1 (.t 29), some (28, false)⟩, ⟨some 31, .mov (.t 4), some (28, false)⟩, ⟨some 32, .slc 3
 (.t 30) none (some (.t 31)) none, some (28, false)⟩, ⟨some 33, .mf 219 [.t 5], some (28, false)⟩, ⟨some 34, .call 218 [.t 32, .t 33], some (28, false)⟩, o' 35
 (.pick (.t 28) (.k (.v false [.c (.b true)])) (.t 34))]) (.cond (.t 35) (q' ([m' 36 4, z' 2 2, m' 3 36]) .ret) .skip)))) (g' [a' 37 15, m' 15 37]))))))) (.seq
 (q' ([f' 38 1 1, l' 39 38, n' 40 39, z' 41 0]) (.block 2 (.loop (q' ([r' 42 41 40]) (.seq (.cond (.t 42) .skip (.exit 2)) (.seq (.block 3 (q' ([m' 43 41, i'
 44 4 39 41, e' 45 4 44, w' 7 [.i .i64, .s, .sl [.s [], .i .i64 0, .s []], .sl [.i .i64 0, .s [], .sl false [.s [], .i .i64 0, .s []] [], .i .i64 0, .s [], .i
 .i64 0, .s [], .s [], .i .i64 0, .s []]], m' 6 43, s' 4 7 45]) (q' ([e' 46 2 1, e' 47 4 7, c' 48 220 [46, 47], m' 8 48]) (q' ([m' 49 8, o' 50 (.bin .neq (.t
 49) (k' 0))]) (.cond (.t 50) (q' ([m' 51 8, m' 52 6, m' 2 51, m' 3 52]) .ret) .skip))))) (g' [a' 53 41, m' 41 53]))))))) (q' ([z' 2 0, z' 3 0]) .ret))))
theorem b0m : cmp Tryz.prog Tryz.f138 = some a2A := by kernel_rfl
theorem b1M (p : c7) : A0l Tryz.prog 138 [(true, [.sl false [.i .i64 0, .s [], .i .i64 0] (p.Decls.map c8.cells), .sl false [.i .i64 0, .s [], .sl false [.s [], .i .i64 0, .s []] [], .sl false [.i .i64 0, .s [], .sl false [.s [], .i .i64 0, .s []] [], .i .i64 0, .s [], .i .i64 0, .s [], .s [], .i .i64 0, .s []] []] (p.Rules.map (c6.cells false false))])] [] (.tup [(false, [.i .i64 ((i4 p).1)]), (false, [.i .i64 ((i4 p).2)])]) := by
 refine spec_of2 false false none Tryz.func138 b0m (rvs := [.t 2, .t 3]) (hΓ := mkCtx_ok (deep := false) (l := [(150, [], y8), (218, [], a5E), (220, [], a1L)]) ⟨a2l, b3P, a9P, trivial⟩) (h := ?_)
 intro hb hE
 simp only [go_sem] at hb
 simp only [a2A, x']
 (try refine A2V ?_); simp only [go_sem]; (repeat' first | apply CJ.mk | intro hc); all_goals try ((repeat' first | apply And.intro | intro hs) <;> (try simp only [go_sem, Bool.and_eq_false_iff] at hs) <;> omega)
 ·rw [a1x hc]; exact ⟨rfl, rfl⟩
 have hB : l4 p = true := hc
 clear hc
 refine aw_loop2 false [] [1, 13, 14] [2] [] (fun i : {i : Nat // i ≤ p.Decls.length ∧ ∀ j, j < i → l5 p j = false} => [(15, slV (.i .i64 i.1))]) (fun i => []) (fun i => []) (fun i => p.Decls.length - i.1) (⟨0, by omega, by intro j h; omega⟩) _ rfl ?_ ?_
 ·simp only [go_sem]
  all_goals first | omega | ((repeat' apply And.intro) <;> first | omega | rfl | skip)
 intro S0 hS0 i
 simp only [go_sem] at hS0
 obtain ⟨n, hn, ha⟩ := i
 (try refine A2V ?_); simp only [go_sem, hS0]; (repeat' first | apply CJ.mk | intro hc); all_goals try ((repeat' first | apply And.intro | intro hs) <;> (try simp only [go_sem, Bool.and_eq_false_iff] at hs) <;> omega)
 ·rw [c1H] at hc
  have hq : l5 p n = true := by rcases hc with (hc | hc) | hc <;> simp only [l5, pkB, fwB, hc, Bool.true_or, Bool.or_true]
  rw [a0h hB (by omega) ha hq]; exact ⟨rfl, rfl⟩
 ·rw [c1H] at hc
  have hq : l5 p n = false := by simp only [l5, pkB, fwB, hc, Bool.or_false]
  (refine lpK_n2 (⟨n + 1, by omega, b1Y ha hq⟩) _ rfl ?_; simp only [go_sem, hS0]; first | done | ((repeat' apply And.intro) <;> first | omega | (refine w64 ?_ ?_ ?_ <;> omega) | rfl | skip))
 have hd : ∀ j, j < p.Decls.length → l5 p j = false := fun j hj => ha j (by omega)
 clear hc ha
 refine aw_loop2 false [] [1, 39, 40] [2] [] (fun i : {i : Nat // i ≤ p.Rules.length ∧ ∀ j, j < i → o7 p j = false} => [(41, slV (.i .i64 i.1))]) (fun i => []) (fun i => []) (fun i => p.Rules.length - i.1) (⟨0, by omega, by intro j h; omega⟩) _ rfl ?_ ?_
 ·simp only [go_sem, hS0]
  all_goals first | omega | ((repeat' apply And.intro) <;> first | omega | rfl | skip)
 intro S1 hS1 i
 simp only [go_sem, hS0] at hS1
 obtain ⟨n, hn, ha⟩ := i
 (try refine A2V ?_); simp only [go_sem, hS0, hS1]; (repeat' first | apply CJ.mk | intro hc); all_goals try ((repeat' first | apply And.intro | intro hs) <;> (try simp only [go_sem, Bool.and_eq_false_iff] at hs) <;> omega)
 ·exact c2p hB (by omega)
 ·have hq : o7 p n = true := by
   simp only [bne, Bool.not_eq_true', beq_eq_false_iff_ne] at hc
   rw [o7, Bool.not_eq_true', beq_eq_false_iff_ne]; exact hc
  rw [a2c hB hd (by omega) ha hq]; exact ⟨rfl, rfl⟩
 ·have hq : o7 p n = false := by
   simp only [bne, Bool.not_eq_false', beq_iff_eq] at hc
   rw [o7, Bool.not_eq_false', beq_iff_eq]; exact hc
  (refine lpK_n2 (⟨n + 1, by omega, b1Y ha hq⟩) _ rfl ?_; simp only [go_sem, hS0, hS1]; first | done | ((repeat' apply And.intro) <;> first | omega | (refine w64 ?_ ?_ ?_ <;> omega) | rfl | skip))
 ·rw [a9A hB hd (fun j hj => ha j (by omega))]; exact ⟨rfl, rfl⟩
noncomputable def a0r : CT := i5 (fun (x : c7) => b1M x)
@[go_sem] theorem c1u (x0 : List c8) (x1 : List c6) : a0r [(true, [.sl false [.i .i64 0, .s [], .i .i64 0] (x0.map c8.cells), .sl false [.i .i64 0, .s [], .sl false [.s [], .i .i64 0, .s []] [], .sl false [.i .i64 0, .s [], .sl false [.s [], .i .i64 0, .s []] [], .i .i64 0, .s [], .i .i64 0, .s [], .s [], .i .i64 0, .s []] []] (x1.map (c6.cells false false))])] = some (True, [], .tup [(false, [.i .i64 ((i4 (c7.mk x0 x1)).1)]), (false, [.i .i64 ((i4 (c7.mk x0 x1)).2)])]) := f7 _ (by rintro ⟨_, _⟩ ⟨_, _⟩ h; simp at h; simp_all) (c7.mk x0 x1)
theorem a8i : OkC Tryz.prog 138 a0r := f8 _
end Go.Aw
