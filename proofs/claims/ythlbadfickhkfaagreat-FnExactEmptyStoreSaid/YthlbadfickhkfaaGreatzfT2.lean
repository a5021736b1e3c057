/- Names in programs. No condition. -/
import Derived.Test.YthlbadfickhkfaaGreatzfG8
namespace Go.Aw
open Go.Proofs
attribute [local irreducible] aft blk lpK retK AW A0l
set_option linter.unusedVariables false
set_option linter.unusedSimpArgs false
set_option maxRecDepth 100000
def pkB : List UInt8 := [112, 97, 99, 107, 101, 116]
def fwB : List UInt8 := [102, 111, 114, 119, 97, 114, 100]
def w9 (p : c8) (name : List UInt8) : Int := bif name == pkB then 4 else bif name == fwB then 1 else bif p9 p name then (m7 p name).Arity else -1
def a5Y (p : c8) (name : List UInt8) : Int := (m7 p name).Kind
def movB (p : c8) (name : List UInt8) : Bool := name == pkB || a5Y p name == 2
def l3 (r : c6) : List d4 := r.Head :: (r.Body.filter fun l => !(l.Kind == 3)).map c9.Atom
def a4e (p : c8) (l : c9) : Bool := !(l.Kind == 3) && movB p l.Atom.Name
def b5u (p : c8) (r : c6) : Bool := decide ((0 : Int) < r.Body.length) && (r.Body.getD 0 default).Kind == 1 && (movB p (r.Body.getD 0 default).Atom.Name && (!(r.Kind == 1) || (r.Body.getD 0 default).Atom.Name == pkB))
def a9x (p : c8) (r : c6) : Bool := bif !(r.Kind == 1) || r.Head.Name == fwB then b5u p r && !(r.Body.drop 1).any (a4e p) else !r.Body.any (a4e p)
def a1C (p : c8) (a : d4) : Bool := decide (w9 p a.Name < 0)
def a1D (p : c8) (a : d4) : Bool := !(w9 p a.Name == (a.Args.length : Int))
def a7s (a : d4) : Bool := a.Name == fwB
def a6c (p : c8) (r : c6) : Bool := bif r.Kind == 1 then !(a5Y p r.Head.Name == 3) && !(r.Head.Name == fwB) else !(a5Y p r.Head.Name == 1)
def l6 (p : c8) (r : c6) : Int := bif (l3 r).any (a1C p) then 3 else bif (l3 r).any (a1D p) then 4 else bif a6c p r then 5 else bif ((l3 r).drop 1).any a7s then 6 else bif !a9x p r then 7 else 0
def l7 (p : c8) (i : Nat) : Bool := (p.Decls.getD i default).Name == pkB || (p.Decls.getD i default).Name == fwB || (p.Decls.take i).any fun x => x.Name == (p.Decls.getD i default).Name
def n0 (p : c8) (i : Nat) : Bool := !(l6 p (p.Rules.getD i default) == 0)
def f9 (p : c8) : Int × Int :=
 bif !l9 p then (1, 0) else
 if a1g p.Decls.length (l7 p) < p.Decls.length then (2, (a1g p.Decls.length (l7 p) : Int)) else
 if a1g p.Rules.length (n0 p) < p.Rules.length then (l6 p (p.Rules.getD (a1g p.Rules.length (n0 p)) default), (a1g p.Rules.length (n0 p) : Int)) else (0, 0)
def atB (l : c9) : Bool := !(l.Kind == 3)
theorem b6w (r : c6) : (l3 r).length ≤ r.Body.length + 1 := by
 have := b6S (fun l : c9 => !(l.Kind == 3)) c9.Atom r.Body
 simp only [l3, List.length_cons]; omega
theorem a9T (r : c6) : 1 ≤ (l3 r).length := by simp [l3]
theorem b1n (r : c6) : l3 r = r.Head :: (r.Body.filter atB).map c9.Atom := rfl
def a4l : ACode := q' ([o' 2 (.box 2 (.t 0)), z' 4 0]) (.seq (q' ([m' 7 1]) (.block 0 (q' ([o' 9 (.bin .eql (.t 7) (.k (.v false [.c (.s [112, 97, 99, 107, 101, 116])]))), m' 8
 9]) (.cond (.t 8) (q' ([z' 4 4]) .ret) (q' ([o' 11 (.bin .eql (.t 7) (.k (.v false [.c (.s [102, 111, 114, 119, 97, 114, 100])]))), m' 10 11]) (.cond (.t 10)
 (q' ([z' 4 1]) .ret) .skip)))))) (q' ([e' 13 2 2, m' 14 1, c' 15 149 [13, 14], m' 12 15, o' 16 (.ext (.t 12) 0), o' 17 (.ext (.t 12) 1), w' 5 [.i .i64, .s, .i
 .i64], s' 3 5 16, m' 6 17]) (.seq (q' ([m' 18 6, o' 19 (.not (.t 18))]) (.cond (.t 19) (q' ([o' 4 (.mov (.k (.v false [.c (.i .i64 (-1))])))]) .ret) .skip))
 (q' ([f' 20 2 5, l' 21 20, m' 4 21]) .ret))))
theorem b0p : cmp Tryz.prog Tryz.f163 = some a4l := by kernel_rfl
theorem b2k (p : c8) (name : List UInt8) : A0l Tryz.prog 163 [(true, [.sl false [.i .i64 0, .s [], .i .i64 0] (p.Decls.map c7.cells), .sl false [.i .i64 0, .s [], .sl false [.s [], .i .i64 0, .s []] [], .sl false [.i .i64 0, .s [], .sl false [.s [], .i .i64 0, .s []] [], .i .i64 0, .s [], .i .i64 0, .s [], .s [], .i .i64 0, .s []] []] (p.Rules.map (c6.cells false false))]), (false, [.s name])] [] (.one (false, [.i .i64 (w9 p name)])) := by
 refine spec_of2 false false none Tryz.func163 b0p (rvs := [.t 4]) (hΓ := mkCtx_ok (deep := false) (l := [(149, [], a0x)]) ⟨a3q, trivial⟩) (h := ?_)
 intro hb hE
 simp only [go_sem] at hb
 simp only [a4l, x']
 (try refine A2V ?_); simp only [go_sem]; (repeat' first | apply CJ.mk | intro hc); all_goals try ((repeat' first | apply And.intro | intro hs) <;> (try simp only [go_sem, Bool.and_eq_false_iff] at hs) <;> omega)
 all_goals simp only [w9, pkB, fwB, *, cond_true, cond_false]
noncomputable def y4 : CT := i6 (fun (x : c8 × (List UInt8)) => b2k x.1 x.2)
@[go_sem] theorem b7l (x0 : List c7) (x1 : List c6) (x2 : List UInt8) : y4 [(true, [.sl false [.i .i64 0, .s [], .i .i64 0] (x0.map c7.cells), .sl false [.i .i64 0, .s [], .sl false [.s [], .i .i64 0, .s []] [], .sl false [.i .i64 0, .s [], .sl false [.s [], .i .i64 0, .s []] [], .i .i64 0, .s [], .i .i64 0, .s [], .s [], .i .i64 0, .s []] []] (x1.map (c6.cells false false))]), (false, [.s x2])] = some (True, [], .one (false, [.i .i64 (w9 (c8.mk x0 x1) x2)])) := f7 _ (by rintro ⟨⟨_, _⟩, _⟩ ⟨⟨_, _⟩, _⟩ h; simp at h; simp_all) ((c8.mk x0 x1), x2)
theorem a2t : OkC Tryz.prog 163 y4 := f8 _
def a4Z : ACode := q' ([o' 2 (.box 2 (.t 0)), z' 4 0]) (q' ([e' 8 2 2, m' 9 1, c' 10 149 [8, 9], m' 7 10, o' 11 (.ext (.t 7) 0), o' 12 (.ext (.t 7) 1), w' 5 [.i .i64, .s, .i
 .i64], s' 3 5 11, m' 6 12]) (q' ([f' 13 0 5, l' 14 13, m' 4 14]) .ret))
theorem b1F : cmp Tryz.prog Tryz.f82 = some a4Z := by kernel_rfl
theorem b3g (p : c8) (name : List UInt8) : A0l Tryz.prog 82 [(true, [.sl false [.i .i64 0, .s [], .i .i64 0] (p.Decls.map c7.cells), .sl false [.i .i64 0, .s [], .sl false [.s [], .i .i64 0, .s []] [], .sl false [.i .i64 0, .s [], .sl false [.s [], .i .i64 0, .s []] [], .i .i64 0, .s [], .i .i64 0, .s [], .s [], .i .i64 0, .s []] []] (p.Rules.map (c6.cells false false))]), (false, [.s name])] [] (.one (false, [.i .i64 (a5Y p name)])) := by
 refine spec_of2 false false none Tryz.func82 b1F (rvs := [.t 4]) (hΓ := mkCtx_ok (deep := false) (l := [(149, [], a0x)]) ⟨a3q, trivial⟩) (h := ?_)
 intro hb hE
 simp only [go_sem] at hb
 simp only [a4Z, x']
 (try refine A2V ?_); simp only [go_sem]; (repeat' first | apply CJ.mk | intro hc); all_goals try ((repeat' first | apply And.intro | intro hs) <;> (try simp only [go_sem, Bool.and_eq_false_iff] at hs) <;> omega)
 all_goals (first | rfl | trace_state)
noncomputable def a0y : CT := i6 (fun (x : c8 × (List UInt8)) => b3g x.1 x.2)
@[go_sem] theorem b8v (x0 : List c7) (x1 : List c6) (x2 : List UInt8) : a0y [(true, [.sl false [.i .i64 0, .s [], .i .i64 0] (x0.map c7.cells), .sl false [.i .i64 0, .s [], .sl false [.s [], .i .i64 0, .s []] [], .sl false [.i .i64 0, .s [], .sl false [.s [], .i .i64 0, .s []] [], .i .i64 0, .s [], .i .i64 0, .s [], .s [], .i .i64 0, .s []] []] (x1.map (c6.cells false false))]), (false, [.s x2])] = some (True, [], .one (false, [.i .i64 (a5Y (c8.mk x0 x1) x2)])) := f7 _ (by rintro ⟨⟨_, _⟩, _⟩ ⟨⟨_, _⟩, _⟩ h; simp at h; simp_all) ((c8.mk x0 x1), x2)
theorem a3s : OkC Tryz.prog 82 a0y := f8 _
def a4o : ACode := q' ([o' 2 (.box 2 (.t 0)), b' 4 false]) (q' ([m' 5 1, o' 6 (.bin .eql (.t 5) (.k (.v false [.c (.s [112, 97, 99, 107, 101, 116])]))), m' 7 6, ⟨some 8, .ld true
 2 (.t 2), some (7, false)⟩, ⟨some 9, .mov (.t 1), some (7, false)⟩, ⟨some 10, .call 82 [.t 8, .t 9], some (7, false)⟩, ⟨some 11, .bin .eql (.t 10) (k' 2),
 some (7, false)⟩, o' 12 (.pick (.t 7) (.k (.v false [.c (.b true)])) (.t 11)), m' 4 12]) .ret)
theorem b0s : cmp Tryz.prog Tryz.f342 = some a4o := by kernel_rfl
theorem b2n (p : c8) (name : List UInt8) : A0l Tryz.prog 342 [(true, [.sl false [.i .i64 0, .s [], .i .i64 0] (p.Decls.map c7.cells), .sl false [.i .i64 0, .s [], .sl false [.s [], .i .i64 0, .s []] [], .sl false [.i .i64 0, .s [], .sl false [.s [], .i .i64 0, .s []] [], .i .i64 0, .s [], .i .i64 0, .s [], .s [], .i .i64 0, .s []] []] (p.Rules.map (c6.cells false false))]), (false, [.s name])] [] (.one (false, [.b (movB p name)])) := by
 refine spec_of2 false false none Tryz.func342 b0s (rvs := [.t 4]) (hΓ := mkCtx_ok (deep := false) (l := [(82, [], a0y)]) ⟨a3s, trivial⟩) (h := ?_)
 intro hb hE
 simp only [go_sem] at hb
 simp only [a4o, x']
 (try refine A2V ?_); simp only [go_sem]; (repeat' first | apply CJ.mk | intro hc); all_goals try ((repeat' first | apply And.intro | intro hs) <;> (try simp only [go_sem, Bool.and_eq_false_iff] at hs) <;> omega)
 all_goals (first | rfl | trace_state)
noncomputable def y6 : CT := i6 (fun (x : c8 × (List UInt8)) => b2n x.1 x.2)
@[go_sem] theorem b7o (x0 : List c7) (x1 : List c6) (x2 : List UInt8) : y6 [(true, [.sl false [.i .i64 0, .s [], .i .i64 0] (x0.map c7.cells), .sl false [.i .i64 0, .s [], .sl false [.s [], .i .i64 0, .s []] [], .sl false [.i .i64 0, .s [], .sl false [.s [], .i .i64 0, .s []] [], .i .i64 0, .s [], .i .i64 0, .s [], .s [], .i .i64 0, .s []] []] (x1.map (c6.cells false false))]), (false, [.s x2])] = some (True, [], .one (false, [.b (movB (c8.mk x0 x1) x2)])) := f7 _ (by rintro ⟨⟨_, _⟩, _⟩ ⟨⟨_, _⟩, _⟩ h; simp at h; simp_all) ((c8.mk x0 x1), x2)
theorem a2v : OkC Tryz.prog 342 y6 := f8 _
def a4m : ACode := q' ([o' 1 (.box 4 (.t 0)), o' 2 (.mov (.k (.v false [.nl [.s [], .sl false [.s [], .i .i64 0, .s []] []]])))]) (q' ([f' 6 1 1, e' 7 2 6, o' 8 (.bsl 2 1 [.s, .sl
 [.s [], .i .i64 0, .s []]] [(0, .t 7)]), m' 3 8]) (.seq (q' ([f' 9 3 1, l' 10 9, n' 11 10, z' 12 0]) (.block 0 (.loop (q' ([r' 13 12 11]) (.seq (.cond (.t 13)
 .skip (.exit 0)) (.seq (.block 1 (q' ([i' 14 10 10 12, e' 15 10 14, w' 5 [.i .i64, .s, .sl [.s [], .i .i64 0, .s []], .i .i64, .s, .i .i64, .s, .s, .i .i64,
 .s], s' 10 5 15]) (q' ([f' 16 0 5, l' 17 16, o' 18 (.bin .neq (.t 17) (k' 3))]) (.cond (.t 18) (g' [m' 19 3, f' 20 1 5, e' 21 2 20, o' 22 (.bsl 2 1 [.s, .sl
 [.s [], .i .i64 0, .s []]] [(0, .t 21)]), o' 23 (.app 2 40 [.s, .sl [.s [], .i .i64 0, .s []]] (.t 19) (.t 22)), m' 3 23]) .skip)))) (g' [a' 24 12, m' 12
 24]))))))) (q' ([m' 25 3, m' 2 25]) .ret)))
theorem b0q : cmp Tryz.prog Tryz.f168 = some a4m := by kernel_rfl
theorem b2l (r : c6) (hpre : r.Body.length ≤ 8) : A0l Tryz.prog 168 [(true, [.i .i64 r.Kind, .s r.Head.Name, .sl false [.s [], .i .i64 0, .s []] (r.Head.Args.map c4.cells), .sl false [.i .i64 0, .s [], .sl false [.s [], .i .i64 0, .s []] [], .i .i64 0, .s [], .i .i64 0, .s [], .s [], .i .i64 0, .s []] (r.Body.map (c9.cells false false))])] [] (.one (false, [.sl true [.s [], .sl false [.s [], .i .i64 0, .s []] []] ((l3 r).map (d4.cells false false))])) := by
 refine spec_of2 false false none Tryz.func168 b0q (rvs := [.t 2]) (hΓ := mkCtx_ok (deep := false) (l := []) trivial) (h := ?_)
 intro hb hE
 simp only [go_sem] at hb
 simp only [a4m, x']
 (try refine A2V ?_); simp only [go_sem]; (repeat' first | apply CJ.mk | intro hc); all_goals try ((repeat' first | apply And.intro | intro hs) <;> (try simp only [go_sem, Bool.and_eq_false_iff] at hs) <;> omega)
 refine aw_loop2 false [(false, 3, 0, 100006)] [10, 11] [] [] (fun i : {i : Nat // i ≤ r.Body.length} => [(3, .v false [.ow 100006]), (12, slV (.i .i64 i.1))]) (fun i => []) (fun i => [(100006, [.s [], .sl false [.s [], .i .i64 0, .s []] []], (r.Head :: ((r.Body.take i.1).filter atB).map c9.Atom).map (d4.cells false false))]) (fun i => r.Body.length - i.1) (⟨0, by simp⟩) _ (by simp only [go_sem]; try rfl) ?_ ?_
 ·simp only [go_sem]
  all_goals first | omega | ((repeat' apply And.intro) <;> first | omega | rfl | skip)
 intro S0 hS0 i
 simp only [go_sem] at hS0
 obtain ⟨i, hi⟩ := i
 (try refine A2V ?_); simp only [go_sem, hS0]; (repeat' first | apply CJ.mk | intro hc); all_goals try ((repeat' first | apply And.intro | intro hs) <;> (try simp only [go_sem, Bool.and_eq_false_iff] at hs) <;> omega)
 ·have := b6S atB c9.Atom (r.Body.take i); simp at this; omega
 ·have hp : atB (r.Body.getD i default) = true := hc
  (refine lpK_n2 (⟨i + 1, by omega⟩) _ (by simp only [go_sem]; try rfl) ?_; simp only [go_sem, hS0]; first | done | ((repeat' apply And.intro) <;> first | omega | (refine w64 ?_ ?_ ?_ <;> omega) | rfl | skip))
  all_goals (rw [b6T c9.Atom default (by omega) hp] <;> rfl)
 ·have hp : atB (r.Body.getD i default) = false := hc
  (refine lpK_n2 (⟨i + 1, by omega⟩) _ (by simp only [go_sem]; try rfl) ?_; simp only [go_sem, hS0]; first | done | ((repeat' apply And.intro) <;> first | omega | (refine w64 ?_ ?_ ?_ <;> omega) | rfl | skip))
  all_goals (rw [fm_no c9.Atom default (by omega) hp] <;> rfl)
 ·rw [k6 (by omega), b1n]; rfl
noncomputable def a1H : CT := o6 (fun (x : c6) h => b2l x h)
@[go_sem] theorem b7m (x0 : Int) (x1 : List UInt8) (x2 : List c4) (x3 : List c9) : a1H [(true, [.i .i64 x0, .s x1, .sl false [.s [], .i .i64 0, .s []] (x2.map c4.cells), .sl false [.i .i64 0, .s [], .sl false [.s [], .i .i64 0, .s []] [], .i .i64 0, .s [], .i .i64 0, .s [], .s [], .i .i64 0, .s []] (x3.map (c9.cells false false))])] = some ((c6.mk x0 (d4.mk x1 x2) x3).Body.length ≤ 8, [], .one (false, [.sl true [.s [], .sl false [.s [], .i .i64 0, .s []] []] ((l3 (c6.mk x0 (d4.mk x1 x2) x3)).map (d4.cells false false))])) := i3 _ (by rintro ⟨_, ⟨_, _⟩, _⟩ ⟨_, ⟨_, _⟩, _⟩ h; simp at h; simp_all) (c6.mk x0 (d4.mk x1 x2) x3)
theorem a7M : OkC Tryz.prog 168 a1H := i4 _
def a3j : ACode := q' ([o' 2 (.box 2 (.t 0)), z' 4 0]) (.seq (q' ([m' 6 1, o' 7 (.bin .eql (.t 6) (.k (.v false [.c (.s [112, 97, 99, 107, 101, 116])])))]) (.cond (.t 7) (q' ([z'
 4 4]) .ret) .skip)) (.seq (q' ([m' 8 1, o' 9 (.bin .eql (.t 8) (.k (.v false [.c (.s [102, 111, 114, 119, 97, 114, 100])])))]) (.cond (.t 9) (q' ([z' 4 1])
 .ret) .skip)) (q' ([e' 10 2 2, m' 11 1, c' 12 160 [10, 11], w' 5 [.i .i64, .s, .i .i64], s' 3 5 12]) (.seq (q' ([f' 13 0 5, l' 14 13, o' 15 (.bin .eql (.t 14)
 (k' 0))]) (.cond (.t 15) (q' ([o' 4 (.mov (.k (.v false [.c (.i .i64 (-1))])))]) .ret) .skip)) (q' ([f' 16 2 5, l' 17 16, m' 4 17]) .ret)))))
theorem a9u : cmp Tryz.prog Tryz.f215 = some a3j := by kernel_rfl
theorem b0Y (p : c8) (name : List UInt8) (hpre : l9 p = true) : A0l Tryz.prog 215 [(true, [.sl false [.i .i64 0, .s [], .i .i64 0] (p.Decls.map c7.cells), .sl false [.i .i64 0, .s [], .sl false [.s [], .i .i64 0, .s []] [], .sl false [.i .i64 0, .s [], .sl false [.s [], .i .i64 0, .s []] [], .i .i64 0, .s [], .i .i64 0, .s [], .s [], .i .i64 0, .s []] []] (p.Rules.map (c6.cells false false))]), (false, [.s name])] [] (.one (false, [.i .i64 (w9 p name)])) := by
 refine spec_of2 false false none Tryz.func215 a9u (rvs := [.t 4]) (hΓ := mkCtx_ok (deep := false) (l := [(160, [], t5)]) ⟨a0c, trivial⟩) (h := ?_)
 intro hb hE
 simp only [go_sem] at hb
 simp only [a3j, x']
 (try refine A2V ?_); simp only [go_sem]; (repeat' first | apply CJ.mk | intro hc); all_goals try ((repeat' first | apply And.intro | intro hs) <;> (try simp only [go_sem, Bool.and_eq_false_iff] at hs) <;> omega)
 ·simp only [w9, pkB, fwB, *, cond_true, cond_false]
 ·simp only [w9, pkB, fwB, *, cond_true, cond_false]
 all_goals rw [b4l hpre] at hc
 ·rw [Bool.not_eq_true'] at hc
  simp only [w9, pkB, fwB, *, cond_true, cond_false]
 ·rw [Bool.not_eq_false'] at hc
  simp only [w9, pkB, fwB, *, cond_true, cond_false]
noncomputable def a1c : CT := o6 (fun (x : c8 × (List UInt8)) h => b0Y x.1 x.2 h)
@[go_sem] theorem b6I (x0 : List c7) (x1 : List c6) (x2 : List UInt8) : a1c [(true, [.sl false [.i .i64 0, .s [], .i .i64 0] (x0.map c7.cells), .sl false [.i .i64 0, .s [], .sl false [.s [], .i .i64 0, .s []] [], .sl false [.i .i64 0, .s [], .sl false [.s [], .i .i64 0, .s []] [], .i .i64 0, .s [], .i .i64 0, .s [], .s [], .i .i64 0, .s []] []] (x1.map (c6.cells false false))]), (false, [.s x2])] = some (l9 (c8.mk x0 x1) = true, [], .one (false, [.i .i64 (w9 (c8.mk x0 x1) x2)])) := i3 _ (by rintro ⟨⟨_, _⟩, _⟩ ⟨⟨_, _⟩, _⟩ h; simp at h; simp_all) ((c8.mk x0 x1), x2)
theorem a7a : OkC Tryz.prog 215 a1c := i4 _
def a2r : ACode := q' ([o' 2 (.box 2 (.t 0)), b' 4 false]) (q' ([m' 5 1, o' 6 (.bin .eql (.t 5) (.k (.v false [.c (.s [112, 97, 99, 107, 101, 116])]))), m' 7 6, ⟨some 8, .ld true
 2 (.t 2), some (7, false)⟩, ⟨some 9, .mov (.t 1), some (7, false)⟩, ⟨some 10, .call 160 [.t 8, .t 9], some (7, false)⟩, ⟨some 11, .fl false 0 1 (.t 10), some
 (7, false)⟩, ⟨some 12, .bin .eql (.t 11) (k' 2), some (7, false)⟩, o' 13 (.pick (.t 7) (.k (.v false [.c (.b true)])) (.t 12)), m' 4 13]) .ret)
theorem a8r : cmp Tryz.prog Tryz.f216 = some a2r := by kernel_rfl
theorem a9K (p : c8) (name : List UInt8) : A0l Tryz.prog 216 [(true, [.sl false [.i .i64 0, .s [], .i .i64 0] (p.Decls.map c7.cells), .sl false [.i .i64 0, .s [], .sl false [.s [], .i .i64 0, .s []] [], .sl false [.i .i64 0, .s [], .sl false [.s [], .i .i64 0, .s []] [], .i .i64 0, .s [], .i .i64 0, .s [], .s [], .i .i64 0, .s []] []] (p.Rules.map (c6.cells false false))]), (false, [.s name])] [] (.one (false, [.b (movB p name)])) := by
 refine spec_of2 false false none Tryz.func216 a8r (rvs := [.t 4]) (hΓ := mkCtx_ok (deep := false) (l := [(160, [], t5)]) ⟨a0c, trivial⟩) (h := ?_)
 intro hb hE
 simp only [go_sem] at hb
 simp only [a2r, x']
 (try refine A2V ?_); simp only [go_sem]; (repeat' first | apply CJ.mk | intro hc); all_goals try ((repeat' first | apply And.intro | intro hs) <;> (try simp only [go_sem, Bool.and_eq_false_iff] at hs) <;> omega)
 all_goals (first | rfl | trace_state)
noncomputable def a0q : CT := i6 (fun (x : c8 × (List UInt8)) => a9K x.1 x.2)
@[go_sem] theorem b6a (x0 : List c7) (x1 : List c6) (x2 : List UInt8) : a0q [(true, [.sl false [.i .i64 0, .s [], .i .i64 0] (x0.map c7.cells), .sl false [.i .i64 0, .s [], .sl false [.s [], .i .i64 0, .s []] [], .sl false [.i .i64 0, .s [], .sl false [.s [], .i .i64 0, .s []] [], .i .i64 0, .s [], .i .i64 0, .s [], .s [], .i .i64 0, .s []] []] (x1.map (c6.cells false false))]), (false, [.s x2])] = some (True, [], .one (false, [.b (movB (c8.mk x0 x1) x2)])) := f7 _ (by rintro ⟨⟨_, _⟩, _⟩ ⟨⟨_, _⟩, _⟩ h; simp at h; simp_all) ((c8.mk x0 x1), x2)
theorem a6r : OkC Tryz.prog 216 a0q := f8 _
def a3k : ACode := q' ([o' 1 (.box 4 (.t 0)), o' 2 (.mov (.k (.v false [.nl [.s [], .sl false [.s [], .i .i64 0, .s []] []]])))]) (q' ([f' 5 1 1, e' 6 2 5, o' 7 (.bsl 2 1 [.s, .sl
 [.s [], .i .i64 0, .s []]] [(0, .t 6)]), m' 3 7]) (.seq (q' ([f' 8 3 1, l' 9 8, n' 10 9, z' 11 0]) (.block 0 (.loop (q' ([r' 12 11 10]) (.seq (.cond (.t 12)
 .skip (.exit 0)) (.seq (.block 1 (q' ([m' 13 11, m' 4 13]) (q' ([f' 14 3 1, l' 15 14, m' 16 4, i' 17 10 15 16, f' 18 0 17, l' 19 18, o' 20 (.bin .neq (.t 19)
 (k' 3))]) (.cond (.t 20) (g' [m' 21 3, f' 22 3 1, l' 23 22, m' 24 4, i' 25 10 23 24, f' 26 1 25, e' 27 2 26, o' 28 (.bsl 2 1 [.s, .sl [.s [], .i .i64 0, .s
 []]] [(0, .t 27)]), o' 29 (.app 2 40 [.s, .sl [.s [], .i .i64 0, .s []]] (.t 21) (.t 28)), m' 3 29]) .skip)))) (g' [a' 30 11, m' 11 30]))))))) (q' ([m' 31 3,
 m' 2 31]) .ret)))
theorem a9v : cmp Tryz.prog Tryz.f214 = some a3k := by kernel_rfl
theorem b0Z (r : c6) (hpre : r.Body.length ≤ 8) : A0l Tryz.prog 214 [(true, [.i .i64 r.Kind, .s r.Head.Name, .sl false [.s [], .i .i64 0, .s []] (r.Head.Args.map c4.cells), .sl false [.i .i64 0, .s [], .sl false [.s [], .i .i64 0, .s []] [], .i .i64 0, .s [], .i .i64 0, .s [], .s [], .i .i64 0, .s []] (r.Body.map (c9.cells false false))])] [] (.one (false, [.sl true [.s [], .sl false [.s [], .i .i64 0, .s []] []] ((l3 r).map (d4.cells false false))])) := by
 refine spec_of2 false false none Tryz.func214 a9v (rvs := [.t 2]) (hΓ := mkCtx_ok (deep := false) (l := []) trivial) (h := ?_)
 intro hb hE
 simp only [go_sem] at hb
 simp only [a3k, x']
 (try refine A2V ?_); simp only [go_sem]; (repeat' first | apply CJ.mk | intro hc); all_goals try ((repeat' first | apply And.intro | intro hs) <;> (try simp only [go_sem, Bool.and_eq_false_iff] at hs) <;> omega)
 refine aw_loop2 false [(false, 3, 0, 100006)] [1, 10] [2] [] (fun i : {i : Nat // i ≤ r.Body.length} => [(3, .v false [.ow 100006]), (11, slV (.i .i64 i.1))]) (fun i => []) (fun i => [(100006, [.s [], .sl false [.s [], .i .i64 0, .s []] []], (r.Head :: ((r.Body.take i.1).filter atB).map c9.Atom).map (d4.cells false false))]) (fun i => r.Body.length - i.1) (⟨0, by simp⟩) _ (by simp only [go_sem]; try rfl) ?_ ?_
 ·simp only [go_sem]
  all_goals first | omega | ((repeat' apply And.intro) <;> first | omega | rfl | skip)
 intro S0 hS0 i
 simp only [go_sem] at hS0
 obtain ⟨i, hi⟩ := i
 (try refine A2V ?_); simp only [go_sem, hS0]; (repeat' first | apply CJ.mk | intro hc); all_goals try ((repeat' first | apply And.intro | intro hs) <;> (try simp only [go_sem, Bool.and_eq_false_iff] at hs) <;> omega)
 ·have := b6S atB c9.Atom (r.Body.take i); simp at this; omega
 ·have hp : atB (r.Body.getD i default) = true := hc
  (refine lpK_n2 (⟨i + 1, by omega⟩) _ (by simp only [go_sem]; try rfl) ?_; simp only [go_sem, hS0]; first | done | ((repeat' apply And.intro) <;> first | omega | (refine w64 ?_ ?_ ?_ <;> omega) | rfl | skip))
  all_goals (rw [b6T c9.Atom default (by omega) hp] <;> rfl)
 ·have hp : atB (r.Body.getD i default) = false := hc
  (refine lpK_n2 (⟨i + 1, by omega⟩) _ (by simp only [go_sem]; try rfl) ?_; simp only [go_sem, hS0]; first | done | ((repeat' apply And.intro) <;> first | omega | (refine w64 ?_ ?_ ?_ <;> omega) | rfl | skip))
  all_goals (rw [fm_no c9.Atom default (by omega) hp] <;> rfl)
 ·rw [k6 (by omega), b1n]; rfl
noncomputable def a1d : CT := o6 (fun (x : c6) h => b0Z x h)
@[go_sem] theorem b6J (x0 : Int) (x1 : List UInt8) (x2 : List c4) (x3 : List c9) : a1d [(true, [.i .i64 x0, .s x1, .sl false [.s [], .i .i64 0, .s []] (x2.map c4.cells), .sl false [.i .i64 0, .s [], .sl false [.s [], .i .i64 0, .s []] [], .i .i64 0, .s [], .i .i64 0, .s [], .s [], .i .i64 0, .s []] (x3.map (c9.cells false false))])] = some ((c6.mk x0 (d4.mk x1 x2) x3).Body.length ≤ 8, [], .one (false, [.sl true [.s [], .sl false [.s [], .i .i64 0, .s []] []] ((l3 (c6.mk x0 (d4.mk x1 x2) x3)).map (d4.cells false false))])) := i3 _ (by rintro ⟨_, ⟨_, _⟩, _⟩ ⟨_, ⟨_, _⟩, _⟩ h; simp at h; simp_all) (c6.mk x0 (d4.mk x1 x2) x3)
theorem a7b : OkC Tryz.prog 214 a1d := i4 _
theorem c0a {p : c8} (h : l9 p = true) {r : c6} (hr : r ∈ p.Rules) : r.Body.length ≤ 8 := by
 simp only [l9, Bool.and_eq_true, List.all_eq_true] at h
 have := h.2 r hr
 simp only [p8, Bool.and_eq_true, decide_eq_true_eq] at this
 omega
def a0g : ACode := q' ([o' 2 (.box 10 (.t 0)), b' 3 false]) (q' ([f' 4 0 2, l' 5 4, o' 6 (.bin .neq (.t 5) (k' 3)), m' 7 6, ⟨some 8, .ld true 2 (.t 1), some (7, true)⟩, ⟨some 9,
 .fa 1 (.t 2), some (7, true)⟩, ⟨some 10, .fa 0 (.t 9), some (7, true)⟩, ⟨some 11, .ld false 1 (.t 10), some (7, true)⟩, ⟨some 12, .call 342 [.t 8, .t 11],
 some (7, true)⟩, o' 13 (.pick (.t 7) (.t 12) (.k (.v false [.c (.b false)]))), m' 3 13]) .ret)
theorem a4R : cmp Tryz.prog Tryz.f343 = some a0g := by kernel_rfl
theorem a5X (l : c9) (p : c8) : A0l Tryz.prog 343 [(true, [.i .i64 l.Kind, .s l.Atom.Name, .sl false [.s [], .i .i64 0, .s []] (l.Atom.Args.map c4.cells), .i .i64 l.Op, .s l.A.Var, .i .i64 l.A.Val.N, .s l.A.Val.S, .s l.B.Var, .i .i64 l.B.Val.N, .s l.B.Val.S]), (false, [.p [.sl false [.i .i64 0, .s [], .i .i64 0] (p.Decls.map c7.cells), .sl false [.i .i64 0, .s [], .sl false [.s [], .i .i64 0, .s []] [], .sl false [.i .i64 0, .s [], .sl false [.s [], .i .i64 0, .s []] [], .i .i64 0, .s [], .i .i64 0, .s [], .s [], .i .i64 0, .s []] []] (p.Rules.map (c6.cells false false))]])] [] (.one (false, [.b (a4e p l)])) := by
 refine spec_of2 false false none Tryz.func343 a4R (rvs := [.t 3]) (hΓ := mkCtx_ok (deep := false) (l := [(342, [], y6)]) ⟨a2v, trivial⟩) (h := ?_)
 intro hb hE
 simp only [go_sem] at hb
 simp only [a0g, x']
 (try refine A2V ?_); simp only [go_sem]; (repeat' first | apply CJ.mk | intro hc); all_goals try ((repeat' first | apply And.intro | intro hs) <;> (try simp only [go_sem, Bool.and_eq_false_iff] at hs) <;> omega)
 all_goals (first | rfl | trace_state)
noncomputable def t3 : CT := i6 (fun (x : c9 × c8) => a5X x.1 x.2)
@[go_sem] theorem b3K (x0 : Int) (x1 : List UInt8) (x2 : List c4) (x3 : Int) (x4 : List UInt8) (x5 : Int) (x6 x7 : List UInt8) (x8 : Int) (x9 : List UInt8) (x10 : List c7) (x11 : List c6) : t3 [(true, [.i .i64 x0, .s x1, .sl false [.s [], .i .i64 0, .s []] (x2.map c4.cells), .i .i64 x3, .s x4, .i .i64 x5, .s x6, .s x7, .i .i64 x8, .s x9]), (false, [.p [.sl false [.i .i64 0, .s [], .i .i64 0] (x10.map c7.cells), .sl false [.i .i64 0, .s [], .sl false [.s [], .i .i64 0, .s []] [], .sl false [.i .i64 0, .s [], .sl false [.s [], .i .i64 0, .s []] [], .i .i64 0, .s [], .i .i64 0, .s [], .s [], .i .i64 0, .s []] []] (x11.map (c6.cells false false))]])] = some (True, [], .one (false, [.b (a4e (c8.mk x10 x11) (c9.mk x0 (d4.mk x1 x2) x3 (c4.mk x4 (d5.mk x5 x6)) (c4.mk x7 (d5.mk x8 x9))))])) := f7 _ (by rintro ⟨⟨_, ⟨_, _⟩, _, ⟨_, ⟨_, _⟩⟩, ⟨_, ⟨_, _⟩⟩⟩, ⟨_, _⟩⟩ ⟨⟨_, ⟨_, _⟩, _, ⟨_, ⟨_, _⟩⟩, ⟨_, ⟨_, _⟩⟩⟩, ⟨_, _⟩⟩ h; simp at h; simp_all) ((c9.mk x0 (d4.mk x1 x2) x3 (c4.mk x4 (d5.mk x5 x6)) (c4.mk x7 (d5.mk x8 x9))), (c8.mk x10 x11))
theorem a3r : OkC Tryz.prog 343 t3 := f8 _
theorem b4x (l : List c9) (p : c8) : A0l Tryz.prog 275 [(false, [.sl false [.i .i64 0, .s [], .sl false [.s [], .i .i64 0, .s []] [], .i .i64 0, .s [], .i .i64 0, .s [], .s [], .i .i64 0, .s []] (l.map (c9.cells false false))]), (false, [.f 343 [.p [.sl false [.i .i64 0, .s [], .i .i64 0] (p.Decls.map c7.cells), .sl false [.i .i64 0, .s [], .sl false [.s [], .i .i64 0, .s []] [], .sl false [.i .i64 0, .s [], .sl false [.s [], .i .i64 0, .s []] [], .i .i64 0, .s [], .i .i64 0, .s [], .s [], .i .i64 0, .s []] []] (p.Rules.map (c6.cells false false))]]])] [] (.one (false, [.i .i64 (a0P (fun y => a4e p y) l)])) := by
 refine spec_of2 false false none Tryz.func275 b3P (rvs := [.t 4]) (hΓ := mkCtx_ok (deep := false) (l := [(343, [], t3)]) ⟨a3r, trivial⟩) (h := ?_)
 intro hb hE
 simp only [go_sem] at hb
 simp only [a8K, x']
 (try refine A2V ?_); simp only [go_sem]; (repeat' first | apply CJ.mk | intro hc); all_goals try ((repeat' first | apply And.intro | intro hs) <;> (try simp only [go_sem, Bool.and_eq_false_iff] at hs) <;> omega)
 refine aw_loop2 false [] [0, 1, 7] [] [] (fun i : {i : Nat // i ≤ l.length ∧ (l.take i).any (fun y => a4e p y) = false} => [(8, slV (.i .i64 i.1))]) (fun i => []) (fun i => []) (fun i => l.length - i.1) (⟨0, by simp⟩) _ rfl ?_ ?_
 ·simp only [go_sem]
  all_goals first | omega | ((repeat' apply And.intro) <;> first | omega | rfl | skip)
 intro S0 hS0 i
 simp only [go_sem] at hS0
 obtain ⟨i, hi, ha⟩ := i
 (try refine A2V ?_); simp only [go_sem, hS0]; (repeat' first | apply CJ.mk | intro hc); all_goals try ((repeat' first | apply And.intro | intro hs) <;> (try simp only [go_sem, Bool.and_eq_false_iff] at hs) <;> omega)
 ·exact (s8 (p := fun y => a4e p y) (d := default) (by omega) ha (by simpa [-List.getD_eq_getElem?_getD] using hc)).symm
 ·(refine lpK_n2 (⟨i + 1, by omega, m8 (p := fun y => a4e p y) default (by omega) ha (by simpa [-List.getD_eq_getElem?_getD] using hc)⟩) _ rfl ?_; simp only [go_sem, hS0]; first | done | ((repeat' apply And.intro) <;> first | omega | (refine w64 ?_ ?_ ?_ <;> omega) | rfl | skip))
 ·exact (o9 (by rwa [k6 (by omega)] at ha)).symm
 all_goals trace_state
noncomputable def a3N : CT := i6 (fun (x : (List c9) × c8) => b4x x.1 x.2)
@[go_sem] theorem b9f (l : List c9) (x0 : List c7) (x1 : List c6) : a3N [(false, [.sl false [.i .i64 0, .s [], .sl false [.s [], .i .i64 0, .s []] [], .i .i64 0, .s [], .i .i64 0, .s [], .s [], .i .i64 0, .s []] (l.map (c9.cells false false))]), (false, [.f 343 [.p [.sl false [.i .i64 0, .s [], .i .i64 0] (x0.map c7.cells), .sl false [.i .i64 0, .s [], .sl false [.s [], .i .i64 0, .s []] [], .sl false [.i .i64 0, .s [], .sl false [.s [], .i .i64 0, .s []] [], .i .i64 0, .s [], .i .i64 0, .s [], .s [], .i .i64 0, .s []] []] (x1.map (c6.cells false false))]]])] = some (True, [], .one (false, [.i .i64 (a0P (fun y => a4e (c8.mk x0 x1) y) l)])) := f7 _ (by rintro ⟨_, ⟨_, _⟩⟩ ⟨_, ⟨_, _⟩⟩ h; simp at h; simp_all) (l, (c8.mk x0 x1))
theorem b0e : OkC Tryz.prog 275 a3N := f8 _
theorem b4v (l : List c9) (p : c8) : A0l Tryz.prog 192 [(false, [.sl false [.i .i64 0, .s [], .sl false [.s [], .i .i64 0, .s []] [], .i .i64 0, .s [], .i .i64 0, .s [], .s [], .i .i64 0, .s []] (l.map (c9.cells false false))]), (false, [.f 343 [.p [.sl false [.i .i64 0, .s [], .i .i64 0] (p.Decls.map c7.cells), .sl false [.i .i64 0, .s [], .sl false [.s [], .i .i64 0, .s []] [], .sl false [.i .i64 0, .s [], .sl false [.s [], .i .i64 0, .s []] [], .i .i64 0, .s [], .i .i64 0, .s [], .s [], .i .i64 0, .s []] []] (p.Rules.map (c6.cells false false))]]])] [] (.one (false, [.b (l.any (fun y => a4e p y))])) := by
 refine spec_of2 false false none Tryz.func192 b3O (rvs := [.t 4]) (hΓ := mkCtx_ok (deep := false) (l := [(275, [], a3N)]) ⟨b0e, trivial⟩) (h := ?_)
 intro hb hE
 simp only [go_sem] at hb
 simp only [a8J, x']
 (try refine A2V ?_); simp only [go_sem]; (repeat' first | apply CJ.mk | intro hc); all_goals try ((repeat' first | apply And.intro | intro hs) <;> (try simp only [go_sem, Bool.and_eq_false_iff] at hs) <;> omega)
 ·exact a0Q _ _
noncomputable def a3L : CT := i6 (fun (x : (List c9) × c8) => b4v x.1 x.2)
@[go_sem] theorem b9d (l : List c9) (x0 : List c7) (x1 : List c6) : a3L [(false, [.sl false [.i .i64 0, .s [], .sl false [.s [], .i .i64 0, .s []] [], .i .i64 0, .s [], .i .i64 0, .s [], .s [], .i .i64 0, .s []] (l.map (c9.cells false false))]), (false, [.f 343 [.p [.sl false [.i .i64 0, .s [], .i .i64 0] (x0.map c7.cells), .sl false [.i .i64 0, .s [], .sl false [.s [], .i .i64 0, .s []] [], .sl false [.i .i64 0, .s [], .sl false [.s [], .i .i64 0, .s []] [], .i .i64 0, .s [], .i .i64 0, .s [], .s [], .i .i64 0, .s []] []] (x1.map (c6.cells false false))]]])] = some (True, [], .one (false, [.b (l.any (fun y => a4e (c8.mk x0 x1) y))])) := f7 _ (by rintro ⟨_, ⟨_, _⟩⟩ ⟨_, ⟨_, _⟩⟩ h; simp at h; simp_all) (l, (c8.mk x0 x1))
theorem b0c : OkC Tryz.prog 192 a3L := f8 _
def a1i : ACode := q' ([o' 2 (.box 2 (.t 0)), o' 3 (.box 4 (.t 1)), b' 4 false]) (q' ([f' 7 3 3, l' 8 7, m' 5 8]) (.seq (q' ([f' 9 0 3, l' 10 9, o' 11 (.bin .neq (.t 10) (k' 1)),
 m' 12 11, ⟨some 13, .fa 1 (.t 3), some (12, false)⟩, ⟨some 14, .fa 0 (.t 13), some (12, false)⟩, ⟨some 15, .ld false 1 (.t 14), some (12, false)⟩, ⟨some 16,
 .bin .eql (.t 15) (.k (.v false [.c (.s [102, 111, 114, 119, 97, 114, 100])])), some (12, false)⟩, o' 17 (.pick (.t 12) (.k (.v false [.c (.b true)])) (.t
 16))]) (.cond (.t 17) (.seq (q' ([m' 18 5, n' 19 18, o' 20 (.bin .eql (.t 19) (k' 0)), m' 21 20, ⟨some 22, .mov (.t 5), some (21, false)⟩, ⟨some 23, .ia 10
 (.t 22) (k' 0), some (21, false)⟩, ⟨some 24, .fa 0 (.t 23), some (21, false)⟩, ⟨some 25, .ld false 1 (.t 24), some (21, false)⟩, ⟨some 26, .bin .neq (.t 25)
 (k' 1), some (21, false)⟩, o' 27 (.pick (.t 21) (.k (.v false [.c (.b true)])) (.t 26))]) (.cond (.t 27) (q' ([b' 4 false]) .ret) .skip)) (q' ([m' 28 5, o' 29
 (.ia 10 (.t 28) (k' 0)), f' 30 1 29, f' 31 0 30, l' 32 31, m' 6 32]) (.seq (q' ([m' 33 6, o' 34 (.bin .neq (.t 33) (.k (.v false [.c (.s [112, 97, 99, 107,
 101, 116])]))), m' 35 34, ⟨some 36, .fa 0 (.t 3), some (35, true)⟩, ⟨some 37, .ld false 1 (.t 36), some (35, true)⟩, ⟨some 38, .bin .eql (.t 37) (k' 1), some
 (35, true)⟩, ⟨some 39, .mov (.t 38), some (35, true)⟩, ⟨some 40, .ld true 2 (.t 2), some (39, false)⟩, ⟨some 41, .mov (.t 6), some (39, false)⟩, ⟨some 42,
 .call 342 [.t 40, .t 41], some (39, false)⟩, ⟨some 43, .not (.t 42), some (39, false)⟩, ⟨some 44, .pick (.t 39) (.k (.v false [.c (.b true)])) (.t 43), some
 (35, true)⟩, o' 45 (.pick (.t 35) (.t 44) (.k (.v false [.c (.b false)])))]) (.cond (.t 45) (q' ([b' 4 false]) .ret) .skip)) (g' [m' 46 5, o' 47 (.slc 10 (.t
 46) (some (k' 1)) none none), m' 5 47])))) .skip)) (q' ([m' 48 5, o' 49 (.mf 343 [.t 2]), c' 50 192 [48, 49], o' 51 (.not (.t 50)), m' 4 51]) .ret)))
theorem a6t : cmp Tryz.prog Tryz.f303 = some a1i := by kernel_rfl
theorem a7u (p : c8) (r : c6) : A0l Tryz.prog 303 [(true, [.sl false [.i .i64 0, .s [], .i .i64 0] (p.Decls.map c7.cells), .sl false [.i .i64 0, .s [], .sl false [.s [], .i .i64 0, .s []] [], .sl false [.i .i64 0, .s [], .sl false [.s [], .i .i64 0, .s []] [], .i .i64 0, .s [], .i .i64 0, .s [], .s [], .i .i64 0, .s []] []] (p.Rules.map (c6.cells false false))]), (true, [.i .i64 r.Kind, .s r.Head.Name, .sl false [.s [], .i .i64 0, .s []] (r.Head.Args.map c4.cells), .sl false [.i .i64 0, .s [], .sl false [.s [], .i .i64 0, .s []] [], .i .i64 0, .s [], .i .i64 0, .s [], .s [], .i .i64 0, .s []] (r.Body.map (c9.cells false false))])] [] (.one (false, [.b (a9x p r)])) := by
 refine spec_of2 false false none Tryz.func303 a6t (rvs := [.t 4]) (hΓ := mkCtx_ok (deep := false) (l := [(342, [], y6), (192, [], a3L)]) ⟨a2v, b0c, trivial⟩) (h := ?_)
 intro hb hE
 simp only [go_sem] at hb
 simp only [a1i, x']
 (try refine A2V ?_); simp only [go_sem]; (repeat' first | apply CJ.mk | intro hc); all_goals try ((repeat' first | apply And.intro | intro hs) <;> (try simp only [go_sem, Bool.and_eq_false_iff] at hs) <;> omega)
 all_goals (try simp only [l8] at *)
 all_goals (clear hb)
 all_goals (first | (simp at hc; omega) | grind [a9x, b5u, pkB, fwB, movB] | trace_state)
noncomputable def v9 : CT := i6 (fun (x : c8 × c6) => a7u x.1 x.2)
@[go_sem] theorem b4K (x0 : List c7) (x1 : List c6) (x2 : Int) (x3 : List UInt8) (x4 : List c4) (x5 : List c9) : v9 [(true, [.sl false [.i .i64 0, .s [], .i .i64 0] (x0.map c7.cells), .sl false [.i .i64 0, .s [], .sl false [.s [], .i .i64 0, .s []] [], .sl false [.i .i64 0, .s [], .sl false [.s [], .i .i64 0, .s []] [], .i .i64 0, .s [], .i .i64 0, .s [], .s [], .i .i64 0, .s []] []] (x1.map (c6.cells false false))]), (true, [.i .i64 x2, .s x3, .sl false [.s [], .i .i64 0, .s []] (x4.map c4.cells), .sl false [.i .i64 0, .s [], .sl false [.s [], .i .i64 0, .s []] [], .i .i64 0, .s [], .i .i64 0, .s [], .s [], .i .i64 0, .s []] (x5.map (c9.cells false false))])] = some (True, [], .one (false, [.b (a9x (c8.mk x0 x1) (c6.mk x2 (d4.mk x3 x4) x5))])) := f7 _ (by rintro ⟨⟨_, _⟩, ⟨_, ⟨_, _⟩, _⟩⟩ ⟨⟨_, _⟩, ⟨_, ⟨_, _⟩, _⟩⟩ h; simp at h; simp_all) ((c8.mk x0 x1), (c6.mk x2 (d4.mk x3 x4) x5))
theorem a4M : OkC Tryz.prog 303 v9 := f8 _
def a1t : ACode := q' ([o' 2 (.box 2 (.t 0)), b' 3 false]) (q' ([e' 4 2 1, f' 5 0 2, l' 6 5, c' 7 163 [4, 6], o' 8 (.bin .lss (.t 7) (k' 0)), m' 3 8]) .ret)
theorem a7j : cmp Tryz.prog Tryz.f300 = some a1t := by kernel_rfl
theorem a8u (a : d4) (p : c8) : A0l Tryz.prog 300 [(true, [.s a.Name, .sl false [.s [], .i .i64 0, .s []] (a.Args.map c4.cells)]), (false, [.p [.sl false [.i .i64 0, .s [], .i .i64 0] (p.Decls.map c7.cells), .sl false [.i .i64 0, .s [], .sl false [.s [], .i .i64 0, .s []] [], .sl false [.i .i64 0, .s [], .sl false [.s [], .i .i64 0, .s []] [], .i .i64 0, .s [], .i .i64 0, .s [], .s [], .i .i64 0, .s []] []] (p.Rules.map (c6.cells false false))]])] [] (.one (false, [.b (a1C p a)])) := by
 refine spec_of2 false false none Tryz.func300 a7j (rvs := [.t 3]) (hΓ := mkCtx_ok (deep := false) (l := [(163, [], y4)]) ⟨a2t, trivial⟩) (h := ?_)
 intro hb hE
 simp only [go_sem] at hb
 simp only [a1t, x']
 (try refine A2V ?_); simp only [go_sem]; (repeat' first | apply CJ.mk | intro hc); all_goals try ((repeat' first | apply And.intro | intro hs) <;> (try simp only [go_sem, Bool.and_eq_false_iff] at hs) <;> omega)
 all_goals (first | rfl | trace_state)
noncomputable def y8 : CT := i6 (fun (x : d4 × c8) => a8u x.1 x.2)
@[go_sem] theorem b5g (x0 : List UInt8) (x1 : List c4) (x2 : List c7) (x3 : List c6) : y8 [(true, [.s x0, .sl false [.s [], .i .i64 0, .s []] (x1.map c4.cells)]), (false, [.p [.sl false [.i .i64 0, .s [], .i .i64 0] (x2.map c7.cells), .sl false [.i .i64 0, .s [], .sl false [.s [], .i .i64 0, .s []] [], .sl false [.i .i64 0, .s [], .sl false [.s [], .i .i64 0, .s []] [], .i .i64 0, .s [], .i .i64 0, .s [], .s [], .i .i64 0, .s []] []] (x3.map (c6.cells false false))]])] = some (True, [], .one (false, [.b (a1C (c8.mk x2 x3) (d4.mk x0 x1))])) := f7 _ (by rintro ⟨⟨_, _⟩, ⟨_, _⟩⟩ ⟨⟨_, _⟩, ⟨_, _⟩⟩ h; simp at h; simp_all) ((d4.mk x0 x1), (c8.mk x2 x3))
theorem a5K : OkC Tryz.prog 300 y8 := f8 _
def a1u : ACode := q' ([o' 2 (.box 2 (.t 0)), b' 3 false]) (.seq (.reg true [e' 4 2 1, f' 5 0 2, l' 6 5, c' 7 163 [4, 6], f' 8 1 2, l' 9 8, n' 10 9, o' 11 (.bin .neq (.t 7) (.t
 10)), m' 3 11]) .ret)
theorem a7k : cmp Tryz.prog Tryz.f301 = some a1u := by kernel_rfl
theorem a8v (a : d4) (p : c8) : A0l Tryz.prog 301 [(true, [.s a.Name, .sl false [.s [], .i .i64 0, .s []] (a.Args.map c4.cells)]), (false, [.p [.sl false [.i .i64 0, .s [], .i .i64 0] (p.Decls.map c7.cells), .sl false [.i .i64 0, .s [], .sl false [.s [], .i .i64 0, .s []] [], .sl false [.i .i64 0, .s [], .sl false [.s [], .i .i64 0, .s []] [], .i .i64 0, .s [], .i .i64 0, .s [], .s [], .i .i64 0, .s []] []] (p.Rules.map (c6.cells false false))]])] [] (.one (false, [.b (a1D p a)])) := by
 refine spec_of2 false false none Tryz.func301 a7k (rvs := [.t 3]) (hΓ := mkCtx_ok (deep := false) (l := [(163, [], y4)]) ⟨a2t, trivial⟩) (h := ?_)
 intro hb hE
 simp only [go_sem] at hb
 simp only [a1u, x']
 (try refine A2V ?_); simp only [go_sem]; (repeat' first | apply CJ.mk | intro hc); all_goals try ((repeat' first | apply And.intro | intro hs) <;> (try simp only [go_sem, Bool.and_eq_false_iff] at hs) <;> omega)
 all_goals (first | rfl | trace_state)
noncomputable def y9 : CT := i6 (fun (x : d4 × c8) => a8v x.1 x.2)
@[go_sem] theorem b5h (x0 : List UInt8) (x1 : List c4) (x2 : List c7) (x3 : List c6) : y9 [(true, [.s x0, .sl false [.s [], .i .i64 0, .s []] (x1.map c4.cells)]), (false, [.p [.sl false [.i .i64 0, .s [], .i .i64 0] (x2.map c7.cells), .sl false [.i .i64 0, .s [], .sl false [.s [], .i .i64 0, .s []] [], .sl false [.i .i64 0, .s [], .sl false [.s [], .i .i64 0, .s []] [], .i .i64 0, .s [], .i .i64 0, .s [], .s [], .i .i64 0, .s []] []] (x3.map (c6.cells false false))]])] = some (True, [], .one (false, [.b (a1D (c8.mk x2 x3) (d4.mk x0 x1))])) := f7 _ (by rintro ⟨⟨_, _⟩, ⟨_, _⟩⟩ ⟨⟨_, _⟩, ⟨_, _⟩⟩ h; simp at h; simp_all) ((d4.mk x0 x1), (c8.mk x2 x3))
theorem a5L : OkC Tryz.prog 301 y9 := f8 _
def a1v : ACode := q' ([o' 1 (.box 2 (.t 0)), b' 2 false]) (q' ([f' 3 0 1, l' 4 3, o' 5 (.bin .eql (.t 4) (.k (.v false [.c (.s [102, 111, 114, 119, 97, 114, 100])]))), m' 2 5])
 .ret)
theorem a7l : cmp Tryz.prog Tryz.f302 = some a1v := by kernel_rfl
theorem a8w (a : d4) : A0l Tryz.prog 302 [(true, [.s a.Name, .sl false [.s [], .i .i64 0, .s []] (a.Args.map c4.cells)])] [] (.one (false, [.b (a7s a)])) := by
 refine spec_of2 false false none Tryz.func302 a7l (rvs := [.t 2]) (hΓ := mkCtx_ok (deep := false) (l := []) trivial) (h := ?_)
 intro hb hE
 simp only [go_sem] at hb
 simp only [a1v, x']
 (try refine A2V ?_); simp only [go_sem]; (repeat' first | apply CJ.mk | intro hc); all_goals try ((repeat' first | apply And.intro | intro hs) <;> (try simp only [go_sem, Bool.and_eq_false_iff] at hs) <;> omega)
 all_goals (first | rfl | trace_state)
noncomputable def z0 : CT := i6 (fun (x : d4) => a8w x)
@[go_sem] theorem b5i (x0 : List UInt8) (x1 : List c4) : z0 [(true, [.s x0, .sl false [.s [], .i .i64 0, .s []] (x1.map c4.cells)])] = some (True, [], .one (false, [.b (a7s (d4.mk x0 x1))])) := f7 _ (by rintro ⟨_, _⟩ ⟨_, _⟩ h; simp at h; simp_all) (d4.mk x0 x1)
theorem a5M : OkC Tryz.prog 302 z0 := f8 _
def a3I : ACode := q' ([z' 4 0]) (.seq (q' ([m' 6 0, n' 7 6, z' 8 0]) (.block 0 (.loop (q' ([r' 9 8 7]) (.seq (.cond (.t 9) .skip (.exit 0)) (.seq (.block 1 (q' ([m' 10 8, m' 5
 10]) (q' ([m' 11 1, m' 12 0, m' 13 5, i' 14 2 12 13, e' 15 2 14, o' 16 (.callv (.t 11) [.t 15])]) (.cond (.t 16) (q' ([m' 17 5, m' 4 17]) .ret) .skip)))) (g'
 [a' 18 8, m' 8 18]))))))) (q' ([o' 4 (.mov (.k (.v false [.c (.i .i64 (-1))])))]) .ret))
theorem a7f : cmp Tryz.prog Tryz.f341 = some a3I := by kernel_rfl
theorem b5z (l : List d4) (p : c8) : A0l Tryz.prog 341 [(false, [.sl false [.s [], .sl false [.s [], .i .i64 0, .s []] []] (l.map (d4.cells false false))]), (false, [.f 300 [.p [.sl false [.i .i64 0, .s [], .i .i64 0] (p.Decls.map c7.cells), .sl false [.i .i64 0, .s [], .sl false [.s [], .i .i64 0, .s []] [], .sl false [.i .i64 0, .s [], .sl false [.s [], .i .i64 0, .s []] [], .i .i64 0, .s [], .i .i64 0, .s [], .s [], .i .i64 0, .s []] []] (p.Rules.map (c6.cells false false))]]])] [] (.one (false, [.i .i64 (a0P (fun y => a1C p y) l)])) := by
 refine spec_of2 false false none Tryz.func341 a7f (rvs := [.t 4]) (hΓ := mkCtx_ok (deep := false) (l := [(300, [], y8)]) ⟨a5K, trivial⟩) (h := ?_)
 intro hb hE
 simp only [go_sem] at hb
 simp only [a3I, x']
 (try refine A2V ?_); simp only [go_sem]; (repeat' first | apply CJ.mk | intro hc); all_goals try ((repeat' first | apply And.intro | intro hs) <;> (try simp only [go_sem, Bool.and_eq_false_iff] at hs) <;> omega)
 refine aw_loop2 false [] [0, 1, 7] [] [] (fun i : {i : Nat // i ≤ l.length ∧ (l.take i).any (fun y => a1C p y) = false} => [(8, slV (.i .i64 i.1))]) (fun i => []) (fun i => []) (fun i => l.length - i.1) (⟨0, by simp⟩) _ rfl ?_ ?_
 ·simp only [go_sem]
  all_goals first | omega | ((repeat' apply And.intro) <;> first | omega | rfl | skip)
 intro S0 hS0 i
 simp only [go_sem] at hS0
 obtain ⟨i, hi, ha⟩ := i
 (try refine A2V ?_); simp only [go_sem, hS0]; (repeat' first | apply CJ.mk | intro hc); all_goals try ((repeat' first | apply And.intro | intro hs) <;> (try simp only [go_sem, Bool.and_eq_false_iff] at hs) <;> omega)
 ·exact (s8 (p := fun y => a1C p y) (d := default) (by omega) ha (by simpa [-List.getD_eq_getElem?_getD] using hc)).symm
 ·(refine lpK_n2 (⟨i + 1, by omega, m8 (p := fun y => a1C p y) default (by omega) ha (by simpa [-List.getD_eq_getElem?_getD] using hc)⟩) _ rfl ?_; simp only [go_sem, hS0]; first | done | ((repeat' apply And.intro) <;> first | omega | (refine w64 ?_ ?_ ?_ <;> omega) | rfl | skip))
 ·exact (o9 (by rwa [k6 (by omega)] at ha)).symm
 all_goals trace_state
noncomputable def a5E : CT := i6 (fun (x : (List d4) × c8) => b5z x.1 x.2)
@[go_sem] theorem b9R (l : List d4) (x0 : List c7) (x1 : List c6) : a5E [(false, [.sl false [.s [], .sl false [.s [], .i .i64 0, .s []] []] (l.map (d4.cells false false))]), (false, [.f 300 [.p [.sl false [.i .i64 0, .s [], .i .i64 0] (x0.map c7.cells), .sl false [.i .i64 0, .s [], .sl false [.s [], .i .i64 0, .s []] [], .sl false [.i .i64 0, .s [], .sl false [.s [], .i .i64 0, .s []] [], .i .i64 0, .s [], .i .i64 0, .s [], .s [], .i .i64 0, .s []] []] (x1.map (c6.cells false false))]]])] = some (True, [], .one (false, [.i .i64 (a0P (fun y => a1C (c8.mk x0 x1) y) l)])) := f7 _ (by rintro ⟨_, ⟨_, _⟩⟩ ⟨_, ⟨_, _⟩⟩ h; simp at h; simp_all) (l, (c8.mk x0 x1))
theorem b1v : OkC Tryz.prog 341 a5E := f8 _
def a3H : ACode := q' ([b' 4 false]) (q' ([m' 5 0, m' 6 1, c' 7 341 [5, 6], o' 8 (.bin .geq (.t 7) (k' 0)), m' 4 8]) .ret)
theorem a7e : cmp Tryz.prog Tryz.f299 = some a3H := by kernel_rfl
theorem b5w (l : List d4) (p : c8) : A0l Tryz.prog 299 [(false, [.sl false [.s [], .sl false [.s [], .i .i64 0, .s []] []] (l.map (d4.cells false false))]), (false, [.f 300 [.p [.sl false [.i .i64 0, .s [], .i .i64 0] (p.Decls.map c7.cells), .sl false [.i .i64 0, .s [], .sl false [.s [], .i .i64 0, .s []] [], .sl false [.i .i64 0, .s [], .sl false [.s [], .i .i64 0, .s []] [], .i .i64 0, .s [], .i .i64 0, .s [], .s [], .i .i64 0, .s []] []] (p.Rules.map (c6.cells false false))]]])] [] (.one (false, [.b (l.any (fun y => a1C p y))])) := by
 refine spec_of2 false false none Tryz.func299 a7e (rvs := [.t 4]) (hΓ := mkCtx_ok (deep := false) (l := [(341, [], a5E)]) ⟨b1v, trivial⟩) (h := ?_)
 intro hb hE
 simp only [go_sem] at hb
 simp only [a3H, x']
 (try refine A2V ?_); simp only [go_sem]; (repeat' first | apply CJ.mk | intro hc); all_goals try ((repeat' first | apply And.intro | intro hs) <;> (try simp only [go_sem, Bool.and_eq_false_iff] at hs) <;> omega)
 ·exact a0Q _ _
noncomputable def a5B : CT := i6 (fun (x : (List d4) × c8) => b5w x.1 x.2)
@[go_sem] theorem b1o (l : List d4) (x0 : List c7) (x1 : List c6) : a5B [(false, [.sl false [.s [], .sl false [.s [], .i .i64 0, .s []] []] (l.map (d4.cells false false))]), (false, [.f 300 [.p [.sl false [.i .i64 0, .s [], .i .i64 0] (x0.map c7.cells), .sl false [.i .i64 0, .s [], .sl false [.s [], .i .i64 0, .s []] [], .sl false [.i .i64 0, .s [], .sl false [.s [], .i .i64 0, .s []] [], .i .i64 0, .s [], .i .i64 0, .s [], .s [], .i .i64 0, .s []] []] (x1.map (c6.cells false false))]]])] = some (True, [], .one (false, [.b (l.any (fun y => a1C (c8.mk x0 x1) y))])) := f7 _ (by rintro ⟨_, ⟨_, _⟩⟩ ⟨_, ⟨_, _⟩⟩ h; simp at h; simp_all) (l, (c8.mk x0 x1))
theorem b1p : OkC Tryz.prog 299 a5B := f8 _
theorem b5A (l : List d4) (p : c8) : A0l Tryz.prog 341 [(false, [.sl false [.s [], .sl false [.s [], .i .i64 0, .s []] []] (l.map (d4.cells false false))]), (false, [.f 301 [.p [.sl false [.i .i64 0, .s [], .i .i64 0] (p.Decls.map c7.cells), .sl false [.i .i64 0, .s [], .sl false [.s [], .i .i64 0, .s []] [], .sl false [.i .i64 0, .s [], .sl false [.s [], .i .i64 0, .s []] [], .i .i64 0, .s [], .i .i64 0, .s [], .s [], .i .i64 0, .s []] []] (p.Rules.map (c6.cells false false))]]])] [] (.one (false, [.i .i64 (a0P (fun y => a1D p y) l)])) := by
 refine spec_of2 false false none Tryz.func341 a7f (rvs := [.t 4]) (hΓ := mkCtx_ok (deep := false) (l := [(301, [], y9)]) ⟨a5L, trivial⟩) (h := ?_)
 intro hb hE
 simp only [go_sem] at hb
 simp only [a3I, x']
 (try refine A2V ?_); simp only [go_sem]; (repeat' first | apply CJ.mk | intro hc); all_goals try ((repeat' first | apply And.intro | intro hs) <;> (try simp only [go_sem, Bool.and_eq_false_iff] at hs) <;> omega)
 refine aw_loop2 false [] [0, 1, 7] [] [] (fun i : {i : Nat // i ≤ l.length ∧ (l.take i).any (fun y => a1D p y) = false} => [(8, slV (.i .i64 i.1))]) (fun i => []) (fun i => []) (fun i => l.length - i.1) (⟨0, by simp⟩) _ rfl ?_ ?_
 ·simp only [go_sem]
  all_goals first | omega | ((repeat' apply And.intro) <;> first | omega | rfl | skip)
 intro S0 hS0 i
 simp only [go_sem] at hS0
 obtain ⟨i, hi, ha⟩ := i
 (try refine A2V ?_); simp only [go_sem, hS0]; (repeat' first | apply CJ.mk | intro hc); all_goals try ((repeat' first | apply And.intro | intro hs) <;> (try simp only [go_sem, Bool.and_eq_false_iff] at hs) <;> omega)
 ·exact (s8 (p := fun y => a1D p y) (d := default) (by omega) ha (by simpa [-List.getD_eq_getElem?_getD] using hc)).symm
 ·(refine lpK_n2 (⟨i + 1, by omega, m8 (p := fun y => a1D p y) default (by omega) ha (by simpa [-List.getD_eq_getElem?_getD] using hc)⟩) _ rfl ?_; simp only [go_sem, hS0]; first | done | ((repeat' apply And.intro) <;> first | omega | (refine w64 ?_ ?_ ?_ <;> omega) | rfl | skip))
 ·exact (o9 (by rwa [k6 (by omega)] at ha)).symm
 all_goals trace_state
noncomputable def a5F : CT := i6 (fun (x : (List d4) × c8) => b5A x.1 x.2)
@[go_sem] theorem b9S (l : List d4) (x0 : List c7) (x1 : List c6) : a5F [(false, [.sl false [.s [], .sl false [.s [], .i .i64 0, .s []] []] (l.map (d4.cells false false))]), (false, [.f 301 [.p [.sl false [.i .i64 0, .s [], .i .i64 0] (x0.map c7.cells), .sl false [.i .i64 0, .s [], .sl false [.s [], .i .i64 0, .s []] [], .sl false [.i .i64 0, .s [], .sl false [.s [], .i .i64 0, .s []] [], .i .i64 0, .s [], .i .i64 0, .s [], .s [], .i .i64 0, .s []] []] (x1.map (c6.cells false false))]]])] = some (True, [], .one (false, [.i .i64 (a0P (fun y => a1D (c8.mk x0 x1) y) l)])) := f7 _ (by rintro ⟨_, ⟨_, _⟩⟩ ⟨_, ⟨_, _⟩⟩ h; simp at h; simp_all) (l, (c8.mk x0 x1))
theorem b1w : OkC Tryz.prog 341 a5F := f8 _
theorem b5x (l : List d4) (p : c8) : A0l Tryz.prog 299 [(false, [.sl false [.s [], .sl false [.s [], .i .i64 0, .s []] []] (l.map (d4.cells false false))]), (false, [.f 301 [.p [.sl false [.i .i64 0, .s [], .i .i64 0] (p.Decls.map c7.cells), .sl false [.i .i64 0, .s [], .sl false [.s [], .i .i64 0, .s []] [], .sl false [.i .i64 0, .s [], .sl false [.s [], .i .i64 0, .s []] [], .i .i64 0, .s [], .i .i64 0, .s [], .s [], .i .i64 0, .s []] []] (p.Rules.map (c6.cells false false))]]])] [] (.one (false, [.b (l.any (fun y => a1D p y))])) := by
 refine spec_of2 false false none Tryz.func299 a7e (rvs := [.t 4]) (hΓ := mkCtx_ok (deep := false) (l := [(341, [], a5F)]) ⟨b1w, trivial⟩) (h := ?_)
 intro hb hE
 simp only [go_sem] at hb
 simp only [a3H, x']
 (try refine A2V ?_); simp only [go_sem]; (repeat' first | apply CJ.mk | intro hc); all_goals try ((repeat' first | apply And.intro | intro hs) <;> (try simp only [go_sem, Bool.and_eq_false_iff] at hs) <;> omega)
 ·exact a0Q _ _
noncomputable def a5C : CT := i6 (fun (x : (List d4) × c8) => b5x x.1 x.2)
@[go_sem] theorem b1q (l : List d4) (x0 : List c7) (x1 : List c6) : a5C [(false, [.sl false [.s [], .sl false [.s [], .i .i64 0, .s []] []] (l.map (d4.cells false false))]), (false, [.f 301 [.p [.sl false [.i .i64 0, .s [], .i .i64 0] (x0.map c7.cells), .sl false [.i .i64 0, .s [], .sl false [.s [], .i .i64 0, .s []] [], .sl false [.i .i64 0, .s [], .sl false [.s [], .i .i64 0, .s []] [], .i .i64 0, .s [], .i .i64 0, .s [], .s [], .i .i64 0, .s []] []] (x1.map (c6.cells false false))]]])] = some (True, [], .one (false, [.b (l.any (fun y => a1D (c8.mk x0 x1) y))])) := f7 _ (by rintro ⟨_, ⟨_, _⟩⟩ ⟨_, ⟨_, _⟩⟩ h; simp at h; simp_all) (l, (c8.mk x0 x1))
theorem b1r : OkC Tryz.prog 299 a5C := f8 _
theorem b5B (l : List d4) : A0l Tryz.prog 341 [(false, [.sl false [.s [], .sl false [.s [], .i .i64 0, .s []] []] (l.map (d4.cells false false))]), (false, [.f 302 []])] [] (.one (false, [.i .i64 (a0P (fun y => a7s y) l)])) := by
 refine spec_of2 false false none Tryz.func341 a7f (rvs := [.t 4]) (hΓ := mkCtx_ok (deep := false) (l := [(302, [], z0)]) ⟨a5M, trivial⟩) (h := ?_)
 intro hb hE
 simp only [go_sem] at hb
 simp only [a3I, x']
 (try refine A2V ?_); simp only [go_sem]; (repeat' first | apply CJ.mk | intro hc); all_goals try ((repeat' first | apply And.intro | intro hs) <;> (try simp only [go_sem, Bool.and_eq_false_iff] at hs) <;> omega)
 refine aw_loop2 false [] [0, 1, 7] [] [] (fun i : {i : Nat // i ≤ l.length ∧ (l.take i).any (fun y => a7s y) = false} => [(8, slV (.i .i64 i.1))]) (fun i => []) (fun i => []) (fun i => l.length - i.1) (⟨0, by simp⟩) _ rfl ?_ ?_
 ·simp only [go_sem]
  all_goals first | omega | ((repeat' apply And.intro) <;> first | omega | rfl | skip)
 intro S0 hS0 i
 simp only [go_sem] at hS0
 obtain ⟨i, hi, ha⟩ := i
 (try refine A2V ?_); simp only [go_sem, hS0]; (repeat' first | apply CJ.mk | intro hc); all_goals try ((repeat' first | apply And.intro | intro hs) <;> (try simp only [go_sem, Bool.and_eq_false_iff] at hs) <;> omega)
 ·exact (s8 (p := fun y => a7s y) (d := default) (by omega) ha (by simpa [-List.getD_eq_getElem?_getD] using hc)).symm
 ·(refine lpK_n2 (⟨i + 1, by omega, m8 (p := fun y => a7s y) default (by omega) ha (by simpa [-List.getD_eq_getElem?_getD] using hc)⟩) _ rfl ?_; simp only [go_sem, hS0]; first | done | ((repeat' apply And.intro) <;> first | omega | (refine w64 ?_ ?_ ?_ <;> omega) | rfl | skip))
 ·exact (o9 (by rwa [k6 (by omega)] at ha)).symm
 all_goals trace_state
noncomputable def a5G : CT := i6 (fun (x : (List d4)) => b5B x)
@[go_sem] theorem b9T (l : List d4) : a5G [(false, [.sl false [.s [], .sl false [.s [], .i .i64 0, .s []] []] (l.map (d4.cells false false))]), (false, [.f 302 []])] = some (True, [], .one (false, [.i .i64 (a0P (fun y => a7s y) l)])) := f7 _ (by intro x y h; simp at h; simp_all) l
theorem b1x : OkC Tryz.prog 341 a5G := f8 _
theorem b5y (l : List d4) : A0l Tryz.prog 299 [(false, [.sl false [.s [], .sl false [.s [], .i .i64 0, .s []] []] (l.map (d4.cells false false))]), (false, [.f 302 []])] [] (.one (false, [.b (l.any (fun y => a7s y))])) := by
 refine spec_of2 false false none Tryz.func299 a7e (rvs := [.t 4]) (hΓ := mkCtx_ok (deep := false) (l := [(341, [], a5G)]) ⟨b1x, trivial⟩) (h := ?_)
 intro hb hE
 simp only [go_sem] at hb
 simp only [a3H, x']
 (try refine A2V ?_); simp only [go_sem]; (repeat' first | apply CJ.mk | intro hc); all_goals try ((repeat' first | apply And.intro | intro hs) <;> (try simp only [go_sem, Bool.and_eq_false_iff] at hs) <;> omega)
 ·exact a0Q _ _
noncomputable def a5D : CT := i6 (fun (x : (List d4)) => b5y x)
@[go_sem] theorem b1s (l : List d4) : a5D [(false, [.sl false [.s [], .sl false [.s [], .i .i64 0, .s []] []] (l.map (d4.cells false false))]), (false, [.f 302 []])] = some (True, [], .one (false, [.b (l.any (fun y => a7s y))])) := f7 _ (by intro x y h; simp at h; simp_all) l
theorem b1t : OkC Tryz.prog 299 a5D := f8 _
noncomputable def n9 : CT := (ctO a5B (ctO a5C a5D))
@[go_sem] theorem b4L (l : List d4) (x0 : List c7) (x1 : List c6) : n9 [(false, [.sl false [.s [], .sl false [.s [], .i .i64 0, .s []] []] (l.map (d4.cells false false))]), (false, [.f 300 [.p [.sl false [.i .i64 0, .s [], .i .i64 0] (x0.map c7.cells), .sl false [.i .i64 0, .s [], .sl false [.s [], .i .i64 0, .s []] [], .sl false [.i .i64 0, .s [], .sl false [.s [], .i .i64 0, .s []] [], .i .i64 0, .s [], .i .i64 0, .s [], .s [], .i .i64 0, .s []] []] (x1.map (c6.cells false false))]]])] = some (True, [], .one (false, [.b (l.any (fun y => a1C (c8.mk x0 x1) y))])) := b5q (b1o l x0 x1)
@[go_sem] theorem b4M (l : List d4) (x0 : List c7) (x1 : List c6) : n9 [(false, [.sl false [.s [], .sl false [.s [], .i .i64 0, .s []] []] (l.map (d4.cells false false))]), (false, [.f 301 [.p [.sl false [.i .i64 0, .s [], .i .i64 0] (x0.map c7.cells), .sl false [.i .i64 0, .s [], .sl false [.s [], .i .i64 0, .s []] [], .sl false [.i .i64 0, .s [], .sl false [.s [], .i .i64 0, .s []] [], .i .i64 0, .s [], .i .i64 0, .s [], .s [], .i .i64 0, .s []] []] (x1.map (c6.cells false false))]]])] = some (True, [], .one (false, [.b (l.any (fun y => a1D (c8.mk x0 x1) y))])) := (b1A (a9f (fun x h => by simp only [List.cons.injEq, Prod.mk.injEq, C.i.injEq, C.s.injEq, C.b.injEq, C.sl.injEq, C.p.injEq, C.mp.injEq, C.f.injEq, reduceCtorEq, Bool.false_eq_true, Nat.reduceEqDiff, Bool.true_eq_false, true_and, and_true, false_and, and_false] at h))).trans (b5q (b1q l x0 x1))
@[go_sem] theorem b4N (l : List d4) : n9 [(false, [.sl false [.s [], .sl false [.s [], .i .i64 0, .s []] []] (l.map (d4.cells false false))]), (false, [.f 302 []])] = some (True, [], .one (false, [.b (l.any (fun y => a7s y))])) := (b1A (a9f (fun x h => by simp only [List.cons.injEq, Prod.mk.injEq, C.i.injEq, C.s.injEq, C.b.injEq, C.sl.injEq, C.p.injEq, C.mp.injEq, C.f.injEq, reduceCtorEq, Bool.false_eq_true, Nat.reduceEqDiff, Bool.true_eq_false, true_and, and_true, false_and, and_false] at h))).trans ((b1A (a9f (fun x h => by simp only [List.cons.injEq, Prod.mk.injEq, C.i.injEq, C.s.injEq, C.b.injEq, C.sl.injEq, C.p.injEq, C.mp.injEq, C.f.injEq, reduceCtorEq, Bool.false_eq_true, Nat.reduceEqDiff, Bool.true_eq_false, true_and, and_true, false_and, and_false] at h))).trans (b1s l))
theorem a4N : OkC Tryz.prog 299 n9 := (b9Y b1p (b9Y b1r b1t))
def a2Z : ACode := q' ([o' 2 (.box 2 (.t 0)), o' 3 (.box 4 (.t 1)), z' 4 0]) (q' ([e' 8 4 3, c' 9 168 [8], m' 5 9]) (.seq (q' ([m' 10 5, o' 11 (.mf 300 [.t 2]), c' 12 299 [10,
 11]]) (.cond (.t 12) (q' ([z' 4 3]) .ret) .skip)) (.seq (q' ([m' 13 5, o' 14 (.mf 301 [.t 2]), c' 15 299 [13, 14]]) (.cond (.t 15) (q' ([z' 4 4]) .ret)
 .skip)) (q' ([e' 16 2 2, f' 17 1 3, f' 18 0 17, l' 19 18, c' 20 82 [16, 19], m' 6 20]) (q' ([m' 21 6, o' 22 (.bin .eql (.t 21) (k' 3)), m' 23 22, ⟨some 24,
 .fa 1 (.t 3), some (23, false)⟩, ⟨some 25, .fa 0 (.t 24), some (23, false)⟩, ⟨some 26, .ld false 1 (.t 25), some (23, false)⟩, ⟨some 27, .bin .eql (.t 26) (.k
 (.v false [.c (.s [102, 111, 114, 119, 97, 114, 100])])), some (23, false)⟩, o' 28 (.pick (.t 23) (.k (.v false [.c (.b true)])) (.t 27)), m' 7 28]) (.seq
 (.block 0 (q' ([f' 30 0 3, l' 31 30, o' 32 (.bin .eql (.t 31) (k' 1)), m' 33 32, ⟨some 34, .mov (.t 7), some (33, true)⟩, ⟨some 35, .not (.t 34), some (33,
 true)⟩, o' 36 (.pick (.t 33) (.t 35) (.k (.v false [.c (.b false)]))), m' 37 36, ⟨some 38, .fa 0 (.t 3), some (37, false)⟩, ⟨some 39, .ld false 1 (.t 38),
 some (37, false)⟩, ⟨some 40, .bin .neq (.t 39) (k' 1), some (37, false)⟩, ⟨some 41, .mov (.t 40), some (37, false)⟩, ⟨some 42, .mov (.t 6), some (41, true)⟩,
 ⟨some 43, .bin .neq (.t 42) (k' 1), some (41, true)⟩, ⟨some 44, .pick (.t 41) (.t 43) (.k (.v false [.c (.b false)])), some (37, false)⟩, o' 45 (.pick (.t 37)
 (.k (.v false [.c (.b true)])) (.t 44)), m' 29 45]) (.cond (.t 29) (q' ([z' 4 5]) .ret) (q' ([m' 47 5, o' 48 (.slc 2 (.t 47) (some (k' 1)) none none), o' 49
 (.call 299 [.t 48, .k (.v false [.c (.f 302 [])])]), m' 46 49]) (.cond (.t 46) (q' ([z' 4 6]) .ret) (q' ([e' 51 2 2, e' 52 4 3, c' 53 303 [51, 52], o' 54
 (.not (.t 53)), m' 50 54]) (.cond (.t 50) (q' ([z' 4 7]) .ret) .skip))))))) (q' ([z' 4 0]) .ret)))))))
theorem a9k : cmp Tryz.prog Tryz.f220 = some a2Z := by kernel_rfl
theorem b0Q (p : c8) (r : c6) (hpre : r.Body.length ≤ 8) : A0l Tryz.prog 220 [(true, [.sl false [.i .i64 0, .s [], .i .i64 0] (p.Decls.map c7.cells), .sl false [.i .i64 0, .s [], .sl false [.s [], .i .i64 0, .s []] [], .sl false [.i .i64 0, .s [], .sl false [.s [], .i .i64 0, .s []] [], .i .i64 0, .s [], .i .i64 0, .s [], .s [], .i .i64 0, .s []] []] (p.Rules.map (c6.cells false false))]), (true, [.i .i64 r.Kind, .s r.Head.Name, .sl false [.s [], .i .i64 0, .s []] (r.Head.Args.map c4.cells), .sl false [.i .i64 0, .s [], .sl false [.s [], .i .i64 0, .s []] [], .i .i64 0, .s [], .i .i64 0, .s [], .s [], .i .i64 0, .s []] (r.Body.map (c9.cells false false))])] [] (.one (false, [.i .i64 (l6 p r)])) := by
 refine spec_of2 false false none Tryz.func220 a9k (rvs := [.t 4]) (hΓ := mkCtx_ok (deep := false) (l := [(168, [], a1H), (299, [], n9), (82, [], a0y), (303, [], v9)]) ⟨a7M, a4N, a3s, a4M, trivial⟩) (h := ?_)
 intro hb hE
 simp only [go_sem] at hb
 simp only [a2Z, x']
 (try refine A2V ?_); simp only [go_sem]; (repeat' first | apply CJ.mk | intro hc); all_goals try ((repeat' first | apply And.intro | intro hs) <;> (try simp only [go_sem, Bool.and_eq_false_iff] at hs) <;> omega)
 all_goals (try simp only [l8] at *)
 all_goals (clear hb)
 all_goals (first | (have := a9T r; omega) | grind [l6, a6c, fwB] | trace_state)
noncomputable def a0V : CT := o6 (fun (x : c8 × c6) h => b0Q x.1 x.2 h)
@[go_sem] theorem b6A (x0 : List c7) (x1 : List c6) (x2 : Int) (x3 : List UInt8) (x4 : List c4) (x5 : List c9) : a0V [(true, [.sl false [.i .i64 0, .s [], .i .i64 0] (x0.map c7.cells), .sl false [.i .i64 0, .s [], .sl false [.s [], .i .i64 0, .s []] [], .sl false [.i .i64 0, .s [], .sl false [.s [], .i .i64 0, .s []] [], .i .i64 0, .s [], .i .i64 0, .s [], .s [], .i .i64 0, .s []] []] (x1.map (c6.cells false false))]), (true, [.i .i64 x2, .s x3, .sl false [.s [], .i .i64 0, .s []] (x4.map c4.cells), .sl false [.i .i64 0, .s [], .sl false [.s [], .i .i64 0, .s []] [], .i .i64 0, .s [], .i .i64 0, .s [], .s [], .i .i64 0, .s []] (x5.map (c9.cells false false))])] = some ((c6.mk x2 (d4.mk x3 x4) x5).Body.length ≤ 8, [], .one (false, [.i .i64 (l6 (c8.mk x0 x1) (c6.mk x2 (d4.mk x3 x4) x5))])) := i3 _ (by rintro ⟨⟨_, _⟩, ⟨_, ⟨_, _⟩, _⟩⟩ ⟨⟨_, _⟩, ⟨_, ⟨_, _⟩, _⟩⟩ h; simp at h; simp_all) ((c8.mk x0 x1), (c6.mk x2 (d4.mk x3 x4) x5))
theorem a6S : OkC Tryz.prog 220 a0V := i4 _
theorem a7H {α : Type} {q : α → Bool} {l : List α} {i : Nat} (d : α) (h : i < l.length) (hp : q (l.getD i d) = true) : l.any q = true := by
 rw [List.any_eq_true]
 exact ⟨l.getD i d, by rw [a2A d h]; exact List.getElem_mem h, hp⟩
theorem b8p {α : Type} {q : α → Bool} {l : List α} {i k : Nat} (d : α) (hk : k ≤ i) (h : i < l.length) (ha : ((l.take i).drop k).any q = false) (hp : q (l.getD i d) = false) : ((l.take (i + 1)).drop k).any q = false := by
 rw [a4i d h, List.drop_append_of_le_length (by rw [List.length_take]; omega), List.any_append, ha]
 simp only [List.any_cons, List.any_nil, hp, Bool.or_false]
theorem b9J {α : Type} {q : α → Bool} {l : List α} {i k : Nat} (d : α) (hk : k ≤ i) (h : i < l.length) (hp : q (l.getD i d) = true) : (l.drop k).any q = true := by
 rw [List.any_eq_true]
 refine ⟨l.getD i d, ?_, hp⟩
 rw [a2A d h, List.mem_drop_iff_getElem]
 exact ⟨i - k, by omega, by congr 1; omega⟩
def a4H : ACode := q' ([o' 2 (.box 2 (.t 0)), o' 3 (.box 4 (.t 1)), z' 4 0]) (q' ([e' 15 4 3, c' 16 214 [15], m' 5 16]) (.seq (q' ([m' 17 5, n' 18 17, z' 19 0]) (.block 0 (.loop
 (q' ([r' 20 19 18]) (.seq (.cond (.t 20) .skip (.exit 0)) (.seq (.block 1 (q' ([i' 21 2 17 19, e' 22 2 21, w' 7 [.s, .sl [.s [], .i .i64 0, .s []]], s' 2 7
 22]) (q' ([e' 23 2 2, f' 24 0 7, l' 25 24, c' 26 215 [23, 25], o' 27 (.bin .lss (.t 26) (k' 0))]) (.cond (.t 27) (q' ([z' 4 3]) .ret) .skip)))) (g' [a' 28 19,
 m' 19 28]))))))) (.seq (q' ([m' 29 5, n' 30 29, z' 31 0]) (.block 2 (.loop (q' ([r' 32 31 30]) (.seq (.cond (.t 32) .skip (.exit 2)) (.seq (.block 3 (q' ([i'
 33 2 29 31, e' 34 2 33, w' 9 [.s, .sl [.s [], .i .i64 0, .s []]], s' 2 9 34]) (.seq (.reg true [e' 35 2 2, f' 36 0 9, l' 37 36, c' 38 215 [35, 37], f' 39 1 9,
 l' 40 39, n' 41 40, o' 42 (.bin .neq (.t 38) (.t 41))]) (.cond (.t 42) (q' ([z' 4 4]) .ret) .skip)))) (g' [a' 43 31, m' 31 43]))))))) (q' ([e' 44 2 2, f' 45 1
 3, f' 46 0 45, l' 47 46, c' 48 160 [44, 47], o' 49 (.fl false 0 1 (.t 48)), m' 10 49]) (.seq (q' ([f' 50 0 3, l' 51 50, o' 52 (.bin .eql (.t 51) (k' 1)), m'
 53 52, ⟨some 54, .mov (.t 10), some (53, true)⟩, ⟨some 55, .bin .neq (.t 54) (k' 3), some (53, true)⟩, o' 56 (.pick (.t 53) (.t 55) (.k (.v false [.c (.b
 false)]))), m' 57 56, ⟨some 58, .fa 1 (.t 3), some (57, true)⟩, ⟨some 59, .fa 0 (.t 58), some (57, true)⟩, ⟨some 60, .ld false 1 (.t 59), some (57, true)⟩,
 ⟨some 61, .bin .neq (.t 60) (.k (.v false [.c (.s [102, 111, 114, 119, 97, 114, 100])])), some (57, true)⟩, o' 62 (.pick (.t 57) (.t 61) (.k (.v false [.c (.b
 false)]))), m' 63 62, ⟨some 64, .fa 0 (.t 3), some (63, false)⟩, ⟨some 65, .ld false 1 (.t 64), some (63, false)⟩, ⟨some 66, .bin .neq (.t 65) (k' 1), some
 (63, false)⟩, ⟨some 67, .mov (.t 66), some (63, false)⟩, ⟨some 68, .mov (.t 10), some (67, true)⟩, ⟨some 69, .bin .neq (.t 68) (k' 1), some (67, true)⟩, ⟨some
 70, .pick (.t 67) (.t 69) (.k (.v false [.c (.b false)])), some (63, false)⟩, o' 71 (.pick (.t 63) (.k (.v false [.c (.b true)])) (.t 70))]) (.cond (.t 71)
 (q' ([z' 4 5]) .ret) .skip)) (.seq (q' ([m' 72 5, o' 73 (.slc 2 (.t 72) (some (k' 1)) none none), n' 74 73, z' 75 0]) (.block 4 (.loop (q' ([r' 76 75 74])
 (.seq (.cond (.t 76) .skip (.exit 4)) (.seq (.block 5 (q' ([i' 77 2 73 75, e' 78 2 77, w' 12 [.s, .sl [.s [], .i .i64 0, .s []]], s' 2 12 78]) (q' ([f' 79 0
 12, l' 80 79, o' 81 (.bin .eql (.t 80) (.k (.v false [.c (.s [102, 111, 114, 119, 97, 114, 100])])))]) (.cond (.t 81) (q' ([z' 4 6]) .ret) .skip)))) (g' [a'
 82 75, m' 75 82]))))))) (q' ([z' 13 0]) (.seq (q' ([f' 83 0 3, l' 84 83, o' 85 (.bin .neq (.t 84) (k' 1)), m' 86 85, ⟨some 87, .fa 1 (.t 3), some (86,
 false)⟩, ⟨some 88, .fa 0 (.t 87), some (86, false)⟩, ⟨some 89, .ld false 1 (.t 88), some (86, false)⟩, ⟨some 90, .bin .eql (.t 89) (.k (.v false [.c (.s [102,
 111, 114, 119, 97, 114, 100])])), some (86, false)⟩, o' 91 (.pick (.t 86) (.k (.v false [.c (.b true)])) (.t 90))]) (.cond (.t 91) (.seq (.seq (.reg true [f'
 92 3 3, l' 93 92, n' 94 93, o' 95 (.bin .eql (.t 94) (k' 0)), m' 96 95, ⟨some 97, .fa 3 (.t 3), some (96, false)⟩, ⟨some 98, .ld false 1 (.t 97), some (96,
 false)⟩, ⟨some 99, .ia 10 (.t 98) (k' 0), some (96, false)⟩, ⟨some 100, .fa 0 (.t 99), some (96, false)⟩, ⟨some 101, .ld false 1 (.t 100), some (96, false)⟩,
 ⟨some 102, .bin .neq (.t 101) (k' 1), some (96, false)⟩, o' 103 (.pick (.t 96) (.k (.v false [.c (.b true)])) (.t 102)), m' 104 103, ⟨some 105, .ld true 2 (.t
 2), some (104, false)⟩, ⟨some 106, .fa 3 (.t 3), some (104, false)⟩, ⟨some 107, .ld false 1 (.t 106), some (104, false)⟩, ⟨some 108, .ia 10 (.t 107) (k' 0),
 some (104, false)⟩, ⟨some 109, .fa 1 (.t 108), some (104, false)⟩, ⟨some 110, .fa 0 (.t 109), some (104, false)⟩, ⟨some 111, .ld false 1 (.t 110), some (104,
 false)⟩, ⟨some 112, .call 216 [.t 105, .t 111], some (104, false)⟩, ⟨some 113, .not (.t 112), some (104, false)⟩, o' 114 (.pick (.t 104) (.k (.v false [.c (.b
 true)])) (.t 113))]) (.cond (.t 114) (q' ([z' 4 7]) .ret) .skip)) (.seq (q' ([f' 115 0 3, l' 116 115, o' 117 (.bin .eql (.t 116) (k' 1)), m' 118 117, ⟨some
 119, .fa 3 (.t 3), some (118, true)⟩, ⟨some 120, .ld false 1 (.t 119), some (118, true)⟩, ⟨some 121, .ia 10 (.t 120) (k' 0), some (118, true)⟩, ⟨some 122, .fa
 1 (.t 121), some (118, true)⟩, ⟨some 123, .fa 0 (.t 122), some (118, true)⟩, ⟨some 124, .ld false 1 (.t 123), some (118, true)⟩, ⟨some 125, .bin .neq (.t 124)
 (.k (.v false [.c (.s [112, 97, 99, 107, 101, 116])])), some (118, true)⟩, o' 126 (.pick (.t 118) (.t 125) (.k (.v false [.c (.b false)])))]) (.cond (.t 126)
 (q' ([z' 4 7]) .ret) .skip)) (g' [z' 13 1]))) .skip)) (.seq (q' ([m' 127 13, m' 14 127]) (.block 6 (.loop (.seq (q' ([m' 128 14, f' 129 3 3, l' 130 129, n'
 131 130, r' 132 128 131]) (.cond (.t 132) .skip (.exit 6))) (.seq (.block 7 (.seq (.reg true [f' 135 3 3, l' 136 135, m' 137 14, i' 138 10 136 137, f' 139 0
 138, l' 140 139, o' 141 (.bin .neq (.t 140) (k' 3)), m' 142 141, ⟨some 143, .ld true 2 (.t 2), some (142, true)⟩, ⟨some 144, .fa 3 (.t 3), some (142, true)⟩,
 ⟨some 145, .ld false 1 (.t 144), some (142, true)⟩, ⟨some 146, .mov (.t 14), some (142, true)⟩, ⟨some 147, .ia 10 (.t 145) (.t 146), some (142, true)⟩, ⟨some
 148, .fa 1 (.t 147), some (142, true)⟩, ⟨some 149, .fa 0 (.t 148), some (142, true)⟩, ⟨some 150, .ld false 1 (.t 149), some (142, true)⟩, ⟨some 151, .call 216
 [.t 143, .t 150], some (142, true)⟩, o' 152 (.pick (.t 142) (.t 151) (.k (.v false [.c (.b false)])))]) (.cond (.t 152) (q' ([z' 4 7]) .ret) .skip))) (g' [m'
 133 14, a' 134 133, m' 14 134])))))) (q' ([z' 4 0]) .ret))))))))))
theorem b0L : cmp Tryz.prog Tryz.f135 = some a4H := by kernel_rfl
theorem b2F (p : c8) (r : c6) (hpre : r.Body.length ≤ 8 ∧ l9 p = true) : A0l Tryz.prog 135 [(true, [.sl false [.i .i64 0, .s [], .i .i64 0] (p.Decls.map c7.cells), .sl false [.i .i64 0, .s [], .sl false [.s [], .i .i64 0, .s []] [], .sl false [.i .i64 0, .s [], .sl false [.s [], .i .i64 0, .s []] [], .i .i64 0, .s [], .i .i64 0, .s [], .s [], .i .i64 0, .s []] []] (p.Rules.map (c6.cells false false))]), (true, [.i .i64 r.Kind, .s r.Head.Name, .sl false [.s [], .i .i64 0, .s []] (r.Head.Args.map c4.cells), .sl false [.i .i64 0, .s [], .sl false [.s [], .i .i64 0, .s []] [], .i .i64 0, .s [], .i .i64 0, .s [], .s [], .i .i64 0, .s []] (r.Body.map (c9.cells false false))])] [] (.one (false, [.i .i64 (l6 p r)])) := by
 refine spec_of2 false false none Tryz.func135 b0L (rvs := [.t 4]) (hΓ := mkCtx_ok (deep := false) (l := [(214, [], a1d), (215, [], a1c), (160, [], t5), (216, [], a0q)]) ⟨a7b, a7a, a0c, a6r, trivial⟩) (h := ?_)
 intro hb hE
 simp only [go_sem] at hb
 simp only [a4H, x']
 obtain ⟨hp8, hpB⟩ := hpre
 have hA := b6w r
 have hA1 := a9T r
 (try refine A2V ?_); simp only [go_sem, l8]; (repeat' first | apply CJ.mk | intro hc); all_goals try ((repeat' first | apply And.intro | intro hs) <;> (try simp only [go_sem, Bool.and_eq_false_iff] at hs) <;> omega)
 refine aw_loop2 false [] [2, 3, 5, 17, 18] [4, 6] [2048] (fun i : {i : Nat // i ≤ (l3 r).length ∧ ((l3 r).take i).any (a1C p) = false} => [(19, slV (.i .i64 i.1))]) (fun i => []) (fun i => []) (fun i => (l3 r).length - i.1) (⟨0, by simp⟩) _ rfl ?_ ?_
 ·simp only [go_sem, l8]
  all_goals first | omega | ((repeat' apply And.intro) <;> first | omega | rfl | skip)
 intro S0 hS0 i
 simp only [go_sem, l8] at hS0
 obtain ⟨i, hi, ha⟩ := i
 (try refine A2V ?_); simp only [go_sem, l8, hS0]; (repeat' first | apply CJ.mk | intro hc); all_goals try ((repeat' first | apply And.intro | intro hs) <;> (try simp only [go_sem, Bool.and_eq_false_iff] at hs) <;> omega)
 ·rw [l6, a7H (q := a1C p) default (by omega) (decide_eq_true hc)]; rfl
 ·(refine lpK_n2 (⟨i + 1, by omega, m8 (p := a1C p) default (by omega) ha (decide_eq_false hc)⟩) _ rfl ?_; simp only [go_sem, l8, hS0]; first | done | ((repeat' apply And.intro) <;> first | omega | (refine w64 ?_ ?_ ?_ <;> omega) | rfl | skip))
 rw [k6 (by omega)] at ha
 clear hc hi
 refine aw_loop2 false [] [2, 3, 5, 29, 30] [4, 6] [2048] (fun i : {i : Nat // i ≤ (l3 r).length ∧ ((l3 r).take i).any (a1D p) = false} => [(31, slV (.i .i64 i.1))]) (fun i => []) (fun i => []) (fun i => (l3 r).length - i.1) (⟨0, by simp⟩) _ rfl ?_ ?_
 ·simp only [go_sem, l8, hS0]
  all_goals first | omega | ((repeat' apply And.intro) <;> first | omega | rfl | skip)
 intro S1 hS1 i
 simp only [go_sem, l8, hS0] at hS1
 obtain ⟨i, hi, hb1⟩ := i
 (try refine A2V ?_); simp only [go_sem, l8, hS0, hS1]; (repeat' first | apply CJ.mk | intro hc); all_goals try ((repeat' first | apply And.intro | intro hs) <;> (try simp only [go_sem, Bool.and_eq_false_iff] at hs) <;> omega)
 ·rw [l6, ha, a7H (q := a1D p) default (by omega) hc]; rfl
 ·(refine lpK_n2 (⟨i + 1, by omega, m8 (p := a1D p) default (by omega) hb1 hc⟩) _ rfl ?_; simp only [go_sem, l8, hS0, hS1]; first | done | ((repeat' apply And.intro) <;> first | omega | (refine w64 ?_ ?_ ?_ <;> omega) | rfl | skip))
 ·rw [k6 (by omega)] at hb1
  clear hb hS0 hS1
  grind [l6, a6c, a5Y, fwB]
 rw [k6 (by omega)] at hb1
 have hk : a6c p r = false := by
  clear hb hS0 hS1
  grind [a6c, a5Y, fwB]
 clear hc hi
 refine aw_loop2 false [] [2, 3, 73, 74] [4, 6] [9344] (fun i : {i : Nat // i ≤ ((l3 r).drop 1).length ∧ (((l3 r).drop 1).take i).any a7s = false} => [(75, slV (.i .i64 i.1))]) (fun i => []) (fun i => []) (fun i => ((l3 r).drop 1).length - i.1) (⟨0, by simp⟩) _ rfl ?_ ?_
 ·simp only [go_sem, l8, hS0, hS1]
  all_goals first | omega | ((repeat' apply And.intro) <;> first | omega | rfl | skip)
 intro S2 hS2 i
 simp only [go_sem, l8, hS0, hS1] at hS2
 obtain ⟨i, hi, hf⟩ := i
 have hD : ((l3 r).drop 1).length ≤ 8 := by rw [List.length_drop]; omega
 (try refine A2V ?_); simp only [go_sem, l8, hS0, hS1, hS2]; (repeat' first | apply CJ.mk | intro hc); all_goals try ((repeat' first | apply And.intro | intro hs) <;> (try simp only [go_sem, Bool.and_eq_false_iff] at hs) <;> omega)
 ·rw [l6, ha, hb1, hk, a7H (q := a7s) default (by omega) hc]; rfl
 ·(refine lpK_n2 (⟨i + 1, by omega, m8 (p := a7s) default (by omega) hf hc⟩) _ rfl ?_; simp only [go_sem, l8, hS0, hS1, hS2]; first | done | ((repeat' apply And.intro) <;> first | omega | (refine w64 ?_ ?_ ?_ <;> omega) | rfl | skip))
 all_goals (rw [k6 (by omega)] at hf)
 ·clear hb hS0 hS1 hS2; grind
 ·clear hb hS0 hS1 hS2; grind
 ·clear hb hS0 hS1 hS2; grind [l6, a9x, b5u, pkB, fwB]
 ·clear hb hS0 hS1 hS2; grind
 ·clear hb hS0 hS1 hS2; grind [l6, a9x, b5u, pkB, fwB]
 ·have hg : a9x p r = !(r.Body.drop 1).any (a4e p) := by
   clear hb hS0 hS1 hS2; grind [a9x, b5u, pkB, fwB]
  have h1 : 1 ≤ r.Body.length := by
   clear hb hS0 hS1 hS2; grind
  clear hc
  refine aw_loop2 false [] [2, 3] [4, 6] [] (fun i : {i : Nat // 1 ≤ i ∧ i ≤ r.Body.length ∧ ((r.Body.take i).drop 1).any (a4e p) = false} => [(14, slV (.i .i64 i.1))]) (fun i => []) (fun i => []) (fun i => r.Body.length - i.1) (⟨1, by omega, by omega, by cases r.Body <;> rfl⟩) _ rfl ?_ ?_
  ·simp only [go_sem, l8, hS0, hS1, hS2]
   all_goals first | omega | ((repeat' apply And.intro) <;> first | omega | rfl | skip)
  intro S3 hS3 i
  simp only [go_sem, l8, hS0, hS1, hS2] at hS3
  obtain ⟨i, h1i, hi, hm⟩ := i
  (try refine A2V ?_); simp only [go_sem, l8, hS0, hS1, hS2, hS3]; (repeat' first | apply CJ.mk | intro hc); all_goals try ((repeat' first | apply And.intro | intro hs) <;> (try simp only [go_sem, Bool.and_eq_false_iff] at hs) <;> omega)
  ·have : a9x p r = false := by rw [hg, b9J (q := a4e p) (i := i) default (by omega) (by omega) (Bool.and_eq_true_iff.2 hc)]; rfl
   rw [l6, ha, hb1, hk, hf, this]; rfl
  ·(refine lpK_n2 (⟨i + 1, by omega, by omega, b8p (q := a4e p) default (by omega) (by omega) hm hc⟩) _ rfl ?_; simp only [go_sem, l8, hS0, hS1, hS2, hS3]; first | done | ((repeat' apply And.intro) <;> first | omega | (refine w64 ?_ ?_ ?_ <;> omega) | rfl | skip))
  ·rw [k6 (by omega)] at hm
   rw [hm] at hg
   rw [l6, ha, hb1, hk, hf, hg]; rfl
 ·have hg : a9x p r = !r.Body.any (a4e p) := by
   clear hb hS0 hS1 hS2; grind [a9x, fwB]
  clear hc
  refine aw_loop2 false [] [2, 3] [4, 6] [] (fun i : {i : Nat // i ≤ r.Body.length ∧ (r.Body.take i).any (a4e p) = false} => [(14, slV (.i .i64 i.1))]) (fun i => []) (fun i => []) (fun i => r.Body.length - i.1) (⟨0, by omega, by simp⟩) _ rfl ?_ ?_
  ·simp only [go_sem, l8, hS0, hS1, hS2]
   all_goals first | omega | ((repeat' apply And.intro) <;> first | omega | rfl | skip)
  intro S3 hS3 i
  simp only [go_sem, l8, hS0, hS1, hS2] at hS3
  obtain ⟨i, hi, hm⟩ := i
  (try refine A2V ?_); simp only [go_sem, l8, hS0, hS1, hS2, hS3]; (repeat' first | apply CJ.mk | intro hc); all_goals try ((repeat' first | apply And.intro | intro hs) <;> (try simp only [go_sem, Bool.and_eq_false_iff] at hs) <;> omega)
  ·have : a9x p r = false := by rw [hg, a7H (q := a4e p) (i := i) default (by omega) (Bool.and_eq_true_iff.2 hc)]; rfl
   rw [l6, ha, hb1, hk, hf, this]; rfl
  ·(refine lpK_n2 (⟨i + 1, by omega, m8 (p := a4e p) default (by omega) hm hc⟩) _ rfl ?_; simp only [go_sem, l8, hS0, hS1, hS2, hS3]; first | done | ((repeat' apply And.intro) <;> first | omega | (refine w64 ?_ ?_ ?_ <;> omega) | rfl | skip))
  ·rw [k6 (by omega)] at hm
   rw [hm] at hg
   rw [l6, ha, hb1, hk, hf, hg]; rfl
noncomputable def a1Y : CT := o6 (fun (x : c8 × c6) h => b2F x.1 x.2 h)
@[go_sem] theorem b7G (x0 : List c7) (x1 : List c6) (x2 : Int) (x3 : List UInt8) (x4 : List c4) (x5 : List c9) : a1Y [(true, [.sl false [.i .i64 0, .s [], .i .i64 0] (x0.map c7.cells), .sl false [.i .i64 0, .s [], .sl false [.s [], .i .i64 0, .s []] [], .sl false [.i .i64 0, .s [], .sl false [.s [], .i .i64 0, .s []] [], .i .i64 0, .s [], .i .i64 0, .s [], .s [], .i .i64 0, .s []] []] (x1.map (c6.cells false false))]), (true, [.i .i64 x2, .s x3, .sl false [.s [], .i .i64 0, .s []] (x4.map c4.cells), .sl false [.i .i64 0, .s [], .sl false [.s [], .i .i64 0, .s []] [], .i .i64 0, .s [], .i .i64 0, .s [], .s [], .i .i64 0, .s []] (x5.map (c9.cells false false))])] = some ((c6.mk x2 (d4.mk x3 x4) x5).Body.length ≤ 8 ∧ l9 (c8.mk x0 x1) = true, [], .one (false, [.i .i64 (l6 (c8.mk x0 x1) (c6.mk x2 (d4.mk x3 x4) x5))])) := i3 _ (by rintro ⟨⟨_, _⟩, ⟨_, ⟨_, _⟩, _⟩⟩ ⟨⟨_, _⟩, ⟨_, ⟨_, _⟩, _⟩⟩ h; simp at h; simp_all) ((c8.mk x0 x1), (c6.mk x2 (d4.mk x3 x4) x5))
theorem a8c : OkC Tryz.prog 135 a1Y := i4 _
theorem a9X (p : c8) (r : c6) : 0 ≤ l6 p r := by
 unfold l6
 cases (l3 r).any (a1C p) <;> cases (l3 r).any (a1D p) <;> cases a6c p r <;> cases ((l3 r).drop 1).any a7s <;> cases a9x p r <;> decide
theorem a0K {p : c8} (h : l9 p = false) : f9 p = (1, 0) := by simp [f9, h]
theorem v7 {p : c8} (h : l9 p = true) {i : Nat} (hi : i < p.Decls.length) (ha : ∀ j, j < i → l7 p j = false) (hq : l7 p i = true) : f9 p = (2, (i : Int)) := by
 rw [f9, h, a5V ha hq hi, if_pos hi]; rfl
theorem a1f {p : c8} (h : l9 p = true) (hd : ∀ j, j < p.Decls.length → l7 p j = false) {i : Nat} (hi : i < p.Rules.length) (ha : ∀ j, j < i → n0 p j = false) (hq : n0 p i = true) : f9 p = (l6 p (p.Rules.getD i default), (i : Int)) := by
 rw [f9, h, a2z hd, if_neg (by omega), a5V ha hq hi, if_pos hi]; rfl
theorem a6J {p : c8} (h : l9 p = true) (hd : ∀ j, j < p.Decls.length → l7 p j = false) (ha : ∀ j, j < p.Rules.length → n0 p j = false) : f9 p = (0, 0) := by
 rw [f9, h, a2z hd, if_neg (by omega), a2z ha, if_neg (by omega)]; rfl
theorem a8D {q : Nat → Bool} {i : Nat} (h : ∀ j, j < i → q j = false) (hi : q i = false) : ∀ j, j < i + 1 → q j = false := by
 intro j hj
 rcases Nat.lt_succ_iff_lt_or_eq.1 hj with h1 | rfl
 ·exact h j h1
 ·exact hi
theorem b5J {p : c8} (h : l9 p = true) {i : Nat} (hi : i < p.Rules.length) : (p.Rules.getD i default).Body.length ≤ 8 := by
 rw [a2A default hi]; exact c0a h (List.getElem_mem hi)
def a0O : ACode := q' ([o' 2 (.box 3 (.t 0)), b' 3 false]) (q' ([f' 4 1 2, l' 5 4, f' 6 1 1, l' 7 6, o' 8 (.bin .eql (.t 5) (.t 7)), m' 3 8]) .ret)
theorem a5W : cmp Tryz.prog Tryz.f219 = some a0O := by kernel_rfl
theorem a6v (y : c7) (d : c7) : A0l Tryz.prog 219 [(true, [.i .i64 y.Kind, .s y.Name, .i .i64 y.Arity]), (false, [.p [.i .i64 d.Kind, .s d.Name, .i .i64 d.Arity]])] [] (.one (false, [.b (y.Name == d.Name)])) := by
 refine spec_of2 false false none Tryz.func219 a5W (rvs := [.t 3]) (hΓ := mkCtx_ok (deep := false) (l := []) trivial) (h := ?_)
 intro hb hE
 simp only [go_sem] at hb
 simp only [a0O, x']
 (try refine A2V ?_); simp only [go_sem]; (repeat' first | apply CJ.mk | intro hc); all_goals try ((repeat' first | apply And.intro | intro hs) <;> (try simp only [go_sem, Bool.and_eq_false_iff] at hs) <;> omega)
 all_goals (first | rfl | trace_state)
noncomputable def u3 : CT := i6 (fun (x : c7 × c7) => a6v x.1 x.2)
@[go_sem] theorem b4g (x0 : Int) (x1 : List UInt8) (x2 x3 : Int) (x4 : List UInt8) (x5 : Int) : u3 [(true, [.i .i64 x0, .s x1, .i .i64 x2]), (false, [.p [.i .i64 x3, .s x4, .i .i64 x5]])] = some (True, [], .one (false, [.b ((c7.mk x0 x1 x2).Name == (c7.mk x3 x4 x5).Name)])) := f7 _ (by rintro ⟨⟨_, _, _⟩, ⟨_, _, _⟩⟩ ⟨⟨_, _, _⟩, ⟨_, _, _⟩⟩ h; simp at h; simp_all) ((c7.mk x0 x1 x2), (c7.mk x3 x4 x5))
theorem a3P : OkC Tryz.prog 219 u3 := f8 _
def b1j : ACode := q' ([z' 4 0]) (.seq (q' ([m' 6 0, n' 7 6, z' 8 0]) (.block 0 (.loop (q' ([r' 9 8 7]) (.seq (.cond (.t 9) .skip (.exit 0)) (.seq (.block 1 (q' ([m' 10 8, m' 5
 10]) (q' ([m' 11 1, m' 12 0, m' 13 5, i' 14 3 12 13, e' 15 3 14, o' 16 (.callv (.t 11) [.t 15])]) (.cond (.t 16) (q' ([m' 17 5, m' 4 17]) .ret) .skip)))) (g'
 [a' 18 8, m' 8 18]))))))) (q' ([o' 4 (.mov (.k (.v false [.c (.i .i64 (-1))])))]) .ret))
theorem b6X : cmp Tryz.prog Tryz.f298 = some b1j := by kernel_rfl
theorem b4w (l : List c7) (d : c7) : A0l Tryz.prog 298 [(false, [.sl false [.i .i64 0, .s [], .i .i64 0] (l.map c7.cells)]), (false, [.f 219 [.p [.i .i64 d.Kind, .s d.Name, .i .i64 d.Arity]]])] [] (.one (false, [.i .i64 (a0P (fun y : c7 => y.Name == d.Name) l)])) := by
 refine spec_of2 false false none Tryz.func298 b6X (rvs := [.t 4]) (hΓ := mkCtx_ok (deep := false) (l := [(219, [], u3)]) ⟨a3P, trivial⟩) (h := ?_)
 intro hb hE
 simp only [go_sem] at hb
 simp only [b1j, x']
 (try refine A2V ?_); simp only [go_sem]; (repeat' first | apply CJ.mk | intro hc); all_goals try ((repeat' first | apply And.intro | intro hs) <;> (try simp only [go_sem, Bool.and_eq_false_iff] at hs) <;> omega)
 refine aw_loop2 false [] [0, 1, 7] [] [] (fun i : {i : Nat // i ≤ l.length ∧ (l.take i).any (fun y : c7 => y.Name == d.Name) = false} => [(8, slV (.i .i64 i.1))]) (fun i => []) (fun i => []) (fun i => l.length - i.1) (⟨0, by simp⟩) _ rfl ?_ ?_
 ·simp only [go_sem]
  all_goals first | omega | ((repeat' apply And.intro) <;> first | omega | rfl | skip)
 intro S0 hS0 i
 simp only [go_sem] at hS0
 obtain ⟨i, hi, ha⟩ := i
 (try refine A2V ?_); simp only [go_sem, hS0]; (repeat' first | apply CJ.mk | intro hc); all_goals try ((repeat' first | apply And.intro | intro hs) <;> (try simp only [go_sem, Bool.and_eq_false_iff] at hs) <;> omega)
 ·exact (s8 (p := fun y : c7 => y.Name == d.Name) (d := default) (by omega) ha (by simpa [-List.getD_eq_getElem?_getD] using hc)).symm
 ·(refine lpK_n2 (⟨i + 1, by omega, m8 (p := fun y : c7 => y.Name == d.Name) default (by omega) ha (by simpa [-List.getD_eq_getElem?_getD] using hc)⟩) _ rfl ?_; simp only [go_sem, hS0]; first | done | ((repeat' apply And.intro) <;> first | omega | (refine w64 ?_ ?_ ?_ <;> omega) | rfl | skip))
 ·exact (o9 (by rwa [k6 (by omega)] at ha)).symm
 all_goals trace_state
noncomputable def a3M : CT := i6 (fun (x : (List c7) × c7) => b4w x.1 x.2)
@[go_sem] theorem b9e (l : List c7) (x0 : Int) (x1 : List UInt8) (x2 : Int) : a3M [(false, [.sl false [.i .i64 0, .s [], .i .i64 0] (l.map c7.cells)]), (false, [.f 219 [.p [.i .i64 x0, .s x1, .i .i64 x2]]])] = some (True, [], .one (false, [.i .i64 (a0P (fun y : c7 => y.Name == (c7.mk x0 x1 x2).Name) l)])) := f7 _ (by rintro ⟨_, ⟨_, _, _⟩⟩ ⟨_, ⟨_, _, _⟩⟩ h; simp at h; simp_all) (l, (c7.mk x0 x1 x2))
theorem b0d : OkC Tryz.prog 298 a3M := f8 _
def b1g : ACode := q' ([b' 4 false]) (q' ([m' 5 0, m' 6 1, c' 7 298 [5, 6], o' 8 (.bin .geq (.t 7) (k' 0)), m' 4 8]) .ret)
theorem b6U : cmp Tryz.prog Tryz.f218 = some b1g := by kernel_rfl
theorem b4u (l : List c7) (d : c7) : A0l Tryz.prog 218 [(false, [.sl false [.i .i64 0, .s [], .i .i64 0] (l.map c7.cells)]), (false, [.f 219 [.p [.i .i64 d.Kind, .s d.Name, .i .i64 d.Arity]]])] [] (.one (false, [.b (l.any (fun y : c7 => y.Name == d.Name))])) := by
 refine spec_of2 false false none Tryz.func218 b6U (rvs := [.t 4]) (hΓ := mkCtx_ok (deep := false) (l := [(298, [], a3M)]) ⟨b0d, trivial⟩) (h := ?_)
 intro hb hE
 simp only [go_sem] at hb
 simp only [b1g, x']
 (try refine A2V ?_); simp only [go_sem]; (repeat' first | apply CJ.mk | intro hc); all_goals try ((repeat' first | apply And.intro | intro hs) <;> (try simp only [go_sem, Bool.and_eq_false_iff] at hs) <;> omega)
 ·exact a0Q _ _
noncomputable def a3K : CT := i6 (fun (x : (List c7) × c7) => b4u x.1 x.2)
@[go_sem] theorem b9c (l : List c7) (x0 : Int) (x1 : List UInt8) (x2 : Int) : a3K [(false, [.sl false [.i .i64 0, .s [], .i .i64 0] (l.map c7.cells)]), (false, [.f 219 [.p [.i .i64 x0, .s x1, .i .i64 x2]]])] = some (True, [], .one (false, [.b (l.any (fun y : c7 => y.Name == (c7.mk x0 x1 x2).Name))])) := f7 _ (by rintro ⟨_, ⟨_, _, _⟩⟩ ⟨_, ⟨_, _, _⟩⟩ h; simp at h; simp_all) (l, (c7.mk x0 x1 x2))
theorem b0b : OkC Tryz.prog 218 a3K := f8 _
def a1A : ACode := q' ([o' 1 (.box 2 (.t 0)), z' 2 0, z' 3 0]) (.seq (q' ([e' 9 2 1, c' 10 134 [9], o' 11 (.not (.t 10))]) (.cond (.t 11) (q' ([z' 2 1, z' 3 0]) .ret) .skip))
 (.seq (q' ([f' 12 0 1, l' 13 12, n' 14 13, z' 15 0]) (.block 0 (.loop (q' ([r' 16 15 14]) (.seq (.cond (.t 16) .skip (.exit 0)) (.seq (.block 1 (q' ([m' 17
 15, m' 4 17]) (q' ([f' 18 0 1, l' 19 18, m' 20 4, i' 21 3 19 20, f' 22 1 21, l' 23 22, m' 5 23]) (.seq (q' ([m' 24 5, o' 25 (.bin .eql (.t 24) (.k (.v false
 [.c (.s [112, 97, 99, 107, 101, 116])]))), m' 26 25, ⟨some 27, .mov (.t 5), some (26, false)⟩, ⟨some 28, .bin .eql (.t 27) (.k (.v false [.c (.s [102, 111,
 114, 119, 97, 114, 100])])), some (26, false)⟩, o' 29 (.pick (.t 26) (.k (.v false [.c (.b true)])) (.t 28))]) (.cond (.t 29) (q' ([m' 30 4, z' 2 2, m' 3 30])
 .ret) .skip)) (q' ([z' 6 0]) (.block 2 (.loop (.seq (q' ([m' 31 6, m' 32 4, r' 33 31 32]) (.cond (.t 33) .skip (.exit 2))) (.seq (.block 3 (q' ([f' 36 0 1, l'
 37 36, m' 38 6, i' 39 3 37 38, f' 40 1 39, l' 41 40, m' 42 5, o' 43 (.bin .eql (.t 41) (.t 42))]) (.cond (.t 43) (q' ([m' 44 4, z' 2 2, m' 3 44]) .ret)
 .skip))) (g' [m' 34 6, a' 35 34, m' 6 35])))))))))) (g' [a' 45 15, m' 15 45]))))))) (.seq (q' ([f' 46 1 1, l' 47 46, n' 48 47, z' 49 0]) (.block 4 (.loop (q'
 ([r' 50 49 48]) (.seq (.cond (.t 50) .skip (.exit 4)) (.seq (.block 5 (q' ([m' 51 49, m' 7 51]) (.seq (.reg true [e' 52 2 1, f' 53 1 1, l' 54 53, m' 55 7, i'
 56 4 54 55, e' 57 4 56, c' 58 135 [52, 57], m' 8 58]) (q' ([m' 59 8, o' 60 (.bin .gtr (.t 59) (k' 0))]) (.cond (.t 60) (q' ([m' 61 8, m' 62 7, m' 2 61, m' 3
 62]) .ret) .skip))))) (g' [a' 63 49, m' 49 63]))))))) (q' ([z' 2 0, z' 3 0]) .ret))))
theorem a7q : cmp Tryz.prog Tryz.f62 = some a1A := by kernel_rfl
theorem a8B (p : c8) : A0l Tryz.prog 62 [(true, [.sl false [.i .i64 0, .s [], .i .i64 0] (p.Decls.map c7.cells), .sl false [.i .i64 0, .s [], .sl false [.s [], .i .i64 0, .s []] [], .sl false [.i .i64 0, .s [], .sl false [.s [], .i .i64 0, .s []] [], .i .i64 0, .s [], .i .i64 0, .s [], .s [], .i .i64 0, .s []] []] (p.Rules.map (c6.cells false false))])] [] (.tup [(false, [.i .i64 ((f9 p).1)]), (false, [.i .i64 ((f9 p).2)])]) := by
 refine spec_of2 false false none Tryz.func62 a7q (rvs := [.t 2, .t 3]) (hΓ := mkCtx_ok (deep := false) (l := [(134, [], a0n), (135, [], a1Y)]) ⟨a6o, a8c, trivial⟩) (h := ?_)
 intro hb hE
 simp only [go_sem] at hb
 simp only [a1A, x']
 (try refine A2V ?_); simp only [go_sem]; (repeat' first | apply CJ.mk | intro hc); all_goals try ((repeat' first | apply And.intro | intro hs) <;> (try simp only [go_sem, Bool.and_eq_false_iff] at hs) <;> omega)
 ·rw [a0K hc]; exact ⟨rfl, rfl⟩
 have hB : l9 p = true := hc
 clear hc
 refine aw_loop2 false [] [1, 14] [2] [] (fun i : {i : Nat // i ≤ p.Decls.length ∧ ∀ j, j < i → l7 p j = false} => [(15, slV (.i .i64 i.1))]) (fun i => []) (fun i => []) (fun i => p.Decls.length - i.1) (⟨0, by omega, by intro j h; omega⟩) _ rfl ?_ ?_
 ·simp only [go_sem]
  all_goals first | omega | ((repeat' apply And.intro) <;> first | omega | rfl | skip)
 intro S0 hS0 i
 simp only [go_sem] at hS0
 obtain ⟨n, hn, ha⟩ := i
 (try refine A2V ?_); simp only [go_sem, hS0]; (repeat' first | apply CJ.mk | intro hc); all_goals try ((repeat' first | apply And.intro | intro hs) <;> (try simp only [go_sem, Bool.and_eq_false_iff] at hs) <;> omega)
 ·have hq : l7 p n = true := by rcases hc with hc | hc <;> (simp only [l7, pkB, fwB, hc, Bool.true_or, Bool.or_true])
  rw [v7 hB (by omega) ha hq]; exact ⟨rfl, rfl⟩
 ·have hN := hc
  clear hc
  refine aw_loop2 false [] [1, 4, 5, 14, 15] [2] [] (fun i : {k : Nat // k ≤ n ∧ (p.Decls.take k).any (fun x => x.Name == (p.Decls.getD n default).Name) = false} => [(6, slV (.i .i64 i.1))]) (fun i => []) (fun i => []) (fun i => n - i.1) (⟨0, by omega, by simp⟩) _ rfl ?_ ?_
  ·simp only [go_sem, hS0]
   all_goals first | omega | ((repeat' apply And.intro) <;> first | omega | rfl | skip)
  intro S1 hS1 i
  simp only [go_sem, hS0] at hS1
  obtain ⟨k, hk, hx⟩ := i
  (try refine A2V ?_); simp only [go_sem, hS0, hS1]; (repeat' first | apply CJ.mk | intro hc); all_goals try ((repeat' first | apply And.intro | intro hs) <;> (try simp only [go_sem, Bool.and_eq_false_iff] at hs) <;> omega)
  ·have : ((p.Decls.take n).any fun x => x.Name == (p.Decls.getD n default).Name) = true := by
    refine a7H (q := fun x : c7 => x.Name == (p.Decls.getD n default).Name) (i := k) default (by rw [List.length_take]; omega) ?_
    have e : (p.Decls.take n).getD k default = p.Decls.getD k default := by
     simp only [List.getD_eq_getElem?_getD, List.getElem?_take]; rw [if_pos (by omega)]
    rw [e]; exact hc
   have hq : l7 p n = true := by rw [l7, this, Bool.or_true]
   rw [v7 hB (by omega) ha hq]; exact ⟨rfl, rfl⟩
  ·(refine lpK_n2 (⟨k + 1, by omega, m8 (p := fun x : c7 => x.Name == (p.Decls.getD n default).Name) default (by omega) hx hc⟩) _ rfl ?_; simp only [go_sem, hS0, hS1]; first | done | ((repeat' apply And.intro) <;> first | omega | (refine w64 ?_ ?_ ?_ <;> omega) | rfl | skip))
  ·have e : k = n := by omega
   subst e
   have hq : l7 p k = false := by rw [l7, hx]; simp only [pkB, fwB, hN, Bool.or_false]
   (refine lpK_n2 (⟨k + 1, by omega, a8D ha hq⟩) _ rfl ?_; simp only [go_sem, hS0, hS1]; first | done | ((repeat' apply And.intro) <;> first | omega | (refine w64 ?_ ?_ ?_ <;> omega) | rfl | skip))
 have hd : ∀ j, j < p.Decls.length → l7 p j = false := fun j hj => ha j (by omega)
 clear hc ha
 refine aw_loop2 false [] [1, 48] [2] [] (fun i : {i : Nat // i ≤ p.Rules.length ∧ ∀ j, j < i → n0 p j = false} => [(49, slV (.i .i64 i.1))]) (fun i => []) (fun i => []) (fun i => p.Rules.length - i.1) (⟨0, by omega, by intro j h; omega⟩) _ rfl ?_ ?_
 ·simp only [go_sem, hS0]
  all_goals first | omega | ((repeat' apply And.intro) <;> first | omega | rfl | skip)
 intro S2 hS2 i
 simp only [go_sem, hS0] at hS2
 obtain ⟨n, hn, ha⟩ := i
 (try refine A2V ?_); simp only [go_sem, hS0, hS2]; (repeat' first | apply CJ.mk | intro hc); all_goals try ((repeat' first | apply And.intro | intro hs) <;> (try simp only [go_sem, Bool.and_eq_false_iff] at hs) <;> omega)
 ·exact ⟨b5J hB (by omega), hB⟩
 ·have hq : n0 p n = true := by
   have := a9X p (p.Rules.getD n default)
   rw [n0, Bool.not_eq_true', beq_eq_false_iff_ne]; omega
  rw [a1f hB hd (by omega) ha hq]; exact ⟨rfl, rfl⟩
 ·have hq : n0 p n = false := by
   have := a9X p (p.Rules.getD n default)
   rw [n0, Bool.not_eq_false', beq_iff_eq]; omega
  (refine lpK_n2 (⟨n + 1, by omega, a8D ha hq⟩) _ rfl ?_; simp only [go_sem, hS0, hS2]; first | done | ((repeat' apply And.intro) <;> first | omega | (refine w64 ?_ ?_ ?_ <;> omega) | rfl | skip))
 ·rw [a6J hB hd (fun j hj => ha j (by omega))]; exact ⟨rfl, rfl⟩
noncomputable def z9 : CT := i6 (fun (x : c8) => a8B x)
@[go_sem] theorem b5n (x0 : List c7) (x1 : List c6) : z9 [(true, [.sl false [.i .i64 0, .s [], .i .i64 0] (x0.map c7.cells), .sl false [.i .i64 0, .s [], .sl false [.s [], .i .i64 0, .s []] [], .sl false [.i .i64 0, .s [], .sl false [.s [], .i .i64 0, .s []] [], .i .i64 0, .s [], .i .i64 0, .s [], .s [], .i .i64 0, .s []] []] (x1.map (c6.cells false false))])] = some (True, [], .tup [(false, [.i .i64 ((f9 (c8.mk x0 x1)).1)]), (false, [.i .i64 ((f9 (c8.mk x0 x1)).2)])]) := f7 _ (by rintro ⟨_, _⟩ ⟨_, _⟩ h; simp at h; simp_all) (c8.mk x0 x1)
theorem a5S : OkC Tryz.prog 62 z9 := f8 _
theorem b5r {α : Type} (l : List α) (n : Nat) : cut l 0 n = l.take n := by unfold cut; simp
def a1q : ACode := q' ([o' 1 (.box 2 (.t 0)), z' 2 0, z' 3 0]) (.seq (q' ([e' 9 2 1, c' 10 150 [9], o' 11 (.not (.t 10))]) (.cond (.t 11) (q' ([z' 2 1, z' 3 0]) .ret) .skip))
 (.seq (q' ([f' 12 0 1, l' 13 12, n' 14 13, z' 15 0]) (.block 0 (.loop (q' ([r' 16 15 14]) (.seq (.cond (.t 16) .skip (.exit 0)) (.seq (.block 1 (q' ([m' 17
 15, i' 18 3 13 15, e' 19 3 18, w' 5 [.i .i64, .s, .i .i64], m' 4 17, s' 3 5 19]) (q' ([f' 20 1 5, l' 21 20, o' 22 (.bin .eql (.t 21) (.k (.v false [.c (.s
 [112, 97, 99, 107, 101, 116])]))), m' 23 22, ⟨some 24, .fa 1 (.t 5), some (23, false)⟩, ⟨some 25, .ld false 1 (.t 24), some (23, false)⟩, ⟨some 26, .bin .eql
 (.t 25) (.k (.v false [.c (.s [102, 111, 114, 119, 97, 114, 100])])), some (23, false)⟩, o' 27 (.pick (.t 23) (.k (.v false [.c (.b true)])) (.t 26)), m' 28
 27, ⟨some 29, .fa 0 (.t 1), some (28, false)⟩, ⟨some 30, .ld false 1 (.t 29), some (28, false)⟩, ⟨some 31, .mov (.t 4), some (28, false)⟩, ⟨some 32, .slc 3
 (.t 30) none (some (.t 31)) none, some (28, false)⟩, ⟨some 33, .mf 219 [.t 5], some (28, false)⟩, ⟨some 34, .call 218 [.t 32, .t 33], some (28, false)⟩, o' 35
 (.pick (.t 28) (.k (.v false [.c (.b true)])) (.t 34))]) (.cond (.t 35) (q' ([m' 36 4, z' 2 2, m' 3 36]) .ret) .skip)))) (g' [a' 37 15, m' 15 37]))))))) (.seq
 (q' ([f' 38 1 1, l' 39 38, n' 40 39, z' 41 0]) (.block 2 (.loop (q' ([r' 42 41 40]) (.seq (.cond (.t 42) .skip (.exit 2)) (.seq (.block 3 (q' ([m' 43 41, i'
 44 4 39 41, e' 45 4 44, w' 7 [.i .i64, .s, .sl [.s [], .i .i64 0, .s []], .sl [.i .i64 0, .s [], .sl false [.s [], .i .i64 0, .s []] [], .i .i64 0, .s [], .i
 .i64 0, .s [], .s [], .i .i64 0, .s []]], m' 6 43, s' 4 7 45]) (q' ([e' 46 2 1, e' 47 4 7, c' 48 220 [46, 47], m' 8 48]) (q' ([m' 49 8, o' 50 (.bin .neq (.t
 49) (k' 0))]) (.cond (.t 50) (q' ([m' 51 8, m' 52 6, m' 2 51, m' 3 52]) .ret) .skip))))) (g' [a' 53 41, m' 41 53]))))))) (q' ([z' 2 0, z' 3 0]) .ret))))
theorem a7g : cmp Tryz.prog Tryz.f138 = some a1q := by kernel_rfl
theorem a8s (p : c8) : A0l Tryz.prog 138 [(true, [.sl false [.i .i64 0, .s [], .i .i64 0] (p.Decls.map c7.cells), .sl false [.i .i64 0, .s [], .sl false [.s [], .i .i64 0, .s []] [], .sl false [.i .i64 0, .s [], .sl false [.s [], .i .i64 0, .s []] [], .i .i64 0, .s [], .i .i64 0, .s [], .s [], .i .i64 0, .s []] []] (p.Rules.map (c6.cells false false))])] [] (.tup [(false, [.i .i64 ((f9 p).1)]), (false, [.i .i64 ((f9 p).2)])]) := by
 refine spec_of2 false false none Tryz.func138 a7g (rvs := [.t 2, .t 3]) (hΓ := mkCtx_ok (deep := false) (l := [(150, [], a0h), (218, [], a3K), (220, [], a0V)]) ⟨a6i, b0b, a6S, trivial⟩) (h := ?_)
 intro hb hE
 simp only [go_sem] at hb
 simp only [a1q, x']
 (try refine A2V ?_); simp only [go_sem]; (repeat' first | apply CJ.mk | intro hc); all_goals try ((repeat' first | apply And.intro | intro hs) <;> (try simp only [go_sem, Bool.and_eq_false_iff] at hs) <;> omega)
 ·rw [a0K hc]; exact ⟨rfl, rfl⟩
 have hB : l9 p = true := hc
 clear hc
 refine aw_loop2 false [] [1, 13, 14] [2] [] (fun i : {i : Nat // i ≤ p.Decls.length ∧ ∀ j, j < i → l7 p j = false} => [(15, slV (.i .i64 i.1))]) (fun i => []) (fun i => []) (fun i => p.Decls.length - i.1) (⟨0, by omega, by intro j h; omega⟩) _ rfl ?_ ?_
 ·simp only [go_sem]
  all_goals first | omega | ((repeat' apply And.intro) <;> first | omega | rfl | skip)
 intro S0 hS0 i
 simp only [go_sem] at hS0
 obtain ⟨n, hn, ha⟩ := i
 (try refine A2V ?_); simp only [go_sem, hS0]; (repeat' first | apply CJ.mk | intro hc); all_goals try ((repeat' first | apply And.intro | intro hs) <;> (try simp only [go_sem, Bool.and_eq_false_iff] at hs) <;> omega)
 ·rw [b5r] at hc
  have hq : l7 p n = true := by rcases hc with (hc | hc) | hc <;> simp only [l7, pkB, fwB, hc, Bool.true_or, Bool.or_true]
  rw [v7 hB (by omega) ha hq]; exact ⟨rfl, rfl⟩
 ·rw [b5r] at hc
  have hq : l7 p n = false := by simp only [l7, pkB, fwB, hc, Bool.or_false]
  (refine lpK_n2 (⟨n + 1, by omega, a8D ha hq⟩) _ rfl ?_; simp only [go_sem, hS0]; first | done | ((repeat' apply And.intro) <;> first | omega | (refine w64 ?_ ?_ ?_ <;> omega) | rfl | skip))
 have hd : ∀ j, j < p.Decls.length → l7 p j = false := fun j hj => ha j (by omega)
 clear hc ha
 refine aw_loop2 false [] [1, 39, 40] [2] [] (fun i : {i : Nat // i ≤ p.Rules.length ∧ ∀ j, j < i → n0 p j = false} => [(41, slV (.i .i64 i.1))]) (fun i => []) (fun i => []) (fun i => p.Rules.length - i.1) (⟨0, by omega, by intro j h; omega⟩) _ rfl ?_ ?_
 ·simp only [go_sem, hS0]
  all_goals first | omega | ((repeat' apply And.intro) <;> first | omega | rfl | skip)
 intro S1 hS1 i
 simp only [go_sem, hS0] at hS1
 obtain ⟨n, hn, ha⟩ := i
 (try refine A2V ?_); simp only [go_sem, hS0, hS1]; (repeat' first | apply CJ.mk | intro hc); all_goals try ((repeat' first | apply And.intro | intro hs) <;> (try simp only [go_sem, Bool.and_eq_false_iff] at hs) <;> omega)
 ·exact b5J hB (by omega)
 ·have hq : n0 p n = true := by
   simp only [bne, Bool.not_eq_true', beq_eq_false_iff_ne] at hc
   rw [n0, Bool.not_eq_true', beq_eq_false_iff_ne]; exact hc
  rw [a1f hB hd (by omega) ha hq]; exact ⟨rfl, rfl⟩
 ·have hq : n0 p n = false := by
   simp only [bne, Bool.not_eq_false', beq_iff_eq] at hc
   rw [n0, Bool.not_eq_false', beq_iff_eq]; exact hc
  (refine lpK_n2 (⟨n + 1, by omega, a8D ha hq⟩) _ rfl ?_; simp only [go_sem, hS0, hS1]; first | done | ((repeat' apply And.intro) <;> first | omega | (refine w64 ?_ ?_ ?_ <;> omega) | rfl | skip))
 ·rw [a6J hB hd (fun j hj => ha j (by omega))]; exact ⟨rfl, rfl⟩
noncomputable def y3 : CT := i6 (fun (x : c8) => a8s x)
@[go_sem] theorem b5e (x0 : List c7) (x1 : List c6) : y3 [(true, [.sl false [.i .i64 0, .s [], .i .i64 0] (x0.map c7.cells), .sl false [.i .i64 0, .s [], .sl false [.s [], .i .i64 0, .s []] [], .sl false [.i .i64 0, .s [], .sl false [.s [], .i .i64 0, .s []] [], .i .i64 0, .s [], .i .i64 0, .s [], .s [], .i .i64 0, .s []] []] (x1.map (c6.cells false false))])] = some (True, [], .tup [(false, [.i .i64 ((f9 (c8.mk x0 x1)).1)]), (false, [.i .i64 ((f9 (c8.mk x0 x1)).2)])]) := f7 _ (by rintro ⟨_, _⟩ ⟨_, _⟩ h; simp at h; simp_all) (c8.mk x0 x1)
theorem a5H : OkC Tryz.prog 138 y3 := f8 _
end Go.Aw
