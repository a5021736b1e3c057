/- Names in programs. No condition. -/
import Derived.Test.YthlbadfickhkfaaGreatzeG8
namespace Go.Aw
open Go.Proofs
attribute [local irreducible] aft blk lpK retK AW A0l
set_option linter.unusedVariables false
set_option linter.unusedSimpArgs false
set_option maxRecDepth 100000
def pkB : List UInt8 := [112, 97, 99, 107, 101, 116]
def fwB : List UInt8 := [102, 111, 114, 119, 97, 114, 100]
def a0p (p : c6) (name : List UInt8) : Int := bif name == pkB then 4 else bif name == fwB then 1 else bif s9 p name then (n8 p name).Arity else -1
def u0 (p : c6) (name : List UInt8) : Int := (n8 p name).Kind
def movB (p : c6) (name : List UInt8) : Bool := name == pkB || u0 p name == 2
def i5 (r : c4) : List c9 := r.Head :: (r.Body.filter fun l => !(l.Kind == 3)).map c8.Atom
def a5z (p : c6) (l : c8) : Bool := !(l.Kind == 3) && movB p l.Atom.Name
def b8Z (p : c6) (r : c4) : Bool := decide ((0 : Int) < r.Body.length) && (r.Body.getD 0 default).Kind == 1 && (movB p (r.Body.getD 0 default).Atom.Name && (!(r.Kind == 1) || (r.Body.getD 0 default).Atom.Name == pkB))
def b1G (p : c6) (r : c4) : Bool := bif !(r.Kind == 1) || r.Head.Name == fwB then b8Z p r && !(r.Body.drop 1).any (a5z p) else !r.Body.any (a5z p)
def a1Z (p : c6) (a : c9) : Bool := decide (a0p p a.Name < 0)
def a2a (p : c6) (a : c9) : Bool := !(a0p p a.Name == (a.Args.length : Int))
def a8W (a : c9) : Bool := a.Name == fwB
def a3L (p : c6) (r : c4) : Bool := bif r.Kind == 1 then !(u0 p r.Head.Name == 3) && !(r.Head.Name == fwB) else !(u0 p r.Head.Name == 1)
def l6 (p : c6) (r : c4) : Int := bif (i5 r).any (a1Z p) then 3 else bif (i5 r).any (a2a p) then 4 else bif a3L p r then 5 else bif ((i5 r).drop 1).any a8W then 6 else bif !b1G p r then 7 else 0
def l5 (p : c6) (i : Nat) : Bool := (p.Decls.getD i default).Name == pkB || (p.Decls.getD i default).Name == fwB || (p.Decls.take i).any fun x => x.Name == (p.Decls.getD i default).Name
def o5 (p : c6) (i : Nat) : Bool := !(l6 p (p.Rules.getD i default) == 0)
def g9 (p : c6) : Int × Int :=
 bif !j7 p then (1, 0) else
 if a1P p.Decls.length (l5 p) < p.Decls.length then (2, (a1P p.Decls.length (l5 p) : Int)) else
 if a1P p.Rules.length (o5 p) < p.Rules.length then (l6 p (p.Rules.getD (a1P p.Rules.length (o5 p)) default), (a1P p.Rules.length (o5 p) : Int)) else (0, 0)
def atB (l : c8) : Bool := !(l.Kind == 3)
theorem a5a (r : c4) : (i5 r).length ≤ r.Body.length + 1 := by
 have := b1q (fun l : c8 => !(l.Kind == 3)) c8.Atom r.Body
 simp only [i5, List.length_cons]; omega
theorem a3B (r : c4) : 1 ≤ (i5 r).length := by simp [i5]
theorem b3S (r : c4) : i5 r = r.Head :: (r.Body.filter atB).map c8.Atom := rfl
def a5D : ACode := q' ([o' 2 (.box 2 (.t 0)), z' 4 0]) (.seq (q' ([m' 7 1]) (.block 0 (q' ([o' 9 (.bin .eql (.t 7) (.k (.v false [.c (.s [112, 97, 99, 107, 101, 116])]))), m' 8
 9]) (.cond (.t 8) (q' ([z' 4 4]) .ret) (q' ([o' 11 (.bin .eql (.t 7) (.k (.v false [.c (.s [102, 111, 114, 119, 97, 114, 100])]))), m' 10 11]) (.cond (.t 10)
 (q' ([z' 4 1]) .ret) .skip)))))) (q' ([e' 13 2 2, m' 14 1, c' 15 149 [13, 14], m' 12 15, o' 16 (.ext (.t 12) 0), o' 17 (.ext (.t 12) 1), w' 5 [.i .i64, .s, .i
 .i64], s' 3 5 16, m' 6 17]) (.seq (q' ([m' 18 6, o' 19 (.not (.t 18))]) (.cond (.t 19) (q' ([o' 4 (.mov (.k (.v false [.c (.i .i64 (-1))])))]) .ret) .skip))
 (q' ([f' 20 2 5, l' 21 20, m' 4 21]) .ret))))
theorem b2N : cmp Tryz.prog Tryz.f163 = some a5D := by kernel_rfl
theorem b5b (p : c6) (name : List UInt8) : A0l Tryz.prog 163 [(true, [.sl false [.i .i64 0, .s [], .i .i64 0] (p.Decls.map c7.cells), .sl false [.i .i64 0, .s [], .sl false [.s [], .i .i64 0, .s []] [], .sl false [.i .i64 0, .s [], .sl false [.s [], .i .i64 0, .s []] [], .i .i64 0, .s [], .i .i64 0, .s [], .s [], .i .i64 0, .s []] []] (p.Rules.map (c4.cells false false))]), (false, [.s name])] [] (.one (false, [.i .i64 (a0p p name)])) := by
 refine spec_of2 false false none Tryz.func163 b2N (rvs := [.t 4]) (hΓ := mkCtx_ok (deep := false) (l := [(149, [], a1g)]) ⟨a4y, trivial⟩) (h := ?_)
 intro hb hE
 simp only [go_sem] at hb
 simp only [a5D, x']
 (try refine A2V ?_); simp only [go_sem]; (repeat' first | apply CJ.mk | intro hc); all_goals try ((repeat' first | apply And.intro | intro hs) <;> (try simp only [go_sem, Bool.and_eq_false_iff] at hs) <;> omega)
 all_goals simp only [a0p, pkB, fwB, *, cond_true, cond_false]
noncomputable def a0r : CT := i8 (fun (x : c6 × (List UInt8)) => b5b x.1 x.2)
@[go_sem] theorem c1G (x0 : List c7) (x1 : List c4) (x2 : List UInt8) : a0r [(true, [.sl false [.i .i64 0, .s [], .i .i64 0] (x0.map c7.cells), .sl false [.i .i64 0, .s [], .sl false [.s [], .i .i64 0, .s []] [], .sl false [.i .i64 0, .s [], .sl false [.s [], .i .i64 0, .s []] [], .i .i64 0, .s [], .i .i64 0, .s [], .s [], .i .i64 0, .s []] []] (x1.map (c4.cells false false))]), (false, [.s x2])] = some (True, [], .one (false, [.i .i64 (a0p (c6.mk x0 x1) x2)])) := f5 _ (by rintro ⟨⟨_, _⟩, _⟩ ⟨⟨_, _⟩, _⟩ h; simp at h; simp_all) ((c6.mk x0 x1), x2)
theorem a3D : OkC Tryz.prog 163 a0r := f7 _
def a6v : ACode := q' ([o' 2 (.box 2 (.t 0)), z' 4 0]) (q' ([e' 8 2 2, m' 9 1, c' 10 149 [8, 9], m' 7 10, o' 11 (.ext (.t 7) 0), o' 12 (.ext (.t 7) 1), w' 5 [.i .i64, .s, .i
 .i64], s' 3 5 11, m' 6 12]) (q' ([f' 13 0 5, l' 14 13, m' 4 14]) .ret))
theorem b4u : cmp Tryz.prog Tryz.f82 = some a6v := by kernel_rfl
theorem b6p (p : c6) (name : List UInt8) : A0l Tryz.prog 82 [(true, [.sl false [.i .i64 0, .s [], .i .i64 0] (p.Decls.map c7.cells), .sl false [.i .i64 0, .s [], .sl false [.s [], .i .i64 0, .s []] [], .sl false [.i .i64 0, .s [], .sl false [.s [], .i .i64 0, .s []] [], .i .i64 0, .s [], .i .i64 0, .s [], .s [], .i .i64 0, .s []] []] (p.Rules.map (c4.cells false false))]), (false, [.s name])] [] (.one (false, [.i .i64 (u0 p name)])) := by
 refine spec_of2 false false none Tryz.func82 b4u (rvs := [.t 4]) (hΓ := mkCtx_ok (deep := false) (l := [(149, [], a1g)]) ⟨a4y, trivial⟩) (h := ?_)
 intro hb hE
 simp only [go_sem] at hb
 simp only [a6v, x']
 (try refine A2V ?_); simp only [go_sem]; (repeat' first | apply CJ.mk | intro hc); all_goals try ((repeat' first | apply And.intro | intro hs) <;> (try simp only [go_sem, Bool.and_eq_false_iff] at hs) <;> omega)
 all_goals (first | rfl | trace_state)
noncomputable def u9 : CT := i8 (fun (x : c6 × (List UInt8)) => b6p x.1 x.2)
@[go_sem] theorem c2Z (x0 : List c7) (x1 : List c4) (x2 : List UInt8) : u9 [(true, [.sl false [.i .i64 0, .s [], .i .i64 0] (x0.map c7.cells), .sl false [.i .i64 0, .s [], .sl false [.s [], .i .i64 0, .s []] [], .sl false [.i .i64 0, .s [], .sl false [.s [], .i .i64 0, .s []] [], .i .i64 0, .s [], .i .i64 0, .s [], .s [], .i .i64 0, .s []] []] (x1.map (c4.cells false false))]), (false, [.s x2])] = some (True, [], .one (false, [.i .i64 (u0 (c6.mk x0 x1) x2)])) := f5 _ (by rintro ⟨⟨_, _⟩, _⟩ ⟨⟨_, _⟩, _⟩ h; simp at h; simp_all) ((c6.mk x0 x1), x2)
theorem w8 : OkC Tryz.prog 82 u9 := f7 _
def a5G : ACode := q' ([o' 2 (.box 2 (.t 0)), b' 4 false]) (q' ([m' 5 1, o' 6 (.bin .eql (.t 5) (.k (.v false [.c (.s [112, 97, 99, 107, 101, 116])]))), m' 7 6, ⟨some 8, .ld true
 2 (.t 2), some (7, false)⟩, ⟨some 9, .mov (.t 1), some (7, false)⟩, ⟨some 10, .call 82 [.t 8, .t 9], some (7, false)⟩, ⟨some 11, .bin .eql (.t 10) (k' 2),
 some (7, false)⟩, o' 12 (.pick (.t 7) (.k (.v false [.c (.b true)])) (.t 11)), m' 4 12]) .ret)
theorem b2Q : cmp Tryz.prog Tryz.f342 = some a5G := by kernel_rfl
theorem b5e (p : c6) (name : List UInt8) : A0l Tryz.prog 342 [(true, [.sl false [.i .i64 0, .s [], .i .i64 0] (p.Decls.map c7.cells), .sl false [.i .i64 0, .s [], .sl false [.s [], .i .i64 0, .s []] [], .sl false [.i .i64 0, .s [], .sl false [.s [], .i .i64 0, .s []] [], .i .i64 0, .s [], .i .i64 0, .s [], .s [], .i .i64 0, .s []] []] (p.Rules.map (c4.cells false false))]), (false, [.s name])] [] (.one (false, [.b (movB p name)])) := by
 refine spec_of2 false false none Tryz.func342 b2Q (rvs := [.t 4]) (hΓ := mkCtx_ok (deep := false) (l := [(82, [], u9)]) ⟨w8, trivial⟩) (h := ?_)
 intro hb hE
 simp only [go_sem] at hb
 simp only [a5G, x']
 (try refine A2V ?_); simp only [go_sem]; (repeat' first | apply CJ.mk | intro hc); all_goals try ((repeat' first | apply And.intro | intro hs) <;> (try simp only [go_sem, Bool.and_eq_false_iff] at hs) <;> omega)
 all_goals (first | rfl | trace_state)
noncomputable def a0u : CT := i8 (fun (x : c6 × (List UInt8)) => b5e x.1 x.2)
@[go_sem] theorem c1J (x0 : List c7) (x1 : List c4) (x2 : List UInt8) : a0u [(true, [.sl false [.i .i64 0, .s [], .i .i64 0] (x0.map c7.cells), .sl false [.i .i64 0, .s [], .sl false [.s [], .i .i64 0, .s []] [], .sl false [.i .i64 0, .s [], .sl false [.s [], .i .i64 0, .s []] [], .i .i64 0, .s [], .i .i64 0, .s [], .s [], .i .i64 0, .s []] []] (x1.map (c4.cells false false))]), (false, [.s x2])] = some (True, [], .one (false, [.b (movB (c6.mk x0 x1) x2)])) := f5 _ (by rintro ⟨⟨_, _⟩, _⟩ ⟨⟨_, _⟩, _⟩ h; simp at h; simp_all) ((c6.mk x0 x1), x2)
theorem a3G : OkC Tryz.prog 342 a0u := f7 _
def a5E : ACode := q' ([o' 1 (.box 4 (.t 0)), o' 2 (.mov (.k (.v false [.nl [.s [], .sl false [.s [], .i .i64 0, .s []] []]])))]) (q' ([f' 6 1 1, e' 7 2 6, o' 8 (.bsl 2 1 [.s, .sl
 [.s [], .i .i64 0, .s []]] [(0, .t 7)]), m' 3 8]) (.seq (q' ([f' 9 3 1, l' 10 9, n' 11 10, z' 12 0]) (.block 0 (.loop (q' ([r' 13 12 11]) (.seq (.cond (.t 13)
 .skip (.exit 0)) (.seq (.block 1 (q' ([i' 14 10 10 12, e' 15 10 14, w' 5 [.i .i64, .s, .sl [.s [], .i .i64 0, .s []], .i .i64, .s, .i .i64, .s, .s, .i .i64,
 .s], s' 10 5 15]) (q' ([f' 16 0 5, l' 17 16, o' 18 (.bin .neq (.t 17) (k' 3))]) (.cond (.t 18) (g' [m' 19 3, f' 20 1 5, e' 21 2 20, o' 22 (.bsl 2 1 [.s, .sl
 [.s [], .i .i64 0, .s []]] [(0, .t 21)]), o' 23 (.app 2 40 [.s, .sl [.s [], .i .i64 0, .s []]] (.t 19) (.t 22)), m' 3 23]) .skip)))) (g' [a' 24 12, m' 12
 24]))))))) (q' ([m' 25 3, m' 2 25]) .ret)))
theorem b2O : cmp Tryz.prog Tryz.f168 = some a5E := by kernel_rfl
theorem b5c (r : c4) (hpre : r.Body.length ≤ 8) : A0l Tryz.prog 168 [(true, [.i .i64 r.Kind, .s r.Head.Name, .sl false [.s [], .i .i64 0, .s []] (r.Head.Args.map c5.cells), .sl false [.i .i64 0, .s [], .sl false [.s [], .i .i64 0, .s []] [], .i .i64 0, .s [], .i .i64 0, .s [], .s [], .i .i64 0, .s []] (r.Body.map (c8.cells false false))])] [] (.one (false, [.sl true [.s [], .sl false [.s [], .i .i64 0, .s []] []] ((i5 r).map (c9.cells false false))])) := by
 refine spec_of2 false false none Tryz.func168 b2O (rvs := [.t 2]) (hΓ := mkCtx_ok (deep := false) (l := []) trivial) (h := ?_)
 intro hb hE
 simp only [go_sem] at hb
 simp only [a5E, x']
 (try refine A2V ?_); simp only [go_sem]; (repeat' first | apply CJ.mk | intro hc); all_goals try ((repeat' first | apply And.intro | intro hs) <;> (try simp only [go_sem, Bool.and_eq_false_iff] at hs) <;> omega)
 refine aw_loop2 false [(false, 3, 0, 100006)] [10, 11] [] [] (fun i : {i : Nat // i ≤ r.Body.length} => [(3, .v false [.ow 100006]), (12, slV (.i .i64 i.1))]) (fun i => []) (fun i => [(100006, [.s [], .sl false [.s [], .i .i64 0, .s []] []], (r.Head :: ((r.Body.take i.1).filter atB).map c8.Atom).map (c9.cells false false))]) (fun i => r.Body.length - i.1) (⟨0, by simp⟩) _ (by simp only [go_sem]; try rfl) ?_ ?_
 ·simp only [go_sem]
  all_goals first | omega | ((repeat' apply And.intro) <;> first | omega | rfl | skip)
 intro S0 hS0 i
 simp only [go_sem] at hS0
 obtain ⟨i, hi⟩ := i
 (try refine A2V ?_); simp only [go_sem, hS0]; (repeat' first | apply CJ.mk | intro hc); all_goals try ((repeat' first | apply And.intro | intro hs) <;> (try simp only [go_sem, Bool.and_eq_false_iff] at hs) <;> omega)
 ·have := b1q atB c8.Atom (r.Body.take i); simp at this; omega
 ·have hp : atB (r.Body.getD i default) = true := hc
  (refine lpK_n2 (⟨i + 1, by omega⟩) _ (by simp only [go_sem]; try rfl) ?_; simp only [go_sem, hS0]; first | done | ((repeat' apply And.intro) <;> first | omega | (refine w64 ?_ ?_ ?_ <;> omega) | rfl | skip))
  all_goals (rw [a7u c8.Atom default (by omega) hp] <;> rfl)
 ·have hp : atB (r.Body.getD i default) = false := hc
  (refine lpK_n2 (⟨i + 1, by omega⟩) _ (by simp only [go_sem]; try rfl) ?_; simp only [go_sem, hS0]; first | done | ((repeat' apply And.intro) <;> first | omega | (refine w64 ?_ ?_ ?_ <;> omega) | rfl | skip))
  all_goals (rw [a9V c8.Atom default (by omega) hp] <;> rfl)
 ·rw [f9 (by omega), b3S]; rfl
noncomputable def a0s : CT := p4 (fun (x : c4) h => b5c x h)
@[go_sem] theorem c1H (x0 : Int) (x1 : List UInt8) (x2 : List c5) (x3 : List c8) : a0s [(true, [.i .i64 x0, .s x1, .sl false [.s [], .i .i64 0, .s []] (x2.map c5.cells), .sl false [.i .i64 0, .s [], .sl false [.s [], .i .i64 0, .s []] [], .i .i64 0, .s [], .i .i64 0, .s [], .s [], .i .i64 0, .s []] (x3.map (c8.cells false false))])] = some ((c4.mk x0 (c9.mk x1 x2) x3).Body.length ≤ 8, [], .one (false, [.sl true [.s [], .sl false [.s [], .i .i64 0, .s []] []] ((i5 (c4.mk x0 (c9.mk x1 x2) x3)).map (c9.cells false false))])) := i6 _ (by rintro ⟨_, ⟨_, _⟩, _⟩ ⟨_, ⟨_, _⟩, _⟩ h; simp at h; simp_all) (c4.mk x0 (c9.mk x1 x2) x3)
theorem a3E : OkC Tryz.prog 168 a0s := i7 _
def a4r : ACode := q' ([o' 2 (.box 2 (.t 0)), z' 4 0]) (.seq (q' ([m' 6 1, o' 7 (.bin .eql (.t 6) (.k (.v false [.c (.s [112, 97, 99, 107, 101, 116])])))]) (.cond (.t 7) (q' ([z'
 4 4]) .ret) .skip)) (.seq (q' ([m' 8 1, o' 9 (.bin .eql (.t 8) (.k (.v false [.c (.s [102, 111, 114, 119, 97, 114, 100])])))]) (.cond (.t 9) (q' ([z' 4 1])
 .ret) .skip)) (q' ([e' 10 2 2, m' 11 1, c' 12 160 [10, 11], w' 5 [.i .i64, .s, .i .i64], s' 3 5 12]) (.seq (q' ([f' 13 0 5, l' 14 13, o' 15 (.bin .eql (.t 14)
 (k' 0))]) (.cond (.t 15) (q' ([o' 4 (.mov (.k (.v false [.c (.i .i64 (-1))])))]) .ret) .skip)) (q' ([f' 16 2 5, l' 17 16, m' 4 17]) .ret)))))
theorem b1C : cmp Tryz.prog Tryz.f215 = some a4r := by kernel_rfl
theorem b3A (p : c6) (name : List UInt8) (hpre : j7 p = true) : A0l Tryz.prog 215 [(true, [.sl false [.i .i64 0, .s [], .i .i64 0] (p.Decls.map c7.cells), .sl false [.i .i64 0, .s [], .sl false [.s [], .i .i64 0, .s []] [], .sl false [.i .i64 0, .s [], .sl false [.s [], .i .i64 0, .s []] [], .i .i64 0, .s [], .i .i64 0, .s [], .s [], .i .i64 0, .s []] []] (p.Rules.map (c4.cells false false))]), (false, [.s name])] [] (.one (false, [.i .i64 (a0p p name)])) := by
 refine spec_of2 false false none Tryz.func215 b1C (rvs := [.t 4]) (hΓ := mkCtx_ok (deep := false) (l := [(160, [], t9)]) ⟨v8, trivial⟩) (h := ?_)
 intro hb hE
 simp only [go_sem] at hb
 simp only [a4r, x']
 (try refine A2V ?_); simp only [go_sem]; (repeat' first | apply CJ.mk | intro hc); all_goals try ((repeat' first | apply And.intro | intro hs) <;> (try simp only [go_sem, Bool.and_eq_false_iff] at hs) <;> omega)
 ·simp only [a0p, pkB, fwB, *, cond_true, cond_false]
 ·simp only [a0p, pkB, fwB, *, cond_true, cond_false]
 all_goals rw [b7I hpre] at hc
 ·rw [Bool.not_eq_true'] at hc
  simp only [a0p, pkB, fwB, *, cond_true, cond_false]
 ·rw [Bool.not_eq_false'] at hc
  simp only [a0p, pkB, fwB, *, cond_true, cond_false]
noncomputable def a1M : CT := p4 (fun (x : c6 × (List UInt8)) h => b3A x.1 x.2 h)
@[go_sem] theorem c0S (x0 : List c7) (x1 : List c4) (x2 : List UInt8) : a1M [(true, [.sl false [.i .i64 0, .s [], .i .i64 0] (x0.map c7.cells), .sl false [.i .i64 0, .s [], .sl false [.s [], .i .i64 0, .s []] [], .sl false [.i .i64 0, .s [], .sl false [.s [], .i .i64 0, .s []] [], .i .i64 0, .s [], .i .i64 0, .s [], .s [], .i .i64 0, .s []] []] (x1.map (c4.cells false false))]), (false, [.s x2])] = some (j7 (c6.mk x0 x1) = true, [], .one (false, [.i .i64 (a0p (c6.mk x0 x1) x2)])) := i6 _ (by rintro ⟨⟨_, _⟩, _⟩ ⟨⟨_, _⟩, _⟩ h; simp at h; simp_all) ((c6.mk x0 x1), x2)
theorem a8L : OkC Tryz.prog 215 a1M := i7 _
def a3A : ACode := q' ([o' 2 (.box 2 (.t 0)), b' 4 false]) (q' ([m' 5 1, o' 6 (.bin .eql (.t 5) (.k (.v false [.c (.s [112, 97, 99, 107, 101, 116])]))), m' 7 6, ⟨some 8, .ld true
 2 (.t 2), some (7, false)⟩, ⟨some 9, .mov (.t 1), some (7, false)⟩, ⟨some 10, .call 160 [.t 8, .t 9], some (7, false)⟩, ⟨some 11, .fl false 0 1 (.t 10), some
 (7, false)⟩, ⟨some 12, .bin .eql (.t 11) (k' 2), some (7, false)⟩, o' 13 (.pick (.t 7) (.k (.v false [.c (.b true)])) (.t 12)), m' 4 13]) .ret)
theorem b0r : cmp Tryz.prog Tryz.f216 = some a3A := by kernel_rfl
theorem b2c (p : c6) (name : List UInt8) : A0l Tryz.prog 216 [(true, [.sl false [.i .i64 0, .s [], .i .i64 0] (p.Decls.map c7.cells), .sl false [.i .i64 0, .s [], .sl false [.s [], .i .i64 0, .s []] [], .sl false [.i .i64 0, .s [], .sl false [.s [], .i .i64 0, .s []] [], .i .i64 0, .s [], .i .i64 0, .s [], .s [], .i .i64 0, .s []] []] (p.Rules.map (c4.cells false false))]), (false, [.s name])] [] (.one (false, [.b (movB p name)])) := by
 refine spec_of2 false false none Tryz.func216 b0r (rvs := [.t 4]) (hΓ := mkCtx_ok (deep := false) (l := [(160, [], t9)]) ⟨v8, trivial⟩) (h := ?_)
 intro hb hE
 simp only [go_sem] at hb
 simp only [a3A, x']
 (try refine A2V ?_); simp only [go_sem]; (repeat' first | apply CJ.mk | intro hc); all_goals try ((repeat' first | apply And.intro | intro hs) <;> (try simp only [go_sem, Bool.and_eq_false_iff] at hs) <;> omega)
 all_goals (first | rfl | trace_state)
noncomputable def a1a : CT := i8 (fun (x : c6 × (List UInt8)) => b2c x.1 x.2)
@[go_sem] theorem c0h (x0 : List c7) (x1 : List c4) (x2 : List UInt8) : a1a [(true, [.sl false [.i .i64 0, .s [], .i .i64 0] (x0.map c7.cells), .sl false [.i .i64 0, .s [], .sl false [.s [], .i .i64 0, .s []] [], .sl false [.i .i64 0, .s [], .sl false [.s [], .i .i64 0, .s []] [], .i .i64 0, .s [], .i .i64 0, .s [], .s [], .i .i64 0, .s []] []] (x1.map (c4.cells false false))]), (false, [.s x2])] = some (True, [], .one (false, [.b (movB (c6.mk x0 x1) x2)])) := f5 _ (by rintro ⟨⟨_, _⟩, _⟩ ⟨⟨_, _⟩, _⟩ h; simp at h; simp_all) ((c6.mk x0 x1), x2)
theorem a7Z : OkC Tryz.prog 216 a1a := f7 _
def a4s : ACode := q' ([o' 1 (.box 4 (.t 0)), o' 2 (.mov (.k (.v false [.nl [.s [], .sl false [.s [], .i .i64 0, .s []] []]])))]) (q' ([f' 5 1 1, e' 6 2 5, o' 7 (.bsl 2 1 [.s, .sl
 [.s [], .i .i64 0, .s []]] [(0, .t 6)]), m' 3 7]) (.seq (q' ([f' 8 3 1, l' 9 8, n' 10 9, z' 11 0]) (.block 0 (.loop (q' ([r' 12 11 10]) (.seq (.cond (.t 12)
 .skip (.exit 0)) (.seq (.block 1 (q' ([m' 13 11, m' 4 13]) (q' ([f' 14 3 1, l' 15 14, m' 16 4, i' 17 10 15 16, f' 18 0 17, l' 19 18, o' 20 (.bin .neq (.t 19)
 (k' 3))]) (.cond (.t 20) (g' [m' 21 3, f' 22 3 1, l' 23 22, m' 24 4, i' 25 10 23 24, f' 26 1 25, e' 27 2 26, o' 28 (.bsl 2 1 [.s, .sl [.s [], .i .i64 0, .s
 []]] [(0, .t 27)]), o' 29 (.app 2 40 [.s, .sl [.s [], .i .i64 0, .s []]] (.t 21) (.t 28)), m' 3 29]) .skip)))) (g' [a' 30 11, m' 11 30]))))))) (q' ([m' 31 3,
 m' 2 31]) .ret)))
theorem b1D : cmp Tryz.prog Tryz.f214 = some a4s := by kernel_rfl
theorem b3B (r : c4) (hpre : r.Body.length ≤ 8) : A0l Tryz.prog 214 [(true, [.i .i64 r.Kind, .s r.Head.Name, .sl false [.s [], .i .i64 0, .s []] (r.Head.Args.map c5.cells), .sl false [.i .i64 0, .s [], .sl false [.s [], .i .i64 0, .s []] [], .i .i64 0, .s [], .i .i64 0, .s [], .s [], .i .i64 0, .s []] (r.Body.map (c8.cells false false))])] [] (.one (false, [.sl true [.s [], .sl false [.s [], .i .i64 0, .s []] []] ((i5 r).map (c9.cells false false))])) := by
 refine spec_of2 false false none Tryz.func214 b1D (rvs := [.t 2]) (hΓ := mkCtx_ok (deep := false) (l := []) trivial) (h := ?_)
 intro hb hE
 simp only [go_sem] at hb
 simp only [a4s, x']
 (try refine A2V ?_); simp only [go_sem]; (repeat' first | apply CJ.mk | intro hc); all_goals try ((repeat' first | apply And.intro | intro hs) <;> (try simp only [go_sem, Bool.and_eq_false_iff] at hs) <;> omega)
 refine aw_loop2 false [(false, 3, 0, 100006)] [1, 10] [2] [] (fun i : {i : Nat // i ≤ r.Body.length} => [(3, .v false [.ow 100006]), (11, slV (.i .i64 i.1))]) (fun i => []) (fun i => [(100006, [.s [], .sl false [.s [], .i .i64 0, .s []] []], (r.Head :: ((r.Body.take i.1).filter atB).map c8.Atom).map (c9.cells false false))]) (fun i => r.Body.length - i.1) (⟨0, by simp⟩) _ (by simp only [go_sem]; try rfl) ?_ ?_
 ·simp only [go_sem]
  all_goals first | omega | ((repeat' apply And.intro) <;> first | omega | rfl | skip)
 intro S0 hS0 i
 simp only [go_sem] at hS0
 obtain ⟨i, hi⟩ := i
 (try refine A2V ?_); simp only [go_sem, hS0]; (repeat' first | apply CJ.mk | intro hc); all_goals try ((repeat' first | apply And.intro | intro hs) <;> (try simp only [go_sem, Bool.and_eq_false_iff] at hs) <;> omega)
 ·have := b1q atB c8.Atom (r.Body.take i); simp at this; omega
 ·have hp : atB (r.Body.getD i default) = true := hc
  (refine lpK_n2 (⟨i + 1, by omega⟩) _ (by simp only [go_sem]; try rfl) ?_; simp only [go_sem, hS0]; first | done | ((repeat' apply And.intro) <;> first | omega | (refine w64 ?_ ?_ ?_ <;> omega) | rfl | skip))
  all_goals (rw [a7u c8.Atom default (by omega) hp] <;> rfl)
 ·have hp : atB (r.Body.getD i default) = false := hc
  (refine lpK_n2 (⟨i + 1, by omega⟩) _ (by simp only [go_sem]; try rfl) ?_; simp only [go_sem, hS0]; first | done | ((repeat' apply And.intro) <;> first | omega | (refine w64 ?_ ?_ ?_ <;> omega) | rfl | skip))
  all_goals (rw [a9V c8.Atom default (by omega) hp] <;> rfl)
 ·rw [f9 (by omega), b3S]; rfl
noncomputable def a0c : CT := p4 (fun (x : c4) h => b3B x h)
@[go_sem] theorem c0T (x0 : Int) (x1 : List UInt8) (x2 : List c5) (x3 : List c8) : a0c [(true, [.i .i64 x0, .s x1, .sl false [.s [], .i .i64 0, .s []] (x2.map c5.cells), .sl false [.i .i64 0, .s [], .sl false [.s [], .i .i64 0, .s []] [], .i .i64 0, .s [], .i .i64 0, .s [], .s [], .i .i64 0, .s []] (x3.map (c8.cells false false))])] = some ((c4.mk x0 (c9.mk x1 x2) x3).Body.length ≤ 8, [], .one (false, [.sl true [.s [], .sl false [.s [], .i .i64 0, .s []] []] ((i5 (c4.mk x0 (c9.mk x1 x2) x3)).map (c9.cells false false))])) := i6 _ (by rintro ⟨_, ⟨_, _⟩, _⟩ ⟨_, ⟨_, _⟩, _⟩ h; simp at h; simp_all) (c4.mk x0 (c9.mk x1 x2) x3)
theorem a2V : OkC Tryz.prog 214 a0c := i7 _
theorem b4V {p : c6} (h : j7 p = true) {r : c4} (hr : r ∈ p.Rules) : r.Body.length ≤ 8 := by
 simp only [j7, Bool.and_eq_true, List.all_eq_true] at h
 have := h.2 r hr
 simp only [j2, Bool.and_eq_true, decide_eq_true_eq] at this
 omega
def a0F : ACode := q' ([o' 2 (.box 10 (.t 0)), b' 3 false]) (q' ([f' 4 0 2, l' 5 4, o' 6 (.bin .neq (.t 5) (k' 3)), m' 7 6, ⟨some 8, .ld true 2 (.t 1), some (7, true)⟩, ⟨some 9,
 .fa 1 (.t 2), some (7, true)⟩, ⟨some 10, .fa 0 (.t 9), some (7, true)⟩, ⟨some 11, .ld false 1 (.t 10), some (7, true)⟩, ⟨some 12, .call 342 [.t 8, .t 11],
 some (7, true)⟩, o' 13 (.pick (.t 7) (.t 12) (.k (.v false [.c (.b false)]))), m' 3 13]) .ret)
theorem a6o : cmp Tryz.prog Tryz.f343 = some a0F := by kernel_rfl
theorem a7z (l : c8) (p : c6) : A0l Tryz.prog 343 [(true, [.i .i64 l.Kind, .s l.Atom.Name, .sl false [.s [], .i .i64 0, .s []] (l.Atom.Args.map c5.cells), .i .i64 l.Op, .s l.A.Var, .i .i64 l.A.Val.N, .s l.A.Val.S, .s l.B.Var, .i .i64 l.B.Val.N, .s l.B.Val.S]), (false, [.p [.sl false [.i .i64 0, .s [], .i .i64 0] (p.Decls.map c7.cells), .sl false [.i .i64 0, .s [], .sl false [.s [], .i .i64 0, .s []] [], .sl false [.i .i64 0, .s [], .sl false [.s [], .i .i64 0, .s []] [], .i .i64 0, .s [], .i .i64 0, .s [], .s [], .i .i64 0, .s []] []] (p.Rules.map (c4.cells false false))]])] [] (.one (false, [.b (a5z p l)])) := by
 refine spec_of2 false false none Tryz.func343 a6o (rvs := [.t 3]) (hΓ := mkCtx_ok (deep := false) (l := [(342, [], a0u)]) ⟨a3G, trivial⟩) (h := ?_)
 intro hb hE
 simp only [go_sem] at hb
 simp only [a0F, x']
 (try refine A2V ?_); simp only [go_sem]; (repeat' first | apply CJ.mk | intro hc); all_goals try ((repeat' first | apply And.intro | intro hs) <;> (try simp only [go_sem, Bool.and_eq_false_iff] at hs) <;> omega)
 all_goals (first | rfl | trace_state)
noncomputable def w4 : CT := i8 (fun (x : c8 × c6) => a7z x.1 x.2)
@[go_sem] theorem b6V (x0 : Int) (x1 : List UInt8) (x2 : List c5) (x3 : Int) (x4 : List UInt8) (x5 : Int) (x6 x7 : List UInt8) (x8 : Int) (x9 : List UInt8) (x10 : List c7) (x11 : List c4) : w4 [(true, [.i .i64 x0, .s x1, .sl false [.s [], .i .i64 0, .s []] (x2.map c5.cells), .i .i64 x3, .s x4, .i .i64 x5, .s x6, .s x7, .i .i64 x8, .s x9]), (false, [.p [.sl false [.i .i64 0, .s [], .i .i64 0] (x10.map c7.cells), .sl false [.i .i64 0, .s [], .sl false [.s [], .i .i64 0, .s []] [], .sl false [.i .i64 0, .s [], .sl false [.s [], .i .i64 0, .s []] [], .i .i64 0, .s [], .i .i64 0, .s [], .s [], .i .i64 0, .s []] []] (x11.map (c4.cells false false))]])] = some (True, [], .one (false, [.b (a5z (c6.mk x10 x11) (c8.mk x0 (c9.mk x1 x2) x3 (c5.mk x4 (d3.mk x5 x6)) (c5.mk x7 (d3.mk x8 x9))))])) := f5 _ (by rintro ⟨⟨_, ⟨_, _⟩, _, ⟨_, ⟨_, _⟩⟩, ⟨_, ⟨_, _⟩⟩⟩, ⟨_, _⟩⟩ ⟨⟨_, ⟨_, _⟩, _, ⟨_, ⟨_, _⟩⟩, ⟨_, ⟨_, _⟩⟩⟩, ⟨_, _⟩⟩ h; simp at h; simp_all) ((c8.mk x0 (c9.mk x1 x2) x3 (c5.mk x4 (d3.mk x5 x6)) (c5.mk x7 (d3.mk x8 x9))), (c6.mk x10 x11))
theorem a4z : OkC Tryz.prog 343 w4 := f7 _
theorem b7T (l : List c8) (p : c6) : A0l Tryz.prog 275 [(false, [.sl false [.i .i64 0, .s [], .sl false [.s [], .i .i64 0, .s []] [], .i .i64 0, .s [], .i .i64 0, .s [], .s [], .i .i64 0, .s []] (l.map (c8.cells false false))]), (false, [.f 343 [.p [.sl false [.i .i64 0, .s [], .i .i64 0] (p.Decls.map c7.cells), .sl false [.i .i64 0, .s [], .sl false [.s [], .i .i64 0, .s []] [], .sl false [.i .i64 0, .s [], .sl false [.s [], .i .i64 0, .s []] [], .i .i64 0, .s [], .i .i64 0, .s [], .s [], .i .i64 0, .s []] []] (p.Rules.map (c4.cells false false))]]])] [] (.one (false, [.i .i64 (z7 (fun y => a5z p y) l)])) := by
 refine spec_of2 false false none Tryz.func275 b7c (rvs := [.t 4]) (hΓ := mkCtx_ok (deep := false) (l := [(343, [], w4)]) ⟨a4z, trivial⟩) (h := ?_)
 intro hb hE
 simp only [go_sem] at hb
 simp only [b0S, x']
 (try refine A2V ?_); simp only [go_sem]; (repeat' first | apply CJ.mk | intro hc); all_goals try ((repeat' first | apply And.intro | intro hs) <;> (try simp only [go_sem, Bool.and_eq_false_iff] at hs) <;> omega)
 refine aw_loop2 false [] [0, 1, 7] [] [] (fun i : {i : Nat // i ≤ l.length ∧ (l.take i).any (fun y => a5z p y) = false} => [(8, slV (.i .i64 i.1))]) (fun i => []) (fun i => []) (fun i => l.length - i.1) (⟨0, by simp⟩) _ rfl ?_ ?_
 ·simp only [go_sem]
  all_goals first | omega | ((repeat' apply And.intro) <;> first | omega | rfl | skip)
 intro S0 hS0 i
 simp only [go_sem] at hS0
 obtain ⟨i, hi, ha⟩ := i
 (try refine A2V ?_); simp only [go_sem, hS0]; (repeat' first | apply CJ.mk | intro hc); all_goals try ((repeat' first | apply And.intro | intro hs) <;> (try simp only [go_sem, Bool.and_eq_false_iff] at hs) <;> omega)
 ·exact (o9 (p := fun y => a5z p y) (d := default) (by omega) ha (by simpa [-List.getD_eq_getElem?_getD] using hc)).symm
 ·(refine lpK_n2 (⟨i + 1, by omega, l3 (p := fun y => a5z p y) default (by omega) ha (by simpa [-List.getD_eq_getElem?_getD] using hc)⟩) _ rfl ?_; simp only [go_sem, hS0]; first | done | ((repeat' apply And.intro) <;> first | omega | (refine w64 ?_ ?_ ?_ <;> omega) | rfl | skip))
 ·exact (o8 (by rwa [f9 (by omega)] at ha)).symm
 all_goals trace_state
noncomputable def a5f : CT := i8 (fun (x : (List c8) × c6) => b7T x.1 x.2)
@[go_sem] theorem c4e (l : List c8) (x0 : List c7) (x1 : List c4) : a5f [(false, [.sl false [.i .i64 0, .s [], .sl false [.s [], .i .i64 0, .s []] [], .i .i64 0, .s [], .i .i64 0, .s [], .s [], .i .i64 0, .s []] (l.map (c8.cells false false))]), (false, [.f 343 [.p [.sl false [.i .i64 0, .s [], .i .i64 0] (x0.map c7.cells), .sl false [.i .i64 0, .s [], .sl false [.s [], .i .i64 0, .s []] [], .sl false [.i .i64 0, .s [], .sl false [.s [], .i .i64 0, .s []] [], .i .i64 0, .s [], .i .i64 0, .s [], .s [], .i .i64 0, .s []] []] (x1.map (c4.cells false false))]]])] = some (True, [], .one (false, [.i .i64 (z7 (fun y => a5z (c6.mk x0 x1) y) l)])) := f5 _ (by rintro ⟨_, ⟨_, _⟩⟩ ⟨_, ⟨_, _⟩⟩ h; simp at h; simp_all) (l, (c6.mk x0 x1))
theorem b2A : OkC Tryz.prog 275 a5f := f7 _
theorem b7Q (l : List c8) (p : c6) : A0l Tryz.prog 192 [(false, [.sl false [.i .i64 0, .s [], .sl false [.s [], .i .i64 0, .s []] [], .i .i64 0, .s [], .i .i64 0, .s [], .s [], .i .i64 0, .s []] (l.map (c8.cells false false))]), (false, [.f 343 [.p [.sl false [.i .i64 0, .s [], .i .i64 0] (p.Decls.map c7.cells), .sl false [.i .i64 0, .s [], .sl false [.s [], .i .i64 0, .s []] [], .sl false [.i .i64 0, .s [], .sl false [.s [], .i .i64 0, .s []] [], .i .i64 0, .s [], .i .i64 0, .s [], .s [], .i .i64 0, .s []] []] (p.Rules.map (c4.cells false false))]]])] [] (.one (false, [.b (l.any (fun y => a5z p y))])) := by
 refine spec_of2 false false none Tryz.func192 b7b (rvs := [.t 4]) (hΓ := mkCtx_ok (deep := false) (l := [(275, [], a5f)]) ⟨b2A, trivial⟩) (h := ?_)
 intro hb hE
 simp only [go_sem] at hb
 simp only [b0R, x']
 (try refine A2V ?_); simp only [go_sem]; (repeat' first | apply CJ.mk | intro hc); all_goals try ((repeat' first | apply And.intro | intro hs) <;> (try simp only [go_sem, Bool.and_eq_false_iff] at hs) <;> omega)
 ·exact z8 _ _
noncomputable def a5c : CT := i8 (fun (x : (List c8) × c6) => b7Q x.1 x.2)
@[go_sem] theorem c4b (l : List c8) (x0 : List c7) (x1 : List c4) : a5c [(false, [.sl false [.i .i64 0, .s [], .sl false [.s [], .i .i64 0, .s []] [], .i .i64 0, .s [], .i .i64 0, .s [], .s [], .i .i64 0, .s []] (l.map (c8.cells false false))]), (false, [.f 343 [.p [.sl false [.i .i64 0, .s [], .i .i64 0] (x0.map c7.cells), .sl false [.i .i64 0, .s [], .sl false [.s [], .i .i64 0, .s []] [], .sl false [.i .i64 0, .s [], .sl false [.s [], .i .i64 0, .s []] [], .i .i64 0, .s [], .i .i64 0, .s [], .s [], .i .i64 0, .s []] []] (x1.map (c4.cells false false))]]])] = some (True, [], .one (false, [.b (l.any (fun y => a5z (c6.mk x0 x1) y))])) := f5 _ (by rintro ⟨_, ⟨_, _⟩⟩ ⟨_, ⟨_, _⟩⟩ h; simp at h; simp_all) (l, (c6.mk x0 x1))
theorem b2x : OkC Tryz.prog 192 a5c := f7 _
def a1V : ACode := q' ([o' 2 (.box 2 (.t 0)), o' 3 (.box 4 (.t 1)), b' 4 false]) (q' ([f' 7 3 3, l' 8 7, m' 5 8]) (.seq (q' ([f' 9 0 3, l' 10 9, o' 11 (.bin .neq (.t 10) (k' 1)),
 m' 12 11, ⟨some 13, .fa 1 (.t 3), some (12, false)⟩, ⟨some 14, .fa 0 (.t 13), some (12, false)⟩, ⟨some 15, .ld false 1 (.t 14), some (12, false)⟩, ⟨some 16,
 .bin .eql (.t 15) (.k (.v false [.c (.s [102, 111, 114, 119, 97, 114, 100])])), some (12, false)⟩, o' 17 (.pick (.t 12) (.k (.v false [.c (.b true)])) (.t
 16))]) (.cond (.t 17) (.seq (q' ([m' 18 5, n' 19 18, o' 20 (.bin .eql (.t 19) (k' 0)), m' 21 20, ⟨some 22, .mov (.t 5), some (21, false)⟩, ⟨some 23, .ia 10
 (.t 22) (k' 0), some (21, false)⟩, ⟨some 24, .fa 0 (.t 23), some (21, false)⟩, ⟨some 25, .ld false 1 (.t 24), some (21, false)⟩, ⟨some 26, .bin .neq (.t 25)
 (k' 1), some (21, false)⟩, o' 27 (.pick (.t 21) (.k (.v false [.c (.b true)])) (.t 26))]) (.cond (.t 27) (q' ([b' 4 false]) .ret) .skip)) (q' ([m' 28 5, o' 29
 (.ia 10 (.t 28) (k' 0)), f' 30 1 29, f' 31 0 30, l' 32 31, m' 6 32]) (.seq (q' ([m' 33 6, o' 34 (.bin .neq (.t 33) (.k (.v false [.c (.s [112, 97, 99, 107,
 101, 116])]))), m' 35 34, ⟨some 36, .fa 0 (.t 3), some (35, true)⟩, ⟨some 37, .ld false 1 (.t 36), some (35, true)⟩, ⟨some 38, .bin .eql (.t 37) (k' 1), some
 (35, true)⟩, ⟨some 39, .mov (.t 38), some (35, true)⟩, ⟨some 40, .ld true 2 (.t 2), some (39, false)⟩, ⟨some 41, .mov (.t 6), some (39, false)⟩, ⟨some 42,
 .call 342 [.t 40, .t 41], some (39, false)⟩, ⟨some 43, .not (.t 42), some (39, false)⟩, ⟨some 44, .pick (.t 39) (.k (.v false [.c (.b true)])) (.t 43), some
 (35, true)⟩, o' 45 (.pick (.t 35) (.t 44) (.k (.v false [.c (.b false)])))]) (.cond (.t 45) (q' ([b' 4 false]) .ret) .skip)) (g' [m' 46 5, o' 47 (.slc 10 (.t
 46) (some (k' 1)) none none), m' 5 47])))) .skip)) (q' ([m' 48 5, o' 49 (.mf 343 [.t 2]), c' 50 192 [48, 49], o' 51 (.not (.t 50)), m' 4 51]) .ret)))
theorem a8c : cmp Tryz.prog Tryz.f303 = some a1V := by kernel_rfl
theorem a8Z (p : c6) (r : c4) : A0l Tryz.prog 303 [(true, [.sl false [.i .i64 0, .s [], .i .i64 0] (p.Decls.map c7.cells), .sl false [.i .i64 0, .s [], .sl false [.s [], .i .i64 0, .s []] [], .sl false [.i .i64 0, .s [], .sl false [.s [], .i .i64 0, .s []] [], .i .i64 0, .s [], .i .i64 0, .s [], .s [], .i .i64 0, .s []] []] (p.Rules.map (c4.cells false false))]), (true, [.i .i64 r.Kind, .s r.Head.Name, .sl false [.s [], .i .i64 0, .s []] (r.Head.Args.map c5.cells), .sl false [.i .i64 0, .s [], .sl false [.s [], .i .i64 0, .s []] [], .i .i64 0, .s [], .i .i64 0, .s [], .s [], .i .i64 0, .s []] (r.Body.map (c8.cells false false))])] [] (.one (false, [.b (b1G p r)])) := by
 refine spec_of2 false false none Tryz.func303 a8c (rvs := [.t 4]) (hΓ := mkCtx_ok (deep := false) (l := [(342, [], a0u), (192, [], a5c)]) ⟨a3G, b2x, trivial⟩) (h := ?_)
 intro hb hE
 simp only [go_sem] at hb
 simp only [a1V, x']
 (try refine A2V ?_); simp only [go_sem]; (repeat' first | apply CJ.mk | intro hc); all_goals try ((repeat' first | apply And.intro | intro hs) <;> (try simp only [go_sem, Bool.and_eq_false_iff] at hs) <;> omega)
 all_goals (try simp only [i3] at *)
 all_goals (clear hb)
 all_goals (first | (simp at hc; omega) | grind [b1G, b8Z, pkB, fwB, movB] | trace_state)
noncomputable def a0h : CT := i8 (fun (x : c6 × c4) => a8Z x.1 x.2)
@[go_sem] theorem b8m (x0 : List c7) (x1 : List c4) (x2 : Int) (x3 : List UInt8) (x4 : List c5) (x5 : List c8) : a0h [(true, [.sl false [.i .i64 0, .s [], .i .i64 0] (x0.map c7.cells), .sl false [.i .i64 0, .s [], .sl false [.s [], .i .i64 0, .s []] [], .sl false [.i .i64 0, .s [], .sl false [.s [], .i .i64 0, .s []] [], .i .i64 0, .s [], .i .i64 0, .s [], .s [], .i .i64 0, .s []] []] (x1.map (c4.cells false false))]), (true, [.i .i64 x2, .s x3, .sl false [.s [], .i .i64 0, .s []] (x4.map c5.cells), .sl false [.i .i64 0, .s [], .sl false [.s [], .i .i64 0, .s []] [], .i .i64 0, .s [], .i .i64 0, .s [], .s [], .i .i64 0, .s []] (x5.map (c8.cells false false))])] = some (True, [], .one (false, [.b (b1G (c6.mk x0 x1) (c4.mk x2 (c9.mk x3 x4) x5))])) := f5 _ (by rintro ⟨⟨_, _⟩, ⟨_, ⟨_, _⟩, _⟩⟩ ⟨⟨_, _⟩, ⟨_, ⟨_, _⟩, _⟩⟩ h; simp at h; simp_all) ((c6.mk x0 x1), (c4.mk x2 (c9.mk x3 x4) x5))
theorem a6i : OkC Tryz.prog 303 a0h := f7 _
def a2o : ACode := q' ([o' 2 (.box 2 (.t 0)), b' 3 false]) (q' ([e' 4 2 1, f' 5 0 2, l' 6 5, c' 7 163 [4, 6], o' 8 (.bin .lss (.t 7) (k' 0)), m' 3 8]) .ret)
theorem a8S : cmp Tryz.prog Tryz.f300 = some a2o := by kernel_rfl
theorem b0w (a : c9) (p : c6) : A0l Tryz.prog 300 [(true, [.s a.Name, .sl false [.s [], .i .i64 0, .s []] (a.Args.map c5.cells)]), (false, [.p [.sl false [.i .i64 0, .s [], .i .i64 0] (p.Decls.map c7.cells), .sl false [.i .i64 0, .s [], .sl false [.s [], .i .i64 0, .s []] [], .sl false [.i .i64 0, .s [], .sl false [.s [], .i .i64 0, .s []] [], .i .i64 0, .s [], .i .i64 0, .s [], .s [], .i .i64 0, .s []] []] (p.Rules.map (c4.cells false false))]])] [] (.one (false, [.b (a1Z p a)])) := by
 refine spec_of2 false false none Tryz.func300 a8S (rvs := [.t 3]) (hΓ := mkCtx_ok (deep := false) (l := [(163, [], a0r)]) ⟨a3D, trivial⟩) (h := ?_)
 intro hb hE
 simp only [go_sem] at hb
 simp only [a2o, x']
 (try refine A2V ?_); simp only [go_sem]; (repeat' first | apply CJ.mk | intro hc); all_goals try ((repeat' first | apply And.intro | intro hs) <;> (try simp only [go_sem, Bool.and_eq_false_iff] at hs) <;> omega)
 all_goals (first | rfl | trace_state)
noncomputable def a0w : CT := i8 (fun (x : c9 × c6) => b0w x.1 x.2)
@[go_sem] theorem b8L (x0 : List UInt8) (x1 : List c5) (x2 : List c7) (x3 : List c4) : a0w [(true, [.s x0, .sl false [.s [], .i .i64 0, .s []] (x1.map c5.cells)]), (false, [.p [.sl false [.i .i64 0, .s [], .i .i64 0] (x2.map c7.cells), .sl false [.i .i64 0, .s [], .sl false [.s [], .i .i64 0, .s []] [], .sl false [.i .i64 0, .s [], .sl false [.s [], .i .i64 0, .s []] [], .i .i64 0, .s [], .i .i64 0, .s [], .s [], .i .i64 0, .s []] []] (x3.map (c4.cells false false))]])] = some (True, [], .one (false, [.b (a1Z (c6.mk x2 x3) (c9.mk x0 x1))])) := f5 _ (by rintro ⟨⟨_, _⟩, ⟨_, _⟩⟩ ⟨⟨_, _⟩, ⟨_, _⟩⟩ h; simp at h; simp_all) ((c9.mk x0 x1), (c6.mk x2 x3))
theorem a7l : OkC Tryz.prog 300 a0w := f7 _
def a2p : ACode := q' ([o' 2 (.box 2 (.t 0)), b' 3 false]) (.seq (.reg true [e' 4 2 1, f' 5 0 2, l' 6 5, c' 7 163 [4, 6], f' 8 1 2, l' 9 8, n' 10 9, o' 11 (.bin .neq (.t 7) (.t
 10)), m' 3 11]) .ret)
theorem a8T : cmp Tryz.prog Tryz.f301 = some a2p := by kernel_rfl
theorem b0x (a : c9) (p : c6) : A0l Tryz.prog 301 [(true, [.s a.Name, .sl false [.s [], .i .i64 0, .s []] (a.Args.map c5.cells)]), (false, [.p [.sl false [.i .i64 0, .s [], .i .i64 0] (p.Decls.map c7.cells), .sl false [.i .i64 0, .s [], .sl false [.s [], .i .i64 0, .s []] [], .sl false [.i .i64 0, .s [], .sl false [.s [], .i .i64 0, .s []] [], .i .i64 0, .s [], .i .i64 0, .s [], .s [], .i .i64 0, .s []] []] (p.Rules.map (c4.cells false false))]])] [] (.one (false, [.b (a2a p a)])) := by
 refine spec_of2 false false none Tryz.func301 a8T (rvs := [.t 3]) (hΓ := mkCtx_ok (deep := false) (l := [(163, [], a0r)]) ⟨a3D, trivial⟩) (h := ?_)
 intro hb hE
 simp only [go_sem] at hb
 simp only [a2p, x']
 (try refine A2V ?_); simp only [go_sem]; (repeat' first | apply CJ.mk | intro hc); all_goals try ((repeat' first | apply And.intro | intro hs) <;> (try simp only [go_sem, Bool.and_eq_false_iff] at hs) <;> omega)
 all_goals (first | rfl | trace_state)
noncomputable def a0x : CT := i8 (fun (x : c9 × c6) => b0x x.1 x.2)
@[go_sem] theorem b8M (x0 : List UInt8) (x1 : List c5) (x2 : List c7) (x3 : List c4) : a0x [(true, [.s x0, .sl false [.s [], .i .i64 0, .s []] (x1.map c5.cells)]), (false, [.p [.sl false [.i .i64 0, .s [], .i .i64 0] (x2.map c7.cells), .sl false [.i .i64 0, .s [], .sl false [.s [], .i .i64 0, .s []] [], .sl false [.i .i64 0, .s [], .sl false [.s [], .i .i64 0, .s []] [], .i .i64 0, .s [], .i .i64 0, .s [], .s [], .i .i64 0, .s []] []] (x3.map (c4.cells false false))]])] = some (True, [], .one (false, [.b (a2a (c6.mk x2 x3) (c9.mk x0 x1))])) := f5 _ (by rintro ⟨⟨_, _⟩, ⟨_, _⟩⟩ ⟨⟨_, _⟩, ⟨_, _⟩⟩ h; simp at h; simp_all) ((c9.mk x0 x1), (c6.mk x2 x3))
theorem a7m : OkC Tryz.prog 301 a0x := f7 _
def a2q : ACode := q' ([o' 1 (.box 2 (.t 0)), b' 2 false]) (q' ([f' 3 0 1, l' 4 3, o' 5 (.bin .eql (.t 4) (.k (.v false [.c (.s [102, 111, 114, 119, 97, 114, 100])]))), m' 2 5])
 .ret)
theorem a8U : cmp Tryz.prog Tryz.f302 = some a2q := by kernel_rfl
theorem b0y (a : c9) : A0l Tryz.prog 302 [(true, [.s a.Name, .sl false [.s [], .i .i64 0, .s []] (a.Args.map c5.cells)])] [] (.one (false, [.b (a8W a)])) := by
 refine spec_of2 false false none Tryz.func302 a8U (rvs := [.t 2]) (hΓ := mkCtx_ok (deep := false) (l := []) trivial) (h := ?_)
 intro hb hE
 simp only [go_sem] at hb
 simp only [a2q, x']
 (try refine A2V ?_); simp only [go_sem]; (repeat' first | apply CJ.mk | intro hc); all_goals try ((repeat' first | apply And.intro | intro hs) <;> (try simp only [go_sem, Bool.and_eq_false_iff] at hs) <;> omega)
 all_goals (first | rfl | trace_state)
noncomputable def a0y : CT := i8 (fun (x : c9) => b0y x)
@[go_sem] theorem b8N (x0 : List UInt8) (x1 : List c5) : a0y [(true, [.s x0, .sl false [.s [], .i .i64 0, .s []] (x1.map c5.cells)])] = some (True, [], .one (false, [.b (a8W (c9.mk x0 x1))])) := f5 _ (by rintro ⟨_, _⟩ ⟨_, _⟩ h; simp at h; simp_all) (c9.mk x0 x1)
theorem a7n : OkC Tryz.prog 302 a0y := f7 _
def a4Y : ACode := q' ([z' 4 0]) (.seq (q' ([m' 6 0, n' 7 6, z' 8 0]) (.block 0 (.loop (q' ([r' 9 8 7]) (.seq (.cond (.t 9) .skip (.exit 0)) (.seq (.block 1 (q' ([m' 10 8, m' 5
 10]) (q' ([m' 11 1, m' 12 0, m' 13 5, i' 14 2 12 13, e' 15 2 14, o' 16 (.callv (.t 11) [.t 15])]) (.cond (.t 16) (q' ([m' 17 5, m' 4 17]) .ret) .skip)))) (g'
 [a' 18 8, m' 8 18]))))))) (q' ([o' 4 (.mov (.k (.v false [.c (.i .i64 (-1))])))]) .ret))
theorem a8O : cmp Tryz.prog Tryz.f341 = some a4Y := by kernel_rfl
theorem b9l (l : List c9) (p : c6) : A0l Tryz.prog 341 [(false, [.sl false [.s [], .sl false [.s [], .i .i64 0, .s []] []] (l.map (c9.cells false false))]), (false, [.f 300 [.p [.sl false [.i .i64 0, .s [], .i .i64 0] (p.Decls.map c7.cells), .sl false [.i .i64 0, .s [], .sl false [.s [], .i .i64 0, .s []] [], .sl false [.i .i64 0, .s [], .sl false [.s [], .i .i64 0, .s []] [], .i .i64 0, .s [], .i .i64 0, .s [], .s [], .i .i64 0, .s []] []] (p.Rules.map (c4.cells false false))]]])] [] (.one (false, [.i .i64 (z7 (fun y => a1Z p y) l)])) := by
 refine spec_of2 false false none Tryz.func341 a8O (rvs := [.t 4]) (hΓ := mkCtx_ok (deep := false) (l := [(300, [], a0w)]) ⟨a7l, trivial⟩) (h := ?_)
 intro hb hE
 simp only [go_sem] at hb
 simp only [a4Y, x']
 (try refine A2V ?_); simp only [go_sem]; (repeat' first | apply CJ.mk | intro hc); all_goals try ((repeat' first | apply And.intro | intro hs) <;> (try simp only [go_sem, Bool.and_eq_false_iff] at hs) <;> omega)
 refine aw_loop2 false [] [0, 1, 7] [] [] (fun i : {i : Nat // i ≤ l.length ∧ (l.take i).any (fun y => a1Z p y) = false} => [(8, slV (.i .i64 i.1))]) (fun i => []) (fun i => []) (fun i => l.length - i.1) (⟨0, by simp⟩) _ rfl ?_ ?_
 ·simp only [go_sem]
  all_goals first | omega | ((repeat' apply And.intro) <;> first | omega | rfl | skip)
 intro S0 hS0 i
 simp only [go_sem] at hS0
 obtain ⟨i, hi, ha⟩ := i
 (try refine A2V ?_); simp only [go_sem, hS0]; (repeat' first | apply CJ.mk | intro hc); all_goals try ((repeat' first | apply And.intro | intro hs) <;> (try simp only [go_sem, Bool.and_eq_false_iff] at hs) <;> omega)
 ·exact (o9 (p := fun y => a1Z p y) (d := default) (by omega) ha (by simpa [-List.getD_eq_getElem?_getD] using hc)).symm
 ·(refine lpK_n2 (⟨i + 1, by omega, l3 (p := fun y => a1Z p y) default (by omega) ha (by simpa [-List.getD_eq_getElem?_getD] using hc)⟩) _ rfl ?_; simp only [go_sem, hS0]; first | done | ((repeat' apply And.intro) <;> first | omega | (refine w64 ?_ ?_ ?_ <;> omega) | rfl | skip))
 ·exact (o8 (by rwa [f9 (by omega)] at ha)).symm
 all_goals trace_state
noncomputable def a7d : CT := i8 (fun (x : (List c9) × c6) => b9l x.1 x.2)
@[go_sem] theorem c4T (l : List c9) (x0 : List c7) (x1 : List c4) : a7d [(false, [.sl false [.s [], .sl false [.s [], .i .i64 0, .s []] []] (l.map (c9.cells false false))]), (false, [.f 300 [.p [.sl false [.i .i64 0, .s [], .i .i64 0] (x0.map c7.cells), .sl false [.i .i64 0, .s [], .sl false [.s [], .i .i64 0, .s []] [], .sl false [.i .i64 0, .s [], .sl false [.s [], .i .i64 0, .s []] [], .i .i64 0, .s [], .i .i64 0, .s [], .s [], .i .i64 0, .s []] []] (x1.map (c4.cells false false))]]])] = some (True, [], .one (false, [.i .i64 (z7 (fun y => a1Z (c6.mk x0 x1) y) l)])) := f5 _ (by rintro ⟨_, ⟨_, _⟩⟩ ⟨_, ⟨_, _⟩⟩ h; simp at h; simp_all) (l, (c6.mk x0 x1))
theorem b4d : OkC Tryz.prog 341 a7d := f7 _
def a4X : ACode := q' ([b' 4 false]) (q' ([m' 5 0, m' 6 1, c' 7 341 [5, 6], o' 8 (.bin .geq (.t 7) (k' 0)), m' 4 8]) .ret)
theorem a8N : cmp Tryz.prog Tryz.f299 = some a4X := by kernel_rfl
theorem b9h (l : List c9) (p : c6) : A0l Tryz.prog 299 [(false, [.sl false [.s [], .sl false [.s [], .i .i64 0, .s []] []] (l.map (c9.cells false false))]), (false, [.f 300 [.p [.sl false [.i .i64 0, .s [], .i .i64 0] (p.Decls.map c7.cells), .sl false [.i .i64 0, .s [], .sl false [.s [], .i .i64 0, .s []] [], .sl false [.i .i64 0, .s [], .sl false [.s [], .i .i64 0, .s []] [], .i .i64 0, .s [], .i .i64 0, .s [], .s [], .i .i64 0, .s []] []] (p.Rules.map (c4.cells false false))]]])] [] (.one (false, [.b (l.any (fun y => a1Z p y))])) := by
 refine spec_of2 false false none Tryz.func299 a8N (rvs := [.t 4]) (hΓ := mkCtx_ok (deep := false) (l := [(341, [], a7d)]) ⟨b4d, trivial⟩) (h := ?_)
 intro hb hE
 simp only [go_sem] at hb
 simp only [a4X, x']
 (try refine A2V ?_); simp only [go_sem]; (repeat' first | apply CJ.mk | intro hc); all_goals try ((repeat' first | apply And.intro | intro hs) <;> (try simp only [go_sem, Bool.and_eq_false_iff] at hs) <;> omega)
 ·exact z8 _ _
noncomputable def a6Z : CT := i8 (fun (x : (List c9) × c6) => b9h x.1 x.2)
@[go_sem] theorem b3U (l : List c9) (x0 : List c7) (x1 : List c4) : a6Z [(false, [.sl false [.s [], .sl false [.s [], .i .i64 0, .s []] []] (l.map (c9.cells false false))]), (false, [.f 300 [.p [.sl false [.i .i64 0, .s [], .i .i64 0] (x0.map c7.cells), .sl false [.i .i64 0, .s [], .sl false [.s [], .i .i64 0, .s []] [], .sl false [.i .i64 0, .s [], .sl false [.s [], .i .i64 0, .s []] [], .i .i64 0, .s [], .i .i64 0, .s [], .s [], .i .i64 0, .s []] []] (x1.map (c4.cells false false))]]])] = some (True, [], .one (false, [.b (l.any (fun y => a1Z (c6.mk x0 x1) y))])) := f5 _ (by rintro ⟨_, ⟨_, _⟩⟩ ⟨_, ⟨_, _⟩⟩ h; simp at h; simp_all) (l, (c6.mk x0 x1))
theorem b3V : OkC Tryz.prog 299 a6Z := f7 _
theorem b9m (l : List c9) (p : c6) : A0l Tryz.prog 341 [(false, [.sl false [.s [], .sl false [.s [], .i .i64 0, .s []] []] (l.map (c9.cells false false))]), (false, [.f 301 [.p [.sl false [.i .i64 0, .s [], .i .i64 0] (p.Decls.map c7.cells), .sl false [.i .i64 0, .s [], .sl false [.s [], .i .i64 0, .s []] [], .sl false [.i .i64 0, .s [], .sl false [.s [], .i .i64 0, .s []] [], .i .i64 0, .s [], .i .i64 0, .s [], .s [], .i .i64 0, .s []] []] (p.Rules.map (c4.cells false false))]]])] [] (.one (false, [.i .i64 (z7 (fun y => a2a p y) l)])) := by
 refine spec_of2 false false none Tryz.func341 a8O (rvs := [.t 4]) (hΓ := mkCtx_ok (deep := false) (l := [(301, [], a0x)]) ⟨a7m, trivial⟩) (h := ?_)
 intro hb hE
 simp only [go_sem] at hb
 simp only [a4Y, x']
 (try refine A2V ?_); simp only [go_sem]; (repeat' first | apply CJ.mk | intro hc); all_goals try ((repeat' first | apply And.intro | intro hs) <;> (try simp only [go_sem, Bool.and_eq_false_iff] at hs) <;> omega)
 refine aw_loop2 false [] [0, 1, 7] [] [] (fun i : {i : Nat // i ≤ l.length ∧ (l.take i).any (fun y => a2a p y) = false} => [(8, slV (.i .i64 i.1))]) (fun i => []) (fun i => []) (fun i => l.length - i.1) (⟨0, by simp⟩) _ rfl ?_ ?_
 ·simp only [go_sem]
  all_goals first | omega | ((repeat' apply And.intro) <;> first | omega | rfl | skip)
 intro S0 hS0 i
 simp only [go_sem] at hS0
 obtain ⟨i, hi, ha⟩ := i
 (try refine A2V ?_); simp only [go_sem, hS0]; (repeat' first | apply CJ.mk | intro hc); all_goals try ((repeat' first | apply And.intro | intro hs) <;> (try simp only [go_sem, Bool.and_eq_false_iff] at hs) <;> omega)
 ·exact (o9 (p := fun y => a2a p y) (d := default) (by omega) ha (by simpa [-List.getD_eq_getElem?_getD] using hc)).symm
 ·(refine lpK_n2 (⟨i + 1, by omega, l3 (p := fun y => a2a p y) default (by omega) ha (by simpa [-List.getD_eq_getElem?_getD] using hc)⟩) _ rfl ?_; simp only [go_sem, hS0]; first | done | ((repeat' apply And.intro) <;> first | omega | (refine w64 ?_ ?_ ?_ <;> omega) | rfl | skip))
 ·exact (o8 (by rwa [f9 (by omega)] at ha)).symm
 all_goals trace_state
noncomputable def a7e : CT := i8 (fun (x : (List c9) × c6) => b9m x.1 x.2)
@[go_sem] theorem c4U (l : List c9) (x0 : List c7) (x1 : List c4) : a7e [(false, [.sl false [.s [], .sl false [.s [], .i .i64 0, .s []] []] (l.map (c9.cells false false))]), (false, [.f 301 [.p [.sl false [.i .i64 0, .s [], .i .i64 0] (x0.map c7.cells), .sl false [.i .i64 0, .s [], .sl false [.s [], .i .i64 0, .s []] [], .sl false [.i .i64 0, .s [], .sl false [.s [], .i .i64 0, .s []] [], .i .i64 0, .s [], .i .i64 0, .s [], .s [], .i .i64 0, .s []] []] (x1.map (c4.cells false false))]]])] = some (True, [], .one (false, [.i .i64 (z7 (fun y => a2a (c6.mk x0 x1) y) l)])) := f5 _ (by rintro ⟨_, ⟨_, _⟩⟩ ⟨_, ⟨_, _⟩⟩ h; simp at h; simp_all) (l, (c6.mk x0 x1))
theorem b4e : OkC Tryz.prog 341 a7e := f7 _
theorem b9i (l : List c9) (p : c6) : A0l Tryz.prog 299 [(false, [.sl false [.s [], .sl false [.s [], .i .i64 0, .s []] []] (l.map (c9.cells false false))]), (false, [.f 301 [.p [.sl false [.i .i64 0, .s [], .i .i64 0] (p.Decls.map c7.cells), .sl false [.i .i64 0, .s [], .sl false [.s [], .i .i64 0, .s []] [], .sl false [.i .i64 0, .s [], .sl false [.s [], .i .i64 0, .s []] [], .i .i64 0, .s [], .i .i64 0, .s [], .s [], .i .i64 0, .s []] []] (p.Rules.map (c4.cells false false))]]])] [] (.one (false, [.b (l.any (fun y => a2a p y))])) := by
 refine spec_of2 false false none Tryz.func299 a8N (rvs := [.t 4]) (hΓ := mkCtx_ok (deep := false) (l := [(341, [], a7e)]) ⟨b4e, trivial⟩) (h := ?_)
 intro hb hE
 simp only [go_sem] at hb
 simp only [a4X, x']
 (try refine A2V ?_); simp only [go_sem]; (repeat' first | apply CJ.mk | intro hc); all_goals try ((repeat' first | apply And.intro | intro hs) <;> (try simp only [go_sem, Bool.and_eq_false_iff] at hs) <;> omega)
 ·exact z8 _ _
noncomputable def a7a : CT := i8 (fun (x : (List c9) × c6) => b9i x.1 x.2)
@[go_sem] theorem b3W (l : List c9) (x0 : List c7) (x1 : List c4) : a7a [(false, [.sl false [.s [], .sl false [.s [], .i .i64 0, .s []] []] (l.map (c9.cells false false))]), (false, [.f 301 [.p [.sl false [.i .i64 0, .s [], .i .i64 0] (x0.map c7.cells), .sl false [.i .i64 0, .s [], .sl false [.s [], .i .i64 0, .s []] [], .sl false [.i .i64 0, .s [], .sl false [.s [], .i .i64 0, .s []] [], .i .i64 0, .s [], .i .i64 0, .s [], .s [], .i .i64 0, .s []] []] (x1.map (c4.cells false false))]]])] = some (True, [], .one (false, [.b (l.any (fun y => a2a (c6.mk x0 x1) y))])) := f5 _ (by rintro ⟨_, ⟨_, _⟩⟩ ⟨_, ⟨_, _⟩⟩ h; simp at h; simp_all) (l, (c6.mk x0 x1))
theorem b3X : OkC Tryz.prog 299 a7a := f7 _
theorem b9n (l : List c9) : A0l Tryz.prog 341 [(false, [.sl false [.s [], .sl false [.s [], .i .i64 0, .s []] []] (l.map (c9.cells false false))]), (false, [.f 302 []])] [] (.one (false, [.i .i64 (z7 (fun y => a8W y) l)])) := by
 refine spec_of2 false false none Tryz.func341 a8O (rvs := [.t 4]) (hΓ := mkCtx_ok (deep := false) (l := [(302, [], a0y)]) ⟨a7n, trivial⟩) (h := ?_)
 intro hb hE
 simp only [go_sem] at hb
 simp only [a4Y, x']
 (try refine A2V ?_); simp only [go_sem]; (repeat' first | apply CJ.mk | intro hc); all_goals try ((repeat' first | apply And.intro | intro hs) <;> (try simp only [go_sem, Bool.and_eq_false_iff] at hs) <;> omega)
 refine aw_loop2 false [] [0, 1, 7] [] [] (fun i : {i : Nat // i ≤ l.length ∧ (l.take i).any (fun y => a8W y) = false} => [(8, slV (.i .i64 i.1))]) (fun i => []) (fun i => []) (fun i => l.length - i.1) (⟨0, by simp⟩) _ rfl ?_ ?_
 ·simp only [go_sem]
  all_goals first | omega | ((repeat' apply And.intro) <;> first | omega | rfl | skip)
 intro S0 hS0 i
 simp only [go_sem] at hS0
 obtain ⟨i, hi, ha⟩ := i
 (try refine A2V ?_); simp only [go_sem, hS0]; (repeat' first | apply CJ.mk | intro hc); all_goals try ((repeat' first | apply And.intro | intro hs) <;> (try simp only [go_sem, Bool.and_eq_false_iff] at hs) <;> omega)
 ·exact (o9 (p := fun y => a8W y) (d := default) (by omega) ha (by simpa [-List.getD_eq_getElem?_getD] using hc)).symm
 ·(refine lpK_n2 (⟨i + 1, by omega, l3 (p := fun y => a8W y) default (by omega) ha (by simpa [-List.getD_eq_getElem?_getD] using hc)⟩) _ rfl ?_; simp only [go_sem, hS0]; first | done | ((repeat' apply And.intro) <;> first | omega | (refine w64 ?_ ?_ ?_ <;> omega) | rfl | skip))
 ·exact (o8 (by rwa [f9 (by omega)] at ha)).symm
 all_goals trace_state
noncomputable def a7f : CT := i8 (fun (x : (List c9)) => b9n x)
@[go_sem] theorem c4V (l : List c9) : a7f [(false, [.sl false [.s [], .sl false [.s [], .i .i64 0, .s []] []] (l.map (c9.cells false false))]), (false, [.f 302 []])] = some (True, [], .one (false, [.i .i64 (z7 (fun y => a8W y) l)])) := f5 _ (by intro x y h; simp at h; simp_all) l
theorem b4f : OkC Tryz.prog 341 a7f := f7 _
theorem b9j (l : List c9) : A0l Tryz.prog 299 [(false, [.sl false [.s [], .sl false [.s [], .i .i64 0, .s []] []] (l.map (c9.cells false false))]), (false, [.f 302 []])] [] (.one (false, [.b (l.any (fun y => a8W y))])) := by
 refine spec_of2 false false none Tryz.func299 a8N (rvs := [.t 4]) (hΓ := mkCtx_ok (deep := false) (l := [(341, [], a7f)]) ⟨b4f, trivial⟩) (h := ?_)
 intro hb hE
 simp only [go_sem] at hb
 simp only [a4X, x']
 (try refine A2V ?_); simp only [go_sem]; (repeat' first | apply CJ.mk | intro hc); all_goals try ((repeat' first | apply And.intro | intro hs) <;> (try simp only [go_sem, Bool.and_eq_false_iff] at hs) <;> omega)
 ·exact z8 _ _
noncomputable def a7b : CT := i8 (fun (x : (List c9)) => b9j x)
@[go_sem] theorem b3Y (l : List c9) : a7b [(false, [.sl false [.s [], .sl false [.s [], .i .i64 0, .s []] []] (l.map (c9.cells false false))]), (false, [.f 302 []])] = some (True, [], .one (false, [.b (l.any (fun y => a8W y))])) := f5 _ (by intro x y h; simp at h; simp_all) l
theorem b3Z : OkC Tryz.prog 299 a7b := f7 _
noncomputable def p7 : CT := (ctO a6Z (ctO a7a a7b))
@[go_sem] theorem b8n (l : List c9) (x0 : List c7) (x1 : List c4) : p7 [(false, [.sl false [.s [], .sl false [.s [], .i .i64 0, .s []] []] (l.map (c9.cells false false))]), (false, [.f 300 [.p [.sl false [.i .i64 0, .s [], .i .i64 0] (x0.map c7.cells), .sl false [.i .i64 0, .s [], .sl false [.s [], .i .i64 0, .s []] [], .sl false [.i .i64 0, .s [], .sl false [.s [], .i .i64 0, .s []] [], .i .i64 0, .s [], .i .i64 0, .s [], .s [], .i .i64 0, .s []] []] (x1.map (c4.cells false false))]]])] = some (True, [], .one (false, [.b (l.any (fun y => a1Z (c6.mk x0 x1) y))])) := b8S (b3U l x0 x1)
@[go_sem] theorem b8o (l : List c9) (x0 : List c7) (x1 : List c4) : p7 [(false, [.sl false [.s [], .sl false [.s [], .i .i64 0, .s []] []] (l.map (c9.cells false false))]), (false, [.f 301 [.p [.sl false [.i .i64 0, .s [], .i .i64 0] (x0.map c7.cells), .sl false [.i .i64 0, .s [], .sl false [.s [], .i .i64 0, .s []] [], .sl false [.i .i64 0, .s [], .sl false [.s [], .i .i64 0, .s []] [], .i .i64 0, .s [], .i .i64 0, .s [], .s [], .i .i64 0, .s []] []] (x1.map (c4.cells false false))]]])] = some (True, [], .one (false, [.b (l.any (fun y => a2a (c6.mk x0 x1) y))])) := (b4l (b1p (fun x h => by simp only [List.cons.injEq, Prod.mk.injEq, C.i.injEq, C.s.injEq, C.b.injEq, C.sl.injEq, C.p.injEq, C.mp.injEq, C.f.injEq, reduceCtorEq, Bool.false_eq_true, Nat.reduceEqDiff, Bool.true_eq_false, true_and, and_true, false_and, and_false] at h))).trans (b8S (b3W l x0 x1))
@[go_sem] theorem b8p (l : List c9) : p7 [(false, [.sl false [.s [], .sl false [.s [], .i .i64 0, .s []] []] (l.map (c9.cells false false))]), (false, [.f 302 []])] = some (True, [], .one (false, [.b (l.any (fun y => a8W y))])) := (b4l (b1p (fun x h => by simp only [List.cons.injEq, Prod.mk.injEq, C.i.injEq, C.s.injEq, C.b.injEq, C.sl.injEq, C.p.injEq, C.mp.injEq, C.f.injEq, reduceCtorEq, Bool.false_eq_true, Nat.reduceEqDiff, Bool.true_eq_false, true_and, and_true, false_and, and_false] at h))).trans ((b4l (b1p (fun x h => by simp only [List.cons.injEq, Prod.mk.injEq, C.i.injEq, C.s.injEq, C.b.injEq, C.sl.injEq, C.p.injEq, C.mp.injEq, C.f.injEq, reduceCtorEq, Bool.false_eq_true, Nat.reduceEqDiff, Bool.true_eq_false, true_and, and_true, false_and, and_false] at h))).trans (b3Y l))
theorem a6j : OkC Tryz.prog 299 p7 := (c5c b3V (c5c b3X b3Z))
def a4l : ACode := q' ([o' 2 (.box 2 (.t 0)), o' 3 (.box 4 (.t 1)), z' 4 0]) (q' ([e' 8 4 3, c' 9 168 [8], m' 5 9]) (.seq (q' ([m' 10 5, o' 11 (.mf 300 [.t 2]), c' 12 299 [10,
 11]]) (.cond (.t 12) (q' ([z' 4 3]) .ret) .skip)) (.seq (q' ([m' 13 5, o' 14 (.mf 301 [.t 2]), c' 15 299 [13, 14]]) (.cond (.t 15) (q' ([z' 4 4]) .ret)
 .skip)) (q' ([e' 16 2 2, f' 17 1 3, f' 18 0 17, l' 19 18, c' 20 82 [16, 19], m' 6 20]) (q' ([m' 21 6, o' 22 (.bin .eql (.t 21) (k' 3)), m' 23 22, ⟨some 24,
 .fa 1 (.t 3), some (23, false)⟩, ⟨some 25, .fa 0 (.t 24), some (23, false)⟩, ⟨some 26, .ld false 1 (.t 25), some (23, false)⟩, ⟨some 27, .bin .eql (.t 26) (.k
 (.v false [.c (.s [102, 111, 114, 119, 97, 114, 100])])), some (23, false)⟩, o' 28 (.pick (.t 23) (.k (.v false [.c (.b true)])) (.t 27)), m' 7 28]) (.seq
 (.block 0 (q' ([f' 30 0 3, l' 31 30, o' 32 (.bin .eql (.t 31) (k' 1)), m' 33 32, ⟨some 34, .mov (.t 7), some (33, true)⟩, ⟨some 35, .not (.t 34), some (33,
 true)⟩, o' 36 (.pick (.t 33) (.t 35) (.k (.v false [.c (.b false)]))), m' 37 36, ⟨some 38, .fa 0 (.t 3), some (37, false)⟩, ⟨some 39, .ld false 1 (.t 38),
 some (37, false)⟩, ⟨some 40, .bin .neq (.t 39) (k' 1), some (37, false)⟩, ⟨some 41, .mov (.t 40), some (37, false)⟩, ⟨some 42, .mov (.t 6), some (41, true)⟩,
 ⟨some 43, .bin .neq (.t 42) (k' 1), some (41, true)⟩, ⟨some 44, .pick (.t 41) (.t 43) (.k (.v false [.c (.b false)])), some (37, false)⟩, o' 45 (.pick (.t 37)
 (.k (.v false [.c (.b true)])) (.t 44)), m' 29 45]) (.cond (.t 29) (q' ([z' 4 5]) .ret) (q' ([m' 47 5, o' 48 (.slc 2 (.t 47) (some (k' 1)) none none), o' 49
 (.call 299 [.t 48, .k (.v false [.c (.f 302 [])])]), m' 46 49]) (.cond (.t 46) (q' ([z' 4 6]) .ret) (q' ([e' 51 2 2, e' 52 4 3, c' 53 303 [51, 52], o' 54
 (.not (.t 53)), m' 50 54]) (.cond (.t 50) (q' ([z' 4 7]) .ret) .skip))))))) (q' ([z' 4 0]) .ret)))))))
theorem b1w : cmp Tryz.prog Tryz.f220 = some a4l := by kernel_rfl
theorem b3s (p : c6) (r : c4) (hpre : r.Body.length ≤ 8) : A0l Tryz.prog 220 [(true, [.sl false [.i .i64 0, .s [], .i .i64 0] (p.Decls.map c7.cells), .sl false [.i .i64 0, .s [], .sl false [.s [], .i .i64 0, .s []] [], .sl false [.i .i64 0, .s [], .sl false [.s [], .i .i64 0, .s []] [], .i .i64 0, .s [], .i .i64 0, .s [], .s [], .i .i64 0, .s []] []] (p.Rules.map (c4.cells false false))]), (true, [.i .i64 r.Kind, .s r.Head.Name, .sl false [.s [], .i .i64 0, .s []] (r.Head.Args.map c5.cells), .sl false [.i .i64 0, .s [], .sl false [.s [], .i .i64 0, .s []] [], .i .i64 0, .s [], .i .i64 0, .s [], .s [], .i .i64 0, .s []] (r.Body.map (c8.cells false false))])] [] (.one (false, [.i .i64 (l6 p r)])) := by
 refine spec_of2 false false none Tryz.func220 b1w (rvs := [.t 4]) (hΓ := mkCtx_ok (deep := false) (l := [(168, [], a0s), (299, [], p7), (82, [], u9), (303, [], a0h)]) ⟨a3E, a6j, w8, a6i, trivial⟩) (h := ?_)
 intro hb hE
 simp only [go_sem] at hb
 simp only [a4l, x']
 (try refine A2V ?_); simp only [go_sem]; (repeat' first | apply CJ.mk | intro hc); all_goals try ((repeat' first | apply And.intro | intro hs) <;> (try simp only [go_sem, Bool.and_eq_false_iff] at hs) <;> omega)
 all_goals (try simp only [i3] at *)
 all_goals (clear hb)
 all_goals (first | (have := a3B r; omega) | grind [l6, a3L, fwB] | trace_state)
noncomputable def a1H : CT := p4 (fun (x : c6 × c4) h => b3s x.1 x.2 h)
@[go_sem] theorem c0L (x0 : List c7) (x1 : List c4) (x2 : Int) (x3 : List UInt8) (x4 : List c5) (x5 : List c8) : a1H [(true, [.sl false [.i .i64 0, .s [], .i .i64 0] (x0.map c7.cells), .sl false [.i .i64 0, .s [], .sl false [.s [], .i .i64 0, .s []] [], .sl false [.i .i64 0, .s [], .sl false [.s [], .i .i64 0, .s []] [], .i .i64 0, .s [], .i .i64 0, .s [], .s [], .i .i64 0, .s []] []] (x1.map (c4.cells false false))]), (true, [.i .i64 x2, .s x3, .sl false [.s [], .i .i64 0, .s []] (x4.map c5.cells), .sl false [.i .i64 0, .s [], .sl false [.s [], .i .i64 0, .s []] [], .i .i64 0, .s [], .i .i64 0, .s [], .s [], .i .i64 0, .s []] (x5.map (c8.cells false false))])] = some ((c4.mk x2 (c9.mk x3 x4) x5).Body.length ≤ 8, [], .one (false, [.i .i64 (l6 (c6.mk x0 x1) (c4.mk x2 (c9.mk x3 x4) x5))])) := i6 _ (by rintro ⟨⟨_, _⟩, ⟨_, ⟨_, _⟩, _⟩⟩ ⟨⟨_, _⟩, ⟨_, ⟨_, _⟩, _⟩⟩ h; simp at h; simp_all) ((c6.mk x0 x1), (c4.mk x2 (c9.mk x3 x4) x5))
theorem a8F : OkC Tryz.prog 220 a1H := i7 _
theorem a9q {α : Type} {q : α → Bool} {l : List α} {i : Nat} (d : α) (h : i < l.length) (hp : q (l.getD i d) = true) : l.any q = true := by
 rw [List.any_eq_true]
 exact ⟨l.getD i d, by rw [l9 d h]; exact List.getElem_mem h, hp⟩
theorem c2R {α : Type} {q : α → Bool} {l : List α} {i k : Nat} (d : α) (hk : k ≤ i) (h : i < l.length) (ha : ((l.take i).drop k).any q = false) (hp : q (l.getD i d) = false) : ((l.take (i + 1)).drop k).any q = false := by
 rw [i4 d h, List.drop_append_of_le_length (by rw [List.length_take]; omega), List.any_append, ha]
 simp only [List.any_cons, List.any_nil, hp, Bool.or_false]
theorem c4J {α : Type} {q : α → Bool} {l : List α} {i k : Nat} (d : α) (hk : k ≤ i) (h : i < l.length) (hp : q (l.getD i d) = true) : (l.drop k).any q = true := by
 rw [List.any_eq_true]
 refine ⟨l.getD i d, ?_, hp⟩
 rw [l9 d h, List.mem_drop_iff_getElem]
 exact ⟨i - k, by omega, by congr 1; omega⟩
def a6b : ACode := q' ([o' 2 (.box 2 (.t 0)), o' 3 (.box 4 (.t 1)), z' 4 0]) (q' ([e' 15 4 3, c' 16 214 [15], m' 5 16]) (.seq (q' ([m' 17 5, n' 18 17, z' 19 0]) (.block 0 (.loop
 (q' ([r' 20 19 18]) (.seq (.cond (.t 20) .skip (.exit 0)) (.seq (.block 1 (q' ([i' 21 2 17 19, e' 22 2 21, w' 7 [.s, .sl [.s [], .i .i64 0, .s []]], s' 2 7
 22]) (q' ([e' 23 2 2, f' 24 0 7, l' 25 24, c' 26 215 [23, 25], o' 27 (.bin .lss (.t 26) (k' 0))]) (.cond (.t 27) (q' ([z' 4 3]) .ret) .skip)))) (g' [a' 28 19,
 m' 19 28]))))))) (.seq (q' ([m' 29 5, n' 30 29, z' 31 0]) (.block 2 (.loop (q' ([r' 32 31 30]) (.seq (.cond (.t 32) .skip (.exit 2)) (.seq (.block 3 (q' ([i'
 33 2 29 31, e' 34 2 33, w' 9 [.s, .sl [.s [], .i .i64 0, .s []]], s' 2 9 34]) (.seq (.reg true [e' 35 2 2, f' 36 0 9, l' 37 36, c' 38 215 [35, 37], f' 39 1 9,
 l' 40 39, n' 41 40, o' 42 (.bin .neq (.t 38) (.t 41))]) (.cond (.t 42) (q' ([z' 4 4]) .ret) .skip)))) (g' [a' 43 31, m' 31 43]))))))) (q' ([e' 44 2 2, f' 45 1
 3, f' 46 0 45, l' 47 46, c' 48 160 [44, 47], o' 49 (.fl false 0 1 (.t 48)), m' 10 49]) (.seq (q' ([f' 50 0 3, l' 51 50, o' 52 (.bin .eql (.t 51) (k' 1)), m'
 53 52, ⟨some 54, .mov (.t 10), some (53, true)⟩, ⟨some 55, .bin .neq (.t 54) (k' 3), some (53, true)⟩, o' 56 (.pick (.t 53) (.t 55) (.k (.v false [.c (.b
 false)]))), m' 57 56, ⟨some 58, .fa 1 (.t 3), some (57, true)⟩, ⟨some 59, .fa 0 (.t 58), some (57, true)⟩, ⟨some 60, .ld false 1 (.t 59), some (57, true)⟩,
 ⟨some 61, .bin .neq (.t 60) (.k (.v false [.c (.s [102, 111, 114, 119, 97, 114, 100])])), some (57, true)⟩, o' 62 (.pick (.t 57) (.t 61) (.k (.v false [.c (.b
 false)]))), m' 63 62, ⟨some 64, .fa 0 (.t 3), some (63, false)⟩, ⟨some 65, .ld false 1 (.t 64), some (63, false)⟩, ⟨some 66, .bin .neq (.t 65) (k' 1), some
 (63, false)⟩, ⟨some 67, .mov (.t 66), some (63, false)⟩, ⟨some 68, .mov (.t 10), some (67, true)⟩, ⟨some 69, .bin .neq (.t 68) (k' 1), some (67, true)⟩, ⟨some
 70, .pick (.t 67) (.t 69) (.k (.v false [.c (.b false)])), some (63, false)⟩, o' 71 (.pick (.t 63) (.k (.v false [.c (.b true)])) (.t 70))]) (.cond (.t 71)
 (q' ([z' 4 5]) .ret) .skip)) (.seq (q' ([m' 72 5, o' 73 (.slc 2 (.t 72) (some (k' 1)) none none), n' 74 73, z' 75 0]) (.block 4 (.loop (q' ([r' 76 75 74])
 (.seq (.cond (.t 76) .skip (.exit 4)) (.seq (.block 5 (q' ([i' 77 2 73 75, e' 78 2 77, w' 12 [.s, .sl [.s [], .i .i64 0, .s []]], s' 2 12 78]) (q' ([f' 79 0
 12, l' 80 79, o' 81 (.bin .eql (.t 80) (.k (.v false [.c (.s [102, 111, 114, 119, 97, 114, 100])])))]) (.cond (.t 81) (q' ([z' 4 6]) .ret) .skip)))) (g' [a'
 82 75, m' 75 82]))))))) (q' ([z' 13 0]) (.seq (q' ([f' 83 0 3, l' 84 83, o' 85 (.bin .neq (.t 84) (k' 1)), m' 86 85, ⟨some 87, .fa 1 (.t 3), some (86,
 false)⟩, ⟨some 88, .fa 0 (.t 87), some (86, false)⟩, ⟨some 89, .ld false 1 (.t 88), some (86, false)⟩, ⟨some 90, .bin .eql (.t 89) (.k (.v false [.c (.s [102,
 111, 114, 119, 97, 114, 100])])), some (86, false)⟩, o' 91 (.pick (.t 86) (.k (.v false [.c (.b true)])) (.t 90))]) (.cond (.t 91) (.seq (.seq (.reg true [f'
 92 3 3, l' 93 92, n' 94 93, o' 95 (.bin .eql (.t 94) (k' 0)), m' 96 95, ⟨some 97, .fa 3 (.t 3), some (96, false)⟩, ⟨some 98, .ld false 1 (.t 97), some (96,
 false)⟩, ⟨some 99, .ia 10 (.t 98) (k' 0), some (96, false)⟩, ⟨some 100, .fa 0 (.t 99), some (96, false)⟩, ⟨some 101, .ld false 1 (.t 100), some (96, false)⟩,
 ⟨some 102, .bin .neq (.t 101) (k' 1), some (96, false)⟩, o' 103 (.pick (.t 96) (.k (.v false [.c (.b true)])) (.t 102)), m' 104 103, ⟨some 105, .ld true 2 (.t
 2), some (104, false)⟩, ⟨some 106, .fa 3 (.t 3), some (104, false)⟩, ⟨some 107, .ld false 1 (.t 106), some (104, false)⟩, ⟨some 108, .ia 10 (.t 107) (k' 0),
 some (104, false)⟩, ⟨some 109, .fa 1 (.t 108), some (104, false)⟩, ⟨some 110, .fa 0 (.t 109), some (104, false)⟩, ⟨some 111, .ld false 1 (.t 110), some (104,
 false)⟩, ⟨some 112, .call 216 [.t 105, .t 111], some (104, false)⟩, ⟨some 113, .not (.t 112), some (104, false)⟩, o' 114 (.pick (.t 104) (.k (.v false [.c (.b
 true)])) (.t 113))]) (.cond (.t 114) (q' ([z' 4 7]) .ret) .skip)) (.seq (q' ([f' 115 0 3, l' 116 115, o' 117 (.bin .eql (.t 116) (k' 1)), m' 118 117, ⟨some
 119, .fa 3 (.t 3), some (118, true)⟩, ⟨some 120, .ld false 1 (.t 119), some (118, true)⟩, ⟨some 121, .ia 10 (.t 120) (k' 0), some (118, true)⟩, ⟨some 122, .fa
 1 (.t 121), some (118, true)⟩, ⟨some 123, .fa 0 (.t 122), some (118, true)⟩, ⟨some 124, .ld false 1 (.t 123), some (118, true)⟩, ⟨some 125, .bin .neq (.t 124)
 (.k (.v false [.c (.s [112, 97, 99, 107, 101, 116])])), some (118, true)⟩, o' 126 (.pick (.t 118) (.t 125) (.k (.v false [.c (.b false)])))]) (.cond (.t 126)
 (q' ([z' 4 7]) .ret) .skip)) (g' [z' 13 1]))) .skip)) (.seq (q' ([m' 127 13, m' 14 127]) (.block 6 (.loop (.seq (q' ([m' 128 14, f' 129 3 3, l' 130 129, n'
 131 130, r' 132 128 131]) (.cond (.t 132) .skip (.exit 6))) (.seq (.block 7 (.seq (.reg true [f' 135 3 3, l' 136 135, m' 137 14, i' 138 10 136 137, f' 139 0
 138, l' 140 139, o' 141 (.bin .neq (.t 140) (k' 3)), m' 142 141, ⟨some 143, .ld true 2 (.t 2), some (142, true)⟩, ⟨some 144, .fa 3 (.t 3), some (142, true)⟩,
 ⟨some 145, .ld false 1 (.t 144), some (142, true)⟩, ⟨some 146, .mov (.t 14), some (142, true)⟩, ⟨some 147, .ia 10 (.t 145) (.t 146), some (142, true)⟩, ⟨some
 148, .fa 1 (.t 147), some (142, true)⟩, ⟨some 149, .fa 0 (.t 148), some (142, true)⟩, ⟨some 150, .ld false 1 (.t 149), some (142, true)⟩, ⟨some 151, .call 216
 [.t 143, .t 150], some (142, true)⟩, o' 152 (.pick (.t 142) (.t 151) (.k (.v false [.c (.b false)])))]) (.cond (.t 152) (q' ([z' 4 7]) .ret) .skip))) (g' [m'
 133 14, a' 134 133, m' 14 134])))))) (q' ([z' 4 0]) .ret))))))))))
theorem b3l : cmp Tryz.prog Tryz.f135 = some a6b := by kernel_rfl
theorem b5y (p : c6) (r : c4) (hpre : r.Body.length ≤ 8 ∧ j7 p = true) : A0l Tryz.prog 135 [(true, [.sl false [.i .i64 0, .s [], .i .i64 0] (p.Decls.map c7.cells), .sl false [.i .i64 0, .s [], .sl false [.s [], .i .i64 0, .s []] [], .sl false [.i .i64 0, .s [], .sl false [.s [], .i .i64 0, .s []] [], .i .i64 0, .s [], .i .i64 0, .s [], .s [], .i .i64 0, .s []] []] (p.Rules.map (c4.cells false false))]), (true, [.i .i64 r.Kind, .s r.Head.Name, .sl false [.s [], .i .i64 0, .s []] (r.Head.Args.map c5.cells), .sl false [.i .i64 0, .s [], .sl false [.s [], .i .i64 0, .s []] [], .i .i64 0, .s [], .i .i64 0, .s [], .s [], .i .i64 0, .s []] (r.Body.map (c8.cells false false))])] [] (.one (false, [.i .i64 (l6 p r)])) := by
 refine spec_of2 false false none Tryz.func135 b3l (rvs := [.t 4]) (hΓ := mkCtx_ok (deep := false) (l := [(214, [], a0c), (215, [], a1M), (160, [], t9), (216, [], a1a)]) ⟨a2V, a8L, v8, a7Z, trivial⟩) (h := ?_)
 intro hb hE
 simp only [go_sem] at hb
 simp only [a6b, x']
 obtain ⟨hp8, hpB⟩ := hpre
 have hA := a5a r
 have hA1 := a3B r
 (try refine A2V ?_); simp only [go_sem, i3]; (repeat' first | apply CJ.mk | intro hc); all_goals try ((repeat' first | apply And.intro | intro hs) <;> (try simp only [go_sem, Bool.and_eq_false_iff] at hs) <;> omega)
 refine aw_loop2 false [] [2, 3, 5, 17, 18] [4, 6] [2048] (fun i : {i : Nat // i ≤ (i5 r).length ∧ ((i5 r).take i).any (a1Z p) = false} => [(19, slV (.i .i64 i.1))]) (fun i => []) (fun i => []) (fun i => (i5 r).length - i.1) (⟨0, by simp⟩) _ rfl ?_ ?_
 ·simp only [go_sem, i3]
  all_goals first | omega | ((repeat' apply And.intro) <;> first | omega | rfl | skip)
 intro S0 hS0 i
 simp only [go_sem, i3] at hS0
 obtain ⟨i, hi, ha⟩ := i
 (try refine A2V ?_); simp only [go_sem, i3, hS0]; (repeat' first | apply CJ.mk | intro hc); all_goals try ((repeat' first | apply And.intro | intro hs) <;> (try simp only [go_sem, Bool.and_eq_false_iff] at hs) <;> omega)
 ·rw [l6, a9q (q := a1Z p) default (by omega) (decide_eq_true hc)]; rfl
 ·(refine lpK_n2 (⟨i + 1, by omega, l3 (p := a1Z p) default (by omega) ha (decide_eq_false hc)⟩) _ rfl ?_; simp only [go_sem, i3, hS0]; first | done | ((repeat' apply And.intro) <;> first | omega | (refine w64 ?_ ?_ ?_ <;> omega) | rfl | skip))
 rw [f9 (by omega)] at ha
 clear hc hi
 refine aw_loop2 false [] [2, 3, 5, 29, 30] [4, 6] [2048] (fun i : {i : Nat // i ≤ (i5 r).length ∧ ((i5 r).take i).any (a2a p) = false} => [(31, slV (.i .i64 i.1))]) (fun i => []) (fun i => []) (fun i => (i5 r).length - i.1) (⟨0, by simp⟩) _ rfl ?_ ?_
 ·simp only [go_sem, i3, hS0]
  all_goals first | omega | ((repeat' apply And.intro) <;> first | omega | rfl | skip)
 intro S1 hS1 i
 simp only [go_sem, i3, hS0] at hS1
 obtain ⟨i, hi, hb1⟩ := i
 (try refine A2V ?_); simp only [go_sem, i3, hS0, hS1]; (repeat' first | apply CJ.mk | intro hc); all_goals try ((repeat' first | apply And.intro | intro hs) <;> (try simp only [go_sem, Bool.and_eq_false_iff] at hs) <;> omega)
 ·rw [l6, ha, a9q (q := a2a p) default (by omega) hc]; rfl
 ·(refine lpK_n2 (⟨i + 1, by omega, l3 (p := a2a p) default (by omega) hb1 hc⟩) _ rfl ?_; simp only [go_sem, i3, hS0, hS1]; first | done | ((repeat' apply And.intro) <;> first | omega | (refine w64 ?_ ?_ ?_ <;> omega) | rfl | skip))
 ·rw [f9 (by omega)] at hb1
  clear hb hS0 hS1
  grind [l6, a3L, u0, fwB]
 rw [f9 (by omega)] at hb1
 have hk : a3L p r = false := by
  clear hb hS0 hS1
  grind [a3L, u0, fwB]
 clear hc hi
 refine aw_loop2 false [] [2, 3, 73, 74] [4, 6] [9344] (fun i : {i : Nat // i ≤ ((i5 r).drop 1).length ∧ (((i5 r).drop 1).take i).any a8W = false} => [(75, slV (.i .i64 i.1))]) (fun i => []) (fun i => []) (fun i => ((i5 r).drop 1).length - i.1) (⟨0, by simp⟩) _ rfl ?_ ?_
 ·simp only [go_sem, i3, hS0, hS1]
  all_goals first | omega | ((repeat' apply And.intro) <;> first | omega | rfl | skip)
 intro S2 hS2 i
 simp only [go_sem, i3, hS0, hS1] at hS2
 obtain ⟨i, hi, hf⟩ := i
 have hD : ((i5 r).drop 1).length ≤ 8 := by rw [List.length_drop]; omega
 (try refine A2V ?_); simp only [go_sem, i3, hS0, hS1, hS2]; (repeat' first | apply CJ.mk | intro hc); all_goals try ((repeat' first | apply And.intro | intro hs) <;> (try simp only [go_sem, Bool.and_eq_false_iff] at hs) <;> omega)
 ·rw [l6, ha, hb1, hk, a9q (q := a8W) default (by omega) hc]; rfl
 ·(refine lpK_n2 (⟨i + 1, by omega, l3 (p := a8W) default (by omega) hf hc⟩) _ rfl ?_; simp only [go_sem, i3, hS0, hS1, hS2]; first | done | ((repeat' apply And.intro) <;> first | omega | (refine w64 ?_ ?_ ?_ <;> omega) | rfl | skip))
 all_goals (rw [f9 (by omega)] at hf)
 ·clear hb hS0 hS1 hS2; grind
 ·clear hb hS0 hS1 hS2; grind
 ·clear hb hS0 hS1 hS2; grind [l6, b1G, b8Z, pkB, fwB]
 ·clear hb hS0 hS1 hS2; grind
 ·clear hb hS0 hS1 hS2; grind [l6, b1G, b8Z, pkB, fwB]
 ·have hg : b1G p r = !(r.Body.drop 1).any (a5z p) := by
   clear hb hS0 hS1 hS2; grind [b1G, b8Z, pkB, fwB]
  have h1 : 1 ≤ r.Body.length := by
   clear hb hS0 hS1 hS2; grind
  clear hc
  refine aw_loop2 false [] [2, 3] [4, 6] [] (fun i : {i : Nat // 1 ≤ i ∧ i ≤ r.Body.length ∧ ((r.Body.take i).drop 1).any (a5z p) = false} => [(14, slV (.i .i64 i.1))]) (fun i => []) (fun i => []) (fun i => r.Body.length - i.1) (⟨1, by omega, by omega, by cases r.Body <;> rfl⟩) _ rfl ?_ ?_
  ·simp only [go_sem, i3, hS0, hS1, hS2]
   all_goals first | omega | ((repeat' apply And.intro) <;> first | omega | rfl | skip)
  intro S3 hS3 i
  simp only [go_sem, i3, hS0, hS1, hS2] at hS3
  obtain ⟨i, h1i, hi, hm⟩ := i
  (try refine A2V ?_); simp only [go_sem, i3, hS0, hS1, hS2, hS3]; (repeat' first | apply CJ.mk | intro hc); all_goals try ((repeat' first | apply And.intro | intro hs) <;> (try simp only [go_sem, Bool.and_eq_false_iff] at hs) <;> omega)
  ·have : b1G p r = false := by rw [hg, c4J (q := a5z p) (i := i) default (by omega) (by omega) (Bool.and_eq_true_iff.2 hc)]; rfl
   rw [l6, ha, hb1, hk, hf, this]; rfl
  ·(refine lpK_n2 (⟨i + 1, by omega, by omega, c2R (q := a5z p) default (by omega) (by omega) hm hc⟩) _ rfl ?_; simp only [go_sem, i3, hS0, hS1, hS2, hS3]; first | done | ((repeat' apply And.intro) <;> first | omega | (refine w64 ?_ ?_ ?_ <;> omega) | rfl | skip))
  ·rw [f9 (by omega)] at hm
   rw [hm] at hg
   rw [l6, ha, hb1, hk, hf, hg]; rfl
 ·have hg : b1G p r = !r.Body.any (a5z p) := by
   clear hb hS0 hS1 hS2; grind [b1G, fwB]
  clear hc
  refine aw_loop2 false [] [2, 3] [4, 6] [] (fun i : {i : Nat // i ≤ r.Body.length ∧ (r.Body.take i).any (a5z p) = false} => [(14, slV (.i .i64 i.1))]) (fun i => []) (fun i => []) (fun i => r.Body.length - i.1) (⟨0, by omega, by simp⟩) _ rfl ?_ ?_
  ·simp only [go_sem, i3, hS0, hS1, hS2]
   all_goals first | omega | ((repeat' apply And.intro) <;> first | omega | rfl | skip)
  intro S3 hS3 i
  simp only [go_sem, i3, hS0, hS1, hS2] at hS3
  obtain ⟨i, hi, hm⟩ := i
  (try refine A2V ?_); simp only [go_sem, i3, hS0, hS1, hS2, hS3]; (repeat' first | apply CJ.mk | intro hc); all_goals try ((repeat' first | apply And.intro | intro hs) <;> (try simp only [go_sem, Bool.and_eq_false_iff] at hs) <;> omega)
  ·have : b1G p r = false := by rw [hg, a9q (q := a5z p) (i := i) default (by omega) (Bool.and_eq_true_iff.2 hc)]; rfl
   rw [l6, ha, hb1, hk, hf, this]; rfl
  ·(refine lpK_n2 (⟨i + 1, by omega, l3 (p := a5z p) default (by omega) hm hc⟩) _ rfl ?_; simp only [go_sem, i3, hS0, hS1, hS2, hS3]; first | done | ((repeat' apply And.intro) <;> first | omega | (refine w64 ?_ ?_ ?_ <;> omega) | rfl | skip))
  ·rw [f9 (by omega)] at hm
   rw [hm] at hg
   rw [l6, ha, hb1, hk, hf, hg]; rfl
noncomputable def a2W : CT := p4 (fun (x : c6 × c4) h => b5y x.1 x.2 h)
@[go_sem] theorem c2d (x0 : List c7) (x1 : List c4) (x2 : Int) (x3 : List UInt8) (x4 : List c5) (x5 : List c8) : a2W [(true, [.sl false [.i .i64 0, .s [], .i .i64 0] (x0.map c7.cells), .sl false [.i .i64 0, .s [], .sl false [.s [], .i .i64 0, .s []] [], .sl false [.i .i64 0, .s [], .sl false [.s [], .i .i64 0, .s []] [], .i .i64 0, .s [], .i .i64 0, .s [], .s [], .i .i64 0, .s []] []] (x1.map (c4.cells false false))]), (true, [.i .i64 x2, .s x3, .sl false [.s [], .i .i64 0, .s []] (x4.map c5.cells), .sl false [.i .i64 0, .s [], .sl false [.s [], .i .i64 0, .s []] [], .i .i64 0, .s [], .i .i64 0, .s [], .s [], .i .i64 0, .s []] (x5.map (c8.cells false false))])] = some ((c4.mk x2 (c9.mk x3 x4) x5).Body.length ≤ 8 ∧ j7 (c6.mk x0 x1) = true, [], .one (false, [.i .i64 (l6 (c6.mk x0 x1) (c4.mk x2 (c9.mk x3 x4) x5))])) := i6 _ (by rintro ⟨⟨_, _⟩, ⟨_, ⟨_, _⟩, _⟩⟩ ⟨⟨_, _⟩, ⟨_, ⟨_, _⟩, _⟩⟩ h; simp at h; simp_all) ((c6.mk x0 x1), (c4.mk x2 (c9.mk x3 x4) x5))
theorem a9Q : OkC Tryz.prog 135 a2W := i7 _
theorem b2t (p : c6) (r : c4) : 0 ≤ l6 p r := by
 unfold l6
 cases (i5 r).any (a1Z p) <;> cases (i5 r).any (a2a p) <;> cases a3L p r <;> cases ((i5 r).drop 1).any a8W <;> cases b1G p r <;> decide
theorem a1u {p : c6} (h : j7 p = false) : g9 p = (1, 0) := by simp [g9, h]
theorem a0e {p : c6} (h : j7 p = true) {i : Nat} (hi : i < p.Decls.length) (ha : ∀ j, j < i → l5 p j = false) (hq : l5 p i = true) : g9 p = (2, (i : Int)) := by
 rw [g9, h, a7t ha hq hi, if_pos hi]; rfl
theorem a1O {p : c6} (h : j7 p = true) (hd : ∀ j, j < p.Decls.length → l5 p j = false) {i : Nat} (hi : i < p.Rules.length) (ha : ∀ j, j < i → o5 p j = false) (hq : o5 p i = true) : g9 p = (l6 p (p.Rules.getD i default), (i : Int)) := by
 rw [g9, h, a3K hd, if_neg (by omega), a7t ha hq hi, if_pos hi]; rfl
theorem a8t {p : c6} (h : j7 p = true) (hd : ∀ j, j < p.Decls.length → l5 p j = false) (ha : ∀ j, j < p.Rules.length → o5 p j = false) : g9 p = (0, 0) := by
 rw [g9, h, a3K hd, if_neg (by omega), a3K ha, if_neg (by omega)]; rfl
theorem b0D {q : Nat → Bool} {i : Nat} (h : ∀ j, j < i → q j = false) (hi : q i = false) : ∀ j, j < i + 1 → q j = false := by
 intro j hj
 rcases Nat.lt_succ_iff_lt_or_eq.1 hj with h1 | rfl
 ·exact h j h1
 ·exact hi
theorem b9C {p : c6} (h : j7 p = true) {i : Nat} (hi : i < p.Rules.length) : (p.Rules.getD i default).Body.length ≤ 8 := by
 rw [l9 default hi]; exact b4V h (List.getElem_mem hi)
def a1y : ACode := q' ([o' 2 (.box 3 (.t 0)), b' 3 false]) (q' ([f' 4 1 2, l' 5 4, f' 6 1 1, l' 7 6, o' 8 (.bin .eql (.t 5) (.t 7)), m' 3 8]) .ret)
theorem a7x : cmp Tryz.prog Tryz.f219 = some a1y := by kernel_rfl
theorem a8g (y : c7) (d : c7) : A0l Tryz.prog 219 [(true, [.i .i64 y.Kind, .s y.Name, .i .i64 y.Arity]), (false, [.p [.i .i64 d.Kind, .s d.Name, .i .i64 d.Arity]])] [] (.one (false, [.b (y.Name == d.Name)])) := by
 refine spec_of2 false false none Tryz.func219 a7x (rvs := [.t 3]) (hΓ := mkCtx_ok (deep := false) (l := []) trivial) (h := ?_)
 intro hb hE
 simp only [go_sem] at hb
 simp only [a1y, x']
 (try refine A2V ?_); simp only [go_sem]; (repeat' first | apply CJ.mk | intro hc); all_goals try ((repeat' first | apply And.intro | intro hs) <;> (try simp only [go_sem, Bool.and_eq_false_iff] at hs) <;> omega)
 all_goals (first | rfl | trace_state)
noncomputable def y9 : CT := i8 (fun (x : c7 × c7) => a8g x.1 x.2)
@[go_sem] theorem b7C (x0 : Int) (x1 : List UInt8) (x2 x3 : Int) (x4 : List UInt8) (x5 : Int) : y9 [(true, [.i .i64 x0, .s x1, .i .i64 x2]), (false, [.p [.i .i64 x3, .s x4, .i .i64 x5]])] = some (True, [], .one (false, [.b ((c7.mk x0 x1 x2).Name == (c7.mk x3 x4 x5).Name)])) := f5 _ (by rintro ⟨⟨_, _, _⟩, ⟨_, _, _⟩⟩ ⟨⟨_, _, _⟩, ⟨_, _, _⟩⟩ h; simp at h; simp_all) ((c7.mk x0 x1 x2), (c7.mk x3 x4 x5))
theorem a5h : OkC Tryz.prog 219 y9 := f7 _
def b3N : ACode := q' ([z' 4 0]) (.seq (q' ([m' 6 0, n' 7 6, z' 8 0]) (.block 0 (.loop (q' ([r' 9 8 7]) (.seq (.cond (.t 9) .skip (.exit 0)) (.seq (.block 1 (q' ([m' 10 8, m' 5
 10]) (q' ([m' 11 1, m' 12 0, m' 13 5, i' 14 3 12 13, e' 15 3 14, o' 16 (.callv (.t 11) [.t 15])]) (.cond (.t 16) (q' ([m' 17 5, m' 4 17]) .ret) .skip)))) (g'
 [a' 18 8, m' 8 18]))))))) (q' ([o' 4 (.mov (.k (.v false [.c (.i .i64 (-1))])))]) .ret))
theorem c1h : cmp Tryz.prog Tryz.f298 = some b3N := by kernel_rfl
theorem b7R (l : List c7) (d : c7) : A0l Tryz.prog 298 [(false, [.sl false [.i .i64 0, .s [], .i .i64 0] (l.map c7.cells)]), (false, [.f 219 [.p [.i .i64 d.Kind, .s d.Name, .i .i64 d.Arity]]])] [] (.one (false, [.i .i64 (z7 (fun y : c7 => y.Name == d.Name) l)])) := by
 refine spec_of2 false false none Tryz.func298 c1h (rvs := [.t 4]) (hΓ := mkCtx_ok (deep := false) (l := [(219, [], y9)]) ⟨a5h, trivial⟩) (h := ?_)
 intro hb hE
 simp only [go_sem] at hb
 simp only [b3N, x']
 (try refine A2V ?_); simp only [go_sem]; (repeat' first | apply CJ.mk | intro hc); all_goals try ((repeat' first | apply And.intro | intro hs) <;> (try simp only [go_sem, Bool.and_eq_false_iff] at hs) <;> omega)
 refine aw_loop2 false [] [0, 1, 7] [] [] (fun i : {i : Nat // i ≤ l.length ∧ (l.take i).any (fun y : c7 => y.Name == d.Name) = false} => [(8, slV (.i .i64 i.1))]) (fun i => []) (fun i => []) (fun i => l.length - i.1) (⟨0, by simp⟩) _ rfl ?_ ?_
 ·simp only [go_sem]
  all_goals first | omega | ((repeat' apply And.intro) <;> first | omega | rfl | skip)
 intro S0 hS0 i
 simp only [go_sem] at hS0
 obtain ⟨i, hi, ha⟩ := i
 (try refine A2V ?_); simp only [go_sem, hS0]; (repeat' first | apply CJ.mk | intro hc); all_goals try ((repeat' first | apply And.intro | intro hs) <;> (try simp only [go_sem, Bool.and_eq_false_iff] at hs) <;> omega)
 ·exact (o9 (p := fun y : c7 => y.Name == d.Name) (d := default) (by omega) ha (by simpa [-List.getD_eq_getElem?_getD] using hc)).symm
 ·(refine lpK_n2 (⟨i + 1, by omega, l3 (p := fun y : c7 => y.Name == d.Name) default (by omega) ha (by simpa [-List.getD_eq_getElem?_getD] using hc)⟩) _ rfl ?_; simp only [go_sem, hS0]; first | done | ((repeat' apply And.intro) <;> first | omega | (refine w64 ?_ ?_ ?_ <;> omega) | rfl | skip))
 ·exact (o8 (by rwa [f9 (by omega)] at ha)).symm
 all_goals trace_state
noncomputable def a5d : CT := i8 (fun (x : (List c7) × c7) => b7R x.1 x.2)
@[go_sem] theorem c4c (l : List c7) (x0 : Int) (x1 : List UInt8) (x2 : Int) : a5d [(false, [.sl false [.i .i64 0, .s [], .i .i64 0] (l.map c7.cells)]), (false, [.f 219 [.p [.i .i64 x0, .s x1, .i .i64 x2]]])] = some (True, [], .one (false, [.i .i64 (z7 (fun y : c7 => y.Name == (c7.mk x0 x1 x2).Name) l)])) := f5 _ (by rintro ⟨_, ⟨_, _, _⟩⟩ ⟨_, ⟨_, _, _⟩⟩ h; simp at h; simp_all) (l, (c7.mk x0 x1 x2))
theorem b2y : OkC Tryz.prog 298 a5d := f7 _
def b3J : ACode := q' ([b' 4 false]) (q' ([m' 5 0, m' 6 1, c' 7 298 [5, 6], o' 8 (.bin .geq (.t 7) (k' 0)), m' 4 8]) .ret)
theorem c1d : cmp Tryz.prog Tryz.f218 = some b3J := by kernel_rfl
theorem b7P (l : List c7) (d : c7) : A0l Tryz.prog 218 [(false, [.sl false [.i .i64 0, .s [], .i .i64 0] (l.map c7.cells)]), (false, [.f 219 [.p [.i .i64 d.Kind, .s d.Name, .i .i64 d.Arity]]])] [] (.one (false, [.b (l.any (fun y : c7 => y.Name == d.Name))])) := by
 refine spec_of2 false false none Tryz.func218 c1d (rvs := [.t 4]) (hΓ := mkCtx_ok (deep := false) (l := [(298, [], a5d)]) ⟨b2y, trivial⟩) (h := ?_)
 intro hb hE
 simp only [go_sem] at hb
 simp only [b3J, x']
 (try refine A2V ?_); simp only [go_sem]; (repeat' first | apply CJ.mk | intro hc); all_goals try ((repeat' first | apply And.intro | intro hs) <;> (try simp only [go_sem, Bool.and_eq_false_iff] at hs) <;> omega)
 ·exact z8 _ _
noncomputable def a5b : CT := i8 (fun (x : (List c7) × c7) => b7P x.1 x.2)
@[go_sem] theorem c4a (l : List c7) (x0 : Int) (x1 : List UInt8) (x2 : Int) : a5b [(false, [.sl false [.i .i64 0, .s [], .i .i64 0] (l.map c7.cells)]), (false, [.f 219 [.p [.i .i64 x0, .s x1, .i .i64 x2]]])] = some (True, [], .one (false, [.b (l.any (fun y : c7 => y.Name == (c7.mk x0 x1 x2).Name))])) := f5 _ (by rintro ⟨_, ⟨_, _, _⟩⟩ ⟨_, ⟨_, _, _⟩⟩ h; simp at h; simp_all) (l, (c7.mk x0 x1 x2))
theorem b2w : OkC Tryz.prog 218 a5b := f7 _
def a2r : ACode := q' ([o' 1 (.box 2 (.t 0)), z' 2 0, z' 3 0]) (.seq (q' ([e' 9 2 1, c' 10 134 [9], o' 11 (.not (.t 10))]) (.cond (.t 11) (q' ([z' 2 1, z' 3 0]) .ret) .skip))
 (.seq (q' ([f' 12 0 1, l' 13 12, n' 14 13, z' 15 0]) (.block 0 (.loop (q' ([r' 16 15 14]) (.seq (.cond (.t 16) .skip (.exit 0)) (.seq (.block 1 (q' ([m' 17
 15, m' 4 17]) (q' ([f' 18 0 1, l' 19 18, m' 20 4, i' 21 3 19 20, f' 22 1 21, l' 23 22, m' 5 23]) (.seq (q' ([m' 24 5, o' 25 (.bin .eql (.t 24) (.k (.v false
 [.c (.s [112, 97, 99, 107, 101, 116])]))), m' 26 25, ⟨some 27, .mov (.t 5), some (26, false)⟩, ⟨some 28, .bin .eql (.t 27) (.k (.v false [.c (.s [102, 111,
 114, 119, 97, 114, 100])])), some (26, false)⟩, o' 29 (.pick (.t 26) (.k (.v false [.c (.b true)])) (.t 28))]) (.cond (.t 29) (q' ([m' 30 4, z' 2 2, m' 3 30])
 .ret) .skip)) (q' ([z' 6 0]) (.block 2 (.loop (.seq (q' ([m' 31 6, m' 32 4, r' 33 31 32]) (.cond (.t 33) .skip (.exit 2))) (.seq (.block 3 (q' ([f' 36 0 1, l'
 37 36, m' 38 6, i' 39 3 37 38, f' 40 1 39, l' 41 40, m' 42 5, o' 43 (.bin .eql (.t 41) (.t 42))]) (.cond (.t 43) (q' ([m' 44 4, z' 2 2, m' 3 44]) .ret)
 .skip))) (g' [m' 34 6, a' 35 34, m' 6 35])))))))))) (g' [a' 45 15, m' 15 45]))))))) (.seq (q' ([f' 46 1 1, l' 47 46, n' 48 47, z' 49 0]) (.block 4 (.loop (q'
 ([r' 50 49 48]) (.seq (.cond (.t 50) .skip (.exit 4)) (.seq (.block 5 (q' ([m' 51 49, m' 7 51]) (.seq (.reg true [e' 52 2 1, f' 53 1 1, l' 54 53, m' 55 7, i'
 56 4 54 55, e' 57 4 56, c' 58 135 [52, 57], m' 8 58]) (q' ([m' 59 8, o' 60 (.bin .gtr (.t 59) (k' 0))]) (.cond (.t 60) (q' ([m' 61 8, m' 62 7, m' 2 61, m' 3
 62]) .ret) .skip))))) (g' [a' 63 49, m' 49 63]))))))) (q' ([z' 2 0, z' 3 0]) .ret))))
theorem a8V : cmp Tryz.prog Tryz.f62 = some a2r := by kernel_rfl
theorem b0z (p : c6) : A0l Tryz.prog 62 [(true, [.sl false [.i .i64 0, .s [], .i .i64 0] (p.Decls.map c7.cells), .sl false [.i .i64 0, .s [], .sl false [.s [], .i .i64 0, .s []] [], .sl false [.i .i64 0, .s [], .sl false [.s [], .i .i64 0, .s []] [], .i .i64 0, .s [], .i .i64 0, .s [], .s [], .i .i64 0, .s []] []] (p.Rules.map (c4.cells false false))])] [] (.tup [(false, [.i .i64 ((g9 p).1)]), (false, [.i .i64 ((g9 p).2)])]) := by
 refine spec_of2 false false none Tryz.func62 a8V (rvs := [.t 2, .t 3]) (hΓ := mkCtx_ok (deep := false) (l := [(134, [], y3), (135, [], a2W)]) ⟨a2d, a9Q, trivial⟩) (h := ?_)
 intro hb hE
 simp only [go_sem] at hb
 simp only [a2r, x']
 (try refine A2V ?_); simp only [go_sem]; (repeat' first | apply CJ.mk | intro hc); all_goals try ((repeat' first | apply And.intro | intro hs) <;> (try simp only [go_sem, Bool.and_eq_false_iff] at hs) <;> omega)
 ·rw [a1u hc]; exact ⟨rfl, rfl⟩
 have hB : j7 p = true := hc
 clear hc
 refine aw_loop2 false [] [1, 14] [2] [] (fun i : {i : Nat // i ≤ p.Decls.length ∧ ∀ j, j < i → l5 p j = false} => [(15, slV (.i .i64 i.1))]) (fun i => []) (fun i => []) (fun i => p.Decls.length - i.1) (⟨0, by omega, by intro j h; omega⟩) _ rfl ?_ ?_
 ·simp only [go_sem]
  all_goals first | omega | ((repeat' apply And.intro) <;> first | omega | rfl | skip)
 intro S0 hS0 i
 simp only [go_sem] at hS0
 obtain ⟨n, hn, ha⟩ := i
 (try refine A2V ?_); simp only [go_sem, hS0]; (repeat' first | apply CJ.mk | intro hc); all_goals try ((repeat' first | apply And.intro | intro hs) <;> (try simp only [go_sem, Bool.and_eq_false_iff] at hs) <;> omega)
 ·have hq : l5 p n = true := by rcases hc with hc | hc <;> (simp only [l5, pkB, fwB, hc, Bool.true_or, Bool.or_true])
  rw [a0e hB (by omega) ha hq]; exact ⟨rfl, rfl⟩
 ·have hN := hc
  clear hc
  refine aw_loop2 false [] [1, 4, 5, 14, 15] [2] [] (fun i : {k : Nat // k ≤ n ∧ (p.Decls.take k).any (fun x => x.Name == (p.Decls.getD n default).Name) = false} => [(6, slV (.i .i64 i.1))]) (fun i => []) (fun i => []) (fun i => n - i.1) (⟨0, by omega, by simp⟩) _ rfl ?_ ?_
  ·simp only [go_sem, hS0]
   all_goals first | omega | ((repeat' apply And.intro) <;> first | omega | rfl | skip)
  intro S1 hS1 i
  simp only [go_sem, hS0] at hS1
  obtain ⟨k, hk, hx⟩ := i
  (try refine A2V ?_); simp only [go_sem, hS0, hS1]; (repeat' first | apply CJ.mk | intro hc); all_goals try ((repeat' first | apply And.intro | intro hs) <;> (try simp only [go_sem, Bool.and_eq_false_iff] at hs) <;> omega)
  ·have : ((p.Decls.take n).any fun x => x.Name == (p.Decls.getD n default).Name) = true := by
    refine a9q (q := fun x : c7 => x.Name == (p.Decls.getD n default).Name) (i := k) default (by rw [List.length_take]; omega) ?_
    have e : (p.Decls.take n).getD k default = p.Decls.getD k default := by
     simp only [List.getD_eq_getElem?_getD, List.getElem?_take]; rw [if_pos (by omega)]
    rw [e]; exact hc
   have hq : l5 p n = true := by rw [l5, this, Bool.or_true]
   rw [a0e hB (by omega) ha hq]; exact ⟨rfl, rfl⟩
  ·(refine lpK_n2 (⟨k + 1, by omega, l3 (p := fun x : c7 => x.Name == (p.Decls.getD n default).Name) default (by omega) hx hc⟩) _ rfl ?_; simp only [go_sem, hS0, hS1]; first | done | ((repeat' apply And.intro) <;> first | omega | (refine w64 ?_ ?_ ?_ <;> omega) | rfl | skip))
  ·have e : k = n := by omega
   subst e
   have hq : l5 p k = false := by rw [l5, hx]; simp only [pkB, fwB, hN, Bool.or_false]
   (refine lpK_n2 (⟨k + 1, by omega, b0D ha hq⟩) _ rfl ?_; simp only [go_sem, hS0, hS1]; first | done | ((repeat' apply And.intro) <;> first | omega | (refine w64 ?_ ?_ ?_ <;> omega) | rfl | skip))
 have hd : ∀ j, j < p.Decls.length → l5 p j = false := fun j hj => ha j (by omega)
 clear hc ha
 refine aw_loop2 false [] [1, 48] [2] [] (fun i : {i : Nat // i ≤ p.Rules.length ∧ ∀ j, j < i → o5 p j = false} => [(49, slV (.i .i64 i.1))]) (fun i => []) (fun i => []) (fun i => p.Rules.length - i.1) (⟨0, by omega, by intro j h; omega⟩) _ rfl ?_ ?_
 ·simp only [go_sem, hS0]
  all_goals first | omega | ((repeat' apply And.intro) <;> first | omega | rfl | skip)
 intro S2 hS2 i
 simp only [go_sem, hS0] at hS2
 obtain ⟨n, hn, ha⟩ := i
 (try refine A2V ?_); simp only [go_sem, hS0, hS2]; (repeat' first | apply CJ.mk | intro hc); all_goals try ((repeat' first | apply And.intro | intro hs) <;> (try simp only [go_sem, Bool.and_eq_false_iff] at hs) <;> omega)
 ·exact ⟨b9C hB (by omega), hB⟩
 ·have hq : o5 p n = true := by
   have := b2t p (p.Rules.getD n default)
   rw [o5, Bool.not_eq_true', beq_eq_false_iff_ne]; omega
  rw [a1O hB hd (by omega) ha hq]; exact ⟨rfl, rfl⟩
 ·have hq : o5 p n = false := by
   have := b2t p (p.Rules.getD n default)
   rw [o5, Bool.not_eq_false', beq_iff_eq]; omega
  (refine lpK_n2 (⟨n + 1, by omega, b0D ha hq⟩) _ rfl ?_; simp only [go_sem, hS0, hS2]; first | done | ((repeat' apply And.intro) <;> first | omega | (refine w64 ?_ ?_ ?_ <;> omega) | rfl | skip))
 ·rw [a8t hB hd (fun j hj => ha j (by omega))]; exact ⟨rfl, rfl⟩
noncomputable def s8 : CT := i8 (fun (x : c6) => b0z x)
@[go_sem] theorem b8O (x0 : List c7) (x1 : List c4) : s8 [(true, [.sl false [.i .i64 0, .s [], .i .i64 0] (x0.map c7.cells), .sl false [.i .i64 0, .s [], .sl false [.s [], .i .i64 0, .s []] [], .sl false [.i .i64 0, .s [], .sl false [.s [], .i .i64 0, .s []] [], .i .i64 0, .s [], .i .i64 0, .s [], .s [], .i .i64 0, .s []] []] (x1.map (c4.cells false false))])] = some (True, [], .tup [(false, [.i .i64 ((g9 (c6.mk x0 x1)).1)]), (false, [.i .i64 ((g9 (c6.mk x0 x1)).2)])]) := f5 _ (by rintro ⟨_, _⟩ ⟨_, _⟩ h; simp at h; simp_all) (c6.mk x0 x1)
theorem w5 : OkC Tryz.prog 62 s8 := f7 _
theorem b8T {α : Type} (l : List α) (n : Nat) : cut l 0 n = l.take n := by unfold cut; simp
def a2l : ACode := q' ([o' 1 (.box 2 (.t 0)), z' 2 0, z' 3 0]) (.seq (q' ([e' 9 2 1, c' 10 150 [9], o' 11 (.not (.t 10))]) (.cond (.t 11) (q' ([z' 2 1, z' 3 0]) .ret) .skip))
 (.seq (q' ([f' 12 0 1, l' 13 12, n' 14 13, z' 15 0]) (.block 0 (.loop (q' ([r' 16 15 14]) (.seq (.cond (.t 16) .skip (.exit 0)) (.seq (.block 1 (q' ([m' 17
 15, i' 18 3 13 15, e' 19 3 18, w' 5 [.i .i64, .s, .i .i64], m' 4 17, s' 3 5 19]) (q' ([f' 20 1 5, l' 21 20, o' 22 (.bin .eql (.t 21) (.k (.v false [.c (.s
 [112, 97, 99, 107, 101, 116])]))), m' 23 22, ⟨some 24, .fa 1 (.t 5), some (23, false)⟩, ⟨some 25, .ld false 1 (.t 24), some (23, false)⟩, ⟨some 26, .bin .eql
 (.t 25) (.k (.v false [.c (.s [102, 111, 114, 119, 97, 114, 100])])), some (23, false)⟩, o' 27 (.pick (.t 23) (.k (.v false [.c (.b true)])) (.t 26)), m' 28
 27, ⟨some 29, .fa 0 (.t 1), some (28, false)⟩, ⟨some 30, .ld false 1 (.t 29), some (28, false)⟩, ⟨some 31, .mov (.t 4), some (28, false)⟩, ⟨some 32, .slc 3
 (.t 30) none (some (.t 31)) none, some (28, false)⟩, ⟨some 33, .mf 219 [.t 5], some (28, false)⟩, ⟨some 34, .call 218 [.t 32, .t 33], some (28, false)⟩, o' 35
 (.pick (.t 28) (.k (.v false [.c (.b true)])) (.t 34))]) (.cond (.t 35) (q' ([m' 36 4, z' 2 2, m' 3 36]) .ret) .skip)))) (g' [a' 37 15, m' 15 37]))))))) (.seq
 (q' ([f' 38 1 1, l' 39 38, n' 40 39, z' 41 0]) (.block 2 (.loop (q' ([r' 42 41 40]) (.seq (.cond (.t 42) .skip (.exit 2)) (.seq (.block 3 (q' ([m' 43 41, i'
 44 4 39 41, e' 45 4 44, w' 7 [.i .i64, .s, .sl [.s [], .i .i64 0, .s []], .sl [.i .i64 0, .s [], .sl false [.s [], .i .i64 0, .s []] [], .i .i64 0, .s [], .i
 .i64 0, .s [], .s [], .i .i64 0, .s []]], m' 6 43, s' 4 7 45]) (q' ([e' 46 2 1, e' 47 4 7, c' 48 220 [46, 47], m' 8 48]) (q' ([m' 49 8, o' 50 (.bin .neq (.t
 49) (k' 0))]) (.cond (.t 50) (q' ([m' 51 8, m' 52 6, m' 2 51, m' 3 52]) .ret) .skip))))) (g' [a' 53 41, m' 41 53]))))))) (q' ([z' 2 0, z' 3 0]) .ret))))
theorem a8P : cmp Tryz.prog Tryz.f138 = some a2l := by kernel_rfl
theorem b0t (p : c6) : A0l Tryz.prog 138 [(true, [.sl false [.i .i64 0, .s [], .i .i64 0] (p.Decls.map c7.cells), .sl false [.i .i64 0, .s [], .sl false [.s [], .i .i64 0, .s []] [], .sl false [.i .i64 0, .s [], .sl false [.s [], .i .i64 0, .s []] [], .i .i64 0, .s [], .i .i64 0, .s [], .s [], .i .i64 0, .s []] []] (p.Rules.map (c4.cells false false))])] [] (.tup [(false, [.i .i64 ((g9 p).1)]), (false, [.i .i64 ((g9 p).2)])]) := by
 refine spec_of2 false false none Tryz.func138 a8P (rvs := [.t 2, .t 3]) (hΓ := mkCtx_ok (deep := false) (l := [(150, [], w7), (218, [], a5b), (220, [], a1H)]) ⟨a2b, b2w, a8F, trivial⟩) (h := ?_)
 intro hb hE
 simp only [go_sem] at hb
 simp only [a2l, x']
 (try refine A2V ?_); simp only [go_sem]; (repeat' first | apply CJ.mk | intro hc); all_goals try ((repeat' first | apply And.intro | intro hs) <;> (try simp only [go_sem, Bool.and_eq_false_iff] at hs) <;> omega)
 ·rw [a1u hc]; exact ⟨rfl, rfl⟩
 have hB : j7 p = true := hc
 clear hc
 refine aw_loop2 false [] [1, 13, 14] [2] [] (fun i : {i : Nat // i ≤ p.Decls.length ∧ ∀ j, j < i → l5 p j = false} => [(15, slV (.i .i64 i.1))]) (fun i => []) (fun i => []) (fun i => p.Decls.length - i.1) (⟨0, by omega, by intro j h; omega⟩) _ rfl ?_ ?_
 ·simp only [go_sem]
  all_goals first | omega | ((repeat' apply And.intro) <;> first | omega | rfl | skip)
 intro S0 hS0 i
 simp only [go_sem] at hS0
 obtain ⟨n, hn, ha⟩ := i
 (try refine A2V ?_); simp only [go_sem, hS0]; (repeat' first | apply CJ.mk | intro hc); all_goals try ((repeat' first | apply And.intro | intro hs) <;> (try simp only [go_sem, Bool.and_eq_false_iff] at hs) <;> omega)
 ·rw [b8T] at hc
  have hq : l5 p n = true := by rcases hc with (hc | hc) | hc <;> simp only [l5, pkB, fwB, hc, Bool.true_or, Bool.or_true]
  rw [a0e hB (by omega) ha hq]; exact ⟨rfl, rfl⟩
 ·rw [b8T] at hc
  have hq : l5 p n = false := by simp only [l5, pkB, fwB, hc, Bool.or_false]
  (refine lpK_n2 (⟨n + 1, by omega, b0D ha hq⟩) _ rfl ?_; simp only [go_sem, hS0]; first | done | ((repeat' apply And.intro) <;> first | omega | (refine w64 ?_ ?_ ?_ <;> omega) | rfl | skip))
 have hd : ∀ j, j < p.Decls.length → l5 p j = false := fun j hj => ha j (by omega)
 clear hc ha
 refine aw_loop2 false [] [1, 39, 40] [2] [] (fun i : {i : Nat // i ≤ p.Rules.length ∧ ∀ j, j < i → o5 p j = false} => [(41, slV (.i .i64 i.1))]) (fun i => []) (fun i => []) (fun i => p.Rules.length - i.1) (⟨0, by omega, by intro j h; omega⟩) _ rfl ?_ ?_
 ·simp only [go_sem, hS0]
  all_goals first | omega | ((repeat' apply And.intro) <;> first | omega | rfl | skip)
 intro S1 hS1 i
 simp only [go_sem, hS0] at hS1
 obtain ⟨n, hn, ha⟩ := i
 (try refine A2V ?_); simp only [go_sem, hS0, hS1]; (repeat' first | apply CJ.mk | intro hc); all_goals try ((repeat' first | apply And.intro | intro hs) <;> (try simp only [go_sem, Bool.and_eq_false_iff] at hs) <;> omega)
 ·exact b9C hB (by omega)
 ·have hq : o5 p n = true := by
   simp only [bne, Bool.not_eq_true', beq_eq_false_iff_ne] at hc
   rw [o5, Bool.not_eq_true', beq_eq_false_iff_ne]; exact hc
  rw [a1O hB hd (by omega) ha hq]; exact ⟨rfl, rfl⟩
 ·have hq : o5 p n = false := by
   simp only [bne, Bool.not_eq_false', beq_iff_eq] at hc
   rw [o5, Bool.not_eq_false', beq_iff_eq]; exact hc
  (refine lpK_n2 (⟨n + 1, by omega, b0D ha hq⟩) _ rfl ?_; simp only [go_sem, hS0, hS1]; first | done | ((repeat' apply And.intro) <;> first | omega | (refine w64 ?_ ?_ ?_ <;> omega) | rfl | skip))
 ·rw [a8t hB hd (fun j hj => ha j (by omega))]; exact ⟨rfl, rfl⟩
noncomputable def a0q : CT := i8 (fun (x : c6) => b0t x)
@[go_sem] theorem b8I (x0 : List c7) (x1 : List c4) : a0q [(true, [.sl false [.i .i64 0, .s [], .i .i64 0] (x0.map c7.cells), .sl false [.i .i64 0, .s [], .sl false [.s [], .i .i64 0, .s []] [], .sl false [.i .i64 0, .s [], .sl false [.s [], .i .i64 0, .s []] [], .i .i64 0, .s [], .i .i64 0, .s [], .s [], .i .i64 0, .s []] []] (x1.map (c4.cells false false))])] = some (True, [], .tup [(false, [.i .i64 ((g9 (c6.mk x0 x1)).1)]), (false, [.i .i64 ((g9 (c6.mk x0 x1)).2)])]) := f5 _ (by rintro ⟨_, _⟩ ⟨_, _⟩ h; simp at h; simp_all) (c6.mk x0 x1)
theorem a7h : OkC Tryz.prog 138 a0q := f7 _
end Go.Aw
