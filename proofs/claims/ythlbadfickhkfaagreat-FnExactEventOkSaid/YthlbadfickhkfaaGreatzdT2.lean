/- Names in programs. No condition. -/
import Derived.Test.YthlbadfickhkfaaGreatzdG8
namespace Go.Aw
open Go.Proofs
attribute [local irreducible] aft blk lpK retK AW A0l
set_option linter.unusedVariables false
set_option linter.unusedSimpArgs false
set_option maxRecDepth 100000
def pkB : List UInt8 := [112, 97, 99, 107, 101, 116]
def fwB : List UInt8 := [102, 111, 114, 119, 97, 114, 100]
def n7 (p : GProgram) (name : List UInt8) : Int := bif name == pkB then 4 else bif name == fwB then 1 else bif k7 p name then (j6 p name).Arity else -1
def l3 (p : GProgram) (name : List UInt8) : Int := (j6 p name).Kind
def movB (p : GProgram) (name : List UInt8) : Bool := name == pkB || l3 p name == 2
def g9 (r : GRule) : List GAtom := r.Head :: (r.Body.filter fun l => !(l.Kind == 3)).map GLit.Atom
def a4H (p : GProgram) (l : GLit) : Bool := !(l.Kind == 3) && movB p l.Atom.Name
def b7S (p : GProgram) (r : GRule) : Bool := decide ((0 : Int) < r.Body.length) && (r.Body.getD 0 default).Kind == 1 && (movB p (r.Body.getD 0 default).Atom.Name && (!(r.Kind == 1) || (r.Body.getD 0 default).Atom.Name == pkB))
def b0B (p : GProgram) (r : GRule) : Bool := bif !(r.Kind == 1) || r.Head.Name == fwB then b7S p r && !(r.Body.drop 1).any (a4H p) else !r.Body.any (a4H p)
def a1l (p : GProgram) (a : GAtom) : Bool := decide (n7 p a.Name < 0)
def a1m (p : GProgram) (a : GAtom) : Bool := !(n7 p a.Name == (a.Args.length : Int))
def a8h (a : GAtom) : Bool := a.Name == fwB
def a2Q (p : GProgram) (r : GRule) : Bool := bif r.Kind == 1 then !(l3 p r.Head.Name == 3) && !(r.Head.Name == fwB) else !(l3 p r.Head.Name == 1)
def i8 (p : GProgram) (r : GRule) : Int := bif (g9 r).any (a1l p) then 3 else bif (g9 r).any (a1m p) then 4 else bif a2Q p r then 5 else bif ((g9 r).drop 1).any a8h then 6 else bif !b0B p r then 7 else 0
def i3 (p : GProgram) (i : Nat) : Bool := (p.Decls.getD i default).Name == pkB || (p.Decls.getD i default).Name == fwB || (p.Decls.take i).any fun x => x.Name == (p.Decls.getD i default).Name
def j9 (p : GProgram) (i : Nat) : Bool := !(i8 p (p.Rules.getD i default) == 0)
def c7 (p : GProgram) : Int × Int :=
 bif !j1 p then (1, 0) else
 if a1e p.Decls.length (i3 p) < p.Decls.length then (2, (a1e p.Decls.length (i3 p) : Int)) else
 if a1e p.Rules.length (j9 p) < p.Rules.length then (i8 p (p.Rules.getD (a1e p.Rules.length (j9 p)) default), (a1e p.Rules.length (j9 p) : Int)) else (0, 0)
def atB (l : GLit) : Bool := !(l.Kind == 3)
theorem b9p (r : GRule) : (g9 r).length ≤ r.Body.length + 1 := by
 have := b0k (fun l : GLit => !(l.Kind == 3)) GLit.Atom r.Body
 simp only [g9, List.length_cons]; omega
theorem b0Y (r : GRule) : 1 ≤ (g9 r).length := by simp [g9]
theorem b2D (r : GRule) : g9 r = r.Head :: (r.Body.filter atB).map GLit.Atom := rfl
def a4L : ACode := q' ([o' 2 (.box 2 (.t 0)), z' 4 0]) (.seq (q' ([m' 7 1]) (.block 0 (q' ([o' 9 (.bin .eql (.t 7) (.k (.v false [.c (.s [112, 97, 99, 107, 101, 116])]))), m' 8
 9]) (.cond (.t 8) (q' ([z' 4 4]) .ret) (q' ([o' 11 (.bin .eql (.t 7) (.k (.v false [.c (.s [102, 111, 114, 119, 97, 114, 100])]))), m' 10 11]) (.cond (.t 10)
 (q' ([z' 4 1]) .ret) .skip)))))) (q' ([e' 13 2 2, m' 14 1, c' 15 149 [13, 14], m' 12 15, o' 16 (.ext (.t 12) 0), o' 17 (.ext (.t 12) 1), w' 5 [.i .i64, .s, .i
 .i64], s' 3 5 16, m' 6 17]) (.seq (q' ([m' 18 6, o' 19 (.not (.t 18))]) (.cond (.t 19) (q' ([o' 4 (.mov (.k (.v false [.c (.i .i64 (-1))])))]) .ret) .skip))
 (q' ([f' 20 2 5, l' 21 20, m' 4 21]) .ret))))
theorem b1A : cmp Tryz.prog Tryz.f163 = some a4L := by kernel_rfl
theorem b3M (p : GProgram) (name : List UInt8) : A0l Tryz.prog 163 [(true, [.sl false [.i .i64 0, .s [], .i .i64 0] (p.Decls.map GDecl.cells), .sl false [.i .i64 0, .s [], .sl false [.s [], .i .i64 0, .s []] [], .sl false [.i .i64 0, .s [], .sl false [.s [], .i .i64 0, .s []] [], .i .i64 0, .s [], .i .i64 0, .s [], .s [], .i .i64 0, .s []] []] (p.Rules.map (GRule.cells false false))]), (false, [.s name])] [] (.one (false, [.i .i64 (n7 p name)])) := by
 refine spec_of2 false false none Tryz.func163 b1A (rvs := [.t 4]) (hΓ := mkCtx_ok (deep := false) (l := [(149, [], a0u)]) ⟨a3H, trivial⟩) (h := ?_)
 intro hb hE
 simp only [go_sem] at hb
 simp only [a4L, x']
 (try refine A2V ?_); simp only [go_sem]; (repeat' first | apply CJ.mk | intro hc); all_goals try ((repeat' first | apply And.intro | intro hs) <;> (try simp only [go_sem, Bool.and_eq_false_iff] at hs) <;> omega)
 all_goals simp only [n7, pkB, fwB, *, cond_true, cond_false]
noncomputable def s5 : CT := c8 (fun (x : GProgram × (List UInt8)) => b3M x.1 x.2)
@[go_sem] theorem c0v (p_Decls : List GDecl) (p_Rules : List GRule) (name : List UInt8) : s5 [(true, [.sl false [.i .i64 0, .s [], .i .i64 0] (p_Decls.map GDecl.cells), .sl false [.i .i64 0, .s [], .sl false [.s [], .i .i64 0, .s []] [], .sl false [.i .i64 0, .s [], .sl false [.s [], .i .i64 0, .s []] [], .i .i64 0, .s [], .i .i64 0, .s [], .s [], .i .i64 0, .s []] []] (p_Rules.map (GRule.cells false false))]), (false, [.s name])] = some (True, [], .one (false, [.i .i64 (n7 (GProgram.mk p_Decls p_Rules) name)])) := c4 _ (by rintro ⟨⟨_, _⟩, _⟩ ⟨⟨_, _⟩, _⟩ h; simp at h; simp_all) ((GProgram.mk p_Decls p_Rules), name)
theorem w3 : OkC Tryz.prog 163 s5 := c5 _
def a5C : ACode := q' ([o' 2 (.box 2 (.t 0)), z' 4 0]) (q' ([e' 8 2 2, m' 9 1, c' 10 149 [8, 9], m' 7 10, o' 11 (.ext (.t 7) 0), o' 12 (.ext (.t 7) 1), w' 5 [.i .i64, .s, .i
 .i64], s' 3 5 11, m' 6 12]) (q' ([f' 13 0 5, l' 14 13, m' 4 14]) .ret))
theorem b3f : cmp Tryz.prog Tryz.f82 = some a5C := by kernel_rfl
theorem b5c (p : GProgram) (name : List UInt8) : A0l Tryz.prog 82 [(true, [.sl false [.i .i64 0, .s [], .i .i64 0] (p.Decls.map GDecl.cells), .sl false [.i .i64 0, .s [], .sl false [.s [], .i .i64 0, .s []] [], .sl false [.i .i64 0, .s [], .sl false [.s [], .i .i64 0, .s []] [], .i .i64 0, .s [], .i .i64 0, .s [], .s [], .i .i64 0, .s []] []] (p.Rules.map (GRule.cells false false))]), (false, [.s name])] [] (.one (false, [.i .i64 (l3 p name)])) := by
 refine spec_of2 false false none Tryz.func82 b3f (rvs := [.t 4]) (hΓ := mkCtx_ok (deep := false) (l := [(149, [], a0u)]) ⟨a3H, trivial⟩) (h := ?_)
 intro hb hE
 simp only [go_sem] at hb
 simp only [a5C, x']
 (try refine A2V ?_); simp only [go_sem]; (repeat' first | apply CJ.mk | intro hc); all_goals try ((repeat' first | apply And.intro | intro hs) <;> (try simp only [go_sem, Bool.and_eq_false_iff] at hs) <;> omega)
 all_goals (first | rfl | trace_state)
noncomputable def n9 : CT := c8 (fun (x : GProgram × (List UInt8)) => b5c x.1 x.2)
@[go_sem] theorem c1N (p_Decls : List GDecl) (p_Rules : List GRule) (name : List UInt8) : n9 [(true, [.sl false [.i .i64 0, .s [], .i .i64 0] (p_Decls.map GDecl.cells), .sl false [.i .i64 0, .s [], .sl false [.s [], .i .i64 0, .s []] [], .sl false [.i .i64 0, .s [], .sl false [.s [], .i .i64 0, .s []] [], .i .i64 0, .s [], .i .i64 0, .s [], .s [], .i .i64 0, .s []] []] (p_Rules.map (GRule.cells false false))]), (false, [.s name])] = some (True, [], .one (false, [.i .i64 (l3 (GProgram.mk p_Decls p_Rules) name)])) := c4 _ (by rintro ⟨⟨_, _⟩, _⟩ ⟨⟨_, _⟩, _⟩ h; simp at h; simp_all) ((GProgram.mk p_Decls p_Rules), name)
theorem o7 : OkC Tryz.prog 82 n9 := c5 _
def a4O : ACode := q' ([o' 2 (.box 2 (.t 0)), b' 4 false]) (q' ([m' 5 1, o' 6 (.bin .eql (.t 5) (.k (.v false [.c (.s [112, 97, 99, 107, 101, 116])]))), m' 7 6, ⟨some 8, .ld true
 2 (.t 2), some (7, false)⟩, ⟨some 9, .mov (.t 1), some (7, false)⟩, ⟨some 10, .call 82 [.t 8, .t 9], some (7, false)⟩, ⟨some 11, .bin .eql (.t 10) (k' 2),
 some (7, false)⟩, o' 12 (.pick (.t 7) (.k (.v false [.c (.b true)])) (.t 11)), m' 4 12]) .ret)
theorem b1D : cmp Tryz.prog Tryz.f342 = some a4O := by kernel_rfl
theorem b3P (p : GProgram) (name : List UInt8) : A0l Tryz.prog 342 [(true, [.sl false [.i .i64 0, .s [], .i .i64 0] (p.Decls.map GDecl.cells), .sl false [.i .i64 0, .s [], .sl false [.s [], .i .i64 0, .s []] [], .sl false [.i .i64 0, .s [], .sl false [.s [], .i .i64 0, .s []] [], .i .i64 0, .s [], .i .i64 0, .s [], .s [], .i .i64 0, .s []] []] (p.Rules.map (GRule.cells false false))]), (false, [.s name])] [] (.one (false, [.b (movB p name)])) := by
 refine spec_of2 false false none Tryz.func342 b1D (rvs := [.t 4]) (hΓ := mkCtx_ok (deep := false) (l := [(82, [], n9)]) ⟨o7, trivial⟩) (h := ?_)
 intro hb hE
 simp only [go_sem] at hb
 simp only [a4O, x']
 (try refine A2V ?_); simp only [go_sem]; (repeat' first | apply CJ.mk | intro hc); all_goals try ((repeat' first | apply And.intro | intro hs) <;> (try simp only [go_sem, Bool.and_eq_false_iff] at hs) <;> omega)
 all_goals (first | rfl | trace_state)
noncomputable def w5 : CT := c8 (fun (x : GProgram × (List UInt8)) => b3P x.1 x.2)
@[go_sem] theorem c0y (p_Decls : List GDecl) (p_Rules : List GRule) (name : List UInt8) : w5 [(true, [.sl false [.i .i64 0, .s [], .i .i64 0] (p_Decls.map GDecl.cells), .sl false [.i .i64 0, .s [], .sl false [.s [], .i .i64 0, .s []] [], .sl false [.i .i64 0, .s [], .sl false [.s [], .i .i64 0, .s []] [], .i .i64 0, .s [], .i .i64 0, .s [], .s [], .i .i64 0, .s []] []] (p_Rules.map (GRule.cells false false))]), (false, [.s name])] = some (True, [], .one (false, [.b (movB (GProgram.mk p_Decls p_Rules) name)])) := c4 _ (by rintro ⟨⟨_, _⟩, _⟩ ⟨⟨_, _⟩, _⟩ h; simp at h; simp_all) ((GProgram.mk p_Decls p_Rules), name)
theorem a2H : OkC Tryz.prog 342 w5 := c5 _
def a4M : ACode := q' ([o' 1 (.box 4 (.t 0)), o' 2 (.mov (.k (.v false [.nl [.s [], .sl false [.s [], .i .i64 0, .s []] []]])))]) (q' ([f' 6 1 1, e' 7 2 6, o' 8 (.bsl 2 1 [.s, .sl
 [.s [], .i .i64 0, .s []]] [(0, .t 7)]), m' 3 8]) (.seq (q' ([f' 9 3 1, l' 10 9, n' 11 10, z' 12 0]) (.block 0 (.loop (q' ([r' 13 12 11]) (.seq (.cond (.t 13)
 .skip (.exit 0)) (.seq (.block 1 (q' ([i' 14 10 10 12, e' 15 10 14, w' 5 [.i .i64, .s, .sl [.s [], .i .i64 0, .s []], .i .i64, .s, .i .i64, .s, .s, .i .i64,
 .s], s' 10 5 15]) (q' ([f' 16 0 5, l' 17 16, o' 18 (.bin .neq (.t 17) (k' 3))]) (.cond (.t 18) (g' [m' 19 3, f' 20 1 5, e' 21 2 20, o' 22 (.bsl 2 1 [.s, .sl
 [.s [], .i .i64 0, .s []]] [(0, .t 21)]), o' 23 (.app 2 40 [.s, .sl [.s [], .i .i64 0, .s []]] (.t 19) (.t 22)), m' 3 23]) .skip)))) (g' [a' 24 12, m' 12
 24]))))))) (q' ([m' 25 3, m' 2 25]) .ret)))
theorem b1B : cmp Tryz.prog Tryz.f168 = some a4M := by kernel_rfl
theorem b3N (r : GRule) (hpre : r.Body.length ≤ 8) : A0l Tryz.prog 168 [(true, [.i .i64 r.Kind, .s r.Head.Name, .sl false [.s [], .i .i64 0, .s []] (r.Head.Args.map GTerm.cells), .sl false [.i .i64 0, .s [], .sl false [.s [], .i .i64 0, .s []] [], .i .i64 0, .s [], .i .i64 0, .s [], .s [], .i .i64 0, .s []] (r.Body.map (GLit.cells false false))])] [] (.one (false, [.sl true [.s [], .sl false [.s [], .i .i64 0, .s []] []] ((g9 r).map (GAtom.cells false false))])) := by
 refine spec_of2 false false none Tryz.func168 b1B (rvs := [.t 2]) (hΓ := mkCtx_ok (deep := false) (l := []) trivial) (h := ?_)
 intro hb hE
 simp only [go_sem] at hb
 simp only [a4M, x']
 (try refine A2V ?_); simp only [go_sem]; (repeat' first | apply CJ.mk | intro hc); all_goals try ((repeat' first | apply And.intro | intro hs) <;> (try simp only [go_sem, Bool.and_eq_false_iff] at hs) <;> omega)
 refine aw_loop2 false [(false, 3, 0, 100006)] [10, 11] [] [] (fun i : {i : Nat // i ≤ r.Body.length} => [(3, .v false [.ow 100006]), (12, slV (.i .i64 i.1))]) (fun i => []) (fun i => [(100006, [.s [], .sl false [.s [], .i .i64 0, .s []] []], (r.Head :: ((r.Body.take i.1).filter atB).map GLit.Atom).map (GAtom.cells false false))]) (fun i => r.Body.length - i.1) (⟨0, by simp⟩) _ (by simp only [go_sem]; try rfl) ?_ ?_
 ·simp only [go_sem]
  all_goals first | omega | ((repeat' apply And.intro) <;> first | omega | rfl | skip)
 intro S0 hS0 i
 simp only [go_sem] at hS0
 obtain ⟨i, hi⟩ := i
 (try refine A2V ?_); simp only [go_sem, hS0]; (repeat' first | apply CJ.mk | intro hc); all_goals try ((repeat' first | apply And.intro | intro hs) <;> (try simp only [go_sem, Bool.and_eq_false_iff] at hs) <;> omega)
 ·have := b0k atB GLit.Atom (r.Body.take i); simp at this; omega
 ·have hp : atB (r.Body.getD i default) = true := hc
  (refine lpK_n2 (⟨i + 1, by omega⟩) _ (by simp only [go_sem]; try rfl) ?_; simp only [go_sem, hS0]; first | done | ((repeat' apply And.intro) <;> first | omega | (refine w64 ?_ ?_ ?_ <;> omega) | rfl | skip))
  all_goals (rw [a7X GLit.Atom default (by omega) hp] <;> rfl)
 ·have hp : atB (r.Body.getD i default) = false := hc
  (refine lpK_n2 (⟨i + 1, by omega⟩) _ (by simp only [go_sem]; try rfl) ?_; simp only [go_sem, hS0]; first | done | ((repeat' apply And.intro) <;> first | omega | (refine w64 ?_ ?_ ?_ <;> omega) | rfl | skip))
  all_goals (rw [b2Y GLit.Atom default (by omega) hp] <;> rfl)
 ·rw [c6 (by omega), b2D]; rfl
noncomputable def a1P : CT := n8 (fun (x : GRule) h => b3N x h)
@[go_sem] theorem c0w (r_Kind : Int) (r_Head_Name : List UInt8) (r_Head_Args : List GTerm) (r_Body : List GLit) : a1P [(true, [.i .i64 r_Kind, .s r_Head_Name, .sl false [.s [], .i .i64 0, .s []] (r_Head_Args.map GTerm.cells), .sl false [.i .i64 0, .s [], .sl false [.s [], .i .i64 0, .s []] [], .i .i64 0, .s [], .i .i64 0, .s [], .s [], .i .i64 0, .s []] (r_Body.map (GLit.cells false false))])] = some ((GRule.mk r_Kind (GAtom.mk r_Head_Name r_Head_Args) r_Body).Body.length ≤ 8, [], .one (false, [.sl true [.s [], .sl false [.s [], .i .i64 0, .s []] []] ((g9 (GRule.mk r_Kind (GAtom.mk r_Head_Name r_Head_Args) r_Body)).map (GAtom.cells false false))])) := d3 _ (by rintro ⟨_, ⟨_, _⟩, _⟩ ⟨_, ⟨_, _⟩, _⟩ h; simp at h; simp_all) (GRule.mk r_Kind (GAtom.mk r_Head_Name r_Head_Args) r_Body)
theorem a8E : OkC Tryz.prog 168 a1P := d4 _
def a3y : ACode := q' ([o' 2 (.box 2 (.t 0)), z' 4 0]) (.seq (q' ([m' 6 1, o' 7 (.bin .eql (.t 6) (.k (.v false [.c (.s [112, 97, 99, 107, 101, 116])])))]) (.cond (.t 7) (q' ([z'
 4 4]) .ret) .skip)) (.seq (q' ([m' 8 1, o' 9 (.bin .eql (.t 8) (.k (.v false [.c (.s [102, 111, 114, 119, 97, 114, 100])])))]) (.cond (.t 9) (q' ([z' 4 1])
 .ret) .skip)) (q' ([e' 10 2 2, m' 11 1, c' 12 160 [10, 11], w' 5 [.i .i64, .s, .i .i64], s' 3 5 12]) (.seq (q' ([f' 13 0 5, l' 14 13, o' 15 (.bin .eql (.t 14)
 (k' 0))]) (.cond (.t 15) (q' ([o' 4 (.mov (.k (.v false [.c (.i .i64 (-1))])))]) .ret) .skip)) (q' ([f' 16 2 5, l' 17 16, m' 4 17]) .ret)))))
theorem b0x : cmp Tryz.prog Tryz.f215 = some a3y := by kernel_rfl
theorem b2p (p : GProgram) (name : List UInt8) (hpre : j1 p = true) : A0l Tryz.prog 215 [(true, [.sl false [.i .i64 0, .s [], .i .i64 0] (p.Decls.map GDecl.cells), .sl false [.i .i64 0, .s [], .sl false [.s [], .i .i64 0, .s []] [], .sl false [.i .i64 0, .s [], .sl false [.s [], .i .i64 0, .s []] [], .i .i64 0, .s [], .i .i64 0, .s [], .s [], .i .i64 0, .s []] []] (p.Rules.map (GRule.cells false false))]), (false, [.s name])] [] (.one (false, [.i .i64 (n7 p name)])) := by
 refine spec_of2 false false none Tryz.func215 b0x (rvs := [.t 4]) (hΓ := mkCtx_ok (deep := false) (l := [(160, [], o9)]) ⟨q0, trivial⟩) (h := ?_)
 intro hb hE
 simp only [go_sem] at hb
 simp only [a3y, x']
 (try refine A2V ?_); simp only [go_sem]; (repeat' first | apply CJ.mk | intro hc); all_goals try ((repeat' first | apply And.intro | intro hs) <;> (try simp only [go_sem, Bool.and_eq_false_iff] at hs) <;> omega)
 ·simp only [n7, pkB, fwB, *, cond_true, cond_false]
 ·simp only [n7, pkB, fwB, *, cond_true, cond_false]
 all_goals rw [b6z hpre] at hc
 ·rw [Bool.not_eq_true'] at hc
  simp only [n7, pkB, fwB, *, cond_true, cond_false]
 ·rw [Bool.not_eq_false'] at hc
  simp only [n7, pkB, fwB, *, cond_true, cond_false]
noncomputable def a0Z : CT := n8 (fun (x : GProgram × (List UInt8)) h => b2p x.1 x.2 h)
@[go_sem] theorem b9I (p_Decls : List GDecl) (p_Rules : List GRule) (name : List UInt8) : a0Z [(true, [.sl false [.i .i64 0, .s [], .i .i64 0] (p_Decls.map GDecl.cells), .sl false [.i .i64 0, .s [], .sl false [.s [], .i .i64 0, .s []] [], .sl false [.i .i64 0, .s [], .sl false [.s [], .i .i64 0, .s []] [], .i .i64 0, .s [], .i .i64 0, .s [], .s [], .i .i64 0, .s []] []] (p_Rules.map (GRule.cells false false))]), (false, [.s name])] = some (j1 (GProgram.mk p_Decls p_Rules) = true, [], .one (false, [.i .i64 (n7 (GProgram.mk p_Decls p_Rules) name)])) := d3 _ (by rintro ⟨⟨_, _⟩, _⟩ ⟨⟨_, _⟩, _⟩ h; simp at h; simp_all) ((GProgram.mk p_Decls p_Rules), name)
theorem a7T : OkC Tryz.prog 215 a0Z := d4 _
def a2D : ACode := q' ([o' 2 (.box 2 (.t 0)), b' 4 false]) (q' ([m' 5 1, o' 6 (.bin .eql (.t 5) (.k (.v false [.c (.s [112, 97, 99, 107, 101, 116])]))), m' 7 6, ⟨some 8, .ld true
 2 (.t 2), some (7, false)⟩, ⟨some 9, .mov (.t 1), some (7, false)⟩, ⟨some 10, .call 160 [.t 8, .t 9], some (7, false)⟩, ⟨some 11, .fl false 0 1 (.t 10), some
 (7, false)⟩, ⟨some 12, .bin .eql (.t 11) (k' 2), some (7, false)⟩, o' 13 (.pick (.t 7) (.k (.v false [.c (.b true)])) (.t 12)), m' 4 13]) .ret)
theorem a9p : cmp Tryz.prog Tryz.f216 = some a2D := by kernel_rfl
theorem b0R (p : GProgram) (name : List UInt8) : A0l Tryz.prog 216 [(true, [.sl false [.i .i64 0, .s [], .i .i64 0] (p.Decls.map GDecl.cells), .sl false [.i .i64 0, .s [], .sl false [.s [], .i .i64 0, .s []] [], .sl false [.i .i64 0, .s [], .sl false [.s [], .i .i64 0, .s []] [], .i .i64 0, .s [], .i .i64 0, .s [], .s [], .i .i64 0, .s []] []] (p.Rules.map (GRule.cells false false))]), (false, [.s name])] [] (.one (false, [.b (movB p name)])) := by
 refine spec_of2 false false none Tryz.func216 a9p (rvs := [.t 4]) (hΓ := mkCtx_ok (deep := false) (l := [(160, [], o9)]) ⟨q0, trivial⟩) (h := ?_)
 intro hb hE
 simp only [go_sem] at hb
 simp only [a2D, x']
 (try refine A2V ?_); simp only [go_sem]; (repeat' first | apply CJ.mk | intro hc); all_goals try ((repeat' first | apply And.intro | intro hs) <;> (try simp only [go_sem, Bool.and_eq_false_iff] at hs) <;> omega)
 all_goals (first | rfl | trace_state)
noncomputable def a0n : CT := c8 (fun (x : GProgram × (List UInt8)) => b0R x.1 x.2)
@[go_sem] theorem b8R (p_Decls : List GDecl) (p_Rules : List GRule) (name : List UInt8) : a0n [(true, [.sl false [.i .i64 0, .s [], .i .i64 0] (p_Decls.map GDecl.cells), .sl false [.i .i64 0, .s [], .sl false [.s [], .i .i64 0, .s []] [], .sl false [.i .i64 0, .s [], .sl false [.s [], .i .i64 0, .s []] [], .i .i64 0, .s [], .i .i64 0, .s [], .s [], .i .i64 0, .s []] []] (p_Rules.map (GRule.cells false false))]), (false, [.s name])] = some (True, [], .one (false, [.b (movB (GProgram.mk p_Decls p_Rules) name)])) := c4 _ (by rintro ⟨⟨_, _⟩, _⟩ ⟨⟨_, _⟩, _⟩ h; simp at h; simp_all) ((GProgram.mk p_Decls p_Rules), name)
theorem a6Y : OkC Tryz.prog 216 a0n := c5 _
def a3z : ACode := q' ([o' 1 (.box 4 (.t 0)), o' 2 (.mov (.k (.v false [.nl [.s [], .sl false [.s [], .i .i64 0, .s []] []]])))]) (q' ([f' 5 1 1, e' 6 2 5, o' 7 (.bsl 2 1 [.s, .sl
 [.s [], .i .i64 0, .s []]] [(0, .t 6)]), m' 3 7]) (.seq (q' ([f' 8 3 1, l' 9 8, n' 10 9, z' 11 0]) (.block 0 (.loop (q' ([r' 12 11 10]) (.seq (.cond (.t 12)
 .skip (.exit 0)) (.seq (.block 1 (q' ([m' 13 11, m' 4 13]) (q' ([f' 14 3 1, l' 15 14, m' 16 4, i' 17 10 15 16, f' 18 0 17, l' 19 18, o' 20 (.bin .neq (.t 19)
 (k' 3))]) (.cond (.t 20) (g' [m' 21 3, f' 22 3 1, l' 23 22, m' 24 4, i' 25 10 23 24, f' 26 1 25, e' 27 2 26, o' 28 (.bsl 2 1 [.s, .sl [.s [], .i .i64 0, .s
 []]] [(0, .t 27)]), o' 29 (.app 2 40 [.s, .sl [.s [], .i .i64 0, .s []]] (.t 21) (.t 28)), m' 3 29]) .skip)))) (g' [a' 30 11, m' 11 30]))))))) (q' ([m' 31 3,
 m' 2 31]) .ret)))
theorem b0y : cmp Tryz.prog Tryz.f214 = some a3z := by kernel_rfl
theorem b2q (r : GRule) (hpre : r.Body.length ≤ 8) : A0l Tryz.prog 214 [(true, [.i .i64 r.Kind, .s r.Head.Name, .sl false [.s [], .i .i64 0, .s []] (r.Head.Args.map GTerm.cells), .sl false [.i .i64 0, .s [], .sl false [.s [], .i .i64 0, .s []] [], .i .i64 0, .s [], .i .i64 0, .s [], .s [], .i .i64 0, .s []] (r.Body.map (GLit.cells false false))])] [] (.one (false, [.sl true [.s [], .sl false [.s [], .i .i64 0, .s []] []] ((g9 r).map (GAtom.cells false false))])) := by
 refine spec_of2 false false none Tryz.func214 b0y (rvs := [.t 2]) (hΓ := mkCtx_ok (deep := false) (l := []) trivial) (h := ?_)
 intro hb hE
 simp only [go_sem] at hb
 simp only [a3z, x']
 (try refine A2V ?_); simp only [go_sem]; (repeat' first | apply CJ.mk | intro hc); all_goals try ((repeat' first | apply And.intro | intro hs) <;> (try simp only [go_sem, Bool.and_eq_false_iff] at hs) <;> omega)
 refine aw_loop2 false [(false, 3, 0, 100006)] [1, 10] [2] [] (fun i : {i : Nat // i ≤ r.Body.length} => [(3, .v false [.ow 100006]), (11, slV (.i .i64 i.1))]) (fun i => []) (fun i => [(100006, [.s [], .sl false [.s [], .i .i64 0, .s []] []], (r.Head :: ((r.Body.take i.1).filter atB).map GLit.Atom).map (GAtom.cells false false))]) (fun i => r.Body.length - i.1) (⟨0, by simp⟩) _ (by simp only [go_sem]; try rfl) ?_ ?_
 ·simp only [go_sem]
  all_goals first | omega | ((repeat' apply And.intro) <;> first | omega | rfl | skip)
 intro S0 hS0 i
 simp only [go_sem] at hS0
 obtain ⟨i, hi⟩ := i
 (try refine A2V ?_); simp only [go_sem, hS0]; (repeat' first | apply CJ.mk | intro hc); all_goals try ((repeat' first | apply And.intro | intro hs) <;> (try simp only [go_sem, Bool.and_eq_false_iff] at hs) <;> omega)
 ·have := b0k atB GLit.Atom (r.Body.take i); simp at this; omega
 ·have hp : atB (r.Body.getD i default) = true := hc
  (refine lpK_n2 (⟨i + 1, by omega⟩) _ (by simp only [go_sem]; try rfl) ?_; simp only [go_sem, hS0]; first | done | ((repeat' apply And.intro) <;> first | omega | (refine w64 ?_ ?_ ?_ <;> omega) | rfl | skip))
  all_goals (rw [a7X GLit.Atom default (by omega) hp] <;> rfl)
 ·have hp : atB (r.Body.getD i default) = false := hc
  (refine lpK_n2 (⟨i + 1, by omega⟩) _ (by simp only [go_sem]; try rfl) ?_; simp only [go_sem, hS0]; first | done | ((repeat' apply And.intro) <;> first | omega | (refine w64 ?_ ?_ ?_ <;> omega) | rfl | skip))
  all_goals (rw [b2Y GLit.Atom default (by omega) hp] <;> rfl)
 ·rw [c6 (by omega), b2D]; rfl
noncomputable def a1a : CT := n8 (fun (x : GRule) h => b2q x h)
@[go_sem] theorem b9J (r_Kind : Int) (r_Head_Name : List UInt8) (r_Head_Args : List GTerm) (r_Body : List GLit) : a1a [(true, [.i .i64 r_Kind, .s r_Head_Name, .sl false [.s [], .i .i64 0, .s []] (r_Head_Args.map GTerm.cells), .sl false [.i .i64 0, .s [], .sl false [.s [], .i .i64 0, .s []] [], .i .i64 0, .s [], .i .i64 0, .s [], .s [], .i .i64 0, .s []] (r_Body.map (GLit.cells false false))])] = some ((GRule.mk r_Kind (GAtom.mk r_Head_Name r_Head_Args) r_Body).Body.length ≤ 8, [], .one (false, [.sl true [.s [], .sl false [.s [], .i .i64 0, .s []] []] ((g9 (GRule.mk r_Kind (GAtom.mk r_Head_Name r_Head_Args) r_Body)).map (GAtom.cells false false))])) := d3 _ (by rintro ⟨_, ⟨_, _⟩, _⟩ ⟨_, ⟨_, _⟩, _⟩ h; simp at h; simp_all) (GRule.mk r_Kind (GAtom.mk r_Head_Name r_Head_Args) r_Body)
theorem a7U : OkC Tryz.prog 214 a1a := d4 _
theorem b7V {p : GProgram} (h : j1 p = true) {r : GRule} (hr : r ∈ p.Rules) : r.Body.length ≤ 8 := by
 simp only [j1, Bool.and_eq_true, List.all_eq_true] at h
 have := h.2 r hr
 simp only [d6, Bool.and_eq_true, decide_eq_true_eq] at this
 omega
def z9 : ACode := q' ([o' 2 (.box 10 (.t 0)), b' 3 false]) (q' ([f' 4 0 2, l' 5 4, o' 6 (.bin .neq (.t 5) (k' 3)), m' 7 6, ⟨some 8, .ld true 2 (.t 1), some (7, true)⟩, ⟨some 9,
 .fa 1 (.t 2), some (7, true)⟩, ⟨some 10, .fa 0 (.t 9), some (7, true)⟩, ⟨some 11, .ld false 1 (.t 10), some (7, true)⟩, ⟨some 12, .call 342 [.t 8, .t 11],
 some (7, true)⟩, o' 13 (.pick (.t 7) (.t 12) (.k (.v false [.c (.b false)]))), m' 3 13]) .ret)
theorem a5u : cmp Tryz.prog Tryz.f343 = some z9 := by kernel_rfl
theorem a6B (l : GLit) (p : GProgram) : A0l Tryz.prog 343 [(true, [.i .i64 l.Kind, .s l.Atom.Name, .sl false [.s [], .i .i64 0, .s []] (l.Atom.Args.map GTerm.cells), .i .i64 l.Op, .s l.A.Var, .i .i64 l.A.Val.N, .s l.A.Val.S, .s l.B.Var, .i .i64 l.B.Val.N, .s l.B.Val.S]), (false, [.p [.sl false [.i .i64 0, .s [], .i .i64 0] (p.Decls.map GDecl.cells), .sl false [.i .i64 0, .s [], .sl false [.s [], .i .i64 0, .s []] [], .sl false [.i .i64 0, .s [], .sl false [.s [], .i .i64 0, .s []] [], .i .i64 0, .s [], .i .i64 0, .s [], .s [], .i .i64 0, .s []] []] (p.Rules.map (GRule.cells false false))]])] [] (.one (false, [.b (a4H p l)])) := by
 refine spec_of2 false false none Tryz.func343 a5u (rvs := [.t 3]) (hΓ := mkCtx_ok (deep := false) (l := [(342, [], w5)]) ⟨a2H, trivial⟩) (h := ?_)
 intro hb hE
 simp only [go_sem] at hb
 simp only [z9, x']
 (try refine A2V ?_); simp only [go_sem]; (repeat' first | apply CJ.mk | intro hc); all_goals try ((repeat' first | apply And.intro | intro hs) <;> (try simp only [go_sem, Bool.and_eq_false_iff] at hs) <;> omega)
 all_goals (first | rfl | trace_state)
noncomputable def s6 : CT := c8 (fun (x : GLit × GProgram) => a6B x.1 x.2)
@[go_sem] theorem b5J (l_Kind : Int) (l_Atom_Name : List UInt8) (l_Atom_Args : List GTerm) (l_Op : Int) (l_A_Var : List UInt8) (l_A_Val_N : Int) (l_A_Val_S : List UInt8) (l_B_Var : List UInt8) (l_B_Val_N : Int) (l_B_Val_S : List UInt8) (p_Decls : List GDecl) (p_Rules : List GRule) : s6 [(true, [.i .i64 l_Kind, .s l_Atom_Name, .sl false [.s [], .i .i64 0, .s []] (l_Atom_Args.map GTerm.cells), .i .i64 l_Op, .s l_A_Var, .i .i64 l_A_Val_N, .s l_A_Val_S, .s l_B_Var, .i .i64 l_B_Val_N, .s l_B_Val_S]), (false, [.p [.sl false [.i .i64 0, .s [], .i .i64 0] (p_Decls.map GDecl.cells), .sl false [.i .i64 0, .s [], .sl false [.s [], .i .i64 0, .s []] [], .sl false [.i .i64 0, .s [], .sl false [.s [], .i .i64 0, .s []] [], .i .i64 0, .s [], .i .i64 0, .s [], .s [], .i .i64 0, .s []] []] (p_Rules.map (GRule.cells false false))]])] = some (True, [], .one (false, [.b (a4H (GProgram.mk p_Decls p_Rules) (GLit.mk l_Kind (GAtom.mk l_Atom_Name l_Atom_Args) l_Op (GTerm.mk l_A_Var (GValue.mk l_A_Val_N l_A_Val_S)) (GTerm.mk l_B_Var (GValue.mk l_B_Val_N l_B_Val_S))))])) := c4 _ (by rintro ⟨⟨_, ⟨_, _⟩, _, ⟨_, ⟨_, _⟩⟩, ⟨_, ⟨_, _⟩⟩⟩, ⟨_, _⟩⟩ ⟨⟨_, ⟨_, _⟩, _, ⟨_, ⟨_, _⟩⟩, ⟨_, ⟨_, _⟩⟩⟩, ⟨_, _⟩⟩ h; simp at h; simp_all) ((GLit.mk l_Kind (GAtom.mk l_Atom_Name l_Atom_Args) l_Op (GTerm.mk l_A_Var (GValue.mk l_A_Val_N l_A_Val_S)) (GTerm.mk l_B_Var (GValue.mk l_B_Val_N l_B_Val_S))), (GProgram.mk p_Decls p_Rules))
theorem a3I : OkC Tryz.prog 343 s6 := c5 _
theorem b6K (l : List GLit) (p : GProgram) : A0l Tryz.prog 275 [(false, [.sl false [.i .i64 0, .s [], .sl false [.s [], .i .i64 0, .s []] [], .i .i64 0, .s [], .i .i64 0, .s [], .s [], .i .i64 0, .s []] (l.map (GLit.cells false false))]), (false, [.f 343 [.p [.sl false [.i .i64 0, .s [], .i .i64 0] (p.Decls.map GDecl.cells), .sl false [.i .i64 0, .s [], .sl false [.s [], .i .i64 0, .s []] [], .sl false [.i .i64 0, .s [], .sl false [.s [], .i .i64 0, .s []] [], .i .i64 0, .s [], .i .i64 0, .s [], .s [], .i .i64 0, .s []] []] (p.Rules.map (GRule.cells false false))]]])] [] (.one (false, [.i .i64 (t6 (fun y => a4H p y) l)])) := by
 refine spec_of2 false false none Tryz.func275 b5R (rvs := [.t 4]) (hΓ := mkCtx_ok (deep := false) (l := [(343, [], s6)]) ⟨a3I, trivial⟩) (h := ?_)
 intro hb hE
 simp only [go_sem] at hb
 simp only [a9L, x']
 (try refine A2V ?_); simp only [go_sem]; (repeat' first | apply CJ.mk | intro hc); all_goals try ((repeat' first | apply And.intro | intro hs) <;> (try simp only [go_sem, Bool.and_eq_false_iff] at hs) <;> omega)
 refine aw_loop2 false [] [0, 1, 7] [] [] (fun i : {i : Nat // i ≤ l.length ∧ (l.take i).any (fun y => a4H p y) = false} => [(8, slV (.i .i64 i.1))]) (fun i => []) (fun i => []) (fun i => l.length - i.1) (⟨0, by simp⟩) _ rfl ?_ ?_
 ·simp only [go_sem]
  all_goals first | omega | ((repeat' apply And.intro) <;> first | omega | rfl | skip)
 intro S0 hS0 i
 simp only [go_sem] at hS0
 obtain ⟨i, hi, ha⟩ := i
 (try refine A2V ?_); simp only [go_sem, hS0]; (repeat' first | apply CJ.mk | intro hc); all_goals try ((repeat' first | apply And.intro | intro hs) <;> (try simp only [go_sem, Bool.and_eq_false_iff] at hs) <;> omega)
 ·exact (j8 (p := fun y => a4H p y) (d := default) (by omega) ha (by simpa [-List.getD_eq_getElem?_getD] using hc)).symm
 ·(refine lpK_n2 (⟨i + 1, by omega, f8 (p := fun y => a4H p y) default (by omega) ha (by simpa [-List.getD_eq_getElem?_getD] using hc)⟩) _ rfl ?_; simp only [go_sem, hS0]; first | done | ((repeat' apply And.intro) <;> first | omega | (refine w64 ?_ ?_ ?_ <;> omega) | rfl | skip))
 ·exact (j7 (by rwa [c6 (by omega)] at ha)).symm
 all_goals trace_state
noncomputable def a4l : CT := c8 (fun (x : (List GLit) × GProgram) => b6K x.1 x.2)
@[go_sem] theorem c2Q (l : List GLit) (p_Decls : List GDecl) (p_Rules : List GRule) : a4l [(false, [.sl false [.i .i64 0, .s [], .sl false [.s [], .i .i64 0, .s []] [], .i .i64 0, .s [], .i .i64 0, .s [], .s [], .i .i64 0, .s []] (l.map (GLit.cells false false))]), (false, [.f 343 [.p [.sl false [.i .i64 0, .s [], .i .i64 0] (p_Decls.map GDecl.cells), .sl false [.i .i64 0, .s [], .sl false [.s [], .i .i64 0, .s []] [], .sl false [.i .i64 0, .s [], .sl false [.s [], .i .i64 0, .s []] [], .i .i64 0, .s [], .i .i64 0, .s [], .s [], .i .i64 0, .s []] []] (p_Rules.map (GRule.cells false false))]]])] = some (True, [], .one (false, [.i .i64 (t6 (fun y => a4H (GProgram.mk p_Decls p_Rules) y) l)])) := c4 _ (by rintro ⟨_, ⟨_, _⟩⟩ ⟨_, ⟨_, _⟩⟩ h; simp at h; simp_all) (l, (GProgram.mk p_Decls p_Rules))
theorem b1h : OkC Tryz.prog 275 a4l := c5 _
theorem b6H (l : List GLit) (p : GProgram) : A0l Tryz.prog 192 [(false, [.sl false [.i .i64 0, .s [], .sl false [.s [], .i .i64 0, .s []] [], .i .i64 0, .s [], .i .i64 0, .s [], .s [], .i .i64 0, .s []] (l.map (GLit.cells false false))]), (false, [.f 343 [.p [.sl false [.i .i64 0, .s [], .i .i64 0] (p.Decls.map GDecl.cells), .sl false [.i .i64 0, .s [], .sl false [.s [], .i .i64 0, .s []] [], .sl false [.i .i64 0, .s [], .sl false [.s [], .i .i64 0, .s []] [], .i .i64 0, .s [], .i .i64 0, .s [], .s [], .i .i64 0, .s []] []] (p.Rules.map (GRule.cells false false))]]])] [] (.one (false, [.b (l.any (fun y => a4H p y))])) := by
 refine spec_of2 false false none Tryz.func192 b5P (rvs := [.t 4]) (hΓ := mkCtx_ok (deep := false) (l := [(275, [], a4l)]) ⟨b1h, trivial⟩) (h := ?_)
 intro hb hE
 simp only [go_sem] at hb
 simp only [a9J, x']
 (try refine A2V ?_); simp only [go_sem]; (repeat' first | apply CJ.mk | intro hc); all_goals try ((repeat' first | apply And.intro | intro hs) <;> (try simp only [go_sem, Bool.and_eq_false_iff] at hs) <;> omega)
 ·exact s7 _ _
noncomputable def a4i : CT := c8 (fun (x : (List GLit) × GProgram) => b6H x.1 x.2)
@[go_sem] theorem c2N (l : List GLit) (p_Decls : List GDecl) (p_Rules : List GRule) : a4i [(false, [.sl false [.i .i64 0, .s [], .sl false [.s [], .i .i64 0, .s []] [], .i .i64 0, .s [], .i .i64 0, .s [], .s [], .i .i64 0, .s []] (l.map (GLit.cells false false))]), (false, [.f 343 [.p [.sl false [.i .i64 0, .s [], .i .i64 0] (p_Decls.map GDecl.cells), .sl false [.i .i64 0, .s [], .sl false [.s [], .i .i64 0, .s []] [], .sl false [.i .i64 0, .s [], .sl false [.s [], .i .i64 0, .s []] [], .i .i64 0, .s [], .i .i64 0, .s [], .s [], .i .i64 0, .s []] []] (p_Rules.map (GRule.cells false false))]]])] = some (True, [], .one (false, [.b (l.any (fun y => a4H (GProgram.mk p_Decls p_Rules) y))])) := c4 _ (by rintro ⟨_, ⟨_, _⟩⟩ ⟨_, ⟨_, _⟩⟩ h; simp at h; simp_all) (l, (GProgram.mk p_Decls p_Rules))
theorem b1e : OkC Tryz.prog 192 a4i := c5 _
def a1k : ACode := q' ([o' 2 (.box 2 (.t 0)), o' 3 (.box 4 (.t 1)), b' 4 false]) (q' ([f' 7 3 3, l' 8 7, m' 5 8]) (.seq (q' ([f' 9 0 3, l' 10 9, o' 11 (.bin .neq (.t 10) (k' 1)),
 m' 12 11, ⟨some 13, .fa 1 (.t 3), some (12, false)⟩, ⟨some 14, .fa 0 (.t 13), some (12, false)⟩, ⟨some 15, .ld false 1 (.t 14), some (12, false)⟩, ⟨some 16,
 .bin .eql (.t 15) (.k (.v false [.c (.s [102, 111, 114, 119, 97, 114, 100])])), some (12, false)⟩, o' 17 (.pick (.t 12) (.k (.v false [.c (.b true)])) (.t
 16))]) (.cond (.t 17) (.seq (q' ([m' 18 5, n' 19 18, o' 20 (.bin .eql (.t 19) (k' 0)), m' 21 20, ⟨some 22, .mov (.t 5), some (21, false)⟩, ⟨some 23, .ia 10
 (.t 22) (k' 0), some (21, false)⟩, ⟨some 24, .fa 0 (.t 23), some (21, false)⟩, ⟨some 25, .ld false 1 (.t 24), some (21, false)⟩, ⟨some 26, .bin .neq (.t 25)
 (k' 1), some (21, false)⟩, o' 27 (.pick (.t 21) (.k (.v false [.c (.b true)])) (.t 26))]) (.cond (.t 27) (q' ([b' 4 false]) .ret) .skip)) (q' ([m' 28 5, o' 29
 (.ia 10 (.t 28) (k' 0)), f' 30 1 29, f' 31 0 30, l' 32 31, m' 6 32]) (.seq (q' ([m' 33 6, o' 34 (.bin .neq (.t 33) (.k (.v false [.c (.s [112, 97, 99, 107,
 101, 116])]))), m' 35 34, ⟨some 36, .fa 0 (.t 3), some (35, true)⟩, ⟨some 37, .ld false 1 (.t 36), some (35, true)⟩, ⟨some 38, .bin .eql (.t 37) (k' 1), some
 (35, true)⟩, ⟨some 39, .mov (.t 38), some (35, true)⟩, ⟨some 40, .ld true 2 (.t 2), some (39, false)⟩, ⟨some 41, .mov (.t 6), some (39, false)⟩, ⟨some 42,
 .call 342 [.t 40, .t 41], some (39, false)⟩, ⟨some 43, .not (.t 42), some (39, false)⟩, ⟨some 44, .pick (.t 39) (.k (.v false [.c (.b true)])) (.t 43), some
 (35, true)⟩, o' 45 (.pick (.t 35) (.t 44) (.k (.v false [.c (.b false)])))]) (.cond (.t 45) (q' ([b' 4 false]) .ret) .skip)) (g' [m' 46 5, o' 47 (.slc 10 (.t
 46) (some (k' 1)) none none), m' 5 47])))) .skip)) (q' ([m' 48 5, o' 49 (.mf 343 [.t 2]), c' 50 192 [48, 49], o' 51 (.not (.t 50)), m' 4 51]) .ret)))
theorem a7c : cmp Tryz.prog Tryz.f303 = some a1k := by kernel_rfl
theorem a8l (p : GProgram) (r : GRule) : A0l Tryz.prog 303 [(true, [.sl false [.i .i64 0, .s [], .i .i64 0] (p.Decls.map GDecl.cells), .sl false [.i .i64 0, .s [], .sl false [.s [], .i .i64 0, .s []] [], .sl false [.i .i64 0, .s [], .sl false [.s [], .i .i64 0, .s []] [], .i .i64 0, .s [], .i .i64 0, .s [], .s [], .i .i64 0, .s []] []] (p.Rules.map (GRule.cells false false))]), (true, [.i .i64 r.Kind, .s r.Head.Name, .sl false [.s [], .i .i64 0, .s []] (r.Head.Args.map GTerm.cells), .sl false [.i .i64 0, .s [], .sl false [.s [], .i .i64 0, .s []] [], .i .i64 0, .s [], .i .i64 0, .s [], .s [], .i .i64 0, .s []] (r.Body.map (GLit.cells false false))])] [] (.one (false, [.b (b0B p r)])) := by
 refine spec_of2 false false none Tryz.func303 a7c (rvs := [.t 4]) (hΓ := mkCtx_ok (deep := false) (l := [(342, [], w5), (192, [], a4i)]) ⟨a2H, b1e, trivial⟩) (h := ?_)
 intro hb hE
 simp only [go_sem] at hb
 simp only [a1k, x']
 (try refine A2V ?_); simp only [go_sem]; (repeat' first | apply CJ.mk | intro hc); all_goals try ((repeat' first | apply And.intro | intro hs) <;> (try simp only [go_sem, Bool.and_eq_false_iff] at hs) <;> omega)
 all_goals (try simp only [j3] at *)
 all_goals (clear hb)
 all_goals (first | (simp at hc; omega) | grind [b0B, b7S, pkB, fwB, movB] | trace_state)
noncomputable def v5 : CT := c8 (fun (x : GProgram × GRule) => a8l x.1 x.2)
@[go_sem] theorem b7h (p_Decls : List GDecl) (p_Rules : List GRule) (r_Kind : Int) (r_Head_Name : List UInt8) (r_Head_Args : List GTerm) (r_Body : List GLit) : v5 [(true, [.sl false [.i .i64 0, .s [], .i .i64 0] (p_Decls.map GDecl.cells), .sl false [.i .i64 0, .s [], .sl false [.s [], .i .i64 0, .s []] [], .sl false [.i .i64 0, .s [], .sl false [.s [], .i .i64 0, .s []] [], .i .i64 0, .s [], .i .i64 0, .s [], .s [], .i .i64 0, .s []] []] (p_Rules.map (GRule.cells false false))]), (true, [.i .i64 r_Kind, .s r_Head_Name, .sl false [.s [], .i .i64 0, .s []] (r_Head_Args.map GTerm.cells), .sl false [.i .i64 0, .s [], .sl false [.s [], .i .i64 0, .s []] [], .i .i64 0, .s [], .i .i64 0, .s [], .s [], .i .i64 0, .s []] (r_Body.map (GLit.cells false false))])] = some (True, [], .one (false, [.b (b0B (GProgram.mk p_Decls p_Rules) (GRule.mk r_Kind (GAtom.mk r_Head_Name r_Head_Args) r_Body))])) := c4 _ (by rintro ⟨⟨_, _⟩, ⟨_, ⟨_, _⟩, _⟩⟩ ⟨⟨_, _⟩, ⟨_, ⟨_, _⟩, _⟩⟩ h; simp at h; simp_all) ((GProgram.mk p_Decls p_Rules), (GRule.mk r_Kind (GAtom.mk r_Head_Name r_Head_Args) r_Body))
theorem a5r : OkC Tryz.prog 303 v5 := c5 _
def a1D : ACode := q' ([o' 2 (.box 2 (.t 0)), b' 3 false]) (q' ([e' 4 2 1, f' 5 0 2, l' 6 5, c' 7 163 [4, 6], o' 8 (.bin .lss (.t 7) (k' 0)), m' 3 8]) .ret)
theorem a8d : cmp Tryz.prog Tryz.f300 = some a1D := by kernel_rfl
theorem a9u (a : GAtom) (p : GProgram) : A0l Tryz.prog 300 [(true, [.s a.Name, .sl false [.s [], .i .i64 0, .s []] (a.Args.map GTerm.cells)]), (false, [.p [.sl false [.i .i64 0, .s [], .i .i64 0] (p.Decls.map GDecl.cells), .sl false [.i .i64 0, .s [], .sl false [.s [], .i .i64 0, .s []] [], .sl false [.i .i64 0, .s [], .sl false [.s [], .i .i64 0, .s []] [], .i .i64 0, .s [], .i .i64 0, .s [], .s [], .i .i64 0, .s []] []] (p.Rules.map (GRule.cells false false))]])] [] (.one (false, [.b (a1l p a)])) := by
 refine spec_of2 false false none Tryz.func300 a8d (rvs := [.t 3]) (hΓ := mkCtx_ok (deep := false) (l := [(163, [], s5)]) ⟨w3, trivial⟩) (h := ?_)
 intro hb hE
 simp only [go_sem] at hb
 simp only [a1D, x']
 (try refine A2V ?_); simp only [go_sem]; (repeat' first | apply CJ.mk | intro hc); all_goals try ((repeat' first | apply And.intro | intro hs) <;> (try simp only [go_sem, Bool.and_eq_false_iff] at hs) <;> omega)
 all_goals (first | rfl | trace_state)
noncomputable def w8 : CT := c8 (fun (x : GAtom × GProgram) => a9u x.1 x.2)
@[go_sem] theorem b7E (a_Name : List UInt8) (a_Args : List GTerm) (p_Decls : List GDecl) (p_Rules : List GRule) : w8 [(true, [.s a_Name, .sl false [.s [], .i .i64 0, .s []] (a_Args.map GTerm.cells)]), (false, [.p [.sl false [.i .i64 0, .s [], .i .i64 0] (p_Decls.map GDecl.cells), .sl false [.i .i64 0, .s [], .sl false [.s [], .i .i64 0, .s []] [], .sl false [.i .i64 0, .s [], .sl false [.s [], .i .i64 0, .s []] [], .i .i64 0, .s [], .i .i64 0, .s [], .s [], .i .i64 0, .s []] []] (p_Rules.map (GRule.cells false false))]])] = some (True, [], .one (false, [.b (a1l (GProgram.mk p_Decls p_Rules) (GAtom.mk a_Name a_Args))])) := c4 _ (by rintro ⟨⟨_, _⟩, ⟨_, _⟩⟩ ⟨⟨_, _⟩, ⟨_, _⟩⟩ h; simp at h; simp_all) ((GAtom.mk a_Name a_Args), (GProgram.mk p_Decls p_Rules))
theorem a6q : OkC Tryz.prog 300 w8 := c5 _
def a1E : ACode := q' ([o' 2 (.box 2 (.t 0)), b' 3 false]) (.seq (.reg true [e' 4 2 1, f' 5 0 2, l' 6 5, c' 7 163 [4, 6], f' 8 1 2, l' 9 8, n' 10 9, o' 11 (.bin .neq (.t 7) (.t
 10)), m' 3 11]) .ret)
theorem a8e : cmp Tryz.prog Tryz.f301 = some a1E := by kernel_rfl
theorem a9v (a : GAtom) (p : GProgram) : A0l Tryz.prog 301 [(true, [.s a.Name, .sl false [.s [], .i .i64 0, .s []] (a.Args.map GTerm.cells)]), (false, [.p [.sl false [.i .i64 0, .s [], .i .i64 0] (p.Decls.map GDecl.cells), .sl false [.i .i64 0, .s [], .sl false [.s [], .i .i64 0, .s []] [], .sl false [.i .i64 0, .s [], .sl false [.s [], .i .i64 0, .s []] [], .i .i64 0, .s [], .i .i64 0, .s [], .s [], .i .i64 0, .s []] []] (p.Rules.map (GRule.cells false false))]])] [] (.one (false, [.b (a1m p a)])) := by
 refine spec_of2 false false none Tryz.func301 a8e (rvs := [.t 3]) (hΓ := mkCtx_ok (deep := false) (l := [(163, [], s5)]) ⟨w3, trivial⟩) (h := ?_)
 intro hb hE
 simp only [go_sem] at hb
 simp only [a1E, x']
 (try refine A2V ?_); simp only [go_sem]; (repeat' first | apply CJ.mk | intro hc); all_goals try ((repeat' first | apply And.intro | intro hs) <;> (try simp only [go_sem, Bool.and_eq_false_iff] at hs) <;> omega)
 all_goals (first | rfl | trace_state)
noncomputable def w9 : CT := c8 (fun (x : GAtom × GProgram) => a9v x.1 x.2)
@[go_sem] theorem b7F (a_Name : List UInt8) (a_Args : List GTerm) (p_Decls : List GDecl) (p_Rules : List GRule) : w9 [(true, [.s a_Name, .sl false [.s [], .i .i64 0, .s []] (a_Args.map GTerm.cells)]), (false, [.p [.sl false [.i .i64 0, .s [], .i .i64 0] (p_Decls.map GDecl.cells), .sl false [.i .i64 0, .s [], .sl false [.s [], .i .i64 0, .s []] [], .sl false [.i .i64 0, .s [], .sl false [.s [], .i .i64 0, .s []] [], .i .i64 0, .s [], .i .i64 0, .s [], .s [], .i .i64 0, .s []] []] (p_Rules.map (GRule.cells false false))]])] = some (True, [], .one (false, [.b (a1m (GProgram.mk p_Decls p_Rules) (GAtom.mk a_Name a_Args))])) := c4 _ (by rintro ⟨⟨_, _⟩, ⟨_, _⟩⟩ ⟨⟨_, _⟩, ⟨_, _⟩⟩ h; simp at h; simp_all) ((GAtom.mk a_Name a_Args), (GProgram.mk p_Decls p_Rules))
theorem a6r : OkC Tryz.prog 301 w9 := c5 _
def a1F : ACode := q' ([o' 1 (.box 2 (.t 0)), b' 2 false]) (q' ([f' 3 0 1, l' 4 3, o' 5 (.bin .eql (.t 4) (.k (.v false [.c (.s [102, 111, 114, 119, 97, 114, 100])]))), m' 2 5])
 .ret)
theorem a8f : cmp Tryz.prog Tryz.f302 = some a1F := by kernel_rfl
theorem a9w (a : GAtom) : A0l Tryz.prog 302 [(true, [.s a.Name, .sl false [.s [], .i .i64 0, .s []] (a.Args.map GTerm.cells)])] [] (.one (false, [.b (a8h a)])) := by
 refine spec_of2 false false none Tryz.func302 a8f (rvs := [.t 2]) (hΓ := mkCtx_ok (deep := false) (l := []) trivial) (h := ?_)
 intro hb hE
 simp only [go_sem] at hb
 simp only [a1F, x']
 (try refine A2V ?_); simp only [go_sem]; (repeat' first | apply CJ.mk | intro hc); all_goals try ((repeat' first | apply And.intro | intro hs) <;> (try simp only [go_sem, Bool.and_eq_false_iff] at hs) <;> omega)
 all_goals (first | rfl | trace_state)
noncomputable def y3 : CT := c8 (fun (x : GAtom) => a9w x)
@[go_sem] theorem b7G (a_Name : List UInt8) (a_Args : List GTerm) : y3 [(true, [.s a_Name, .sl false [.s [], .i .i64 0, .s []] (a_Args.map GTerm.cells)])] = some (True, [], .one (false, [.b (a8h (GAtom.mk a_Name a_Args))])) := c4 _ (by rintro ⟨_, _⟩ ⟨_, _⟩ h; simp at h; simp_all) (GAtom.mk a_Name a_Args)
theorem a6s : OkC Tryz.prog 302 y3 := c5 _
def a4g : ACode := q' ([z' 4 0]) (.seq (q' ([m' 6 0, n' 7 6, z' 8 0]) (.block 0 (.loop (q' ([r' 9 8 7]) (.seq (.cond (.t 9) .skip (.exit 0)) (.seq (.block 1 (q' ([m' 10 8, m' 5
 10]) (q' ([m' 11 1, m' 12 0, m' 13 5, i' 14 2 12 13, e' 15 2 14, o' 16 (.callv (.t 11) [.t 15])]) (.cond (.t 16) (q' ([m' 17 5, m' 4 17]) .ret) .skip)))) (g'
 [a' 18 8, m' 8 18]))))))) (q' ([o' 4 (.mov (.k (.v false [.c (.i .i64 (-1))])))]) .ret))
theorem a7Z : cmp Tryz.prog Tryz.f341 = some a4g := by kernel_rfl
theorem b8d (l : List GAtom) (p : GProgram) : A0l Tryz.prog 341 [(false, [.sl false [.s [], .sl false [.s [], .i .i64 0, .s []] []] (l.map (GAtom.cells false false))]), (false, [.f 300 [.p [.sl false [.i .i64 0, .s [], .i .i64 0] (p.Decls.map GDecl.cells), .sl false [.i .i64 0, .s [], .sl false [.s [], .i .i64 0, .s []] [], .sl false [.i .i64 0, .s [], .sl false [.s [], .i .i64 0, .s []] [], .i .i64 0, .s [], .i .i64 0, .s [], .s [], .i .i64 0, .s []] []] (p.Rules.map (GRule.cells false false))]]])] [] (.one (false, [.i .i64 (t6 (fun y => a1l p y) l)])) := by
 refine spec_of2 false false none Tryz.func341 a7Z (rvs := [.t 4]) (hΓ := mkCtx_ok (deep := false) (l := [(300, [], w8)]) ⟨a6q, trivial⟩) (h := ?_)
 intro hb hE
 simp only [go_sem] at hb
 simp only [a4g, x']
 (try refine A2V ?_); simp only [go_sem]; (repeat' first | apply CJ.mk | intro hc); all_goals try ((repeat' first | apply And.intro | intro hs) <;> (try simp only [go_sem, Bool.and_eq_false_iff] at hs) <;> omega)
 refine aw_loop2 false [] [0, 1, 7] [] [] (fun i : {i : Nat // i ≤ l.length ∧ (l.take i).any (fun y => a1l p y) = false} => [(8, slV (.i .i64 i.1))]) (fun i => []) (fun i => []) (fun i => l.length - i.1) (⟨0, by simp⟩) _ rfl ?_ ?_
 ·simp only [go_sem]
  all_goals first | omega | ((repeat' apply And.intro) <;> first | omega | rfl | skip)
 intro S0 hS0 i
 simp only [go_sem] at hS0
 obtain ⟨i, hi, ha⟩ := i
 (try refine A2V ?_); simp only [go_sem, hS0]; (repeat' first | apply CJ.mk | intro hc); all_goals try ((repeat' first | apply And.intro | intro hs) <;> (try simp only [go_sem, Bool.and_eq_false_iff] at hs) <;> omega)
 ·exact (j8 (p := fun y => a1l p y) (d := default) (by omega) ha (by simpa [-List.getD_eq_getElem?_getD] using hc)).symm
 ·(refine lpK_n2 (⟨i + 1, by omega, f8 (p := fun y => a1l p y) default (by omega) ha (by simpa [-List.getD_eq_getElem?_getD] using hc)⟩) _ rfl ?_; simp only [go_sem, hS0]; first | done | ((repeat' apply And.intro) <;> first | omega | (refine w64 ?_ ?_ ?_ <;> omega) | rfl | skip))
 ·exact (j7 (by rwa [c6 (by omega)] at ha)).symm
 all_goals trace_state
noncomputable def a6i : CT := c8 (fun (x : (List GAtom) × GProgram) => b8d x.1 x.2)
@[go_sem] theorem c3H (l : List GAtom) (p_Decls : List GDecl) (p_Rules : List GRule) : a6i [(false, [.sl false [.s [], .sl false [.s [], .i .i64 0, .s []] []] (l.map (GAtom.cells false false))]), (false, [.f 300 [.p [.sl false [.i .i64 0, .s [], .i .i64 0] (p_Decls.map GDecl.cells), .sl false [.i .i64 0, .s [], .sl false [.s [], .i .i64 0, .s []] [], .sl false [.i .i64 0, .s [], .sl false [.s [], .i .i64 0, .s []] [], .i .i64 0, .s [], .i .i64 0, .s [], .s [], .i .i64 0, .s []] []] (p_Rules.map (GRule.cells false false))]]])] = some (True, [], .one (false, [.i .i64 (t6 (fun y => a1l (GProgram.mk p_Decls p_Rules) y) l)])) := c4 _ (by rintro ⟨_, ⟨_, _⟩⟩ ⟨_, ⟨_, _⟩⟩ h; simp at h; simp_all) (l, (GProgram.mk p_Decls p_Rules))
theorem b2M : OkC Tryz.prog 341 a6i := c5 _
def a4f : ACode := q' ([b' 4 false]) (q' ([m' 5 0, m' 6 1, c' 7 341 [5, 6], o' 8 (.bin .geq (.t 7) (k' 0)), m' 4 8]) .ret)
theorem a7Y : cmp Tryz.prog Tryz.f299 = some a4f := by kernel_rfl
theorem b8a (l : List GAtom) (p : GProgram) : A0l Tryz.prog 299 [(false, [.sl false [.s [], .sl false [.s [], .i .i64 0, .s []] []] (l.map (GAtom.cells false false))]), (false, [.f 300 [.p [.sl false [.i .i64 0, .s [], .i .i64 0] (p.Decls.map GDecl.cells), .sl false [.i .i64 0, .s [], .sl false [.s [], .i .i64 0, .s []] [], .sl false [.i .i64 0, .s [], .sl false [.s [], .i .i64 0, .s []] [], .i .i64 0, .s [], .i .i64 0, .s [], .s [], .i .i64 0, .s []] []] (p.Rules.map (GRule.cells false false))]]])] [] (.one (false, [.b (l.any (fun y => a1l p y))])) := by
 refine spec_of2 false false none Tryz.func299 a7Y (rvs := [.t 4]) (hΓ := mkCtx_ok (deep := false) (l := [(341, [], a6i)]) ⟨b2M, trivial⟩) (h := ?_)
 intro hb hE
 simp only [go_sem] at hb
 simp only [a4f, x']
 (try refine A2V ?_); simp only [go_sem]; (repeat' first | apply CJ.mk | intro hc); all_goals try ((repeat' first | apply And.intro | intro hs) <;> (try simp only [go_sem, Bool.and_eq_false_iff] at hs) <;> omega)
 ·exact s7 _ _
noncomputable def a6f : CT := c8 (fun (x : (List GAtom) × GProgram) => b8a x.1 x.2)
@[go_sem] theorem b2F (l : List GAtom) (p_Decls : List GDecl) (p_Rules : List GRule) : a6f [(false, [.sl false [.s [], .sl false [.s [], .i .i64 0, .s []] []] (l.map (GAtom.cells false false))]), (false, [.f 300 [.p [.sl false [.i .i64 0, .s [], .i .i64 0] (p_Decls.map GDecl.cells), .sl false [.i .i64 0, .s [], .sl false [.s [], .i .i64 0, .s []] [], .sl false [.i .i64 0, .s [], .sl false [.s [], .i .i64 0, .s []] [], .i .i64 0, .s [], .i .i64 0, .s [], .s [], .i .i64 0, .s []] []] (p_Rules.map (GRule.cells false false))]]])] = some (True, [], .one (false, [.b (l.any (fun y => a1l (GProgram.mk p_Decls p_Rules) y))])) := c4 _ (by rintro ⟨_, ⟨_, _⟩⟩ ⟨_, ⟨_, _⟩⟩ h; simp at h; simp_all) (l, (GProgram.mk p_Decls p_Rules))
theorem b2G : OkC Tryz.prog 299 a6f := c5 _
theorem b8e (l : List GAtom) (p : GProgram) : A0l Tryz.prog 341 [(false, [.sl false [.s [], .sl false [.s [], .i .i64 0, .s []] []] (l.map (GAtom.cells false false))]), (false, [.f 301 [.p [.sl false [.i .i64 0, .s [], .i .i64 0] (p.Decls.map GDecl.cells), .sl false [.i .i64 0, .s [], .sl false [.s [], .i .i64 0, .s []] [], .sl false [.i .i64 0, .s [], .sl false [.s [], .i .i64 0, .s []] [], .i .i64 0, .s [], .i .i64 0, .s [], .s [], .i .i64 0, .s []] []] (p.Rules.map (GRule.cells false false))]]])] [] (.one (false, [.i .i64 (t6 (fun y => a1m p y) l)])) := by
 refine spec_of2 false false none Tryz.func341 a7Z (rvs := [.t 4]) (hΓ := mkCtx_ok (deep := false) (l := [(301, [], w9)]) ⟨a6r, trivial⟩) (h := ?_)
 intro hb hE
 simp only [go_sem] at hb
 simp only [a4g, x']
 (try refine A2V ?_); simp only [go_sem]; (repeat' first | apply CJ.mk | intro hc); all_goals try ((repeat' first | apply And.intro | intro hs) <;> (try simp only [go_sem, Bool.and_eq_false_iff] at hs) <;> omega)
 refine aw_loop2 false [] [0, 1, 7] [] [] (fun i : {i : Nat // i ≤ l.length ∧ (l.take i).any (fun y => a1m p y) = false} => [(8, slV (.i .i64 i.1))]) (fun i => []) (fun i => []) (fun i => l.length - i.1) (⟨0, by simp⟩) _ rfl ?_ ?_
 ·simp only [go_sem]
  all_goals first | omega | ((repeat' apply And.intro) <;> first | omega | rfl | skip)
 intro S0 hS0 i
 simp only [go_sem] at hS0
 obtain ⟨i, hi, ha⟩ := i
 (try refine A2V ?_); simp only [go_sem, hS0]; (repeat' first | apply CJ.mk | intro hc); all_goals try ((repeat' first | apply And.intro | intro hs) <;> (try simp only [go_sem, Bool.and_eq_false_iff] at hs) <;> omega)
 ·exact (j8 (p := fun y => a1m p y) (d := default) (by omega) ha (by simpa [-List.getD_eq_getElem?_getD] using hc)).symm
 ·(refine lpK_n2 (⟨i + 1, by omega, f8 (p := fun y => a1m p y) default (by omega) ha (by simpa [-List.getD_eq_getElem?_getD] using hc)⟩) _ rfl ?_; simp only [go_sem, hS0]; first | done | ((repeat' apply And.intro) <;> first | omega | (refine w64 ?_ ?_ ?_ <;> omega) | rfl | skip))
 ·exact (j7 (by rwa [c6 (by omega)] at ha)).symm
 all_goals trace_state
noncomputable def a6j : CT := c8 (fun (x : (List GAtom) × GProgram) => b8e x.1 x.2)
@[go_sem] theorem c3I (l : List GAtom) (p_Decls : List GDecl) (p_Rules : List GRule) : a6j [(false, [.sl false [.s [], .sl false [.s [], .i .i64 0, .s []] []] (l.map (GAtom.cells false false))]), (false, [.f 301 [.p [.sl false [.i .i64 0, .s [], .i .i64 0] (p_Decls.map GDecl.cells), .sl false [.i .i64 0, .s [], .sl false [.s [], .i .i64 0, .s []] [], .sl false [.i .i64 0, .s [], .sl false [.s [], .i .i64 0, .s []] [], .i .i64 0, .s [], .i .i64 0, .s [], .s [], .i .i64 0, .s []] []] (p_Rules.map (GRule.cells false false))]]])] = some (True, [], .one (false, [.i .i64 (t6 (fun y => a1m (GProgram.mk p_Decls p_Rules) y) l)])) := c4 _ (by rintro ⟨_, ⟨_, _⟩⟩ ⟨_, ⟨_, _⟩⟩ h; simp at h; simp_all) (l, (GProgram.mk p_Decls p_Rules))
theorem b2N : OkC Tryz.prog 341 a6j := c5 _
theorem b8b (l : List GAtom) (p : GProgram) : A0l Tryz.prog 299 [(false, [.sl false [.s [], .sl false [.s [], .i .i64 0, .s []] []] (l.map (GAtom.cells false false))]), (false, [.f 301 [.p [.sl false [.i .i64 0, .s [], .i .i64 0] (p.Decls.map GDecl.cells), .sl false [.i .i64 0, .s [], .sl false [.s [], .i .i64 0, .s []] [], .sl false [.i .i64 0, .s [], .sl false [.s [], .i .i64 0, .s []] [], .i .i64 0, .s [], .i .i64 0, .s [], .s [], .i .i64 0, .s []] []] (p.Rules.map (GRule.cells false false))]]])] [] (.one (false, [.b (l.any (fun y => a1m p y))])) := by
 refine spec_of2 false false none Tryz.func299 a7Y (rvs := [.t 4]) (hΓ := mkCtx_ok (deep := false) (l := [(341, [], a6j)]) ⟨b2N, trivial⟩) (h := ?_)
 intro hb hE
 simp only [go_sem] at hb
 simp only [a4f, x']
 (try refine A2V ?_); simp only [go_sem]; (repeat' first | apply CJ.mk | intro hc); all_goals try ((repeat' first | apply And.intro | intro hs) <;> (try simp only [go_sem, Bool.and_eq_false_iff] at hs) <;> omega)
 ·exact s7 _ _
noncomputable def a6g : CT := c8 (fun (x : (List GAtom) × GProgram) => b8b x.1 x.2)
@[go_sem] theorem b2H (l : List GAtom) (p_Decls : List GDecl) (p_Rules : List GRule) : a6g [(false, [.sl false [.s [], .sl false [.s [], .i .i64 0, .s []] []] (l.map (GAtom.cells false false))]), (false, [.f 301 [.p [.sl false [.i .i64 0, .s [], .i .i64 0] (p_Decls.map GDecl.cells), .sl false [.i .i64 0, .s [], .sl false [.s [], .i .i64 0, .s []] [], .sl false [.i .i64 0, .s [], .sl false [.s [], .i .i64 0, .s []] [], .i .i64 0, .s [], .i .i64 0, .s [], .s [], .i .i64 0, .s []] []] (p_Rules.map (GRule.cells false false))]]])] = some (True, [], .one (false, [.b (l.any (fun y => a1m (GProgram.mk p_Decls p_Rules) y))])) := c4 _ (by rintro ⟨_, ⟨_, _⟩⟩ ⟨_, ⟨_, _⟩⟩ h; simp at h; simp_all) (l, (GProgram.mk p_Decls p_Rules))
theorem b2I : OkC Tryz.prog 299 a6g := c5 _
theorem b8f (l : List GAtom) : A0l Tryz.prog 341 [(false, [.sl false [.s [], .sl false [.s [], .i .i64 0, .s []] []] (l.map (GAtom.cells false false))]), (false, [.f 302 []])] [] (.one (false, [.i .i64 (t6 (fun y => a8h y) l)])) := by
 refine spec_of2 false false none Tryz.func341 a7Z (rvs := [.t 4]) (hΓ := mkCtx_ok (deep := false) (l := [(302, [], y3)]) ⟨a6s, trivial⟩) (h := ?_)
 intro hb hE
 simp only [go_sem] at hb
 simp only [a4g, x']
 (try refine A2V ?_); simp only [go_sem]; (repeat' first | apply CJ.mk | intro hc); all_goals try ((repeat' first | apply And.intro | intro hs) <;> (try simp only [go_sem, Bool.and_eq_false_iff] at hs) <;> omega)
 refine aw_loop2 false [] [0, 1, 7] [] [] (fun i : {i : Nat // i ≤ l.length ∧ (l.take i).any (fun y => a8h y) = false} => [(8, slV (.i .i64 i.1))]) (fun i => []) (fun i => []) (fun i => l.length - i.1) (⟨0, by simp⟩) _ rfl ?_ ?_
 ·simp only [go_sem]
  all_goals first | omega | ((repeat' apply And.intro) <;> first | omega | rfl | skip)
 intro S0 hS0 i
 simp only [go_sem] at hS0
 obtain ⟨i, hi, ha⟩ := i
 (try refine A2V ?_); simp only [go_sem, hS0]; (repeat' first | apply CJ.mk | intro hc); all_goals try ((repeat' first | apply And.intro | intro hs) <;> (try simp only [go_sem, Bool.and_eq_false_iff] at hs) <;> omega)
 ·exact (j8 (p := fun y => a8h y) (d := default) (by omega) ha (by simpa [-List.getD_eq_getElem?_getD] using hc)).symm
 ·(refine lpK_n2 (⟨i + 1, by omega, f8 (p := fun y => a8h y) default (by omega) ha (by simpa [-List.getD_eq_getElem?_getD] using hc)⟩) _ rfl ?_; simp only [go_sem, hS0]; first | done | ((repeat' apply And.intro) <;> first | omega | (refine w64 ?_ ?_ ?_ <;> omega) | rfl | skip))
 ·exact (j7 (by rwa [c6 (by omega)] at ha)).symm
 all_goals trace_state
noncomputable def a6k : CT := c8 (fun (x : (List GAtom)) => b8f x)
@[go_sem] theorem c3J (l : List GAtom) : a6k [(false, [.sl false [.s [], .sl false [.s [], .i .i64 0, .s []] []] (l.map (GAtom.cells false false))]), (false, [.f 302 []])] = some (True, [], .one (false, [.i .i64 (t6 (fun y => a8h y) l)])) := c4 _ (by intro x y h; simp at h; simp_all) l
theorem b2O : OkC Tryz.prog 341 a6k := c5 _
theorem b8c (l : List GAtom) : A0l Tryz.prog 299 [(false, [.sl false [.s [], .sl false [.s [], .i .i64 0, .s []] []] (l.map (GAtom.cells false false))]), (false, [.f 302 []])] [] (.one (false, [.b (l.any (fun y => a8h y))])) := by
 refine spec_of2 false false none Tryz.func299 a7Y (rvs := [.t 4]) (hΓ := mkCtx_ok (deep := false) (l := [(341, [], a6k)]) ⟨b2O, trivial⟩) (h := ?_)
 intro hb hE
 simp only [go_sem] at hb
 simp only [a4f, x']
 (try refine A2V ?_); simp only [go_sem]; (repeat' first | apply CJ.mk | intro hc); all_goals try ((repeat' first | apply And.intro | intro hs) <;> (try simp only [go_sem, Bool.and_eq_false_iff] at hs) <;> omega)
 ·exact s7 _ _
noncomputable def a6h : CT := c8 (fun (x : (List GAtom)) => b8c x)
@[go_sem] theorem b2J (l : List GAtom) : a6h [(false, [.sl false [.s [], .sl false [.s [], .i .i64 0, .s []] []] (l.map (GAtom.cells false false))]), (false, [.f 302 []])] = some (True, [], .one (false, [.b (l.any (fun y => a8h y))])) := c4 _ (by intro x y h; simp at h; simp_all) l
theorem b2K : OkC Tryz.prog 299 a6h := c5 _
noncomputable def l5 : CT := (ctO a6f (ctO a6g a6h))
@[go_sem] theorem b7i (l : List GAtom) (p_Decls : List GDecl) (p_Rules : List GRule) : l5 [(false, [.sl false [.s [], .sl false [.s [], .i .i64 0, .s []] []] (l.map (GAtom.cells false false))]), (false, [.f 300 [.p [.sl false [.i .i64 0, .s [], .i .i64 0] (p_Decls.map GDecl.cells), .sl false [.i .i64 0, .s [], .sl false [.s [], .i .i64 0, .s []] [], .sl false [.i .i64 0, .s [], .sl false [.s [], .i .i64 0, .s []] [], .i .i64 0, .s [], .i .i64 0, .s [], .s [], .i .i64 0, .s []] []] (p_Rules.map (GRule.cells false false))]]])] = some (True, [], .one (false, [.b (l.any (fun y => a1l (GProgram.mk p_Decls p_Rules) y))])) := b7L (b2F l p_Decls p_Rules)
@[go_sem] theorem b7j (l : List GAtom) (p_Decls : List GDecl) (p_Rules : List GRule) : l5 [(false, [.sl false [.s [], .sl false [.s [], .i .i64 0, .s []] []] (l.map (GAtom.cells false false))]), (false, [.f 301 [.p [.sl false [.i .i64 0, .s [], .i .i64 0] (p_Decls.map GDecl.cells), .sl false [.i .i64 0, .s [], .sl false [.s [], .i .i64 0, .s []] [], .sl false [.i .i64 0, .s [], .sl false [.s [], .i .i64 0, .s []] [], .i .i64 0, .s [], .i .i64 0, .s [], .s [], .i .i64 0, .s []] []] (p_Rules.map (GRule.cells false false))]]])] = some (True, [], .one (false, [.b (l.any (fun y => a1m (GProgram.mk p_Decls p_Rules) y))])) := (b2T (b0j (fun x h => by simp only [List.cons.injEq, Prod.mk.injEq, C.i.injEq, C.s.injEq, C.b.injEq, C.sl.injEq, C.p.injEq, C.mp.injEq, C.f.injEq, reduceCtorEq, Bool.false_eq_true, Nat.reduceEqDiff, Bool.true_eq_false, true_and, and_true, false_and, and_false] at h))).trans (b7L (b2H l p_Decls p_Rules))
@[go_sem] theorem b7k (l : List GAtom) : l5 [(false, [.sl false [.s [], .sl false [.s [], .i .i64 0, .s []] []] (l.map (GAtom.cells false false))]), (false, [.f 302 []])] = some (True, [], .one (false, [.b (l.any (fun y => a8h y))])) := (b2T (b0j (fun x h => by simp only [List.cons.injEq, Prod.mk.injEq, C.i.injEq, C.s.injEq, C.b.injEq, C.sl.injEq, C.p.injEq, C.mp.injEq, C.f.injEq, reduceCtorEq, Bool.false_eq_true, Nat.reduceEqDiff, Bool.true_eq_false, true_and, and_true, false_and, and_false] at h))).trans ((b2T (b0j (fun x h => by simp only [List.cons.injEq, Prod.mk.injEq, C.i.injEq, C.s.injEq, C.b.injEq, C.sl.injEq, C.p.injEq, C.mp.injEq, C.f.injEq, reduceCtorEq, Bool.false_eq_true, Nat.reduceEqDiff, Bool.true_eq_false, true_and, and_true, false_and, and_false] at h))).trans (b2J l))
theorem a5s : OkC Tryz.prog 299 l5 := (c3P b2G (c3P b2I b2K))
def a3r : ACode := q' ([o' 2 (.box 2 (.t 0)), o' 3 (.box 4 (.t 1)), z' 4 0]) (q' ([e' 8 4 3, c' 9 168 [8], m' 5 9]) (.seq (q' ([m' 10 5, o' 11 (.mf 300 [.t 2]), c' 12 299 [10,
 11]]) (.cond (.t 12) (q' ([z' 4 3]) .ret) .skip)) (.seq (q' ([m' 13 5, o' 14 (.mf 301 [.t 2]), c' 15 299 [13, 14]]) (.cond (.t 15) (q' ([z' 4 4]) .ret)
 .skip)) (q' ([e' 16 2 2, f' 17 1 3, f' 18 0 17, l' 19 18, c' 20 82 [16, 19], m' 6 20]) (q' ([m' 21 6, o' 22 (.bin .eql (.t 21) (k' 3)), m' 23 22, ⟨some 24,
 .fa 1 (.t 3), some (23, false)⟩, ⟨some 25, .fa 0 (.t 24), some (23, false)⟩, ⟨some 26, .ld false 1 (.t 25), some (23, false)⟩, ⟨some 27, .bin .eql (.t 26) (.k
 (.v false [.c (.s [102, 111, 114, 119, 97, 114, 100])])), some (23, false)⟩, o' 28 (.pick (.t 23) (.k (.v false [.c (.b true)])) (.t 27)), m' 7 28]) (.seq
 (.block 0 (q' ([f' 30 0 3, l' 31 30, o' 32 (.bin .eql (.t 31) (k' 1)), m' 33 32, ⟨some 34, .mov (.t 7), some (33, true)⟩, ⟨some 35, .not (.t 34), some (33,
 true)⟩, o' 36 (.pick (.t 33) (.t 35) (.k (.v false [.c (.b false)]))), m' 37 36, ⟨some 38, .fa 0 (.t 3), some (37, false)⟩, ⟨some 39, .ld false 1 (.t 38),
 some (37, false)⟩, ⟨some 40, .bin .neq (.t 39) (k' 1), some (37, false)⟩, ⟨some 41, .mov (.t 40), some (37, false)⟩, ⟨some 42, .mov (.t 6), some (41, true)⟩,
 ⟨some 43, .bin .neq (.t 42) (k' 1), some (41, true)⟩, ⟨some 44, .pick (.t 41) (.t 43) (.k (.v false [.c (.b false)])), some (37, false)⟩, o' 45 (.pick (.t 37)
 (.k (.v false [.c (.b true)])) (.t 44)), m' 29 45]) (.cond (.t 29) (q' ([z' 4 5]) .ret) (q' ([m' 47 5, o' 48 (.slc 2 (.t 47) (some (k' 1)) none none), o' 49
 (.call 299 [.t 48, .k (.v false [.c (.f 302 [])])]), m' 46 49]) (.cond (.t 46) (q' ([z' 4 6]) .ret) (q' ([e' 51 2 2, e' 52 4 3, c' 53 303 [51, 52], o' 54
 (.not (.t 53)), m' 50 54]) (.cond (.t 50) (q' ([z' 4 7]) .ret) .skip))))))) (q' ([z' 4 0]) .ret)))))))
theorem b0q : cmp Tryz.prog Tryz.f220 = some a3r := by kernel_rfl
theorem b2g (p : GProgram) (r : GRule) (hpre : r.Body.length ≤ 8) : A0l Tryz.prog 220 [(true, [.sl false [.i .i64 0, .s [], .i .i64 0] (p.Decls.map GDecl.cells), .sl false [.i .i64 0, .s [], .sl false [.s [], .i .i64 0, .s []] [], .sl false [.i .i64 0, .s [], .sl false [.s [], .i .i64 0, .s []] [], .i .i64 0, .s [], .i .i64 0, .s [], .s [], .i .i64 0, .s []] []] (p.Rules.map (GRule.cells false false))]), (true, [.i .i64 r.Kind, .s r.Head.Name, .sl false [.s [], .i .i64 0, .s []] (r.Head.Args.map GTerm.cells), .sl false [.i .i64 0, .s [], .sl false [.s [], .i .i64 0, .s []] [], .i .i64 0, .s [], .i .i64 0, .s [], .s [], .i .i64 0, .s []] (r.Body.map (GLit.cells false false))])] [] (.one (false, [.i .i64 (i8 p r)])) := by
 refine spec_of2 false false none Tryz.func220 b0q (rvs := [.t 4]) (hΓ := mkCtx_ok (deep := false) (l := [(168, [], a1P), (299, [], l5), (82, [], n9), (303, [], v5)]) ⟨a8E, a5s, o7, a5r, trivial⟩) (h := ?_)
 intro hb hE
 simp only [go_sem] at hb
 simp only [a3r, x']
 (try refine A2V ?_); simp only [go_sem]; (repeat' first | apply CJ.mk | intro hc); all_goals try ((repeat' first | apply And.intro | intro hs) <;> (try simp only [go_sem, Bool.and_eq_false_iff] at hs) <;> omega)
 all_goals (try simp only [j3] at *)
 all_goals (clear hb)
 all_goals (first | (have := b0Y r; omega) | grind [i8, a2Q, fwB] | trace_state)
noncomputable def a0R : CT := n8 (fun (x : GProgram × GRule) h => b2g x.1 x.2 h)
@[go_sem] theorem b9A (p_Decls : List GDecl) (p_Rules : List GRule) (r_Kind : Int) (r_Head_Name : List UInt8) (r_Head_Args : List GTerm) (r_Body : List GLit) : a0R [(true, [.sl false [.i .i64 0, .s [], .i .i64 0] (p_Decls.map GDecl.cells), .sl false [.i .i64 0, .s [], .sl false [.s [], .i .i64 0, .s []] [], .sl false [.i .i64 0, .s [], .sl false [.s [], .i .i64 0, .s []] [], .i .i64 0, .s [], .i .i64 0, .s [], .s [], .i .i64 0, .s []] []] (p_Rules.map (GRule.cells false false))]), (true, [.i .i64 r_Kind, .s r_Head_Name, .sl false [.s [], .i .i64 0, .s []] (r_Head_Args.map GTerm.cells), .sl false [.i .i64 0, .s [], .sl false [.s [], .i .i64 0, .s []] [], .i .i64 0, .s [], .i .i64 0, .s [], .s [], .i .i64 0, .s []] (r_Body.map (GLit.cells false false))])] = some ((GRule.mk r_Kind (GAtom.mk r_Head_Name r_Head_Args) r_Body).Body.length ≤ 8, [], .one (false, [.i .i64 (i8 (GProgram.mk p_Decls p_Rules) (GRule.mk r_Kind (GAtom.mk r_Head_Name r_Head_Args) r_Body))])) := d3 _ (by rintro ⟨⟨_, _⟩, ⟨_, ⟨_, _⟩, _⟩⟩ ⟨⟨_, _⟩, ⟨_, ⟨_, _⟩, _⟩⟩ h; simp at h; simp_all) ((GProgram.mk p_Decls p_Rules), (GRule.mk r_Kind (GAtom.mk r_Head_Name r_Head_Args) r_Body))
theorem a7K : OkC Tryz.prog 220 a0R := d4 _
theorem a8x {α : Type} {q : α → Bool} {l : List α} {i : Nat} (d : α) (h : i < l.length) (hp : q (l.getD i d) = true) : l.any q = true := by
 rw [List.any_eq_true]
 exact ⟨l.getD i d, by rw [j4 d h]; exact List.getElem_mem h, hp⟩
theorem c1E {α : Type} {q : α → Bool} {l : List α} {i k : Nat} (d : α) (hk : k ≤ i) (h : i < l.length) (ha : ((l.take i).drop k).any q = false) (hp : q (l.getD i d) = false) : ((l.take (i + 1)).drop k).any q = false := by
 rw [c9 d h, List.drop_append_of_le_length (by rw [List.length_take]; omega), List.any_append, ha]
 simp only [List.any_cons, List.any_nil, hp, Bool.or_false]
theorem c3y {α : Type} {q : α → Bool} {l : List α} {i k : Nat} (d : α) (hk : k ≤ i) (h : i < l.length) (hp : q (l.getD i d) = true) : (l.drop k).any q = true := by
 rw [List.any_eq_true]
 refine ⟨l.getD i d, ?_, hp⟩
 rw [j4 d h, List.mem_drop_iff_getElem]
 exact ⟨i - k, by omega, by congr 1; omega⟩
def a5l : ACode := q' ([o' 2 (.box 2 (.t 0)), o' 3 (.box 4 (.t 1)), z' 4 0]) (q' ([e' 15 4 3, c' 16 214 [15], m' 5 16]) (.seq (q' ([m' 17 5, n' 18 17, z' 19 0]) (.block 0 (.loop
 (q' ([r' 20 19 18]) (.seq (.cond (.t 20) .skip (.exit 0)) (.seq (.block 1 (q' ([i' 21 2 17 19, e' 22 2 21, w' 7 [.s, .sl [.s [], .i .i64 0, .s []]], s' 2 7
 22]) (q' ([e' 23 2 2, f' 24 0 7, l' 25 24, c' 26 215 [23, 25], o' 27 (.bin .lss (.t 26) (k' 0))]) (.cond (.t 27) (q' ([z' 4 3]) .ret) .skip)))) (g' [a' 28 19,
 m' 19 28]))))))) (.seq (q' ([m' 29 5, n' 30 29, z' 31 0]) (.block 2 (.loop (q' ([r' 32 31 30]) (.seq (.cond (.t 32) .skip (.exit 2)) (.seq (.block 3 (q' ([i'
 33 2 29 31, e' 34 2 33, w' 9 [.s, .sl [.s [], .i .i64 0, .s []]], s' 2 9 34]) (.seq (.reg true [e' 35 2 2, f' 36 0 9, l' 37 36, c' 38 215 [35, 37], f' 39 1 9,
 l' 40 39, n' 41 40, o' 42 (.bin .neq (.t 38) (.t 41))]) (.cond (.t 42) (q' ([z' 4 4]) .ret) .skip)))) (g' [a' 43 31, m' 31 43]))))))) (q' ([e' 44 2 2, f' 45 1
 3, f' 46 0 45, l' 47 46, c' 48 160 [44, 47], o' 49 (.fl false 0 1 (.t 48)), m' 10 49]) (.seq (q' ([f' 50 0 3, l' 51 50, o' 52 (.bin .eql (.t 51) (k' 1)), m'
 53 52, ⟨some 54, .mov (.t 10), some (53, true)⟩, ⟨some 55, .bin .neq (.t 54) (k' 3), some (53, true)⟩, o' 56 (.pick (.t 53) (.t 55) (.k (.v false [.c (.b
 false)]))), m' 57 56, ⟨some 58, .fa 1 (.t 3), some (57, true)⟩, ⟨some 59, .fa 0 (.t 58), some (57, true)⟩, ⟨some 60, .ld false 1 (.t 59), some (57, true)⟩,
 ⟨some 61, .bin .neq (.t 60) (.k (.v false [.c (.s [102, 111, 114, 119, 97, 114, 100])])), some (57, true)⟩, o' 62 (.pick (.t 57) (.t 61) (.k (.v false [.c (.b
 false)]))), m' 63 62, ⟨some 64, .fa 0 (.t 3), some (63, false)⟩, ⟨some 65, .ld false 1 (.t 64), some (63, false)⟩, ⟨some 66, .bin .neq (.t 65) (k' 1), some
 (63, false)⟩, ⟨some 67, .mov (.t 66), some (63, false)⟩, ⟨some 68, .mov (.t 10), some (67, true)⟩, ⟨some 69, .bin .neq (.t 68) (k' 1), some (67, true)⟩, ⟨some
 70, .pick (.t 67) (.t 69) (.k (.v false [.c (.b false)])), some (63, false)⟩, o' 71 (.pick (.t 63) (.k (.v false [.c (.b true)])) (.t 70))]) (.cond (.t 71)
 (q' ([z' 4 5]) .ret) .skip)) (.seq (q' ([m' 72 5, o' 73 (.slc 2 (.t 72) (some (k' 1)) none none), n' 74 73, z' 75 0]) (.block 4 (.loop (q' ([r' 76 75 74])
 (.seq (.cond (.t 76) .skip (.exit 4)) (.seq (.block 5 (q' ([i' 77 2 73 75, e' 78 2 77, w' 12 [.s, .sl [.s [], .i .i64 0, .s []]], s' 2 12 78]) (q' ([f' 79 0
 12, l' 80 79, o' 81 (.bin .eql (.t 80) (.k (.v false [.c (.s [102, 111, 114, 119, 97, 114, 100])])))]) (.cond (.t 81) (q' ([z' 4 6]) .ret) .skip)))) (g' [a'
 82 75, m' 75 82]))))))) (q' ([z' 13 0]) (.seq (q' ([f' 83 0 3, l' 84 83, o' 85 (.bin .neq (.t 84) (k' 1)), m' 86 85, ⟨some 87, .fa 1 (.t 3), some (86,
 false)⟩, ⟨some 88, .fa 0 (.t 87), some (86, false)⟩, ⟨some 89, .ld false 1 (.t 88), some (86, false)⟩, ⟨some 90, .bin .eql (.t 89) (.k (.v false [.c (.s [102,
 111, 114, 119, 97, 114, 100])])), some (86, false)⟩, o' 91 (.pick (.t 86) (.k (.v false [.c (.b true)])) (.t 90))]) (.cond (.t 91) (.seq (.seq (.reg true [f'
 92 3 3, l' 93 92, n' 94 93, o' 95 (.bin .eql (.t 94) (k' 0)), m' 96 95, ⟨some 97, .fa 3 (.t 3), some (96, false)⟩, ⟨some 98, .ld false 1 (.t 97), some (96,
 false)⟩, ⟨some 99, .ia 10 (.t 98) (k' 0), some (96, false)⟩, ⟨some 100, .fa 0 (.t 99), some (96, false)⟩, ⟨some 101, .ld false 1 (.t 100), some (96, false)⟩,
 ⟨some 102, .bin .neq (.t 101) (k' 1), some (96, false)⟩, o' 103 (.pick (.t 96) (.k (.v false [.c (.b true)])) (.t 102)), m' 104 103, ⟨some 105, .ld true 2 (.t
 2), some (104, false)⟩, ⟨some 106, .fa 3 (.t 3), some (104, false)⟩, ⟨some 107, .ld false 1 (.t 106), some (104, false)⟩, ⟨some 108, .ia 10 (.t 107) (k' 0),
 some (104, false)⟩, ⟨some 109, .fa 1 (.t 108), some (104, false)⟩, ⟨some 110, .fa 0 (.t 109), some (104, false)⟩, ⟨some 111, .ld false 1 (.t 110), some (104,
 false)⟩, ⟨some 112, .call 216 [.t 105, .t 111], some (104, false)⟩, ⟨some 113, .not (.t 112), some (104, false)⟩, o' 114 (.pick (.t 104) (.k (.v false [.c (.b
 true)])) (.t 113))]) (.cond (.t 114) (q' ([z' 4 7]) .ret) .skip)) (.seq (q' ([f' 115 0 3, l' 116 115, o' 117 (.bin .eql (.t 116) (k' 1)), m' 118 117, ⟨some
 119, .fa 3 (.t 3), some (118, true)⟩, ⟨some 120, .ld false 1 (.t 119), some (118, true)⟩, ⟨some 121, .ia 10 (.t 120) (k' 0), some (118, true)⟩, ⟨some 122, .fa
 1 (.t 121), some (118, true)⟩, ⟨some 123, .fa 0 (.t 122), some (118, true)⟩, ⟨some 124, .ld false 1 (.t 123), some (118, true)⟩, ⟨some 125, .bin .neq (.t 124)
 (.k (.v false [.c (.s [112, 97, 99, 107, 101, 116])])), some (118, true)⟩, o' 126 (.pick (.t 118) (.t 125) (.k (.v false [.c (.b false)])))]) (.cond (.t 126)
 (q' ([z' 4 7]) .ret) .skip)) (g' [z' 13 1]))) .skip)) (.seq (q' ([m' 127 13, m' 14 127]) (.block 6 (.loop (.seq (q' ([m' 128 14, f' 129 3 3, l' 130 129, n'
 131 130, r' 132 128 131]) (.cond (.t 132) .skip (.exit 6))) (.seq (.block 7 (.seq (.reg true [f' 135 3 3, l' 136 135, m' 137 14, i' 138 10 136 137, f' 139 0
 138, l' 140 139, o' 141 (.bin .neq (.t 140) (k' 3)), m' 142 141, ⟨some 143, .ld true 2 (.t 2), some (142, true)⟩, ⟨some 144, .fa 3 (.t 3), some (142, true)⟩,
 ⟨some 145, .ld false 1 (.t 144), some (142, true)⟩, ⟨some 146, .mov (.t 14), some (142, true)⟩, ⟨some 147, .ia 10 (.t 145) (.t 146), some (142, true)⟩, ⟨some
 148, .fa 1 (.t 147), some (142, true)⟩, ⟨some 149, .fa 0 (.t 148), some (142, true)⟩, ⟨some 150, .ld false 1 (.t 149), some (142, true)⟩, ⟨some 151, .call 216
 [.t 143, .t 150], some (142, true)⟩, o' 152 (.pick (.t 142) (.t 151) (.k (.v false [.c (.b false)])))]) (.cond (.t 152) (q' ([z' 4 7]) .ret) .skip))) (g' [m'
 133 14, a' 134 133, m' 14 134])))))) (q' ([z' 4 0]) .ret))))))))))
theorem b2a : cmp Tryz.prog Tryz.f135 = some a5l := by kernel_rfl
theorem b4l (p : GProgram) (r : GRule) (hpre : r.Body.length ≤ 8 ∧ j1 p = true) : A0l Tryz.prog 135 [(true, [.sl false [.i .i64 0, .s [], .i .i64 0] (p.Decls.map GDecl.cells), .sl false [.i .i64 0, .s [], .sl false [.s [], .i .i64 0, .s []] [], .sl false [.i .i64 0, .s [], .sl false [.s [], .i .i64 0, .s []] [], .i .i64 0, .s [], .i .i64 0, .s [], .s [], .i .i64 0, .s []] []] (p.Rules.map (GRule.cells false false))]), (true, [.i .i64 r.Kind, .s r.Head.Name, .sl false [.s [], .i .i64 0, .s []] (r.Head.Args.map GTerm.cells), .sl false [.i .i64 0, .s [], .sl false [.s [], .i .i64 0, .s []] [], .i .i64 0, .s [], .i .i64 0, .s [], .s [], .i .i64 0, .s []] (r.Body.map (GLit.cells false false))])] [] (.one (false, [.i .i64 (i8 p r)])) := by
 refine spec_of2 false false none Tryz.func135 b2a (rvs := [.t 4]) (hΓ := mkCtx_ok (deep := false) (l := [(214, [], a1a), (215, [], a0Z), (160, [], o9), (216, [], a0n)]) ⟨a7U, a7T, q0, a6Y, trivial⟩) (h := ?_)
 intro hb hE
 simp only [go_sem] at hb
 simp only [a5l, x']
 obtain ⟨hp8, hpB⟩ := hpre
 have hA := b9p r
 have hA1 := b0Y r
 (try refine A2V ?_); simp only [go_sem, j3]; (repeat' first | apply CJ.mk | intro hc); all_goals try ((repeat' first | apply And.intro | intro hs) <;> (try simp only [go_sem, Bool.and_eq_false_iff] at hs) <;> omega)
 refine aw_loop2 false [] [2, 3, 5, 17, 18] [4, 6] [2048] (fun i : {i : Nat // i ≤ (g9 r).length ∧ ((g9 r).take i).any (a1l p) = false} => [(19, slV (.i .i64 i.1))]) (fun i => []) (fun i => []) (fun i => (g9 r).length - i.1) (⟨0, by simp⟩) _ rfl ?_ ?_
 ·simp only [go_sem, j3]
  all_goals first | omega | ((repeat' apply And.intro) <;> first | omega | rfl | skip)
 intro S0 hS0 i
 simp only [go_sem, j3] at hS0
 obtain ⟨i, hi, ha⟩ := i
 (try refine A2V ?_); simp only [go_sem, j3, hS0]; (repeat' first | apply CJ.mk | intro hc); all_goals try ((repeat' first | apply And.intro | intro hs) <;> (try simp only [go_sem, Bool.and_eq_false_iff] at hs) <;> omega)
 ·rw [i8, a8x (q := a1l p) default (by omega) (decide_eq_true hc)]; rfl
 ·(refine lpK_n2 (⟨i + 1, by omega, f8 (p := a1l p) default (by omega) ha (decide_eq_false hc)⟩) _ rfl ?_; simp only [go_sem, j3, hS0]; first | done | ((repeat' apply And.intro) <;> first | omega | (refine w64 ?_ ?_ ?_ <;> omega) | rfl | skip))
 rw [c6 (by omega)] at ha
 clear hc hi
 refine aw_loop2 false [] [2, 3, 5, 29, 30] [4, 6] [2048] (fun i : {i : Nat // i ≤ (g9 r).length ∧ ((g9 r).take i).any (a1m p) = false} => [(31, slV (.i .i64 i.1))]) (fun i => []) (fun i => []) (fun i => (g9 r).length - i.1) (⟨0, by simp⟩) _ rfl ?_ ?_
 ·simp only [go_sem, j3, hS0]
  all_goals first | omega | ((repeat' apply And.intro) <;> first | omega | rfl | skip)
 intro S1 hS1 i
 simp only [go_sem, j3, hS0] at hS1
 obtain ⟨i, hi, hb1⟩ := i
 (try refine A2V ?_); simp only [go_sem, j3, hS0, hS1]; (repeat' first | apply CJ.mk | intro hc); all_goals try ((repeat' first | apply And.intro | intro hs) <;> (try simp only [go_sem, Bool.and_eq_false_iff] at hs) <;> omega)
 ·rw [i8, ha, a8x (q := a1m p) default (by omega) hc]; rfl
 ·(refine lpK_n2 (⟨i + 1, by omega, f8 (p := a1m p) default (by omega) hb1 hc⟩) _ rfl ?_; simp only [go_sem, j3, hS0, hS1]; first | done | ((repeat' apply And.intro) <;> first | omega | (refine w64 ?_ ?_ ?_ <;> omega) | rfl | skip))
 ·rw [c6 (by omega)] at hb1
  clear hb hS0 hS1
  grind [i8, a2Q, l3, fwB]
 rw [c6 (by omega)] at hb1
 have hk : a2Q p r = false := by
  clear hb hS0 hS1
  grind [a2Q, l3, fwB]
 clear hc hi
 refine aw_loop2 false [] [2, 3, 73, 74] [4, 6] [9344] (fun i : {i : Nat // i ≤ ((g9 r).drop 1).length ∧ (((g9 r).drop 1).take i).any a8h = false} => [(75, slV (.i .i64 i.1))]) (fun i => []) (fun i => []) (fun i => ((g9 r).drop 1).length - i.1) (⟨0, by simp⟩) _ rfl ?_ ?_
 ·simp only [go_sem, j3, hS0, hS1]
  all_goals first | omega | ((repeat' apply And.intro) <;> first | omega | rfl | skip)
 intro S2 hS2 i
 simp only [go_sem, j3, hS0, hS1] at hS2
 obtain ⟨i, hi, hf⟩ := i
 have hD : ((g9 r).drop 1).length ≤ 8 := by rw [List.length_drop]; omega
 (try refine A2V ?_); simp only [go_sem, j3, hS0, hS1, hS2]; (repeat' first | apply CJ.mk | intro hc); all_goals try ((repeat' first | apply And.intro | intro hs) <;> (try simp only [go_sem, Bool.and_eq_false_iff] at hs) <;> omega)
 ·rw [i8, ha, hb1, hk, a8x (q := a8h) default (by omega) hc]; rfl
 ·(refine lpK_n2 (⟨i + 1, by omega, f8 (p := a8h) default (by omega) hf hc⟩) _ rfl ?_; simp only [go_sem, j3, hS0, hS1, hS2]; first | done | ((repeat' apply And.intro) <;> first | omega | (refine w64 ?_ ?_ ?_ <;> omega) | rfl | skip))
 all_goals (rw [c6 (by omega)] at hf)
 ·clear hb hS0 hS1 hS2; grind
 ·clear hb hS0 hS1 hS2; grind
 ·clear hb hS0 hS1 hS2; grind [i8, b0B, b7S, pkB, fwB]
 ·clear hb hS0 hS1 hS2; grind
 ·clear hb hS0 hS1 hS2; grind [i8, b0B, b7S, pkB, fwB]
 ·have hg : b0B p r = !(r.Body.drop 1).any (a4H p) := by
   clear hb hS0 hS1 hS2; grind [b0B, b7S, pkB, fwB]
  have h1 : 1 ≤ r.Body.length := by
   clear hb hS0 hS1 hS2; grind
  clear hc
  refine aw_loop2 false [] [2, 3] [4, 6] [] (fun i : {i : Nat // 1 ≤ i ∧ i ≤ r.Body.length ∧ ((r.Body.take i).drop 1).any (a4H p) = false} => [(14, slV (.i .i64 i.1))]) (fun i => []) (fun i => []) (fun i => r.Body.length - i.1) (⟨1, by omega, by omega, by cases r.Body <;> rfl⟩) _ rfl ?_ ?_
  ·simp only [go_sem, j3, hS0, hS1, hS2]
   all_goals first | omega | ((repeat' apply And.intro) <;> first | omega | rfl | skip)
  intro S3 hS3 i
  simp only [go_sem, j3, hS0, hS1, hS2] at hS3
  obtain ⟨i, h1i, hi, hm⟩ := i
  (try refine A2V ?_); simp only [go_sem, j3, hS0, hS1, hS2, hS3]; (repeat' first | apply CJ.mk | intro hc); all_goals try ((repeat' first | apply And.intro | intro hs) <;> (try simp only [go_sem, Bool.and_eq_false_iff] at hs) <;> omega)
  ·have : b0B p r = false := by rw [hg, c3y (q := a4H p) (i := i) default (by omega) (by omega) (Bool.and_eq_true_iff.2 hc)]; rfl
   rw [i8, ha, hb1, hk, hf, this]; rfl
  ·(refine lpK_n2 (⟨i + 1, by omega, by omega, c1E (q := a4H p) default (by omega) (by omega) hm hc⟩) _ rfl ?_; simp only [go_sem, j3, hS0, hS1, hS2, hS3]; first | done | ((repeat' apply And.intro) <;> first | omega | (refine w64 ?_ ?_ ?_ <;> omega) | rfl | skip))
  ·rw [c6 (by omega)] at hm
   rw [hm] at hg
   rw [i8, ha, hb1, hk, hf, hg]; rfl
 ·have hg : b0B p r = !r.Body.any (a4H p) := by
   clear hb hS0 hS1 hS2; grind [b0B, fwB]
  clear hc
  refine aw_loop2 false [] [2, 3] [4, 6] [] (fun i : {i : Nat // i ≤ r.Body.length ∧ (r.Body.take i).any (a4H p) = false} => [(14, slV (.i .i64 i.1))]) (fun i => []) (fun i => []) (fun i => r.Body.length - i.1) (⟨0, by omega, by simp⟩) _ rfl ?_ ?_
  ·simp only [go_sem, j3, hS0, hS1, hS2]
   all_goals first | omega | ((repeat' apply And.intro) <;> first | omega | rfl | skip)
  intro S3 hS3 i
  simp only [go_sem, j3, hS0, hS1, hS2] at hS3
  obtain ⟨i, hi, hm⟩ := i
  (try refine A2V ?_); simp only [go_sem, j3, hS0, hS1, hS2, hS3]; (repeat' first | apply CJ.mk | intro hc); all_goals try ((repeat' first | apply And.intro | intro hs) <;> (try simp only [go_sem, Bool.and_eq_false_iff] at hs) <;> omega)
  ·have : b0B p r = false := by rw [hg, a8x (q := a4H p) (i := i) default (by omega) (Bool.and_eq_true_iff.2 hc)]; rfl
   rw [i8, ha, hb1, hk, hf, this]; rfl
  ·(refine lpK_n2 (⟨i + 1, by omega, f8 (p := a4H p) default (by omega) hm hc⟩) _ rfl ?_; simp only [go_sem, j3, hS0, hS1, hS2, hS3]; first | done | ((repeat' apply And.intro) <;> first | omega | (refine w64 ?_ ?_ ?_ <;> omega) | rfl | skip))
  ·rw [c6 (by omega)] at hm
   rw [hm] at hg
   rw [i8, ha, hb1, hk, hf, hg]; rfl
noncomputable def a2i : CT := n8 (fun (x : GProgram × GRule) h => b4l x.1 x.2 h)
@[go_sem] theorem c0U (p_Decls : List GDecl) (p_Rules : List GRule) (r_Kind : Int) (r_Head_Name : List UInt8) (r_Head_Args : List GTerm) (r_Body : List GLit) : a2i [(true, [.sl false [.i .i64 0, .s [], .i .i64 0] (p_Decls.map GDecl.cells), .sl false [.i .i64 0, .s [], .sl false [.s [], .i .i64 0, .s []] [], .sl false [.i .i64 0, .s [], .sl false [.s [], .i .i64 0, .s []] [], .i .i64 0, .s [], .i .i64 0, .s [], .s [], .i .i64 0, .s []] []] (p_Rules.map (GRule.cells false false))]), (true, [.i .i64 r_Kind, .s r_Head_Name, .sl false [.s [], .i .i64 0, .s []] (r_Head_Args.map GTerm.cells), .sl false [.i .i64 0, .s [], .sl false [.s [], .i .i64 0, .s []] [], .i .i64 0, .s [], .i .i64 0, .s [], .s [], .i .i64 0, .s []] (r_Body.map (GLit.cells false false))])] = some ((GRule.mk r_Kind (GAtom.mk r_Head_Name r_Head_Args) r_Body).Body.length ≤ 8 ∧ j1 (GProgram.mk p_Decls p_Rules) = true, [], .one (false, [.i .i64 (i8 (GProgram.mk p_Decls p_Rules) (GRule.mk r_Kind (GAtom.mk r_Head_Name r_Head_Args) r_Body))])) := d3 _ (by rintro ⟨⟨_, _⟩, ⟨_, ⟨_, _⟩, _⟩⟩ ⟨⟨_, _⟩, ⟨_, ⟨_, _⟩, _⟩⟩ h; simp at h; simp_all) ((GProgram.mk p_Decls p_Rules), (GRule.mk r_Kind (GAtom.mk r_Head_Name r_Head_Args) r_Body))
theorem a8W : OkC Tryz.prog 135 a2i := d4 _
theorem b1a (p : GProgram) (r : GRule) : 0 ≤ i8 p r := by
 unfold i8
 cases (g9 r).any (a1l p) <;> cases (g9 r).any (a1m p) <;> cases a2Q p r <;> cases ((g9 r).drop 1).any a8h <;> cases b0B p r <;> decide
theorem a0I {p : GProgram} (h : j1 p = false) : c7 p = (1, 0) := by simp [c7, h]
theorem u5 {p : GProgram} (h : j1 p = true) {i : Nat} (hi : i < p.Decls.length) (ha : ∀ j, j < i → i3 p j = false) (hq : i3 p i = true) : c7 p = (2, (i : Int)) := by
 rw [c7, h, a6y ha hq hi, if_pos hi]; rfl
theorem a1d {p : GProgram} (h : j1 p = true) (hd : ∀ j, j < p.Decls.length → i3 p j = false) {i : Nat} (hi : i < p.Rules.length) (ha : ∀ j, j < i → j9 p j = false) (hq : j9 p i = true) : c7 p = (i8 p (p.Rules.getD i default), (i : Int)) := by
 rw [c7, h, a2P hd, if_neg (by omega), a6y ha hq hi, if_pos hi]; rfl
theorem a7u {p : GProgram} (h : j1 p = true) (hd : ∀ j, j < p.Decls.length → i3 p j = false) (ha : ∀ j, j < p.Rules.length → j9 p j = false) : c7 p = (0, 0) := by
 rw [c7, h, a2P hd, if_neg (by omega), a2P ha, if_neg (by omega)]; rfl
theorem a9B {q : Nat → Bool} {i : Nat} (h : ∀ j, j < i → q j = false) (hi : q i = false) : ∀ j, j < i + 1 → q j = false := by
 intro j hj
 rcases Nat.lt_succ_iff_lt_or_eq.1 hj with h1 | rfl
 ·exact h j h1
 ·exact hi
theorem b8t {p : GProgram} (h : j1 p = true) {i : Nat} (hi : i < p.Rules.length) : (p.Rules.getD i default).Body.length ≤ 8 := by
 rw [j4 default hi]; exact b7V h (List.getElem_mem hi)
def a0J : ACode := q' ([o' 2 (.box 3 (.t 0)), b' 3 false]) (q' ([f' 4 1 2, l' 5 4, f' 6 1 1, l' 7 6, o' 8 (.bin .eql (.t 5) (.t 7)), m' 3 8]) .ret)
theorem a6z : cmp Tryz.prog Tryz.f219 = some a0J := by kernel_rfl
theorem a7d (y : GDecl) (d : GDecl) : A0l Tryz.prog 219 [(true, [.i .i64 y.Kind, .s y.Name, .i .i64 y.Arity]), (false, [.p [.i .i64 d.Kind, .s d.Name, .i .i64 d.Arity]])] [] (.one (false, [.b (y.Name == d.Name)])) := by
 refine spec_of2 false false none Tryz.func219 a6z (rvs := [.t 3]) (hΓ := mkCtx_ok (deep := false) (l := []) trivial) (h := ?_)
 intro hb hE
 simp only [go_sem] at hb
 simp only [a0J, x']
 (try refine A2V ?_); simp only [go_sem]; (repeat' first | apply CJ.mk | intro hc); all_goals try ((repeat' first | apply And.intro | intro hs) <;> (try simp only [go_sem, Bool.and_eq_false_iff] at hs) <;> omega)
 all_goals (first | rfl | trace_state)
noncomputable def u0 : CT := c8 (fun (x : GDecl × GDecl) => a7d x.1 x.2)
@[go_sem] theorem b6s (y_Kind : Int) (y_Name : List UInt8) (y_Arity : Int) (d_Kind : Int) (d_Name : List UInt8) (d_Arity : Int) : u0 [(true, [.i .i64 y_Kind, .s y_Name, .i .i64 y_Arity]), (false, [.p [.i .i64 d_Kind, .s d_Name, .i .i64 d_Arity]])] = some (True, [], .one (false, [.b ((GDecl.mk y_Kind y_Name y_Arity).Name == (GDecl.mk d_Kind d_Name d_Arity).Name)])) := c4 _ (by rintro ⟨⟨_, _, _⟩, ⟨_, _, _⟩⟩ ⟨⟨_, _, _⟩, ⟨_, _, _⟩⟩ h; simp at h; simp_all) ((GDecl.mk y_Kind y_Name y_Arity), (GDecl.mk d_Kind d_Name d_Arity))
theorem a4n : OkC Tryz.prog 219 u0 := c5 _
def b2A : ACode := q' ([z' 4 0]) (.seq (q' ([m' 6 0, n' 7 6, z' 8 0]) (.block 0 (.loop (q' ([r' 9 8 7]) (.seq (.cond (.t 9) .skip (.exit 0)) (.seq (.block 1 (q' ([m' 10 8, m' 5
 10]) (q' ([m' 11 1, m' 12 0, m' 13 5, i' 14 3 12 13, e' 15 3 14, o' 16 (.callv (.t 11) [.t 15])]) (.cond (.t 16) (q' ([m' 17 5, m' 4 17]) .ret) .skip)))) (g'
 [a' 18 8, m' 8 18]))))))) (q' ([o' 4 (.mov (.k (.v false [.c (.i .i64 (-1))])))]) .ret))
theorem b9V : cmp Tryz.prog Tryz.f298 = some b2A := by kernel_rfl
theorem b6I (l : List GDecl) (d : GDecl) : A0l Tryz.prog 298 [(false, [.sl false [.i .i64 0, .s [], .i .i64 0] (l.map GDecl.cells)]), (false, [.f 219 [.p [.i .i64 d.Kind, .s d.Name, .i .i64 d.Arity]]])] [] (.one (false, [.i .i64 (t6 (fun y : GDecl => y.Name == d.Name) l)])) := by
 refine spec_of2 false false none Tryz.func298 b9V (rvs := [.t 4]) (hΓ := mkCtx_ok (deep := false) (l := [(219, [], u0)]) ⟨a4n, trivial⟩) (h := ?_)
 intro hb hE
 simp only [go_sem] at hb
 simp only [b2A, x']
 (try refine A2V ?_); simp only [go_sem]; (repeat' first | apply CJ.mk | intro hc); all_goals try ((repeat' first | apply And.intro | intro hs) <;> (try simp only [go_sem, Bool.and_eq_false_iff] at hs) <;> omega)
 refine aw_loop2 false [] [0, 1, 7] [] [] (fun i : {i : Nat // i ≤ l.length ∧ (l.take i).any (fun y : GDecl => y.Name == d.Name) = false} => [(8, slV (.i .i64 i.1))]) (fun i => []) (fun i => []) (fun i => l.length - i.1) (⟨0, by simp⟩) _ rfl ?_ ?_
 ·simp only [go_sem]
  all_goals first | omega | ((repeat' apply And.intro) <;> first | omega | rfl | skip)
 intro S0 hS0 i
 simp only [go_sem] at hS0
 obtain ⟨i, hi, ha⟩ := i
 (try refine A2V ?_); simp only [go_sem, hS0]; (repeat' first | apply CJ.mk | intro hc); all_goals try ((repeat' first | apply And.intro | intro hs) <;> (try simp only [go_sem, Bool.and_eq_false_iff] at hs) <;> omega)
 ·exact (j8 (p := fun y : GDecl => y.Name == d.Name) (d := default) (by omega) ha (by simpa [-List.getD_eq_getElem?_getD] using hc)).symm
 ·(refine lpK_n2 (⟨i + 1, by omega, f8 (p := fun y : GDecl => y.Name == d.Name) default (by omega) ha (by simpa [-List.getD_eq_getElem?_getD] using hc)⟩) _ rfl ?_; simp only [go_sem, hS0]; first | done | ((repeat' apply And.intro) <;> first | omega | (refine w64 ?_ ?_ ?_ <;> omega) | rfl | skip))
 ·exact (j7 (by rwa [c6 (by omega)] at ha)).symm
 all_goals trace_state
noncomputable def a4j : CT := c8 (fun (x : (List GDecl) × GDecl) => b6I x.1 x.2)
@[go_sem] theorem c2O (l : List GDecl) (d_Kind : Int) (d_Name : List UInt8) (d_Arity : Int) : a4j [(false, [.sl false [.i .i64 0, .s [], .i .i64 0] (l.map GDecl.cells)]), (false, [.f 219 [.p [.i .i64 d_Kind, .s d_Name, .i .i64 d_Arity]]])] = some (True, [], .one (false, [.i .i64 (t6 (fun y : GDecl => y.Name == (GDecl.mk d_Kind d_Name d_Arity).Name) l)])) := c4 _ (by rintro ⟨_, ⟨_, _, _⟩⟩ ⟨_, ⟨_, _, _⟩⟩ h; simp at h; simp_all) (l, (GDecl.mk d_Kind d_Name d_Arity))
theorem b1f : OkC Tryz.prog 298 a4j := c5 _
def b2x : ACode := q' ([b' 4 false]) (q' ([m' 5 0, m' 6 1, c' 7 298 [5, 6], o' 8 (.bin .geq (.t 7) (k' 0)), m' 4 8]) .ret)
theorem b9S : cmp Tryz.prog Tryz.f218 = some b2x := by kernel_rfl
theorem b6G (l : List GDecl) (d : GDecl) : A0l Tryz.prog 218 [(false, [.sl false [.i .i64 0, .s [], .i .i64 0] (l.map GDecl.cells)]), (false, [.f 219 [.p [.i .i64 d.Kind, .s d.Name, .i .i64 d.Arity]]])] [] (.one (false, [.b (l.any (fun y : GDecl => y.Name == d.Name))])) := by
 refine spec_of2 false false none Tryz.func218 b9S (rvs := [.t 4]) (hΓ := mkCtx_ok (deep := false) (l := [(298, [], a4j)]) ⟨b1f, trivial⟩) (h := ?_)
 intro hb hE
 simp only [go_sem] at hb
 simp only [b2x, x']
 (try refine A2V ?_); simp only [go_sem]; (repeat' first | apply CJ.mk | intro hc); all_goals try ((repeat' first | apply And.intro | intro hs) <;> (try simp only [go_sem, Bool.and_eq_false_iff] at hs) <;> omega)
 ·exact s7 _ _
noncomputable def a4h : CT := c8 (fun (x : (List GDecl) × GDecl) => b6G x.1 x.2)
@[go_sem] theorem c2M (l : List GDecl) (d_Kind : Int) (d_Name : List UInt8) (d_Arity : Int) : a4h [(false, [.sl false [.i .i64 0, .s [], .i .i64 0] (l.map GDecl.cells)]), (false, [.f 219 [.p [.i .i64 d_Kind, .s d_Name, .i .i64 d_Arity]]])] = some (True, [], .one (false, [.b (l.any (fun y : GDecl => y.Name == (GDecl.mk d_Kind d_Name d_Arity).Name))])) := c4 _ (by rintro ⟨_, ⟨_, _, _⟩⟩ ⟨_, ⟨_, _, _⟩⟩ h; simp at h; simp_all) (l, (GDecl.mk d_Kind d_Name d_Arity))
theorem b1d : OkC Tryz.prog 218 a4h := c5 _
def a1G : ACode := q' ([o' 1 (.box 2 (.t 0)), z' 2 0, z' 3 0]) (.seq (q' ([e' 9 2 1, c' 10 134 [9], o' 11 (.not (.t 10))]) (.cond (.t 11) (q' ([z' 2 1, z' 3 0]) .ret) .skip))
 (.seq (q' ([f' 12 0 1, l' 13 12, n' 14 13, z' 15 0]) (.block 0 (.loop (q' ([r' 16 15 14]) (.seq (.cond (.t 16) .skip (.exit 0)) (.seq (.block 1 (q' ([m' 17
 15, m' 4 17]) (q' ([f' 18 0 1, l' 19 18, m' 20 4, i' 21 3 19 20, f' 22 1 21, l' 23 22, m' 5 23]) (.seq (q' ([m' 24 5, o' 25 (.bin .eql (.t 24) (.k (.v false
 [.c (.s [112, 97, 99, 107, 101, 116])]))), m' 26 25, ⟨some 27, .mov (.t 5), some (26, false)⟩, ⟨some 28, .bin .eql (.t 27) (.k (.v false [.c (.s [102, 111,
 114, 119, 97, 114, 100])])), some (26, false)⟩, o' 29 (.pick (.t 26) (.k (.v false [.c (.b true)])) (.t 28))]) (.cond (.t 29) (q' ([m' 30 4, z' 2 2, m' 3 30])
 .ret) .skip)) (q' ([z' 6 0]) (.block 2 (.loop (.seq (q' ([m' 31 6, m' 32 4, r' 33 31 32]) (.cond (.t 33) .skip (.exit 2))) (.seq (.block 3 (q' ([f' 36 0 1, l'
 37 36, m' 38 6, i' 39 3 37 38, f' 40 1 39, l' 41 40, m' 42 5, o' 43 (.bin .eql (.t 41) (.t 42))]) (.cond (.t 43) (q' ([m' 44 4, z' 2 2, m' 3 44]) .ret)
 .skip))) (g' [m' 34 6, a' 35 34, m' 6 35])))))))))) (g' [a' 45 15, m' 15 45]))))))) (.seq (q' ([f' 46 1 1, l' 47 46, n' 48 47, z' 49 0]) (.block 4 (.loop (q'
 ([r' 50 49 48]) (.seq (.cond (.t 50) .skip (.exit 4)) (.seq (.block 5 (q' ([m' 51 49, m' 7 51]) (.seq (.reg true [e' 52 2 1, f' 53 1 1, l' 54 53, m' 55 7, i'
 56 4 54 55, e' 57 4 56, c' 58 135 [52, 57], m' 8 58]) (q' ([m' 59 8, o' 60 (.bin .gtr (.t 59) (k' 0))]) (.cond (.t 60) (q' ([m' 61 8, m' 62 7, m' 2 61, m' 3
 62]) .ret) .skip))))) (g' [a' 63 49, m' 49 63]))))))) (q' ([z' 2 0, z' 3 0]) .ret))))
theorem a8g : cmp Tryz.prog Tryz.f62 = some a1G := by kernel_rfl
theorem a9x (p : GProgram) : A0l Tryz.prog 62 [(true, [.sl false [.i .i64 0, .s [], .i .i64 0] (p.Decls.map GDecl.cells), .sl false [.i .i64 0, .s [], .sl false [.s [], .i .i64 0, .s []] [], .sl false [.i .i64 0, .s [], .sl false [.s [], .i .i64 0, .s []] [], .i .i64 0, .s [], .i .i64 0, .s [], .s [], .i .i64 0, .s []] []] (p.Rules.map (GRule.cells false false))])] [] (.tup [(false, [.i .i64 ((c7 p).1)]), (false, [.i .i64 ((c7 p).2)])]) := by
 refine spec_of2 false false none Tryz.func62 a8g (rvs := [.t 2, .t 3]) (hΓ := mkCtx_ok (deep := false) (l := [(134, [], s9), (135, [], a2i)]) ⟨a1o, a8W, trivial⟩) (h := ?_)
 intro hb hE
 simp only [go_sem] at hb
 simp only [a1G, x']
 (try refine A2V ?_); simp only [go_sem]; (repeat' first | apply CJ.mk | intro hc); all_goals try ((repeat' first | apply And.intro | intro hs) <;> (try simp only [go_sem, Bool.and_eq_false_iff] at hs) <;> omega)
 ·rw [a0I hc]; exact ⟨rfl, rfl⟩
 have hB : j1 p = true := hc
 clear hc
 refine aw_loop2 false [] [1, 14] [2] [] (fun i : {i : Nat // i ≤ p.Decls.length ∧ ∀ j, j < i → i3 p j = false} => [(15, slV (.i .i64 i.1))]) (fun i => []) (fun i => []) (fun i => p.Decls.length - i.1) (⟨0, by omega, by intro j h; omega⟩) _ rfl ?_ ?_
 ·simp only [go_sem]
  all_goals first | omega | ((repeat' apply And.intro) <;> first | omega | rfl | skip)
 intro S0 hS0 i
 simp only [go_sem] at hS0
 obtain ⟨n, hn, ha⟩ := i
 (try refine A2V ?_); simp only [go_sem, hS0]; (repeat' first | apply CJ.mk | intro hc); all_goals try ((repeat' first | apply And.intro | intro hs) <;> (try simp only [go_sem, Bool.and_eq_false_iff] at hs) <;> omega)
 ·have hq : i3 p n = true := by rcases hc with hc | hc <;> (simp only [i3, pkB, fwB, hc, Bool.true_or, Bool.or_true])
  rw [u5 hB (by omega) ha hq]; exact ⟨rfl, rfl⟩
 ·have hN := hc
  clear hc
  refine aw_loop2 false [] [1, 4, 5, 14, 15] [2] [] (fun i : {k : Nat // k ≤ n ∧ (p.Decls.take k).any (fun x => x.Name == (p.Decls.getD n default).Name) = false} => [(6, slV (.i .i64 i.1))]) (fun i => []) (fun i => []) (fun i => n - i.1) (⟨0, by omega, by simp⟩) _ rfl ?_ ?_
  ·simp only [go_sem, hS0]
   all_goals first | omega | ((repeat' apply And.intro) <;> first | omega | rfl | skip)
  intro S1 hS1 i
  simp only [go_sem, hS0] at hS1
  obtain ⟨k, hk, hx⟩ := i
  (try refine A2V ?_); simp only [go_sem, hS0, hS1]; (repeat' first | apply CJ.mk | intro hc); all_goals try ((repeat' first | apply And.intro | intro hs) <;> (try simp only [go_sem, Bool.and_eq_false_iff] at hs) <;> omega)
  ·have : ((p.Decls.take n).any fun x => x.Name == (p.Decls.getD n default).Name) = true := by
    refine a8x (q := fun x : GDecl => x.Name == (p.Decls.getD n default).Name) (i := k) default (by rw [List.length_take]; omega) ?_
    have e : (p.Decls.take n).getD k default = p.Decls.getD k default := by
     simp only [List.getD_eq_getElem?_getD, List.getElem?_take]; rw [if_pos (by omega)]
    rw [e]; exact hc
   have hq : i3 p n = true := by rw [i3, this, Bool.or_true]
   rw [u5 hB (by omega) ha hq]; exact ⟨rfl, rfl⟩
  ·(refine lpK_n2 (⟨k + 1, by omega, f8 (p := fun x : GDecl => x.Name == (p.Decls.getD n default).Name) default (by omega) hx hc⟩) _ rfl ?_; simp only [go_sem, hS0, hS1]; first | done | ((repeat' apply And.intro) <;> first | omega | (refine w64 ?_ ?_ ?_ <;> omega) | rfl | skip))
  ·have e : k = n := by omega
   subst e
   have hq : i3 p k = false := by rw [i3, hx]; simp only [pkB, fwB, hN, Bool.or_false]
   (refine lpK_n2 (⟨k + 1, by omega, a9B ha hq⟩) _ rfl ?_; simp only [go_sem, hS0, hS1]; first | done | ((repeat' apply And.intro) <;> first | omega | (refine w64 ?_ ?_ ?_ <;> omega) | rfl | skip))
 have hd : ∀ j, j < p.Decls.length → i3 p j = false := fun j hj => ha j (by omega)
 clear hc ha
 refine aw_loop2 false [] [1, 48] [2] [] (fun i : {i : Nat // i ≤ p.Rules.length ∧ ∀ j, j < i → j9 p j = false} => [(49, slV (.i .i64 i.1))]) (fun i => []) (fun i => []) (fun i => p.Rules.length - i.1) (⟨0, by omega, by intro j h; omega⟩) _ rfl ?_ ?_
 ·simp only [go_sem, hS0]
  all_goals first | omega | ((repeat' apply And.intro) <;> first | omega | rfl | skip)
 intro S2 hS2 i
 simp only [go_sem, hS0] at hS2
 obtain ⟨n, hn, ha⟩ := i
 (try refine A2V ?_); simp only [go_sem, hS0, hS2]; (repeat' first | apply CJ.mk | intro hc); all_goals try ((repeat' first | apply And.intro | intro hs) <;> (try simp only [go_sem, Bool.and_eq_false_iff] at hs) <;> omega)
 ·exact ⟨b8t hB (by omega), hB⟩
 ·have hq : j9 p n = true := by
   have := b1a p (p.Rules.getD n default)
   rw [j9, Bool.not_eq_true', beq_eq_false_iff_ne]; omega
  rw [a1d hB hd (by omega) ha hq]; exact ⟨rfl, rfl⟩
 ·have hq : j9 p n = false := by
   have := b1a p (p.Rules.getD n default)
   rw [j9, Bool.not_eq_false', beq_iff_eq]; omega
  (refine lpK_n2 (⟨n + 1, by omega, a9B ha hq⟩) _ rfl ?_; simp only [go_sem, hS0, hS2]; first | done | ((repeat' apply And.intro) <;> first | omega | (refine w64 ?_ ?_ ?_ <;> omega) | rfl | skip))
 ·rw [a7u hB hd (fun j hj => ha j (by omega))]; exact ⟨rfl, rfl⟩
noncomputable def p8 : CT := c8 (fun (x : GProgram) => a9x x)
@[go_sem] theorem b7H (p_Decls : List GDecl) (p_Rules : List GRule) : p8 [(true, [.sl false [.i .i64 0, .s [], .i .i64 0] (p_Decls.map GDecl.cells), .sl false [.i .i64 0, .s [], .sl false [.s [], .i .i64 0, .s []] [], .sl false [.i .i64 0, .s [], .sl false [.s [], .i .i64 0, .s []] [], .i .i64 0, .s [], .i .i64 0, .s [], .s [], .i .i64 0, .s []] []] (p_Rules.map (GRule.cells false false))])] = some (True, [], .tup [(false, [.i .i64 ((c7 (GProgram.mk p_Decls p_Rules)).1)]), (false, [.i .i64 ((c7 (GProgram.mk p_Decls p_Rules)).2)])]) := c4 _ (by rintro ⟨_, _⟩ ⟨_, _⟩ h; simp at h; simp_all) (GProgram.mk p_Decls p_Rules)
theorem a0K : OkC Tryz.prog 62 p8 := c5 _
theorem b7M {α : Type} (l : List α) (n : Nat) : cut l 0 n = l.take n := by unfold cut; simp
def a1A : ACode := q' ([o' 1 (.box 2 (.t 0)), z' 2 0, z' 3 0]) (.seq (q' ([e' 9 2 1, c' 10 150 [9], o' 11 (.not (.t 10))]) (.cond (.t 11) (q' ([z' 2 1, z' 3 0]) .ret) .skip))
 (.seq (q' ([f' 12 0 1, l' 13 12, n' 14 13, z' 15 0]) (.block 0 (.loop (q' ([r' 16 15 14]) (.seq (.cond (.t 16) .skip (.exit 0)) (.seq (.block 1 (q' ([m' 17
 15, i' 18 3 13 15, e' 19 3 18, w' 5 [.i .i64, .s, .i .i64], m' 4 17, s' 3 5 19]) (q' ([f' 20 1 5, l' 21 20, o' 22 (.bin .eql (.t 21) (.k (.v false [.c (.s
 [112, 97, 99, 107, 101, 116])]))), m' 23 22, ⟨some 24, .fa 1 (.t 5), some (23, false)⟩, ⟨some 25, .ld false 1 (.t 24), some (23, false)⟩, ⟨some 26, .bin .eql
 (.t 25) (.k (.v false [.c (.s [102, 111, 114, 119, 97, 114, 100])])), some (23, false)⟩, o' 27 (.pick (.t 23) (.k (.v false [.c (.b true)])) (.t 26)), m' 28
 27, ⟨some 29, .fa 0 (.t 1), some (28, false)⟩, ⟨some 30, .ld false 1 (.t 29), some (28, false)⟩, ⟨some 31, .mov (.t 4), some (28, false)⟩, ⟨some 32, .slc 3
 (.t 30) none (some (.t 31)) none, some (28, false)⟩, ⟨some 33, .mf 219 [.t 5], some (28, false)⟩, ⟨some 34, .call 218 [.t 32, .t 33], some (28, false)⟩, o' 35
 (.pick (.t 28) (.k (.v false [.c (.b true)])) (.t 34))]) (.cond (.t 35) (q' ([m' 36 4, z' 2 2, m' 3 36]) .ret) .skip)))) (g' [a' 37 15, m' 15 37]))))))) (.seq
 (q' ([f' 38 1 1, l' 39 38, n' 40 39, z' 41 0]) (.block 2 (.loop (q' ([r' 42 41 40]) (.seq (.cond (.t 42) .skip (.exit 2)) (.seq (.block 3 (q' ([m' 43 41, i'
 44 4 39 41, e' 45 4 44, w' 7 [.i .i64, .s, .sl [.s [], .i .i64 0, .s []], .sl [.i .i64 0, .s [], .sl false [.s [], .i .i64 0, .s []] [], .i .i64 0, .s [], .i
 .i64 0, .s [], .s [], .i .i64 0, .s []]], m' 6 43, s' 4 7 45]) (q' ([e' 46 2 1, e' 47 4 7, c' 48 220 [46, 47], m' 8 48]) (q' ([m' 49 8, o' 50 (.bin .neq (.t
 49) (k' 0))]) (.cond (.t 50) (q' ([m' 51 8, m' 52 6, m' 2 51, m' 3 52]) .ret) .skip))))) (g' [a' 53 41, m' 41 53]))))))) (q' ([z' 2 0, z' 3 0]) .ret))))
theorem a8a : cmp Tryz.prog Tryz.f138 = some a1A := by kernel_rfl
theorem a9r (p : GProgram) : A0l Tryz.prog 138 [(true, [.sl false [.i .i64 0, .s [], .i .i64 0] (p.Decls.map GDecl.cells), .sl false [.i .i64 0, .s [], .sl false [.s [], .i .i64 0, .s []] [], .sl false [.i .i64 0, .s [], .sl false [.s [], .i .i64 0, .s []] [], .i .i64 0, .s [], .i .i64 0, .s [], .s [], .i .i64 0, .s []] []] (p.Rules.map (GRule.cells false false))])] [] (.tup [(false, [.i .i64 ((c7 p).1)]), (false, [.i .i64 ((c7 p).2)])]) := by
 refine spec_of2 false false none Tryz.func138 a8a (rvs := [.t 2, .t 3]) (hΓ := mkCtx_ok (deep := false) (l := [(150, [], s8), (218, [], a4h), (220, [], a0R)]) ⟨a1n, b1d, a7K, trivial⟩) (h := ?_)
 intro hb hE
 simp only [go_sem] at hb
 simp only [a1A, x']
 (try refine A2V ?_); simp only [go_sem]; (repeat' first | apply CJ.mk | intro hc); all_goals try ((repeat' first | apply And.intro | intro hs) <;> (try simp only [go_sem, Bool.and_eq_false_iff] at hs) <;> omega)
 ·rw [a0I hc]; exact ⟨rfl, rfl⟩
 have hB : j1 p = true := hc
 clear hc
 refine aw_loop2 false [] [1, 13, 14] [2] [] (fun i : {i : Nat // i ≤ p.Decls.length ∧ ∀ j, j < i → i3 p j = false} => [(15, slV (.i .i64 i.1))]) (fun i => []) (fun i => []) (fun i => p.Decls.length - i.1) (⟨0, by omega, by intro j h; omega⟩) _ rfl ?_ ?_
 ·simp only [go_sem]
  all_goals first | omega | ((repeat' apply And.intro) <;> first | omega | rfl | skip)
 intro S0 hS0 i
 simp only [go_sem] at hS0
 obtain ⟨n, hn, ha⟩ := i
 (try refine A2V ?_); simp only [go_sem, hS0]; (repeat' first | apply CJ.mk | intro hc); all_goals try ((repeat' first | apply And.intro | intro hs) <;> (try simp only [go_sem, Bool.and_eq_false_iff] at hs) <;> omega)
 ·rw [b7M] at hc
  have hq : i3 p n = true := by rcases hc with (hc | hc) | hc <;> simp only [i3, pkB, fwB, hc, Bool.true_or, Bool.or_true]
  rw [u5 hB (by omega) ha hq]; exact ⟨rfl, rfl⟩
 ·rw [b7M] at hc
  have hq : i3 p n = false := by simp only [i3, pkB, fwB, hc, Bool.or_false]
  (refine lpK_n2 (⟨n + 1, by omega, a9B ha hq⟩) _ rfl ?_; simp only [go_sem, hS0]; first | done | ((repeat' apply And.intro) <;> first | omega | (refine w64 ?_ ?_ ?_ <;> omega) | rfl | skip))
 have hd : ∀ j, j < p.Decls.length → i3 p j = false := fun j hj => ha j (by omega)
 clear hc ha
 refine aw_loop2 false [] [1, 39, 40] [2] [] (fun i : {i : Nat // i ≤ p.Rules.length ∧ ∀ j, j < i → j9 p j = false} => [(41, slV (.i .i64 i.1))]) (fun i => []) (fun i => []) (fun i => p.Rules.length - i.1) (⟨0, by omega, by intro j h; omega⟩) _ rfl ?_ ?_
 ·simp only [go_sem, hS0]
  all_goals first | omega | ((repeat' apply And.intro) <;> first | omega | rfl | skip)
 intro S1 hS1 i
 simp only [go_sem, hS0] at hS1
 obtain ⟨n, hn, ha⟩ := i
 (try refine A2V ?_); simp only [go_sem, hS0, hS1]; (repeat' first | apply CJ.mk | intro hc); all_goals try ((repeat' first | apply And.intro | intro hs) <;> (try simp only [go_sem, Bool.and_eq_false_iff] at hs) <;> omega)
 ·exact b8t hB (by omega)
 ·have hq : j9 p n = true := by
   simp only [bne, Bool.not_eq_true', beq_eq_false_iff_ne] at hc
   rw [j9, Bool.not_eq_true', beq_eq_false_iff_ne]; exact hc
  rw [a1d hB hd (by omega) ha hq]; exact ⟨rfl, rfl⟩
 ·have hq : j9 p n = false := by
   simp only [bne, Bool.not_eq_false', beq_iff_eq] at hc
   rw [j9, Bool.not_eq_false', beq_iff_eq]; exact hc
  (refine lpK_n2 (⟨n + 1, by omega, a9B ha hq⟩) _ rfl ?_; simp only [go_sem, hS0, hS1]; first | done | ((repeat' apply And.intro) <;> first | omega | (refine w64 ?_ ?_ ?_ <;> omega) | rfl | skip))
 ·rw [a7u hB hd (fun j hj => ha j (by omega))]; exact ⟨rfl, rfl⟩
noncomputable def v8 : CT := c8 (fun (x : GProgram) => a9r x)
@[go_sem] theorem b7B (p_Decls : List GDecl) (p_Rules : List GRule) : v8 [(true, [.sl false [.i .i64 0, .s [], .i .i64 0] (p_Decls.map GDecl.cells), .sl false [.i .i64 0, .s [], .sl false [.s [], .i .i64 0, .s []] [], .sl false [.i .i64 0, .s [], .sl false [.s [], .i .i64 0, .s []] [], .i .i64 0, .s [], .i .i64 0, .s [], .s [], .i .i64 0, .s []] []] (p_Rules.map (GRule.cells false false))])] = some (True, [], .tup [(false, [.i .i64 ((c7 (GProgram.mk p_Decls p_Rules)).1)]), (false, [.i .i64 ((c7 (GProgram.mk p_Decls p_Rules)).2)])]) := c4 _ (by rintro ⟨_, _⟩ ⟨_, _⟩ h; simp at h; simp_all) (GProgram.mk p_Decls p_Rules)
theorem a6l : OkC Tryz.prog 138 v8 := c5 _
end Go.Aw
