/- Names in programs. No condition. -/
import Derived.Test.YthlbadfickhkfaaGreatzeG8
namespace Go.Aw
open Go.Proofs
attribute [local irreducible] aft blk lpK retK AW A0n
set_option linter.unusedVariables false
set_option linter.unusedSimpArgs false
set_option maxRecDepth 100000
def pkB : List UInt8 := [112, 97, 99, 107, 101, 116]
def fwB : List UInt8 := [102, 111, 114, 119, 97, 114, 100]
def a0a (p : GProgram) (name : List UInt8) : Int := bif name == pkB then 4 else bif name == fwB then 1 else bif o8 p name then (k8 p name).Arity else -1
def p9 (p : GProgram) (name : List UInt8) : Int := (k8 p name).Kind
def movB (p : GProgram) (name : List UInt8) : Bool := name == pkB || p9 p name == 2
def d4 (r : GRule) : List GAtom := r.Head :: (r.Body.filter fun l => !(l.Kind == 3)).map GLit.Atom
def a5k (p : GProgram) (l : GLit) : Bool := !(l.Kind == 3) && movB p l.Atom.Name
def b8K (p : GProgram) (r : GRule) : Bool := decide ((0 : Int) < r.Body.length) && (r.Body.getD 0 default).Kind == 1 && (movB p (r.Body.getD 0 default).Atom.Name && (!(r.Kind == 1) || (r.Body.getD 0 default).Atom.Name == pkB))
def b1r (p : GProgram) (r : GRule) : Bool := bif !(r.Kind == 1) || r.Head.Name == fwB then b8K p r && !(r.Body.drop 1).any (a5k p) else !r.Body.any (a5k p)
def a1K (p : GProgram) (a : GAtom) : Bool := decide (a0a p a.Name < 0)
def a1L (p : GProgram) (a : GAtom) : Bool := !(a0a p a.Name == (a.Args.length : Int))
def a8H (a : GAtom) : Bool := a.Name == fwB
def a3w (p : GProgram) (r : GRule) : Bool := bif r.Kind == 1 then !(p9 p r.Head.Name == 3) && !(r.Head.Name == fwB) else !(p9 p r.Head.Name == 1)
def j2 (p : GProgram) (r : GRule) : Int := bif (d4 r).any (a1K p) then 3 else bif (d4 r).any (a1L p) then 4 else bif a3w p r then 5 else bif ((d4 r).drop 1).any a8H then 6 else bif !inpB p r then 7 else 0
def j1 (p : GProgram) (i : Nat) : Bool := (p.Decls.getD i default).Name == pkB || (p.Decls.getD i default).Name == fwB || (p.Decls.take i).any fun x => x.Name == (p.Decls.getD i default).Name
def l4 (p : GProgram) (i : Nat) : Bool := !(j2 p (p.Rules.getD i default) == 0)
def c8 (p : GProgram) : Int × Int :=
 bif !progB p then (1, 0) else
 if a1A p.Decls.length (j1 p) < p.Decls.length then (2, (a1A p.Decls.length (j1 p) : Int)) else
 if a1A p.Rules.length (l4 p) < p.Rules.length then (j2 p (p.Rules.getD (a1A p.Rules.length (l4 p)) default), (a1A p.Rules.length (l4 p) : Int)) else (0, 0)
def atB (l : GLit) : Bool := !(l.Kind == 3)
theorem a4L (r : GRule) : (d4 r).length ≤ r.Body.length + 1 := by
 have := b1b (fun l : GLit => !(l.Kind == 3)) GLit.Atom r.Body
 simp only [d4, List.length_cons]; omega
theorem a3m (r : GRule) : 1 ≤ (d4 r).length := by simp [d4]
theorem b3D (r : GRule) : d4 r = r.Head :: (r.Body.filter atB).map GLit.Atom := rfl
def a5o : ACode := q' ([o' 2 (.box 2 (.t 0)), z' 4 0]) (.seq (q' ([m' 7 1]) (.block 0 (q' ([o' 9 (.bin .eql (.t 7) (.k (.v false [.c (.s [112, 97, 99, 107, 101, 116])]))), m' 8
 9]) (.cond (.t 8) (q' ([z' 4 4]) .ret) (q' ([o' 11 (.bin .eql (.t 7) (.k (.v false [.c (.s [102, 111, 114, 119, 97, 114, 100])]))), m' 10 11]) (.cond (.t 10)
 (q' ([z' 4 1]) .ret) .skip)))))) (q' ([e' 13 2 2, m' 14 1, c' 15 149 [13, 14], m' 12 15, o' 16 (.ext (.t 12) 0), o' 17 (.ext (.t 12) 1), w' 5 [.i .i64, .s, .i
 .i64], s' 3 5 16, m' 6 17]) (.seq (q' ([m' 18 6, o' 19 (.not (.t 18))]) (.cond (.t 19) (q' ([o' 4 (.mov (.k (.v false [.c (.i .i64 (-1))])))]) .ret) .skip))
 (q' ([f' 20 2 5, l' 21 20, m' 4 21]) .ret))))
theorem b2y : cmp Tryz.prog Tryz.f163 = some a5o := by kernel_rfl
theorem b4M (p : GProgram) (name : List UInt8) : A0n Tryz.prog 163 [(true, [.sl false [.i .i64 0, .s [], .i .i64 0] (p.Decls.map GDecl.cells), .sl false [.i .i64 0, .s [], .sl false [.s [], .i .i64 0, .s []] [], .sl false [.i .i64 0, .s [], .sl false [.s [], .i .i64 0, .s []] [], .i .i64 0, .s [], .i .i64 0, .s [], .s [], .i .i64 0, .s []] []] (p.Rules.map (GRule.cells false false))]), (false, [.s name])] [] (.one (false, [.i .i64 (a0a p name)])) := by
 refine spec_of2 false false none Tryz.func163 b2y (rvs := [.t 4]) (hΓ := mkCtx_ok (deep := false) (l := [(149, [], a0R)]) ⟨a4j, trivial⟩) (h := ?_)
 intro hb hE
 simp only [go_sem] at hb
 simp only [a5o, x']
 (try refine A2X ?_); simp only [go_sem]; (repeat' first | apply CJ.mk | intro hc); all_goals try ((repeat' first | apply And.intro | intro hs) <;> (try simp only [go_sem, Bool.and_eq_false_iff] at hs) <;> omega)
 all_goals simp only [a0a, pkB, fwB, *, cond_true, cond_false]
noncomputable def a0c : CT := d7 (fun (x : GProgram × (List UInt8)) => b4M x.1 x.2)
@[go_sem] theorem c1r (p_Decls : List GDecl) (p_Rules : List GRule) (name : List UInt8) : a0c [(true, [.sl false [.i .i64 0, .s [], .i .i64 0] (p_Decls.map GDecl.cells), .sl false [.i .i64 0, .s [], .sl false [.s [], .i .i64 0, .s []] [], .sl false [.i .i64 0, .s [], .sl false [.s [], .i .i64 0, .s []] [], .i .i64 0, .s [], .i .i64 0, .s [], .s [], .i .i64 0, .s []] []] (p_Rules.map (GRule.cells false false))]), (false, [.s name])] = some (True, [], .one (false, [.i .i64 (a0a (GProgram.mk p_Decls p_Rules) name)])) := c4 _ (by rintro ⟨⟨_, _⟩, _⟩ ⟨⟨_, _⟩, _⟩ h; simp at h; simp_all) ((GProgram.mk p_Decls p_Rules), name)
theorem a3o : OkC Tryz.prog 163 a0c := c5 _
def a6g : ACode := q' ([o' 2 (.box 2 (.t 0)), z' 4 0]) (q' ([e' 8 2 2, m' 9 1, c' 10 149 [8, 9], m' 7 10, o' 11 (.ext (.t 7) 0), o' 12 (.ext (.t 7) 1), w' 5 [.i .i64, .s, .i
 .i64], s' 3 5 11, m' 6 12]) (q' ([f' 13 0 5, l' 14 13, m' 4 14]) .ret))
theorem b4f : cmp Tryz.prog Tryz.f82 = some a6g := by kernel_rfl
theorem b6a (p : GProgram) (name : List UInt8) : A0n Tryz.prog 82 [(true, [.sl false [.i .i64 0, .s [], .i .i64 0] (p.Decls.map GDecl.cells), .sl false [.i .i64 0, .s [], .sl false [.s [], .i .i64 0, .s []] [], .sl false [.i .i64 0, .s [], .sl false [.s [], .i .i64 0, .s []] [], .i .i64 0, .s [], .i .i64 0, .s [], .s [], .i .i64 0, .s []] []] (p.Rules.map (GRule.cells false false))]), (false, [.s name])] [] (.one (false, [.i .i64 (p9 p name)])) := by
 refine spec_of2 false false none Tryz.func82 b4f (rvs := [.t 4]) (hΓ := mkCtx_ok (deep := false) (l := [(149, [], a0R)]) ⟨a4j, trivial⟩) (h := ?_)
 intro hb hE
 simp only [go_sem] at hb
 simp only [a6g, x']
 (try refine A2X ?_); simp only [go_sem]; (repeat' first | apply CJ.mk | intro hc); all_goals try ((repeat' first | apply And.intro | intro hs) <;> (try simp only [go_sem, Bool.and_eq_false_iff] at hs) <;> omega)
 all_goals (first | rfl | trace_state)
noncomputable def s9 : CT := d7 (fun (x : GProgram × (List UInt8)) => b6a x.1 x.2)
@[go_sem] theorem c2K (p_Decls : List GDecl) (p_Rules : List GRule) (name : List UInt8) : s9 [(true, [.sl false [.i .i64 0, .s [], .i .i64 0] (p_Decls.map GDecl.cells), .sl false [.i .i64 0, .s [], .sl false [.s [], .i .i64 0, .s []] [], .sl false [.i .i64 0, .s [], .sl false [.s [], .i .i64 0, .s []] [], .i .i64 0, .s [], .i .i64 0, .s [], .s [], .i .i64 0, .s []] []] (p_Rules.map (GRule.cells false false))]), (false, [.s name])] = some (True, [], .one (false, [.i .i64 (p9 (GProgram.mk p_Decls p_Rules) name)])) := c4 _ (by rintro ⟨⟨_, _⟩, _⟩ ⟨⟨_, _⟩, _⟩ h; simp at h; simp_all) ((GProgram.mk p_Decls p_Rules), name)
theorem u4 : OkC Tryz.prog 82 s9 := c5 _
def a5r : ACode := q' ([o' 2 (.box 2 (.t 0)), b' 4 false]) (q' ([m' 5 1, o' 6 (.bin .eql (.t 5) (.k (.v false [.c (.s [112, 97, 99, 107, 101, 116])]))), m' 7 6, ⟨some 8, .ld true
 2 (.t 2), some (7, false)⟩, ⟨some 9, .mov (.t 1), some (7, false)⟩, ⟨some 10, .call 82 [.t 8, .t 9], some (7, false)⟩, ⟨some 11, .bin .eql (.t 10) (k' 2),
 some (7, false)⟩, o' 12 (.pick (.t 7) (.k (.v false [.c (.b true)])) (.t 11)), m' 4 12]) .ret)
theorem b2B : cmp Tryz.prog Tryz.f342 = some a5r := by kernel_rfl
theorem b4P (p : GProgram) (name : List UInt8) : A0n Tryz.prog 342 [(true, [.sl false [.i .i64 0, .s [], .i .i64 0] (p.Decls.map GDecl.cells), .sl false [.i .i64 0, .s [], .sl false [.s [], .i .i64 0, .s []] [], .sl false [.i .i64 0, .s [], .sl false [.s [], .i .i64 0, .s []] [], .i .i64 0, .s [], .i .i64 0, .s [], .s [], .i .i64 0, .s []] []] (p.Rules.map (GRule.cells false false))]), (false, [.s name])] [] (.one (false, [.b (movB p name)])) := by
 refine spec_of2 false false none Tryz.func342 b2B (rvs := [.t 4]) (hΓ := mkCtx_ok (deep := false) (l := [(82, [], s9)]) ⟨u4, trivial⟩) (h := ?_)
 intro hb hE
 simp only [go_sem] at hb
 simp only [a5r, x']
 (try refine A2X ?_); simp only [go_sem]; (repeat' first | apply CJ.mk | intro hc); all_goals try ((repeat' first | apply And.intro | intro hs) <;> (try simp only [go_sem, Bool.and_eq_false_iff] at hs) <;> omega)
 all_goals (first | rfl | trace_state)
noncomputable def a0f : CT := d7 (fun (x : GProgram × (List UInt8)) => b4P x.1 x.2)
@[go_sem] theorem c1u (p_Decls : List GDecl) (p_Rules : List GRule) (name : List UInt8) : a0f [(true, [.sl false [.i .i64 0, .s [], .i .i64 0] (p_Decls.map GDecl.cells), .sl false [.i .i64 0, .s [], .sl false [.s [], .i .i64 0, .s []] [], .sl false [.i .i64 0, .s [], .sl false [.s [], .i .i64 0, .s []] [], .i .i64 0, .s [], .i .i64 0, .s [], .s [], .i .i64 0, .s []] []] (p_Rules.map (GRule.cells false false))]), (false, [.s name])] = some (True, [], .one (false, [.b (movB (GProgram.mk p_Decls p_Rules) name)])) := c4 _ (by rintro ⟨⟨_, _⟩, _⟩ ⟨⟨_, _⟩, _⟩ h; simp at h; simp_all) ((GProgram.mk p_Decls p_Rules), name)
theorem a3r : OkC Tryz.prog 342 a0f := c5 _
def a5p : ACode := q' ([o' 1 (.box 4 (.t 0)), o' 2 (.mov (.k (.v false [.nl [.s [], .sl false [.s [], .i .i64 0, .s []] []]])))]) (q' ([f' 6 1 1, e' 7 2 6, o' 8 (.bsl 2 1 [.s, .sl
 [.s [], .i .i64 0, .s []]] [(0, .t 7)]), m' 3 8]) (.seq (q' ([f' 9 3 1, l' 10 9, n' 11 10, z' 12 0]) (.block 0 (.loop (q' ([r' 13 12 11]) (.seq (.cond (.t 13)
 .skip (.exit 0)) (.seq (.block 1 (q' ([i' 14 10 10 12, e' 15 10 14, w' 5 [.i .i64, .s, .sl [.s [], .i .i64 0, .s []], .i .i64, .s, .i .i64, .s, .s, .i .i64,
 .s], s' 10 5 15]) (q' ([f' 16 0 5, l' 17 16, o' 18 (.bin .neq (.t 17) (k' 3))]) (.cond (.t 18) (g' [m' 19 3, f' 20 1 5, e' 21 2 20, o' 22 (.bsl 2 1 [.s, .sl
 [.s [], .i .i64 0, .s []]] [(0, .t 21)]), o' 23 (.app 2 40 [.s, .sl [.s [], .i .i64 0, .s []]] (.t 19) (.t 22)), m' 3 23]) .skip)))) (g' [a' 24 12, m' 12
 24]))))))) (q' ([m' 25 3, m' 2 25]) .ret)))
theorem b2z : cmp Tryz.prog Tryz.f168 = some a5p := by kernel_rfl
theorem b4N (r : GRule) (hpre : r.Body.length ≤ 8) : A0n Tryz.prog 168 [(true, [.i .i64 r.Kind, .s r.Head.Name, .sl false [.s [], .i .i64 0, .s []] (r.Head.Args.map GTerm.cells), .sl false [.i .i64 0, .s [], .sl false [.s [], .i .i64 0, .s []] [], .i .i64 0, .s [], .i .i64 0, .s [], .s [], .i .i64 0, .s []] (r.Body.map (GLit.cells false false))])] [] (.one (false, [.sl true [.s [], .sl false [.s [], .i .i64 0, .s []] []] ((d4 r).map (GAtom.cells false false))])) := by
 refine spec_of2 false false none Tryz.func168 b2z (rvs := [.t 2]) (hΓ := mkCtx_ok (deep := false) (l := []) trivial) (h := ?_)
 intro hb hE
 simp only [go_sem] at hb
 simp only [a5p, x']
 (try refine A2X ?_); simp only [go_sem]; (repeat' first | apply CJ.mk | intro hc); all_goals try ((repeat' first | apply And.intro | intro hs) <;> (try simp only [go_sem, Bool.and_eq_false_iff] at hs) <;> omega)
 refine aw_loop2 false [(false, 3, 0, 100006)] [10, 11] [] [] (fun i : {i : Nat // i ≤ r.Body.length} => [(3, .v false [.ow 100006]), (12, slV (.i .i64 i.1))]) (fun i => []) (fun i => [(100006, [.s [], .sl false [.s [], .i .i64 0, .s []] []], (r.Head :: ((r.Body.take i.1).filter atB).map GLit.Atom).map (GAtom.cells false false))]) (fun i => r.Body.length - i.1) (⟨0, by simp⟩) _ (by simp only [go_sem]; try rfl) ?_ ?_
 · simp only [go_sem]
  all_goals first | omega | ((repeat' apply And.intro) <;> first | omega | rfl | skip)
 intro S0 hS0 i
 simp only [go_sem] at hS0
 obtain ⟨i, hi⟩ := i
 (try refine A2X ?_); simp only [go_sem, hS0]; (repeat' first | apply CJ.mk | intro hc); all_goals try ((repeat' first | apply And.intro | intro hs) <;> (try simp only [go_sem, Bool.and_eq_false_iff] at hs) <;> omega)
 · have := b1b atB GLit.Atom (r.Body.take i); simp at this; omega
 · have hp : atB (r.Body.getD i default) = true := hc
  (refine lpK_n2 (⟨i + 1, by omega⟩) _ (by simp only [go_sem]; try rfl) ?_; simp only [go_sem, hS0]; first | done | ((repeat' apply And.intro) <;> first | omega | (refine w64 ?_ ?_ ?_ <;> omega) | rfl | skip))
  all_goals (rw [a7f GLit.Atom default (by omega) hp] <;> rfl)
 · have hp : atB (r.Body.getD i default) = false := hc
  (refine lpK_n2 (⟨i + 1, by omega⟩) _ (by simp only [go_sem]; try rfl) ?_; simp only [go_sem, hS0]; first | done | ((repeat' apply And.intro) <;> first | omega | (refine w64 ?_ ?_ ?_ <;> omega) | rfl | skip))
  all_goals (rw [a9G GLit.Atom default (by omega) hp] <;> rfl)
 · rw [c6 (by omega), b3D]; rfl
noncomputable def a0d : CT := l9 (fun (x : GRule) h => b4N x h)
@[go_sem] theorem c1s (r_Kind : Int) (r_Head_Name : List UInt8) (r_Head_Args : List GTerm) (r_Body : List GLit) : a0d [(true, [.i .i64 r_Kind, .s r_Head_Name, .sl false [.s [], .i .i64 0, .s []] (r_Head_Args.map GTerm.cells), .sl false [.i .i64 0, .s [], .sl false [.s [], .i .i64 0, .s []] [], .i .i64 0, .s [], .i .i64 0, .s [], .s [], .i .i64 0, .s []] (r_Body.map (GLit.cells false false))])] = some ((GRule.mk r_Kind (GAtom.mk r_Head_Name r_Head_Args) r_Body).Body.length ≤ 8, [], .one (false, [.sl true [.s [], .sl false [.s [], .i .i64 0, .s []] []] ((d4 (GRule.mk r_Kind (GAtom.mk r_Head_Name r_Head_Args) r_Body)).map (GAtom.cells false false))])) := d5 _ (by rintro ⟨_, ⟨_, _⟩, _⟩ ⟨_, ⟨_, _⟩, _⟩ h; simp at h; simp_all) (GRule.mk r_Kind (GAtom.mk r_Head_Name r_Head_Args) r_Body)
theorem a3p : OkC Tryz.prog 168 a0d := d6 _
def a4c : ACode := q' ([o' 2 (.box 2 (.t 0)), z' 4 0]) (.seq (q' ([m' 6 1, o' 7 (.bin .eql (.t 6) (.k (.v false [.c (.s [112, 97, 99, 107, 101, 116])])))]) (.cond (.t 7) (q' ([z'
 4 4]) .ret) .skip)) (.seq (q' ([m' 8 1, o' 9 (.bin .eql (.t 8) (.k (.v false [.c (.s [102, 111, 114, 119, 97, 114, 100])])))]) (.cond (.t 9) (q' ([z' 4 1])
 .ret) .skip)) (q' ([e' 10 2 2, m' 11 1, c' 12 160 [10, 11], w' 5 [.i .i64, .s, .i .i64], s' 3 5 12]) (.seq (q' ([f' 13 0 5, l' 14 13, o' 15 (.bin .eql (.t 14)
 (k' 0))]) (.cond (.t 15) (q' ([o' 4 (.mov (.k (.v false [.c (.i .i64 (-1))])))]) .ret) .skip)) (q' ([f' 16 2 5, l' 17 16, m' 4 17]) .ret)))))
theorem b1n : cmp Tryz.prog Tryz.f215 = some a4c := by kernel_rfl
theorem b3l (p : GProgram) (name : List UInt8) (hpre : g8 p = true) : A0n Tryz.prog 215 [(true, [.sl false [.i .i64 0, .s [], .i .i64 0] (p.Decls.map GDecl.cells), .sl false [.i .i64 0, .s [], .sl false [.s [], .i .i64 0, .s []] [], .sl false [.i .i64 0, .s [], .sl false [.s [], .i .i64 0, .s []] [], .i .i64 0, .s [], .i .i64 0, .s [], .s [], .i .i64 0, .s []] []] (p.Rules.map (GRule.cells false false))]), (false, [.s name])] [] (.one (false, [.i .i64 (a0a p name)])) := by
 refine spec_of2 false false none Tryz.func215 b1n (rvs := [.t 4]) (hΓ := mkCtx_ok (deep := false) (l := [(160, [], p8)]) ⟨t7, trivial⟩) (h := ?_)
 intro hb hE
 simp only [go_sem] at hb
 simp only [a4c, x']
 (try refine A2X ?_); simp only [go_sem]; (repeat' first | apply CJ.mk | intro hc); all_goals try ((repeat' first | apply And.intro | intro hs) <;> (try simp only [go_sem, Bool.and_eq_false_iff] at hs) <;> omega)
 · simp only [a0a, pkB, fwB, *, cond_true, cond_false]
 · simp only [a0a, pkB, fwB, *, cond_true, cond_false]
 all_goals rw [b7t hpre] at hc
 · rw [Bool.not_eq_true'] at hc
  simp only [a0a, pkB, fwB, *, cond_true, cond_false]
 · rw [Bool.not_eq_false'] at hc
  simp only [a0a, pkB, fwB, *, cond_true, cond_false]
noncomputable def a1x : CT := l9 (fun (x : GProgram × (List UInt8)) h => b3l x.1 x.2 h)
@[go_sem] theorem c0D (p_Decls : List GDecl) (p_Rules : List GRule) (name : List UInt8) : a1x [(true, [.sl false [.i .i64 0, .s [], .i .i64 0] (p_Decls.map GDecl.cells), .sl false [.i .i64 0, .s [], .sl false [.s [], .i .i64 0, .s []] [], .sl false [.i .i64 0, .s [], .sl false [.s [], .i .i64 0, .s []] [], .i .i64 0, .s [], .i .i64 0, .s [], .s [], .i .i64 0, .s []] []] (p_Rules.map (GRule.cells false false))]), (false, [.s name])] = some (g8 (GProgram.mk p_Decls p_Rules) = true, [], .one (false, [.i .i64 (a0a (GProgram.mk p_Decls p_Rules) name)])) := d5 _ (by rintro ⟨⟨_, _⟩, _⟩ ⟨⟨_, _⟩, _⟩ h; simp at h; simp_all) ((GProgram.mk p_Decls p_Rules), name)
theorem a8w : OkC Tryz.prog 215 a1x := d6 _
def a3l : ACode := q' ([o' 2 (.box 2 (.t 0)), b' 4 false]) (q' ([m' 5 1, o' 6 (.bin .eql (.t 5) (.k (.v false [.c (.s [112, 97, 99, 107, 101, 116])]))), m' 7 6, ⟨some 8, .ld true
 2 (.t 2), some (7, false)⟩, ⟨some 9, .mov (.t 1), some (7, false)⟩, ⟨some 10, .call 160 [.t 8, .t 9], some (7, false)⟩, ⟨some 11, .fl false 0 1 (.t 10), some
 (7, false)⟩, ⟨some 12, .bin .eql (.t 11) (k' 2), some (7, false)⟩, o' 13 (.pick (.t 7) (.k (.v false [.c (.b true)])) (.t 12)), m' 4 13]) .ret)
theorem b0c : cmp Tryz.prog Tryz.f216 = some a3l := by kernel_rfl
theorem b1N (p : GProgram) (name : List UInt8) : A0n Tryz.prog 216 [(true, [.sl false [.i .i64 0, .s [], .i .i64 0] (p.Decls.map GDecl.cells), .sl false [.i .i64 0, .s [], .sl false [.s [], .i .i64 0, .s []] [], .sl false [.i .i64 0, .s [], .sl false [.s [], .i .i64 0, .s []] [], .i .i64 0, .s [], .i .i64 0, .s [], .s [], .i .i64 0, .s []] []] (p.Rules.map (GRule.cells false false))]), (false, [.s name])] [] (.one (false, [.b (movB p name)])) := by
 refine spec_of2 false false none Tryz.func216 b0c (rvs := [.t 4]) (hΓ := mkCtx_ok (deep := false) (l := [(160, [], p8)]) ⟨t7, trivial⟩) (h := ?_)
 intro hb hE
 simp only [go_sem] at hb
 simp only [a3l, x']
 (try refine A2X ?_); simp only [go_sem]; (repeat' first | apply CJ.mk | intro hc); all_goals try ((repeat' first | apply And.intro | intro hs) <;> (try simp only [go_sem, Bool.and_eq_false_iff] at hs) <;> omega)
 all_goals (first | rfl | trace_state)
noncomputable def a0L : CT := d7 (fun (x : GProgram × (List UInt8)) => b1N x.1 x.2)
@[go_sem] theorem b9S (p_Decls : List GDecl) (p_Rules : List GRule) (name : List UInt8) : a0L [(true, [.sl false [.i .i64 0, .s [], .i .i64 0] (p_Decls.map GDecl.cells), .sl false [.i .i64 0, .s [], .sl false [.s [], .i .i64 0, .s []] [], .sl false [.i .i64 0, .s [], .sl false [.s [], .i .i64 0, .s []] [], .i .i64 0, .s [], .i .i64 0, .s [], .s [], .i .i64 0, .s []] []] (p_Rules.map (GRule.cells false false))]), (false, [.s name])] = some (True, [], .one (false, [.b (movB (GProgram.mk p_Decls p_Rules) name)])) := c4 _ (by rintro ⟨⟨_, _⟩, _⟩ ⟨⟨_, _⟩, _⟩ h; simp at h; simp_all) ((GProgram.mk p_Decls p_Rules), name)
theorem a7K : OkC Tryz.prog 216 a0L := c5 _
def a4d : ACode := q' ([o' 1 (.box 4 (.t 0)), o' 2 (.mov (.k (.v false [.nl [.s [], .sl false [.s [], .i .i64 0, .s []] []]])))]) (q' ([f' 5 1 1, e' 6 2 5, o' 7 (.bsl 2 1 [.s, .sl
 [.s [], .i .i64 0, .s []]] [(0, .t 6)]), m' 3 7]) (.seq (q' ([f' 8 3 1, l' 9 8, n' 10 9, z' 11 0]) (.block 0 (.loop (q' ([r' 12 11 10]) (.seq (.cond (.t 12)
 .skip (.exit 0)) (.seq (.block 1 (q' ([m' 13 11, m' 4 13]) (q' ([f' 14 3 1, l' 15 14, m' 16 4, i' 17 10 15 16, f' 18 0 17, l' 19 18, o' 20 (.bin .neq (.t 19)
 (k' 3))]) (.cond (.t 20) (g' [m' 21 3, f' 22 3 1, l' 23 22, m' 24 4, i' 25 10 23 24, f' 26 1 25, e' 27 2 26, o' 28 (.bsl 2 1 [.s, .sl [.s [], .i .i64 0, .s
 []]] [(0, .t 27)]), o' 29 (.app 2 40 [.s, .sl [.s [], .i .i64 0, .s []]] (.t 21) (.t 28)), m' 3 29]) .skip)))) (g' [a' 30 11, m' 11 30]))))))) (q' ([m' 31 3,
 m' 2 31]) .ret)))
theorem b1o : cmp Tryz.prog Tryz.f214 = some a4d := by kernel_rfl
theorem b3m (r : GRule) (hpre : r.Body.length ≤ 8) : A0n Tryz.prog 214 [(true, [.i .i64 r.Kind, .s r.Head.Name, .sl false [.s [], .i .i64 0, .s []] (r.Head.Args.map GTerm.cells), .sl false [.i .i64 0, .s [], .sl false [.s [], .i .i64 0, .s []] [], .i .i64 0, .s [], .i .i64 0, .s [], .s [], .i .i64 0, .s []] (r.Body.map (GLit.cells false false))])] [] (.one (false, [.sl true [.s [], .sl false [.s [], .i .i64 0, .s []] []] ((d4 r).map (GAtom.cells false false))])) := by
 refine spec_of2 false false none Tryz.func214 b1o (rvs := [.t 2]) (hΓ := mkCtx_ok (deep := false) (l := []) trivial) (h := ?_)
 intro hb hE
 simp only [go_sem] at hb
 simp only [a4d, x']
 (try refine A2X ?_); simp only [go_sem]; (repeat' first | apply CJ.mk | intro hc); all_goals try ((repeat' first | apply And.intro | intro hs) <;> (try simp only [go_sem, Bool.and_eq_false_iff] at hs) <;> omega)
 refine aw_loop2 false [(false, 3, 0, 100006)] [1, 10] [2] [] (fun i : {i : Nat // i ≤ r.Body.length} => [(3, .v false [.ow 100006]), (11, slV (.i .i64 i.1))]) (fun i => []) (fun i => [(100006, [.s [], .sl false [.s [], .i .i64 0, .s []] []], (r.Head :: ((r.Body.take i.1).filter atB).map GLit.Atom).map (GAtom.cells false false))]) (fun i => r.Body.length - i.1) (⟨0, by simp⟩) _ (by simp only [go_sem]; try rfl) ?_ ?_
 · simp only [go_sem]
  all_goals first | omega | ((repeat' apply And.intro) <;> first | omega | rfl | skip)
 intro S0 hS0 i
 simp only [go_sem] at hS0
 obtain ⟨i, hi⟩ := i
 (try refine A2X ?_); simp only [go_sem, hS0]; (repeat' first | apply CJ.mk | intro hc); all_goals try ((repeat' first | apply And.intro | intro hs) <;> (try simp only [go_sem, Bool.and_eq_false_iff] at hs) <;> omega)
 · have := b1b atB GLit.Atom (r.Body.take i); simp at this; omega
 · have hp : atB (r.Body.getD i default) = true := hc
  (refine lpK_n2 (⟨i + 1, by omega⟩) _ (by simp only [go_sem]; try rfl) ?_; simp only [go_sem, hS0]; first | done | ((repeat' apply And.intro) <;> first | omega | (refine w64 ?_ ?_ ?_ <;> omega) | rfl | skip))
  all_goals (rw [a7f GLit.Atom default (by omega) hp] <;> rfl)
 · have hp : atB (r.Body.getD i default) = false := hc
  (refine lpK_n2 (⟨i + 1, by omega⟩) _ (by simp only [go_sem]; try rfl) ?_; simp only [go_sem, hS0]; first | done | ((repeat' apply And.intro) <;> first | omega | (refine w64 ?_ ?_ ?_ <;> omega) | rfl | skip))
  all_goals (rw [a9G GLit.Atom default (by omega) hp] <;> rfl)
 · rw [c6 (by omega), b3D]; rfl
noncomputable def w9 : CT := l9 (fun (x : GRule) h => b3m x h)
@[go_sem] theorem c0E (r_Kind : Int) (r_Head_Name : List UInt8) (r_Head_Args : List GTerm) (r_Body : List GLit) : w9 [(true, [.i .i64 r_Kind, .s r_Head_Name, .sl false [.s [], .i .i64 0, .s []] (r_Head_Args.map GTerm.cells), .sl false [.i .i64 0, .s [], .sl false [.s [], .i .i64 0, .s []] [], .i .i64 0, .s [], .i .i64 0, .s [], .s [], .i .i64 0, .s []] (r_Body.map (GLit.cells false false))])] = some ((GRule.mk r_Kind (GAtom.mk r_Head_Name r_Head_Args) r_Body).Body.length ≤ 8, [], .one (false, [.sl true [.s [], .sl false [.s [], .i .i64 0, .s []] []] ((d4 (GRule.mk r_Kind (GAtom.mk r_Head_Name r_Head_Args) r_Body)).map (GAtom.cells false false))])) := d5 _ (by rintro ⟨_, ⟨_, _⟩, _⟩ ⟨_, ⟨_, _⟩, _⟩ h; simp at h; simp_all) (GRule.mk r_Kind (GAtom.mk r_Head_Name r_Head_Args) r_Body)
theorem a2G : OkC Tryz.prog 214 w9 := d6 _
theorem b4G {p : GProgram} (h : g8 p = true) {r : GRule} (hr : r ∈ p.Rules) : r.Body.length ≤ 8 := by
 simp only [g8, Bool.and_eq_true, List.all_eq_true] at h
 have := h.2 r hr
 simp only [e7, Bool.and_eq_true, decide_eq_true_eq] at this
 omega
def a0q : ACode := q' ([o' 2 (.box 10 (.t 0)), b' 3 false]) (q' ([f' 4 0 2, l' 5 4, o' 6 (.bin .neq (.t 5) (k' 3)), m' 7 6, ⟨some 8, .ld true 2 (.t 1), some (7, true)⟩, ⟨some 9,
 .fa 1 (.t 2), some (7, true)⟩, ⟨some 10, .fa 0 (.t 9), some (7, true)⟩, ⟨some 11, .ld false 1 (.t 10), some (7, true)⟩, ⟨some 12, .call 342 [.t 8, .t 11],
 some (7, true)⟩, o' 13 (.pick (.t 7) (.t 12) (.k (.v false [.c (.b false)]))), m' 3 13]) .ret)
theorem a5Z : cmp Tryz.prog Tryz.f343 = some a0q := by kernel_rfl
theorem a7k (l : GLit) (p : GProgram) : A0n Tryz.prog 343 [(true, [.i .i64 l.Kind, .s l.Atom.Name, .sl false [.s [], .i .i64 0, .s []] (l.Atom.Args.map GTerm.cells), .i .i64 l.Op, .s l.A.Var, .i .i64 l.A.Val.N, .s l.A.Val.S, .s l.B.Var, .i .i64 l.B.Val.N, .s l.B.Val.S]), (false, [.p [.sl false [.i .i64 0, .s [], .i .i64 0] (p.Decls.map GDecl.cells), .sl false [.i .i64 0, .s [], .sl false [.s [], .i .i64 0, .s []] [], .sl false [.i .i64 0, .s [], .sl false [.s [], .i .i64 0, .s []] [], .i .i64 0, .s [], .i .i64 0, .s [], .s [], .i .i64 0, .s []] []] (p.Rules.map (GRule.cells false false))]])] [] (.one (false, [.b (a5k p l)])) := by
 refine spec_of2 false false none Tryz.func343 a5Z (rvs := [.t 3]) (hΓ := mkCtx_ok (deep := false) (l := [(342, [], a0f)]) ⟨a3r, trivial⟩) (h := ?_)
 intro hb hE
 simp only [go_sem] at hb
 simp only [a0q, x']
 (try refine A2X ?_); simp only [go_sem]; (repeat' first | apply CJ.mk | intro hc); all_goals try ((repeat' first | apply And.intro | intro hs) <;> (try simp only [go_sem, Bool.and_eq_false_iff] at hs) <;> omega)
 all_goals (first | rfl | trace_state)
noncomputable def u0 : CT := d7 (fun (x : GLit × GProgram) => a7k x.1 x.2)
@[go_sem] theorem b6G (l_Kind : Int) (l_Atom_Name : List UInt8) (l_Atom_Args : List GTerm) (l_Op : Int) (l_A_Var : List UInt8) (l_A_Val_N : Int) (l_A_Val_S : List UInt8) (l_B_Var : List UInt8) (l_B_Val_N : Int) (l_B_Val_S : List UInt8) (p_Decls : List GDecl) (p_Rules : List GRule) : u0 [(true, [.i .i64 l_Kind, .s l_Atom_Name, .sl false [.s [], .i .i64 0, .s []] (l_Atom_Args.map GTerm.cells), .i .i64 l_Op, .s l_A_Var, .i .i64 l_A_Val_N, .s l_A_Val_S, .s l_B_Var, .i .i64 l_B_Val_N, .s l_B_Val_S]), (false, [.p [.sl false [.i .i64 0, .s [], .i .i64 0] (p_Decls.map GDecl.cells), .sl false [.i .i64 0, .s [], .sl false [.s [], .i .i64 0, .s []] [], .sl false [.i .i64 0, .s [], .sl false [.s [], .i .i64 0, .s []] [], .i .i64 0, .s [], .i .i64 0, .s [], .s [], .i .i64 0, .s []] []] (p_Rules.map (GRule.cells false false))]])] = some (True, [], .one (false, [.b (a5k (GProgram.mk p_Decls p_Rules) (GLit.mk l_Kind (GAtom.mk l_Atom_Name l_Atom_Args) l_Op (GTerm.mk l_A_Var (GValue.mk l_A_Val_N l_A_Val_S)) (GTerm.mk l_B_Var (GValue.mk l_B_Val_N l_B_Val_S))))])) := c4 _ (by rintro ⟨⟨_, ⟨_, _⟩, _, ⟨_, ⟨_, _⟩⟩, ⟨_, ⟨_, _⟩⟩⟩, ⟨_, _⟩⟩ ⟨⟨_, ⟨_, _⟩, _, ⟨_, ⟨_, _⟩⟩, ⟨_, ⟨_, _⟩⟩⟩, ⟨_, _⟩⟩ h; simp at h; simp_all) ((GLit.mk l_Kind (GAtom.mk l_Atom_Name l_Atom_Args) l_Op (GTerm.mk l_A_Var (GValue.mk l_A_Val_N l_A_Val_S)) (GTerm.mk l_B_Var (GValue.mk l_B_Val_N l_B_Val_S))), (GProgram.mk p_Decls p_Rules))
theorem a4k : OkC Tryz.prog 343 u0 := c5 _
theorem b7E (l : List GLit) (p : GProgram) : A0n Tryz.prog 275 [(false, [.sl false [.i .i64 0, .s [], .sl false [.s [], .i .i64 0, .s []] [], .i .i64 0, .s [], .i .i64 0, .s [], .s [], .i .i64 0, .s []] (l.map (GLit.cells false false))]), (false, [.f 343 [.p [.sl false [.i .i64 0, .s [], .i .i64 0] (p.Decls.map GDecl.cells), .sl false [.i .i64 0, .s [], .sl false [.s [], .i .i64 0, .s []] [], .sl false [.i .i64 0, .s [], .sl false [.s [], .i .i64 0, .s []] [], .i .i64 0, .s [], .i .i64 0, .s [], .s [], .i .i64 0, .s []] []] (p.Rules.map (GRule.cells false false))]]])] [] (.one (false, [.i .i64 (w4 (fun y => a5k p y) l)])) := by
 refine spec_of2 false false none Tryz.func275 b6N (rvs := [.t 4]) (hΓ := mkCtx_ok (deep := false) (l := [(343, [], u0)]) ⟨a4k, trivial⟩) (h := ?_)
 intro hb hE
 simp only [go_sem] at hb
 simp only [b0D, x']
 (try refine A2X ?_); simp only [go_sem]; (repeat' first | apply CJ.mk | intro hc); all_goals try ((repeat' first | apply And.intro | intro hs) <;> (try simp only [go_sem, Bool.and_eq_false_iff] at hs) <;> omega)
 refine aw_loop2 false [] [0, 1, 7] [] [] (fun i : {i : Nat // i ≤ l.length ∧ (l.take i).any (fun y => a5k p y) = false} => [(8, slV (.i .i64 i.1))]) (fun i => []) (fun i => []) (fun i => l.length - i.1) (⟨0, by simp⟩) _ rfl ?_ ?_
 · simp only [go_sem]
  all_goals first | omega | ((repeat' apply And.intro) <;> first | omega | rfl | skip)
 intro S0 hS0 i
 simp only [go_sem] at hS0
 obtain ⟨i, hi, ha⟩ := i
 (try refine A2X ?_); simp only [go_sem, hS0]; (repeat' first | apply CJ.mk | intro hc); all_goals try ((repeat' first | apply And.intro | intro hs) <;> (try simp only [go_sem, Bool.and_eq_false_iff] at hs) <;> omega)
 · exact (l8 (p := fun y => a5k p y) (d := default) (by omega) ha (by simpa [-List.getD_eq_getElem?_getD] using hc)).symm
 · (refine lpK_n2 (⟨i + 1, by omega, i8 (p := fun y => a5k p y) default (by omega) ha (by simpa [-List.getD_eq_getElem?_getD] using hc)⟩) _ rfl ?_; simp only [go_sem, hS0]; first | done | ((repeat' apply And.intro) <;> first | omega | (refine w64 ?_ ?_ ?_ <;> omega) | rfl | skip))
 · exact (l7 (by rwa [c6 (by omega)] at ha)).symm
 all_goals trace_state
noncomputable def a4Q : CT := d7 (fun (x : (List GLit) × GProgram) => b7E x.1 x.2)
@[go_sem] theorem c3P (l : List GLit) (p_Decls : List GDecl) (p_Rules : List GRule) : a4Q [(false, [.sl false [.i .i64 0, .s [], .sl false [.s [], .i .i64 0, .s []] [], .i .i64 0, .s [], .i .i64 0, .s [], .s [], .i .i64 0, .s []] (l.map (GLit.cells false false))]), (false, [.f 343 [.p [.sl false [.i .i64 0, .s [], .i .i64 0] (p_Decls.map GDecl.cells), .sl false [.i .i64 0, .s [], .sl false [.s [], .i .i64 0, .s []] [], .sl false [.i .i64 0, .s [], .sl false [.s [], .i .i64 0, .s []] [], .i .i64 0, .s [], .i .i64 0, .s [], .s [], .i .i64 0, .s []] []] (p_Rules.map (GRule.cells false false))]]])] = some (True, [], .one (false, [.i .i64 (w4 (fun y => a5k (GProgram.mk p_Decls p_Rules) y) l)])) := c4 _ (by rintro ⟨_, ⟨_, _⟩⟩ ⟨_, ⟨_, _⟩⟩ h; simp at h; simp_all) (l, (GProgram.mk p_Decls p_Rules))
theorem b2l : OkC Tryz.prog 275 a4Q := c5 _
theorem b7B (l : List GLit) (p : GProgram) : A0n Tryz.prog 192 [(false, [.sl false [.i .i64 0, .s [], .sl false [.s [], .i .i64 0, .s []] [], .i .i64 0, .s [], .i .i64 0, .s [], .s [], .i .i64 0, .s []] (l.map (GLit.cells false false))]), (false, [.f 343 [.p [.sl false [.i .i64 0, .s [], .i .i64 0] (p.Decls.map GDecl.cells), .sl false [.i .i64 0, .s [], .sl false [.s [], .i .i64 0, .s []] [], .sl false [.i .i64 0, .s [], .sl false [.s [], .i .i64 0, .s []] [], .i .i64 0, .s [], .i .i64 0, .s [], .s [], .i .i64 0, .s []] []] (p.Rules.map (GRule.cells false false))]]])] [] (.one (false, [.b (l.any (fun y => a5k p y))])) := by
 refine spec_of2 false false none Tryz.func192 b6M (rvs := [.t 4]) (hΓ := mkCtx_ok (deep := false) (l := [(275, [], a4Q)]) ⟨b2l, trivial⟩) (h := ?_)
 intro hb hE
 simp only [go_sem] at hb
 simp only [b0C, x']
 (try refine A2X ?_); simp only [go_sem]; (repeat' first | apply CJ.mk | intro hc); all_goals try ((repeat' first | apply And.intro | intro hs) <;> (try simp only [go_sem, Bool.and_eq_false_iff] at hs) <;> omega)
 · exact w5 _ _
noncomputable def a4N : CT := d7 (fun (x : (List GLit) × GProgram) => b7B x.1 x.2)
@[go_sem] theorem c3M (l : List GLit) (p_Decls : List GDecl) (p_Rules : List GRule) : a4N [(false, [.sl false [.i .i64 0, .s [], .sl false [.s [], .i .i64 0, .s []] [], .i .i64 0, .s [], .i .i64 0, .s [], .s [], .i .i64 0, .s []] (l.map (GLit.cells false false))]), (false, [.f 343 [.p [.sl false [.i .i64 0, .s [], .i .i64 0] (p_Decls.map GDecl.cells), .sl false [.i .i64 0, .s [], .sl false [.s [], .i .i64 0, .s []] [], .sl false [.i .i64 0, .s [], .sl false [.s [], .i .i64 0, .s []] [], .i .i64 0, .s [], .i .i64 0, .s [], .s [], .i .i64 0, .s []] []] (p_Rules.map (GRule.cells false false))]]])] = some (True, [], .one (false, [.b (l.any (fun y => a5k (GProgram.mk p_Decls p_Rules) y))])) := c4 _ (by rintro ⟨_, ⟨_, _⟩⟩ ⟨_, ⟨_, _⟩⟩ h; simp at h; simp_all) (l, (GProgram.mk p_Decls p_Rules))
theorem b2i : OkC Tryz.prog 192 a4N := c5 _
def a1G : ACode := q' ([o' 2 (.box 2 (.t 0)), o' 3 (.box 4 (.t 1)), b' 4 false]) (q' ([f' 7 3 3, l' 8 7, m' 5 8]) (.seq (q' ([f' 9 0 3, l' 10 9, o' 11 (.bin .neq (.t 10) (k' 1)),
 m' 12 11, ⟨some 13, .fa 1 (.t 3), some (12, false)⟩, ⟨some 14, .fa 0 (.t 13), some (12, false)⟩, ⟨some 15, .ld false 1 (.t 14), some (12, false)⟩, ⟨some 16,
 .bin .eql (.t 15) (.k (.v false [.c (.s [102, 111, 114, 119, 97, 114, 100])])), some (12, false)⟩, o' 17 (.pick (.t 12) (.k (.v false [.c (.b true)])) (.t
 16))]) (.cond (.t 17) (.seq (q' ([m' 18 5, n' 19 18, o' 20 (.bin .eql (.t 19) (k' 0)), m' 21 20, ⟨some 22, .mov (.t 5), some (21, false)⟩, ⟨some 23, .ia 10
 (.t 22) (k' 0), some (21, false)⟩, ⟨some 24, .fa 0 (.t 23), some (21, false)⟩, ⟨some 25, .ld false 1 (.t 24), some (21, false)⟩, ⟨some 26, .bin .neq (.t 25)
 (k' 1), some (21, false)⟩, o' 27 (.pick (.t 21) (.k (.v false [.c (.b true)])) (.t 26))]) (.cond (.t 27) (q' ([b' 4 false]) .ret) .skip)) (q' ([m' 28 5, o' 29
 (.ia 10 (.t 28) (k' 0)), f' 30 1 29, f' 31 0 30, l' 32 31, m' 6 32]) (.seq (q' ([m' 33 6, o' 34 (.bin .neq (.t 33) (.k (.v false [.c (.s [112, 97, 99, 107,
 101, 116])]))), m' 35 34, ⟨some 36, .fa 0 (.t 3), some (35, true)⟩, ⟨some 37, .ld false 1 (.t 36), some (35, true)⟩, ⟨some 38, .bin .eql (.t 37) (k' 1), some
 (35, true)⟩, ⟨some 39, .mov (.t 38), some (35, true)⟩, ⟨some 40, .ld true 2 (.t 2), some (39, false)⟩, ⟨some 41, .mov (.t 6), some (39, false)⟩, ⟨some 42,
 .call 342 [.t 40, .t 41], some (39, false)⟩, ⟨some 43, .not (.t 42), some (39, false)⟩, ⟨some 44, .pick (.t 39) (.k (.v false [.c (.b true)])) (.t 43), some
 (35, true)⟩, o' 45 (.pick (.t 35) (.t 44) (.k (.v false [.c (.b false)])))]) (.cond (.t 45) (q' ([b' 4 false]) .ret) .skip)) (g' [m' 46 5, o' 47 (.slc 10 (.t
 46) (some (k' 1)) none none), m' 5 47])))) .skip)) (q' ([m' 48 5, o' 49 (.mf 343 [.t 2]), c' 50 192 [48, 49], o' 51 (.not (.t 50)), m' 4 51]) .ret)))
theorem a7N : cmp Tryz.prog Tryz.f303 = some a1G := by kernel_rfl
theorem a8K (p : GProgram) (r : GRule) : A0n Tryz.prog 303 [(true, [.sl false [.i .i64 0, .s [], .i .i64 0] (p.Decls.map GDecl.cells), .sl false [.i .i64 0, .s [], .sl false [.s [], .i .i64 0, .s []] [], .sl false [.i .i64 0, .s [], .sl false [.s [], .i .i64 0, .s []] [], .i .i64 0, .s [], .i .i64 0, .s [], .s [], .i .i64 0, .s []] []] (p.Rules.map (GRule.cells false false))]), (true, [.i .i64 r.Kind, .s r.Head.Name, .sl false [.s [], .i .i64 0, .s []] (r.Head.Args.map GTerm.cells), .sl false [.i .i64 0, .s [], .sl false [.s [], .i .i64 0, .s []] [], .i .i64 0, .s [], .i .i64 0, .s [], .s [], .i .i64 0, .s []] (r.Body.map (GLit.cells false false))])] [] (.one (false, [.b (b1r p r)])) := by
 refine spec_of2 false false none Tryz.func303 a7N (rvs := [.t 4]) (hΓ := mkCtx_ok (deep := false) (l := [(342, [], a0f), (192, [], a4N)]) ⟨a3r, b2i, trivial⟩) (h := ?_)
 intro hb hE
 simp only [go_sem] at hb
 simp only [a1G, x']
 (try refine A2X ?_); simp only [go_sem]; (repeat' first | apply CJ.mk | intro hc); all_goals try ((repeat' first | apply And.intro | intro hs) <;> (try simp only [go_sem, Bool.and_eq_false_iff] at hs) <;> omega)
 all_goals (try simp only [c9] at *)
 all_goals (clear hb)
 all_goals (first | (simp at hc; omega) | grind [b1r, b8K, pkB, fwB, movB] | trace_state)
noncomputable def y7 : CT := d7 (fun (x : GProgram × GRule) => a8K x.1 x.2)
@[go_sem] theorem b7X (p_Decls : List GDecl) (p_Rules : List GRule) (r_Kind : Int) (r_Head_Name : List UInt8) (r_Head_Args : List GTerm) (r_Body : List GLit) : y7 [(true, [.sl false [.i .i64 0, .s [], .i .i64 0] (p_Decls.map GDecl.cells), .sl false [.i .i64 0, .s [], .sl false [.s [], .i .i64 0, .s []] [], .sl false [.i .i64 0, .s [], .sl false [.s [], .i .i64 0, .s []] [], .i .i64 0, .s [], .i .i64 0, .s [], .s [], .i .i64 0, .s []] []] (p_Rules.map (GRule.cells false false))]), (true, [.i .i64 r_Kind, .s r_Head_Name, .sl false [.s [], .i .i64 0, .s []] (r_Head_Args.map GTerm.cells), .sl false [.i .i64 0, .s [], .sl false [.s [], .i .i64 0, .s []] [], .i .i64 0, .s [], .i .i64 0, .s [], .s [], .i .i64 0, .s []] (r_Body.map (GLit.cells false false))])] = some (True, [], .one (false, [.b (b1r (GProgram.mk p_Decls p_Rules) (GRule.mk r_Kind (GAtom.mk r_Head_Name r_Head_Args) r_Body))])) := c4 _ (by rintro ⟨⟨_, _⟩, ⟨_, ⟨_, _⟩, _⟩⟩ ⟨⟨_, _⟩, ⟨_, ⟨_, _⟩, _⟩⟩ h; simp at h; simp_all) ((GProgram.mk p_Decls p_Rules), (GRule.mk r_Kind (GAtom.mk r_Head_Name r_Head_Args) r_Body))
theorem a5T : OkC Tryz.prog 303 y7 := c5 _
def a1Z : ACode := q' ([o' 2 (.box 2 (.t 0)), b' 3 false]) (q' ([e' 4 2 1, f' 5 0 2, l' 6 5, c' 7 163 [4, 6], o' 8 (.bin .lss (.t 7) (k' 0)), m' 3 8]) .ret)
theorem a8D : cmp Tryz.prog Tryz.f300 = some a1Z := by kernel_rfl
theorem b0h (a : GAtom) (p : GProgram) : A0n Tryz.prog 300 [(true, [.s a.Name, .sl false [.s [], .i .i64 0, .s []] (a.Args.map GTerm.cells)]), (false, [.p [.sl false [.i .i64 0, .s [], .i .i64 0] (p.Decls.map GDecl.cells), .sl false [.i .i64 0, .s [], .sl false [.s [], .i .i64 0, .s []] [], .sl false [.i .i64 0, .s [], .sl false [.s [], .i .i64 0, .s []] [], .i .i64 0, .s [], .i .i64 0, .s [], .s [], .i .i64 0, .s []] []] (p.Rules.map (GRule.cells false false))]])] [] (.one (false, [.b (a1K p a)])) := by
 refine spec_of2 false false none Tryz.func300 a8D (rvs := [.t 3]) (hΓ := mkCtx_ok (deep := false) (l := [(163, [], a0c)]) ⟨a3o, trivial⟩) (h := ?_)
 intro hb hE
 simp only [go_sem] at hb
 simp only [a1Z, x']
 (try refine A2X ?_); simp only [go_sem]; (repeat' first | apply CJ.mk | intro hc); all_goals try ((repeat' first | apply And.intro | intro hs) <;> (try simp only [go_sem, Bool.and_eq_false_iff] at hs) <;> omega)
 all_goals (first | rfl | trace_state)
noncomputable def a0h : CT := d7 (fun (x : GAtom × GProgram) => b0h x.1 x.2)
@[go_sem] theorem b8w (a_Name : List UInt8) (a_Args : List GTerm) (p_Decls : List GDecl) (p_Rules : List GRule) : a0h [(true, [.s a_Name, .sl false [.s [], .i .i64 0, .s []] (a_Args.map GTerm.cells)]), (false, [.p [.sl false [.i .i64 0, .s [], .i .i64 0] (p_Decls.map GDecl.cells), .sl false [.i .i64 0, .s [], .sl false [.s [], .i .i64 0, .s []] [], .sl false [.i .i64 0, .s [], .sl false [.s [], .i .i64 0, .s []] [], .i .i64 0, .s [], .i .i64 0, .s [], .s [], .i .i64 0, .s []] []] (p_Rules.map (GRule.cells false false))]])] = some (True, [], .one (false, [.b (a1K (GProgram.mk p_Decls p_Rules) (GAtom.mk a_Name a_Args))])) := c4 _ (by rintro ⟨⟨_, _⟩, ⟨_, _⟩⟩ ⟨⟨_, _⟩, ⟨_, _⟩⟩ h; simp at h; simp_all) ((GAtom.mk a_Name a_Args), (GProgram.mk p_Decls p_Rules))
theorem a6W : OkC Tryz.prog 300 a0h := c5 _
def a2a : ACode := q' ([o' 2 (.box 2 (.t 0)), b' 3 false]) (.seq (.reg true [e' 4 2 1, f' 5 0 2, l' 6 5, c' 7 163 [4, 6], f' 8 1 2, l' 9 8, n' 10 9, o' 11 (.bin .neq (.t 7) (.t
 10)), m' 3 11]) .ret)
theorem a8E : cmp Tryz.prog Tryz.f301 = some a2a := by kernel_rfl
theorem b0i (a : GAtom) (p : GProgram) : A0n Tryz.prog 301 [(true, [.s a.Name, .sl false [.s [], .i .i64 0, .s []] (a.Args.map GTerm.cells)]), (false, [.p [.sl false [.i .i64 0, .s [], .i .i64 0] (p.Decls.map GDecl.cells), .sl false [.i .i64 0, .s [], .sl false [.s [], .i .i64 0, .s []] [], .sl false [.i .i64 0, .s [], .sl false [.s [], .i .i64 0, .s []] [], .i .i64 0, .s [], .i .i64 0, .s [], .s [], .i .i64 0, .s []] []] (p.Rules.map (GRule.cells false false))]])] [] (.one (false, [.b (a1L p a)])) := by
 refine spec_of2 false false none Tryz.func301 a8E (rvs := [.t 3]) (hΓ := mkCtx_ok (deep := false) (l := [(163, [], a0c)]) ⟨a3o, trivial⟩) (h := ?_)
 intro hb hE
 simp only [go_sem] at hb
 simp only [a2a, x']
 (try refine A2X ?_); simp only [go_sem]; (repeat' first | apply CJ.mk | intro hc); all_goals try ((repeat' first | apply And.intro | intro hs) <;> (try simp only [go_sem, Bool.and_eq_false_iff] at hs) <;> omega)
 all_goals (first | rfl | trace_state)
noncomputable def a0i : CT := d7 (fun (x : GAtom × GProgram) => b0i x.1 x.2)
@[go_sem] theorem b8x (a_Name : List UInt8) (a_Args : List GTerm) (p_Decls : List GDecl) (p_Rules : List GRule) : a0i [(true, [.s a_Name, .sl false [.s [], .i .i64 0, .s []] (a_Args.map GTerm.cells)]), (false, [.p [.sl false [.i .i64 0, .s [], .i .i64 0] (p_Decls.map GDecl.cells), .sl false [.i .i64 0, .s [], .sl false [.s [], .i .i64 0, .s []] [], .sl false [.i .i64 0, .s [], .sl false [.s [], .i .i64 0, .s []] [], .i .i64 0, .s [], .i .i64 0, .s [], .s [], .i .i64 0, .s []] []] (p_Rules.map (GRule.cells false false))]])] = some (True, [], .one (false, [.b (a1L (GProgram.mk p_Decls p_Rules) (GAtom.mk a_Name a_Args))])) := c4 _ (by rintro ⟨⟨_, _⟩, ⟨_, _⟩⟩ ⟨⟨_, _⟩, ⟨_, _⟩⟩ h; simp at h; simp_all) ((GAtom.mk a_Name a_Args), (GProgram.mk p_Decls p_Rules))
theorem a6X : OkC Tryz.prog 301 a0i := c5 _
def a2b : ACode := q' ([o' 1 (.box 2 (.t 0)), b' 2 false]) (q' ([f' 3 0 1, l' 4 3, o' 5 (.bin .eql (.t 4) (.k (.v false [.c (.s [102, 111, 114, 119, 97, 114, 100])]))), m' 2 5])
 .ret)
theorem a8F : cmp Tryz.prog Tryz.f302 = some a2b := by kernel_rfl
theorem b0j (a : GAtom) : A0n Tryz.prog 302 [(true, [.s a.Name, .sl false [.s [], .i .i64 0, .s []] (a.Args.map GTerm.cells)])] [] (.one (false, [.b (a8H a)])) := by
 refine spec_of2 false false none Tryz.func302 a8F (rvs := [.t 2]) (hΓ := mkCtx_ok (deep := false) (l := []) trivial) (h := ?_)
 intro hb hE
 simp only [go_sem] at hb
 simp only [a2b, x']
 (try refine A2X ?_); simp only [go_sem]; (repeat' first | apply CJ.mk | intro hc); all_goals try ((repeat' first | apply And.intro | intro hs) <;> (try simp only [go_sem, Bool.and_eq_false_iff] at hs) <;> omega)
 all_goals (first | rfl | trace_state)
noncomputable def a0j : CT := d7 (fun (x : GAtom) => b0j x)
@[go_sem] theorem b8y (a_Name : List UInt8) (a_Args : List GTerm) : a0j [(true, [.s a_Name, .sl false [.s [], .i .i64 0, .s []] (a_Args.map GTerm.cells)])] = some (True, [], .one (false, [.b (a8H (GAtom.mk a_Name a_Args))])) := c4 _ (by rintro ⟨_, _⟩ ⟨_, _⟩ h; simp at h; simp_all) (GAtom.mk a_Name a_Args)
theorem a6Y : OkC Tryz.prog 302 a0j := c5 _
def a4J : ACode := q' ([z' 4 0]) (.seq (q' ([m' 6 0, n' 7 6, z' 8 0]) (.block 0 (.loop (q' ([r' 9 8 7]) (.seq (.cond (.t 9) .skip (.exit 0)) (.seq (.block 1 (q' ([m' 10 8, m' 5
 10]) (q' ([m' 11 1, m' 12 0, m' 13 5, i' 14 2 12 13, e' 15 2 14, o' 16 (.callv (.t 11) [.t 15])]) (.cond (.t 16) (q' ([m' 17 5, m' 4 17]) .ret) .skip)))) (g'
 [a' 18 8, m' 8 18]))))))) (q' ([o' 4 (.mov (.k (.v false [.c (.i .i64 (-1))])))]) .ret))
theorem a8z : cmp Tryz.prog Tryz.f341 = some a4J := by kernel_rfl
theorem b8W (l : List GAtom) (p : GProgram) : A0n Tryz.prog 341 [(false, [.sl false [.s [], .sl false [.s [], .i .i64 0, .s []] []] (l.map (GAtom.cells false false))]), (false, [.f 300 [.p [.sl false [.i .i64 0, .s [], .i .i64 0] (p.Decls.map GDecl.cells), .sl false [.i .i64 0, .s [], .sl false [.s [], .i .i64 0, .s []] [], .sl false [.i .i64 0, .s [], .sl false [.s [], .i .i64 0, .s []] [], .i .i64 0, .s [], .i .i64 0, .s [], .s [], .i .i64 0, .s []] []] (p.Rules.map (GRule.cells false false))]]])] [] (.one (false, [.i .i64 (w4 (fun y => a1K p y) l)])) := by
 refine spec_of2 false false none Tryz.func341 a8z (rvs := [.t 4]) (hΓ := mkCtx_ok (deep := false) (l := [(300, [], a0h)]) ⟨a6W, trivial⟩) (h := ?_)
 intro hb hE
 simp only [go_sem] at hb
 simp only [a4J, x']
 (try refine A2X ?_); simp only [go_sem]; (repeat' first | apply CJ.mk | intro hc); all_goals try ((repeat' first | apply And.intro | intro hs) <;> (try simp only [go_sem, Bool.and_eq_false_iff] at hs) <;> omega)
 refine aw_loop2 false [] [0, 1, 7] [] [] (fun i : {i : Nat // i ≤ l.length ∧ (l.take i).any (fun y => a1K p y) = false} => [(8, slV (.i .i64 i.1))]) (fun i => []) (fun i => []) (fun i => l.length - i.1) (⟨0, by simp⟩) _ rfl ?_ ?_
 · simp only [go_sem]
  all_goals first | omega | ((repeat' apply And.intro) <;> first | omega | rfl | skip)
 intro S0 hS0 i
 simp only [go_sem] at hS0
 obtain ⟨i, hi, ha⟩ := i
 (try refine A2X ?_); simp only [go_sem, hS0]; (repeat' first | apply CJ.mk | intro hc); all_goals try ((repeat' first | apply And.intro | intro hs) <;> (try simp only [go_sem, Bool.and_eq_false_iff] at hs) <;> omega)
 · exact (l8 (p := fun y => a1K p y) (d := default) (by omega) ha (by simpa [-List.getD_eq_getElem?_getD] using hc)).symm
 · (refine lpK_n2 (⟨i + 1, by omega, i8 (p := fun y => a1K p y) default (by omega) ha (by simpa [-List.getD_eq_getElem?_getD] using hc)⟩) _ rfl ?_; simp only [go_sem, hS0]; first | done | ((repeat' apply And.intro) <;> first | omega | (refine w64 ?_ ?_ ?_ <;> omega) | rfl | skip))
 · exact (l7 (by rwa [c6 (by omega)] at ha)).symm
 all_goals trace_state
noncomputable def a6O : CT := d7 (fun (x : (List GAtom) × GProgram) => b8W x.1 x.2)
@[go_sem] theorem c4E (l : List GAtom) (p_Decls : List GDecl) (p_Rules : List GRule) : a6O [(false, [.sl false [.s [], .sl false [.s [], .i .i64 0, .s []] []] (l.map (GAtom.cells false false))]), (false, [.f 300 [.p [.sl false [.i .i64 0, .s [], .i .i64 0] (p_Decls.map GDecl.cells), .sl false [.i .i64 0, .s [], .sl false [.s [], .i .i64 0, .s []] [], .sl false [.i .i64 0, .s [], .sl false [.s [], .i .i64 0, .s []] [], .i .i64 0, .s [], .i .i64 0, .s [], .s [], .i .i64 0, .s []] []] (p_Rules.map (GRule.cells false false))]]])] = some (True, [], .one (false, [.i .i64 (w4 (fun y => a1K (GProgram.mk p_Decls p_Rules) y) l)])) := c4 _ (by rintro ⟨_, ⟨_, _⟩⟩ ⟨_, ⟨_, _⟩⟩ h; simp at h; simp_all) (l, (GProgram.mk p_Decls p_Rules))
theorem b3O : OkC Tryz.prog 341 a6O := c5 _
def a4I : ACode := q' ([b' 4 false]) (q' ([m' 5 0, m' 6 1, c' 7 341 [5, 6], o' 8 (.bin .geq (.t 7) (k' 0)), m' 4 8]) .ret)
theorem a8y : cmp Tryz.prog Tryz.f299 = some a4I := by kernel_rfl
theorem b8S (l : List GAtom) (p : GProgram) : A0n Tryz.prog 299 [(false, [.sl false [.s [], .sl false [.s [], .i .i64 0, .s []] []] (l.map (GAtom.cells false false))]), (false, [.f 300 [.p [.sl false [.i .i64 0, .s [], .i .i64 0] (p.Decls.map GDecl.cells), .sl false [.i .i64 0, .s [], .sl false [.s [], .i .i64 0, .s []] [], .sl false [.i .i64 0, .s [], .sl false [.s [], .i .i64 0, .s []] [], .i .i64 0, .s [], .i .i64 0, .s [], .s [], .i .i64 0, .s []] []] (p.Rules.map (GRule.cells false false))]]])] [] (.one (false, [.b (l.any (fun y => a1K p y))])) := by
 refine spec_of2 false false none Tryz.func299 a8y (rvs := [.t 4]) (hΓ := mkCtx_ok (deep := false) (l := [(341, [], a6O)]) ⟨b3O, trivial⟩) (h := ?_)
 intro hb hE
 simp only [go_sem] at hb
 simp only [a4I, x']
 (try refine A2X ?_); simp only [go_sem]; (repeat' first | apply CJ.mk | intro hc); all_goals try ((repeat' first | apply And.intro | intro hs) <;> (try simp only [go_sem, Bool.and_eq_false_iff] at hs) <;> omega)
 · exact w5 _ _
noncomputable def a6K : CT := d7 (fun (x : (List GAtom) × GProgram) => b8S x.1 x.2)
@[go_sem] theorem b3F (l : List GAtom) (p_Decls : List GDecl) (p_Rules : List GRule) : a6K [(false, [.sl false [.s [], .sl false [.s [], .i .i64 0, .s []] []] (l.map (GAtom.cells false false))]), (false, [.f 300 [.p [.sl false [.i .i64 0, .s [], .i .i64 0] (p_Decls.map GDecl.cells), .sl false [.i .i64 0, .s [], .sl false [.s [], .i .i64 0, .s []] [], .sl false [.i .i64 0, .s [], .sl false [.s [], .i .i64 0, .s []] [], .i .i64 0, .s [], .i .i64 0, .s [], .s [], .i .i64 0, .s []] []] (p_Rules.map (GRule.cells false false))]]])] = some (True, [], .one (false, [.b (l.any (fun y => a1K (GProgram.mk p_Decls p_Rules) y))])) := c4 _ (by rintro ⟨_, ⟨_, _⟩⟩ ⟨_, ⟨_, _⟩⟩ h; simp at h; simp_all) (l, (GProgram.mk p_Decls p_Rules))
theorem b3G : OkC Tryz.prog 299 a6K := c5 _
theorem b8X (l : List GAtom) (p : GProgram) : A0n Tryz.prog 341 [(false, [.sl false [.s [], .sl false [.s [], .i .i64 0, .s []] []] (l.map (GAtom.cells false false))]), (false, [.f 301 [.p [.sl false [.i .i64 0, .s [], .i .i64 0] (p.Decls.map GDecl.cells), .sl false [.i .i64 0, .s [], .sl false [.s [], .i .i64 0, .s []] [], .sl false [.i .i64 0, .s [], .sl false [.s [], .i .i64 0, .s []] [], .i .i64 0, .s [], .i .i64 0, .s [], .s [], .i .i64 0, .s []] []] (p.Rules.map (GRule.cells false false))]]])] [] (.one (false, [.i .i64 (w4 (fun y => a1L p y) l)])) := by
 refine spec_of2 false false none Tryz.func341 a8z (rvs := [.t 4]) (hΓ := mkCtx_ok (deep := false) (l := [(301, [], a0i)]) ⟨a6X, trivial⟩) (h := ?_)
 intro hb hE
 simp only [go_sem] at hb
 simp only [a4J, x']
 (try refine A2X ?_); simp only [go_sem]; (repeat' first | apply CJ.mk | intro hc); all_goals try ((repeat' first | apply And.intro | intro hs) <;> (try simp only [go_sem, Bool.and_eq_false_iff] at hs) <;> omega)
 refine aw_loop2 false [] [0, 1, 7] [] [] (fun i : {i : Nat // i ≤ l.length ∧ (l.take i).any (fun y => a1L p y) = false} => [(8, slV (.i .i64 i.1))]) (fun i => []) (fun i => []) (fun i => l.length - i.1) (⟨0, by simp⟩) _ rfl ?_ ?_
 · simp only [go_sem]
  all_goals first | omega | ((repeat' apply And.intro) <;> first | omega | rfl | skip)
 intro S0 hS0 i
 simp only [go_sem] at hS0
 obtain ⟨i, hi, ha⟩ := i
 (try refine A2X ?_); simp only [go_sem, hS0]; (repeat' first | apply CJ.mk | intro hc); all_goals try ((repeat' first | apply And.intro | intro hs) <;> (try simp only [go_sem, Bool.and_eq_false_iff] at hs) <;> omega)
 · exact (l8 (p := fun y => a1L p y) (d := default) (by omega) ha (by simpa [-List.getD_eq_getElem?_getD] using hc)).symm
 · (refine lpK_n2 (⟨i + 1, by omega, i8 (p := fun y => a1L p y) default (by omega) ha (by simpa [-List.getD_eq_getElem?_getD] using hc)⟩) _ rfl ?_; simp only [go_sem, hS0]; first | done | ((repeat' apply And.intro) <;> first | omega | (refine w64 ?_ ?_ ?_ <;> omega) | rfl | skip))
 · exact (l7 (by rwa [c6 (by omega)] at ha)).symm
 all_goals trace_state
noncomputable def a6P : CT := d7 (fun (x : (List GAtom) × GProgram) => b8X x.1 x.2)
@[go_sem] theorem c4F (l : List GAtom) (p_Decls : List GDecl) (p_Rules : List GRule) : a6P [(false, [.sl false [.s [], .sl false [.s [], .i .i64 0, .s []] []] (l.map (GAtom.cells false false))]), (false, [.f 301 [.p [.sl false [.i .i64 0, .s [], .i .i64 0] (p_Decls.map GDecl.cells), .sl false [.i .i64 0, .s [], .sl false [.s [], .i .i64 0, .s []] [], .sl false [.i .i64 0, .s [], .sl false [.s [], .i .i64 0, .s []] [], .i .i64 0, .s [], .i .i64 0, .s [], .s [], .i .i64 0, .s []] []] (p_Rules.map (GRule.cells false false))]]])] = some (True, [], .one (false, [.i .i64 (w4 (fun y => a1L (GProgram.mk p_Decls p_Rules) y) l)])) := c4 _ (by rintro ⟨_, ⟨_, _⟩⟩ ⟨_, ⟨_, _⟩⟩ h; simp at h; simp_all) (l, (GProgram.mk p_Decls p_Rules))
theorem b3P : OkC Tryz.prog 341 a6P := c5 _
theorem b8T (l : List GAtom) (p : GProgram) : A0n Tryz.prog 299 [(false, [.sl false [.s [], .sl false [.s [], .i .i64 0, .s []] []] (l.map (GAtom.cells false false))]), (false, [.f 301 [.p [.sl false [.i .i64 0, .s [], .i .i64 0] (p.Decls.map GDecl.cells), .sl false [.i .i64 0, .s [], .sl false [.s [], .i .i64 0, .s []] [], .sl false [.i .i64 0, .s [], .sl false [.s [], .i .i64 0, .s []] [], .i .i64 0, .s [], .i .i64 0, .s [], .s [], .i .i64 0, .s []] []] (p.Rules.map (GRule.cells false false))]]])] [] (.one (false, [.b (l.any (fun y => a1L p y))])) := by
 refine spec_of2 false false none Tryz.func299 a8y (rvs := [.t 4]) (hΓ := mkCtx_ok (deep := false) (l := [(341, [], a6P)]) ⟨b3P, trivial⟩) (h := ?_)
 intro hb hE
 simp only [go_sem] at hb
 simp only [a4I, x']
 (try refine A2X ?_); simp only [go_sem]; (repeat' first | apply CJ.mk | intro hc); all_goals try ((repeat' first | apply And.intro | intro hs) <;> (try simp only [go_sem, Bool.and_eq_false_iff] at hs) <;> omega)
 · exact w5 _ _
noncomputable def a6L : CT := d7 (fun (x : (List GAtom) × GProgram) => b8T x.1 x.2)
@[go_sem] theorem b3H (l : List GAtom) (p_Decls : List GDecl) (p_Rules : List GRule) : a6L [(false, [.sl false [.s [], .sl false [.s [], .i .i64 0, .s []] []] (l.map (GAtom.cells false false))]), (false, [.f 301 [.p [.sl false [.i .i64 0, .s [], .i .i64 0] (p_Decls.map GDecl.cells), .sl false [.i .i64 0, .s [], .sl false [.s [], .i .i64 0, .s []] [], .sl false [.i .i64 0, .s [], .sl false [.s [], .i .i64 0, .s []] [], .i .i64 0, .s [], .i .i64 0, .s [], .s [], .i .i64 0, .s []] []] (p_Rules.map (GRule.cells false false))]]])] = some (True, [], .one (false, [.b (l.any (fun y => a1L (GProgram.mk p_Decls p_Rules) y))])) := c4 _ (by rintro ⟨_, ⟨_, _⟩⟩ ⟨_, ⟨_, _⟩⟩ h; simp at h; simp_all) (l, (GProgram.mk p_Decls p_Rules))
theorem b3I : OkC Tryz.prog 299 a6L := c5 _
theorem b8Y (l : List GAtom) : A0n Tryz.prog 341 [(false, [.sl false [.s [], .sl false [.s [], .i .i64 0, .s []] []] (l.map (GAtom.cells false false))]), (false, [.f 302 []])] [] (.one (false, [.i .i64 (w4 (fun y => a8H y) l)])) := by
 refine spec_of2 false false none Tryz.func341 a8z (rvs := [.t 4]) (hΓ := mkCtx_ok (deep := false) (l := [(302, [], a0j)]) ⟨a6Y, trivial⟩) (h := ?_)
 intro hb hE
 simp only [go_sem] at hb
 simp only [a4J, x']
 (try refine A2X ?_); simp only [go_sem]; (repeat' first | apply CJ.mk | intro hc); all_goals try ((repeat' first | apply And.intro | intro hs) <;> (try simp only [go_sem, Bool.and_eq_false_iff] at hs) <;> omega)
 refine aw_loop2 false [] [0, 1, 7] [] [] (fun i : {i : Nat // i ≤ l.length ∧ (l.take i).any (fun y => a8H y) = false} => [(8, slV (.i .i64 i.1))]) (fun i => []) (fun i => []) (fun i => l.length - i.1) (⟨0, by simp⟩) _ rfl ?_ ?_
 · simp only [go_sem]
  all_goals first | omega | ((repeat' apply And.intro) <;> first | omega | rfl | skip)
 intro S0 hS0 i
 simp only [go_sem] at hS0
 obtain ⟨i, hi, ha⟩ := i
 (try refine A2X ?_); simp only [go_sem, hS0]; (repeat' first | apply CJ.mk | intro hc); all_goals try ((repeat' first | apply And.intro | intro hs) <;> (try simp only [go_sem, Bool.and_eq_false_iff] at hs) <;> omega)
 · exact (l8 (p := fun y => a8H y) (d := default) (by omega) ha (by simpa [-List.getD_eq_getElem?_getD] using hc)).symm
 · (refine lpK_n2 (⟨i + 1, by omega, i8 (p := fun y => a8H y) default (by omega) ha (by simpa [-List.getD_eq_getElem?_getD] using hc)⟩) _ rfl ?_; simp only [go_sem, hS0]; first | done | ((repeat' apply And.intro) <;> first | omega | (refine w64 ?_ ?_ ?_ <;> omega) | rfl | skip))
 · exact (l7 (by rwa [c6 (by omega)] at ha)).symm
 all_goals trace_state
noncomputable def a6Q : CT := d7 (fun (x : (List GAtom)) => b8Y x)
@[go_sem] theorem c4G (l : List GAtom) : a6Q [(false, [.sl false [.s [], .sl false [.s [], .i .i64 0, .s []] []] (l.map (GAtom.cells false false))]), (false, [.f 302 []])] = some (True, [], .one (false, [.i .i64 (w4 (fun y => a8H y) l)])) := c4 _ (by intro x y h; simp at h; simp_all) l
theorem b3Q : OkC Tryz.prog 341 a6Q := c5 _
theorem b8U (l : List GAtom) : A0n Tryz.prog 299 [(false, [.sl false [.s [], .sl false [.s [], .i .i64 0, .s []] []] (l.map (GAtom.cells false false))]), (false, [.f 302 []])] [] (.one (false, [.b (l.any (fun y => a8H y))])) := by
 refine spec_of2 false false none Tryz.func299 a8y (rvs := [.t 4]) (hΓ := mkCtx_ok (deep := false) (l := [(341, [], a6Q)]) ⟨b3Q, trivial⟩) (h := ?_)
 intro hb hE
 simp only [go_sem] at hb
 simp only [a4I, x']
 (try refine A2X ?_); simp only [go_sem]; (repeat' first | apply CJ.mk | intro hc); all_goals try ((repeat' first | apply And.intro | intro hs) <;> (try simp only [go_sem, Bool.and_eq_false_iff] at hs) <;> omega)
 · exact w5 _ _
noncomputable def a6M : CT := d7 (fun (x : (List GAtom)) => b8U x)
@[go_sem] theorem b3J (l : List GAtom) : a6M [(false, [.sl false [.s [], .sl false [.s [], .i .i64 0, .s []] []] (l.map (GAtom.cells false false))]), (false, [.f 302 []])] = some (True, [], .one (false, [.b (l.any (fun y => a8H y))])) := c4 _ (by intro x y h; simp at h; simp_all) l
theorem b3K : OkC Tryz.prog 299 a6M := c5 _
noncomputable def m8 : CT := (ctO a6K (ctO a6L a6M))
@[go_sem] theorem b7Y (l : List GAtom) (p_Decls : List GDecl) (p_Rules : List GRule) : m8 [(false, [.sl false [.s [], .sl false [.s [], .i .i64 0, .s []] []] (l.map (GAtom.cells false false))]), (false, [.f 300 [.p [.sl false [.i .i64 0, .s [], .i .i64 0] (p_Decls.map GDecl.cells), .sl false [.i .i64 0, .s [], .sl false [.s [], .i .i64 0, .s []] [], .sl false [.i .i64 0, .s [], .sl false [.s [], .i .i64 0, .s []] [], .i .i64 0, .s [], .i .i64 0, .s [], .s [], .i .i64 0, .s []] []] (p_Rules.map (GRule.cells false false))]]])] = some (True, [], .one (false, [.b (l.any (fun y => a1K (GProgram.mk p_Decls p_Rules) y))])) := b8D (b3F l p_Decls p_Rules)
@[go_sem] theorem b7Z (l : List GAtom) (p_Decls : List GDecl) (p_Rules : List GRule) : m8 [(false, [.sl false [.s [], .sl false [.s [], .i .i64 0, .s []] []] (l.map (GAtom.cells false false))]), (false, [.f 301 [.p [.sl false [.i .i64 0, .s [], .i .i64 0] (p_Decls.map GDecl.cells), .sl false [.i .i64 0, .s [], .sl false [.s [], .i .i64 0, .s []] [], .sl false [.i .i64 0, .s [], .sl false [.s [], .i .i64 0, .s []] [], .i .i64 0, .s [], .i .i64 0, .s [], .s [], .i .i64 0, .s []] []] (p_Rules.map (GRule.cells false false))]]])] = some (True, [], .one (false, [.b (l.any (fun y => a1L (GProgram.mk p_Decls p_Rules) y))])) := (b3W (b1a (fun x h => by simp only [List.cons.injEq, Prod.mk.injEq, C.i.injEq, C.s.injEq, C.b.injEq, C.sl.injEq, C.p.injEq, C.mp.injEq, C.f.injEq, reduceCtorEq, Bool.false_eq_true, Nat.reduceEqDiff, Bool.true_eq_false, true_and, and_true, false_and, and_false] at h))).trans (b8D (b3H l p_Decls p_Rules))
@[go_sem] theorem b8a (l : List GAtom) : m8 [(false, [.sl false [.s [], .sl false [.s [], .i .i64 0, .s []] []] (l.map (GAtom.cells false false))]), (false, [.f 302 []])] = some (True, [], .one (false, [.b (l.any (fun y => a8H y))])) := (b3W (b1a (fun x h => by simp only [List.cons.injEq, Prod.mk.injEq, C.i.injEq, C.s.injEq, C.b.injEq, C.sl.injEq, C.p.injEq, C.mp.injEq, C.f.injEq, reduceCtorEq, Bool.false_eq_true, Nat.reduceEqDiff, Bool.true_eq_false, true_and, and_true, false_and, and_false] at h))).trans ((b3W (b1a (fun x h => by simp only [List.cons.injEq, Prod.mk.injEq, C.i.injEq, C.s.injEq, C.b.injEq, C.sl.injEq, C.p.injEq, C.mp.injEq, C.f.injEq, reduceCtorEq, Bool.false_eq_true, Nat.reduceEqDiff, Bool.true_eq_false, true_and, and_true, false_and, and_false] at h))).trans (b3J l))
theorem a5U : OkC Tryz.prog 299 m8 := (c4N b3G (c4N b3I b3K))
def a3W : ACode := q' ([o' 2 (.box 2 (.t 0)), o' 3 (.box 4 (.t 1)), z' 4 0]) (q' ([e' 8 4 3, c' 9 168 [8], m' 5 9]) (.seq (q' ([m' 10 5, o' 11 (.mf 300 [.t 2]), c' 12 299 [10,
 11]]) (.cond (.t 12) (q' ([z' 4 3]) .ret) .skip)) (.seq (q' ([m' 13 5, o' 14 (.mf 301 [.t 2]), c' 15 299 [13, 14]]) (.cond (.t 15) (q' ([z' 4 4]) .ret)
 .skip)) (q' ([e' 16 2 2, f' 17 1 3, f' 18 0 17, l' 19 18, c' 20 82 [16, 19], m' 6 20]) (q' ([m' 21 6, o' 22 (.bin .eql (.t 21) (k' 3)), m' 23 22, ⟨some 24,
 .fa 1 (.t 3), some (23, false)⟩, ⟨some 25, .fa 0 (.t 24), some (23, false)⟩, ⟨some 26, .ld false 1 (.t 25), some (23, false)⟩, ⟨some 27, .bin .eql (.t 26) (.k
 (.v false [.c (.s [102, 111, 114, 119, 97, 114, 100])])), some (23, false)⟩, o' 28 (.pick (.t 23) (.k (.v false [.c (.b true)])) (.t 27)), m' 7 28]) (.seq
 (.block 0 (q' ([f' 30 0 3, l' 31 30, o' 32 (.bin .eql (.t 31) (k' 1)), m' 33 32, ⟨some 34, .mov (.t 7), some (33, true)⟩, ⟨some 35, .not (.t 34), some (33,
 true)⟩, o' 36 (.pick (.t 33) (.t 35) (.k (.v false [.c (.b false)]))), m' 37 36, ⟨some 38, .fa 0 (.t 3), some (37, false)⟩, ⟨some 39, .ld false 1 (.t 38),
 some (37, false)⟩, ⟨some 40, .bin .neq (.t 39) (k' 1), some (37, false)⟩, ⟨some 41, .mov (.t 40), some (37, false)⟩, ⟨some 42, .mov (.t 6), some (41, true)⟩,
 ⟨some 43, .bin .neq (.t 42) (k' 1), some (41, true)⟩, ⟨some 44, .pick (.t 41) (.t 43) (.k (.v false [.c (.b false)])), some (37, false)⟩, o' 45 (.pick (.t 37)
 (.k (.v false [.c (.b true)])) (.t 44)), m' 29 45]) (.cond (.t 29) (q' ([z' 4 5]) .ret) (q' ([m' 47 5, o' 48 (.slc 2 (.t 47) (some (k' 1)) none none), o' 49
 (.call 299 [.t 48, .k (.v false [.c (.f 302 [])])]), m' 46 49]) (.cond (.t 46) (q' ([z' 4 6]) .ret) (q' ([e' 51 2 2, e' 52 4 3, c' 53 303 [51, 52], o' 54
 (.not (.t 53)), m' 50 54]) (.cond (.t 50) (q' ([z' 4 7]) .ret) .skip))))))) (q' ([z' 4 0]) .ret)))))))
theorem b1h : cmp Tryz.prog Tryz.f220 = some a3W := by kernel_rfl
theorem b3d (p : GProgram) (r : GRule) (hpre : r.Body.length ≤ 8) : A0n Tryz.prog 220 [(true, [.sl false [.i .i64 0, .s [], .i .i64 0] (p.Decls.map GDecl.cells), .sl false [.i .i64 0, .s [], .sl false [.s [], .i .i64 0, .s []] [], .sl false [.i .i64 0, .s [], .sl false [.s [], .i .i64 0, .s []] [], .i .i64 0, .s [], .i .i64 0, .s [], .s [], .i .i64 0, .s []] []] (p.Rules.map (GRule.cells false false))]), (true, [.i .i64 r.Kind, .s r.Head.Name, .sl false [.s [], .i .i64 0, .s []] (r.Head.Args.map GTerm.cells), .sl false [.i .i64 0, .s [], .sl false [.s [], .i .i64 0, .s []] [], .i .i64 0, .s [], .i .i64 0, .s [], .s [], .i .i64 0, .s []] (r.Body.map (GLit.cells false false))])] [] (.one (false, [.i .i64 (j2 p r)])) := by
 refine spec_of2 false false none Tryz.func220 b1h (rvs := [.t 4]) (hΓ := mkCtx_ok (deep := false) (l := [(168, [], a0d), (299, [], m8), (82, [], s9), (303, [], y7)]) ⟨a3p, a5U, u4, a5T, trivial⟩) (h := ?_)
 intro hb hE
 simp only [go_sem] at hb
 simp only [a3W, x']
 (try refine A2X ?_); simp only [go_sem]; (repeat' first | apply CJ.mk | intro hc); all_goals try ((repeat' first | apply And.intro | intro hs) <;> (try simp only [go_sem, Bool.and_eq_false_iff] at hs) <;> omega)
 all_goals (try simp only [c9] at *)
 all_goals (clear hb)
 all_goals (first | (have := a3m r; omega) | grind [j2, a3w, fwB] | trace_state)
noncomputable def a1s : CT := l9 (fun (x : GProgram × GRule) h => b3d x.1 x.2 h)
@[go_sem] theorem c0w (p_Decls : List GDecl) (p_Rules : List GRule) (r_Kind : Int) (r_Head_Name : List UInt8) (r_Head_Args : List GTerm) (r_Body : List GLit) : a1s [(true, [.sl false [.i .i64 0, .s [], .i .i64 0] (p_Decls.map GDecl.cells), .sl false [.i .i64 0, .s [], .sl false [.s [], .i .i64 0, .s []] [], .sl false [.i .i64 0, .s [], .sl false [.s [], .i .i64 0, .s []] [], .i .i64 0, .s [], .i .i64 0, .s [], .s [], .i .i64 0, .s []] []] (p_Rules.map (GRule.cells false false))]), (true, [.i .i64 r_Kind, .s r_Head_Name, .sl false [.s [], .i .i64 0, .s []] (r_Head_Args.map GTerm.cells), .sl false [.i .i64 0, .s [], .sl false [.s [], .i .i64 0, .s []] [], .i .i64 0, .s [], .i .i64 0, .s [], .s [], .i .i64 0, .s []] (r_Body.map (GLit.cells false false))])] = some ((GRule.mk r_Kind (GAtom.mk r_Head_Name r_Head_Args) r_Body).Body.length ≤ 8, [], .one (false, [.i .i64 (j2 (GProgram.mk p_Decls p_Rules) (GRule.mk r_Kind (GAtom.mk r_Head_Name r_Head_Args) r_Body))])) := d5 _ (by rintro ⟨⟨_, _⟩, ⟨_, ⟨_, _⟩, _⟩⟩ ⟨⟨_, _⟩, ⟨_, ⟨_, _⟩, _⟩⟩ h; simp at h; simp_all) ((GProgram.mk p_Decls p_Rules), (GRule.mk r_Kind (GAtom.mk r_Head_Name r_Head_Args) r_Body))
theorem a8q : OkC Tryz.prog 220 a1s := d6 _
theorem a9b {α : Type} {q : α → Bool} {l : List α} {i : Nat} (d : α) (h : i < l.length) (hp : q (l.getD i d) = true) : l.any q = true := by
 rw [List.any_eq_true]
 exact ⟨l.getD i d, by rw [j5 d h]; exact List.getElem_mem h, hp⟩
theorem c2C {α : Type} {q : α → Bool} {l : List α} {i k : Nat} (d : α) (hk : k ≤ i) (h : i < l.length) (ha : ((l.take i).drop k).any q = false) (hp : q (l.getD i d) = false) : ((l.take (i + 1)).drop k).any q = false := by
 rw [d3 d h, List.drop_append_of_le_length (by rw [List.length_take]; omega), List.any_append, ha]
 simp only [List.any_cons, List.any_nil, hp, Bool.or_false]
theorem c4u {α : Type} {q : α → Bool} {l : List α} {i k : Nat} (d : α) (hk : k ≤ i) (h : i < l.length) (hp : q (l.getD i d) = true) : (l.drop k).any q = true := by
 rw [List.any_eq_true]
 refine ⟨l.getD i d, ?_, hp⟩
 rw [j5 d h, List.mem_drop_iff_getElem]
 exact ⟨i - k, by omega, by congr 1; omega⟩
def a5M : ACode := q' ([o' 2 (.box 2 (.t 0)), o' 3 (.box 4 (.t 1)), z' 4 0]) (q' ([e' 15 4 3, c' 16 214 [15], m' 5 16]) (.seq (q' ([m' 17 5, n' 18 17, z' 19 0]) (.block 0 (.loop
 (q' ([r' 20 19 18]) (.seq (.cond (.t 20) .skip (.exit 0)) (.seq (.block 1 (q' ([i' 21 2 17 19, e' 22 2 21, w' 7 [.s, .sl [.s [], .i .i64 0, .s []]], s' 2 7
 22]) (q' ([e' 23 2 2, f' 24 0 7, l' 25 24, c' 26 215 [23, 25], o' 27 (.bin .lss (.t 26) (k' 0))]) (.cond (.t 27) (q' ([z' 4 3]) .ret) .skip)))) (g' [a' 28 19,
 m' 19 28]))))))) (.seq (q' ([m' 29 5, n' 30 29, z' 31 0]) (.block 2 (.loop (q' ([r' 32 31 30]) (.seq (.cond (.t 32) .skip (.exit 2)) (.seq (.block 3 (q' ([i'
 33 2 29 31, e' 34 2 33, w' 9 [.s, .sl [.s [], .i .i64 0, .s []]], s' 2 9 34]) (.seq (.reg true [e' 35 2 2, f' 36 0 9, l' 37 36, c' 38 215 [35, 37], f' 39 1 9,
 l' 40 39, n' 41 40, o' 42 (.bin .neq (.t 38) (.t 41))]) (.cond (.t 42) (q' ([z' 4 4]) .ret) .skip)))) (g' [a' 43 31, m' 31 43]))))))) (q' ([e' 44 2 2, f' 45 1
 3, f' 46 0 45, l' 47 46, c' 48 160 [44, 47], o' 49 (.fl false 0 1 (.t 48)), m' 10 49]) (.seq (q' ([f' 50 0 3, l' 51 50, o' 52 (.bin .eql (.t 51) (k' 1)), m'
 53 52, ⟨some 54, .mov (.t 10), some (53, true)⟩, ⟨some 55, .bin .neq (.t 54) (k' 3), some (53, true)⟩, o' 56 (.pick (.t 53) (.t 55) (.k (.v false [.c (.b
 false)]))), m' 57 56, ⟨some 58, .fa 1 (.t 3), some (57, true)⟩, ⟨some 59, .fa 0 (.t 58), some (57, true)⟩, ⟨some 60, .ld false 1 (.t 59), some (57, true)⟩,
 ⟨some 61, .bin .neq (.t 60) (.k (.v false [.c (.s [102, 111, 114, 119, 97, 114, 100])])), some (57, true)⟩, o' 62 (.pick (.t 57) (.t 61) (.k (.v false [.c (.b
 false)]))), m' 63 62, ⟨some 64, .fa 0 (.t 3), some (63, false)⟩, ⟨some 65, .ld false 1 (.t 64), some (63, false)⟩, ⟨some 66, .bin .neq (.t 65) (k' 1), some
 (63, false)⟩, ⟨some 67, .mov (.t 66), some (63, false)⟩, ⟨some 68, .mov (.t 10), some (67, true)⟩, ⟨some 69, .bin .neq (.t 68) (k' 1), some (67, true)⟩, ⟨some
 70, .pick (.t 67) (.t 69) (.k (.v false [.c (.b false)])), some (63, false)⟩, o' 71 (.pick (.t 63) (.k (.v false [.c (.b true)])) (.t 70))]) (.cond (.t 71)
 (q' ([z' 4 5]) .ret) .skip)) (.seq (q' ([m' 72 5, o' 73 (.slc 2 (.t 72) (some (k' 1)) none none), n' 74 73, z' 75 0]) (.block 4 (.loop (q' ([r' 76 75 74])
 (.seq (.cond (.t 76) .skip (.exit 4)) (.seq (.block 5 (q' ([i' 77 2 73 75, e' 78 2 77, w' 12 [.s, .sl [.s [], .i .i64 0, .s []]], s' 2 12 78]) (q' ([f' 79 0
 12, l' 80 79, o' 81 (.bin .eql (.t 80) (.k (.v false [.c (.s [102, 111, 114, 119, 97, 114, 100])])))]) (.cond (.t 81) (q' ([z' 4 6]) .ret) .skip)))) (g' [a'
 82 75, m' 75 82]))))))) (q' ([z' 13 0]) (.seq (q' ([f' 83 0 3, l' 84 83, o' 85 (.bin .neq (.t 84) (k' 1)), m' 86 85, ⟨some 87, .fa 1 (.t 3), some (86,
 false)⟩, ⟨some 88, .fa 0 (.t 87), some (86, false)⟩, ⟨some 89, .ld false 1 (.t 88), some (86, false)⟩, ⟨some 90, .bin .eql (.t 89) (.k (.v false [.c (.s [102,
 111, 114, 119, 97, 114, 100])])), some (86, false)⟩, o' 91 (.pick (.t 86) (.k (.v false [.c (.b true)])) (.t 90))]) (.cond (.t 91) (.seq (.seq (.reg true [f'
 92 3 3, l' 93 92, n' 94 93, o' 95 (.bin .eql (.t 94) (k' 0)), m' 96 95, ⟨some 97, .fa 3 (.t 3), some (96, false)⟩, ⟨some 98, .ld false 1 (.t 97), some (96,
 false)⟩, ⟨some 99, .ia 10 (.t 98) (k' 0), some (96, false)⟩, ⟨some 100, .fa 0 (.t 99), some (96, false)⟩, ⟨some 101, .ld false 1 (.t 100), some (96, false)⟩,
 ⟨some 102, .bin .neq (.t 101) (k' 1), some (96, false)⟩, o' 103 (.pick (.t 96) (.k (.v false [.c (.b true)])) (.t 102)), m' 104 103, ⟨some 105, .ld true 2 (.t
 2), some (104, false)⟩, ⟨some 106, .fa 3 (.t 3), some (104, false)⟩, ⟨some 107, .ld false 1 (.t 106), some (104, false)⟩, ⟨some 108, .ia 10 (.t 107) (k' 0),
 some (104, false)⟩, ⟨some 109, .fa 1 (.t 108), some (104, false)⟩, ⟨some 110, .fa 0 (.t 109), some (104, false)⟩, ⟨some 111, .ld false 1 (.t 110), some (104,
 false)⟩, ⟨some 112, .call 216 [.t 105, .t 111], some (104, false)⟩, ⟨some 113, .not (.t 112), some (104, false)⟩, o' 114 (.pick (.t 104) (.k (.v false [.c (.b
 true)])) (.t 113))]) (.cond (.t 114) (q' ([z' 4 7]) .ret) .skip)) (.seq (q' ([f' 115 0 3, l' 116 115, o' 117 (.bin .eql (.t 116) (k' 1)), m' 118 117, ⟨some
 119, .fa 3 (.t 3), some (118, true)⟩, ⟨some 120, .ld false 1 (.t 119), some (118, true)⟩, ⟨some 121, .ia 10 (.t 120) (k' 0), some (118, true)⟩, ⟨some 122, .fa
 1 (.t 121), some (118, true)⟩, ⟨some 123, .fa 0 (.t 122), some (118, true)⟩, ⟨some 124, .ld false 1 (.t 123), some (118, true)⟩, ⟨some 125, .bin .neq (.t 124)
 (.k (.v false [.c (.s [112, 97, 99, 107, 101, 116])])), some (118, true)⟩, o' 126 (.pick (.t 118) (.t 125) (.k (.v false [.c (.b false)])))]) (.cond (.t 126)
 (q' ([z' 4 7]) .ret) .skip)) (g' [z' 13 1]))) .skip)) (.seq (q' ([m' 127 13, m' 14 127]) (.block 6 (.loop (.seq (q' ([m' 128 14, f' 129 3 3, l' 130 129, n'
 131 130, r' 132 128 131]) (.cond (.t 132) .skip (.exit 6))) (.seq (.block 7 (.seq (.reg true [f' 135 3 3, l' 136 135, m' 137 14, i' 138 10 136 137, f' 139 0
 138, l' 140 139, o' 141 (.bin .neq (.t 140) (k' 3)), m' 142 141, ⟨some 143, .ld true 2 (.t 2), some (142, true)⟩, ⟨some 144, .fa 3 (.t 3), some (142, true)⟩,
 ⟨some 145, .ld false 1 (.t 144), some (142, true)⟩, ⟨some 146, .mov (.t 14), some (142, true)⟩, ⟨some 147, .ia 10 (.t 145) (.t 146), some (142, true)⟩, ⟨some
 148, .fa 1 (.t 147), some (142, true)⟩, ⟨some 149, .fa 0 (.t 148), some (142, true)⟩, ⟨some 150, .ld false 1 (.t 149), some (142, true)⟩, ⟨some 151, .call 216
 [.t 143, .t 150], some (142, true)⟩, o' 152 (.pick (.t 142) (.t 151) (.k (.v false [.c (.b false)])))]) (.cond (.t 152) (q' ([z' 4 7]) .ret) .skip))) (g' [m'
 133 14, a' 134 133, m' 14 134])))))) (q' ([z' 4 0]) .ret))))))))))
theorem b2W : cmp Tryz.prog Tryz.f135 = some a5M := by kernel_rfl
theorem b5j (p : GProgram) (r : GRule) (hpre : r.Body.length ≤ 8 ∧ g8 p = true) : A0n Tryz.prog 135 [(true, [.sl false [.i .i64 0, .s [], .i .i64 0] (p.Decls.map GDecl.cells), .sl false [.i .i64 0, .s [], .sl false [.s [], .i .i64 0, .s []] [], .sl false [.i .i64 0, .s [], .sl false [.s [], .i .i64 0, .s []] [], .i .i64 0, .s [], .i .i64 0, .s [], .s [], .i .i64 0, .s []] []] (p.Rules.map (GRule.cells false false))]), (true, [.i .i64 r.Kind, .s r.Head.Name, .sl false [.s [], .i .i64 0, .s []] (r.Head.Args.map GTerm.cells), .sl false [.i .i64 0, .s [], .sl false [.s [], .i .i64 0, .s []] [], .i .i64 0, .s [], .i .i64 0, .s [], .s [], .i .i64 0, .s []] (r.Body.map (GLit.cells false false))])] [] (.one (false, [.i .i64 (j2 p r)])) := by
 refine spec_of2 false false none Tryz.func135 b2W (rvs := [.t 4]) (hΓ := mkCtx_ok (deep := false) (l := [(214, [], w9), (215, [], a1x), (160, [], p8), (216, [], a0L)]) ⟨a2G, a8w, t7, a7K, trivial⟩) (h := ?_)
 intro hb hE
 simp only [go_sem] at hb
 simp only [a5M, x']
 obtain ⟨hp8, hpB⟩ := hpre
 have hA := a4L r
 have hA1 := a3m r
 (try refine A2X ?_); simp only [go_sem, c9]; (repeat' first | apply CJ.mk | intro hc); all_goals try ((repeat' first | apply And.intro | intro hs) <;> (try simp only [go_sem, Bool.and_eq_false_iff] at hs) <;> omega)
 refine aw_loop2 false [] [2, 3, 5, 17, 18] [4, 6] [2048] (fun i : {i : Nat // i ≤ (d4 r).length ∧ ((d4 r).take i).any (a1K p) = false} => [(19, slV (.i .i64 i.1))]) (fun i => []) (fun i => []) (fun i => (d4 r).length - i.1) (⟨0, by simp⟩) _ rfl ?_ ?_
 · simp only [go_sem, c9]
  all_goals first | omega | ((repeat' apply And.intro) <;> first | omega | rfl | skip)
 intro S0 hS0 i
 simp only [go_sem, c9] at hS0
 obtain ⟨i, hi, ha⟩ := i
 (try refine A2X ?_); simp only [go_sem, c9, hS0]; (repeat' first | apply CJ.mk | intro hc); all_goals try ((repeat' first | apply And.intro | intro hs) <;> (try simp only [go_sem, Bool.and_eq_false_iff] at hs) <;> omega)
 · rw [j2, a9b (q := a1K p) default (by omega) (decide_eq_true hc)]; rfl
 · (refine lpK_n2 (⟨i + 1, by omega, i8 (p := a1K p) default (by omega) ha (decide_eq_false hc)⟩) _ rfl ?_; simp only [go_sem, c9, hS0]; first | done | ((repeat' apply And.intro) <;> first | omega | (refine w64 ?_ ?_ ?_ <;> omega) | rfl | skip))
 rw [c6 (by omega)] at ha
 clear hc hi
 refine aw_loop2 false [] [2, 3, 5, 29, 30] [4, 6] [2048] (fun i : {i : Nat // i ≤ (d4 r).length ∧ ((d4 r).take i).any (a1L p) = false} => [(31, slV (.i .i64 i.1))]) (fun i => []) (fun i => []) (fun i => (d4 r).length - i.1) (⟨0, by simp⟩) _ rfl ?_ ?_
 · simp only [go_sem, c9, hS0]
  all_goals first | omega | ((repeat' apply And.intro) <;> first | omega | rfl | skip)
 intro S1 hS1 i
 simp only [go_sem, c9, hS0] at hS1
 obtain ⟨i, hi, hb1⟩ := i
 (try refine A2X ?_); simp only [go_sem, c9, hS0, hS1]; (repeat' first | apply CJ.mk | intro hc); all_goals try ((repeat' first | apply And.intro | intro hs) <;> (try simp only [go_sem, Bool.and_eq_false_iff] at hs) <;> omega)
 · rw [j2, ha, a9b (q := a1L p) default (by omega) hc]; rfl
 · (refine lpK_n2 (⟨i + 1, by omega, i8 (p := a1L p) default (by omega) hb1 hc⟩) _ rfl ?_; simp only [go_sem, c9, hS0, hS1]; first | done | ((repeat' apply And.intro) <;> first | omega | (refine w64 ?_ ?_ ?_ <;> omega) | rfl | skip))
 · rw [c6 (by omega)] at hb1
  clear hb hS0 hS1
  grind [j2, a3w, p9, fwB]
 rw [c6 (by omega)] at hb1
 have hk : a3w p r = false := by
  clear hb hS0 hS1
  grind [a3w, p9, fwB]
 clear hc hi
 refine aw_loop2 false [] [2, 3, 73, 74] [4, 6] [9344] (fun i : {i : Nat // i ≤ ((d4 r).drop 1).length ∧ (((d4 r).drop 1).take i).any a8H = false} => [(75, slV (.i .i64 i.1))]) (fun i => []) (fun i => []) (fun i => ((d4 r).drop 1).length - i.1) (⟨0, by simp⟩) _ rfl ?_ ?_
 · simp only [go_sem, c9, hS0, hS1]
  all_goals first | omega | ((repeat' apply And.intro) <;> first | omega | rfl | skip)
 intro S2 hS2 i
 simp only [go_sem, c9, hS0, hS1] at hS2
 obtain ⟨i, hi, hf⟩ := i
 have hD : ((d4 r).drop 1).length ≤ 8 := by rw [List.length_drop]; omega
 (try refine A2X ?_); simp only [go_sem, c9, hS0, hS1, hS2]; (repeat' first | apply CJ.mk | intro hc); all_goals try ((repeat' first | apply And.intro | intro hs) <;> (try simp only [go_sem, Bool.and_eq_false_iff] at hs) <;> omega)
 · rw [j2, ha, hb1, hk, a9b (q := a8H) default (by omega) hc]; rfl
 · (refine lpK_n2 (⟨i + 1, by omega, i8 (p := a8H) default (by omega) hf hc⟩) _ rfl ?_; simp only [go_sem, c9, hS0, hS1, hS2]; first | done | ((repeat' apply And.intro) <;> first | omega | (refine w64 ?_ ?_ ?_ <;> omega) | rfl | skip))
 all_goals (rw [c6 (by omega)] at hf)
 · clear hb hS0 hS1 hS2; grind
 · clear hb hS0 hS1 hS2; grind
 · clear hb hS0 hS1 hS2; grind [j2, b1r, b8K, pkB, fwB]
 · clear hb hS0 hS1 hS2; grind
 · clear hb hS0 hS1 hS2; grind [j2, b1r, b8K, pkB, fwB]
 · have hg : b1r p r = !(r.Body.drop 1).any (a5k p) := by
   clear hb hS0 hS1 hS2; grind [b1r, b8K, pkB, fwB]
  have h1 : 1 ≤ r.Body.length := by
   clear hb hS0 hS1 hS2; grind
  clear hc
  refine aw_loop2 false [] [2, 3] [4, 6] [] (fun i : {i : Nat // 1 ≤ i ∧ i ≤ r.Body.length ∧ ((r.Body.take i).drop 1).any (a5k p) = false} => [(14, slV (.i .i64 i.1))]) (fun i => []) (fun i => []) (fun i => r.Body.length - i.1) (⟨1, by omega, by omega, by cases r.Body <;> rfl⟩) _ rfl ?_ ?_
  · simp only [go_sem, c9, hS0, hS1, hS2]
   all_goals first | omega | ((repeat' apply And.intro) <;> first | omega | rfl | skip)
  intro S3 hS3 i
  simp only [go_sem, c9, hS0, hS1, hS2] at hS3
  obtain ⟨i, h1i, hi, hm⟩ := i
  (try refine A2X ?_); simp only [go_sem, c9, hS0, hS1, hS2, hS3]; (repeat' first | apply CJ.mk | intro hc); all_goals try ((repeat' first | apply And.intro | intro hs) <;> (try simp only [go_sem, Bool.and_eq_false_iff] at hs) <;> omega)
  · have : b1r p r = false := by rw [hg, c4u (q := a5k p) (i := i) default (by omega) (by omega) (Bool.and_eq_true_iff.2 hc)]; rfl
   rw [j2, ha, hb1, hk, hf, this]; rfl
  · (refine lpK_n2 (⟨i + 1, by omega, by omega, c2C (q := a5k p) default (by omega) (by omega) hm hc⟩) _ rfl ?_; simp only [go_sem, c9, hS0, hS1, hS2, hS3]; first | done | ((repeat' apply And.intro) <;> first | omega | (refine w64 ?_ ?_ ?_ <;> omega) | rfl | skip))
  · rw [c6 (by omega)] at hm
   rw [hm] at hg
   rw [j2, ha, hb1, hk, hf, hg]; rfl
 · have hg : b1r p r = !r.Body.any (a5k p) := by
   clear hb hS0 hS1 hS2; grind [b1r, fwB]
  clear hc
  refine aw_loop2 false [] [2, 3] [4, 6] [] (fun i : {i : Nat // i ≤ r.Body.length ∧ (r.Body.take i).any (a5k p) = false} => [(14, slV (.i .i64 i.1))]) (fun i => []) (fun i => []) (fun i => r.Body.length - i.1) (⟨0, by omega, by simp⟩) _ rfl ?_ ?_
  · simp only [go_sem, c9, hS0, hS1, hS2]
   all_goals first | omega | ((repeat' apply And.intro) <;> first | omega | rfl | skip)
  intro S3 hS3 i
  simp only [go_sem, c9, hS0, hS1, hS2] at hS3
  obtain ⟨i, hi, hm⟩ := i
  (try refine A2X ?_); simp only [go_sem, c9, hS0, hS1, hS2, hS3]; (repeat' first | apply CJ.mk | intro hc); all_goals try ((repeat' first | apply And.intro | intro hs) <;> (try simp only [go_sem, Bool.and_eq_false_iff] at hs) <;> omega)
  · have : b1r p r = false := by rw [hg, a9b (q := a5k p) (i := i) default (by omega) (Bool.and_eq_true_iff.2 hc)]; rfl
   rw [j2, ha, hb1, hk, hf, this]; rfl
  · (refine lpK_n2 (⟨i + 1, by omega, i8 (p := a5k p) default (by omega) hm hc⟩) _ rfl ?_; simp only [go_sem, c9, hS0, hS1, hS2, hS3]; first | done | ((repeat' apply And.intro) <;> first | omega | (refine w64 ?_ ?_ ?_ <;> omega) | rfl | skip))
  · rw [c6 (by omega)] at hm
   rw [hm] at hg
   rw [j2, ha, hb1, hk, hf, hg]; rfl
noncomputable def a2H : CT := l9 (fun (x : GProgram × GRule) h => b5j x.1 x.2 h)
@[go_sem] theorem c1O (p_Decls : List GDecl) (p_Rules : List GRule) (r_Kind : Int) (r_Head_Name : List UInt8) (r_Head_Args : List GTerm) (r_Body : List GLit) : a2H [(true, [.sl false [.i .i64 0, .s [], .i .i64 0] (p_Decls.map GDecl.cells), .sl false [.i .i64 0, .s [], .sl false [.s [], .i .i64 0, .s []] [], .sl false [.i .i64 0, .s [], .sl false [.s [], .i .i64 0, .s []] [], .i .i64 0, .s [], .i .i64 0, .s [], .s [], .i .i64 0, .s []] []] (p_Rules.map (GRule.cells false false))]), (true, [.i .i64 r_Kind, .s r_Head_Name, .sl false [.s [], .i .i64 0, .s []] (r_Head_Args.map GTerm.cells), .sl false [.i .i64 0, .s [], .sl false [.s [], .i .i64 0, .s []] [], .i .i64 0, .s [], .i .i64 0, .s [], .s [], .i .i64 0, .s []] (r_Body.map (GLit.cells false false))])] = some ((GRule.mk r_Kind (GAtom.mk r_Head_Name r_Head_Args) r_Body).Body.length ≤ 8 ∧ g8 (GProgram.mk p_Decls p_Rules) = true, [], .one (false, [.i .i64 (j2 (GProgram.mk p_Decls p_Rules) (GRule.mk r_Kind (GAtom.mk r_Head_Name r_Head_Args) r_Body))])) := d5 _ (by rintro ⟨⟨_, _⟩, ⟨_, ⟨_, _⟩, _⟩⟩ ⟨⟨_, _⟩, ⟨_, ⟨_, _⟩, _⟩⟩ h; simp at h; simp_all) ((GProgram.mk p_Decls p_Rules), (GRule.mk r_Kind (GAtom.mk r_Head_Name r_Head_Args) r_Body))
theorem a9B : OkC Tryz.prog 135 a2H := d6 _
theorem b2e (p : GProgram) (r : GRule) : 0 ≤ j2 p r := by
 unfold j2
 cases (d4 r).any (a1K p) <;> cases (d4 r).any (a1L p) <;> cases a3w p r <;> cases ((d4 r).drop 1).any a8H <;> cases b1r p r <;> decide
theorem a1f {p : GProgram} (h : g8 p = false) : c8 p = (1, 0) := by simp [c8, h]
theorem y4 {p : GProgram} (h : g8 p = true) {i : Nat} (hi : i < p.Decls.length) (ha : ∀ j, j < i → j1 p j = false) (hq : j1 p i = true) : c8 p = (2, (i : Int)) := by
 rw [c8, h, a7e ha hq hi, if_pos hi]; rfl
theorem a1z {p : GProgram} (h : g8 p = true) (hd : ∀ j, j < p.Decls.length → j1 p j = false) {i : Nat} (hi : i < p.Rules.length) (ha : ∀ j, j < i → l4 p j = false) (hq : l4 p i = true) : c8 p = (j2 p (p.Rules.getD i default), (i : Int)) := by
 rw [c8, h, a3v hd, if_neg (by omega), a7e ha hq hi, if_pos hi]; rfl
theorem a8e {p : GProgram} (h : g8 p = true) (hd : ∀ j, j < p.Decls.length → j1 p j = false) (ha : ∀ j, j < p.Rules.length → l4 p j = false) : c8 p = (0, 0) := by
 rw [c8, h, a3v hd, if_neg (by omega), a3v ha, if_neg (by omega)]; rfl
theorem b0o {q : Nat → Bool} {i : Nat} (h : ∀ j, j < i → q j = false) (hi : q i = false) : ∀ j, j < i + 1 → q j = false := by
 intro j hj
 rcases Nat.lt_succ_iff_lt_or_eq.1 hj with h1 | rfl
 · exact h j h1
 · exact hi
theorem b9n {p : GProgram} (h : g8 p = true) {i : Nat} (hi : i < p.Rules.length) : (p.Rules.getD i default).Body.length ≤ 8 := by
 rw [j5 default hi]; exact b4G h (List.getElem_mem hi)
def a1j : ACode := q' ([o' 2 (.box 3 (.t 0)), b' 3 false]) (q' ([f' 4 1 2, l' 5 4, f' 6 1 1, l' 7 6, o' 8 (.bin .eql (.t 5) (.t 7)), m' 3 8]) .ret)
theorem a7i : cmp Tryz.prog Tryz.f219 = some a1j := by kernel_rfl
theorem a7R (y : GDecl) (d : GDecl) : A0n Tryz.prog 219 [(true, [.i .i64 y.Kind, .s y.Name, .i .i64 y.Arity]), (false, [.p [.i .i64 d.Kind, .s d.Name, .i .i64 d.Arity]])] [] (.one (false, [.b (y.Name == d.Name)])) := by
 refine spec_of2 false false none Tryz.func219 a7i (rvs := [.t 3]) (hΓ := mkCtx_ok (deep := false) (l := []) trivial) (h := ?_)
 intro hb hE
 simp only [go_sem] at hb
 simp only [a1j, x']
 (try refine A2X ?_); simp only [go_sem]; (repeat' first | apply CJ.mk | intro hc); all_goals try ((repeat' first | apply And.intro | intro hs) <;> (try simp only [go_sem, Bool.and_eq_false_iff] at hs) <;> omega)
 all_goals (first | rfl | trace_state)
noncomputable def v8 : CT := d7 (fun (x : GDecl × GDecl) => a7R x.1 x.2)
@[go_sem] theorem b7n (y_Kind : Int) (y_Name : List UInt8) (y_Arity : Int) (d_Kind : Int) (d_Name : List UInt8) (d_Arity : Int) : v8 [(true, [.i .i64 y_Kind, .s y_Name, .i .i64 y_Arity]), (false, [.p [.i .i64 d_Kind, .s d_Name, .i .i64 d_Arity]])] = some (True, [], .one (false, [.b ((GDecl.mk y_Kind y_Name y_Arity).Name == (GDecl.mk d_Kind d_Name d_Arity).Name)])) := c4 _ (by rintro ⟨⟨_, _, _⟩, ⟨_, _, _⟩⟩ ⟨⟨_, _, _⟩, ⟨_, _, _⟩⟩ h; simp at h; simp_all) ((GDecl.mk y_Kind y_Name y_Arity), (GDecl.mk d_Kind d_Name d_Arity))
theorem a4S : OkC Tryz.prog 219 v8 := c5 _
def b3y : ACode := q' ([z' 4 0]) (.seq (q' ([m' 6 0, n' 7 6, z' 8 0]) (.block 0 (.loop (q' ([r' 9 8 7]) (.seq (.cond (.t 9) .skip (.exit 0)) (.seq (.block 1 (q' ([m' 10 8, m' 5
 10]) (q' ([m' 11 1, m' 12 0, m' 13 5, i' 14 3 12 13, e' 15 3 14, o' 16 (.callv (.t 11) [.t 15])]) (.cond (.t 16) (q' ([m' 17 5, m' 4 17]) .ret) .skip)))) (g'
 [a' 18 8, m' 8 18]))))))) (q' ([o' 4 (.mov (.k (.v false [.c (.i .i64 (-1))])))]) .ret))
theorem c0S : cmp Tryz.prog Tryz.f298 = some b3y := by kernel_rfl
theorem b7C (l : List GDecl) (d : GDecl) : A0n Tryz.prog 298 [(false, [.sl false [.i .i64 0, .s [], .i .i64 0] (l.map GDecl.cells)]), (false, [.f 219 [.p [.i .i64 d.Kind, .s d.Name, .i .i64 d.Arity]]])] [] (.one (false, [.i .i64 (w4 (fun y : GDecl => y.Name == d.Name) l)])) := by
 refine spec_of2 false false none Tryz.func298 c0S (rvs := [.t 4]) (hΓ := mkCtx_ok (deep := false) (l := [(219, [], v8)]) ⟨a4S, trivial⟩) (h := ?_)
 intro hb hE
 simp only [go_sem] at hb
 simp only [b3y, x']
 (try refine A2X ?_); simp only [go_sem]; (repeat' first | apply CJ.mk | intro hc); all_goals try ((repeat' first | apply And.intro | intro hs) <;> (try simp only [go_sem, Bool.and_eq_false_iff] at hs) <;> omega)
 refine aw_loop2 false [] [0, 1, 7] [] [] (fun i : {i : Nat // i ≤ l.length ∧ (l.take i).any (fun y : GDecl => y.Name == d.Name) = false} => [(8, slV (.i .i64 i.1))]) (fun i => []) (fun i => []) (fun i => l.length - i.1) (⟨0, by simp⟩) _ rfl ?_ ?_
 · simp only [go_sem]
  all_goals first | omega | ((repeat' apply And.intro) <;> first | omega | rfl | skip)
 intro S0 hS0 i
 simp only [go_sem] at hS0
 obtain ⟨i, hi, ha⟩ := i
 (try refine A2X ?_); simp only [go_sem, hS0]; (repeat' first | apply CJ.mk | intro hc); all_goals try ((repeat' first | apply And.intro | intro hs) <;> (try simp only [go_sem, Bool.and_eq_false_iff] at hs) <;> omega)
 · exact (l8 (p := fun y : GDecl => y.Name == d.Name) (d := default) (by omega) ha (by simpa [-List.getD_eq_getElem?_getD] using hc)).symm
 · (refine lpK_n2 (⟨i + 1, by omega, i8 (p := fun y : GDecl => y.Name == d.Name) default (by omega) ha (by simpa [-List.getD_eq_getElem?_getD] using hc)⟩) _ rfl ?_; simp only [go_sem, hS0]; first | done | ((repeat' apply And.intro) <;> first | omega | (refine w64 ?_ ?_ ?_ <;> omega) | rfl | skip))
 · exact (l7 (by rwa [c6 (by omega)] at ha)).symm
 all_goals trace_state
noncomputable def a4O : CT := d7 (fun (x : (List GDecl) × GDecl) => b7C x.1 x.2)
@[go_sem] theorem c3N (l : List GDecl) (d_Kind : Int) (d_Name : List UInt8) (d_Arity : Int) : a4O [(false, [.sl false [.i .i64 0, .s [], .i .i64 0] (l.map GDecl.cells)]), (false, [.f 219 [.p [.i .i64 d_Kind, .s d_Name, .i .i64 d_Arity]]])] = some (True, [], .one (false, [.i .i64 (w4 (fun y : GDecl => y.Name == (GDecl.mk d_Kind d_Name d_Arity).Name) l)])) := c4 _ (by rintro ⟨_, ⟨_, _, _⟩⟩ ⟨_, ⟨_, _, _⟩⟩ h; simp at h; simp_all) (l, (GDecl.mk d_Kind d_Name d_Arity))
theorem b2j : OkC Tryz.prog 298 a4O := c5 _
def b3u : ACode := q' ([b' 4 false]) (q' ([m' 5 0, m' 6 1, c' 7 298 [5, 6], o' 8 (.bin .geq (.t 7) (k' 0)), m' 4 8]) .ret)
theorem c0O : cmp Tryz.prog Tryz.f218 = some b3u := by kernel_rfl
theorem b7A (l : List GDecl) (d : GDecl) : A0n Tryz.prog 218 [(false, [.sl false [.i .i64 0, .s [], .i .i64 0] (l.map GDecl.cells)]), (false, [.f 219 [.p [.i .i64 d.Kind, .s d.Name, .i .i64 d.Arity]]])] [] (.one (false, [.b (l.any (fun y : GDecl => y.Name == d.Name))])) := by
 refine spec_of2 false false none Tryz.func218 c0O (rvs := [.t 4]) (hΓ := mkCtx_ok (deep := false) (l := [(298, [], a4O)]) ⟨b2j, trivial⟩) (h := ?_)
 intro hb hE
 simp only [go_sem] at hb
 simp only [b3u, x']
 (try refine A2X ?_); simp only [go_sem]; (repeat' first | apply CJ.mk | intro hc); all_goals try ((repeat' first | apply And.intro | intro hs) <;> (try simp only [go_sem, Bool.and_eq_false_iff] at hs) <;> omega)
 · exact w5 _ _
noncomputable def a4M : CT := d7 (fun (x : (List GDecl) × GDecl) => b7A x.1 x.2)
@[go_sem] theorem c3L (l : List GDecl) (d_Kind : Int) (d_Name : List UInt8) (d_Arity : Int) : a4M [(false, [.sl false [.i .i64 0, .s [], .i .i64 0] (l.map GDecl.cells)]), (false, [.f 219 [.p [.i .i64 d_Kind, .s d_Name, .i .i64 d_Arity]]])] = some (True, [], .one (false, [.b (l.any (fun y : GDecl => y.Name == (GDecl.mk d_Kind d_Name d_Arity).Name))])) := c4 _ (by rintro ⟨_, ⟨_, _, _⟩⟩ ⟨_, ⟨_, _, _⟩⟩ h; simp at h; simp_all) (l, (GDecl.mk d_Kind d_Name d_Arity))
theorem b2h : OkC Tryz.prog 218 a4M := c5 _
def a2c : ACode := q' ([o' 1 (.box 2 (.t 0)), z' 2 0, z' 3 0]) (.seq (q' ([e' 9 2 1, c' 10 134 [9], o' 11 (.not (.t 10))]) (.cond (.t 11) (q' ([z' 2 1, z' 3 0]) .ret) .skip))
 (.seq (q' ([f' 12 0 1, l' 13 12, n' 14 13, z' 15 0]) (.block 0 (.loop (q' ([r' 16 15 14]) (.seq (.cond (.t 16) .skip (.exit 0)) (.seq (.block 1 (q' ([m' 17
 15, m' 4 17]) (q' ([f' 18 0 1, l' 19 18, m' 20 4, i' 21 3 19 20, f' 22 1 21, l' 23 22, m' 5 23]) (.seq (q' ([m' 24 5, o' 25 (.bin .eql (.t 24) (.k (.v false
 [.c (.s [112, 97, 99, 107, 101, 116])]))), m' 26 25, ⟨some 27, .mov (.t 5), some (26, false)⟩, ⟨some 28, .bin .eql (.t 27) (.k (.v false [.c (.s [102, 111,
 114, 119, 97, 114, 100])])), some (26, false)⟩, o' 29 (.pick (.t 26) (.k (.v false [.c (.b true)])) (.t 28))]) (.cond (.t 29) (q' ([m' 30 4, z' 2 2, m' 3 30])
 .ret) .skip)) (q' ([z' 6 0]) (.block 2 (.loop (.seq (q' ([m' 31 6, m' 32 4, r' 33 31 32]) (.cond (.t 33) .skip (.exit 2))) (.seq (.block 3 (q' ([f' 36 0 1, l'
 37 36, m' 38 6, i' 39 3 37 38, f' 40 1 39, l' 41 40, m' 42 5, o' 43 (.bin .eql (.t 41) (.t 42))]) (.cond (.t 43) (q' ([m' 44 4, z' 2 2, m' 3 44]) .ret)
 .skip))) (g' [m' 34 6, a' 35 34, m' 6 35])))))))))) (g' [a' 45 15, m' 15 45]))))))) (.seq (q' ([f' 46 1 1, l' 47 46, n' 48 47, z' 49 0]) (.block 4 (.loop (q'
 ([r' 50 49 48]) (.seq (.cond (.t 50) .skip (.exit 4)) (.seq (.block 5 (q' ([m' 51 49, m' 7 51]) (.seq (.reg true [e' 52 2 1, f' 53 1 1, l' 54 53, m' 55 7, i'
 56 4 54 55, e' 57 4 56, c' 58 135 [52, 57], m' 8 58]) (q' ([m' 59 8, o' 60 (.bin .gtr (.t 59) (k' 0))]) (.cond (.t 60) (q' ([m' 61 8, m' 62 7, m' 2 61, m' 3
 62]) .ret) .skip))))) (g' [a' 63 49, m' 49 63]))))))) (q' ([z' 2 0, z' 3 0]) .ret))))
theorem a8G : cmp Tryz.prog Tryz.f62 = some a2c := by kernel_rfl
theorem b0k (p : GProgram) : A0n Tryz.prog 62 [(true, [.sl false [.i .i64 0, .s [], .i .i64 0] (p.Decls.map GDecl.cells), .sl false [.i .i64 0, .s [], .sl false [.s [], .i .i64 0, .s []] [], .sl false [.i .i64 0, .s [], .sl false [.s [], .i .i64 0, .s []] [], .i .i64 0, .s [], .i .i64 0, .s [], .s [], .i .i64 0, .s []] []] (p.Rules.map (GRule.cells false false))])] [] (.tup [(false, [.i .i64 ((c8 p).1)]), (false, [.i .i64 ((c8 p).2)])]) := by
 refine spec_of2 false false none Tryz.func62 a8G (rvs := [.t 2, .t 3]) (hΓ := mkCtx_ok (deep := false) (l := [(134, [], u6), (135, [], a2H)]) ⟨a1O, a9B, trivial⟩) (h := ?_)
 intro hb hE
 simp only [go_sem] at hb
 simp only [a2c, x']
 (try refine A2X ?_); simp only [go_sem]; (repeat' first | apply CJ.mk | intro hc); all_goals try ((repeat' first | apply And.intro | intro hs) <;> (try simp only [go_sem, Bool.and_eq_false_iff] at hs) <;> omega)
 · rw [a1f hc]; exact ⟨rfl, rfl⟩
 have hB : g8 p = true := hc
 clear hc
 refine aw_loop2 false [] [1, 14] [2] [] (fun i : {i : Nat // i ≤ p.Decls.length ∧ ∀ j, j < i → j1 p j = false} => [(15, slV (.i .i64 i.1))]) (fun i => []) (fun i => []) (fun i => p.Decls.length - i.1) (⟨0, by omega, by intro j h; omega⟩) _ rfl ?_ ?_
 · simp only [go_sem]
  all_goals first | omega | ((repeat' apply And.intro) <;> first | omega | rfl | skip)
 intro S0 hS0 i
 simp only [go_sem] at hS0
 obtain ⟨n, hn, ha⟩ := i
 (try refine A2X ?_); simp only [go_sem, hS0]; (repeat' first | apply CJ.mk | intro hc); all_goals try ((repeat' first | apply And.intro | intro hs) <;> (try simp only [go_sem, Bool.and_eq_false_iff] at hs) <;> omega)
 · have hq : j1 p n = true := by rcases hc with hc | hc <;> (simp only [j1, pkB, fwB, hc, Bool.true_or, Bool.or_true])
  rw [y4 hB (by omega) ha hq]; exact ⟨rfl, rfl⟩
 · have hN := hc
  clear hc
  refine aw_loop2 false [] [1, 4, 5, 14, 15] [2] [] (fun i : {k : Nat // k ≤ n ∧ (p.Decls.take k).any (fun x => x.Name == (p.Decls.getD n default).Name) = false} => [(6, slV (.i .i64 i.1))]) (fun i => []) (fun i => []) (fun i => n - i.1) (⟨0, by omega, by simp⟩) _ rfl ?_ ?_
  · simp only [go_sem, hS0]
   all_goals first | omega | ((repeat' apply And.intro) <;> first | omega | rfl | skip)
  intro S1 hS1 i
  simp only [go_sem, hS0] at hS1
  obtain ⟨k, hk, hx⟩ := i
  (try refine A2X ?_); simp only [go_sem, hS0, hS1]; (repeat' first | apply CJ.mk | intro hc); all_goals try ((repeat' first | apply And.intro | intro hs) <;> (try simp only [go_sem, Bool.and_eq_false_iff] at hs) <;> omega)
  · have : ((p.Decls.take n).any fun x => x.Name == (p.Decls.getD n default).Name) = true := by
    refine a9b (q := fun x : GDecl => x.Name == (p.Decls.getD n default).Name) (i := k) default (by rw [List.length_take]; omega) ?_
    have e : (p.Decls.take n).getD k default = p.Decls.getD k default := by
     simp only [List.getD_eq_getElem?_getD, List.getElem?_take]; rw [if_pos (by omega)]
    rw [e]; exact hc
   have hq : j1 p n = true := by rw [j1, this, Bool.or_true]
   rw [y4 hB (by omega) ha hq]; exact ⟨rfl, rfl⟩
  · (refine lpK_n2 (⟨k + 1, by omega, i8 (p := fun x : GDecl => x.Name == (p.Decls.getD n default).Name) default (by omega) hx hc⟩) _ rfl ?_; simp only [go_sem, hS0, hS1]; first | done | ((repeat' apply And.intro) <;> first | omega | (refine w64 ?_ ?_ ?_ <;> omega) | rfl | skip))
  · have e : k = n := by omega
   subst e
   have hq : j1 p k = false := by rw [j1, hx]; simp only [pkB, fwB, hN, Bool.or_false]
   (refine lpK_n2 (⟨k + 1, by omega, b0o ha hq⟩) _ rfl ?_; simp only [go_sem, hS0, hS1]; first | done | ((repeat' apply And.intro) <;> first | omega | (refine w64 ?_ ?_ ?_ <;> omega) | rfl | skip))
 have hd : ∀ j, j < p.Decls.length → j1 p j = false := fun j hj => ha j (by omega)
 clear hc ha
 refine aw_loop2 false [] [1, 48] [2] [] (fun i : {i : Nat // i ≤ p.Rules.length ∧ ∀ j, j < i → l4 p j = false} => [(49, slV (.i .i64 i.1))]) (fun i => []) (fun i => []) (fun i => p.Rules.length - i.1) (⟨0, by omega, by intro j h; omega⟩) _ rfl ?_ ?_
 · simp only [go_sem, hS0]
  all_goals first | omega | ((repeat' apply And.intro) <;> first | omega | rfl | skip)
 intro S2 hS2 i
 simp only [go_sem, hS0] at hS2
 obtain ⟨n, hn, ha⟩ := i
 (try refine A2X ?_); simp only [go_sem, hS0, hS2]; (repeat' first | apply CJ.mk | intro hc); all_goals try ((repeat' first | apply And.intro | intro hs) <;> (try simp only [go_sem, Bool.and_eq_false_iff] at hs) <;> omega)
 · exact ⟨b9n hB (by omega), hB⟩
 · have hq : l4 p n = true := by
   have := b2e p (p.Rules.getD n default)
   rw [l4, Bool.not_eq_true', beq_eq_false_iff_ne]; omega
  rw [a1z hB hd (by omega) ha hq]; exact ⟨rfl, rfl⟩
 · have hq : l4 p n = false := by
   have := b2e p (p.Rules.getD n default)
   rw [l4, Bool.not_eq_false', beq_iff_eq]; omega
  (refine lpK_n2 (⟨n + 1, by omega, b0o ha hq⟩) _ rfl ?_; simp only [go_sem, hS0, hS2]; first | done | ((repeat' apply And.intro) <;> first | omega | (refine w64 ?_ ?_ ?_ <;> omega) | rfl | skip))
 · rw [a8e hB hd (fun j hj => ha j (by omega))]; exact ⟨rfl, rfl⟩
noncomputable def o7 : CT := d7 (fun (x : GProgram) => b0k x)
@[go_sem] theorem b8z (p_Decls : List GDecl) (p_Rules : List GRule) : o7 [(true, [.sl false [.i .i64 0, .s [], .i .i64 0] (p_Decls.map GDecl.cells), .sl false [.i .i64 0, .s [], .sl false [.s [], .i .i64 0, .s []] [], .sl false [.i .i64 0, .s [], .sl false [.s [], .i .i64 0, .s []] [], .i .i64 0, .s [], .i .i64 0, .s [], .s [], .i .i64 0, .s []] []] (p_Rules.map (GRule.cells false false))])] = some (True, [], .tup [(false, [.i .i64 ((c8 (GProgram.mk p_Decls p_Rules)).1)]), (false, [.i .i64 ((c8 (GProgram.mk p_Decls p_Rules)).2)])]) := c4 _ (by rintro ⟨_, _⟩ ⟨_, _⟩ h; simp at h; simp_all) (GProgram.mk p_Decls p_Rules)
theorem u1 : OkC Tryz.prog 62 o7 := c5 _
theorem b8E {α : Type} (l : List α) (n : Nat) : cut l 0 n = l.take n := by unfold cut; simp
def a1W : ACode := q' ([o' 1 (.box 2 (.t 0)), z' 2 0, z' 3 0]) (.seq (q' ([e' 9 2 1, c' 10 150 [9], o' 11 (.not (.t 10))]) (.cond (.t 11) (q' ([z' 2 1, z' 3 0]) .ret) .skip))
 (.seq (q' ([f' 12 0 1, l' 13 12, n' 14 13, z' 15 0]) (.block 0 (.loop (q' ([r' 16 15 14]) (.seq (.cond (.t 16) .skip (.exit 0)) (.seq (.block 1 (q' ([m' 17
 15, i' 18 3 13 15, e' 19 3 18, w' 5 [.i .i64, .s, .i .i64], m' 4 17, s' 3 5 19]) (q' ([f' 20 1 5, l' 21 20, o' 22 (.bin .eql (.t 21) (.k (.v false [.c (.s
 [112, 97, 99, 107, 101, 116])]))), m' 23 22, ⟨some 24, .fa 1 (.t 5), some (23, false)⟩, ⟨some 25, .ld false 1 (.t 24), some (23, false)⟩, ⟨some 26, .bin .eql
 (.t 25) (.k (.v false [.c (.s [102, 111, 114, 119, 97, 114, 100])])), some (23, false)⟩, o' 27 (.pick (.t 23) (.k (.v false [.c (.b true)])) (.t 26)), m' 28
 27, ⟨some 29, .fa 0 (.t 1), some (28, false)⟩, ⟨some 30, .ld false 1 (.t 29), some (28, false)⟩, ⟨some 31, .mov (.t 4), some (28, false)⟩, ⟨some 32, .slc 3
 (.t 30) none (some (.t 31)) none, some (28, false)⟩, ⟨some 33, .mf 219 [.t 5], some (28, false)⟩, ⟨some 34, .call 218 [.t 32, .t 33], some (28, false)⟩, o' 35
 (.pick (.t 28) (.k (.v false [.c (.b true)])) (.t 34))]) (.cond (.t 35) (q' ([m' 36 4, z' 2 2, m' 3 36]) .ret) .skip)))) (g' [a' 37 15, m' 15 37]))))))) (.seq
 (q' ([f' 38 1 1, l' 39 38, n' 40 39, z' 41 0]) (.block 2 (.loop (q' ([r' 42 41 40]) (.seq (.cond (.t 42) .skip (.exit 2)) (.seq (.block 3 (q' ([m' 43 41, i'
 44 4 39 41, e' 45 4 44, w' 7 [.i .i64, .s, .sl [.s [], .i .i64 0, .s []], .sl [.i .i64 0, .s [], .sl false [.s [], .i .i64 0, .s []] [], .i .i64 0, .s [], .i
 .i64 0, .s [], .s [], .i .i64 0, .s []]], m' 6 43, s' 4 7 45]) (q' ([e' 46 2 1, e' 47 4 7, c' 48 220 [46, 47], m' 8 48]) (q' ([m' 49 8, o' 50 (.bin .neq (.t
 49) (k' 0))]) (.cond (.t 50) (q' ([m' 51 8, m' 52 6, m' 2 51, m' 3 52]) .ret) .skip))))) (g' [a' 53 41, m' 41 53]))))))) (q' ([z' 2 0, z' 3 0]) .ret))))
theorem a8A : cmp Tryz.prog Tryz.f138 = some a1W := by kernel_rfl
theorem b0e (p : GProgram) : A0n Tryz.prog 138 [(true, [.sl false [.i .i64 0, .s [], .i .i64 0] (p.Decls.map GDecl.cells), .sl false [.i .i64 0, .s [], .sl false [.s [], .i .i64 0, .s []] [], .sl false [.i .i64 0, .s [], .sl false [.s [], .i .i64 0, .s []] [], .i .i64 0, .s [], .i .i64 0, .s [], .s [], .i .i64 0, .s []] []] (p.Rules.map (GRule.cells false false))])] [] (.tup [(false, [.i .i64 ((c8 p).1)]), (false, [.i .i64 ((c8 p).2)])]) := by
 refine spec_of2 false false none Tryz.func138 a8A (rvs := [.t 2, .t 3]) (hΓ := mkCtx_ok (deep := false) (l := [(150, [], u3), (218, [], a4M), (220, [], a1s)]) ⟨a1M, b2h, a8q, trivial⟩) (h := ?_)
 intro hb hE
 simp only [go_sem] at hb
 simp only [a1W, x']
 (try refine A2X ?_); simp only [go_sem]; (repeat' first | apply CJ.mk | intro hc); all_goals try ((repeat' first | apply And.intro | intro hs) <;> (try simp only [go_sem, Bool.and_eq_false_iff] at hs) <;> omega)
 · rw [a1f hc]; exact ⟨rfl, rfl⟩
 have hB : g8 p = true := hc
 clear hc
 refine aw_loop2 false [] [1, 13, 14] [2] [] (fun i : {i : Nat // i ≤ p.Decls.length ∧ ∀ j, j < i → j1 p j = false} => [(15, slV (.i .i64 i.1))]) (fun i => []) (fun i => []) (fun i => p.Decls.length - i.1) (⟨0, by omega, by intro j h; omega⟩) _ rfl ?_ ?_
 · simp only [go_sem]
  all_goals first | omega | ((repeat' apply And.intro) <;> first | omega | rfl | skip)
 intro S0 hS0 i
 simp only [go_sem] at hS0
 obtain ⟨n, hn, ha⟩ := i
 (try refine A2X ?_); simp only [go_sem, hS0]; (repeat' first | apply CJ.mk | intro hc); all_goals try ((repeat' first | apply And.intro | intro hs) <;> (try simp only [go_sem, Bool.and_eq_false_iff] at hs) <;> omega)
 · rw [b8E] at hc
  have hq : j1 p n = true := by rcases hc with (hc | hc) | hc <;> simp only [j1, pkB, fwB, hc, Bool.true_or, Bool.or_true]
  rw [y4 hB (by omega) ha hq]; exact ⟨rfl, rfl⟩
 · rw [b8E] at hc
  have hq : j1 p n = false := by simp only [j1, pkB, fwB, hc, Bool.or_false]
  (refine lpK_n2 (⟨n + 1, by omega, b0o ha hq⟩) _ rfl ?_; simp only [go_sem, hS0]; first | done | ((repeat' apply And.intro) <;> first | omega | (refine w64 ?_ ?_ ?_ <;> omega) | rfl | skip))
 have hd : ∀ j, j < p.Decls.length → j1 p j = false := fun j hj => ha j (by omega)
 clear hc ha
 refine aw_loop2 false [] [1, 39, 40] [2] [] (fun i : {i : Nat // i ≤ p.Rules.length ∧ ∀ j, j < i → l4 p j = false} => [(41, slV (.i .i64 i.1))]) (fun i => []) (fun i => []) (fun i => p.Rules.length - i.1) (⟨0, by omega, by intro j h; omega⟩) _ rfl ?_ ?_
 · simp only [go_sem, hS0]
  all_goals first | omega | ((repeat' apply And.intro) <;> first | omega | rfl | skip)
 intro S1 hS1 i
 simp only [go_sem, hS0] at hS1
 obtain ⟨n, hn, ha⟩ := i
 (try refine A2X ?_); simp only [go_sem, hS0, hS1]; (repeat' first | apply CJ.mk | intro hc); all_goals try ((repeat' first | apply And.intro | intro hs) <;> (try simp only [go_sem, Bool.and_eq_false_iff] at hs) <;> omega)
 · exact b9n hB (by omega)
 · have hq : l4 p n = true := by
   simp only [bne, Bool.not_eq_true', beq_eq_false_iff_ne] at hc
   rw [l4, Bool.not_eq_true', beq_eq_false_iff_ne]; exact hc
  rw [a1z hB hd (by omega) ha hq]; exact ⟨rfl, rfl⟩
 · have hq : l4 p n = false := by
   simp only [bne, Bool.not_eq_false', beq_iff_eq] at hc
   rw [l4, Bool.not_eq_false', beq_iff_eq]; exact hc
  (refine lpK_n2 (⟨n + 1, by omega, b0o ha hq⟩) _ rfl ?_; simp only [go_sem, hS0, hS1]; first | done | ((repeat' apply And.intro) <;> first | omega | (refine w64 ?_ ?_ ?_ <;> omega) | rfl | skip))
 · rw [a8e hB hd (fun j hj => ha j (by omega))]; exact ⟨rfl, rfl⟩
noncomputable def a0b : CT := d7 (fun (x : GProgram) => b0e x)
@[go_sem] theorem b8t (p_Decls : List GDecl) (p_Rules : List GRule) : a0b [(true, [.sl false [.i .i64 0, .s [], .i .i64 0] (p_Decls.map GDecl.cells), .sl false [.i .i64 0, .s [], .sl false [.s [], .i .i64 0, .s []] [], .sl false [.i .i64 0, .s [], .sl false [.s [], .i .i64 0, .s []] [], .i .i64 0, .s [], .i .i64 0, .s [], .s [], .i .i64 0, .s []] []] (p_Rules.map (GRule.cells false false))])] = some (True, [], .tup [(false, [.i .i64 ((c8 (GProgram.mk p_Decls p_Rules)).1)]), (false, [.i .i64 ((c8 (GProgram.mk p_Decls p_Rules)).2)])]) := c4 _ (by rintro ⟨_, _⟩ ⟨_, _⟩ h; simp at h; simp_all) (GProgram.mk p_Decls p_Rules)
theorem a6S : OkC Tryz.prog 138 a0b := c5 _
end Go.Aw
