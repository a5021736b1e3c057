/- Empty states of a program: the reference's, all relations of one kind. No condition. -/
import Derived.Test.YtdfnhhecaaaoaaaGreatybT17
import Derived.Test.YtdfnhhecaaaoaaaGreatybT13
import Derived.Test.YtdfnhhecaaaoaaaGreatnBx8yb
namespace Go.Aw
open Go.Proofs
attribute [local irreducible] aft blk lpK retK AW Z9
set_option linter.all false
set_option maxRecDepth 100000
def a0v (p:c4) (k:Int):List d7:=p.Decls.filter fun d=>d.Kind==k
@[go_sem] theorem l12Set_nil (l:List c9) (n:List UInt8) (a:Int):a2B [(true,[.sl false [.s [],.i .i64 0,.sl false [.sl false [.i .i64 0,.s []] []] []] (l.map (c9.cells false false))]),(false,[.s n]),(true,[.i .i64 a,.sl false [.sl false [.i .i64 0,.s []] []] []])]=some (((∀ x∈l,x.Rel.Rows=[])∧True)∧l.length≤1000,[],.one (true,[.sl false [.s [],.i .i64 0,.sl false [.sl false [.i .i64 0,.s []] []] []] ((a5i l n ⟨n,⟨a,[]⟩⟩).map (c9.cells false false))])):=by
 have h:=a9j l n a []
 simpa using h
theorem b0e (l:List d7) (d:d7):p8 (l++[d])=a5i (p8 l) d.Name ⟨d.Name,⟨d.Arity,[]⟩⟩:=by rw [p8,List.foldl_append];rfl
@[go_sem] theorem emptyN_nil:p8 []=[]:=rfl
@[go_sem] def a9c:ACode:=q' 2 [ao (.box 2 (.t 0)),ax (w' 4 [.sl [.s [],.i .i64 0,.sl false [.sl false [.i .i64 0,.s []] []] []]])] (q' 5 [ax (o' 8 (.bld [.sl [.s [],.i .i64 0,.sl
 false [.sl false [.i .i64 0,.s []] []] []]] [])),aw [.sl [.s [],.i .i64 0,.sl false [.sl false [.i .i64 0,.s []] []] []]],aS 1 5 8] (.seq (q' 9 [aG 0
 2,aN,aK 0] (.block 0 (.loop (q' 13 [ar 12 11] (.seq (.cond (.t 13) .skip (.exit 0)) (.seq (.block 1 (q' 14 [ai 3 10 12,aE 3,ax (w' 7 [.i .i64,.s,.i
 .i64]),aS 3 7 15] (q' 16 [aG 0 7,am 1,ao (.bin .eql (.t 17) (.t 18))] (.cond (.t 19) (g' 20 [ae 1 5,aG 1 7,aG 2 7,ao (.bld [.i .i64,.sl [.sl false [.i .i64
 0,.s []] []]] [(0,1,.t 24)]),ac 174 [20,22,25],aS 1 5 26]) .skip)))) (g' 27 [aA 12]))))))) (q' 28 [ae 1 5,aS 1 4 28] .ret)))
theorem b1N (p:c4) (k:Int) (hpre:p.Decls.length≤16):Z9 Tryz.prog 208 [(true,[.sl false [.i .i64 0,.s [],.i .i64 0] (p.Decls.map d7.cells),.sl false [.i .i64 0,.s [],.sl false [.s [],.i .i64 0,.s []] [],.sl false [.i .i64 0,.s [],.sl false [.s [],.i .i64 0,.s []] [],.i .i64 0,.s [],.i .i64 0,.s [],.s [],.i .i64 0,.s []] []] (p.Rules.map (c6.cells false false))]),(false,[.i .i64 k])] [] (.one (true,[.sl false [.s [],.i .i64 0,.sl false [.sl false [.i .i64 0,.s []] []] []] (((⟨p8 (a0v p k)⟩:d8).Rels).map (c9.cells false false))])):=by
 refine sx' false true none Tryz.func208 a9c [.c 4 true 1] [(174,[],a2B)] ?_
 intro hb hE
 simp only [go_sem];(repeat' first | apply CJ.mk | intro hc);all_goals try exact om'
 refine aw_keys false [(true,10,0,200020)] ?_
 refine aw_frK 200020 ?_
 refine lq' false [1,4,5,10,11] [8] [] (fun i:{i:Nat // i≤p.Decls.length}=>[(12,slV (.i .i64 i.1))]) (fun i=>[(10,[.c (.sl false [.s [],.i .i64 0,.sl false [.sl false [.i .i64 0,.s []] []] []] ((p8 ((p.Decls.take i.1).filter fun d=>d.Kind==k)).map (c9.cells false false)))])]) nl' (fun i=>p.Decls.length - i.1) (⟨0,by simp⟩) ?_
 intro S0 hS0 i
 obtain ⟨i,hi⟩:=i
 have h1:=a6G ((p.Decls.take i).filter fun d=>d.Kind==k)
 have h2:=List.length_filter_le (fun d:d7=>d.Kind==k) (p.Decls.take i)
 have h3:=b9C ((p.Decls.take i).filter fun d=>d.Kind==k)
 rw [List.length_take] at h2
 simp only [go_sem,hS0];(repeat' first | apply CJ.mk | intro hc);all_goals try exact om'
 all_goals first
  | omega
  | exact h3
  | exact ⟨h3,by omega⟩
  | ((refine lpK_n2 (⟨i+1,by omega⟩) _ rfl ?_;simp only [go_sem,hS0];first | done | ((repeat' apply And.intro)<;>try exact on'));rw [f_yes (p:=fun d:d7=>d.Kind==k) default (by omega) hc,b0e];done)
  | ((refine lpK_n2 (⟨i+1,by omega⟩) _ rfl ?_;simp only [go_sem,hS0];first | done | ((repeat' apply And.intro)<;>try exact on'));rw [f_no (p:=fun d:d7=>d.Kind==k) default (by omega) hc];done)
  | (rw [f9 (by omega)];rfl)
  | trace_state
noncomputable def a0n:CT:=l5 (fun (x:c4×Int) h=>b1N x.1 x.2 h)
@[go_sem] def c1X:=fun x0 x1 k=>nm' (fP' a0n rfl (⟨x0,x1⟩,k))
end Go.Aw
