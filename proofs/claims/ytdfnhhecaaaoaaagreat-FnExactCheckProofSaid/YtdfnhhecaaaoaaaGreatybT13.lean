/- Empty states of a program: the reference's. No condition. -/
import Derived.Test.YtdfnhhecaaaoaaaGreatybT17
import Derived.Test.YtdfnhhecaaaoaaaGreatnBx8yb
namespace Go.Aw
open Go.Proofs
attribute [local irreducible] aft blk lpK retK AW Z9
set_option linter.all false
set_option maxRecDepth 100000
set_option maxHeartbeats 40000000
attribute [local irreducible] RM
@[go_sem] def b1e:ACode:=q' 1 [ao (.box 2 (.t 0)),aw [.i .i64,.sl [.sl false [.i .i64 0,.s []] []]]] (q' 5 [aG 0 1,ao (.bld [.i .i64,.sl [.sl false [.i .i64 0,.s []] []]] [(0,1,.t
 6)]),ax (w' 3 [.i .i64,.sl [.sl false [.i .i64 0,.s []] []]]),aS 2 3 7] (.seq (q' 8 [aG 1 1,aN,aK 0] (.block 0 (.loop (q' 12 [ar 11 10] (.seq (.cond (.t 12)
 .skip (.exit 0)) (.seq (.block 1 (q' 13 [am 11,aV 4] (rm' [(true,2,f' 16 1 1),(true,3,l' 17 16),(true,4,m' 18 4),(true,5,i' 19 1 17 18),(true,6,
 e' 20 1 19),(false,0,f' 14 1 3),(false,1,l' 15 14),(false,7,c' 21 262 [20]),(false,8,o' 22 (.bsl 1 1 [.sl [.i .i64 0,.s []]] [(0,.t 21)])),
 (false,9,o' 23 (.app 1 24 [.sl [.i .i64 0,.s []]] (.t 15) (.t 22))),(false,10,f' 24 1 3),(false,11,s' 1 24 23)] [[0,1,2,3,4,5,7,6,8,9,10,
 11],[0,1,2,3,4,5,7,8,6,9,10,11],[0,1,2,3,4,7,5,6,8,9,10,11],[0,1,2,3,4,7,5,8,6,9,10,11],[0,1,2,3,4,7,8,5,6,9,
 10,11]] [2,3]))) (g' 25 [aA 11]))))))) (q' 26 [ae 2 3,aS 2 2 26] .ret)))
theorem a9G (a:Int):Z9 Tryz.prog 234 [(true,[.i .i64 a,.sl false [.sl false [.i .i64 0,.s []] []] []])] [] (.one (true,[.i .i64 ((⟨a,[]⟩:f8).Arity),.sl false [.sl false [.i .i64 0,.s []] []] (((⟨a,[]⟩:f8).Rows).map (d6.cells false false))])):=by
 refine sx' false true none Tryz.func234 b1e [.c 2 true 2] [] ?_
 intro hb hE
 simp only [go_sem];(repeat' first | apply CJ.mk | intro hc | apply c2z);(all_goals (try ((first | refine a8G 5 rfl ?_);intro S hS B0 hB;simp only [go_sem,List.take_succ_cons,List.take_zero] at hS hB;(repeat (first | replace hS:=And.right hS | replace hS:=CJ.r hS));have Rr1:=congrArg (fun s:St=>s.sl 1) hS;have Rr3:=congrArg (fun s:St=>s.sl 3) hS;have Rr4:=congrArg (fun s:St=>s.sl 4) hS;have Rb2:=congrArg (fun s:St=>s.bx 2) hS;have Rb3:=congrArg (fun s:St=>s.bx 3) hS;have Rb4:=congrArg (fun s:St=>s.bx 4) hS;have Rb6:=congrArg (fun s:St=>s.bx 6) hS;clear hS;simp only [go_sem] at Rr1 Rr3 Rr4 Rb2 Rb3 Rb4 Rb6;(try clear hc);intro K hc;simp only [go_sem,Rr1,Rr3,Rr4,Rb2,Rb3,Rb4,Rb6,hB,List.map_cons,List.map_nil,List.drop_succ_cons,List.drop_zero] at hc ⊢;simp only [go_sem,Rr1,Rr3,Rr4,Rb2,Rb3,Rb4,Rb6,hB,A6X,A7b,A6p,A6o,A6W,A6n,nf_put_sub,A6Z,A6Y,nf_put_susK,nf_put_dip,nf_put_put,A7a,A6V,A6q,a5s,a5r,nf_sub_sub] at hc ⊢;simp only [hc,and_self,true_and];done)));all_goals try exact om'
 refine lq' false [1,2,3,10] [2,4,3] [] (fun i:Unit=>[(11,slV (.i .i64 0))]) (fun i=>[(6,[.c (.i .i64 a),.nl [.sl false [.i .i64 0,.s []] []]])]) nl' (fun i=>0) () ?_
 intro S0 hS0 i
 simp only [go_sem,hS0];(repeat' first | apply CJ.mk | intro hc | apply c2z);(all_goals (try ((first | refine a8G 5 rfl ?_);intro S hS B0 hB;simp only [go_sem,hS0,List.take_succ_cons,List.take_zero] at hS hB;(repeat (first | replace hS:=And.right hS | replace hS:=CJ.r hS));have Rr1:=congrArg (fun s:St=>s.sl 1) hS;have Rr3:=congrArg (fun s:St=>s.sl 3) hS;have Rr4:=congrArg (fun s:St=>s.sl 4) hS;have Rb2:=congrArg (fun s:St=>s.bx 2) hS;have Rb3:=congrArg (fun s:St=>s.bx 3) hS;have Rb4:=congrArg (fun s:St=>s.bx 4) hS;have Rb6:=congrArg (fun s:St=>s.bx 6) hS;clear hS;simp only [go_sem,hS0] at Rr1 Rr3 Rr4 Rb2 Rb3 Rb4 Rb6;(try clear hc);intro K hc;simp only [go_sem,hS0,Rr1,Rr3,Rr4,Rb2,Rb3,Rb4,Rb6,hB,List.map_cons,List.map_nil,List.drop_succ_cons,List.drop_zero] at hc ⊢;simp only [go_sem,hS0,Rr1,Rr3,Rr4,Rb2,Rb3,Rb4,Rb6,hB,A6X,A7b,A6p,A6o,A6W,A6n,nf_put_sub,A6Z,A6Y,nf_put_susK,nf_put_dip,nf_put_put,A7a,A6V,A6q,a5s,a5r,nf_sub_sub] at hc ⊢;simp only [hc,and_self,true_and];done)));all_goals try exact om'
 all_goals first
  | (exfalso;simp at hc;done)
  | (exfalso;simp at *;done)
  | trace_state
noncomputable def a2V:CT:=i3 (fun (x:Int)=>a9G x)
@[go_sem] def c0O:=fun a=>nm' (fQ' a2V rfl a)
theorem c2o (n x:List UInt8):(Op.bytesLess n x || n==x)=!sLt x n:=by
 cases h1:Op.bytesLess n x with
 | true=>
   cases h2:sLt x n with
   | true=>have h3:=a0L _ _ _ h1 h2;rw [a1A] at h3;cases h3
   | false=>rfl
 | false=>
   cases h2:sLt x n with
   | true=>
     have:(n==x)=false:=beq_eq_false_iff_ne.2 fun e=>by subst e;have h3:sLt n n=false:=a1A n;rw [h3] at h2;cases h2
     rw [this];rfl
   | false=>rw [a1B _ _ h1 h2];simp
theorem b7k {n:List UInt8} {v x:c9} {q1:List c9} {q2:Bool} (h:q2=false∧(Op.bytesLess n x.Name=true∨(n==x.Name)=true)):a0k n v (q1,q2) x=(q1++[v]++(bif x.Name==n then [] else [x]),true):=by
 have h2:(!sLt x.Name n)=true:=by rw [← c2o,Bool.or_eq_true];exact h.2
 rw [a0k,h.1,h2];rfl
theorem c0t {n:List UInt8} {v x:c9} {q1:List c9} {q2:Bool} (h:(!q2&&(Op.bytesLess n x.Name || n==x.Name))=false):a0k n v (q1,q2) x=(q1++(bif x.Name==n then [] else [x]),q2):=by
 rw [c2o] at h
 rw [a0k,h,cond_false]
 cases q2 with
 | true=>rfl
 | false=>
   have h2:(!sLt x.Name n)=false:=by simpa using h
   rw [h2];rfl
theorem b6W (n:List UInt8) (v:c9):∀ (l q:List c9) (b:Bool),(l.foldl (a0k n v) (q,b)).1.length≤q.length+2 * l.length
 | [],q,b=>by simp
 | x::l,q,b=>by
   rw [List.foldl_cons]
   have h:=b6W n v l (a0k n v (q,b) x).1 (a0k n v (q,b) x).2
   have h2:(a0k n v (q,b) x).1.length≤q.length+2:=by
    simp only [a0k]
    cases !b&&!sLt x.Name n<;>cases x.Name==n<;>simp<;>omega
   have e:((a0k n v (q,b) x).1,(a0k n v (q,b) x).2)=a0k n v (q,b) x:=rfl
   rw [e] at h
   simp only [List.length_cons]
   omega
theorem a3s {x:c9} (h:x.Rel.Rows=[]):c9.cells false false x=[.s x.Name,.i .i64 x.Rel.Arity,.sl false [.sl false [.i .i64 0,.s []] []] []]:=by
 cases x with
 | mk a b=>
   cases b with
   | mk c d=>cases h;rfl
@[go_sem] def b2Q:ACode:=q' 5 [ax (o' 3 (.box 1 (.t 0))),ao (.box 2 (.t 2)),aw [.sl [.s [],.i .i64 0,.sl false [.sl false [.i .i64 0,.s []] []] []]]] (q' 7 [ax (o' 10 (.bld [.sl [.s
 [],.i .i64 0,.sl false [.sl false [.i .i64 0,.s []] []] []]] [])),aw [.sl [.s [],.i .i64 0,.sl false [.sl false [.i .i64 0,.s []] []] []]],aS 1 7 10]
 (q' 0 [ab 8 false] (.seq (q' 11 [aG 0 3,aN,aK 0] (.block 0 (.loop (q' 15 [ar 14 13] (.seq (.cond (.t 15) .skip (.exit 0)) (.seq (.block 1 (q' 16 [am 14,aV 9]
 (.seq (q' 17 [am 8,ao (.not (.t 17)),am 18,au (.mov (.t 1)) 19 true,au (.fa 0 (.t 3)) 19 true,au (.ld false 1 (.t 21)) 19 true,au (.mov (.t 9)) 19 true,au
 (.ia 3 (.t 22) (.t 23)) 19 true,au (.fa 0 (.t 24)) 19 true,au (.ld false 1 (.t 25)) 19 true,au (.bin .leq (.t 20) (.t 26)) 19 true,ao (.pick (.t 19) (.t 27)
 (bb false))] (.cond (.t 28) (.seq (.regm [(true,2,m' 31 1),(true,3,e' 32 2 5),(false,0,f' 29 0 7),(false,1,l' 30 29),(false,4,c' 33 234 [32]),
 (false,5,o' 34 (.bld [.s,.i .i64,.sl [.sl false [.i .i64 0,.s []] []]] [(0,1,.t 31),(1,2,.t 33)])),(false,6,o' 35 (.bsl 3 1 [.s,.i .i64,.sl
 [.sl false [.i .i64 0,.s []] []]] [(0,.t 34)])),(false,7,o' 36 (.app 3 48 [.s,.i .i64,.sl [.sl false [.i .i64 0,.s []] []]] (.t 30) (.t 35))),(false,
 8,f' 37 0 7),(false,9,s' 1 37 36)] [[(true,2,m' 31 1),(true,3,e' 32 2 5),(false,0,f' 29 0 7),(false,4,c' 33 234 [32]),(true,5,o' 34 (.bld
 [.s,.i .i64,.sl [.sl false [.i .i64 0,.s []] []]] [(0,1,.t 31),(1,2,.t 33)])),(false,1,l' 30 29),(false,6,o' 35 (.bsl 3 1 [.s,.i .i64,.sl [.sl
 false [.i .i64 0,.s []] []]] [(0,.t 34)])),(false,7,o' 36 (.app 3 48 [.s,.i .i64,.sl [.sl false [.i .i64 0,.s []] []]] (.t 30) (.t 35))),(false,8,
 f' 37 0 7),(false,9,s' 1 37 36)],[(true,2,m' 31 1),(true,3,e' 32 2 5),(false,0,f' 29 0 7),(false,4,c' 33 234 [32]),(true,5,o' 34 (.bld [.s,
 .i .i64,.sl [.sl false [.i .i64 0,.s []] []]] [(0,1,.t 31),(1,2,.t 33)])),(false,6,o' 35 (.bsl 3 1 [.s,.i .i64,.sl [.sl false [.i .i64 0,.s []]
 []]] [(0,.t 34)])),(false,1,l' 30 29),(false,7,o' 36 (.app 3 48 [.s,.i .i64,.sl [.sl false [.i .i64 0,.s []] []]] (.t 30) (.t 35))),(false,8,f'
 37 0 7),(false,9,s' 1 37 36)],[(true,2,m' 31 1),(true,3,e' 32 2 5),(false,4,c' 33 234 [32]),(true,5,o' 34 (.bld [.s,.i .i64,.sl [.sl false
 [.i .i64 0,.s []] []]] [(0,1,.t 31),(1,2,.t 33)])),(false,0,f' 29 0 7),(false,1,l' 30 29),(false,6,o' 35 (.bsl 3 1 [.s,.i .i64,.sl [.sl false
 [.i .i64 0,.s []] []]] [(0,.t 34)])),(false,7,o' 36 (.app 3 48 [.s,.i .i64,.sl [.sl false [.i .i64 0,.s []] []]] (.t 30) (.t 35))),(false,8,f' 37 0
 7),(false,9,s' 1 37 36)],[(true,2,m' 31 1),(true,3,e' 32 2 5),(false,4,c' 33 234 [32]),(true,5,o' 34 (.bld [.s,.i .i64,.sl [.sl false [.i
 .i64 0,.s []] []]] [(0,1,.t 31),(1,2,.t 33)])),(false,0,f' 29 0 7),(false,6,o' 35 (.bsl 3 1 [.s,.i .i64,.sl [.sl false [.i .i64 0,.s []] []]]
 [(0,.t 34)])),(false,1,l' 30 29),(false,7,o' 36 (.app 3 48 [.s,.i .i64,.sl [.sl false [.i .i64 0,.s []] []]] (.t 30) (.t 35))),(false,8,f' 37 0
 7),(false,9,s' 1 37 36)],[(true,2,m' 31 1),(true,3,e' 32 2 5),(false,4,c' 33 234 [32]),(true,5,o' 34 (.bld [.s,.i .i64,.sl [.sl false [.i
 .i64 0,.s []] []]] [(0,1,.t 31),(1,2,.t 33)])),(false,6,o' 35 (.bsl 3 1 [.s,.i .i64,.sl [.sl false [.i .i64 0,.s []] []]] [(0,.t 34)])),(false,
 0,f' 29 0 7),(false,1,l' 30 29),(false,7,o' 36 (.app 3 48 [.s,.i .i64,.sl [.sl false [.i .i64 0,.s []] []]] (.t 30) (.t 35))),(false,8,f' 37 0
 7),(false,9,s' 1 37 36)]] [10,11]) (g' 0 [ab 8 true])) .skip)) (q' 38 [aG 0 3,am 9,aI 3,aG 0 41,am 1,ao (.bin .neq (.t 43) (.t 44))] (.cond (.t 45) (.regm
 [(true,2,f' 48 0 3),(true,3,l' 49 48),(true,4,m' 50 9),(true,5,i' 51 3 49 50),(true,6,f' 52 0 51),(true,7,l' 53 52),(true,8,f' 54 0 3),
 (true,9,l' 55 54),(true,10,m' 56 9),(true,11,i' 57 3 55 56),(true,12,f' 58 1 57),(true,13,e' 59 2 58),(false,0,f' 46 0 7),(false,1,l' 47
 46),(false,14,c' 60 234 [59]),(false,15,o' 61 (.bld [.s,.i .i64,.sl [.sl false [.i .i64 0,.s []] []]] [(0,1,.t 53),(1,2,.t 60)])),(false,16,
 o' 62 (.bsl 3 1 [.s,.i .i64,.sl [.sl false [.i .i64 0,.s []] []]] [(0,.t 61)])),(false,17,o' 63 (.app 3 48 [.s,.i .i64,.sl [.sl false [.i .i64 0,.s
 []] []]] (.t 47) (.t 62))),(false,18,f' 64 0 7),(false,19,s' 1 64 63)] [[(true,2,f' 48 0 3),(true,3,l' 49 48),(true,4,m' 50 9),(true,5,i' 51
 3 49 50),(true,6,f' 52 0 51),(true,7,l' 53 52),(true,8,f' 54 0 3),(true,9,l' 55 54),(true,10,m' 56 9),(true,11,i' 57 3 55 56),(true,12,f'
 58 1 57),(true,13,e' 59 2 58),(false,0,f' 46 0 7),(false,14,c' 60 234 [59]),(true,15,o' 61 (.bld [.s,.i .i64,.sl [.sl false [.i .i64 0,.s []]
 []]] [(0,1,.t 53),(1,2,.t 60)])),(false,1,l' 47 46),(false,16,o' 62 (.bsl 3 1 [.s,.i .i64,.sl [.sl false [.i .i64 0,.s []] []]] [(0,.t 61)])),
 (false,17,o' 63 (.app 3 48 [.s,.i .i64,.sl [.sl false [.i .i64 0,.s []] []]] (.t 47) (.t 62))),(false,18,f' 64 0 7),(false,19,s' 1 64 63)],[(true,
 2,f' 48 0 3),(true,3,l' 49 48),(true,4,m' 50 9),(true,5,i' 51 3 49 50),(true,6,f' 52 0 51),(true,7,l' 53 52),(true,8,f' 54 0 3),(true,9,
 l' 55 54),(true,10,m' 56 9),(true,11,i' 57 3 55 56),(true,12,f' 58 1 57),(true,13,e' 59 2 58),(false,0,f' 46 0 7),(false,14,c' 60 234 [59]),
 (true,15,o' 61 (.bld [.s,.i .i64,.sl [.sl false [.i .i64 0,.s []] []]] [(0,1,.t 53),(1,2,.t 60)])),(false,16,o' 62 (.bsl 3 1 [.s,.i .i64,.sl
 [.sl false [.i .i64 0,.s []] []]] [(0,.t 61)])),(false,1,l' 47 46),(false,17,o' 63 (.app 3 48 [.s,.i .i64,.sl [.sl false [.i .i64 0,.s []] []]] (.t
 47) (.t 62))),(false,18,f' 64 0 7),(false,19,s' 1 64 63)],[(true,2,f' 48 0 3),(true,3,l' 49 48),(true,4,m' 50 9),(true,5,i' 51 3 49 50),
 (true,6,f' 52 0 51),(true,7,l' 53 52),(true,8,f' 54 0 3),(true,9,l' 55 54),(true,10,m' 56 9),(true,11,i' 57 3 55 56),(true,12,f' 58 1 57),
 (true,13,e' 59 2 58),(false,14,c' 60 234 [59]),(true,15,o' 61 (.bld [.s,.i .i64,.sl [.sl false [.i .i64 0,.s []] []]] [(0,1,.t 53),(1,2,.t
 60)])),(false,0,f' 46 0 7),(false,1,l' 47 46),(false,16,o' 62 (.bsl 3 1 [.s,.i .i64,.sl [.sl false [.i .i64 0,.s []] []]] [(0,.t 61)])),(false,
 17,o' 63 (.app 3 48 [.s,.i .i64,.sl [.sl false [.i .i64 0,.s []] []]] (.t 47) (.t 62))),(false,18,f' 64 0 7),(false,19,s' 1 64 63)],[(true,2,f'
 48 0 3),(true,3,l' 49 48),(true,4,m' 50 9),(true,5,i' 51 3 49 50),(true,6,f' 52 0 51),(true,7,l' 53 52),(true,8,f' 54 0 3),(true,9,l' 55
 54),(true,10,m' 56 9),(true,11,i' 57 3 55 56),(true,12,f' 58 1 57),(true,13,e' 59 2 58),(false,14,c' 60 234 [59]),(true,15,o' 61 (.bld [.s,
 .i .i64,.sl [.sl false [.i .i64 0,.s []] []]] [(0,1,.t 53),(1,2,.t 60)])),(false,0,f' 46 0 7),(false,16,o' 62 (.bsl 3 1 [.s,.i .i64,.sl [.sl
 false [.i .i64 0,.s []] []]] [(0,.t 61)])),(false,1,l' 47 46),(false,17,o' 63 (.app 3 48 [.s,.i .i64,.sl [.sl false [.i .i64 0,.s []] []]] (.t 47)
 (.t 62))),(false,18,f' 64 0 7),(false,19,s' 1 64 63)],[(true,2,f' 48 0 3),(true,3,l' 49 48),(true,4,m' 50 9),(true,5,i' 51 3 49 50),(true,
 6,f' 52 0 51),(true,7,l' 53 52),(true,8,f' 54 0 3),(true,9,l' 55 54),(true,10,m' 56 9),(true,11,i' 57 3 55 56),(true,12,f' 58 1 57),(true,
 13,e' 59 2 58),(false,14,c' 60 234 [59]),(true,15,o' 61 (.bld [.s,.i .i64,.sl [.sl false [.i .i64 0,.s []] []]] [(0,1,.t 53),(1,2,.t 60)])),
 (false,16,o' 62 (.bsl 3 1 [.s,.i .i64,.sl [.sl false [.i .i64 0,.s []] []]] [(0,.t 61)])),(false,0,f' 46 0 7),(false,1,l' 47 46),(false,17,o'
 63 (.app 3 48 [.s,.i .i64,.sl [.sl false [.i .i64 0,.s []] []]] (.t 47) (.t 62))),(false,18,f' 64 0 7),(false,19,s' 1 64 63)]] [6,7]) .skip))))) (g'
 65 [aA 14]))))))) (.seq (q' 66 [am 8,ao (.not (.t 66))] (.cond (.t 67) (.regm [(true,2,m' 70 1),(true,3,e' 71 2 5),(false,0,f' 68 0 7),(false,1,l'
 69 68),(false,4,c' 72 234 [71]),(false,5,o' 73 (.bld [.s,.i .i64,.sl [.sl false [.i .i64 0,.s []] []]] [(0,1,.t 70),(1,2,.t 72)])),(false,6,
 o' 74 (.bsl 3 1 [.s,.i .i64,.sl [.sl false [.i .i64 0,.s []] []]] [(0,.t 73)])),(false,7,o' 75 (.app 3 48 [.s,.i .i64,.sl [.sl false [.i .i64 0,.s
 []] []]] (.t 69) (.t 74))),(false,8,f' 76 0 7),(false,9,s' 1 76 75)] [[(true,2,m' 70 1),(true,3,e' 71 2 5),(false,0,f' 68 0 7),(false,4,c' 72
 234 [71]),(true,5,o' 73 (.bld [.s,.i .i64,.sl [.sl false [.i .i64 0,.s []] []]] [(0,1,.t 70),(1,2,.t 72)])),(false,1,l' 69 68),(false,6,o' 74
 (.bsl 3 1 [.s,.i .i64,.sl [.sl false [.i .i64 0,.s []] []]] [(0,.t 73)])),(false,7,o' 75 (.app 3 48 [.s,.i .i64,.sl [.sl false [.i .i64 0,.s []]
 []]] (.t 69) (.t 74))),(false,8,f' 76 0 7),(false,9,s' 1 76 75)],[(true,2,m' 70 1),(true,3,e' 71 2 5),(false,0,f' 68 0 7),(false,4,c' 72 234
 [71]),(true,5,o' 73 (.bld [.s,.i .i64,.sl [.sl false [.i .i64 0,.s []] []]] [(0,1,.t 70),(1,2,.t 72)])),(false,6,o' 74 (.bsl 3 1 [.s,.i .i64,
 .sl [.sl false [.i .i64 0,.s []] []]] [(0,.t 73)])),(false,1,l' 69 68),(false,7,o' 75 (.app 3 48 [.s,.i .i64,.sl [.sl false [.i .i64 0,.s []] []]]
 (.t 69) (.t 74))),(false,8,f' 76 0 7),(false,9,s' 1 76 75)],[(true,2,m' 70 1),(true,3,e' 71 2 5),(false,4,c' 72 234 [71]),(true,5,o' 73
 (.bld [.s,.i .i64,.sl [.sl false [.i .i64 0,.s []] []]] [(0,1,.t 70),(1,2,.t 72)])),(false,0,f' 68 0 7),(false,1,l' 69 68),(false,6,o' 74
 (.bsl 3 1 [.s,.i .i64,.sl [.sl false [.i .i64 0,.s []] []]] [(0,.t 73)])),(false,7,o' 75 (.app 3 48 [.s,.i .i64,.sl [.sl false [.i .i64 0,.s []]
 []]] (.t 69) (.t 74))),(false,8,f' 76 0 7),(false,9,s' 1 76 75)],[(true,2,m' 70 1),(true,3,e' 71 2 5),(false,4,c' 72 234 [71]),(true,5,o' 73
 (.bld [.s,.i .i64,.sl [.sl false [.i .i64 0,.s []] []]] [(0,1,.t 70),(1,2,.t 72)])),(false,0,f' 68 0 7),(false,6,o' 74 (.bsl 3 1 [.s,.i .i64,
 .sl [.sl false [.i .i64 0,.s []] []]] [(0,.t 73)])),(false,1,l' 69 68),(false,7,o' 75 (.app 3 48 [.s,.i .i64,.sl [.sl false [.i .i64 0,.s []] []]]
 (.t 69) (.t 74))),(false,8,f' 76 0 7),(false,9,s' 1 76 75)],[(true,2,m' 70 1),(true,3,e' 71 2 5),(false,4,c' 72 234 [71]),(true,5,o' 73
 (.bld [.s,.i .i64,.sl [.sl false [.i .i64 0,.s []] []]] [(0,1,.t 70),(1,2,.t 72)])),(false,6,o' 74 (.bsl 3 1 [.s,.i .i64,.sl [.sl false [.i .i64
 0,.s []] []]] [(0,.t 73)])),(false,0,f' 68 0 7),(false,1,l' 69 68),(false,7,o' 75 (.app 3 48 [.s,.i .i64,.sl [.sl false [.i .i64 0,.s []] []]]
 (.t 69) (.t 74))),(false,8,f' 76 0 7),(false,9,s' 1 76 75)]] [10,11]) .skip)) (q' 77 [ae 1 7,aS 1 6 77] .ret)))))
theorem b6w (s:d8) (n:List UInt8) (r:f8) (hpre:((∀ x∈s.Rels,x.Rel.Rows=[])∧r.Rows=[])∧s.Rels.length≤1000):Z9 Tryz.prog 174 [(true,[.sl false [.s [],.i .i64 0,.sl false [.sl false [.i .i64 0,.s []] []] []] (s.Rels.map (c9.cells false false))]),(false,[.s n]),(true,[.i .i64 r.Arity,.sl false [.sl false [.i .i64 0,.s []] []] (r.Rows.map (d6.cells false false))])] [] (.one (true,[.sl false [.s [],.i .i64 0,.sl false [.sl false [.i .i64 0,.s []] []] []] (((⟨a5i s.Rels n ⟨n,⟨r.Arity,[]⟩⟩⟩:d8).Rels).map (c9.cells false false))])):=by
 refine sx' false true none Tryz.func174 b2Q [.c 6 true 1] [(234,[],a2V)] ?_
 intro hb hE
 obtain ⟨⟨hz,hr⟩,hlen⟩:=hpre
 have hgz:∀ i,(s.Rels.getD i default).Rel.Rows=[]:=fun i=>by
  by_cases h:i < s.Rels.length
  ·exact hz _ (A3q h)
  ·rw [show s.Rels.getD i default=default by simp [List.getD,List.getElem?_eq_none (by omega:s.Rels.length≤i)]];rfl
 simp only [go_sem,hr,hgz];(repeat' first | apply CJ.mk | intro hc | apply c2z);(all_goals (try ((first | refine a8G 12 rfl ?_ | refine a8G 2 rfl ?_);intro S hS B0 hB;simp only [go_sem,hr,hgz,List.take_succ_cons,List.take_zero] at hS hB;(repeat (first | replace hS:=And.right hS | replace hS:=CJ.r hS));have Rr7:=congrArg (fun s:St=>s.sl 7) hS;have Rr31:=congrArg (fun s:St=>s.sl 31) hS;have Rr32:=congrArg (fun s:St=>s.sl 32) hS;have Rr53:=congrArg (fun s:St=>s.sl 53) hS;have Rr59:=congrArg (fun s:St=>s.sl 59) hS;have Rr70:=congrArg (fun s:St=>s.sl 70) hS;have Rr71:=congrArg (fun s:St=>s.sl 71) hS;have Rb6:=congrArg (fun s:St=>s.bx 6) hS;have Rb7:=congrArg (fun s:St=>s.bx 7) hS;have Rb10:=congrArg (fun s:St=>s.bx 10) hS;have Rb11:=congrArg (fun s:St=>s.bx 11) hS;have Rb14:=congrArg (fun s:St=>s.bx 14) hS;have Ro200028:=congrArg (fun s:St=>s.ow 200028) hS;have Ro4608:=congrArg (fun s:St=>s.ow 4608) hS;clear hS;simp only [go_sem,hr,hgz] at Rr7 Rr31 Rr32 Rr53 Rr59 Rr70 Rr71 Rb6 Rb7 Rb10 Rb11 Rb14 Ro200028 Ro4608;(try clear hc);intro K hc;simp only [go_sem,hr,hgz,Rr7,Rr31,Rr32,Rr53,Rr59,Rr70,Rr71,Rb6,Rb7,Rb10,Rb11,Rb14,Ro200028,Ro4608,hB,List.map_cons,List.map_nil,List.drop_succ_cons,List.drop_zero] at hc ⊢;simp only [go_sem,hr,hgz,Rr7,Rr31,Rr32,Rr53,Rr59,Rr70,Rr71,Rb6,Rb7,Rb10,Rb11,Rb14,Ro200028,Ro4608,hB,A6X,A7b,A6p,A6o,A6W,A6n,nf_put_sub,A6Z,A6Y,nf_put_susK,nf_put_dip,nf_put_put,A7a,A6V,A6q,a5s,a5r,nf_sub_sub] at hc ⊢;simp only [hc,and_self,true_and];done)));all_goals try exact om'
 refine lk' false [(true,14,0,200028)] [1,3,5,6,7,13] [6,10,12,7,11] [] (fun i:{i:Nat // i≤s.Rels.length}=>[(8,slV (.b (a6i n ⟨n,⟨r.Arity,[]⟩⟩ (s.Rels.take i.1)).2)),(14,slV (.i .i64 i.1))]) (fun i=>[(14,[.ow 200028])]) (fun i=>[(200028,[.s [],.i .i64 0,.sl false [.sl false [.i .i64 0,.s []] []] []],((a6i n ⟨n,⟨r.Arity,[]⟩⟩ (s.Rels.take i.1)).1).map (c9.cells false false))]) (fun i=>s.Rels.length - i.1) (⟨0,by simp⟩) ?_
 intro S0 hS0 i
 obtain ⟨i,hi⟩:=i
 generalize hfo:a6i n ⟨n,⟨r.Arity,[]⟩⟩ (s.Rels.take i)=q
 obtain ⟨q1,q2⟩:=q
 have hql:q1.length≤2 * i:=by
  have h:=b6W n ⟨n,⟨r.Arity,[]⟩⟩ (s.Rels.take i) [] false
  rw [show (s.Rels.take i).foldl (a0k n ⟨n,⟨r.Arity,[]⟩⟩) ([],false)=(q1,q2) from hfo] at h
  rw [List.length_take] at h
  simp only [List.length_nil] at h
  omega
 simp only [go_sem,hr,hgz,hS0,hfo];(repeat' first | apply CJ.mk | intro hc | apply c2z);(all_goals (try ((first | refine a8G 12 rfl ?_ | refine a8G 2 rfl ?_);intro S hS B0 hB;simp only [go_sem,hr,hgz,hS0,hfo,List.take_succ_cons,List.take_zero] at hS hB;(repeat (first | replace hS:=And.right hS | replace hS:=CJ.r hS));have Rr7:=congrArg (fun s:St=>s.sl 7) hS;have Rr31:=congrArg (fun s:St=>s.sl 31) hS;have Rr32:=congrArg (fun s:St=>s.sl 32) hS;have Rr53:=congrArg (fun s:St=>s.sl 53) hS;have Rr59:=congrArg (fun s:St=>s.sl 59) hS;have Rr70:=congrArg (fun s:St=>s.sl 70) hS;have Rr71:=congrArg (fun s:St=>s.sl 71) hS;have Rb6:=congrArg (fun s:St=>s.bx 6) hS;have Rb7:=congrArg (fun s:St=>s.bx 7) hS;have Rb10:=congrArg (fun s:St=>s.bx 10) hS;have Rb11:=congrArg (fun s:St=>s.bx 11) hS;have Rb14:=congrArg (fun s:St=>s.bx 14) hS;have Ro200028:=congrArg (fun s:St=>s.ow 200028) hS;have Ro4608:=congrArg (fun s:St=>s.ow 4608) hS;clear hS;simp only [go_sem,hr,hgz,hS0,hfo] at Rr7 Rr31 Rr32 Rr53 Rr59 Rr70 Rr71 Rb6 Rb7 Rb10 Rb11 Rb14 Ro200028 Ro4608;(try clear hc);intro K hc;simp only [go_sem,hr,hgz,hS0,hfo,Rr7,Rr31,Rr32,Rr53,Rr59,Rr70,Rr71,Rb6,Rb7,Rb10,Rb11,Rb14,Ro200028,Ro4608,hB,List.map_cons,List.map_nil,List.drop_succ_cons,List.drop_zero] at hc ⊢;simp only [go_sem,hr,hgz,hS0,hfo,Rr7,Rr31,Rr32,Rr53,Rr59,Rr70,Rr71,Rb6,Rb7,Rb10,Rb11,Rb14,Ro200028,Ro4608,hB,A6X,A7b,A6p,A6o,A6W,A6n,nf_put_sub,A6Z,A6Y,nf_put_susK,nf_put_dip,nf_put_put,A7a,A6V,A6q,a5s,a5r,nf_sub_sub] at hc ⊢;simp only [hc,and_self,true_and];done)));all_goals try exact om'
 ·rename_i hy
  have hs:=a3u n ⟨n,⟨r.Arity,[]⟩⟩ (l:=s.Rels) (i:=i) (by omega)
  rw [hfo,b7k hy,hc] at hs
  simp only [cond_true,cond_false,List.append_nil] at hs
  (refine lpK_n2 (⟨i+1,by omega⟩) _ (by simp only [go_sem,hr,hgz];try rfl) ?_;simp only [go_sem,hr,hgz,hS0,hfo,hs];first | done | ((repeat' apply And.intro)<;>try exact on'))
  all_goals first | done | (simp only [List.map_append,List.map_cons,List.map_nil,a3s (hgz i),C.freeRs,List.append_assoc];first | done | rfl) | trace_state
 ·rename_i hy
  have hs:=a3u n ⟨n,⟨r.Arity,[]⟩⟩ (l:=s.Rels) (i:=i) (by omega)
  rw [hfo,b7k hy,hc] at hs
  simp only [cond_true,cond_false,List.append_nil] at hs
  (refine lpK_n2 (⟨i+1,by omega⟩) _ (by simp only [go_sem,hr,hgz];try rfl) ?_;simp only [go_sem,hr,hgz,hS0,hfo,hs];first | done | ((repeat' apply And.intro)<;>try exact on'))
  all_goals first | done | (simp only [List.map_append,List.map_cons,List.map_nil,a3s (hgz i),C.freeRs,List.append_assoc];first | done | rfl) | trace_state
 ·rename_i hy
  have hs:=a3u n ⟨n,⟨r.Arity,[]⟩⟩ (l:=s.Rels) (i:=i) (by omega)
  rw [hfo,c0t hy,hc] at hs
  simp only [cond_true,cond_false,List.append_nil] at hs
  (refine lpK_n2 (⟨i+1,by omega⟩) _ (by simp only [go_sem,hr,hgz];try rfl) ?_;simp only [go_sem,hr,hgz,hS0,hfo,hs];first | done | ((repeat' apply And.intro)<;>try exact on'))
  all_goals first | done | (simp only [List.map_append,List.map_cons,List.map_nil,a3s (hgz i),C.freeRs,List.append_assoc];first | done | rfl) | trace_state
 ·rename_i hy
  have hs:=a3u n ⟨n,⟨r.Arity,[]⟩⟩ (l:=s.Rels) (i:=i) (by omega)
  rw [hfo,c0t hy,hc] at hs
  simp only [cond_true,cond_false,List.append_nil] at hs
  (refine lpK_n2 (⟨i+1,by omega⟩) _ (by simp only [go_sem,hr,hgz];try rfl) ?_;simp only [go_sem,hr,hgz,hS0,hfo,hs];first | done | ((repeat' apply And.intro)<;>try exact on'))
  all_goals first | done | (simp only [List.map_append,List.map_cons,List.map_nil,a3s (hgz i),C.freeRs,List.append_assoc];first | done | rfl) | trace_state
 ·have hn:¬ i < s.Rels.length:=by omega
  rw [f9 (by omega)] at hfo
  rw [a5i,hfo,hc]
  simp only [cond_false]
  have e2:=a2i false false (q1++[(⟨n,⟨r.Arity,[]⟩⟩:c9)])
  rw [List.map_append] at e2 ⊢
  exact e2
 ·rw [f9 (by omega)] at hfo
  rw [a5i,hfo,hc]
  rfl
noncomputable def a2B:CT:=l5 (fun (x:d8×(List UInt8)×f8) h=>b6w x.1 x.2.1 x.2.2 h)
@[go_sem] def a9j:=fun x0 n x1 x2=>nm' (fP' a2B rfl (⟨x0⟩,n,⟨x1,x2⟩))
end Go.Aw
