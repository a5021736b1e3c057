/- Empty states of a program: the reference's. No condition. -/
import Derived.Test.YtmcaephohoicnaaGreatvcT17
import Derived.Test.YtmcaephohoicnaaGreatpBx8vc
namespace Go.Aw
open Go.Proofs
attribute [local irreducible] aft blk lpK retK AW A0c
set_option linter.all false
set_option maxRecDepth 100000
set_option maxHeartbeats 40000000
attribute [local irreducible] RM
@[go_sem] def a6c:ACode:=q' 1 [ao (.box 2 (.t 0)),aw [.i .i64,.sl l6]] (q' 5 [aG 0 1,ao (.bld [.i .i64,.sl l6] [(0,1,.t
 6)]),ax (w' 3 [.i .i64,.sl l6]),aS 2 3 7] (.seq (q' 8 [aG 1 1,aN,aK 0] (.block 0 (.loop (q' 12 [ar 11 10] (.seq (.cond (.t 12)
 .skip (.exit 0)) (.seq (.block 1 (q' 13 [am 11,aV 4] (rm' [(true,2,f' 16 1 1),(true,3,l' 17 16),(true,4,m' 18 4),(true,5,i' 19 1 17 18),(true,6,
 e' 20 1 19),(false,0,f' 14 1 3),(false,1,l' 15 14),(false,7,c' 21 162 [20]),(false,8,o' 22 (.bsl 1 1 [.sl l5] [(0,.t 21)])),
 (false,9,o' 23 (.app 1 24 [.sl l5] (.t 15) (.t 22))),(false,10,f' 24 1 3),(false,11,s' 1 24 23)] [[0,1,2,3,4,5,7,6,8,9,10,
 11],[0,1,2,3,4,5,7,8,6,9,10,11],[0,1,2,3,4,7,5,6,8,9,10,11],[0,1,2,3,4,7,5,8,6,9,10,11],[0,1,2,3,4,7,8,5,6,9,
 10,11]] [2,3]))) (g' 25 [aA 11]))))))) (q' 26 [ae 2 3,aS 2 2 26] .ret)))
def b3H (a:Int):A0c Tryz.prog 199 [(true,[.i .i64 a,.sl false l6 []])] [] (.one (true,[.i .i64 ((⟨a,[]⟩:e7).Arity),w4 ((⟨a,[]⟩:e7).Rows)])):=by
 refine sx' false true none Tryz.func199 a6c [.c 2 true 2] [] ?_;intro hb hE;simp only [go_sem];(repeat' first | apply cj' | intro hc | apply a0B);(all_goals (try ((first | refine a0T 5 rfl ?_);intro S hS B0 hB;simp only [go_sem,q0G,q1B] at hS hB;(repeat (first | replace hS:=And.right hS | replace hS:=CJ.r hS));have Rr1:=congrArg (fun s:St=>s.sl 1) hS;have Rr3:=congrArg (fun s:St=>s.sl 3) hS;have Rr4:=congrArg (fun s:St=>s.sl 4) hS;have Rb2:=congrArg (fun s:St=>s.bx 2) hS;have Rb3:=congrArg (fun s:St=>s.bx 3) hS;have Rb4:=congrArg (fun s:St=>s.bx 4) hS;have Rb6:=congrArg (fun s:St=>s.bx 6) hS;clear hS;simp only [go_sem] at Rr1 Rr3 Rr4 Rb2 Rb3 Rb4 Rb6;(try clear hc);intro K hc;simp only [go_sem,Rr1,Rr3,Rr4,Rb2,Rb3,Rb4,Rb6,hB,q0F,q1N,q0I,q0T] at hc ⊢;simp only [go_sem,Rr1,Rr3,Rr4,Rb2,Rb3,Rb4,Rb6,hB,A7d,A7h,A6v,A6u,A7c,A6t,nf_put_sub,A7f,A7e,nf_put_susK,nf_put_dip,nf_put_put,A7g,A7b,A6w,n9,n7,m9,n0,n8,nf_sub_sub] at hc ⊢;simp only [hc,q2E,q0W];done)));all_goals try exact om'
 refine lq' false [1,2,3,10] [2,4,3] [] (fun i:Unit=>[(11,slV (.i .i64 0))]) (fun i=>[(6,[.c (.i .i64 a),.nl l6])]) nl' (fun i=>0) () ?_;intro S0 hS0 i;simp only [go_sem,hS0];(repeat' first | apply cj' | intro hc | apply a0B);(all_goals (try ((first | refine a0T 5 rfl ?_);intro S hS B0 hB;simp only [go_sem,hS0,q0G,q1B] at hS hB;(repeat (first | replace hS:=And.right hS | replace hS:=CJ.r hS));have Rr1:=congrArg (fun s:St=>s.sl 1) hS;have Rr3:=congrArg (fun s:St=>s.sl 3) hS;have Rr4:=congrArg (fun s:St=>s.sl 4) hS;have Rb2:=congrArg (fun s:St=>s.bx 2) hS;have Rb3:=congrArg (fun s:St=>s.bx 3) hS;have Rb4:=congrArg (fun s:St=>s.bx 4) hS;have Rb6:=congrArg (fun s:St=>s.bx 6) hS;clear hS;simp only [go_sem,hS0] at Rr1 Rr3 Rr4 Rb2 Rb3 Rb4 Rb6;(try clear hc);intro K hc;simp only [go_sem,hS0,Rr1,Rr3,Rr4,Rb2,Rb3,Rb4,Rb6,hB,q0F,q1N,q0I,q0T] at hc ⊢;simp only [go_sem,hS0,Rr1,Rr3,Rr4,Rb2,Rb3,Rb4,Rb6,hB,A7d,A7h,A6v,A6u,A7c,A6t,nf_put_sub,A7f,A7e,nf_put_susK,nf_put_dip,nf_put_put,A7g,A7b,A6w,n9,n7,m9,n0,n8,nf_sub_sub] at hc ⊢;simp only [hc,q2E,q0W];done)));all_goals try exact om'
 all_goals first
  | (exfalso;simp at hc;done)
  | (exfalso;simp at *;done)
  | trace_state
noncomputable def a5q:CT:=i9 (fun (x:Int)=>b3H x)
@[go_sem] def c7G:=fun a=>nm' (fQ' a5q rfl a)
def c9G (n x:List UInt8):(Op.bytesLess n x || n==x)=!sLt x n:=by
 cases h1:Op.bytesLess n x with
 | true=>
   cases h2:sLt x n with
   | true=>have h3:=a1r _ _ _ h1 h2;rw [a0O] at h3;cases h3
   | false=>rfl
 | false=>
   cases h2:sLt x n with
   | true=>
     have:(n==x)=false:=beq_eq_false_iff_ne.2 fun e=>by subst e;have h3:sLt n n=false:=a0O n;rw [h3] at h2;cases h2
     rw [this];rfl
   | false=>rw [a2p _ _ h1 h2];simp
def a8x {n:List UInt8} {v x:c9} {q1:List c9} {q2:Bool} (h:q2=false/\(Op.bytesLess n x.Name=true\/(n==x.Name)=true)):a1n n v (q1,q2) x=(q1++[v]++(bif x.Name==n then [] else [x]),true):=by
 have h2:(!sLt x.Name n)=true:=by rw [<- c9G,q2T];exact h.2
 rw [a1n,h.1,h2];rfl
def b2a {n:List UInt8} {v x:c9} {q1:List c9} {q2:Bool} (h:(!q2&&(Op.bytesLess n x.Name || n==x.Name))=false):a1n n v (q1,q2) x=(q1++(bif x.Name==n then [] else [x]),q2):=by
 rw [c9G] at h;rw [a1n,h,V2];cases q2 with
 | true=>rfl
 | false=>
   have h2:(!sLt x.Name n)=false:=by simpa using h
   rw [h2];rfl
def b3e (n:List UInt8) (v:c9):∀ (l q:List c9) (b:Bool),(l.foldl (a1n n v) (q,b)).1.length<=q.length+2 * l.length
 | [],q,b=>by simp
 | x::l,q,b=>by
   rw [q2A];have h:=b3e n v l (a1n n v (q,b) x).1 (a1n n v (q,b) x).2;have h2:(a1n n v (q,b) x).1.length<=q.length+2:=by
    simp only [a1n];cases !b&&!sLt x.Name n<;>cases x.Name==n<;>simp<;>omega
   have e:((a1n n v (q,b) x).1,(a1n n v (q,b) x).2)=a1n n v (q,b) x:=rfl;rw [e] at h;simp only [V8];omega
def a5Q {x:c9} (h:x.Rel.Rows=[]):c9.cells false false x=[.s x.Name,.i .i64 x.Rel.Arity,.sl false l6 []]:=by
 cases x with
 | mk a b=>
   cases b with
   | mk c d=>cases h;rfl
@[go_sem] def a6Y:ACode:=q' 5 [ax (o' 3 (.box 1 (.t 0))),ao (.box 2 (.t 2)),aw [.sl i6]] (q' 7 [ax (o' 10 (.bld [.sl i6] [])),aw [.sl i6],aS 1 7 10]
 (q' 0 [ab 8 false] (.seq (q' 11 [aG 0 3,aN,aK 0] (.block 0 (.loop (q' 15 [ar 14 13] (.seq (.cond (.t 15) .skip (.exit 0)) (.seq (.block 1 (q' 16 [am 14,aV 9]
 (.seq (q' 17 [am 8,ao (.not (.t 17)),am 18,au (.mov (.t 1)) 19 true,au (.fa 0 (.t 3)) 19 true,au (.ld false 1 (.t 21)) 19 true,au (.mov (.t 9)) 19 true,au
 (.ia 3 (.t 22) (.t 23)) 19 true,au (.fa 0 (.t 24)) 19 true,au (.ld false 1 (.t 25)) 19 true,au (.bin .leq (.t 20) (.t 26)) 19 true,ao (.pick (.t 19) (.t 27)
 (bb false))] (.cond (.t 28) (.seq (rm' [(true,2,m' 31 1),(true,3,e' 32 2 5),(false,0,f' 29 0 7),(false,1,l' 30 29),(false,4,c' 33 199 [32]),
 (false,5,o' 34 (.bld [.s,.i .i64,.sl l6] [(0,1,.t 31),(1,2,.t 33)])),(false,6,o' 35 (.bsl 3 1 [.s,.i .i64,.sl
 l6] [(0,.t 34)])),(false,7,o' 36 (.app 3 48 [.s,.i .i64,.sl l6] (.t 30) (.t 35))),(false,
 8,f' 37 0 7),(false,9,s' 1 37 36)] [[0,1,2,4,3,5,6,7,8,9],[0,1,2,4,5,3,6,7,8,9],[0,1,2,4,5,6,3,7,8,9],[0,1,4,2,3,5,6,
 7,8,9],[0,1,4,2,5,3,6,7,8,9],[0,1,4,2,5,6,3,7,8,9],[0,1,4,5,2,3,6,7,8,9],[0,1,4,5,2,6,3,7,8,9],[0,1,4,5,6,2,
 3,7,8,9]] [10,11]) (g' 0 [ab 8 true])) .skip)) (q' 38 [aG 0 3,am 9,aI 3,aG 0 41,am 1,ao (.bin .neq (.t 43) (.t 44))] (.cond (.t 45) (rm' [(true,2,f' 48
 0 3),(true,3,l' 49 48),(true,4,m' 50 9),(true,5,i' 51 3 49 50),(true,6,f' 52 0 51),(true,7,l' 53 52),(true,8,f' 54 0 3),(true,9,l' 55
 54),(true,10,m' 56 9),(true,11,i' 57 3 55 56),(true,12,f' 58 1 57),(true,13,e' 59 2 58),(false,0,f' 46 0 7),(false,1,l' 47 46),(false,14,
 c' 60 199 [59]),(false,15,o' 61 (.bld [.s,.i .i64,.sl l6] [(0,1,.t 53),(1,2,.t 60)])),(false,16,o' 62 (.bsl 3 1
 [.s,.i .i64,.sl l6] [(0,.t 61)])),(false,17,o' 63 (.app 3 48 [.s,.i .i64,.sl l6] (.t 47)
 (.t 62))),(false,18,f' 64 0 7),(false,19,s' 1 64 63)] [[0,1,2,3,4,5,6,7,8,9,10,11,12,14,13,15,16,17,18,19],[0,1,2,3,4,5,6,7,
 8,9,10,11,12,14,15,13,16,17,18,19],[0,1,2,3,4,5,6,7,8,9,10,11,12,14,15,16,13,17,18,19],[0,1,2,3,4,5,6,7,8,9,10,11,
 14,12,13,15,16,17,18,19],[0,1,2,3,4,5,6,7,8,9,10,11,14,12,15,13,16,17,18,19],[0,1,2,3,4,5,6,7,8,9,10,11,14,12,15,
 16,13,17,18,19],[0,1,2,3,4,5,6,7,8,9,10,11,14,15,12,13,16,17,18,19],[0,1,2,3,4,5,6,7,8,9,10,11,14,15,12,16,13,17,
 18,19],[0,1,2,3,4,5,6,7,8,9,10,11,14,15,16,12,13,17,18,19]] [6,7]) .skip))))) (g' 65 [aA 14]))))))) (.seq (q' 66 [am 8,ao (.not (.t
 66))] (.cond (.t 67) (rm' [(true,2,m' 70 1),(true,3,e' 71 2 5),(false,0,f' 68 0 7),(false,1,l' 69 68),(false,4,c' 72 199 [71]),(false,5,o' 73
 (.bld [.s,.i .i64,.sl l6] [(0,1,.t 70),(1,2,.t 72)])),(false,6,o' 74 (.bsl 3 1 [.s,.i .i64,.sl l6] [(0,.t 73)])),(false,7,o' 75 (.app 3 48 [.s,.i .i64,.sl l6] (.t 69) (.t 74))),(false,8,f' 76 0 7),
 (false,9,s' 1 76 75)] [[0,1,2,4,3,5,6,7,8,9],[0,1,2,4,5,3,6,7,8,9],[0,1,2,4,5,6,3,7,8,9],[0,1,4,2,3,5,6,7,8,9],[0,
 1,4,2,5,3,6,7,8,9],[0,1,4,2,5,6,3,7,8,9],[0,1,4,5,2,3,6,7,8,9],[0,1,4,5,2,6,3,7,8,9],[0,1,4,5,6,2,3,7,8,9]]
 [10,11]) .skip)) (q' 77 [ae 1 7,aS 1 6 77] .ret)))))
def c1O (s:c8) (n:List UInt8) (r:e7) (hpre:((∀ x∈s.Rels,x.Rel.Rows=[])/\r.Rows=[])/\s.Rels.length<=1000):A0c Tryz.prog 138 [(true,[i5 s.Rels]),(false,[.s n]),(true,[.i .i64 r.Arity,w4 r.Rows])] [] (.one (true,[i5 ((⟨a1H s.Rels n ⟨n,⟨r.Arity,[]⟩⟩⟩:c8).Rels)])):=by
 refine sx' false true none Tryz.func138 a6Y [.c 6 true 1] [(199,[],a5q)] ?_;intro hb hE;obtain ⟨⟨hz,hr⟩,hlen⟩:=hpre;have hgz:∀ i,(s.Rels.getD i default).Rel.Rows=[]:=fun i=>by
  by_cases h:i < s.Rels.length
  ·exact hz _ (A3v h)
  ·rw [show s.Rels.getD i default=default by simp [List.getD,q4Z (by omega:s.Rels.length<=i)]];rfl
 simp only [go_sem,hr,hgz];(repeat' first | apply cj' | intro hc | apply a0B);(all_goals (try ((first | refine a0T 12 rfl ?_ | refine a0T 2 rfl ?_);intro S hS B0 hB;simp only [go_sem,hr,hgz,q0G,q1B] at hS hB;(repeat (first | replace hS:=And.right hS | replace hS:=CJ.r hS));have Rr7:=congrArg (fun s:St=>s.sl 7) hS;have Rr31:=congrArg (fun s:St=>s.sl 31) hS;have Rr32:=congrArg (fun s:St=>s.sl 32) hS;have Rr53:=congrArg (fun s:St=>s.sl 53) hS;have Rr59:=congrArg (fun s:St=>s.sl 59) hS;have Rr70:=congrArg (fun s:St=>s.sl 70) hS;have Rr71:=congrArg (fun s:St=>s.sl 71) hS;have Rb6:=congrArg (fun s:St=>s.bx 6) hS;have Rb7:=congrArg (fun s:St=>s.bx 7) hS;have Rb10:=congrArg (fun s:St=>s.bx 10) hS;have Rb11:=congrArg (fun s:St=>s.bx 11) hS;have Rb14:=congrArg (fun s:St=>s.bx 14) hS;have Ro200028:=congrArg (fun s:St=>s.ow 200028) hS;have Ro4608:=congrArg (fun s:St=>s.ow 4608) hS;clear hS;simp only [go_sem,hr,hgz] at Rr7 Rr31 Rr32 Rr53 Rr59 Rr70 Rr71 Rb6 Rb7 Rb10 Rb11 Rb14 Ro200028 Ro4608;(try clear hc);intro K hc;simp only [go_sem,hr,hgz,Rr7,Rr31,Rr32,Rr53,Rr59,Rr70,Rr71,Rb6,Rb7,Rb10,Rb11,Rb14,Ro200028,Ro4608,hB,q0F,q1N,q0I,q0T] at hc ⊢;simp only [go_sem,hr,hgz,Rr7,Rr31,Rr32,Rr53,Rr59,Rr70,Rr71,Rb6,Rb7,Rb10,Rb11,Rb14,Ro200028,Ro4608,hB,A7d,A7h,A6v,A6u,A7c,A6t,nf_put_sub,A7f,A7e,nf_put_susK,nf_put_dip,nf_put_put,A7g,A7b,A6w,n9,n7,m9,n0,n8,nf_sub_sub] at hc ⊢;simp only [hc,q2E,q0W];done)));all_goals try exact om'
 refine lk' false [(true,14,0,200028)] [1,3,5,6,7,13] [6,10,12,7,11] [] (fun i:{i:Nat // i<=s.Rels.length}=>[(8,slV (.b (a5v n ⟨n,⟨r.Arity,[]⟩⟩ (s.Rels.take i.1)).2)),(14,slV (.i .i64 i.1))]) (fun i=>[(14,[.ow 200028])]) (fun i=>[(200028,i6,((a5v n ⟨n,⟨r.Arity,[]⟩⟩ (s.Rels.take i.1)).1).map (c9.cells false false))]) (fun i=>s.Rels.length - i.1) (⟨0,by simp⟩) ?_;intro S0 hS0 i;obtain ⟨i,hi⟩:=i;generalize hfo:a5v n ⟨n,⟨r.Arity,[]⟩⟩ (s.Rels.take i)=q;obtain ⟨q1,q2⟩:=q;have hql:q1.length<=2 * i:=by
  have h:=b3e n ⟨n,⟨r.Arity,[]⟩⟩ (s.Rels.take i) [] false;rw [show (s.Rels.take i).foldl (a1n n ⟨n,⟨r.Arity,[]⟩⟩) ([],false)=(q1,q2) from hfo] at h;rw [V1] at h;simp only [q1Z] at h;omega
 simp only [go_sem,hr,hgz,hS0,hfo];(repeat' first | apply cj' | intro hc | apply a0B);(all_goals (try ((first | refine a0T 12 rfl ?_ | refine a0T 2 rfl ?_);intro S hS B0 hB;simp only [go_sem,hr,hgz,hS0,hfo,q0G,q1B] at hS hB;(repeat (first | replace hS:=And.right hS | replace hS:=CJ.r hS));have Rr7:=congrArg (fun s:St=>s.sl 7) hS;have Rr31:=congrArg (fun s:St=>s.sl 31) hS;have Rr32:=congrArg (fun s:St=>s.sl 32) hS;have Rr53:=congrArg (fun s:St=>s.sl 53) hS;have Rr59:=congrArg (fun s:St=>s.sl 59) hS;have Rr70:=congrArg (fun s:St=>s.sl 70) hS;have Rr71:=congrArg (fun s:St=>s.sl 71) hS;have Rb6:=congrArg (fun s:St=>s.bx 6) hS;have Rb7:=congrArg (fun s:St=>s.bx 7) hS;have Rb10:=congrArg (fun s:St=>s.bx 10) hS;have Rb11:=congrArg (fun s:St=>s.bx 11) hS;have Rb14:=congrArg (fun s:St=>s.bx 14) hS;have Ro200028:=congrArg (fun s:St=>s.ow 200028) hS;have Ro4608:=congrArg (fun s:St=>s.ow 4608) hS;clear hS;simp only [go_sem,hr,hgz,hS0,hfo] at Rr7 Rr31 Rr32 Rr53 Rr59 Rr70 Rr71 Rb6 Rb7 Rb10 Rb11 Rb14 Ro200028 Ro4608;(try clear hc);intro K hc;simp only [go_sem,hr,hgz,hS0,hfo,Rr7,Rr31,Rr32,Rr53,Rr59,Rr70,Rr71,Rb6,Rb7,Rb10,Rb11,Rb14,Ro200028,Ro4608,hB,q0F,q1N,q0I,q0T] at hc ⊢;simp only [go_sem,hr,hgz,hS0,hfo,Rr7,Rr31,Rr32,Rr53,Rr59,Rr70,Rr71,Rb6,Rb7,Rb10,Rb11,Rb14,Ro200028,Ro4608,hB,A7d,A7h,A6v,A6u,A7c,A6t,nf_put_sub,A7f,A7e,nf_put_susK,nf_put_dip,nf_put_put,A7g,A7b,A6w,n9,n7,m9,n0,n8,nf_sub_sub] at hc ⊢;simp only [hc,q2E,q0W];done)));all_goals try exact om'
 ·rename_i hy;have hs:=a0Y n ⟨n,⟨r.Arity,[]⟩⟩ (l:=s.Rels) (i:=i) (by omega);rw [hfo,a8x hy,hc] at hs;simp only [W9,V2,q0D] at hs
  (refine lpK_n2 (⟨i+1,by omega⟩) _ (by simp only [go_sem,hr,hgz];try rfl) ?_;simp only [go_sem,hr,hgz,hS0,hfo,hs]<;>repeat' first | apply V0 | exact on' | fail)
  all_goals first | done | (simp only [q1F,q0F,q1N,a5Q (hgz i),C.freeRs,q0P];first | done | rfl) | trace_state
 ·rename_i hy;have hs:=a0Y n ⟨n,⟨r.Arity,[]⟩⟩ (l:=s.Rels) (i:=i) (by omega);rw [hfo,a8x hy,hc] at hs;simp only [W9,V2,q0D] at hs
  (refine lpK_n2 (⟨i+1,by omega⟩) _ (by simp only [go_sem,hr,hgz];try rfl) ?_;simp only [go_sem,hr,hgz,hS0,hfo,hs]<;>repeat' first | apply V0 | exact on' | fail)
  all_goals first | done | (simp only [q1F,q0F,q1N,a5Q (hgz i),C.freeRs,q0P];first | done | rfl) | trace_state
 ·rename_i hy;have hs:=a0Y n ⟨n,⟨r.Arity,[]⟩⟩ (l:=s.Rels) (i:=i) (by omega);rw [hfo,b2a hy,hc] at hs;simp only [W9,V2,q0D] at hs
  (refine lpK_n2 (⟨i+1,by omega⟩) _ (by simp only [go_sem,hr,hgz];try rfl) ?_;simp only [go_sem,hr,hgz,hS0,hfo,hs]<;>repeat' first | apply V0 | exact on' | fail)
  all_goals first | done | (simp only [q1F,q0F,q1N,a5Q (hgz i),C.freeRs,q0P];first | done | rfl) | trace_state
 ·rename_i hy;have hs:=a0Y n ⟨n,⟨r.Arity,[]⟩⟩ (l:=s.Rels) (i:=i) (by omega);rw [hfo,b2a hy,hc] at hs;simp only [W9,V2,q0D] at hs
  (refine lpK_n2 (⟨i+1,by omega⟩) _ (by simp only [go_sem,hr,hgz];try rfl) ?_;simp only [go_sem,hr,hgz,hS0,hfo,hs]<;>repeat' first | apply V0 | exact on' | fail)
  all_goals first | done | (simp only [q1F,q0F,q1N,a5Q (hgz i),C.freeRs,q0P];first | done | rfl) | trace_state
 ·have hn:¬ i < s.Rels.length:=by omega
  rw [f8 (by omega)] at hfo;rw [a1H,hfo,hc];simp only [V2];have e2:=a4q false false (q1++[(⟨n,⟨r.Arity,[]⟩⟩:c9)]);rw [q1F] at e2 ⊢;first | exact e2 | rfl
 ·rw [f8 (by omega)] at hfo;rw [a1H,hfo,hc];rfl
noncomputable def a4L:CT:=k9 (fun (x:c8×(List UInt8)×e7) h=>c1O x.1 x.2.1 x.2.2 h)
@[go_sem] def b2W:=fun x0 n x1 x2=>nm' (fP' a4L rfl (⟨x0⟩,n,⟨x1,x2⟩))
end Go.Aw
namespace Go.Aw
open Go.Proofs
attribute [local irreducible] aft blk lpK retK AW A0c
set_option linter.all false
set_option maxRecDepth 100000
def a2D (l:List d8) (v:List UInt8):Int:=((l.find? fun x=>x.Name==v).map d8.N).getD 0
def a1a (l:List d8) (v:List UInt8):Int:=((l.find? fun x=>x.Name==v).map d8.N).getD (-1)
def b1R {p:c4} (g:Lev) {v:List UInt8}:(v∈vwS p->(lvl p g).find? (fun x=>x.Name==v)=some ⟨v,g v⟩)/\(¬ v∈vwS p->(lvl p g).find? (fun x=>x.Name==v)=none):=by
 unfold lvl;generalize vwS p=V
 induction V with
 | nil=>exact ⟨fun h=>by simp at h,fun _=>rfl⟩
 | cons x V ih=>
   refine ⟨fun h=>?_,fun h=>?_⟩
   ·by_cases e:x=v
    ·subst e;simp
    ·have hv:v∈V:=by
      rcases V9.1 h with h | h
      ·exact absurd h.symm e
      ·exact h
     rw [q0F,List.find?_cons_of_neg (by simpa using e)];exact ih.1 hv
   ·simp only [V9,not_or] at h;rw [q0F,List.find?_cons_of_neg (by simpa using fun e=>h.1 e.symm)];exact ih.2 h.2
def a5A {p:c4} (g:Lev) {v:List UInt8} (h:v∈vwS p):a2D (lvl p g) v=g v:=by rw [a2D,(b1R g).1 h];rfl
def c2w {p:c4} (g:Lev) {v:List UInt8} (h:v∈vwS p):a1a (lvl p g) v=g v:=by rw [a1a,(b1R g).1 h];rfl
def c6E {p:c4} (g:Lev) {v:List UInt8} (h:¬ v∈vwS p):a1a (lvl p g) v=-1:=by rw [a1a,(b1R g).2 h];rfl
def d6j {p:c4} (g:Lev) {v:List UInt8} (h:¬ v∈vwS p):a2D (lvl p g) v=0:=by rw [a2D,(b1R g).2 h];rfl
def lvl_idx {p:c4} {h:List UInt8} (hv:h∈vwS p):∃ m,m < (vwS p).length/\(vwS p).getD m []=h/\(∀ g,a0P (fun y:d8=>y.Name==h) (lvl p g)=(m:Int))/\(∀ g,(lvl p g).getD m default=⟨h,g h⟩)/\∀ g x,(lvl p g).set m ⟨h,x⟩=lvl p (upd g h x):=by
 obtain ⟨m,hm,e⟩:=q1P hv;have e0:(vwS p).getD m []=h:=by rw [i8 [] hm,e]
 have hg:∀ g,(lvl p g).getD m default=⟨h,g h⟩:=fun g=>by rw [c6K p g hm,e0]
 refine ⟨m,hm,e0,fun g=>?_,hg,fun g x=>?_⟩
 ·refine u9 (d:=default) (by rw [a5V];exact hm) ?_ (by rw [hg];simp);rw [q2N];intro y hy;obtain ⟨j,hj,rfl⟩:=q2R.1 hy;have hj2:j < (vwS p).length:=by rw [a5V] at hj;omega
  have hne:(vwS p)[j]≠h:=fun e2=>by
   have:=(List.getElem_inj (b3Y p)).1 (e2.trans e.symm);omega
  simpa [lvl] using hne
 ·have:=d1t p g hm x;rw [e0] at this;exact this
def d4a {p:c4} (hd:∀ j,j < p.Decls.length->s8 p j=false):(vwN p).Nodup:=by
 have h1:(p.Decls.map d9.Name).Nodup:=by
  rw [List.nodup_iff_pairwise_ne,q3Q,q2L];intro i j hi hj hij;have:=a5W hd hj (j:=i) hij;rw [i8 default hi,i8 default hj] at this;exact this
 exact h1.sublist (List.filter_sublist.map _)
def c4K {p:c4} (h:v6 p=true):(vwS p).length<=16:=by
 have h1:=a0t sLt (vwN p) [];have h2:=b3d (fun d:d9=>d.Kind==3) d9.Name p.Decls;simp only [v6,W3,q0B] at h;simp only [q1Z] at h1;rw [vwS];show _<=16;have h3:(vwN p).length<=p.Decls.length:=h2;omega
def b8P (l:List d8) (v:List UInt8):A0c Tryz.prog 255 [(false,[a8n l]),(false,[.s v])] [] (.one (false,[.i .i64 (a2D l v)])):=by
 refine sx' false false none Tryz.func255 (q' 4 [aK 0] (.seq (q' 7 [am 0,aN,aK 0] (.block 0 (.loop (q' 10 [ar 9 8] (.seq (.cond (.t 10) .skip (.exit 0)) (.seq (.block 1 (q' 11 [ai 2 7 9,aE 2,ax (w' 6 [.s,.i .i64]),aS 2 6 12] (q' 13 [aG 0 6,am 1,ao (.bin .eql (.t 14) (.t 15))] (.cond (.t 16) (q' 17 [aG 1 6,aV 4] .ret) .skip)))) (g' 19 [aA 9]))))))) (q' 4 [aK 0] .ret))) [.t 4] [] ?_;intro hb hE;simp only [go_sem];repeat' first | apply cj' | intro hc | exact om' | fail
 refine lq' false [1,7,8] [] [] (fun i:{i:Nat // i<=l.length/\(l.take i).any (fun d=>d.Name==v)=false}=>[(9,slV (.i .i64 i.1))]) nl' nl' (fun i=>l.length - i.1) (⟨0,by simp⟩) ?_;intro S0 hS0 i;obtain ⟨i,hi,ha⟩:=i;simp only [go_sem,hS0];repeat' first | apply cj' | intro hc | exact om' | fail
 ·rw [a2D,c3B (d:=default) (i:=i) (by omega) ha hc];rfl
 ·exact nx0 ⟨i+1,by omega,o6 (p:=fun d:d8=>d.Name==v) default (by omega) ha hc⟩
 ·rw [a2D,a8m (by rwa [f8 (by omega)] at ha)];rfl
noncomputable def a7u:CT:=i9 (fun (x:(List d8)×(List UInt8))=>b8P x.1 x.2)
@[go_sem] def d0p:=fun l v=>nm' (fQ' a7u rfl (l,v))
def b5D (x:d8) (r:c7):A0c Tryz.prog 254 [(true,[.s x.Name,.i .i64 x.N]),(false,[.p [.i .i64 r.Kind,.s r.Head.Name,j8 r.Head.Args,y4 r.Body]])] [] (.one (false,[.b (x.Name==r.Head.Name)])):=by
 refine sx' false false none Tryz.func254 (q' 0 [ax (o' 2 (.box 2 (.t 0))),ab 3 false] (q' 4 [aG 0 2,af 1 1,aG 0 6,ao (.bin .eql (.t 5) (.t 8)),aV 3] .ret)) [.t 3] [] ?_;intro hb hE;simp only [go_sem];repeat' first | apply cj' | intro hc | exact om' | fail
 all_goals (first | rfl)
noncomputable def a6e:CT:=i9 (fun (x:d8×c7)=>b5D x.1 x.2)
@[go_sem] def c8w:=fun x0 x1 x2 x3 x4 x5=>nm' (fQ' a6e rfl (⟨x0,x1⟩,⟨x2,⟨x3,x4⟩,x5⟩))
def c3Q (l:List d8) (r:c7):A0c Tryz.prog 253 [(false,[a8n l]),(false,[.f 254 [.p [.i .i64 r.Kind,.s r.Head.Name,j8 r.Head.Args,y4 r.Body]]])] [] (.one (false,[.i .i64 (a0P (fun y:d8=>y.Name==r.Head.Name) l)])):=by
 refine sx' false false none Tryz.func253 (q' 4 [aK 0] (.seq (q' 6 [am 0,aN,aK 0] (.block 0 (.loop (q' 9 [ar 8 7] (.seq (.cond (.t 9) .skip (.exit 0)) (.seq (.block 1 (q' 10 [am 8,aV 5] (q' 11 [aM [1,0,5],aI 2,aE 2,ao (.callv (.t 11) [.t 15])] (.cond (.t 16) (q' 17 [am 5,aV 4] .ret) .skip)))) (g' 18 [aA 8]))))))) (q' 4 [ao (.mov (.k (.v false [.c (.i .i64 (-1))])))] .ret))) [.t 4] [(254,[],a6e)] ?_;intro hb hE;simp only [go_sem];repeat' first | apply cj' | intro hc | exact om' | fail
 refine lq' false [0,1,7] [] [] (fun i:{i:Nat // i<=l.length/\(l.take i).any (fun y:d8=>y.Name==r.Head.Name)=false}=>[(8,slV (.i .i64 i.1))]) nl' nl' (fun i=>l.length - i.1) (⟨0,by simp⟩) ?_;intro S0 hS0 i;obtain ⟨i,hi,ha⟩:=i;simp only [go_sem,hS0];repeat' first | apply cj' | intro hc | exact om' | fail
 ·exact (u9 (p:=fun y:d8=>y.Name==r.Head.Name) (d:=default) (by omega) ha (by simpa [-List.getD_eq_getElem?_getD] using hc)).symm
 ·exact nx0 ⟨i+1,by omega,o6 (p:=fun y:d8=>y.Name==r.Head.Name) default (by omega) ha (by simpa [-List.getD_eq_getElem?_getD] using hc)⟩
 ·exact (u7 (by rwa [f8 (by omega)] at ha)).symm
noncomputable def b0J:CT:=i9 (fun (x:(List d8)×c7)=>c3Q x.1 x.2)
@[go_sem] def d4f:=fun l x0 x1 x2 x3=>nm' (fQ' b0J rfl (l,⟨x0,⟨x1,x2⟩,x3⟩))
def c5V (l:List d9):List d8:=(l.filter fun d=>d.Kind==3).map fun d=>⟨d.Name,0⟩
def d5L (l:List d9):(c5V l).length<=l.length:=b3d _ _ _
def d3o {p:c4} (hd:∀ j,j < p.Decls.length->s8 p j=false):c4D (c5V p.Decls)=lvl p fun _=>0:=by
 have e:c5V p.Decls=(vwN p).map fun v=>(⟨v,0⟩:d8):=by rw [vwN,q4G];rfl
 rw [e,c7c (d4a hd)];rfl
def a8q {p:c4} {g g3:Lev} {r:c7} {l:d7} {j:Nat} (hr:r∈p.Rules) (hv:r.Head.Name∈vwS p) (hl:l∈r.Body) (hk:l.Kind≠3) (hb:l.Atom.Name∈vwS p) (hL:Low p g3) (ho:∀ v∈vwS p,v≠r.Head.Name->g3 v<=(vwS p).length) (hh:g3 r.Head.Name<=(vwS p).length+j) (hj:j<=300) {x:Int} (hx:x=g3 l.Atom.Name+a8a l) (hlt:g3 r.Head.Name < x) (hM:a2F p g3<=a2F p g):
  Low p (upd g3 r.Head.Name x)/\(∀ v∈vwS p,v≠r.Head.Name->upd g3 r.Head.Name x v<=(vwS p).length)/\upd g3 r.Head.Name x r.Head.Name<=(vwS p).length+(j+1:Nat)/\a2F p (upd g3 r.Head.Name x) < a2F p g:=by
 have hn:a8a l<=1:=by unfold a8a;split<;>omega
 have hb2:g3 l.Atom.Name<=(vwS p).length+j:=by
  by_cases e:l.Atom.Name=r.Head.Name
  ·rw [e];exact hh
  ·have:=ho _ hb e;omega
 refine ⟨by rw [hx];exact hL.up hr hv hl hk hb,fun v hv2 hne=>?_, ?_, ?_⟩
 ·rw [upd,if_neg hne];exact ho v hv2 hne
 ·rw [upd,if_pos rfl];omega
 ·have:=lsum_lt (g:=g3) (n:=x) hv hlt (by omega);omega
def c2A {p:c4} {g:Lev} {h:List UInt8} {l:d7} (hk:(l.Kind==3)=true):a2E p g h l:=fun h=>absurd (by simpa using hk) h
def c2B {p:c4} {g:Lev} {h:List UInt8} {l:d7} (hk:¬ l.Atom.Name∈vwS p):a2E p g h l:=fun _ h=>absurd h hk
def c9H {p:c4} {g:Lev} {h:List UInt8} {l:d7} {x:Int} (hx:x=g l.Atom.Name+a8a l) (hn:¬ g h < x):a2E p g h l:=fun _ _=>by omega
def b9F {l:d7} (h:(l.Kind==2)=true):a8a l=1:=by rw [a8a,if_pos (by simpa using h)]
def c4y {l:d7} (h:(l.Kind==2)=false):a8a l=0:=by rw [a8a,if_neg (by simpa using h)]
def c0Y (p:c4):A0c Tryz.prog 200 [(true,[l4 p.Decls,l3 p.Rules])] [] (.tup [(false,[kTLevel ((f9 p).1)]),(false,[.b ((f9 p).2)])]):=by
 refine sx' false false none Tryz.func200 (q' 1 [ao (.box 2 (.t 0)),ao (.mov (.k (.v false [.nl a0v]))),ao (.mov (bb false))] (.seq (q' 14 [ae 2 1,ac 202 [14],ao (.not (.t 15))] (.cond (.t 16) (q' 0 [ax (o' 2 (.mov (.k (.v false [.nl a0v])))),ab 3 false] .ret) .skip)) (q' 17 [ao (.bsl 2 0 [.s,.i .i64] []),aV 4] (.seq (q' 18 [aG 0 1,aN,aK 0] (.block 0 (.loop (q' 22 [ar 21 20] (.seq (.cond (.t 22) .skip (.exit 0)) (.seq (.block 1 (q' 23 [ai 3 19 21,aE 3,ax (w' 6 [.i .i64,.s,.i .i64]),aS 3 6 24] (q' 25 [aG 0 6,ao (.bin .eql (.t 26) (k' 3))] (.cond (.t 27) (g' 28 [am 4,aG 1 6,ao (.bld [.s,.i .i64] [(0,1,.t 30)]),ao (.bsl 2 1 [.s, .i .i64] [(0,.t 31)]),ao (.app 2 24 [.s,.i .i64] (.t 28) (.t 32)),aV 4]) .skip)))) (g' 34 [aA 21]))))))) (q' 35 [am 4,ao (.call 249 [.t 35,.k (.v false [.c (.f 250 [])])])] (.seq (q' 0 [ab 7 true] (.block 2 (.loop (.seq (q' 37 [am 7] (.cond (.t 37) .skip (.exit 2))) (.block 3 (q' 0 [ab 7 false] (q' 38 [aG 1 1,aN,aK 0] (.block 4 (.loop (q' 42 [ar 41 40] (.seq (.cond (.t 42) .skip (.exit 4)) (.seq (.block 5 (q' 43 [ai 4 39 41,aE 4,ax (w' 9 [.i .i64,.s,.sl i7,.sl b2g]),aS 4 9 44] (.seq (q' 45 [ae 2 1,ae 4 9,ac 252 [45,46],ao (.not (.t 47))] (.cond (.t 48) (.exit 5) .skip)) (q' 49 [am 4,ao (.mf 254 [.t 9]),ac 253 [49,50],aV 10] (.seq (q' 52 [aG 3 9,aN,aK 0] (.block 6 (.loop (q' 56 [ar 55 54] (.seq (.cond (.t 56) .skip (.exit 6)) (.seq (.block 7 (q' 57 [ai 10 53 55,aE 10,ax (w' 12 [.i .i64, .s,.sl i7,.i .i64,.s,.i .i64,.s,.s,.i .i64,.s]),aS 10 12 58] (.seq (q' 59 [aG 0 12,ao (.bin .eql (.t 60) (k' 3)),am 61,au (.ld true 2 (.t 1)) 62 false,au (.fa 1 (.t 12)) 62 false,au (.fa 0 (.t 64)) 62 false,au (.ld false 1 (.t 65)) 62 false,au (.call 139 [.t 63,.t 66]) 62 false,au (.bin .neq (.t 67) (k' 3)) 62 false,ao (.pick (.t 62) (bb true) (.t 68))] (.cond (.t 69) (.exit 7) .skip)) (q' 70 [am 4,af 1 12,aG 0 71,ac 255 [70,73],aV 13] (.seq (q' 75 [aG 0 12,ao (.bin .eql (.t 76) (k' 2))] (.cond (.t 77) (g' 78 [aB 13]) .skip)) (q' 80 [aM [4,10],aI 2,aG 1 82,am 13,ar 84 85] (.cond (.t 86) (q' 87 [aM [4,10,13],ai 2 87 88,aF 1,aS 1 91 89] (g' 0 [ab 7 true])) .skip))))))) (g' 92 [aA 55]))))))) (q' 93 [aM [4,10],aI 2,aG 1 95,am 4,aN,ao (.bin .gtr (.t 97) (.t 99))] (.cond (.t 100) (q' 0 [ax (o' 2 (.mov (.k (.v false [.nl a0v])))),ab 3 false] .ret) .skip))))))) (g' 101 [aA 41]))))))))))))) (q' 102 [am 4,aV 2,ab 3 true] .ret))))))) [.t 2,.t 3] [(202,[],a1O),(249,[0],c2m),(252,[],a1N),(253,[],b0J),(139,[],a0w),(255,[],a7u)] ?_;intro hb hE;simp only [go_sem];repeat' first | apply cj' | intro hc | exact om' | fail
 ·rw [f9,hc];exact ⟨rfl,rfl⟩
 have hN:((k8 p).1==0)=true:=hc;have hok:=a3N (by simpa using hN);obtain ⟨hB,hD,hRb⟩:=hok;have hdl:p.Decls.length<=16:=by
  have:=hB;simp only [v6,W3,q0B] at this;omega
 have hvl:=c4K hB;clear hc;refine lk' false [(false,4,0,100008)] [1,19,20] [2] [] (fun i:{i:Nat // i<=p.Decls.length}=>[(4,.v false [.ow 100008]),(21,slV (.i .i64 i.1))]) nl' (fun i=>[(100008,a0v,(c5V (p.Decls.take i.1)).map d8.cells)]) (fun i=>p.Decls.length - i.1) (⟨0,by simp⟩) ?_;intro S0 hS0 i;obtain ⟨i,hi⟩:=i;have hl:=d5L (p.Decls.take i);rw [V1] at hl;simp only [go_sem,hS0];repeat' first | apply cj' | intro hc | exact om' | fail
 ·(refine lpK_n2 (⟨i+1,by omega⟩) _ (by simp only [go_sem];try rfl) ?_;simp only [go_sem,hS0]<;>repeat' first | apply V0 | exact on' | fail)
  rw [show c5V (p.Decls.take (i+1))=c5V (p.Decls.take i)++[⟨(p.Decls.getD i default).Name,0⟩] from a9S (p:=fun d:d9=>d.Kind==3) (fun d:d9=>(⟨d.Name,0⟩:d8)) default (by omega) hc];first | done | (rw [q1F];rfl) | trace_state
 ·(refine lpK_n2 (⟨i+1,by omega⟩) _ (by simp only [go_sem];try rfl) ?_;simp only [go_sem,hS0]<;>repeat' first | apply V0 | exact on' | fail)
  rw [show c5V (p.Decls.take (i+1))=c5V (p.Decls.take i) from b8m (p:=fun d:d9=>d.Kind==3) (fun d:d9=>(⟨d.Name,0⟩:d8)) default (by omega) hc]
 rw [f8 (by omega),d3o hD];clear hc hl hi;refine lq' false [1,4] [2] [] (fun i:{q:Bool×Lev // Low p q.2/\(∀ v∈vwS p,q.2 v<=(vwS p).length)/\(q.1=false->Fx p q.2)}=>[(7,slV (.b i.1.1))]) nl' (fun i=>[(100008,a0v,(lvl p i.1.2).map d8.cells)]) (fun i=>2 * a2F p i.1.2+(bif i.1.1 then 1 else 0)) (⟨(true,fun _=>0),Low.zero p,fun v _=>by simp only;omega,by intro h;cases h⟩) ?_;intro S1 hS1 i;obtain ⟨⟨ag,g⟩,hL,hle,hF⟩:=i;simp only at hL hle hF;simp only [go_sem,hS0,hS1];repeat' first | apply cj' | intro hc | exact om' | fail
 ·have hag:=hc;clear hc;refine lq' false [1,4,39,40] [2] [] (fun i:{q:Nat×Bool×Lev // q.1<=p.Rules.length/\Low p q.2.2/\(∀ v∈vwS p,q.2.2 v<=(vwS p).length)/\(q.2.1=false->q.2.2=g/\∀ r∈p.Rules.take q.1,a0r p g r)/\(q.2.1=true->a2F p q.2.2 < a2F p g)}=>[(7,slV (.b i.1.2.1)),(41,slV (.i .i64 i.1.1))]) nl' (fun i=>[(100008,a0v,(lvl p i.1.2.2).map d8.cells)]) (fun i=>p.Rules.length - i.1.1) (⟨(0,false,g),by simp,hL,hle,fun _=>⟨rfl,by simp⟩,by intro h;cases h⟩) ?_;intro S2 hS2 i;obtain ⟨⟨n,ag2,g2⟩,hn,hL2,hle2,hF2,hM2⟩:=i;simp only at hn hL2 hle2 hF2 hM2;simp only [go_sem,hS0,hS1,hS2];repeat' first | apply cj' | intro hc | exact om' | fail
  ·have h3:ag2=false->g2=g/\∀ r∈p.Rules.take (n+1),a0r p g r:=fun h=>by
    refine ⟨(hF2 h).1,fun r hr=>?_⟩;rw [i3 default (by omega),W8,q0A] at hr;rcases hr with hr | rfl
    ·exact (hF2 h).2 r hr
    ·intro hv;have hk3:=(a1C hD).2 hv;have hk1:=b8q hRb (by omega) hk3;rw [hk1,hk3] at hc;exact absurd hc (by decide)
   (refine lpK_n2 (⟨(n+1,ag2,g2),by simp only;omega,hL2,hle2,h3,hM2⟩) _ rfl ?_;simp only [go_sem,hS0,hS1,hS2]<;>repeat' first | apply V0 | exact on' | fail)
  ·have hk:=hc;have hnl:n < p.Rules.length:=by omega
   clear hc;have hb8:=c5p hB hnl;have hv:(p.Rules.getD n default).Head.Name∈vwS p:=(a1C hD).1 (by simpa using hk.2);obtain ⟨m,hm,hme,hix,hgm,hsm⟩:=lvl_idx hv;have hll:=a5V p;refine lq' false [1,4,10,39,40,41,53,54] [2] [] (fun i:{q:Nat×Bool×Lev // q.1<=(p.Rules.getD n default).Body.length/\Low p q.2.2/\(∀ v∈vwS p,v≠(p.Rules.getD n default).Head.Name->q.2.2 v<=(vwS p).length)/\q.2.2 (p.Rules.getD n default).Head.Name<=(vwS p).length+(q.1:Nat)/\(q.2.1=false->q.2.2=g/\(∀ r∈p.Rules.take n,a0r p g r)/\∀ l∈(p.Rules.getD n default).Body.take q.1,a2E p g (p.Rules.getD n default).Head.Name l)/\(q.2.1=true->a2F p q.2.2 < a2F p g)}=>[(7,slV (.b i.1.2.1)),(55,slV (.i .i64 i.1.1))]) nl' (fun i=>[(100008,a0v,(lvl p i.1.2.2).map d8.cells)]) (fun i=>(p.Rules.getD n default).Body.length - i.1.1) (⟨(0,ag2,g2),by simp,hL2,fun v hv2 _=>hle2 v hv2,by simp only;have:=hle2 _ hv;omega,fun h=>⟨(hF2 h).1,(hF2 h).2,by simp⟩,hM2⟩) ?_;intro S3 hS3 i;obtain ⟨⟨j,ag3,g3⟩,hj,hL3,ho3,hh3,hF3,hM3⟩:=i;simp only at hj hL3 ho3 hh3 hF3 hM3;have hLb:∀ v,0<=a2D (lvl p g3) v/\a2D (lvl p g3) v<=40:=fun v=>by
    by_cases e:v∈vwS p
    ·rw [a5A g3 e];refine ⟨hL3.ge v, ?_⟩;by_cases e2:v=(p.Rules.getD n default).Head.Name
     ·rw [e2];omega
     ·have:=ho3 v e e2;omega
    ·rw [d6j g3 e];omega
   have hw:∀ v,IntKind.i64.wrap (a2D (lvl p g3) v+1)=a2D (lvl p g3) v+1:=fun v=>by have:=hLb v;exact w64 (by omega) (by omega) (by omega)
   simp only [go_sem,hS0,hS1,hS2,hix,hgm,hsm,hll,hS3,hw];repeat' first | apply cj' | intro hc | exact om' | fail
   ·have h3:ag3=false->g3=g/\(∀ r∈p.Rules.take n,a0r p g r)/\∀ l∈(p.Rules.getD n default).Body.take (j+1),a2E p g (p.Rules.getD n default).Head.Name l:=fun h=>by
     refine ⟨(hF3 h).1,(hF3 h).2.1,fun l hl=>?_⟩;rw [i3 default (by omega),W8,q0A] at hl;rcases hl with hl | rfl
     ·exact (hF3 h).2.2 l hl
     ·rcases hc with hc | hc
      ·exact c2A hc
      ·refine c2B fun hv3=>?_
       rw [(a1C hD).2 hv3] at hc;exact absurd hc (by decide)
    (refine lpK_n2 (⟨(j+1,ag3,g3),by simp only;omega,hL3,ho3,by simp only;omega,h3,hM3⟩) _ rfl ?_;simp only [go_sem,hS0,hS1,hS2,hix,hgm,hsm,hll,hS3,hw]<;>repeat' first | apply V0 | exact on' | fail)
   ·have hq:(((p.Rules.getD n default).Body.getD j default).Kind==3)=false/\(a0m p ((p.Rules.getD n default).Body.getD j default).Atom.Name != 3)=false:=by assumption
    have hq2:(((p.Rules.getD n default).Body.getD j default).Kind==2)=true:=by assumption
    have hvv:((p.Rules.getD n default).Body.getD j default).Atom.Name∈vwS p:=(a1C hD).1 (by simpa [bne] using hq.2);have hjl:j < (p.Rules.getD n default).Body.length:=by omega
    have hrm:p.Rules.getD n default∈p.Rules:=A3v hnl;have hlm:((p.Rules.getD n default).Body.getD j default)∈(p.Rules.getD n default).Body:=A3v hjl;have hkk:((p.Rules.getD n default).Body.getD j default).Kind≠3:=fun e=>by have:=hq.1;rw [e] at this;exact absurd this (by decide)
    have e:a2D (lvl p g3) ((p.Rules.getD n default).Body.getD j default).Atom.Name+1=g3 ((p.Rules.getD n default).Body.getD j default).Atom.Name+a8a ((p.Rules.getD n default).Body.getD j default):=by rw [a5A g3 hvv,b9F hq2]
    have hMM:a2F p g3<=a2F p g:=by
     cases hag3:ag3 with
     | true=>exact Nat.le_of_lt (hM3 hag3)
     | false=>rw [(hF3 hag3).1];exact q0C _
    have R:=a8q hrm hv hlm hkk hvv hL3 ho3 hh3 (by omega) e hc hMM
    (refine lpK_n2 (⟨(j+1,true,upd g3 (p.Rules.getD n default).Head.Name (a2D (lvl p g3) ((p.Rules.getD n default).Body.getD j default).Atom.Name+1)),by simp only;omega,R.1,R.2.1,R.2.2.1,fun h=>(by cases h),fun _=>R.2.2.2⟩) _ rfl ?_;simp only [go_sem,hS0,hS1,hS2,hix,hgm,hsm,hll,hS3,hw]<;>repeat' first | apply V0 | exact on' | fail)
   ·have hq:(((p.Rules.getD n default).Body.getD j default).Kind==3)=false/\(a0m p ((p.Rules.getD n default).Body.getD j default).Atom.Name != 3)=false:=by assumption
    have hq2:(((p.Rules.getD n default).Body.getD j default).Kind==2)=true:=by assumption
    have hvv:((p.Rules.getD n default).Body.getD j default).Atom.Name∈vwS p:=(a1C hD).1 (by simpa [bne] using hq.2);have hjl:j < (p.Rules.getD n default).Body.length:=by omega
    have hrm:p.Rules.getD n default∈p.Rules:=A3v hnl;have hlm:((p.Rules.getD n default).Body.getD j default)∈(p.Rules.getD n default).Body:=A3v hjl;have e:a2D (lvl p g3) ((p.Rules.getD n default).Body.getD j default).Atom.Name+1=g3 ((p.Rules.getD n default).Body.getD j default).Atom.Name+a8a ((p.Rules.getD n default).Body.getD j default):=by rw [a5A g3 hvv,b9F hq2]
    have h3:ag3=false->g3=g/\(∀ r∈p.Rules.take n,a0r p g r)/\∀ l∈(p.Rules.getD n default).Body.take (j+1),a2E p g (p.Rules.getD n default).Head.Name l:=fun h=>by
     refine ⟨(hF3 h).1,(hF3 h).2.1,fun l hl=>?_⟩;rw [i3 default (by omega),W8,q0A] at hl;rcases hl with hl | rfl
     ·exact (hF3 h).2.2 l hl
     ·have:=(hF3 h).1;rw [<- this];exact c9H e hc
    (refine lpK_n2 (⟨(j+1,ag3,g3),by simp only;omega,hL3,ho3,by simp only;omega,h3,hM3⟩) _ rfl ?_;simp only [go_sem,hS0,hS1,hS2,hix,hgm,hsm,hll,hS3,hw]<;>repeat' first | apply V0 | exact on' | fail)
   ·have hq:(((p.Rules.getD n default).Body.getD j default).Kind==3)=false/\(a0m p ((p.Rules.getD n default).Body.getD j default).Atom.Name != 3)=false:=by assumption
    have hq2:(((p.Rules.getD n default).Body.getD j default).Kind==2)=false:=by assumption
    have hvv:((p.Rules.getD n default).Body.getD j default).Atom.Name∈vwS p:=(a1C hD).1 (by simpa [bne] using hq.2);have hjl:j < (p.Rules.getD n default).Body.length:=by omega
    have hrm:p.Rules.getD n default∈p.Rules:=A3v hnl;have hlm:((p.Rules.getD n default).Body.getD j default)∈(p.Rules.getD n default).Body:=A3v hjl;have hkk:((p.Rules.getD n default).Body.getD j default).Kind≠3:=fun e=>by have:=hq.1;rw [e] at this;exact absurd this (by decide)
    have e:a2D (lvl p g3) ((p.Rules.getD n default).Body.getD j default).Atom.Name=g3 ((p.Rules.getD n default).Body.getD j default).Atom.Name+a8a ((p.Rules.getD n default).Body.getD j default):=by rw [a5A g3 hvv,c4y hq2];omega
    have hMM:a2F p g3<=a2F p g:=by
     cases hag3:ag3 with
     | true=>exact Nat.le_of_lt (hM3 hag3)
     | false=>rw [(hF3 hag3).1];exact q0C _
    have R:=a8q hrm hv hlm hkk hvv hL3 ho3 hh3 (by omega) e hc hMM
    (refine lpK_n2 (⟨(j+1,true,upd g3 (p.Rules.getD n default).Head.Name (a2D (lvl p g3) ((p.Rules.getD n default).Body.getD j default).Atom.Name)),by simp only;omega,R.1,R.2.1,R.2.2.1,fun h=>(by cases h),fun _=>R.2.2.2⟩) _ rfl ?_;simp only [go_sem,hS0,hS1,hS2,hix,hgm,hsm,hll,hS3,hw]<;>repeat' first | apply V0 | exact on' | fail)
   ·have hq:(((p.Rules.getD n default).Body.getD j default).Kind==3)=false/\(a0m p ((p.Rules.getD n default).Body.getD j default).Atom.Name != 3)=false:=by assumption
    have hq2:(((p.Rules.getD n default).Body.getD j default).Kind==2)=false:=by assumption
    have hvv:((p.Rules.getD n default).Body.getD j default).Atom.Name∈vwS p:=(a1C hD).1 (by simpa [bne] using hq.2);have hjl:j < (p.Rules.getD n default).Body.length:=by omega
    have hrm:p.Rules.getD n default∈p.Rules:=A3v hnl;have hlm:((p.Rules.getD n default).Body.getD j default)∈(p.Rules.getD n default).Body:=A3v hjl;have e:a2D (lvl p g3) ((p.Rules.getD n default).Body.getD j default).Atom.Name=g3 ((p.Rules.getD n default).Body.getD j default).Atom.Name+a8a ((p.Rules.getD n default).Body.getD j default):=by rw [a5A g3 hvv,c4y hq2];omega
    have h3:ag3=false->g3=g/\(∀ r∈p.Rules.take n,a0r p g r)/\∀ l∈(p.Rules.getD n default).Body.take (j+1),a2E p g (p.Rules.getD n default).Head.Name l:=fun h=>by
     refine ⟨(hF3 h).1,(hF3 h).2.1,fun l hl=>?_⟩;rw [i3 default (by omega),W8,q0A] at hl;rcases hl with hl | rfl
     ·exact (hF3 h).2.2 l hl
     ·have:=(hF3 h).1;rw [<- this];exact c9H e hc
    (refine lpK_n2 (⟨(j+1,ag3,g3),by simp only;omega,hL3,ho3,by simp only;omega,h3,hM3⟩) _ rfl ?_;simp only [go_sem,hS0,hS1,hS2,hix,hgm,hsm,hll,hS3,hw]<;>repeat' first | apply V0 | exact on' | fail)
   ·rw [c2z hL3 hv hc];exact ⟨rfl,rfl⟩
   ·have h1:∀ v∈vwS p,g3 v<=(vwS p).length:=fun v hv2=>by
     by_cases e:v=(p.Rules.getD n default).Head.Name
     ·rw [e];omega
     ·exact ho3 v hv2 e
    have h3:ag3=false->g3=g/\∀ r∈p.Rules.take (n+1),a0r p g r:=fun h=>by
     refine ⟨(hF3 h).1,fun r hr=>?_⟩;rw [i3 default (by omega),W8,q0A] at hr;rcases hr with hr | rfl
     ·exact (hF3 h).2.1 r hr
     ·intro _ l hl;refine (hF3 h).2.2 l ?_;rw [f8 (by omega)];exact hl
    (refine lpK_n2 (⟨(n+1,ag3,g3),by simp only;omega,hL3,h1,h3,hM3⟩) _ rfl ?_;simp only [go_sem,hS0,hS1,hS2,hix,hgm,hsm,hll,hS3,hw]<;>repeat' first | apply V0 | exact on' | fail)
  ·have h3:ag2=false->Fx p g2:=fun h=>by
    have h5:=hF2 h;rw [f8 (by omega)] at h5;rw [h5.1];exact h5.2
   have hmm:ag2=false->g2=g:=fun h=>(hF2 h).1
   (refine lpK_n2 (⟨(ag2,g2),hL2,hle2,h3⟩) _ rfl ?_;simp only [go_sem,hS0,hS1,hS2]<;>repeat' first | apply V0 | exact on' | fail)
   cases hag2:ag2 with
   | false=>rw [hmm hag2,hag];simp only [W9,V2];omega
   | true=>have:=hM2 hag2;rw [hag];simp only [W9];omega
 ·rw [b9y hN ⟨hF hc,hL,hle⟩];exact ⟨rfl,rfl⟩
noncomputable def a4t:CT:=i9 (fun (x:c4)=>c0Y x)
@[go_sem] def d2m:=fun x0 x1=>nm' (fQ' a4t rfl ⟨x0,x1⟩)
def a1p (p:c4) (k:Int):List d9:=p.Decls.filter fun d=>d.Kind==k
@[go_sem] def l12Set_nil (l:List c9) (n:List UInt8) (a:Int):a4L [(true,[i5 l]),(false,[.s n]),(true,[.i .i64 a,.sl false l6 []])]=some (((∀ x∈l,x.Rel.Rows=[])/\True)/\l.length<=1000,[],.one (true,[i5 (a1H l n ⟨n,⟨a,[]⟩⟩)])):=by
 have h:=b2W l n a [];simpa using h
def b4q (l:List d9) (d:d9):y6 (l++[d])=a1H (y6 l) d.Name ⟨d.Name,⟨d.Arity,[]⟩⟩:=by rw [y6,q2X];rfl
@[go_sem] def emptyN_nil:y6 []=[]:=rfl
def b6g (p:c4) (k:Int) (hpre:p.Decls.length<=16):A0c Tryz.prog 126 [(true,[l4 p.Decls,l3 p.Rules]),(false,[.i .i64 k])] [] (.one (true,[i5 ((⟨y6 (a1p p k)⟩:c8).Rels)])):=by
 refine sx' false true none Tryz.func126 (q' 2 [ao (.box 2 (.t 0)),ax (w' 4 [.sl i6])] (q' 5 [ax (o' 8 (.bld [.sl i6] [])),aw [.sl i6],aS 1 5 8] (.seq (q' 9 [aG 0 2,aN,aK 0] (.block 0 (.loop (q' 13 [ar 12 11] (.seq (.cond (.t 13) .skip (.exit 0)) (.seq (.block 1 (q' 14 [ai 3 10 12,aE 3,ax (w' 7 [.i .i64,.s,.i .i64]),aS 3 7 15] (q' 16 [aG 0 7,am 1,ao (.bin .eql (.t 17) (.t 18))] (.cond (.t 19) (g' 20 [ae 1 5,aG 1 7,aG 2 7,ao (.bld [.i .i64,.sl l6] [(0,1,.t 24)]),ac 138 [20,22,25],aS 1 5 26]) .skip)))) (g' 27 [aA 12]))))))) (q' 28 [ae 1 5,aS 1 4 28] .ret)))) [.c 4 true 1] [(138,[],a4L)] ?_;intro hb hE;simp only [go_sem];repeat' first | apply cj' | intro hc | exact om' | fail
 refine b6r false [(true,10,0,200020)] ?_;refine a5L 200020 ?_;refine lq' false [1,4,5,10,11] [8] [] (fun i:{i:Nat // i<=p.Decls.length}=>[(12,slV (.i .i64 i.1))]) (fun i=>[(10,[.c (i5 (y6 ((p.Decls.take i.1).filter fun d=>d.Kind==k)))])]) nl' (fun i=>p.Decls.length - i.1) (⟨0,by simp⟩) ?_;intro S0 hS0 i;obtain ⟨i,hi⟩:=i;have h1:=a9Q ((p.Decls.take i).filter fun d=>d.Kind==k);have h2:=q1V (fun d:d9=>d.Kind==k) (p.Decls.take i);have h3:=c5X ((p.Decls.take i).filter fun d=>d.Kind==k);rw [V1] at h2;simp only [go_sem,hS0];repeat' first | apply cj' | intro hc | exact om' | fail
 all_goals first
  | omega
  | exact h3
  | exact ⟨h3,by omega⟩
  | ((refine lpK_n2 (⟨i+1,by omega⟩) _ rfl ?_;simp only [go_sem,hS0]<;>repeat' first | apply V0 | exact on' | fail);rw [f_yes (p:=fun d:d9=>d.Kind==k) default (by omega) hc,b4q];done)
  | ((refine lpK_n2 (⟨i+1,by omega⟩) _ rfl ?_;simp only [go_sem,hS0]<;>repeat' first | apply V0 | exact on' | fail);rw [f_no (p:=fun d:d9=>d.Kind==k) default (by omega) hc];done)
  | (rw [f8 (by omega)];rfl)
  | trace_state
noncomputable def a2Q:CT:=k9 (fun (x:c4×Int) h=>b6g x.1 x.2 h)
@[go_sem] def c8Y:=fun x0 x1 k=>nm' (fP' a2Q rfl (⟨x0,x1⟩,k))
def c4s (l:List d8) (v:List UInt8):A0c Tryz.prog 198 [(false,[a8n l]),(false,[.s v])] [] (.one (false,[.i .i64 (a1a l v)])):=by
 refine sx' false false none Tryz.func198 (q' 4 [aK 0] (.seq (q' 6 [am 0,aN,aK 0] (.block 0 (.loop (q' 9 [ar 8 7] (.seq (.cond (.t 9) .skip (.exit 0)) (.seq (.block 1 (q' 10 [am 8,aV 5] (q' 11 [aM [0,5],aI 2,aG 0 13,am 1,ao (.bin .eql (.t 15) (.t 16))] (.cond (.t 17) (q' 18 [aM [0,5],aI 2,aG 1 20,aV 4] .ret) .skip)))) (g' 23 [aA 8]))))))) (q' 4 [ao (.mov (.k (.v false [.c (.i .i64 (-1))])))] .ret))) [.t 4] [] ?_;intro hb hE;simp only [go_sem];repeat' first | apply cj' | intro hc | exact om' | fail
 refine lq' false [0,1,7] [] [] (fun i:{i:Nat // i<=l.length/\(l.take i).any (fun d=>d.Name==v)=false}=>[(8,slV (.i .i64 i.1))]) nl' nl' (fun i=>l.length - i.1) (⟨0,by simp⟩) ?_;intro S0 hS0 i;obtain ⟨i,hi,ha⟩:=i;simp only [go_sem,hS0];repeat' first | apply cj' | intro hc | exact om' | fail
 ·rw [a1a,c3B (d:=default) (i:=i) (by omega) ha hc];rfl
 ·exact nx0 ⟨i+1,by omega,o6 (p:=fun d:d8=>d.Name==v) default (by omega) ha hc⟩
 ·rw [a1a,a8m (by rwa [f8 (by omega)] at ha)];rfl
noncomputable def b1l:CT:=i9 (fun (x:(List d8)×(List UInt8))=>c4s x.1 x.2)
@[go_sem] def d4L:=fun l v=>nm' (fQ' b1l rfl (l,v))
def relL (l:List c9):List d8:=l.map fun x=>⟨x.Name,0⟩
def d6x (p:c4):relL (y6 (a1p p 3))=lvl p fun _=>0:=by
 have h:=a5R (a1p p 3);have e:relL (y6 (a1p p 3))=((y6 (a1p p 3)).map c9.Name).map fun v=>(⟨v,0⟩:d8):=by rw [q4G];rfl
 rw [e,h];rfl
def d3F (p:c4) (k:Int):(y6 (a1p p k)).length<=p.Decls.length:=by
 have h1:=a9Q (a1p p k);have h2:=q1V (fun d:d9=>d.Kind==k) p.Decls;exact q2O h1 h2
def vw_at {p:c4} {n:Nat} (hn:n < (vwS p).length):(vwS p).getD n []∈vwS p/\(∀ g,(lvl p g).getD n default=⟨(vwS p).getD n [],g ((vwS p).getD n [])⟩)/\∀ g x,(lvl p g).set n ⟨(vwS p).getD n [],x⟩=lvl p (upd g ((vwS p).getD n []) x):=
 ⟨A3v hn,fun g=>c6K p g hn,fun g x=>d1t p g hn x⟩
def c4v {p:c4} {g:Lev} {l:d7} {x:Int} (h0:∀ v,0<=g v) (hx:((l.Kind==2&&decide (0<=a1a (lvl p g) l.Atom.Name))=true/\x=a1a (lvl p g) l.Atom.Name+1)\/((l.Kind==2&&decide (0<=a1a (lvl p g) l.Atom.Name))=false/\x=a1a (lvl p g) l.Atom.Name)):(l.Atom.Name∈vwS p/\x=g l.Atom.Name+a8a l)\/(¬ l.Atom.Name∈vwS p/\x=-1):=by
 by_cases e:l.Atom.Name∈vwS p
 ·refine .inl ⟨e, ?_⟩;rw [c2w g e,V5 (h0 l.Atom.Name),q1R] at hx;rcases hx with ⟨h1,h2⟩ | ⟨h1,h2⟩
  ·rw [b9F h1];exact h2
  ·rw [c4y h1];omega
 ·refine .inr ⟨e, ?_⟩;rw [c6E g e,show decide ((0:Int)<=-1)=false from rfl,q3G] at hx;rcases hx with ⟨h1,h2⟩ | ⟨h1,h2⟩
  ·cases h1
  ·exact h2
def c6F {p:c4} {g:Lev} {h:List UInt8} {l:d7} {x:Int} (h0:∀ v,0<=g v) (hx:((l.Kind==2&&decide (0<=a1a (lvl p g) l.Atom.Name))=true/\x=a1a (lvl p g) l.Atom.Name+1)\/((l.Kind==2&&decide (0<=a1a (lvl p g) l.Atom.Name))=false/\x=a1a (lvl p g) l.Atom.Name)) (hc:(l.Kind != 3&&decide (g h < x))=false):a2E p g h l:=by
 by_cases hk:(l.Kind==3)=true
 ·exact c2A hk
 ·have hn:¬ g h < x:=by
   rw [bne,(by simpa using hk:(l.Kind==3)=false),q3M,q0U] at hc;exact of_decide_eq_false hc
  rcases c4v h0 hx with ⟨h1,h2⟩ | ⟨h1,h2⟩
  ·exact c9H h2 hn
  ·exact c2B h1
def c6H {p:c4} {g:Lev} {h:List UInt8} {b:List d7} {j:Nat} (hj:j < b.length) (h1:∀ l∈b.take j,a2E p g h l) (h2:a2E p g h (b.getD j default)):∀ l∈b.take (j+1),a2E p g h l:=fun l hl=>by
 rw [i3 default hj,W8,q0A] at hl;rcases hl with hl | rfl
 ·exact h1 l hl
 ·exact h2
def c1H (p:c4):A0c Tryz.prog 127 [(true,[l4 p.Decls,l3 p.Rules])] [] (.tup [(false,[a8n ((f9 p).1)]),(false,[.b ((f9 p).2)])]):=by
 refine sx' false true none Tryz.func127 (q' 1 [ao (.box 2 (.t 0)),ao (.mov (.k (.v false [.nl a0v]))),ao (.mov (bb false))] (q' 16 [ae 2 1,ac 196 [16],aV 15,ao (.ext (.t 15) 0),ao (.ext (.t 15) 1),av 4 18,aV 5] (.seq (q' 20 [am 4,ao (.bin .neq (.t 20) (k' 0))] (.cond (.t 21) (q' 0 [ax (o' 2 (.mov (.k (.v false [.nl a0v])))),ab 3 false] .ret) .skip)) (q' 22 [ao (.bsl 2 0 [.s,.i .i64] []),aV 6] (.seq (q' 23 [ae 2 1,ao (.call 126 [.t 23,.k (.v false [.c (.i .i64 3)])]),ao (.fl false 0 1 (.t 24)),aN,aK 0] (.block 0 (.loop (q' 28 [ar 27 26] (.seq (.cond (.t 28) .skip (.exit 0)) (.seq (.block 1 (q' 29 [ai 3 25 27,aE 3,ax (w' 8 [.s,.i .i64, .sl l6]),aS 3 8 30] (g' 31 [am 6,aG 0 8,ao (.bld [.s,.i .i64] [(0,1,.t 33)]),ao (.bsl 2 1 [.s,.i .i64] [(0,.t 34)]),ao (.app 2 24 [.s,.i .i64] (.t 31) (.t 35)),aV 6]))) (g' 37 [aA 27]))))))) (.seq (q' 0 [ab 9 true] (.block 2 (.loop (.seq (q' 38 [am 9] (.cond (.t 38) .skip (.exit 2))) (.block 3 (q' 0 [ab 9 false] (q' 39 [am 6,aN,aK 0] (.block 4 (.loop (q' 42 [ar 41 40] (.seq (.cond (.t 42) .skip (.exit 4)) (.seq (.block 5 (q' 43 [am 41,aV 10] (.seq (q' 44 [aG 1 1,aN,aK 0] (.block 6 (.loop (q' 48 [ar 47 46] (.seq (.cond (.t 48) .skip (.exit 6)) (.seq (.block 7 (q' 49 [am 47,aV 11] (q' 50 [aG 1 1,am 11,aI 4,aE 4,ax (w' 12 [.i .i64,.s,.sl i7,.sl b2g]),aS 4 12 54] (.seq (.seq (G' 55 [af 1 12,aG 0 55,aM [6,10],aI 2,aG 0 60,ao (.bin .neq (.t 57) (.t 62))]) (.cond (.t 63) (.exit 7) .skip)) (q' 64 [aG 3 12,aN,aK 0] (.block 8 (.loop (q' 68 [ar 67 66] (.seq (.cond (.t 68) .skip (.exit 8)) (.seq (.block 9 (q' 69 [am 67,aV 13] (q' 70 [am 6,aG 3 12,am 13,aI 10,aF 1,aG 0 75,ac 198 [70,77],aV 14] (.seq (q' 79 [aG 3 12,am 13,aI 10,aG 0 82,ao (.bin .eql (.t 84) (k' 2)),am 85,au (.mov (.t 14)) 86 true,au (.bin .geq (.t 87) (k' 0)) 86 true,ao (.pick (.t 86) (.t 88) (bb false))] (.cond (.t 89) (g' 90 [aB 14]) .skip)) (q' 92 [aG 3 12,am 13,aI 10,aG 0 95,ao (.bin .neq (.t 97) (k' 3)),am 98,au (.mov (.t 14)) 99 true,au (.mov (.t 6)) 99 true,au (.mov (.t 10)) 99 true,au (.ia 2 (.t 101) (.t 102)) 99 true,au (.fa 1 (.t 103)) 99 true,au (.ld false 1 (.t 104)) 99 true,au (.bin .gtr (.t 100) (.t 105)) 99 true,ao (.pick (.t 99) (.t 106) (bb false))] (.cond (.t 107) (q' 108 [aM [6,10,14],ai 2 108 109,aF 1,aS 1 112 110] (g' 0 [ab 9 true])) .skip)))))) (g' 113 [aA 67]))))))))))) (g' 114 [aA 47]))))))) (q' 115 [aM [6,10],aI 2,aG 1 117,am 6,aN,ao (.bin .gtr (.t 119) (.t 121))] (.cond (.t 122) (q' 0 [ax (o' 2 (.mov (.k (.v false [.nl a0v])))),ab 3 false] .ret) .skip))))) (g' 123 [aA 41]))))))))))))) (q' 124 [am 6,aV 2,ab 3 true] .ret))))))) [.t 2,.t 3] [(196,[],a1P),(126,[],a2Q),(198,[],b1l)] ?_;intro hb hE;simp only [go_sem];repeat' first | apply cj' | intro hc | exact om' | fail
 ·rw [f9,show ((k8 p).1==0)=false by simpa [bne] using hc];exact ⟨rfl,rfl⟩
 ·have hB:=a0y (p:=p) (by simpa [bne] using hc);simp only [v6,W3,q0B] at hB;omega
 have hN:((k8 p).1==0)=true:=by simpa [bne] using hc
 obtain ⟨hB,hD,hRb⟩:=a3N (by simpa using hN);have hdl:p.Decls.length<=16:=by
  have:=hB;simp only [v6,W3,q0B] at this;omega
 have hrl:p.Rules.length<=24:=by
  have:=hB;simp only [v6,W3,q0B] at this;omega
 have hvl:=c4K hB;have hel:=d3F p 3;clear hc;refine lk' false [(false,6,0,100012)] [1,25,26] [2] [] (fun i:{i:Nat // i<=(y6 (a1p p 3)).length}=>[(6,.v false [.ow 100012]),(27,slV (.i .i64 i.1))]) nl' (fun i=>[(100012,a0v,(relL ((y6 (a1p p 3)).take i.1)).map d8.cells)]) (fun i=>(y6 (a1p p 3)).length - i.1) (⟨0,by simp⟩) ?_;intro S0 hS0 i;obtain ⟨i,hi⟩:=i;have hl:(relL ((y6 (a1p p 3)).take i)).length<=16:=by rw [relL,q0E,V1];omega
 simp only [go_sem,hS0];repeat' first | apply cj' | intro hc | exact om' | fail
 ·(refine lpK_n2 (⟨i+1,by omega⟩) _ (by simp only [go_sem];try rfl) ?_;simp only [go_sem,hS0]<;>repeat' first | apply V0 | exact on' | fail)
  rw [show relL ((y6 (a1p p 3)).take (i+1))=relL ((y6 (a1p p 3)).take i)++[⟨((y6 (a1p p 3)).getD i default).Name,0⟩] from m_snoc (fun x:c9=>(⟨x.Name,0⟩:d8)) default (by omega)];first | done | (rw [q1F];rfl) | trace_state
 rw [f8 (by omega),d6x];clear hc hl hi;refine lq' false [1,6] [2] [] (fun i:{q:Bool×Lev // Low p q.2/\(∀ v∈vwS p,q.2 v<=(vwS p).length)/\(q.1=false->Fx p q.2)}=>[(9,slV (.b i.1.1))]) nl' (fun i=>[(100012,a0v,(lvl p i.1.2).map d8.cells)]) (fun i=>2 * a2F p i.1.2+(bif i.1.1 then 1 else 0)) (⟨(true,fun _=>0),Low.zero p,fun v _=>by simp only;omega,by intro h;cases h⟩) ?_;intro S1 hS1 i;obtain ⟨⟨ag,g⟩,hL,hle,hF⟩:=i;simp only at hL hle hF;have hll:=a5V p;simp only [go_sem,hS0,hS1,hll];repeat' first | apply cj' | intro hc | exact om' | fail
 ·have hag:=hc;clear hc;refine lq' false [1,6,40] [2] [] (fun i:{q:Nat×Bool×Lev // q.1<=(vwS p).length/\Low p q.2.2/\(∀ v∈vwS p,q.2.2 v<=(vwS p).length)/\(q.2.1=false->q.2.2=g/\∀ r∈p.Rules,r.Head.Name∈(vwS p).take q.1->a0r p g r)/\(q.2.1=true->a2F p q.2.2 < a2F p g)}=>[(9,slV (.b i.1.2.1)),(41,slV (.i .i64 i.1.1))]) nl' (fun i=>[(100012,a0v,(lvl p i.1.2.2).map d8.cells)]) (fun i=>(vwS p).length - i.1.1) (⟨(0,false,g),by simp,hL,hle,fun _=>⟨rfl,by simp⟩,by intro h;cases h⟩) ?_;intro S2 hS2 i;obtain ⟨⟨n,ag2,g2⟩,hn,hL2,hle2,hF2,hM2⟩:=i;simp only at hn hL2 hle2 hF2 hM2;simp only [go_sem,hS0,hS1,hll,hS2];repeat' first | apply cj' | intro hc | exact om' | fail
  ·have hnl:n < (vwS p).length:=by omega
   clear hc;obtain ⟨hv,hgm,hsm⟩:=vw_at hnl;refine lq' false [1,6,10,40,41,46] [2] [] (fun i:{q:Nat×Bool×Lev // q.1<=p.Rules.length/\Low p q.2.2/\(∀ v∈vwS p,v≠(vwS p).getD n []->q.2.2 v<=(vwS p).length)/\q.2.2 ((vwS p).getD n [])<=(vwS p).length+(8 * q.1:Nat)/\(q.2.1=false->q.2.2=g/\(∀ r∈p.Rules,r.Head.Name∈(vwS p).take n->a0r p g r)/\∀ r∈p.Rules.take q.1,r.Head.Name=(vwS p).getD n []->a0r p g r)/\(q.2.1=true->a2F p q.2.2 < a2F p g)}=>[(9,slV (.b i.1.2.1)),(47,slV (.i .i64 i.1.1))]) nl' (fun i=>[(100012,a0v,(lvl p i.1.2.2).map d8.cells)]) (fun i=>p.Rules.length - i.1.1) (⟨(0,ag2,g2),by simp,hL2,fun v hv2 _=>hle2 v hv2,by simp only;have:=hle2 _ hv;omega,fun h=>⟨(hF2 h).1,(hF2 h).2,by simp⟩,hM2⟩) ?_;intro S3 hS3 i;obtain ⟨⟨k,ag3,g3⟩,hk,hL3,ho3,hh3,hF3,hM3⟩:=i;simp only at hk hL3 ho3 hh3 hF3 hM3;simp only [go_sem,hS0,hS1,hll,hS2,hgm,hsm,hS3];repeat' first | apply cj' | intro hc | exact om' | fail
   ·have h3:ag3=false->g3=g/\(∀ r∈p.Rules,r.Head.Name∈(vwS p).take n->a0r p g r)/\∀ r∈p.Rules.take (k+1),r.Head.Name=(vwS p).getD n []->a0r p g r:=fun h=>by
     refine ⟨(hF3 h).1,(hF3 h).2.1,fun r hr he=>?_⟩;rw [i3 default (by omega),W8,q0A] at hr;rcases hr with hr | rfl
     ·exact (hF3 h).2.2 r hr he
     ·rw [he] at hc;simp at hc
    (refine lpK_n2 (⟨(k+1,ag3,g3),by simp only;omega,hL3,ho3,by simp only;omega,h3,hM3⟩) _ rfl ?_;simp only [go_sem,hS0,hS1,hll,hS2,hgm,hsm,hS3]<;>repeat' first | apply V0 | exact on' | fail)
   ·have hkl:k < p.Rules.length:=by omega
    have hrh:(p.Rules.getD k default).Head.Name=(vwS p).getD n []:=by simpa using hc
    clear hc;have hb8:=c5p hB hkl;have hrm:p.Rules.getD k default∈p.Rules:=A3v hkl;refine lq' false [1,6,10,12,40,41,46,47,66] [2,24] [] (fun i:{q:Nat×Bool×Lev // q.1<=(p.Rules.getD k default).Body.length/\Low p q.2.2/\(∀ v∈vwS p,v≠(vwS p).getD n []->q.2.2 v<=(vwS p).length)/\q.2.2 ((vwS p).getD n [])<=(vwS p).length+(8 * k+q.1:Nat)/\(q.2.1=false->q.2.2=g/\(∀ r∈p.Rules,r.Head.Name∈(vwS p).take n->a0r p g r)/\(∀ r∈p.Rules.take k,r.Head.Name=(vwS p).getD n []->a0r p g r)/\∀ l∈(p.Rules.getD k default).Body.take q.1,a2E p g ((vwS p).getD n []) l)/\(q.2.1=true->a2F p q.2.2 < a2F p g)}=>[(9,slV (.b i.1.2.1)),(67,slV (.i .i64 i.1.1))]) nl' (fun i=>[(100012,a0v,(lvl p i.1.2.2).map d8.cells)]) (fun i=>(p.Rules.getD k default).Body.length - i.1.1) (⟨(0,ag3,g3),by simp,hL3,ho3,by simp only;omega,fun h=>⟨(hF3 h).1,(hF3 h).2.1,(hF3 h).2.2,by simp⟩,hM3⟩) ?_;intro S4 hS4 i;obtain ⟨⟨j,ag4,g4⟩,hj,hL4,ho4,hh4,hF4,hM4⟩:=i;simp only at hj hL4 ho4 hh4 hF4 hM4;have hLb:∀ v,-1<=a1a (lvl p g4) v/\a1a (lvl p g4) v<=400:=fun v=>by
     by_cases e:v∈vwS p
     ·rw [c2w g4 e];have:=hL4.ge v;by_cases e2:v=(vwS p).getD n []
      ·rw [e2] at this ⊢;omega
      ·have:=ho4 v e e2;omega
     ·rw [c6E g4 e];omega
    have hw:∀ v,IntKind.i64.wrap (a1a (lvl p g4) v+1)=a1a (lvl p g4) v+1:=fun v=>by have:=hLb v;rw [IntWalk.i64_in _ (by omega)]
    simp only [go_sem,hS0,hS1,hll,hS2,hgm,hsm,hS3,hS4,hw];repeat' first | apply cj' | intro hc | exact om' | fail
    ·rename_i hq;have hjl:j < (p.Rules.getD k default).Body.length:=by omega
     have hlm:((p.Rules.getD k default).Body.getD j default)∈(p.Rules.getD k default).Body:=A3v hjl;have hkk:((p.Rules.getD k default).Body.getD j default).Kind≠3:=by simpa using hc.1
     have hx0:=c4v (x:=a1a (lvl p g4) ((p.Rules.getD k default).Body.getD j default).Atom.Name+1) hL4.ge (.inl ⟨by simpa using hq,rfl⟩);have hh0:=hL4.ge ((vwS p).getD n []);have hc2:=hc.2;rcases hx0 with ⟨hvv,e⟩ | ⟨hvv,e⟩
     ·have hMM:a2F p g4<=a2F p g:=by
       cases hag4:ag4 with
       | true=>exact Nat.le_of_lt (hM4 hag4)
       | false=>rw [(hF4 hag4).1];exact q0C _
      have R:=a8q (j:=8 * k+j) hrm (by rw [hrh];exact hv) hlm hkk hvv hL4 (by rw [hrh];exact ho4) (by rw [hrh];exact hh4) (by omega) e (by rw [hrh];exact hc2) hMM;rw [hrh] at R
      (refine lpK_n2 (⟨(j+1,true,upd g4 ((vwS p).getD n []) (a1a (lvl p g4) ((p.Rules.getD k default).Body.getD j default).Atom.Name+1)),by simp only;omega,R.1,R.2.1,R.2.2.1,fun h=>(by cases h),fun _=>R.2.2.2⟩) _ rfl ?_;simp only [go_sem,hS0,hS1,hll,hS2,hgm,hsm,hS3,hS4,hw]<;>repeat' first | apply V0 | exact on' | fail)
     ·exfalso;omega
    ·rename_i hq;have hjl:j < (p.Rules.getD k default).Body.length:=by omega
     have hst:a2E p g4 ((vwS p).getD n []) ((p.Rules.getD k default).Body.getD j default):=c6F hL4.ge (.inl ⟨by simpa using hq,rfl⟩) hc;have h3:ag4=false->g4=g/\(∀ r∈p.Rules,r.Head.Name∈(vwS p).take n->a0r p g r)/\(∀ r∈p.Rules.take k,r.Head.Name=((vwS p).getD n [])->a0r p g r)/\∀ l∈(p.Rules.getD k default).Body.take (j+1),a2E p g ((vwS p).getD n []) l:=fun h=>by
      have h5:=hF4 h;refine ⟨h5.1,h5.2.1,h5.2.2.1,c6H hjl h5.2.2.2 ?_⟩;rw [<- h5.1];exact hst
     (refine lpK_n2 (⟨(j+1,ag4,g4),by simp only;omega,hL4,ho4,by simp only;omega,h3,hM4⟩) _ rfl ?_;simp only [go_sem,hS0,hS1,hll,hS2,hgm,hsm,hS3,hS4,hw]<;>repeat' first | apply V0 | exact on' | fail)
    ·rename_i hq;have hjl:j < (p.Rules.getD k default).Body.length:=by omega
     have hlm:((p.Rules.getD k default).Body.getD j default)∈(p.Rules.getD k default).Body:=A3v hjl;have hkk:((p.Rules.getD k default).Body.getD j default).Kind≠3:=by simpa using hc.1
     have hx0:=c4v (x:=a1a (lvl p g4) ((p.Rules.getD k default).Body.getD j default).Atom.Name) hL4.ge (.inr ⟨hq,rfl⟩);have hh0:=hL4.ge ((vwS p).getD n []);have hc2:=hc.2;rcases hx0 with ⟨hvv,e⟩ | ⟨hvv,e⟩
     ·have hMM:a2F p g4<=a2F p g:=by
       cases hag4:ag4 with
       | true=>exact Nat.le_of_lt (hM4 hag4)
       | false=>rw [(hF4 hag4).1];exact q0C _
      have R:=a8q (j:=8 * k+j) hrm (by rw [hrh];exact hv) hlm hkk hvv hL4 (by rw [hrh];exact ho4) (by rw [hrh];exact hh4) (by omega) e (by rw [hrh];exact hc2) hMM;rw [hrh] at R
      (refine lpK_n2 (⟨(j+1,true,upd g4 ((vwS p).getD n []) (a1a (lvl p g4) ((p.Rules.getD k default).Body.getD j default).Atom.Name)),by simp only;omega,R.1,R.2.1,R.2.2.1,fun h=>(by cases h),fun _=>R.2.2.2⟩) _ rfl ?_;simp only [go_sem,hS0,hS1,hll,hS2,hgm,hsm,hS3,hS4,hw]<;>repeat' first | apply V0 | exact on' | fail)
     ·exfalso;omega
    ·rename_i hq;have hjl:j < (p.Rules.getD k default).Body.length:=by omega
     have hst:a2E p g4 ((vwS p).getD n []) ((p.Rules.getD k default).Body.getD j default):=c6F hL4.ge (.inr ⟨hq,rfl⟩) hc;have h3:ag4=false->g4=g/\(∀ r∈p.Rules,r.Head.Name∈(vwS p).take n->a0r p g r)/\(∀ r∈p.Rules.take k,r.Head.Name=((vwS p).getD n [])->a0r p g r)/\∀ l∈(p.Rules.getD k default).Body.take (j+1),a2E p g ((vwS p).getD n []) l:=fun h=>by
      have h5:=hF4 h;refine ⟨h5.1,h5.2.1,h5.2.2.1,c6H hjl h5.2.2.2 ?_⟩;rw [<- h5.1];exact hst
     (refine lpK_n2 (⟨(j+1,ag4,g4),by simp only;omega,hL4,ho4,by simp only;omega,h3,hM4⟩) _ rfl ?_;simp only [go_sem,hS0,hS1,hll,hS2,hgm,hsm,hS3,hS4,hw]<;>repeat' first | apply V0 | exact on' | fail)
    ·have h3:ag4=false->g4=g/\(∀ r∈p.Rules,r.Head.Name∈(vwS p).take n->a0r p g r)/\∀ r∈p.Rules.take (k+1),r.Head.Name=((vwS p).getD n [])->a0r p g r:=fun h=>by
      have h5:=hF4 h;refine ⟨h5.1,h5.2.1,fun r hr he=>?_⟩;rw [i3 default (by omega),W8,q0A] at hr;rcases hr with hr | rfl
      ·exact h5.2.2.1 r hr he
      ·intro _ l hl;rw [he];refine h5.2.2.2 l ?_;rw [f8 (by omega)];exact hl
     (refine lpK_n2 (⟨(k+1,ag4,g4),by simp only;omega,hL4,ho4,by simp only;omega,h3,hM4⟩) _ rfl ?_;simp only [go_sem,hS0,hS1,hll,hS2,hgm,hsm,hS3,hS4,hw]<;>repeat' first | apply V0 | exact on' | fail)
   ·rw [c2z hL3 hv hc];exact ⟨rfl,rfl⟩
   ·have h1:∀ v∈vwS p,g3 v<=(vwS p).length:=fun v hv2=>by
     by_cases e:v=((vwS p).getD n [])
     ·rw [e];omega
     ·exact ho3 v hv2 e
    have h3:ag3=false->g3=g/\∀ r∈p.Rules,r.Head.Name∈(vwS p).take (n+1)->a0r p g r:=fun h=>by
     have h5:=hF3 h;refine ⟨h5.1,fun r hr he=>?_⟩;rw [i3 [] (by omega),W8,q0A] at he;rcases he with he | he
     ·exact h5.2.1 r hr he
     ·exact h5.2.2 r (by rw [f8 (by omega)];exact hr) he
    (refine lpK_n2 (⟨(n+1,ag3,g3),by simp only;omega,hL3,h1,h3,hM3⟩) _ rfl ?_;simp only [go_sem,hS0,hS1,hll,hS2,hgm,hsm,hS3]<;>repeat' first | apply V0 | exact on' | fail)
  ·have h3:ag2=false->Fx p g2:=fun h=>by
    have h5:=hF2 h;rw [f8 (by omega)] at h5;rw [h5.1];intro r hr hv2;exact h5.2 r hr hv2 hv2
   have hmm:ag2=false->g2=g:=fun h=>(hF2 h).1
   (refine lpK_n2 (⟨(ag2,g2),hL2,hle2,h3⟩) _ rfl ?_;simp only [go_sem,hS0,hS1,hll,hS2]<;>repeat' first | apply V0 | exact on' | fail)
   cases hag2:ag2 with
   | false=>rw [hmm hag2,hag];simp only [W9,V2];omega
   | true=>have:=hM2 hag2;rw [hag];simp only [W9];omega
 ·rw [b9y hN ⟨hF hc,hL,hle⟩];exact ⟨rfl,rfl⟩
noncomputable def a4I:CT:=i9 (fun (x:c4)=>c1H x)
@[go_sem] def d2V:=fun x0 x1=>nm' (fQ' a4I rfl ⟨x0,x1⟩)
noncomputable def y9 (p:c4):Bool:=(f9 p).2&&a1j p==-1
def a3h {p:c4} (h:(f9 p).2=true):((k8 p).1==0)=true:=by
 cases e:((k8 p).1==0) with
 | true=>rfl
 | false=>rw [f9,e,V2] at h;exact h
def z5 {p:c4} (h:y9 p=true):((k8 p).1==0)=true:=by
 rw [y9,W3] at h;exact a3h h.1
def c6x (p:c4):A0c Tryz.prog 131 [(true,[l4 p.Decls,l3 p.Rules])] [] (.one (false,[.b (y9 p)])):=by
 refine sx' false false none Tryz.func131 (q' 0 [ax (o' 1 (.box 2 (.t 0))),ab 2 false] (q' 6 [ae 2 1,ac 200 [6],aV 5,ao (.ext (.t 5) 0),ao (.ext (.t 5) 1),av 3 8,aV 4] (q' 10 [aM [4,10],au (.ld true 2 (.t 1)) 11 true,au (.call 201 [.t 12]) 11 true,au (.bin .eql (.t 13) (.k (.v false [.c (.i .i64 (-1))]))) 11 true,ao (.pick (.t 11) (.t 14) (bb false)),aV 2] .ret))) [.t 2] [(200,[],a4t),(201,[],a4Y)] ?_;intro hb hE;simp only [go_sem];repeat' first | apply cj' | intro hc | exact om' | fail
 all_goals (first | rfl)
noncomputable def b4l:CT:=i9 (fun (x:c4)=>c6x x)
@[go_sem] def d5C:=fun x0 x1=>nm' (fQ' b4l rfl ⟨x0,x1⟩)
def c6C (p:c4):A0c Tryz.prog 124 [(true,[l4 p.Decls,l3 p.Rules])] [] (.one (false,[.b (y9 p)])):=by
 refine sx' false false none Tryz.func124 (q' 0 [ax (o' 1 (.box 2 (.t 0))),ab 2 false] (q' 8 [ae 2 1,ac 196 [8],aV 7,ao (.ext (.t 7) 0),ao (.ext (.t 7) 1),av 3 10,aV 4] (q' 13 [ae 2 1,ac 127 [13],aV 12,ao (.ext (.t 12) 0),ao (.ext (.t 12) 1),av 5 15,aV 6] (q' 17 [am 3,ao (.bin .eql (.t 17) (k' 0)),am 18,au (.ld true 2 (.t 1)) 19 true,au (.call 197 [.t 20]) 19 true,au (.bin .eql (.t 21) (.k (.v false [.c (.i .i64 (-1))]))) 19 true,ao (.pick (.t 19) (.t 22) (bb false)),am 23,au (.mov (.t 6)) 24 true,ao (.pick (.t 24) (.t 25) (bb false)),aV 2] .ret)))) [.t 2] [(196,[],a1P),(127,[],a4I),(197,[],a5m)] ?_;intro hb hE;simp only [go_sem];repeat' first | apply cj' | intro hc | exact om' | fail
 all_goals (first | (rw [y9];cases h1:((k8 p).1==0)<;>cases h2:(f9 p).2<;>cases h3:(a1j p==-1)<;>first | rfl | (rw [a3h h2] at h1;cases h1)))
noncomputable def b4n:CT:=i9 (fun (x:c4)=>c6C x)
@[go_sem] def d5H:=fun x0 x1=>nm' (fQ' b4n rfl ⟨x0,x1⟩)
def a0e {α:Type} {l:List α} {i:Nat} (d:α) (h:i < l.length):l.drop i=l.getD i d::l.drop (i+1):=by
 rw [i8 d h];exact q3K h
def a0R (r:d3):Bool:=decide ((r.V.length:Int)<=6)&&r.V.all k6
def a0S:List d4->List d4->Int
 | [],[]=>0
 | [],_::_=>-1
 | _::_,[]=>1
 | x::a,y::b=>bif v7 x y then -1 else bif v7 y x then 1 else a0S a b
def a1o:List d4->List d4->Int
 | [],[]=>0
 | [],_::_=>-1
 | _::_,[]=>1
 | x::a,y::b=>if a0h x y=0 then a1o a b else a0h x y
def a8e (a b:d3):Int:=bif a0R a&&a0R b then a0S a.V b.V else 2
def a0z (r:e7) (i:Nat):Bool:=!((r.Rows.getD i default).V.length==r.Arity) || !a0R (r.Rows.getD i default) || decide (0 < i)&&!(a0S (r.Rows.getD (i - 1) default).V (r.Rows.getD i default).V==-1)
def a0c (r:e7):Bool:=decide (0<=r.Arity)&&decide (r.Arity<=6)&&decide ((r.Rows.length:Int)<=300)&&!a3b r.Rows.length (a0z r)
def a0A (l:List c9) (i:Nat):Bool:=!a0Q (l.getD i default).Name || !a0c (l.getD i default).Rel || decide (0 < i)&&!Op.bytesLess (l.getD (i - 1) default).Name (l.getD i default).Name
def j4 (s:c8):Bool:=decide ((s.Rels.length:Int)<=24)&&!a3b s.Rels.length (a0A s.Rels)
def v9 (s:c8):Nat:=(s.Rels.map fun x=>x.Rel.Rows.length).sum
def a2A {α:Type} {l:List α} {i:Nat} (h:l.length<=i):l.drop i=[]:=q3R h
def d6w {a b:List d4} {i:Nat} (hi:i<=a.length) (hj:i<=b.length) (h:¬ (i < a.length/\i < b.length)):a0S (a.drop i) (b.drop i)=if a.length < b.length then -1 else if b.length < a.length then 1 else 0:=by
 by_cases h1:a.length < b.length
 ·rw [if_pos h1,a2A (show a.length<=i by omega),a0e (l:=b) default (by omega)];rfl
 ·rw [if_neg h1];by_cases h2:b.length < a.length
  ·rw [if_pos h2,a2A (show b.length<=i by omega),a0e (l:=a) default (by omega)];rfl
  ·rw [if_neg h2,a2A (show a.length<=i by omega),a2A (show b.length<=i by omega)];rfl
def b7I {a b:List d4} {i:Nat} (hi:i<=a.length) (hj:i<=b.length) (h:¬ (i < a.length/\i < b.length)):a1o (a.drop i) (b.drop i)=if a.length < b.length then -1 else if b.length < a.length then 1 else 0:=by
 by_cases h1:a.length < b.length
 ·rw [if_pos h1,a2A (show a.length<=i by omega),a0e (l:=b) default (by omega)];rfl
 ·rw [if_neg h1];by_cases h2:b.length < a.length
  ·rw [if_pos h2,a2A (show b.length<=i by omega),a0e (l:=a) default (by omega)];rfl
  ·rw [if_neg h2,a2A (show a.length<=i by omega),a2A (show b.length<=i by omega)];rfl
def b1Y:∀ {a b:List d4},(∀ x∈a,k6 x=true)->(∀ x∈b,k6 x=true)->sgn (a1o a b)=a0S a b
 | [],[],_,_=>by decide
 | [],_::_,_,_=>by simp only [a1o,a0S];decide
 | _::_,[],_,_=>by simp only [a1o,a0S];decide
 | x::a,y::b,ha,hb=>by
   have h:=b4A (ha x (by simp)) (hb y (by simp));have ih:=b1Y (a:=a) (b:=b) (fun z hz=>ha z (by simp [hz])) (fun z hz=>hb z (by simp [hz]));rw [a1o,a0S];unfold a8L at h;split
   ·rename_i h0;rw [h0] at h;cases h1:v7 x y with
    | true=>rw [h1,W9] at h;unfold sgn at h;omega
    | false=>
      cases h2:v7 y x with
      | true=>rw [h1,h2,W9,V2] at h;unfold sgn at h;omega
      | false=>exact ih
   ·rename_i h0;cases h1:v7 x y with
    | true=>rw [h1] at h;exact h
    | false=>
      cases h2:v7 y x with
      | true=>rw [h1,h2] at h;exact h
      | false=>rw [h1,h2] at h;unfold sgn at h;simp only [V2] at h;omega
def b9o (a:d4) (b:d4):A0c Tryz.prog 223 [(true,[.i .i64 a.N,.s a.S]),(true,[.i .i64 b.N,.s b.S])] [] (.one (false,[.b (v7 a b)])):=by
 refine sx' false false none Tryz.func223 (q' 2 [ao (.box 2 (.t 0)),ao (.box 2 (.t 1)),ao (.mov (bb false))] (.seq (q' 5 [aG 1 2,ao (.bin .eql (.t 6) (.k (.v false [.c (.s [])]))),am 7,au (.fa 1 (.t 3)) 8 true,au (.ld false 1 (.t 9)) 8 true,au (.bin .eql (.t 10) (.k (.v false [.c (.s [])]))) 8 true,ao (.pick (.t 8) (.t 11) (bb false))] (.cond (.t 12) (q' 13 [aG 0 2,aG 0 3,ar 14 16,aV 4] .ret) .skip)) (q' 18 [aG 1 2,aG 1 3,ar 19 21,aV 4] .ret))) [.t 4] [] ?_;intro hb hE;simp only [go_sem];repeat' first | apply cj' | intro hc | exact om' | fail
 ·rw [v7,hc.1,hc.2];rfl
 ·rw [v7,hc];rfl
noncomputable def a3z:CT:=i9 (fun (x:d4×d4)=>b9o x.1 x.2)
@[go_sem] def d0P:=fun x0 x1 x2 x3=>nm' (fQ' a3z rfl (⟨x0,x1⟩,⟨x2,x3⟩))
def b5X (a:d3) (b:d3):A0c Tryz.prog 161 [(true,[l8 a.V]),(true,[l8 b.V])] [] (.one (false,[.i .i64 (a0S a.V b.V)])):=by
 refine sx' false false none Tryz.func161 (q' 2 [ao (.box 1 (.t 0)),ao (.box 1 (.t 1)),aK 0] (.seq (q' 5 [aK 0] (.block 0 (.loop (.seq (q' 6 [am 5,aG 0 2,aN,ar 6 9,am 10,au (.mov (.t 5)) 11 true,au (.fa 0 (.t 3)) 11 true,au (.ld false 1 (.t 13)) 11 true,au (.len (.t 14)) 11 true,au (.bin .lss (.t 12) (.t 15)) 11 true,ao (.pick (.t 11) (.t 16) (bb false))] (.cond (.t 17) .skip (.exit 0))) (.seq (.block 1 (.seq (.seq (G' 20 [aG 0 2,am 5,aI 2,aE 2,aG 0 3,am 5,aI 2,aE 2,ac 223 [24,29]]) (.cond (.t 30) (q' 4 [ao (.mov (.k (.v false [.c (.i .i64 (-1))])))] .ret) .skip)) (.seq (G' 31 [aG 0 3,am 5,aI 2,aE 2,aG 0 2,am 5,aI 2,aE 2,ac 223 [35,40]]) (.cond (.t 41) (q' 4 [aK 1] .ret) .skip)))) (g' 18 [aB 5])))))) (.seq (q' 42 [aG 0 2,aN,aG 0 3,aN,ar 44 47] (.cond (.t 48) (q' 4 [ao (.mov (.k (.v false [.c (.i .i64 (-1))])))] .ret) .skip)) (.seq (q' 49 [aG 0 2,aN,aG 0 3,aN,ao (.bin .gtr (.t 51) (.t 54))] (.cond (.t 55) (q' 4 [aK 1] .ret) .skip)) (q' 4 [aK 0] .ret))))) [.t 4] [(223,[],a3z)] ?_;intro hb hE;simp only [go_sem];repeat' first | apply cj' | intro hc | exact om' | fail
 refine lq' false [2,3] [4,6] [] (fun i:{i:Nat // i<=a.V.length/\i<=b.V.length/\a0S (a.V.drop i) (b.V.drop i)=a0S a.V b.V}=>[(5,slV (.i .i64 i.1))]) nl' nl' (fun i=>a.V.length - i.1) (⟨0,by simp⟩) ?_;intro S0 hS0 i;obtain ⟨i,hi,hj,he⟩:=i;simp only [go_sem,hS0];repeat' first | apply cj' | intro hc | exact om' | fail
 ·rw [<- he,a0e (l:=a.V) default (by omega),a0e (l:=b.V) default (by omega),a0S,hc];rfl
 ·rename_i h1;rw [<- he,a0e (l:=a.V) default (by omega),a0e (l:=b.V) default (by omega),a0S,h1,hc];rfl
 ·rename_i h1;have h2:=he;rw [a0e (l:=a.V) default (by omega),a0e (l:=b.V) default (by omega),a0S,h1,hc] at h2;exact nx0 ⟨i+1,by omega,by omega,h2⟩
 all_goals have q:(decide ((i:Int) < a.V.length)&&decide ((i:Int) < b.V.length))=false:=by assumption
 all_goals rw [q3T,q1J,q1J] at q
 all_goals rw [<- he,d6w hi hj (by omega)]
 ·rw [if_pos (by omega)]
 ·rw [if_neg (by omega),if_pos (by omega)]
 ·rw [if_neg (by omega),if_neg (by omega)]
noncomputable def a2N:CT:=i9 (fun (x:d3×d3)=>b5X x.1 x.2)
@[go_sem] def c8Q:=fun x0 x1=>nm' (fQ' a2N rfl (⟨x0⟩,⟨x1⟩))
def c4p (r:d3):A0c Tryz.prog 216 [(true,[l8 r.V])] [] (.one (false,[.b (a0R r)])):=by
 refine sx' false false none Tryz.func216 (q' 0 [ax (o' 1 (.box 1 (.t 0))),ab 2 false] (.seq (q' 5 [aG 0 1,aN,ao (.bin .gtr (.t 7) (k' 6))] (.cond (.t 8) (q' 0 [ab 2 false] .ret) .skip)) (.seq (q' 9 [aG 0 1,aN,aK 0] (.block 0 (.loop (q' 13 [ar 12 11] (.seq (.cond (.t 13) .skip (.exit 0)) (.seq (.block 1 (q' 14 [ai 2 10 12,aE 2,ax (w' 4 [.i .i64,.s]),aS 2 4 15] (q' 16 [ae 2 4,ac 280 [16],ao (.not (.t 17))] (.cond (.t 18) (q' 0 [ab 2 false] .ret) .skip)))) (g' 19 [aA 12]))))))) (q' 0 [ab 2 true] .ret)))) [.t 2] [(280,[],a0V)] ?_;intro hb hE;simp only [go_sem];repeat' first | apply cj' | intro hc | exact om' | fail
 ·rw [a0R,V7 (by omega)];rfl
 have h6:((r.V.length:Int))<=6:=by omega
 refine lq' false [10,11] [] [] (fun i:{i:Nat // i<=r.V.length/\(r.V.take i).all k6=true}=>[(12,slV (.i .i64 i.1))]) nl' nl' (fun i=>r.V.length - i.1) (⟨0,by simp⟩) ?_;intro S0 hS0 i;obtain ⟨i,hi,ha⟩:=i;simp only [go_sem,hS0];repeat' first | apply cj' | intro hc | exact om' | fail
 ·rw [a0R,all_false (d:=default) (i:=i) (by omega) hc,q3G]
 ·exact nx0 ⟨i+1,by omega,z8 default (by omega) ha hc⟩
 ·rw [f8 (by omega)] at ha;rw [a0R,ha,V5 h6];rfl
noncomputable def a5P:CT:=i9 (fun (x:d3)=>c4p x)
@[go_sem] def d4I:=fun x0=>nm' (fQ' a5P rfl ⟨x0⟩)
def b8A (v:d4):A0c Tryz.prog 232 [(true,[.i .i64 v.N,.s v.S])] [] (.one (false,[.b (!k6 v)])):=by
 refine sx' false false none Tryz.func232 (q' 0 [ax (o' 1 (.box 2 (.t 0))),ab 2 false] (q' 3 [ae 2 1,ac 229 [3],ao (.not (.t 4)),aV 2] .ret)) [.t 2] [(229,[],a1K)] ?_;intro hb hE;simp only [go_sem];repeat' first | apply cj' | intro hc | exact om' | fail
noncomputable def a7l:CT:=i9 (fun (x:d4)=>b8A x)
@[go_sem] def d0a:=fun x0 x1=>nm' (fQ' a7l rfl ⟨x0,x1⟩)
def c9D (l:List d4):A0c Tryz.prog 294 [(false,[l8 l]),(false,[.f 232 []])] [] (.one (false,[.i .i64 (a0P (fun y=>!k6 y) l)])):=by
 refine sx' false false none Tryz.func294 (q' 4 [aK 0] (.seq (q' 6 [am 0,aN,aK 0] (.block 0 (.loop (q' 9 [ar 8 7] (.seq (.cond (.t 9) .skip (.exit 0)) (.seq (.block 1 (q' 10 [am 8,aV 5] (q' 11 [aM [1,0,5],aI 2,aE 2,ao (.callv (.t 11) [.t 15])] (.cond (.t 16) (q' 17 [am 5,aV 4] .ret) .skip)))) (g' 18 [aA 8]))))))) (q' 4 [ao (.mov (.k (.v false [.c (.i .i64 (-1))])))] .ret))) [.t 4] [(232,[],a7l)] ?_;intro hb hE;simp only [go_sem];repeat' first | apply cj' | intro hc | exact om' | fail
 refine lq' false [0,1,7] [] [] (fun i:{i:Nat // i<=l.length/\(l.take i).any (fun y=>!k6 y)=false}=>[(8,slV (.i .i64 i.1))]) nl' nl' (fun i=>l.length - i.1) (⟨0,by simp⟩) ?_;intro S0 hS0 i;obtain ⟨i,hi,ha⟩:=i;simp only [go_sem,hS0];repeat' first | apply cj' | intro hc | exact om' | fail
 ·exact (u9 (p:=fun y=>!k6 y) (d:=default) (by omega) ha (by simpa [-List.getD_eq_getElem?_getD] using hc)).symm
 ·exact nx0 ⟨i+1,by omega,o6 (p:=fun y=>!k6 y) default (by omega) ha (by simpa [-List.getD_eq_getElem?_getD] using hc)⟩
 ·exact (u7 (by rwa [f8 (by omega)] at ha)).symm
noncomputable def b7W:CT:=i9 (fun (x:(List d4))=>c9D x)
@[go_sem] def d6V:=fun l=>nm' (fQ' b7W rfl l)
def c9C (l:List d4):A0c Tryz.prog 231 [(false,[l8 l]),(false,[.f 232 []])] [] (.one (false,[.b (l.any (fun y=>!k6 y))])):=by
 refine sx' false false none Tryz.func231 (q' 0 [ab 4 false] (q' 5 [aM [0,1],ac 294 [5,6],ao (.bin .geq (.t 7) (k' 0)),aV 4] .ret)) [.t 4] [(294,[],b7W)] ?_;intro hb hE;simp only [go_sem];repeat' first | apply cj' | intro hc | exact om' | fail
 ·exact a0K _ _
noncomputable def b7V:CT:=i9 (fun (x:(List d4))=>c9C x)
@[go_sem] def d6U:=fun l=>nm' (fQ' b7V rfl l)
def c3V (r:d3):A0c Tryz.prog 179 [(true,[l8 r.V])] [] (.one (false,[.b (a0R r)])):=by
 refine sx' false false none Tryz.func179 (q' 0 [ax (o' 1 (.box 1 (.t 0))),ab 2 false] (q' 3 [aG 0 1,aN,ao (.bin .leq (.t 5) (k' 6)),am 6,au (.fa 0 (.t 1)) 7 true,au (.ld false 1 (.t 8)) 7 true,au (.call 231 [.t 9,.k (.v false [.c (.f 232 [])])]) 7 true,au (.not (.t 10)) 7 true,ao (.pick (.t 7) (.t 11) (bb false)),aV 2] .ret)) [.t 2] [(231,[],b7V)] ?_;intro hb hE;simp only [go_sem];repeat' first | apply cj' | intro hc | exact om' | fail
 all_goals rw [a8g,q5F,a0R]
noncomputable def b0N:CT:=i9 (fun (x:d3)=>c3V x)
@[go_sem] def d4k:=fun x0=>nm' (fQ' b0N rfl ⟨x0⟩)
def d3w (a:List d4) (b:List d4):A0c Tryz.prog 233 [(false,[l8 a]),(false,[l8 b]),(false,[.f 234 []])] [] (.one (false,[.i .i64 (a1o a b)])):=by
 refine sx' false false none Tryz.func233 (q' 6 [aK 0] (.seq (q' 11 [am 0,aN,aK 0] (.block 0 (.loop (q' 14 [ar 13 12] (.seq (.cond (.t 14) .skip (.exit 0)) (.seq (.block 1 (q' 15 [am 13,ai 2 11 13,aE 2,ax (w' 8 [.i .i64,.s]),av 7 15,aS 2 8 17] (.seq (q' 18 [aM [7,1],aN,ao (.bin .geq (.t 18) (.t 20))] (.cond (.t 21) (q' 6 [aK 1] .ret) .skip)) (q' 22 [aM [1,7],aI 2,aE 2,ax (w' 9 [.i .i64,.s]),aS 2 9 25] (q' 26 [am 2,ae 2 8,ae 2 9,ao (.callv (.t 26) [.t 27,.t 28]),aV 10] (q' 30 [am 10,ao (.bin .neq (.t 30) (k' 0))] (.cond (.t 31) (q' 32 [am 10,aV 6] .ret) .skip))))))) (g' 33 [aA 13]))))))) (.seq (q' 34 [am 0,aN,am 1,aN,ar 35 37] (.cond (.t 38) (q' 6 [ao (.mov (.k (.v false [.c (.i .i64 (-1))])))] .ret) .skip)) (q' 6 [aK 0] .ret)))) [.t 6] [(234,[],a1M)] ?_;intro hb hE;simp only [go_sem];repeat' first | apply cj' | intro hc | exact om' | fail
 refine lq' false [0,1,2,11,12] [] [] (fun i:{i:Nat // i<=a.length/\i<=b.length/\a1o (a.drop i) (b.drop i)=a1o a b}=>[(13,slV (.i .i64 i.1))]) nl' nl' (fun i=>a.length - i.1) (⟨0,by simp⟩) ?_;intro S0 hS0 i;obtain ⟨i,hi,hj,he⟩:=i;simp only [go_sem,hS0];repeat' first | apply cj' | intro hc | exact om' | fail
 ·rw [<- he,b7I hi hj (by omega),if_neg (by omega),if_pos (by omega)]
 ·rw [<- he,a0e (l:=a) default (by omega),a0e (l:=b) default (by omega),a1o,if_neg (by simpa using hc)]
 ·have h2:=he;rw [a0e (l:=a) default (by omega),a0e (l:=b) default (by omega),a1o,if_pos (by simpa using hc)] at h2;exact nx0 ⟨i+1,by omega,by omega,h2⟩
 ·rw [<- he,b7I hi hj (by omega),if_pos (by omega)]
 ·rw [<- he,b7I hi hj (by omega),if_neg (by omega),if_neg (by omega)]
noncomputable def c2g:CT:=i9 (fun (x:(List d4)×(List d4))=>d3w x.1 x.2)
@[go_sem] def d7b:=fun a b=>nm' (fQ' c2g rfl (a,b))
def b1y (a:d3) (b:d3):A0c Tryz.prog 180 [(true,[l8 a.V]),(true,[l8 b.V])] [] (.one (false,[.i .i64 (a1o a.V b.V)])):=by
 refine sx' false false none Tryz.func180 (q' 2 [ao (.box 1 (.t 0)),ao (.box 1 (.t 1)),aK 0] (q' 5 [aG 0 2,aG 0 3,ao (.call 233 [.t 6,.t 8,.k (.v false [.c (.f 234 [])])]),aV 4] .ret)) [.t 4] [(233,[],c2g)] ?_;intro hb hE;simp only [go_sem];repeat' first | apply cj' | intro hc | exact om' | fail
noncomputable def a5O:CT:=i9 (fun (x:d3×d3)=>b1y x.1 x.2)
@[go_sem] def d4p:=fun x0 x1=>nm' (fQ' a5O rfl (⟨x0⟩,⟨x1⟩))
def b5W (a:d3) (b:d3):A0c Tryz.prog 217 [(true,[l8 a.V]),(true,[l8 b.V])] [] (.one (false,[.i .i64 (a8e a b)])):=by
 refine sx' false false none Tryz.func217 (q' 2 [ao (.box 1 (.t 0)),ao (.box 1 (.t 1)),aK 0] (.seq (q' 5 [ae 1 2,ac 216 [5],ao (.not (.t 6)),am 7,au (.ld true 1 (.t 3)) 8 false,au (.call 216 [.t 9]) 8 false,au (.not (.t 10)) 8 false,ao (.pick (.t 8) (bb true) (.t 11))] (.cond (.t 12) (q' 4 [aK 2] .ret) .skip)) (q' 13 [ae 1 2,ae 1 3,ac 161 [13,14],aV 4] .ret))) [.t 4] [(216,[],a5P),(161,[],a2N)] ?_;intro hb hE;simp only [go_sem];repeat' first | apply cj' | intro hc | exact om' | fail
 ·rcases hc with h | h<;>simp [a8e,h]
 ·rw [a8e,hc.1,hc.2];rfl
noncomputable def a6v:CT:=i9 (fun (x:d3×d3)=>b5W x.1 x.2)
@[go_sem] def c8P:=fun x0 x1=>nm' (fQ' a6v rfl (⟨x0⟩,⟨x1⟩))
def a3U {n:Nat} {p:Nat->Bool} (h:a3b n p=false) {j:Nat} (hj:j < n):p j=false:=by
 simp only [a3b,q0Q] at h;simpa using b7G h hj
def y7 {r:d3} (h:a0R r=true):∀ x∈r.V,k6 x=true:=by
 simp only [a0R,W3,q0L] at h;exact h.2
def a2o {r:e7} {i:Nat} (h:a0z r i=false):a0R (r.Rows.getD i default)=true:=by
 simp only [a0z,q0Y,q0Q] at h;exact h.1.2
def bRow_ge {a b:List d4} (ha:∀ x∈a,k6 x=true) (hb:∀ x∈b,k6 x=true):decide (0<=a1o a b)=!(a0S a b==-1):=by
 have h:=b1Y ha hb;unfold sgn at h;rw [q4A];simp only [q0B,q0R,beq_eq_false_iff_ne];omega
def d3M {r:e7} {i:Nat} (ha:a3b i (a0z r)=false):(!a0R (r.Rows.getD i default) || !((r.Rows.getD i default).V.length==r.Arity) || (decide (0 < i)&&decide (0<=a1o (r.Rows.getD (i - 1) default).V (r.Rows.getD i default).V)))=a0z r i:=by
 rw [a0z];cases h:a0R (r.Rows.getD i default) with
 | false=>simp
 | true=>
   by_cases h0:0 < i
   ·rw [bRow_ge (y7 (a2o (a3U ha (show i - 1 < i by omega)))) (y7 h)];simp
   ·rw [V7 h0];simp
def b9K {r:e7} {i:Nat} (hi:i < r.Rows.length) (h:a0z r i=true):a0c r=false:=by
 rw [a0c,a2c hi h];simp
def c4o (r:e7):A0c Tryz.prog 153 [(true,[.i .i64 r.Arity,w4 r.Rows])] [] (.one (false,[.b (a0c r)])):=by
 refine sx' false false none Tryz.func153 (q' 0 [ax (o' 1 (.box 2 (.t 0))),ab 2 false] (.seq (q' 4 [aG 0 1,ao (.bin .lss (.t 5) (k' 0)),am 6,au (.fa 0 (.t 1)) 7 false,au (.ld false 1 (.t 8)) 7 false,au (.bin .gtr (.t 9) (k' 6)) 7 false,ao (.pick (.t 7) (bb true) (.t 10)),am 11,au (.fa 1 (.t 1)) 12 false,au (.ld false 1 (.t 13)) 12 false,au (.len (.t 14)) 12 false,au (.bin .gtr (.t 15) (k' 300)) 12 false,ao (.pick (.t 12) (bb true) (.t 16))] (.cond (.t 17) (q' 0 [ab 2 false] .ret) .skip)) (.seq (q' 18 [aG 1 1,aN,aK 0] (.block 0 (.loop (q' 22 [ar 21 20] (.seq (.cond (.t 22) .skip (.exit 0)) (.seq (.block 1 (q' 23 [am 21,aV 3] (.seq (.seq (G' 24 [aG 1 1,am 3,aI 1,aG 0 27,aN,aG 0 1,ao (.bin .neq (.t 30) (.t 32)),am 33,au (.fa 1 (.t 1)) 34 false,au (.ld false 1 (.t 35)) 34 false,au (.mov (.t 3)) 34 false,au (.ia 1 (.t 36) (.t 37)) 34 false,au (.ld true 1 (.t 38)) 34 false,au (.call 216 [.t 39]) 34 false,au (.not (.t 40)) 34 false,ao (.pick (.t 34) (bb true) (.t 41))]) (.cond (.t 42) (q' 0 [ab 2 false] .ret) .skip)) (.seq (G' 43 [am 3,ao (.bin .gtr (.t 43) (k' 0)),am 44,au (.fa 1 (.t 1)) 45 true,au (.ld false 1 (.t 46)) 45 true,au (.mov (.t 3)) 45 true,au (.bin .sub (.t 48) (k' 1)) 45 true,au (.ia 1 (.t 47) (.t 49)) 45 true,au (.ld true 1 (.t 50)) 45 true,au (.fa 1 (.t 1)) 45 true,au (.ld false 1 (.t 52)) 45 true,au (.mov (.t 3)) 45 true,au (.ia 1 (.t 53) (.t 54)) 45 true,au (.ld true 1 (.t 55)) 45 true,au (.call 217 [.t 51,.t 56]) 45 true,au (.bin .neq (.t 57) (.k (.v false [.c (.i .i64 (-1))]))) 45 true,ao (.pick (.t 45) (.t 58) (bb false))]) (.cond (.t 59) (q' 0 [ab 2 false] .ret) .skip))))) (g' 60 [aA 21]))))))) (q' 0 [ab 2 true] .ret)))) [.t 2] [(216,[],a5P),(217,[],a6v)] ?_;intro hb hE;simp only [go_sem];repeat' first | apply cj' | intro hc | exact om' | fail
 ·rcases hc with (h | h) | h
  ·rw [a0c,V7 (show ¬ 0<=r.Arity by omega)];rfl
  ·rw [a0c,V7 (show ¬ r.Arity<=6 by omega)];simp
  ·rw [a0c,V7 (show ¬ (r.Rows.length:Int)<=300 by omega)];simp
 have hA:=hc;clear hc;refine lq' false [1,20] [2] [] (fun i:{i:Nat // i<=r.Rows.length/\a3b i (a0z r)=false}=>[(21,slV (.i .i64 i.1))]) nl' nl' (fun i=>r.Rows.length - i.1) (⟨0,by simp [a1y]⟩) ?_;intro S0 hS0 i;obtain ⟨i,hi,ha⟩:=i;have hw:0 < i->IntKind.i64.wrap ((i:Int) - 1)=((i - 1:Nat):Int):=fun h=>by rw [IntWalk.i64_in _ (by omega)];omega
 simp only [go_sem,hS0];repeat' first | apply cj' | intro hc | exact om' | fail
 ·have hq:a0z r i=true:=by
   rw [a0z];rcases hc with h | h
   ·simp only [bne] at h;rw [h];rfl
   ·rw [h];simp
  rw [b9K (by omega) hq]
 ·rename_i h1;have hq:a0z r i=true:=by
   rw [hw (by omega)] at hc;rw [a8e,h1.2,show ((i - 1:Nat):Int).toNat=i - 1 from rfl,a2o (a3U ha (show i - 1 < i by omega))] at hc;rw [a0z,V5 (show 0 < i by omega)];have h3:=hc.2;simp only [bne,q2D,W9] at h3;rw [h3];simp
  rw [b9K (by omega) hq]
 ·rename_i h1;have hq:a0z r i=false:=by
   have h2:=h1.1;simp only [bne] at h2;rw [a0z,h2,h1.2];by_cases h0:0 < i
   ·rw [hw h0,V5 (show (0:Int) < i by omega),a8e,h1.2,show ((i - 1:Nat):Int).toNat=i - 1 from rfl,a2o (a3U ha (show i - 1 < i by omega))] at hc;rw [V5 h0];exact hc
   ·rw [V7 h0];rfl
  exact nx0 ⟨i+1,by omega,a1h ha hq⟩
 ·obtain rfl:i=r.Rows.length:=by omega
  rw [a0c,ha,V5 (show 0<=r.Arity by omega),V5 (show r.Arity<=6 by omega),V5 (show (r.Rows.length:Int)<=300 by omega)];rfl
noncomputable def b1h:CT:=i9 (fun (x:e7)=>c4o x)
@[go_sem] def d4H:=fun x0 x1=>nm' (fQ' b1h rfl ⟨x0,x1⟩)
def c3U (r:e7):A0c Tryz.prog 105 [(true,[.i .i64 r.Arity,w4 r.Rows])] [] (.one (false,[.b (a0c r)])):=by
 refine sx' false false none Tryz.func105 (q' 0 [ax (o' 1 (.box 2 (.t 0))),ab 2 false] (.seq (q' 5 [aG 1 1,aN,aK 0] (.block 0 (.loop (q' 9 [ar 8 7] (.seq (.cond (.t 9) .skip (.exit 0)) (.seq (.block 1 (q' 10 [am 8,ai 1 6 8,aE 1,ax (w' 4 [.sl l5]),av 3 10,aS 1 4 12] (.seq (G' 13 [ae 1 4,ac 179 [13],ao (.not (.t 14)),am 15,au (.fa 0 (.t 4)) 16 false,au (.ld false 1 (.t 17)) 16 false,au (.len (.t 18)) 16 false,au (.fa 0 (.t 1)) 16 false,au (.ld false 1 (.t 20)) 16 false,au (.bin .neq (.t 19) (.t 21)) 16 false,ao (.pick (.t 16) (bb true) (.t 22)),am 23,au (.mov (.t 3)) 24 false,au (.bin .gtr (.t 25) (k' 0)) 24 false,au (.mov (.t 26)) 24 false,au (.fa 1 (.t 1)) 27 true,au (.ld false 1 (.t 28)) 27 true,au (.mov (.t 3)) 27 true,au (.bin .sub (.t 30) (k' 1)) 27 true,au (.ia 1 (.t 29) (.t 31)) 27 true,au (.ld true 1 (.t 32)) 27 true,au (.ld true 1 (.t 4)) 27 true,au (.call 180 [.t 33,.t 34]) 27 true,au (.bin .geq (.t 35) (k' 0)) 27 true,au (.pick (.t 27) (.t 36) (bb false)) 24 false,ao (.pick (.t 24) (bb true) (.t 37))]) (.cond (.t 38) (q' 0 [ab 2 false] .ret) .skip)))) (g' 39 [aA 8]))))))) (q' 40 [aG 0 1,ao (.call 181 [.t 41,.k (.v false [.c (.i .i64 6)])]),am 42,au (.fa 1 (.t 1)) 43 true,au (.ld false 1 (.t 44)) 43 true,au (.len (.t 45)) 43 true,au (.bin .leq (.t 46) (k' 300)) 43 true,ao (.pick (.t 43) (.t 47) (bb false)),aV 2] .ret))) [.t 2] [(179,[],b0N),(180,[],a5O),(181,[],a7x)] ?_;intro hb hE;simp only [go_sem];repeat' first | apply cj' | intro hc | exact om' | fail
 refine lq' false [1,6,7] [2] [] (fun i:{i:Nat // i<=r.Rows.length/\a3b i (a0z r)=false}=>[(8,slV (.i .i64 i.1))]) nl' nl' (fun i=>r.Rows.length - i.1) (⟨0,by simp [a1y]⟩) ?_;intro S0 hS0 i;obtain ⟨i,hi,ha⟩:=i;have hR:=d3M ha;have hw:0 < i->IntKind.i64.wrap ((i:Int) - 1)=((i - 1:Nat):Int):=fun h=>by rw [IntWalk.i64_in _ (by omega)];omega
 simp only [go_sem,hS0];repeat' first | apply cj' | intro hc | exact om' | fail
 ·have hq:a0z r i=true:=by
   rw [<- hR];rcases hc with (h | h) | ⟨h0,h⟩
   ·rw [h];rfl
   ·simp only [bne] at h;rw [h];simp
   ·rw [hw (by omega)] at h;have h':0<=a1o (r.Rows.getD (i - 1) default).V (r.Rows.getD i default).V:=h;rw [V5 (show 0 < i by omega),V5 h'];simp
  rw [b9K (by omega) hq]
 ·have hq:a0z r i=false:=by
   rw [<- hR];obtain ⟨⟨h1,h2⟩,h3⟩:=hc;simp only [bne] at h2;rw [h1,h2];by_cases h0:0 < i
   ·rw [hw h0,V5 (show (0:Int) < i by omega)] at h3;rw [V5 h0];exact h3
   ·rw [V7 h0];rfl
  exact nx0 ⟨i+1,by omega,a1h ha hq⟩
 ·obtain rfl:i=r.Rows.length:=by omega
  rw [a0c,ha];simp
noncomputable def b0M:CT:=i9 (fun (x:e7)=>c3U x)
@[go_sem] def d4j:=fun x0 x1=>nm' (fQ' b0M rfl ⟨x0,x1⟩)
def c2K {s:c8} {i:Nat} (hi:i < s.Rels.length) (h:a0A s.Rels i=true):j4 s=false:=by
 rw [j4,a2c hi h];simp
def b9m (s:c8):A0c Tryz.prog 88 [(true,[i5 s.Rels])] [] (.one (false,[.b (j4 s)])):=by
 refine sx' false false none Tryz.func88 (q' 0 [ax (o' 1 (.box 1 (.t 0))),ab 2 false] (.seq (q' 4 [aG 0 1,aN,ao (.bin .gtr (.t 6) (k' 24))] (.cond (.t 7) (q' 0 [ab 2 false] .ret) .skip)) (.seq (q' 8 [aG 0 1,aN,aK 0] (.block 0 (.loop (q' 12 [ar 11 10] (.seq (.cond (.t 12) .skip (.exit 0)) (.seq (.block 1 (q' 13 [am 11,aV 3] (.seq (G' 14 [aG 0 1,am 3,aI 3,aG 0 17,ac 152 [19],ao (.not (.t 20)),am 21,au (.fa 0 (.t 1)) 22 false,au (.ld false 1 (.t 23)) 22 false,au (.mov (.t 3)) 22 false,au (.ia 3 (.t 24) (.t 25)) 22 false,au (.fa 1 (.t 26)) 22 false,au (.ld true 2 (.t 27)) 22 false,au (.call 153 [.t 28]) 22 false,au (.not (.t 29)) 22 false,ao (.pick (.t 22) (bb true) (.t 30)),am 31,au (.mov (.t 3)) 32 false,au (.bin .gtr (.t 33) (k' 0)) 32 false,au (.mov (.t 34)) 32 false,au (.fa 0 (.t 1)) 35 true,au (.ld false 1 (.t 36)) 35 true,au (.mov (.t 3)) 35 true,au (.bin .sub (.t 38) (k' 1)) 35 true,au (.ia 3 (.t 37) (.t 39)) 35 true,au (.fa 0 (.t 40)) 35 true,au (.ld false 1 (.t 41)) 35 true,au (.fa 0 (.t 1)) 35 true,au (.ld false 1 (.t 43)) 35 true,au (.mov (.t 3)) 35 true,au (.ia 3 (.t 44) (.t 45)) 35 true,au (.fa 0 (.t 46)) 35 true,au (.ld false 1 (.t 47)) 35 true,au (.bin .geq (.t 42) (.t 48)) 35 true,au (.pick (.t 35) (.t 49) (bb false)) 32 false,ao (.pick (.t 32) (bb true) (.t 50))]) (.cond (.t 51) (q' 0 [ab 2 false] .ret) .skip)))) (g' 52 [aA 11]))))))) (q' 0 [ab 2 true] .ret)))) [.t 2] [(152,[],a2s),(153,[],b1h)] ?_;intro hb hE;simp only [go_sem];repeat' first | apply cj' | intro hc | exact om' | fail
 ·rw [j4,V7 (by omega)];rfl
 have hA:=hc;clear hc;refine lq' false [1,10] [2] [] (fun i:{i:Nat // i<=s.Rels.length/\a3b i (a0A s.Rels)=false}=>[(11,slV (.i .i64 i.1))]) nl' nl' (fun i=>s.Rels.length - i.1) (⟨0,by simp [a1y]⟩) ?_;intro S0 hS0 i;obtain ⟨i,hi,ha⟩:=i;have hw:0 < i->IntKind.i64.wrap ((i:Int) - 1)=((i - 1:Nat):Int):=fun h=>by rw [IntWalk.i64_in _ (by omega)];omega
 simp only [go_sem,hS0];repeat' first | apply cj' | intro hc | exact om' | fail
 ·have hq:a0A s.Rels i=true:=by
   rw [a0A];rcases hc with (h | h) | ⟨h0,h⟩
   ·rw [h];rfl
   ·rw [h];simp
   ·rw [hw (by omega)] at h;have h':Op.bytesLess (s.Rels.getD (i - 1) default).Name (s.Rels.getD i default).Name=false:=h;rw [V5 (show 0 < i by omega),h'];simp
  rw [c2K (by omega) hq]
 ·have hq:a0A s.Rels i=false:=by
   obtain ⟨⟨h1,h2⟩,h3⟩:=hc;rw [a0A,h1,h2];by_cases h0:0 < i
   ·rw [hw h0,V5 (show (0:Int) < i by omega)] at h3;rw [V5 h0];exact h3
   ·rw [V7 h0];rfl
  exact nx0 ⟨i+1,by omega,a1h ha hq⟩
 ·obtain rfl:i=s.Rels.length:=by omega
  rw [j4,ha,V5 (show (s.Rels.length:Int)<=24 by omega)];rfl
noncomputable def a7P:CT:=i9 (fun (x:c8)=>b9m x)
@[go_sem] def d0N:=fun x0=>nm' (fQ' a7P rfl ⟨x0⟩)
def b8C (s:c8):A0c Tryz.prog 47 [(true,[i5 s.Rels])] [] (.one (false,[.b (j4 s)])):=by
 refine sx' false false none Tryz.func47 (q' 0 [ax (o' 1 (.box 1 (.t 0))),ab 2 false] (.seq (q' 5 [aG 0 1,aN,aK 0] (.block 0 (.loop (q' 9 [ar 8 7] (.seq (.cond (.t 9) .skip (.exit 0)) (.seq (.block 1 (q' 10 [am 8,ai 3 6 8,aE 3,ax (w' 4 [.s,.i .i64,.sl l6]),av 3 10,aS 3 4 12] (.seq (G' 13 [aG 0 4,ac 104 [14],ao (.not (.t 15)),am 16,au (.fa 1 (.t 4)) 17 false,au (.ld true 2 (.t 18)) 17 false,au (.call 105 [.t 19]) 17 false,au (.not (.t 20)) 17 false,ao (.pick (.t 17) (bb true) (.t 21)),am 22,au (.mov (.t 3)) 23 false,au (.bin .gtr (.t 24) (k' 0)) 23 false,au (.mov (.t 25)) 23 false,au (.fa 0 (.t 1)) 26 true,au (.ld false 1 (.t 27)) 26 true,au (.mov (.t 3)) 26 true,au (.bin .sub (.t 29) (k' 1)) 26 true,au (.ia 3 (.t 28) (.t 30)) 26 true,au (.fa 0 (.t 31)) 26 true,au (.ld false 1 (.t 32)) 26 true,au (.fa 0 (.t 4)) 26 true,au (.ld false 1 (.t 34)) 26 true,au (.bin .geq (.t 33) (.t 35)) 26 true,au (.pick (.t 26) (.t 36) (bb false)) 23 false,ao (.pick (.t 23) (bb true) (.t 37))]) (.cond (.t 38) (q' 0 [ab 2 false] .ret) .skip)))) (g' 39 [aA 8]))))))) (q' 40 [aG 0 1,aN,ao (.bin .leq (.t 42) (k' 24)),aV 2] .ret))) [.t 2] [(104,[],a2r),(105,[],b0M)] ?_;intro hb hE;simp only [go_sem];repeat' first | apply cj' | intro hc | exact om' | fail
 refine lq' false [1,6,7] [2] [] (fun i:{i:Nat // i<=s.Rels.length/\a3b i (a0A s.Rels)=false}=>[(8,slV (.i .i64 i.1))]) nl' nl' (fun i=>s.Rels.length - i.1) (⟨0,by simp [a1y]⟩) ?_;intro S0 hS0 i;obtain ⟨i,hi,ha⟩:=i;have hw:0 < i->IntKind.i64.wrap ((i:Int) - 1)=((i - 1:Nat):Int):=fun h=>by rw [IntWalk.i64_in _ (by omega)];omega
 simp only [go_sem,hS0];repeat' first | apply cj' | intro hc | exact om' | fail
 ·have hq:a0A s.Rels i=true:=by
   rw [a0A];rcases hc with (h | h) | ⟨h0,h⟩
   ·rw [h];rfl
   ·rw [h];simp
   ·rw [hw (by omega)] at h;have h':Op.bytesLess (s.Rels.getD (i - 1) default).Name (s.Rels.getD i default).Name=false:=h;rw [V5 (show 0 < i by omega),h'];simp
  rw [c2K (by omega) hq]
 ·have hq:a0A s.Rels i=false:=by
   obtain ⟨⟨h1,h2⟩,h3⟩:=hc;rw [a0A,h1,h2];by_cases h0:0 < i
   ·rw [hw h0,V5 (show (0:Int) < i by omega)] at h3;rw [V5 h0];exact h3
   ·rw [V7 h0];rfl
  exact nx0 ⟨i+1,by omega,a1h ha hq⟩
 ·obtain rfl:i=s.Rels.length:=by omega
  rw [j4,ha,q3M,q1R]
noncomputable def a7n:CT:=i9 (fun (x:c8)=>b8C x)
@[go_sem] def d0c:=fun x0=>nm' (fQ' a7n rfl ⟨x0⟩)
def d6G {α:Type} {f:α->Nat} {k:Nat}:∀ {l:List α},(∀ x∈l,f x<=k)->(l.map f).sum<=k * l.length
 | [],_=>by simp
 | x::l,h=>by
   have:=d6G (l:=l) fun y hy=>h y (by simp [hy])
   have:=h x (by simp);simp only [q0F,List.sum_cons,V8,Nat.mul_succ];omega
def a5C {r:e7} (h:a0c r=true):r.Rows.length<=300:=by
 simp only [a0c,W3,q0B] at h;omega
def a1e {s:c8} (h:j4 s=true):s.Rels.length<=24:=by
 simp only [j4,W3,q0B] at h;omega
def a1G {s:c8} (h:j4 s=true):∀ x∈s.Rels,a0c x.Rel=true:=by
 intro x hx;obtain ⟨i,hi,rfl⟩:=q1P hx;simp only [j4,W3,q0R] at h;have:=a3U h.2 hi;simp only [a0A,q0Y,q0Q,i8 default hi] at this;exact this.1.2
def b1X (s:c8) (i:Nat):Nat:=((s.Rels.take i).map fun x=>x.Rel.Rows.length).sum
def b9M {s:c8} (h:j4 s=true) {i:Nat} (hi:i<=s.Rels.length):b1X s i<=7200:=by
 have h1:=a1e h;have h2:=d6G (f:=fun x:c9=>x.Rel.Rows.length) (k:=300) (l:=s.Rels.take i) fun x hx=>a5C (a1G h x (q1Y hx))
 rw [V1] at h2;unfold b1X;omega
def b9N {s:c8} {i:Nat} (hi:i < s.Rels.length):b1X s (i+1)=b1X s i+(s.Rels.getD i default).Rel.Rows.length:=by
 unfold b1X;rw [i3 default hi,q1F,List.sum_append];simp
def b3U {s:c8} {i:Nat} (hi:¬ i < s.Rels.length):b1X s i=v9 s:=by
 unfold b1X v9;rw [f8 hi]
def b9v (s:c8) (hpre:j4 s=true):A0c Tryz.prog 129 [(true,[i5 s.Rels])] [] (.one (false,[.i .i64 (v9 s:Nat)])):=by
 refine sx' false false none Tryz.func129 (q' 1 [ao (.box 1 (.t 0)),aK 0] (q' 3 [aK 0] (.seq (q' 5 [aG 0 1,aN,aK 0] (.block 0 (.loop (q' 9 [ar 8 7] (.seq (.cond (.t 9) .skip (.exit 0)) (.seq (.block 1 (q' 10 [am 8,aV 4] (g' 11 [am 3,aG 0 1,am 4,aI 3,aF 1,aG 1 16,aN,ao (.bin .add (.t 11) (.t 19)),aV 3]))) (g' 21 [aA 8]))))))) (q' 22 [am 3,aV 2] .ret)))) [.t 2] [] ?_;intro hb hE;simp only [go_sem];repeat' first | apply cj' | intro hc | exact om' | fail
 refine lq' false [1,7] [2] [] (fun i:{i:Nat // i<=s.Rels.length}=>[(3,slV (.i .i64 (b1X s i.1:Nat))),(8,slV (.i .i64 i.1))]) nl' nl' (fun i=>s.Rels.length - i.1) (⟨0,by simp⟩) ?_;intro S0 hS0 i;obtain ⟨i,hi⟩:=i;simp only [go_sem,hS0];repeat' first | apply cj' | intro hc | exact om' | fail
 ·have h1:=b9N (s:=s) (i:=i) (by omega);have h2:=b9M hpre (i:=i+1) (by omega);exact nx0 ⟨i+1,by omega⟩
 ·rw [b3U (by omega)]
noncomputable def a7T:CT:=k9 (fun (x:c8) h=>b9v x h)
@[go_sem] def d0W:=fun x0=>nm' (fP' a7T rfl ⟨x0⟩)
def b3q (s:c8) (hpre:j4 s=true):A0c Tryz.prog 205 [(true,[i5 s.Rels])] [] (.one (false,[.i .i64 (v9 s:Nat)])):=by
 refine sx' false false none Tryz.func205 (q' 1 [ao (.box 1 (.t 0)),aK 0] (q' 3 [aK 0] (.seq (q' 6 [aG 0 1,aN,aK 0] (.block 0 (.loop (q' 10 [ar 9 8] (.seq (.cond (.t 10) .skip (.exit 0)) (.seq (.block 1 (q' 11 [ai 3 7 9,aE 3,ax (w' 5 [.s,.i .i64,.sl l6]),aS 3 5 12] (g' 13 [am 3,af 1 5,aG 1 14,aN,ao (.bin .add (.t 13) (.t 17)),aV 3]))) (g' 19 [aA 9]))))))) (q' 20 [am 3,aV 2] .ret)))) [.t 2] [] ?_;intro hb hE;simp only [go_sem];repeat' first | apply cj' | intro hc | exact om' | fail
 refine lq' false [7,8] [] [] (fun i:{i:Nat // i<=s.Rels.length}=>[(3,slV (.i .i64 (b1X s i.1:Nat))),(9,slV (.i .i64 i.1))]) nl' nl' (fun i=>s.Rels.length - i.1) (⟨0,by simp⟩) ?_;intro S0 hS0 i;obtain ⟨i,hi⟩:=i;simp only [go_sem,hS0];repeat' first | apply cj' | intro hc | exact om' | fail
 ·have h1:=b9N (s:=s) (i:=i) (by omega);have h2:=b9M hpre (i:=i+1) (by omega);exact nx0 ⟨i+1,by omega⟩
 ·rw [b3U (by omega)]
noncomputable def a5b:CT:=k9 (fun (x:c8) h=>b3q x h)
@[go_sem] def c7p:=fun x0=>nm' (fP' a5b rfl ⟨x0⟩)
def t7 (s:c8) (n:List UInt8):e7×Bool:=if 0<=a0P (fun x:c9=>x.Name==n) s.Rels then ((s.Rels.getD (a0P (fun x:c9=>x.Name==n) s.Rels).toNat default).Rel,true) else (⟨0,[]⟩,false)
def b9J {s:c8} {n:List UInt8} {i:Nat} (hi:i < s.Rels.length) (ha:(s.Rels.take i).any (fun x=>x.Name==n)=false) (h:((s.Rels.getD i default).Name==n)=true):t7 s n=((s.Rels.getD i default).Rel,true):=by
 rw [t7,u9 (p:=fun x:c9=>x.Name==n) default hi ha h,if_pos (by omega)];rfl
def b9I {s:c8} {n:List UInt8} (ha:s.Rels.any (fun x=>x.Name==n)=false):t7 s n=(⟨0,[]⟩,false):=by
 rw [t7,u7 ha,if_neg (by decide)]
def c1N (s:c8) (n:List UInt8):A0c Tryz.prog 154 [(true,[i5 s.Rels]),(false,[.s n])] [] (.tup [(true,[.i .i64 (((t7 s n).1).Arity),w4 (((t7 s n).1).Rows)]),(false,[.b ((t7 s n).2)])]):=by
 refine sx' false true none Tryz.func154 (q' 2 [ao (.box 1 (.t 0)),ax (w' 4 [.i .i64,.sl l6]),ab 5 false] (.seq (q' 7 [aG 0 2,aN,aK 0] (.block 0 (.loop (q' 11 [ar 10 9] (.seq (.cond (.t 11) .skip (.exit 0)) (.seq (.block 1 (q' 12 [am 10,aV 6] (q' 13 [aG 0 2,am 6,aI 3,aG 0 16,am 1,ao (.bin .eql (.t 18) (.t 19))] (.cond (.t 20) (q' 21 [aG 0 2,am 6,aI 3,aF 1,aE 2,aS 2 4 26,ab 5 true] .ret) .skip)))) (g' 27 [aA 10]))))))) (q' 28 [ao (.bld [.i .i64,.sl l6] []),aS 2 4 28,ab 5 false] .ret))) [.c 4 true 2,.t 5] [] ?_;intro hb hE;simp only [go_sem];repeat' first | apply cj' | intro hc | exact om' | fail
 refine lq' false [1,2,4,9] [4] [] (fun i:{i:Nat // i<=s.Rels.length/\(s.Rels.take i).any (fun x=>x.Name==n)=false}=>[(10,slV (.i .i64 i.1))]) (fun i=>[(8,[.c (.i .i64 0),.nl l6])]) nl' (fun i=>s.Rels.length - i.1) (⟨0,by simp⟩) ?_;intro S0 hS0 i;obtain ⟨i,hi,ha⟩:=i;simp only [go_sem,hS0];repeat' first | apply cj' | intro hc | exact om' | fail
 ·rw [b9J (by omega) ha hc];exact ⟨⟨rfl,rfl⟩,rfl⟩
 ·exact nx0 ⟨i+1,by omega,o6 (p:=fun x:c9=>x.Name==n) default (by omega) ha hc⟩
 ·rw [f8 (by omega)] at ha;rw [b9I ha];exact ⟨⟨rfl,rfl⟩,rfl⟩
noncomputable def a2t:CT:=i9 (fun (x:c8×(List UInt8))=>c1N x.1 x.2)
@[go_sem] def d3c:=fun x0 n=>nm' (fQ' a2t rfl (⟨x0⟩,n))
def c4c (s:c8) (n:List UInt8):A0c Tryz.prog 235 [(true,[i5 s.Rels]),(false,[.s n])] [] (.tup [(true,[.i .i64 (((t7 s n).1).Arity),w4 (((t7 s n).1).Rows)]),(false,[.b ((t7 s n).2)])]):=by
 refine sx' false true none Tryz.func235 (q' 2 [ao (.box 1 (.t 0)),ax (w' 4 [.i .i64,.sl l6]),ab 5 false] (.seq (q' 8 [aG 0 2,aN,aK 0] (.block 0 (.loop (q' 12 [ar 11 10] (.seq (.cond (.t 12) .skip (.exit 0)) (.seq (.block 1 (q' 13 [ai 3 9 11,aE 3,ax (w' 7 [.s,.i .i64,.sl l6]),aS 3 7 14] (q' 15 [aG 0 7,am 1,ao (.bin .eql (.t 16) (.t 17))] (.cond (.t 18) (q' 19 [af 1 7,aE 2,aS 2 4 20,ab 5 true] .ret) .skip)))) (g' 21 [aA 11]))))))) (q' 22 [ao (.bld [.i .i64,.sl l6] []),aS 2 4 22,ab 5 false] .ret))) [.c 4 true 2,.t 5] [] ?_;intro hb hE;simp only [go_sem];repeat' first | apply cj' | intro hc | exact om' | fail
 refine lq' false [1,4,9,10] [] [] (fun i:{i:Nat // i<=s.Rels.length/\(s.Rels.take i).any (fun x=>x.Name==n)=false}=>[(11,slV (.i .i64 i.1))]) (fun i=>[(8,[.c (.i .i64 0),.nl l6])]) nl' (fun i=>s.Rels.length - i.1) (⟨0,by simp⟩) ?_;intro S0 hS0 i;obtain ⟨i,hi,ha⟩:=i;simp only [go_sem,hS0];repeat' first | apply cj' | intro hc | exact om' | fail
 ·rw [b9J (by omega) ha hc];exact ⟨⟨rfl,rfl⟩,rfl⟩
 ·exact nx0 ⟨i+1,by omega,o6 (p:=fun x:c9=>x.Name==n) default (by omega) ha hc⟩
 ·rw [f8 (by omega)] at ha;rw [b9I ha];exact ⟨⟨rfl,rfl⟩,rfl⟩
noncomputable def a3d:CT:=i9 (fun (x:c8×(List UInt8))=>c4c x.1 x.2)
@[go_sem] def d4u:=fun x0 n=>nm' (fQ' a3d rfl (⟨x0⟩,n))
def vNe (a b:List d4) (i:Nat):Bool:=!vEq (a.getD i default) (b.getD i default)
def a1X (a b:List d4):Bool:=decide (a.length=b.length)&&!a3b a.length (vNe a b)
def d6I {a b:d4} (h:vEq a b=true):a=b:=by
 obtain ⟨n,s⟩:=a;obtain ⟨m,r⟩:=b;simp only [vEq,W3,beq_iff_eq] at h;rw [h.1,h.2]
def vEq_rfl (a:d4):vEq a a=true:=by simp [vEq]
def b4z (a b:List d4):a1X a b=decide (a=b):=by
 rw [q4A,q0B];constructor
 ·intro h;simp only [a1X,W3,q0B,q0R] at h;refine q4K h.1 fun i h1 h2=>?_
  have:=a3U h.2 h1;simp only [vNe,q0Q,i8 default h1,i8 default h2] at this;exact d6I this
 ·rintro rfl;rw [a1X,V5 rfl,q0U,q0R];cases h:a3b a.length (vNe a a) with
  | false=>rfl
  | true=>
    simp only [a3b,q0R] at h;rw [d5j.2 fun i _=>by simp [vNe,vEq_rfl]] at h;cases h
def b1M (a:d3) (b:d3):A0c Tryz.prog 194 [(true,[l8 a.V]),(true,[l8 b.V])] [] (.one (false,[.b (decide (a.V=b.V))])):=by
 refine sx' false false none Tryz.func194 (q' 2 [ao (.box 1 (.t 0)),ao (.box 1 (.t 1)),ao (.mov (bb false))] (.seq (q' 6 [aG 0 2,aN,aG 0 3,aN,ao (.bin .neq (.t 8) (.t 11))] (.cond (.t 12) (q' 0 [ab 4 false] .ret) .skip)) (.seq (q' 13 [aG 0 2,aN,aK 0] (.block 0 (.loop (q' 17 [ar 16 15] (.seq (.cond (.t 17) .skip (.exit 0)) (.seq (.block 1 (q' 18 [am 16,aV 5] (.seq (G' 19 [aG 0 2,am 5,aI 2,aE 2,aG 0 3,am 5,aI 2,aE 2,ao (.eqs true [.i .i64,.s] (.t 23) (.t 28))]) (.cond (.t 29) (q' 0 [ab 4 false] .ret) .skip)))) (g' 30 [aA 16]))))))) (q' 0 [ab 4 true] .ret)))) [.t 4] [] ?_;intro hb hE;rw [<- b4z];simp only [go_sem];repeat' first | apply cj' | intro hc | exact om' | fail
 ·rw [a1X,V7 (fun h=>by simp [h] at hc)];rfl
 have hl:a.V.length=b.V.length:=by simpa [q3I] using hc
 clear hc;refine lq' false [2,3,15] [4,6] [] (fun i:{i:Nat // i<=a.V.length/\a3b i (vNe a.V b.V)=false}=>[(16,slV (.i .i64 i.1))]) nl' nl' (fun i=>a.V.length - i.1) (⟨0,by simp [a1y]⟩) ?_;intro S0 hS0 i;obtain ⟨i,hi,ha⟩:=i;simp only [go_sem,hS0];repeat' first | apply cj' | intro hc | exact om' | fail
 ·rw [a1X,a2c (i:=i) (by omega) (show vNe a.V b.V i=true by rw [vNe,vEq,hc];rfl)];simp
 ·exact nx0 ⟨i+1,by omega,a1h ha (show vNe a.V b.V i=false by rw [vNe,vEq,hc.1,hc.2];rfl)⟩
 ·obtain rfl:i=a.V.length:=by omega
  rw [a1X,ha,V5 hl];rfl
noncomputable def a4g:CT:=i9 (fun (x:d3×d3)=>b1M x.1 x.2)
@[go_sem] def c5H:=fun x0 x1=>nm' (fQ' a4g rfl (⟨x0⟩,⟨x1⟩))
def d6d (a:List d4) (b:List d4):A0c Tryz.prog 245 [(false,[l8 a]),(false,[l8 b])] [] (.one (false,[.b (decide (a=b))])):=by
 refine sx' false false none Tryz.func245 (q' 0 [ab 4 false] (.seq (q' 6 [am 0,aN,am 1,aN,ao (.bin .neq (.t 7) (.t 9))] (.cond (.t 10) (q' 0 [ab 4 false] .ret) .skip)) (.seq (q' 11 [am 0,aN,aK 0] (.block 0 (.loop (q' 14 [ar 13 12] (.seq (.cond (.t 14) .skip (.exit 0)) (.seq (.block 1 (q' 15 [am 13,aV 5] (.seq (G' 16 [aM [0,5],aI 2,aE 2,aM [1,5],aI 2,aE 2,ao (.eqs true [.i .i64,.s] (.t 19) (.t 23))]) (.cond (.t 24) (q' 0 [ab 4 false] .ret) .skip)))) (g' 25 [aA 13]))))))) (q' 0 [ab 4 true] .ret)))) [.t 4] [] ?_;intro hb hE;rw [<- b4z];simp only [go_sem];repeat' first | apply cj' | intro hc | exact om' | fail
 ·rw [a1X,V7 (fun h=>by simp [h] at hc)];rfl
 have hl:a.length=b.length:=by simpa [q3I] using hc
 clear hc;refine lq' false [0,1,12] [] [] (fun i:{i:Nat // i<=a.length/\a3b i (vNe a b)=false}=>[(13,slV (.i .i64 i.1))]) nl' nl' (fun i=>a.length - i.1) (⟨0,by simp [a1y]⟩) ?_;intro S0 hS0 i;obtain ⟨i,hi,ha⟩:=i;simp only [go_sem,hS0];repeat' first | apply cj' | intro hc | exact om' | fail
 ·rw [a1X,a2c (i:=i) (by omega) (show vNe a b i=true by rw [vNe,vEq,hc];rfl)];simp
 ·exact nx0 ⟨i+1,by omega,a1h ha (show vNe a b i=false by rw [vNe,vEq,hc.1,hc.2];rfl)⟩
 ·obtain rfl:i=a.length:=by omega
  rw [a1X,ha,V5 hl];rfl
noncomputable def c5s:CT:=i9 (fun (x:(List d4)×(List d4))=>d6d x.1 x.2)
@[go_sem] def c_eqVals_eq:=fun a b=>nm' (fQ' c5s rfl (a,b))
def a7Y (a:d3) (b:d3):A0c Tryz.prog 190 [(true,[l8 a.V]),(true,[l8 b.V])] [] (.one (false,[.b (decide (a.V=b.V))])):=by
 refine sx' false false none Tryz.func190 (q' 2 [ao (.box 1 (.t 0)),ao (.box 1 (.t 1)),ao (.mov (bb false))] (q' 5 [aG 0 2,aG 0 3,ac 245 [6,8],aV 4] .ret)) [.t 4] [(245,[],c5s)] ?_;intro hb hE;simp only [go_sem];repeat' first | apply cj' | intro hc | exact om' | fail
noncomputable def b7Y:CT:=i9 (fun (x:d3×d3)=>a7Y x.1 x.2)
@[go_sem] def d0r:=fun x0 x1=>nm' (fQ' b7Y rfl (⟨x0⟩,⟨x1⟩))
def a1V (l:List d3) (r:d3):Bool:=l.any fun x=>decide (x.V=r.V)
def c1L (l:List d3) (r:d3):A0c Tryz.prog 160 [(false,[w4 l]),(true,[l8 r.V])] [] (.one (false,[.b (a1V l r)])):=by
 refine sx' false false none Tryz.func160 (q' 0 [ax (o' 3 (.box 1 (.t 1))),ab 4 false] (.seq (q' 6 [am 0,aN,aK 0] (.block 0 (.loop (q' 9 [ar 8 7] (.seq (.cond (.t 9) .skip (.exit 0)) (.seq (.block 1 (q' 10 [am 8,aV 5] (.seq (G' 11 [aM [0,5],aI 1,aE 1,ae 1 3,ac 194 [14,15]]) (.cond (.t 16) (q' 0 [ab 4 true] .ret) .skip)))) (g' 17 [aA 8]))))))) (q' 0 [ab 4 false] .ret))) [.t 4] [(194,[],a4g)] ?_;intro hb hE;simp only [go_sem];repeat' first | apply cj' | intro hc | exact om' | fail
 refine lq' false [0,3,7] [6] [] (fun i:{i:Nat // i<=l.length/\(l.take i).any (fun x=>decide (x.V=r.V))=false}=>[(8,slV (.i .i64 i.1))]) nl' nl' (fun i=>l.length - i.1) (⟨0,by simp⟩) ?_;intro S0 hS0 i;obtain ⟨i,hi,ha⟩:=i;simp only [go_sem,hS0];repeat' first | apply cj' | intro hc | exact om' | fail
 ·rw [a1V,any_true (p:=fun x:d3=>decide (x.V=r.V)) (d:=default) (i:=i) (by omega) (V5 hc)]
 ·exact nx0 ⟨i+1,by omega,o6 (p:=fun x:d3=>decide (x.V=r.V)) default (by omega) ha (V7 hc)⟩
 ·rw [f8 (by omega)] at ha;rw [a1V,ha]
noncomputable def a4J:CT:=i9 (fun (x:(List d3)×d3)=>c1L x.1 x.2)
@[go_sem] def d3a:=fun l x0=>nm' (fQ' a4J rfl (l,⟨x0⟩))
def c4t (s:c8) (n:List UInt8) (r:d3):A0c Tryz.prog 221 [(true,[i5 s.Rels]),(false,[.s n]),(true,[l8 r.V])] [] (.one (false,[.b (a1V (t7 s n).1.Rows r)])):=by
 refine sx' false false none Tryz.func221 (q' 3 [ao (.box 1 (.t 0)),ax (o' 5 (.box 1 (.t 2))),ab 6 false] (q' 10 [ae 1 3,am 1,ac 154 [10,11],aV 9,ao (.ext (.t 9) 0),ao (.ext (.t 9) 1),ax (w' 7 [.i .i64, .sl l6]),aS 2 7 13,aV 8] (q' 15 [aG 1 7,ae 1 5,ac 160 [16,17],aV 6] .ret))) [.t 6] [(154,[],a2t),(160,[],a4J)] ?_;intro hb hE;simp only [go_sem];repeat' first | apply cj' | intro hc | exact om' | fail
noncomputable def b1m:CT:=i9 (fun (x:c8×(List UInt8)×d3)=>c4t x.1 x.2.1 x.2.2)
@[go_sem] def d4M:=fun x0 n x1=>nm' (fQ' b1m rfl (⟨x0⟩,n,⟨x1⟩))
abbrev bsP (l:List d3) (t:d3) (k:Nat):Bool:=decide (0<=a1o (l.getD k default).V t.V)
abbrev bsN (l:List d3) (t:d3):Nat:=a1S l.length (bsP l t)
def mid_eq {i j:Nat} (h:i+j<=4000000):IntKind.i64.wrap ((IntKind.u64.wrap (IntKind.i64.wrap ((i:Int)+j))).fdiv (2 ^ min 1 64))=(((i+j) / 2:Nat):Int):=by
 have e1:IntKind.i64.wrap ((i:Int)+j)=(i:Int)+j:=IntWalk.i64_in _ (by omega);have e2:IntKind.u64.wrap ((i:Int)+j)=(i:Int)+j:=IntWalk.u64_in _ (by omega);have e3:(2:Int) ^ min 1 64=2:=by decide
 rw [e1,e2,e3,Int.fdiv_eq_ediv_of_nonneg _ (by decide)];have e4:IntKind.i64.wrap (((i:Int)+j) / 2)=((i:Int)+j) / 2:=IntWalk.i64_in _ (by omega);rw [e4];omega
def bs_end {l:List d3} {t:d3} {i:Nat} (hi:i<=l.length) (ha:∀ k,k < i->bsP l t k=false) (hz:∀ k,i<=k->k < l.length->bsP l t k=true):bsN l t=i:=by
 by_cases h:i < l.length
 ·exact a1B ha (hz i (q0C _) h) h
 ·have:i=l.length:=by omega
  subst this;exact a1A ha
def k_bsRow (l:List d3) (t:d3) (hpre:l.length<=1000000/\∀ a b,a<=b->b < l.length->a1o (l.getD b default).V t.V < 0->a1o (l.getD a default).V t.V < 0):A0c Tryz.prog 343 [(false,[w4 l]),(true,[l8 t.V]),(false,[.f 180 []])] [] (.tup [(false,[.i .i64 (((bsN l t:Nat),decide (bsN l t < l.length)&&a1o (l.getD (bsN l t) default).V t.V==0).1)]),(false,[.b (((bsN l t:Nat),decide (bsN l t < l.length)&&a1o (l.getD (bsN l t) default).V t.V==0).2)])]):=by
 refine sx' false false none Tryz.func343 (q' 4 [ao (.box 1 (.t 1)),az 6 0,ab 7 false] (q' 12 [am 0,aN,aV 8] (q' 9 [aV 14,aK 0,am 14] (.seq (.block 0 (.loop (.seq (q' 15 [aM [9,10],ar 15 16] (.cond (.t 17) .skip (.exit 0))) (.block 1 (q' 18 [aM [9,10],ao (.bin .add (.t 18) (.t 19)),ao (.cv .u64 (.t 20)),ao (.bin .shr (.t 21) (.k (.v false [.c (.i .u64 1)]))),ao (.cv .i64 (.t 22)),aV 11] (.seq (G' 24 [aM [2,0,11],aI 1,aE 1,ae 1 4,ao (.callv (.t 24) [.t 28,.t 29]),ao (.bin .lss (.t 30) (k' 0))]) (.cond (.t 31) (g' 9 [av 32 11,ax (a' 33 32),am 33]) (g' 34 [am 11,aV 10])))))))) (.seq (G' 35 [aM [9,9,8],ar 36 37,am 38,au (.mov (.t 2)) 39 true,au (.mov (.t 0)) 39 true,au (.mov (.t 9)) 39 true,au (.ia 1 (.t 41) (.t 42)) 39 true,au (.ld true 1 (.t 43)) 39 true,au (.ld true 1 (.t 4)) 39 true,au (.callv (.t 40) [.t 44,.t 45]) 39 true,au (.bin .eql (.t 46) (k' 0)) 39 true,ao (.pick (.t 39) (.t 47) (bb false)),av 6 35,aV 7]) .ret))))) [.t 6,.t 7] [(180,[],a5O)] ?_;intro hb hE;obtain ⟨hlen,hmo⟩:=hpre;simp only [go_sem];repeat' first | apply cj' | intro hc | exact om' | fail
 refine lq' false [0,2,4,8] [8] [] (fun i:{p:Nat×Nat // p.1<=p.2/\p.2<=l.length/\(∀ k,k < p.1->bsP l t k=false)/\(∀ k,p.2<=k->k < l.length->bsP l t k=true)}=>[(9,slV (.i .i64 i.1.1)),(10,slV (.i .i64 i.1.2))]) nl' nl' (fun i=>i.1.2 - i.1.1) (⟨(0,l.length),by simp,by simp,by intro k h;simp at h,by intro k h1 h2;simp at h1;omega⟩) ?_;intro S0 hS0 i;obtain ⟨⟨i,j⟩,hij,hj,ha,hz⟩:=i;simp only at hij hj ha hz;have hm:=mid_eq (i:=i) (j:=j) (by omega);simp only [go_sem,hS0,hm];repeat' first | apply cj' | intro hc | exact om' | fail
 ·have h1:∀ k,k < (i+j) / 2+1->bsP l t k=false:=by
   intro k hk;have:=hmo k ((i+j) / 2) (by omega) (by omega) hc;exact V7 (by omega)
  (refine lpK_n2 (⟨((i+j) / 2+1,j),by simp only;omega,hj,h1,hz⟩) _ rfl ?_;simp only [go_sem,hS0,hm]<;>repeat' first | apply V0 | exact on' | fail)
 ·have h1:∀ k,(i+j) / 2<=k->k < l.length->bsP l t k=true:=by
   intro k hk hl;refine V5 ?_;have:¬ a1o (l.getD k default).V t.V < 0:=fun h=>hc (hmo _ k hk hl h)
   omega
  (refine lpK_n2 (⟨(i,(i+j) / 2),by simp only;omega,by simp only;omega,ha,h1⟩) _ rfl ?_;simp only [go_sem,hS0,hm]<;>repeat' first | apply V0 | exact on' | fail)
 ·have hz':∀ k,i<=k->k < l.length->bsP l t k=true:=fun k h1 h2=>hz k (by omega) h2
  rw [bs_end (by omega) ha hz'];refine ⟨rfl, ?_⟩
  congr 1
  exact decide_eq_decide.2 (by omega)
noncomputable def c9W:CT:=k9 (fun (x:(List d3)×d3) h=>k_bsRow x.1 x.2 h)
@[go_sem] def c_bsRow_eq:=fun l x0=>nm' (fP' c9W rfl (l,⟨x0⟩))
def c6A (r:e7) (t:d3) (hpre:r.Rows.length<=1000000/\∀ a b,a<=b->b < r.Rows.length->a1o (r.Rows.getD b default).V t.V < 0->a1o (r.Rows.getD a default).V t.V < 0):A0c Tryz.prog 299 [(true,[.i .i64 r.Arity,w4 r.Rows]),(true,[l8 t.V])] [] (.tup [(false,[.i .i64 (((bsN r.Rows t:Nat),decide (bsN r.Rows t < r.Rows.length)&&a1o (r.Rows.getD (bsN r.Rows t) default).V t.V==0).1)]),(false,[.b (((bsN r.Rows t:Nat),decide (bsN r.Rows t < r.Rows.length)&&a1o (r.Rows.getD (bsN r.Rows t) default).V t.V==0).2)])]):=by
 refine sx' false false none Tryz.func299 (q' 2 [ao (.box 2 (.t 0)),ao (.box 1 (.t 1)),aK 0,ao (.mov (bb false))] (q' 6 [aG 1 2,ae 1 3,ao (.call 343 [.t 7,.t 8,.k (.v false [.c (.f 180 [])])]),ao (.ext (.t 9) 0),ao (.ext (.t 9) 1),av 4 10,aV 5] .ret)) [.t 4,.t 5] [(343,[],c9W)] ?_;intro hb hE;obtain ⟨hlen,hmo⟩:=hpre;simp only [go_sem];repeat' first | apply cj' | intro hc | exact om' | fail
 all_goals exact ⟨hlen,hmo⟩
noncomputable def b4m:CT:=k9 (fun (x:e7×d3) h=>c6A x.1 x.2 h)
@[go_sem] def d5F:=fun x0 x1 x2=>nm' (fP' b4m rfl (⟨x0,x1⟩,⟨x2⟩))
def c5o {x y:List UInt8} (h:Op.bytesLess x y=true):(y==[])=false:=by
 cases y with
 | nil=>cases x<;>simp [Op.bytesLess] at h
 | cons a y=>rfl
def d6J {a b c:d4} (h1:v7 a b=true) (h2:v7 b c=true):v7 a c=true:=by
 unfold v7 at *;cases ha:(a.S==[])<;>cases hb:(b.S==[])<;>cases hc:(c.S==[])<;>simp only [ha,hb,hc,q2D,q3G,Bool.false_and,q1R,W9,V2,q0B] at h1 h2 ⊢;all_goals first
  | (rw [c5o h1] at hb;exact absurd hb (by decide))
  | (rw [c5o h2] at hc;exact absurd hc (by decide))
  | omega
  | exact a1r _ _ _ h1 h2
  | (rw [beq_iff_eq] at ha;rw [ha];cases hcs:c.S with
      | nil=>rw [hcs] at hc;cases hc
      | cons x y=>rfl)
def c9P {a b:d4} (ha:k6 a=true) (hb:k6 b=true) (h1:v7 a b=false) (h2:v7 b a=false):a=b:=by
 have:=b3X ha hb;rw [h1,h2,q3O] at this;exact d6I (by simpa using this)
abbrev okL (a:List d4):Prop:=∀ x∈a,k6 x=true
def okL.tl {x:d4} {a:List d4} (h:okL (x::a)):okL a:=fun y hy=>h y (by simp [hy])
def c4A:∀ {a b c:List d4},okL a->okL b->okL c->a0S a b=-1->a0S b c=-1->a0S a c=-1
 | [],[],_,_,_,_,h,_=>by simp [a0S] at h
 | [],y::b,[],_,_,_,_,h=>by simp [a0S] at h
 | [],y::b,z::c,_,_,_,_,_=>rfl
 | x::a,[],_,_,_,_,h,_=>by simp [a0S] at h
 | x::a,y::b,[],_,_,_,_,h=>by simp [a0S] at h
 | x::a,y::b,z::c,ha,hb,hc,h1,h2=>by
   have hx:=ha x (by simp);have hy:=hb y (by simp);have hz:=hc z (by simp);rw [a0S] at h1 h2 ⊢;cases e1:v7 x y with
   | true=>
     cases e2:v7 y z with
     | true=>rw [d6J e1 e2];rfl
     | false=>
       rw [e2,V2] at h2;cases e3:v7 z y with
       | true=>rw [e3,W9] at h2;omega
       | false=>rw [<- c9P hy hz e2 e3,e1];rfl
   | false=>
     rw [e1,V2] at h1;cases e3:v7 y x with
     | true=>rw [e3,W9] at h1;omega
     | false=>
       rw [e3,V2] at h1;have:=c9P hx hy e1 e3;subst this;cases e2:v7 x z with
       | true=>rfl
       | false=>
         rw [e2,V2] at h2;cases e4:v7 z x with
         | true=>rw [e4,W9] at h2;omega
         | false=>
           rw [e4,V2] at h2;exact c4A ha.tl hb.tl hc.tl h1 h2
def c2J:∀ {a b:List d4},okL a->okL b->(a0S a b=0↔a=b)
 | [],[],_,_=>by simp [a0S]
 | [],y::b,_,_=>by simp [a0S]
 | x::a,[],_,_=>by simp [a0S]
 | x::a,y::b,ha,hb=>by
   have ih:=c2J ha.tl hb.tl;rw [a0S];cases e1:v7 x y with
   | true=>
     simp only [W9,V4];refine ⟨fun h=>by omega,fun h=>?_⟩;have h3:=b3X (ha x (by simp)) (hb y (by simp));rw [<- h.1] at e1 h3;rw [e1] at h3;simp at h3
   | false=>
     cases e2:v7 y x with
     | true=>
       simp only [W9,V2,V4];refine ⟨fun h=>by omega,fun h=>?_⟩;rw [h.1] at e1 e2;rw [e1] at e2;cases e2
     | false=>
       have:=c9P (ha x (by simp)) (hb y (by simp)) e1 e2;subst this;simpa using ih
def c4C {r:e7} (h:a0c r=true):∀ {b a:Nat},a < b->b < r.Rows.length->a0S (r.Rows.getD a default).V (r.Rows.getD b default).V=-1:=by
 have hN:∀ i,i < r.Rows.length->a0z r i=false:=by
  intro i hi;simp only [a0c,W3,q0R] at h;exact a3U h.2 hi
 have hO:∀ i,i < r.Rows.length->okL (r.Rows.getD i default).V:=fun i hi=>y7 (a2o (hN i hi))
 intro b
 induction b with
 | zero=>intro a h;omega
 | succ b ih=>
   intro a hab hb;have hs:a0S (r.Rows.getD b default).V (r.Rows.getD (b+1) default).V=-1:=by
    have:=hN (b+1) hb;simp only [a0z,q0Y,Nat.zero_lt_succ,decide_true,q0U,q0Q,beq_iff_eq,Nat.add_sub_cancel] at this;exact this.2
   rcases q3N.1 hab with h1 | rfl
   ·exact c4A (hO a (by omega)) (hO b (by omega)) (hO _ hb) (ih h1 (by omega)) hs
   ·exact hs
def a1v {r:e7} (h:a0c r=true) {i:Nat} (hi:i < r.Rows.length):okL (r.Rows.getD i default).V:=by
 simp only [a0c,W3,q0R] at h;exact y7 (a2o (a3U h.2 hi))
def b0F {a b:List d4} (ha:okL a) (hb:okL b):a1o a b < 0↔a0S a b=-1:=by
 have h:=b1Y ha hb;unfold sgn at h;omega
def c3n {a b:List d4} (ha:okL a) (hb:okL b):a1o a b=0↔a=b:=by
 have h:=b1Y ha hb;rw [<- c2J ha hb];unfold sgn at h;omega
def d6z {r:e7} (h:a0c r=true) {t:d3} (ht:a0R t=true):∀ a b,a<=b->b < r.Rows.length->a1o (r.Rows.getD b default).V t.V < 0->a1o (r.Rows.getD a default).V t.V < 0:=by
 intro a b hab hb hl;rcases Nat.lt_or_eq_of_le hab with h1 | rfl
 ·rw [b0F (a1v h hb) (y7 ht)] at hl;rw [b0F (a1v h (by omega)) (y7 ht)];exact c4A (a1v h (by omega)) (a1v h hb) (y7 ht) (c4C h h1 hb) hl
 ·exact hl
def rel_has {r:e7} (h:a0c r=true) {t:d3} (ht:a0R t=true):(decide (bsN r.Rows t < r.Rows.length)&&a1o (r.Rows.getD (bsN r.Rows t) default).V t.V==0)=a1V r.Rows t:=by
 rw [q4A];constructor
 ·intro hh;simp only [W3,q0B,beq_iff_eq] at hh;exact any_true (p:=fun x:d3=>decide (x.V=t.V)) (d:=default) hh.1 (V5 ((c3n (a1v h hh.1) (y7 ht)).1 hh.2))
 ·intro hh;rw [a1V,q3C] at hh;obtain ⟨x,hx,he⟩:=hh;obtain ⟨k,hk,rfl⟩:=q1P hx;rw [q0B] at he;have hg:=i8 (l:=r.Rows) default hk;have e:bsN r.Rows t=k:=by
   refine a1B (fun j hj=>?_) ?_ hk
   ·refine V7 ?_;have:=(b0F (a1v h (show j < r.Rows.length by omega)) (y7 ht)).2 (by
     have:=c4C h hj hk;rw [hg,he] at this;exact this)
    omega
   ·refine V5 ?_;rw [hg,(c3n (by rw [<- hg];exact a1v h hk) (y7 ht)).2 he];omega
  rw [e,V5 hk,hg,(c3n (by rw [<- hg];exact a1v h hk) (y7 ht)).2 he];rfl
def c9E (r:e7) (t:d3) (hpre:a0c r=true/\a0R t=true):A0c Tryz.prog 238 [(true,[.i .i64 r.Arity,w4 r.Rows]),(true,[l8 t.V])] [] (.one (false,[.b (a1V r.Rows t)])):=by
 refine sx' false false none Tryz.func238 (q' 2 [ao (.box 2 (.t 0)),ao (.box 1 (.t 1)),ao (.mov (bb false))] (q' 8 [ae 2 2,ae 1 3,ac 299 [8,9],aV 7,ao (.ext (.t 7) 0),ao (.ext (.t 7) 1),av 5 11,aV 6] (q' 13 [am 6,aV 4] .ret))) [.t 4] [(299,[],b4m)] ?_;intro hb hE;obtain ⟨hR,hT⟩:=hpre;simp only [go_sem];repeat' first | apply cj' | intro hc | exact om' | fail
 ·exact ⟨by have:=a5C hR;omega,d6z hR hT⟩
 ·exact rel_has hR hT
noncomputable def b7X:CT:=k9 (fun (x:e7×d3) h=>c9E x.1 x.2 h)
@[go_sem] def d6W:=fun x0 x1 x2=>nm' (fP' b7X rfl (⟨x0,x1⟩,⟨x2⟩))
end Go.Aw
