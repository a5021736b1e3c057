/- Empty states of a program: the reference's. No condition. -/
import Derived.Test.YtmcaephohoicnaaGreatveT17
import Derived.Test.YtmcaephohoicnaaGreatpBx8ve
namespace Go.Aw
open Go.Proofs
attribute [local irreducible] aft blk lpK retK AW A0c
set_option linter.all false
set_option maxRecDepth 100000
set_option maxHeartbeats 40000000
attribute [local irreducible] RM
@[go_sem] def a6E:ACode:=q' 1 [ao (.box 2 (.t 0)),aw [.i .i64,.sl n0]] (q' 5 [aG 0 1,ao (.bld [.i .i64,.sl n0] [(0,1,.t
 6)]),ax (w' 3 [.i .i64,.sl n0]),aS 2 3 7] (.seq (q' 8 [aG 1 1,aN,aK 0] (.block 0 (.loop (q' 12 [ar 11 10] (.seq (.cond (.t 12)
 .skip (.exit 0)) (.seq (.block 1 (q' 13 [am 11,aV 4] (rm' [(true,2,f' 16 1 1),(true,3,l' 17 16),(true,4,m' 18 4),(true,5,i' 19 1 17 18),(true,6,
 e' 20 1 19),(false,0,f' 14 1 3),(false,1,l' 15 14),(false,7,c' 21 162 [20]),(false,8,o' 22 (.bsl 1 1 [.sl k9] [(0,.t 21)])),
 (false,9,o' 23 (.app 1 24 [.sl k9] (.t 15) (.t 22))),(false,10,f' 24 1 3),(false,11,s' 1 24 23)] [[0,1,2,3,4,5,7,6,8,9,10,
 11],[0,1,2,3,4,5,7,8,6,9,10,11],[0,1,2,3,4,7,5,6,8,9,10,11],[0,1,2,3,4,7,5,8,6,9,10,11],[0,1,2,3,4,7,8,5,6,9,
 10,11]] [2,3]))) (g' 25 [aA 11]))))))) (q' 26 [ae 2 3,aS 2 2 26] .ret)))
def b4k (a:Int):spZ 199 [(true,[.i .i64 a,.sl false n0 []])] [] (.one (true,[.i .i64 ((⟨a,[]⟩:f8).Arity),y6 ((⟨a,[]⟩:f8).Rows)])):=by
 refine sx' false true none Tryz.func199 a6E [.c 2 true 2] [] ?_;intro hb hE;simp only [go_sem];(repeat' first|apply cj'|intro hc|apply a0D);(all_goals (try ((first|refine a1F 5 rfl ?_);intro S hS B0 hB;simp only [go_sem,q0E,q0T] at hS hB;(repeat (first|replace hS:=And.right hS|replace hS:=CJ.r hS));have Rr1:=congrArg (fun s:St=>s.sl 1) hS;have Rr3:=congrArg (fun s:St=>s.sl 3) hS;have Rr4:=congrArg (fun s:St=>s.sl 4) hS;have Rb2:=congrArg (fun s:St=>s.bx 2) hS;have Rb3:=congrArg (fun s:St=>s.bx 3) hS;have Rb4:=congrArg (fun s:St=>s.bx 4) hS;have Rb6:=congrArg (fun s:St=>s.bx 6) hS;clear hS;simp only [go_sem] at Rr1 Rr3 Rr4 Rb2 Rb3 Rb4 Rb6;(try clear hc);intro K hc;simp only [go_sem,Rr1,Rr3,Rr4,Rb2,Rb3,Rb4,Rb6,hB,q0F,q1S,q0H,q0K] at hc ⊢;simp only [go_sem,Rr1,Rr3,Rr4,Rb2,Rb3,Rb4,Rb6,hB,A7d,A7h,A6v,A6u,A7c,A6t,nf_put_sub,A7f,A7e,nf_put_susK,nf_put_dip,nf_put_put,A7g,A7b,A6w,o9,o7,o5,o6,o8,nf_sub_sub] at hc ⊢;simp only [hc,q2B,q0X];done)));all_goals try exact om'
 refine lq' false [1,2,3,10] [2,4,3] [] (fun i:Unit=>[(11,slV (.i .i64 0))]) (fun i=>[(6,[.c (.i .i64 a),.nl n0])]) nl' (fun i=>0) () ?_;intro S0 hS0 i;simp only [go_sem,hS0];(repeat' first|apply cj'|intro hc|apply a0D);(all_goals (try ((first|refine a1F 5 rfl ?_);intro S hS B0 hB;simp only [go_sem,hS0,q0E,q0T] at hS hB;(repeat (first|replace hS:=And.right hS|replace hS:=CJ.r hS));have Rr1:=congrArg (fun s:St=>s.sl 1) hS;have Rr3:=congrArg (fun s:St=>s.sl 3) hS;have Rr4:=congrArg (fun s:St=>s.sl 4) hS;have Rb2:=congrArg (fun s:St=>s.bx 2) hS;have Rb3:=congrArg (fun s:St=>s.bx 3) hS;have Rb4:=congrArg (fun s:St=>s.bx 4) hS;have Rb6:=congrArg (fun s:St=>s.bx 6) hS;clear hS;simp only [go_sem,hS0] at Rr1 Rr3 Rr4 Rb2 Rb3 Rb4 Rb6;(try clear hc);intro K hc;simp only [go_sem,hS0,Rr1,Rr3,Rr4,Rb2,Rb3,Rb4,Rb6,hB,q0F,q1S,q0H,q0K] at hc ⊢;simp only [go_sem,hS0,Rr1,Rr3,Rr4,Rb2,Rb3,Rb4,Rb6,hB,A7d,A7h,A6v,A6u,A7c,A6t,nf_put_sub,A7f,A7e,nf_put_susK,nf_put_dip,nf_put_put,A7g,A7b,A6w,o9,o7,o5,o6,o8,nf_sub_sub] at hc ⊢;simp only [hc,q2B,q0X];done)));all_goals try exact om'
 all_goals first
  | (exfalso;simp at hc;done)
  | (exfalso;simp at *;done)
  | trace_state
noncomputable def a5O:CT:=k6 (fun (x:Int)=>b4k x)
@[go_sem] def c8Z:=fun a=>nm' (fQ' a5O rfl a)
def d1g (n x:List UInt8):(Op.bytesLess n x || n==x)=!sLt x n:=by
 cases h1:Op.bytesLess n x with
 | true=>
   cases h2:sLt x n with
   | true=>have h3:=a1J _ _ _ h1 h2;rw [a1d] at h3;cases h3
   | false=>rfl
 | false=>
   cases h2:sLt x n with
   | true=>
     have:(n==x)=false:=beq_eq_false_iff_ne.2 fun e=>by subst e;have h3:sLt n n=false:=a1d n;rw [h3] at h2;cases h2
     rw [this];rfl
   | false=>rw [a2K _ _ h1 h2];simp
def a9a {n:List UInt8} {v x:d6} {q1:List d6} {q2:Bool} (h:q2=false/\(Op.bytesLess n x.Name=true\/(n==x.Name)=true)):a1E n v (q1,q2) x=(q1++[v]++(bif x.Name==n then [] else [x]),true):=by
 have h2:(!sLt x.Name n)=true:=by rw [<- d1g,q2U];exact h.2
 rw [a1E,h.1,h2];rfl
def b2E {n:List UInt8} {v x:d6} {q1:List d6} {q2:Bool} (h:(!q2&&(Op.bytesLess n x.Name || n==x.Name))=false):a1E n v (q1,q2) x=(q1++(bif x.Name==n then [] else [x]),q2):=by
 rw [d1g] at h;rw [a1E,h,V1];cases q2 with
 | true=>rfl
 | false=>
   have h2:(!sLt x.Name n)=false:=by simpa using h
   rw [h2];rfl
def b3K (n:List UInt8) (v:d6):∀ (l q:List d6) (b:Bool),(l.foldl (a1E n v) (q,b)).1.length<=q.length+2 * l.length
 | [],q,b=>by simp
 | x::l,q,b=>by
   rw [q1Z];have h:=b3K n v l (a1E n v (q,b) x).1 (a1E n v (q,b) x).2;have h2:(a1E n v (q,b) x).1.length<=q.length+2:=by
    simp only [a1E];cases !b&&!sLt x.Name n<;>cases x.Name==n<;>simp<;>omega
   have e:((a1E n v (q,b) x).1,(a1E n v (q,b) x).2)=a1E n v (q,b) x:=rfl;rw [e] at h;simp only [V8];omega
def a6s {x:d6} (h:x.Rel.Rows=[]):d6.cells false false x=[.s x.Name,.i .i64 x.Rel.Arity,.sl false n0 []]:=by
 cases x with
 | mk a b=>
   cases b with
   | mk c d=>cases h;rfl
@[go_sem] def a7z:ACode:=q' 5 [ax (o' 3 (.box 1 (.t 0))),ao (.box 2 (.t 2)),aw [.sl l4]] (q' 7 [ax (o' 10 (.bld [.sl l4] [])),aw [.sl l4],aS 1 7 10]
 (q' 0 [ab 8 false] (.seq (q' 11 [aG 0 3,aN,aK 0] (.block 0 (.loop (q' 15 [ar 14 13] (.seq (.cond (.t 15) .skip (.exit 0)) (.seq (.block 1 (q' 16 [am 14,aV 9]
 (.seq (q' 17 [am 8,ao (.not (.t 17)),am 18,au (.mov (.t 1)) 19 true,au (.fa 0 (.t 3)) 19 true,au (.ld false 1 (.t 21)) 19 true,au (.mov (.t 9)) 19 true,au
 (.ia 3 (.t 22) (.t 23)) 19 true,au (.fa 0 (.t 24)) 19 true,au (.ld false 1 (.t 25)) 19 true,au (.bin .leq (.t 20) (.t 26)) 19 true,ao (.pick (.t 19) (.t 27)
 (bb false))] (.cond (.t 28) (.seq (rm' [(true,2,m' 31 1),(true,3,e' 32 2 5),(false,0,f' 29 0 7),(false,1,l' 30 29),(false,4,c' 33 199 [32]),
 (false,5,o' 34 (.bld [.s,.i .i64,.sl n0] [(0,1,.t 31),(1,2,.t 33)])),(false,6,o' 35 (.bsl 3 1 [.s,.i .i64,.sl
 n0] [(0,.t 34)])),(false,7,o' 36 (.app 3 48 [.s,.i .i64,.sl n0] (.t 30) (.t 35))),(false,
 8,f' 37 0 7),(false,9,s' 1 37 36)] [[0,1,2,4,3,5,6,7,8,9],[0,1,2,4,5,3,6,7,8,9],[0,1,2,4,5,6,3,7,8,9],[0,1,4,2,3,5,6,
 7,8,9],[0,1,4,2,5,3,6,7,8,9],[0,1,4,2,5,6,3,7,8,9],[0,1,4,5,2,3,6,7,8,9],[0,1,4,5,2,6,3,7,8,9],[0,1,4,5,6,2,
 3,7,8,9]] [10,11]) (g' 0 [ab 8 true])) .skip)) (q' 38 [aG 0 3,am 9,aI 3,aG 0 41,am 1,ao (.bin .neq (.t 43) (.t 44))] (.cond (.t 45) (rm' [(true,2,f' 48
 0 3),(true,3,l' 49 48),(true,4,m' 50 9),(true,5,i' 51 3 49 50),(true,6,f' 52 0 51),(true,7,l' 53 52),(true,8,f' 54 0 3),(true,9,l' 55
 54),(true,10,m' 56 9),(true,11,i' 57 3 55 56),(true,12,f' 58 1 57),(true,13,e' 59 2 58),(false,0,f' 46 0 7),(false,1,l' 47 46),(false,14,
 c' 60 199 [59]),(false,15,o' 61 (.bld [.s,.i .i64,.sl n0] [(0,1,.t 53),(1,2,.t 60)])),(false,16,o' 62 (.bsl 3 1
 [.s,.i .i64,.sl n0] [(0,.t 61)])),(false,17,o' 63 (.app 3 48 [.s,.i .i64,.sl n0] (.t 47)
 (.t 62))),(false,18,f' 64 0 7),(false,19,s' 1 64 63)] [[0,1,2,3,4,5,6,7,8,9,10,11,12,14,13,15,16,17,18,19],[0,1,2,3,4,5,6,7,
 8,9,10,11,12,14,15,13,16,17,18,19],[0,1,2,3,4,5,6,7,8,9,10,11,12,14,15,16,13,17,18,19],[0,1,2,3,4,5,6,7,8,9,10,11,
 14,12,13,15,16,17,18,19],[0,1,2,3,4,5,6,7,8,9,10,11,14,12,15,13,16,17,18,19],[0,1,2,3,4,5,6,7,8,9,10,11,14,12,15,
 16,13,17,18,19],[0,1,2,3,4,5,6,7,8,9,10,11,14,15,12,13,16,17,18,19],[0,1,2,3,4,5,6,7,8,9,10,11,14,15,12,16,13,17,
 18,19],[0,1,2,3,4,5,6,7,8,9,10,11,14,15,16,12,13,17,18,19]] [6,7]) .skip))))) (g' 65 [aA 14]))))))) (.seq (q' 66 [am 8,ao (.not (.t
 66))] (.cond (.t 67) (rm' [(true,2,m' 70 1),(true,3,e' 71 2 5),(false,0,f' 68 0 7),(false,1,l' 69 68),(false,4,c' 72 199 [71]),(false,5,o' 73
 (.bld [.s,.i .i64,.sl n0] [(0,1,.t 70),(1,2,.t 72)])),(false,6,o' 74 (.bsl 3 1 [.s,.i .i64,.sl n0] [(0,.t 73)])),(false,7,o' 75 (.app 3 48 [.s,.i .i64,.sl n0] (.t 69) (.t 74))),(false,8,f' 76 0 7),
 (false,9,s' 1 76 75)] [[0,1,2,4,3,5,6,7,8,9],[0,1,2,4,5,3,6,7,8,9],[0,1,2,4,5,6,3,7,8,9],[0,1,4,2,3,5,6,7,8,9],[0,
 1,4,2,5,3,6,7,8,9],[0,1,4,2,5,6,3,7,8,9],[0,1,4,5,2,3,6,7,8,9],[0,1,4,5,2,6,3,7,8,9],[0,1,4,5,6,2,3,7,8,9]]
 [10,11]) .skip)) (q' 77 [ae 1 7,aS 1 6 77] .ret)))))
def c2P (s:c8) (n:List UInt8) (r:f8) (hpre:((∀ x∈s.Rels,x.Rel.Rows=[])/\r.Rows=[])/\s.Rels.length<=1000):spZ 138 [(true,[j5 s.Rels]),(false,[.s n]),(true,[.i .i64 r.Arity,y6 r.Rows])] [] (.one (true,[j5 ((⟨a1G s.Rels n ⟨n,⟨r.Arity,[]⟩⟩⟩:c8).Rels)])):=by
 refine sx' false true none Tryz.func138 a7z [.c 6 true 1] [(199,[],a5O)] ?_;intro hb hE;obtain ⟨⟨hz,hr⟩,hlen⟩:=hpre;have hgz:∀ i,(s.Rels.getD i default).Rel.Rows=[]:=fun i=>by
  by_cases h:i < s.Rels.length
  ·exact hz _ (A3v h)
  ·rw [show s.Rels.getD i default=default by simp [List.getD,q4Z (by omega:s.Rels.length<=i)]];rfl
 simp only [go_sem,hr,hgz];(repeat' first|apply cj'|intro hc|apply a0D);(all_goals (try ((first|refine a1F 12 rfl ?_|refine a1F 2 rfl ?_);intro S hS B0 hB;simp only [go_sem,hr,hgz,q0E,q0T] at hS hB;(repeat (first|replace hS:=And.right hS|replace hS:=CJ.r hS));have Rr7:=congrArg (fun s:St=>s.sl 7) hS;have Rr31:=congrArg (fun s:St=>s.sl 31) hS;have Rr32:=congrArg (fun s:St=>s.sl 32) hS;have Rr53:=congrArg (fun s:St=>s.sl 53) hS;have Rr59:=congrArg (fun s:St=>s.sl 59) hS;have Rr70:=congrArg (fun s:St=>s.sl 70) hS;have Rr71:=congrArg (fun s:St=>s.sl 71) hS;have Rb6:=congrArg (fun s:St=>s.bx 6) hS;have Rb7:=congrArg (fun s:St=>s.bx 7) hS;have Rb10:=congrArg (fun s:St=>s.bx 10) hS;have Rb11:=congrArg (fun s:St=>s.bx 11) hS;have Rb14:=congrArg (fun s:St=>s.bx 14) hS;have Ro200028:=congrArg (fun s:St=>s.ow 200028) hS;have Ro4608:=congrArg (fun s:St=>s.ow 4608) hS;clear hS;simp only [go_sem,hr,hgz] at Rr7 Rr31 Rr32 Rr53 Rr59 Rr70 Rr71 Rb6 Rb7 Rb10 Rb11 Rb14 Ro200028 Ro4608;(try clear hc);intro K hc;simp only [go_sem,hr,hgz,Rr7,Rr31,Rr32,Rr53,Rr59,Rr70,Rr71,Rb6,Rb7,Rb10,Rb11,Rb14,Ro200028,Ro4608,hB,q0F,q1S,q0H,q0K] at hc ⊢;simp only [go_sem,hr,hgz,Rr7,Rr31,Rr32,Rr53,Rr59,Rr70,Rr71,Rb6,Rb7,Rb10,Rb11,Rb14,Ro200028,Ro4608,hB,A7d,A7h,A6v,A6u,A7c,A6t,nf_put_sub,A7f,A7e,nf_put_susK,nf_put_dip,nf_put_put,A7g,A7b,A6w,o9,o7,o5,o6,o8,nf_sub_sub] at hc ⊢;simp only [hc,q2B,q0X];done)));all_goals try exact om'
 refine lk' false [(true,14,0,200028)] [1,3,5,6,7,13] [6,10,12,7,11] [] (fun i:{i:Nat // i<=s.Rels.length}=>[(8,slV (.b (a5V n ⟨n,⟨r.Arity,[]⟩⟩ (s.Rels.take i.1)).2)),(14,slV (.i .i64 i.1))]) (fun i=>[(14,[.ow 200028])]) (fun i=>[(200028,l4,((a5V n ⟨n,⟨r.Arity,[]⟩⟩ (s.Rels.take i.1)).1).map (d6.cells false false))]) (fun i=>s.Rels.length - i.1) (⟨0,by simp⟩) ?_;intro S0 hS0 i;obtain ⟨i,hi⟩:=i;generalize hfo:a5V n ⟨n,⟨r.Arity,[]⟩⟩ (s.Rels.take i)=q;obtain ⟨q1,q2⟩:=q;have hql:q1.length<=2 * i:=by
  have h:=b3K n ⟨n,⟨r.Arity,[]⟩⟩ (s.Rels.take i) [] false;rw [show (s.Rels.take i).foldl (a1E n ⟨n,⟨r.Arity,[]⟩⟩) ([],false)=(q1,q2) from hfo] at h;rw [V2] at h;simp only [q1T] at h;omega
 simp only [go_sem,hr,hgz,hS0,hfo];(repeat' first|apply cj'|intro hc|apply a0D);(all_goals (try ((first|refine a1F 12 rfl ?_|refine a1F 2 rfl ?_);intro S hS B0 hB;simp only [go_sem,hr,hgz,hS0,hfo,q0E,q0T] at hS hB;(repeat (first|replace hS:=And.right hS|replace hS:=CJ.r hS));have Rr7:=congrArg (fun s:St=>s.sl 7) hS;have Rr31:=congrArg (fun s:St=>s.sl 31) hS;have Rr32:=congrArg (fun s:St=>s.sl 32) hS;have Rr53:=congrArg (fun s:St=>s.sl 53) hS;have Rr59:=congrArg (fun s:St=>s.sl 59) hS;have Rr70:=congrArg (fun s:St=>s.sl 70) hS;have Rr71:=congrArg (fun s:St=>s.sl 71) hS;have Rb6:=congrArg (fun s:St=>s.bx 6) hS;have Rb7:=congrArg (fun s:St=>s.bx 7) hS;have Rb10:=congrArg (fun s:St=>s.bx 10) hS;have Rb11:=congrArg (fun s:St=>s.bx 11) hS;have Rb14:=congrArg (fun s:St=>s.bx 14) hS;have Ro200028:=congrArg (fun s:St=>s.ow 200028) hS;have Ro4608:=congrArg (fun s:St=>s.ow 4608) hS;clear hS;simp only [go_sem,hr,hgz,hS0,hfo] at Rr7 Rr31 Rr32 Rr53 Rr59 Rr70 Rr71 Rb6 Rb7 Rb10 Rb11 Rb14 Ro200028 Ro4608;(try clear hc);intro K hc;simp only [go_sem,hr,hgz,hS0,hfo,Rr7,Rr31,Rr32,Rr53,Rr59,Rr70,Rr71,Rb6,Rb7,Rb10,Rb11,Rb14,Ro200028,Ro4608,hB,q0F,q1S,q0H,q0K] at hc ⊢;simp only [go_sem,hr,hgz,hS0,hfo,Rr7,Rr31,Rr32,Rr53,Rr59,Rr70,Rr71,Rb6,Rb7,Rb10,Rb11,Rb14,Ro200028,Ro4608,hB,A7d,A7h,A6v,A6u,A7c,A6t,nf_put_sub,A7f,A7e,nf_put_susK,nf_put_dip,nf_put_put,A7g,A7b,A6w,o9,o7,o5,o6,o8,nf_sub_sub] at hc ⊢;simp only [hc,q2B,q0X];done)));all_goals try exact om'
 ·rename_i hy;have hs:=a1o n ⟨n,⟨r.Arity,[]⟩⟩ (l:=s.Rels) (i:=i) (by omega);rw [hfo,a9a hy,hc] at hs;simp only [W8,V1,q0D] at hs
  (refine lpK_n2 (⟨i+1,by omega⟩) _ (by simp only [go_sem,hr,hgz];try rfl) ?_;simp only [go_sem,hr,hgz,hS0,hfo,hs]<;>repeat' first|apply V0|exact on'|fail)
  all_goals first|done|(simp only [q1J,q0F,q1S,a6s (hgz i),C.freeRs,q0V];first|done|rfl)|trace_state
 ·rename_i hy;have hs:=a1o n ⟨n,⟨r.Arity,[]⟩⟩ (l:=s.Rels) (i:=i) (by omega);rw [hfo,a9a hy,hc] at hs;simp only [W8,V1,q0D] at hs
  (refine lpK_n2 (⟨i+1,by omega⟩) _ (by simp only [go_sem,hr,hgz];try rfl) ?_;simp only [go_sem,hr,hgz,hS0,hfo,hs]<;>repeat' first|apply V0|exact on'|fail)
  all_goals first|done|(simp only [q1J,q0F,q1S,a6s (hgz i),C.freeRs,q0V];first|done|rfl)|trace_state
 ·rename_i hy;have hs:=a1o n ⟨n,⟨r.Arity,[]⟩⟩ (l:=s.Rels) (i:=i) (by omega);rw [hfo,b2E hy,hc] at hs;simp only [W8,V1,q0D] at hs
  (refine lpK_n2 (⟨i+1,by omega⟩) _ (by simp only [go_sem,hr,hgz];try rfl) ?_;simp only [go_sem,hr,hgz,hS0,hfo,hs]<;>repeat' first|apply V0|exact on'|fail)
  all_goals first|done|(simp only [q1J,q0F,q1S,a6s (hgz i),C.freeRs,q0V];first|done|rfl)|trace_state
 ·rename_i hy;have hs:=a1o n ⟨n,⟨r.Arity,[]⟩⟩ (l:=s.Rels) (i:=i) (by omega);rw [hfo,b2E hy,hc] at hs;simp only [W8,V1,q0D] at hs
  (refine lpK_n2 (⟨i+1,by omega⟩) _ (by simp only [go_sem,hr,hgz];try rfl) ?_;simp only [go_sem,hr,hgz,hS0,hfo,hs]<;>repeat' first|apply V0|exact on'|fail)
  all_goals first|done|(simp only [q1J,q0F,q1S,a6s (hgz i),C.freeRs,q0V];first|done|rfl)|trace_state
 ·have hn:¬ i < s.Rels.length:=by omega
  rw [i9 (by omega)] at hfo;rw [a1G,hfo,hc];simp only [V1];have e2:=a4U false false (q1++[(⟨n,⟨r.Arity,[]⟩⟩:d6)]);rw [q1J] at e2 ⊢;first|exact e2|rfl
 ·rw [i9 (by omega)] at hfo;rw [a1G,hfo,hc];rfl
noncomputable def a5q:CT:=l8 (fun (x:c8×(List UInt8)×f8) h=>c2P x.1 x.2.1 x.2.2 h)
@[go_sem] def b3C:=fun x0 n x1 x2=>nm' (fP' a5q rfl (⟨x0⟩,n,⟨x1,x2⟩))
end Go.Aw
namespace Go.Aw
open Go.Proofs
attribute [local irreducible] aft blk lpK retK AW A0c
set_option linter.all false
set_option maxRecDepth 100000
def a3f (l:List e8) (v:List UInt8):Int:=((l.find? fun x=>x.Name==v).map e8.N).getD 0
def a1r (l:List e8) (v:List UInt8):Int:=((l.find? fun x=>x.Name==v).map e8.N).getD (-1)
def b2u {p:c4} (g:Lev) {v:List UInt8}:(v∈vwS p->(lvl p g).find? (fun x=>x.Name==v)=some ⟨v,g v⟩)/\(¬ v∈vwS p->(lvl p g).find? (fun x=>x.Name==v)=none):=by
 unfold lvl;generalize vwS p=V
 induction V with
 | nil=>exact ⟨fun h=>by simp at h,fun _=>rfl⟩
 | cons x V ih=>
   refine ⟨fun h=>?_,fun h=>?_⟩
   ·by_cases e:x=v
    ·subst e;simp
    ·have hv:v∈V:=by
      rcases V9.1 h with h|h
      ·exact absurd h.symm e
      ·exact h
     rw [q0F,List.find?_cons_of_neg (by simpa using e)];exact ih.1 hv
   ·simp only [V9,not_or] at h;rw [q0F,List.find?_cons_of_neg (by simpa using fun e=>h.1 e.symm)];exact ih.2 h.2
def a5Z {p:c4} (g:Lev) {v:List UInt8} (h:v∈vwS p):a3f (lvl p g) v=g v:=by rw [a3f,(b2u g).1 h];rfl
def c3A {p:c4} (g:Lev) {v:List UInt8} (h:v∈vwS p):a1r (lvl p g) v=g v:=by rw [a1r,(b2u g).1 h];rfl
def c7U {p:c4} (g:Lev) {v:List UInt8} (h:¬ v∈vwS p):a1r (lvl p g) v=-1:=by rw [a1r,(b2u g).2 h];rfl
def d7Y {p:c4} (g:Lev) {v:List UInt8} (h:¬ v∈vwS p):a3f (lvl p g) v=0:=by rw [a3f,(b2u g).2 h];rfl
def lvl_idx {p:c4} {h:List UInt8} (hv:h∈vwS p):∃ m,m < (vwS p).length/\(vwS p).getD m []=h/\(∀ g,a1f (fun y:e8=>y.Name==h) (lvl p g)=(m:Int))/\(∀ g,(lvl p g).getD m default=⟨h,g h⟩)/\∀ g x,(lvl p g).set m ⟨h,x⟩=lvl p (upd g h x):=by
 obtain ⟨m,hm,e⟩:=q1L hv;have e0:(vwS p).getD m []=h:=by rw [j8 [] hm,e]
 have hg:∀ g,(lvl p g).getD m default=⟨h,g h⟩:=fun g=>by rw [c8a p g hm,e0]
 refine ⟨m,hm,e0,fun g=>?_,hg,fun g x=>?_⟩
 ·refine y3 (d:=default) (by rw [a6y];exact hm) ?_ (by rw [hg];simp);rw [q2L];intro y hy;obtain ⟨j,hj,rfl⟩:=q2N.1 hy;have hj2:j < (vwS p).length:=by rw [a6y] at hj;omega
  have hne:(vwS p)[j]≠h:=fun e2=>by
   have:=(List.getElem_inj (b4E p)).1 (e2.trans e.symm);omega
  simpa [lvl] using hne
 ·have:=d2T p g hm x;rw [e0] at this;exact this
def d5H {p:c4} (hd:∀ j,j < p.Decls.length->u9 p j=false):(vwN p).Nodup:=by
 have h1:(p.Decls.map f5.Name).Nodup:=by
  rw [List.nodup_iff_pairwise_ne,q4B,q2T];intro i j hi hj hij;have:=a6A hd hj (j:=i) hij;rw [j8 default hi,j8 default hj] at this;exact this
 exact h1.sublist (List.filter_sublist.map _)
def c5Y {p:c4} (h:y7 p=true):(vwS p).length<=16:=by
 have h1:=a0k sLt (vwN p) [];have h2:=b3J (fun d:f5=>d.Kind==3) f5.Name p.Decls;simp only [y7,W3,q0A] at h;simp only [q1T] at h1;rw [vwS];show _<=16;have h3:(vwN p).length<=p.Decls.length:=h2;omega
def b9I (l:List e8) (v:List UInt8):spZ 255 [(false,[a8P l]),(false,[.s v])] [] (.one (false,[.i .i64 (a3f l v)])):=by
 refine sy' Tryz.func255 (q' 4 [aK 0] (.seq (q' 7 [am 0,aN,aK 0] (.block 0 (.loop (q' 10 [ar 9 8] (.seq (.cond (.t 10) .skip (.exit 0)) (.seq (.block 1 (q' 11 [ai 2 7 9,aE 2,ax (w' 6 [.s,.i .i64]),aS 2 6 12] (q' 13 [aG 0 6,am 1,ao (.bin .eql (.t 14) (.t 15))] (.cond (.t 16) (q' 17 [aG 1 6,aV 4] .ret) .skip)))) (g' 19 [aA 9]))))))) (q' 4 [aK 0] .ret))) [.t 4] [] ?_;intro hb hE;simp only [go_sem];repeat' first|apply cj'|intro hc|exact om'|fail
 refine lq' false [1,7,8] [] [] (fun i:{i:Nat // i<=l.length/\(l.take i).any (fun d=>d.Name==v)=false}=>[(9,slV (.i .i64 i.1))]) nl' nl' (fun i=>l.length - i.1) (⟨0,by simp⟩) ?_;intro S0 hS0 i;obtain ⟨i,hi,ha⟩:=i;simp only [go_sem,hS0];repeat' first|apply cj'|intro hc|exact om'|fail
 ·rw [a3f,c4R (d:=default) (i:=i) (by omega) ha hc];rfl
 ·exact nx0 ⟨i+1,by omega,u3 (p:=fun d:e8=>d.Name==v) default (by omega) ha hc⟩
 ·rw [a3f,a8M (by rwa [i9 (by omega)] at ha)];rfl
noncomputable def a7U:CT:=k6 (fun (x:(List e8)×(List UInt8))=>b9I x.1 x.2)
@[go_sem] def d1O:=fun l v=>nm' (fQ' a7U rfl (l,v))
def b6o (x:e8) (r:c6):spZ 254 [(true,[.s x.Name,.i .i64 x.N]),(false,[.p [.i .i64 r.Kind,.s r.Head.Name,l5 r.Head.Args,a0d r.Body]])] [] (.one (false,[.b (x.Name==r.Head.Name)])):=by
 refine sy' Tryz.func254 (q' 0 [ax (o' 2 (.box 2 (.t 0))),ab 3 false] (q' 4 [aG 0 2,af 1 1,aG 0 6,ao (.bin .eql (.t 5) (.t 8)),aV 3] .ret)) [.t 3] [] ?_;intro hb hE;simp only [go_sem];repeat' first|apply cj'|intro hc|exact om'|fail
 all_goals (first|rfl)
noncomputable def a6G:CT:=k6 (fun (x:e8×c6)=>b6o x.1 x.2)
@[go_sem] def c9X:=fun x0 x1 x2 x3 x4 x5=>nm' (fQ' a6G rfl (⟨x0,x1⟩,⟨x2,⟨x3,x4⟩,x5⟩))
def c5g (l:List e8) (r:c6):spZ 253 [(false,[a8P l]),(false,[.f 254 [.p [.i .i64 r.Kind,.s r.Head.Name,l5 r.Head.Args,a0d r.Body]]])] [] (.one (false,[.i .i64 (a1f (fun y:e8=>y.Name==r.Head.Name) l)])):=by
 refine sy' Tryz.func253 (q' 4 [aK 0] (.seq (q' 6 [am 0,aN,aK 0] (.block 0 (.loop (q' 9 [ar 8 7] (.seq (.cond (.t 9) .skip (.exit 0)) (.seq (.block 1 (q' 10 [am 8,aV 5] (q' 11 [aM [1,0,5],aI 2,aE 2,ao (.callv (.t 11) [.t 15])] (.cond (.t 16) (q' 17 [am 5,aV 4] .ret) .skip)))) (g' 18 [aA 8]))))))) (q' 4 [ao (.mov (.k (.v false [.c (.i .i64 (-1))])))] .ret))) [.t 4] [(254,[],a6G)] ?_;intro hb hE;simp only [go_sem];repeat' first|apply cj'|intro hc|exact om'|fail
 refine lq' false [0,1,7] [] [] (fun i:{i:Nat // i<=l.length/\(l.take i).any (fun y:e8=>y.Name==r.Head.Name)=false}=>[(8,slV (.i .i64 i.1))]) nl' nl' (fun i=>l.length - i.1) (⟨0,by simp⟩) ?_;intro S0 hS0 i;obtain ⟨i,hi,ha⟩:=i;simp only [go_sem,hS0];repeat' first|apply cj'|intro hc|exact om'|fail
 ·exact (y3 (p:=fun y:e8=>y.Name==r.Head.Name) (d:=default) (by omega) ha (by simpa [-List.getD_eq_getElem?_getD] using hc)).symm
 ·exact nx0 ⟨i+1,by omega,u3 (p:=fun y:e8=>y.Name==r.Head.Name) default (by omega) ha (by simpa [-List.getD_eq_getElem?_getD] using hc)⟩
 ·exact (w9 (by rwa [i9 (by omega)] at ha)).symm
noncomputable def b1m:CT:=k6 (fun (x:(List e8)×c6)=>c5g x.1 x.2)
@[go_sem] def d5M:=fun l x0 x1 x2 x3=>nm' (fQ' b1m rfl (l,⟨x0,⟨x1,x2⟩,x3⟩))
def c7i (l:List f5):List e8:=(l.filter fun d=>d.Kind==3).map fun d=>⟨d.Name,0⟩
def d7t (l:List f5):(c7i l).length<=l.length:=b3J _ _ _
def d4W {p:c4} (hd:∀ j,j < p.Decls.length->u9 p j=false):c5R (c7i p.Decls)=lvl p fun _=>0:=by
 have e:c7i p.Decls=(vwN p).map fun v=>(⟨v,0⟩:e8):=by rw [vwN,q4F];rfl
 rw [e,c8z (d5H hd)];rfl
def a8S {p:c4} {g g3:Lev} {r:c6} {l:e7} {j:Nat} (hr:r∈p.Rules) (hv:r.Head.Name∈vwS p) (hl:l∈r.Body) (hk:l.Kind≠3) (hb:l.Atom.Name∈vwS p) (hL:Low p g3) (ho:∀ v∈vwS p,v≠r.Head.Name->g3 v<=(vwS p).length) (hh:g3 r.Head.Name<=(vwS p).length+j) (hj:j<=300) {x:Int} (hx:x=g3 l.Atom.Name+a8D l) (hlt:g3 r.Head.Name < x) (hM:a3h p g3<=a3h p g):
  Low p (upd g3 r.Head.Name x)/\(∀ v∈vwS p,v≠r.Head.Name->upd g3 r.Head.Name x v<=(vwS p).length)/\upd g3 r.Head.Name x r.Head.Name<=(vwS p).length+(j+1:Nat)/\a3h p (upd g3 r.Head.Name x) < a3h p g:=by
 have hn:a8D l<=1:=by unfold a8D;split<;>omega
 have hb2:g3 l.Atom.Name<=(vwS p).length+j:=by
  by_cases e:l.Atom.Name=r.Head.Name
  ·rw [e];exact hh
  ·have:=ho _ hb e;omega
 refine ⟨by rw [hx];exact hL.up hr hv hl hk hb,fun v hv2 hne=>?_, ?_, ?_⟩
 ·rw [upd,if_neg hne];exact ho v hv2 hne
 ·rw [upd,if_pos rfl];omega
 ·have:=lsum_lt (g:=g3) (n:=x) hv hlt (by omega);omega
def c3E {p:c4} {g:Lev} {h:List UInt8} {l:e7} (hk:(l.Kind==3)=true):a3g p g h l:=fun h=>absurd (by simpa using hk) h
def c3F {p:c4} {g:Lev} {h:List UInt8} {l:e7} (hk:¬ l.Atom.Name∈vwS p):a3g p g h l:=fun _ h=>absurd h hk
def d1h {p:c4} {g:Lev} {h:List UInt8} {l:e7} {x:Int} (hx:x=g l.Atom.Name+a8D l) (hn:¬ g h < x):a3g p g h l:=fun _ _=>by omega
def c0y {l:e7} (h:(l.Kind==2)=true):a8D l=1:=by rw [a8D,if_pos (by simpa using h)]
def c5L {l:e7} (h:(l.Kind==2)=false):a8D l=0:=by rw [a8D,if_neg (by simpa using h)]
def c1X (p:c4):spZ 200 [(true,[n7 p.Decls,m8 p.Rules])] [] (.tup [(false,[kTLevel ((j3 p).1)]),(false,[.b ((j3 p).2)])]):=by
 refine sy' Tryz.func200 (q' 1 [ao (.box 2 (.t 0)),ao (.mov (.k (.v false [.nl a0K]))),ao (.mov (bb false))] (.seq (q' 14 [ae 2 1,ac 202 [14],ao (.not (.t 15))] (.cond (.t 16) (q' 0 [ax (o' 2 (.mov (.k (.v false [.nl a0K])))),ab 3 false] .ret) .skip)) (q' 17 [ao (.bsl 2 0 [.s,.i .i64] []),aV 4] (.seq (q' 18 [aG 0 1,aN,aK 0] (.block 0 (.loop (q' 22 [ar 21 20] (.seq (.cond (.t 22) .skip (.exit 0)) (.seq (.block 1 (q' 23 [ai 3 19 21,aE 3,ax (w' 6 [.i .i64,.s,.i .i64]),aS 3 6 24] (q' 25 [aG 0 6,ao (.bin .eql (.t 26) (k' 3))] (.cond (.t 27) (g' 28 [am 4,aG 1 6,ao (.bld [.s,.i .i64] [(0,1,.t 30)]),ao (.bsl 2 1 [.s, .i .i64] [(0,.t 31)]),ao (.app 2 24 [.s,.i .i64] (.t 28) (.t 32)),aV 4]) .skip)))) (g' 34 [aA 21]))))))) (q' 35 [am 4,ao (.call 249 [.t 35,.k (.v false [.c (.f 250 [])])])] (.seq (q' 0 [ab 7 true] (.block 2 (.loop (.seq (q' 37 [am 7] (.cond (.t 37) .skip (.exit 2))) (.block 3 (q' 0 [ab 7 false] (q' 38 [aG 1 1,aN,aK 0] (.block 4 (.loop (q' 42 [ar 41 40] (.seq (.cond (.t 42) .skip (.exit 4)) (.seq (.block 5 (q' 43 [ai 4 39 41,aE 4,ax (w' 9 [.i .i64,.s,.sl j6,.sl a9V]),aS 4 9 44] (.seq (q' 45 [ae 2 1,ae 4 9,ac 252 [45,46],ao (.not (.t 47))] (.cond (.t 48) (.exit 5) .skip)) (q' 49 [am 4,ao (.mf 254 [.t 9]),ac 253 [49,50],aV 10] (.seq (q' 52 [aG 3 9,aN,aK 0] (.block 6 (.loop (q' 56 [ar 55 54] (.seq (.cond (.t 56) .skip (.exit 6)) (.seq (.block 7 (q' 57 [ai 10 53 55,aE 10,ax (w' 12 [.i .i64, .s,.sl j6,.i .i64,.s,.i .i64,.s,.s,.i .i64,.s]),aS 10 12 58] (.seq (q' 59 [aG 0 12,ao (.bin .eql (.t 60) (k' 3)),am 61,au (.ld true 2 (.t 1)) 62 false,au (.fa 1 (.t 12)) 62 false,au (.fa 0 (.t 64)) 62 false,au (.ld false 1 (.t 65)) 62 false,au (.call 139 [.t 63,.t 66]) 62 false,au (.bin .neq (.t 67) (k' 3)) 62 false,ao (.pick (.t 62) (bb true) (.t 68))] (.cond (.t 69) (.exit 7) .skip)) (q' 70 [am 4,af 1 12,aG 0 71,ac 255 [70,73],aV 13] (.seq (q' 75 [aG 0 12,ao (.bin .eql (.t 76) (k' 2))] (.cond (.t 77) (g' 78 [aB 13]) .skip)) (q' 80 [aM [4,10],aI 2,aG 1 82,am 13,ar 84 85] (.cond (.t 86) (q' 87 [aM [4,10,13],ai 2 87 88,aF 1,aS 1 91 89] (g' 0 [ab 7 true])) .skip))))))) (g' 92 [aA 55]))))))) (q' 93 [aM [4,10],aI 2,aG 1 95,am 4,aN,ao (.bin .gtr (.t 97) (.t 99))] (.cond (.t 100) (q' 0 [ax (o' 2 (.mov (.k (.v false [.nl a0K])))),ab 3 false] .ret) .skip))))))) (g' 101 [aA 41]))))))))))))) (q' 102 [am 4,aV 2,ab 3 true] .ret))))))) [.t 2,.t 3] [(202,[],a2g),(249,[0],c3o),(252,[],a2f),(253,[],b1m),(139,[],a1c),(255,[],a7U)] ?_;intro hb hE;simp only [go_sem];repeat' first|apply cj'|intro hc|exact om'|fail
 ·rw [j3,hc];exact ⟨rfl,rfl⟩
 have hN:((l7 p).1==0)=true:=hc;have hok:=a2p (by simpa using hN);obtain ⟨hB,hD,hRb⟩:=hok;have hdl:p.Decls.length<=16:=by
  have:=hB;simp only [y7,W3,q0A] at this;omega
 have hvl:=c5Y hB;clear hc;refine lk' false [(false,4,0,100008)] [1,19,20] [2] [] (fun i:{i:Nat // i<=p.Decls.length}=>[(4,.v false [.ow 100008]),(21,slV (.i .i64 i.1))]) nl' (fun i=>[(100008,a0K,(c7i (p.Decls.take i.1)).map e8.cells)]) (fun i=>p.Decls.length - i.1) (⟨0,by simp⟩) ?_;intro S0 hS0 i;obtain ⟨i,hi⟩:=i;have hl:=d7t (p.Decls.take i);rw [V2] at hl;simp only [go_sem,hS0];repeat' first|apply cj'|intro hc|exact om'|fail
 ·(refine lpK_n2 (⟨i+1,by omega⟩) _ (by simp only [go_sem];try rfl) ?_;simp only [go_sem,hS0]<;>repeat' first|apply V0|exact on'|fail)
  rw [show c7i (p.Decls.take (i+1))=c7i (p.Decls.take i)++[⟨(p.Decls.getD i default).Name,0⟩] from b0v (p:=fun d:f5=>d.Kind==3) (fun d:f5=>(⟨d.Name,0⟩:e8)) default (by omega) hc];first|done|(rw [q1J];rfl)|trace_state
 ·(refine lpK_n2 (⟨i+1,by omega⟩) _ (by simp only [go_sem];try rfl) ?_;simp only [go_sem,hS0]<;>repeat' first|apply V0|exact on'|fail)
  rw [show c7i (p.Decls.take (i+1))=c7i (p.Decls.take i) from b9d (p:=fun d:f5=>d.Kind==3) (fun d:f5=>(⟨d.Name,0⟩:e8)) default (by omega) hc]
 rw [i9 (by omega),d4W hD];clear hc hl hi;refine lq' false [1,4] [2] [] (fun i:{q:Bool×Lev // Low p q.2/\(∀ v∈vwS p,q.2 v<=(vwS p).length)/\(q.1=false->Fx p q.2)}=>[(7,slV (.b i.1.1))]) nl' (fun i=>[(100008,a0K,(lvl p i.1.2).map e8.cells)]) (fun i=>2 * a3h p i.1.2+(bif i.1.1 then 1 else 0)) (⟨(true,fun _=>0),Low.zero p,fun v _=>by simp only;omega,by intro h;cases h⟩) ?_;intro S1 hS1 i;obtain ⟨⟨ag,g⟩,hL,hle,hF⟩:=i;simp only at hL hle hF;simp only [go_sem,hS0,hS1];repeat' first|apply cj'|intro hc|exact om'|fail
 ·have hag:=hc;clear hc;refine lq' false [1,4,39,40] [2] [] (fun i:{q:Nat×Bool×Lev // q.1<=p.Rules.length/\Low p q.2.2/\(∀ v∈vwS p,q.2.2 v<=(vwS p).length)/\(q.2.1=false->q.2.2=g/\∀ r∈p.Rules.take q.1,a0E p g r)/\(q.2.1=true->a3h p q.2.2 < a3h p g)}=>[(7,slV (.b i.1.2.1)),(41,slV (.i .i64 i.1.1))]) nl' (fun i=>[(100008,a0K,(lvl p i.1.2.2).map e8.cells)]) (fun i=>p.Rules.length - i.1.1) (⟨(0,false,g),by simp,hL,hle,fun _=>⟨rfl,by simp⟩,by intro h;cases h⟩) ?_;intro S2 hS2 i;obtain ⟨⟨n,ag2,g2⟩,hn,hL2,hle2,hF2,hM2⟩:=i;simp only at hn hL2 hle2 hF2 hM2;simp only [go_sem,hS0,hS1,hS2];repeat' first|apply cj'|intro hc|exact om'|fail
  ·have h3:ag2=false->g2=g/\∀ r∈p.Rules.take (n+1),a0E p g r:=fun h=>by
    refine ⟨(hF2 h).1,fun r hr=>?_⟩;rw [j4 default (by omega),W9,q0B] at hr;rcases hr with hr|rfl
    ·exact (hF2 h).2 r hr
    ·intro hv;have hk3:=(a1W hD).2 hv;have hk1:=b9i hRb (by omega) hk3;rw [hk1,hk3] at hc;exact absurd hc (by decide)
   (refine lpK_n2 (⟨(n+1,ag2,g2),by simp only;omega,hL2,hle2,h3,hM2⟩) _ rfl ?_;simp only [go_sem,hS0,hS1,hS2]<;>repeat' first|apply V0|exact on'|fail)
  ·have hk:=hc;have hnl:n < p.Rules.length:=by omega
   clear hc;have hb8:=c6G hB hnl;have hv:(p.Rules.getD n default).Head.Name∈vwS p:=(a1W hD).1 (by simpa using hk.2);obtain ⟨m,hm,hme,hix,hgm,hsm⟩:=lvl_idx hv;have hll:=a6y p;refine lq' false [1,4,10,39,40,41,53,54] [2] [] (fun i:{q:Nat×Bool×Lev // q.1<=(p.Rules.getD n default).Body.length/\Low p q.2.2/\(∀ v∈vwS p,v≠(p.Rules.getD n default).Head.Name->q.2.2 v<=(vwS p).length)/\q.2.2 (p.Rules.getD n default).Head.Name<=(vwS p).length+(q.1:Nat)/\(q.2.1=false->q.2.2=g/\(∀ r∈p.Rules.take n,a0E p g r)/\∀ l∈(p.Rules.getD n default).Body.take q.1,a3g p g (p.Rules.getD n default).Head.Name l)/\(q.2.1=true->a3h p q.2.2 < a3h p g)}=>[(7,slV (.b i.1.2.1)),(55,slV (.i .i64 i.1.1))]) nl' (fun i=>[(100008,a0K,(lvl p i.1.2.2).map e8.cells)]) (fun i=>(p.Rules.getD n default).Body.length - i.1.1) (⟨(0,ag2,g2),by simp,hL2,fun v hv2 _=>hle2 v hv2,by simp only;have:=hle2 _ hv;omega,fun h=>⟨(hF2 h).1,(hF2 h).2,by simp⟩,hM2⟩) ?_;intro S3 hS3 i;obtain ⟨⟨j,ag3,g3⟩,hj,hL3,ho3,hh3,hF3,hM3⟩:=i;simp only at hj hL3 ho3 hh3 hF3 hM3;have hLb:∀ v,0<=a3f (lvl p g3) v/\a3f (lvl p g3) v<=40:=fun v=>by
    by_cases e:v∈vwS p
    ·rw [a5Z g3 e];refine ⟨hL3.ge v, ?_⟩;by_cases e2:v=(p.Rules.getD n default).Head.Name
     ·rw [e2];omega
     ·have:=ho3 v e e2;omega
    ·rw [d7Y g3 e];omega
   have hw:∀ v,IntKind.i64.wrap (a3f (lvl p g3) v+1)=a3f (lvl p g3) v+1:=fun v=>by have:=hLb v;exact w64 (by omega) (by omega) (by omega)
   simp only [go_sem,hS0,hS1,hS2,hix,hgm,hsm,hll,hS3,hw];repeat' first|apply cj'|intro hc|exact om'|fail
   ·have h3:ag3=false->g3=g/\(∀ r∈p.Rules.take n,a0E p g r)/\∀ l∈(p.Rules.getD n default).Body.take (j+1),a3g p g (p.Rules.getD n default).Head.Name l:=fun h=>by
     refine ⟨(hF3 h).1,(hF3 h).2.1,fun l hl=>?_⟩;rw [j4 default (by omega),W9,q0B] at hl;rcases hl with hl|rfl
     ·exact (hF3 h).2.2 l hl
     ·rcases hc with hc|hc
      ·exact c3E hc
      ·refine c3F fun hv3=>?_
       rw [(a1W hD).2 hv3] at hc;exact absurd hc (by decide)
    (refine lpK_n2 (⟨(j+1,ag3,g3),by simp only;omega,hL3,ho3,by simp only;omega,h3,hM3⟩) _ rfl ?_;simp only [go_sem,hS0,hS1,hS2,hix,hgm,hsm,hll,hS3,hw]<;>repeat' first|apply V0|exact on'|fail)
   ·have hq:(((p.Rules.getD n default).Body.getD j default).Kind==3)=false/\(a0y p ((p.Rules.getD n default).Body.getD j default).Atom.Name != 3)=false:=by assumption
    have hq2:(((p.Rules.getD n default).Body.getD j default).Kind==2)=true:=by assumption
    have hvv:((p.Rules.getD n default).Body.getD j default).Atom.Name∈vwS p:=(a1W hD).1 (by simpa [bne] using hq.2);have hjl:j < (p.Rules.getD n default).Body.length:=by omega
    have hrm:p.Rules.getD n default∈p.Rules:=A3v hnl;have hlm:((p.Rules.getD n default).Body.getD j default)∈(p.Rules.getD n default).Body:=A3v hjl;have hkk:((p.Rules.getD n default).Body.getD j default).Kind≠3:=fun e=>by have:=hq.1;rw [e] at this;exact absurd this (by decide)
    have e:a3f (lvl p g3) ((p.Rules.getD n default).Body.getD j default).Atom.Name+1=g3 ((p.Rules.getD n default).Body.getD j default).Atom.Name+a8D ((p.Rules.getD n default).Body.getD j default):=by rw [a5Z g3 hvv,c0y hq2]
    have hMM:a3h p g3<=a3h p g:=by
     cases hag3:ag3 with
     | true=>exact Nat.le_of_lt (hM3 hag3)
     | false=>rw [(hF3 hag3).1];exact q0C _
    have R:=a8S hrm hv hlm hkk hvv hL3 ho3 hh3 (by omega) e hc hMM
    (refine lpK_n2 (⟨(j+1,true,upd g3 (p.Rules.getD n default).Head.Name (a3f (lvl p g3) ((p.Rules.getD n default).Body.getD j default).Atom.Name+1)),by simp only;omega,R.1,R.2.1,R.2.2.1,fun h=>(by cases h),fun _=>R.2.2.2⟩) _ rfl ?_;simp only [go_sem,hS0,hS1,hS2,hix,hgm,hsm,hll,hS3,hw]<;>repeat' first|apply V0|exact on'|fail)
   ·have hq:(((p.Rules.getD n default).Body.getD j default).Kind==3)=false/\(a0y p ((p.Rules.getD n default).Body.getD j default).Atom.Name != 3)=false:=by assumption
    have hq2:(((p.Rules.getD n default).Body.getD j default).Kind==2)=true:=by assumption
    have hvv:((p.Rules.getD n default).Body.getD j default).Atom.Name∈vwS p:=(a1W hD).1 (by simpa [bne] using hq.2);have hjl:j < (p.Rules.getD n default).Body.length:=by omega
    have hrm:p.Rules.getD n default∈p.Rules:=A3v hnl;have hlm:((p.Rules.getD n default).Body.getD j default)∈(p.Rules.getD n default).Body:=A3v hjl;have e:a3f (lvl p g3) ((p.Rules.getD n default).Body.getD j default).Atom.Name+1=g3 ((p.Rules.getD n default).Body.getD j default).Atom.Name+a8D ((p.Rules.getD n default).Body.getD j default):=by rw [a5Z g3 hvv,c0y hq2]
    have h3:ag3=false->g3=g/\(∀ r∈p.Rules.take n,a0E p g r)/\∀ l∈(p.Rules.getD n default).Body.take (j+1),a3g p g (p.Rules.getD n default).Head.Name l:=fun h=>by
     refine ⟨(hF3 h).1,(hF3 h).2.1,fun l hl=>?_⟩;rw [j4 default (by omega),W9,q0B] at hl;rcases hl with hl|rfl
     ·exact (hF3 h).2.2 l hl
     ·have:=(hF3 h).1;rw [<- this];exact d1h e hc
    (refine lpK_n2 (⟨(j+1,ag3,g3),by simp only;omega,hL3,ho3,by simp only;omega,h3,hM3⟩) _ rfl ?_;simp only [go_sem,hS0,hS1,hS2,hix,hgm,hsm,hll,hS3,hw]<;>repeat' first|apply V0|exact on'|fail)
   ·have hq:(((p.Rules.getD n default).Body.getD j default).Kind==3)=false/\(a0y p ((p.Rules.getD n default).Body.getD j default).Atom.Name != 3)=false:=by assumption
    have hq2:(((p.Rules.getD n default).Body.getD j default).Kind==2)=false:=by assumption
    have hvv:((p.Rules.getD n default).Body.getD j default).Atom.Name∈vwS p:=(a1W hD).1 (by simpa [bne] using hq.2);have hjl:j < (p.Rules.getD n default).Body.length:=by omega
    have hrm:p.Rules.getD n default∈p.Rules:=A3v hnl;have hlm:((p.Rules.getD n default).Body.getD j default)∈(p.Rules.getD n default).Body:=A3v hjl;have hkk:((p.Rules.getD n default).Body.getD j default).Kind≠3:=fun e=>by have:=hq.1;rw [e] at this;exact absurd this (by decide)
    have e:a3f (lvl p g3) ((p.Rules.getD n default).Body.getD j default).Atom.Name=g3 ((p.Rules.getD n default).Body.getD j default).Atom.Name+a8D ((p.Rules.getD n default).Body.getD j default):=by rw [a5Z g3 hvv,c5L hq2];omega
    have hMM:a3h p g3<=a3h p g:=by
     cases hag3:ag3 with
     | true=>exact Nat.le_of_lt (hM3 hag3)
     | false=>rw [(hF3 hag3).1];exact q0C _
    have R:=a8S hrm hv hlm hkk hvv hL3 ho3 hh3 (by omega) e hc hMM
    (refine lpK_n2 (⟨(j+1,true,upd g3 (p.Rules.getD n default).Head.Name (a3f (lvl p g3) ((p.Rules.getD n default).Body.getD j default).Atom.Name)),by simp only;omega,R.1,R.2.1,R.2.2.1,fun h=>(by cases h),fun _=>R.2.2.2⟩) _ rfl ?_;simp only [go_sem,hS0,hS1,hS2,hix,hgm,hsm,hll,hS3,hw]<;>repeat' first|apply V0|exact on'|fail)
   ·have hq:(((p.Rules.getD n default).Body.getD j default).Kind==3)=false/\(a0y p ((p.Rules.getD n default).Body.getD j default).Atom.Name != 3)=false:=by assumption
    have hq2:(((p.Rules.getD n default).Body.getD j default).Kind==2)=false:=by assumption
    have hvv:((p.Rules.getD n default).Body.getD j default).Atom.Name∈vwS p:=(a1W hD).1 (by simpa [bne] using hq.2);have hjl:j < (p.Rules.getD n default).Body.length:=by omega
    have hrm:p.Rules.getD n default∈p.Rules:=A3v hnl;have hlm:((p.Rules.getD n default).Body.getD j default)∈(p.Rules.getD n default).Body:=A3v hjl;have e:a3f (lvl p g3) ((p.Rules.getD n default).Body.getD j default).Atom.Name=g3 ((p.Rules.getD n default).Body.getD j default).Atom.Name+a8D ((p.Rules.getD n default).Body.getD j default):=by rw [a5Z g3 hvv,c5L hq2];omega
    have h3:ag3=false->g3=g/\(∀ r∈p.Rules.take n,a0E p g r)/\∀ l∈(p.Rules.getD n default).Body.take (j+1),a3g p g (p.Rules.getD n default).Head.Name l:=fun h=>by
     refine ⟨(hF3 h).1,(hF3 h).2.1,fun l hl=>?_⟩;rw [j4 default (by omega),W9,q0B] at hl;rcases hl with hl|rfl
     ·exact (hF3 h).2.2 l hl
     ·have:=(hF3 h).1;rw [<- this];exact d1h e hc
    (refine lpK_n2 (⟨(j+1,ag3,g3),by simp only;omega,hL3,ho3,by simp only;omega,h3,hM3⟩) _ rfl ?_;simp only [go_sem,hS0,hS1,hS2,hix,hgm,hsm,hll,hS3,hw]<;>repeat' first|apply V0|exact on'|fail)
   ·rw [c3D hL3 hv hc];exact ⟨rfl,rfl⟩
   ·have h1:∀ v∈vwS p,g3 v<=(vwS p).length:=fun v hv2=>by
     by_cases e:v=(p.Rules.getD n default).Head.Name
     ·rw [e];omega
     ·exact ho3 v hv2 e
    have h3:ag3=false->g3=g/\∀ r∈p.Rules.take (n+1),a0E p g r:=fun h=>by
     refine ⟨(hF3 h).1,fun r hr=>?_⟩;rw [j4 default (by omega),W9,q0B] at hr;rcases hr with hr|rfl
     ·exact (hF3 h).2.1 r hr
     ·intro _ l hl;refine (hF3 h).2.2 l ?_;rw [i9 (by omega)];exact hl
    (refine lpK_n2 (⟨(n+1,ag3,g3),by simp only;omega,hL3,h1,h3,hM3⟩) _ rfl ?_;simp only [go_sem,hS0,hS1,hS2,hix,hgm,hsm,hll,hS3,hw]<;>repeat' first|apply V0|exact on'|fail)
  ·have h3:ag2=false->Fx p g2:=fun h=>by
    have h5:=hF2 h;rw [i9 (by omega)] at h5;rw [h5.1];exact h5.2
   have hmm:ag2=false->g2=g:=fun h=>(hF2 h).1
   (refine lpK_n2 (⟨(ag2,g2),hL2,hle2,h3⟩) _ rfl ?_;simp only [go_sem,hS0,hS1,hS2]<;>repeat' first|apply V0|exact on'|fail)
   cases hag2:ag2 with
   | false=>rw [hmm hag2,hag];simp only [W8,V1];omega
   | true=>have:=hM2 hag2;rw [hag];simp only [W8];omega
 ·rw [c0t hN ⟨hF hc,hL,hle⟩];exact ⟨rfl,rfl⟩
noncomputable def a4X:CT:=k6 (fun (x:c4)=>c1X x)
@[go_sem] def d3T:=fun x0 x1=>nm' (fQ' a4X rfl ⟨x0,x1⟩)
def a1q (p:c4) (k:Int):List f5:=p.Decls.filter fun d=>d.Kind==k
@[go_sem] def l12Set_nil (l:List d6) (n:List UInt8) (a:Int):a5q [(true,[j5 l]),(false,[.s n]),(true,[.i .i64 a,.sl false n0 []])]=some (((∀ x∈l,x.Rel.Rows=[])/\True)/\l.length<=1000,[],.one (true,[j5 (a1G l n ⟨n,⟨a,[]⟩⟩)])):=by
 have h:=b3C l n a [];simpa using h
def b4X (l:List f5) (d:f5):a0c (l++[d])=a1G (a0c l) d.Name ⟨d.Name,⟨d.Arity,[]⟩⟩:=by rw [a0c,q2R];rfl
@[go_sem] def emptyN_nil:a0c []=[]:=rfl
def b6T (p:c4) (k:Int) (hpre:p.Decls.length<=16):spZ 126 [(true,[n7 p.Decls,m8 p.Rules]),(false,[.i .i64 k])] [] (.one (true,[j5 ((⟨a0c (a1q p k)⟩:c8).Rels)])):=by
 refine sx' false true none Tryz.func126 (q' 2 [ao (.box 2 (.t 0)),ax (w' 4 [.sl l4])] (q' 5 [ax (o' 8 (.bld [.sl l4] [])),aw [.sl l4],aS 1 5 8] (.seq (q' 9 [aG 0 2,aN,aK 0] (.block 0 (.loop (q' 13 [ar 12 11] (.seq (.cond (.t 13) .skip (.exit 0)) (.seq (.block 1 (q' 14 [ai 3 10 12,aE 3,ax (w' 7 [.i .i64,.s,.i .i64]),aS 3 7 15] (q' 16 [aG 0 7,am 1,ao (.bin .eql (.t 17) (.t 18))] (.cond (.t 19) (g' 20 [ae 1 5,aG 1 7,aG 2 7,ao (.bld [.i .i64,.sl n0] [(0,1,.t 24)]),ac 138 [20,22,25],aS 1 5 26]) .skip)))) (g' 27 [aA 12]))))))) (q' 28 [ae 1 5,aS 1 4 28] .ret)))) [.c 4 true 1] [(138,[],a5q)] ?_;intro hb hE;simp only [go_sem];repeat' first|apply cj'|intro hc|exact om'|fail
 refine c4A false [(true,10,0,200020)] ?_;refine a6n 200020 ?_;refine lq' false [1,4,5,10,11] [8] [] (fun i:{i:Nat // i<=p.Decls.length}=>[(12,slV (.i .i64 i.1))]) (fun i=>[(10,[.c (j5 (a0c ((p.Decls.take i.1).filter fun d=>d.Kind==k)))])]) nl' (fun i=>p.Decls.length - i.1) (⟨0,by simp⟩) ?_;intro S0 hS0 i;obtain ⟨i,hi⟩:=i;have h1:=b0t ((p.Decls.take i).filter fun d=>d.Kind==k);have h2:=q2F (fun d:f5=>d.Kind==k) (p.Decls.take i);have h3:=c7k ((p.Decls.take i).filter fun d=>d.Kind==k);rw [V2] at h2;simp only [go_sem,hS0];repeat' first|apply cj'|intro hc|exact om'|fail
 all_goals first
  | omega
  | exact h3
  | exact ⟨h3,by omega⟩
  | ((refine lpK_n2 (⟨i+1,by omega⟩) _ rfl ?_;simp only [go_sem,hS0]<;>repeat' first|apply V0|exact on'|fail);rw [f_yes (p:=fun d:f5=>d.Kind==k) default (by omega) hc,b4X];done)
  | ((refine lpK_n2 (⟨i+1,by omega⟩) _ rfl ?_;simp only [go_sem,hS0]<;>repeat' first|apply V0|exact on'|fail);rw [f_no (p:=fun d:f5=>d.Kind==k) default (by omega) hc];done)
  | (rw [i9 (by omega)];rfl)
  | trace_state
noncomputable def a3u:CT:=l8 (fun (x:c4×Int) h=>b6T x.1 x.2 h)
@[go_sem] def d0A:=fun x0 x1 k=>nm' (fP' a3u rfl (⟨x0,x1⟩,k))
def c5G (l:List e8) (v:List UInt8):spZ 198 [(false,[a8P l]),(false,[.s v])] [] (.one (false,[.i .i64 (a1r l v)])):=by
 refine sy' Tryz.func198 (q' 4 [aK 0] (.seq (q' 6 [am 0,aN,aK 0] (.block 0 (.loop (q' 9 [ar 8 7] (.seq (.cond (.t 9) .skip (.exit 0)) (.seq (.block 1 (q' 10 [am 8,aV 5] (q' 11 [aM [0,5],aI 2,aG 0 13,am 1,ao (.bin .eql (.t 15) (.t 16))] (.cond (.t 17) (q' 18 [aM [0,5],aI 2,aG 1 20,aV 4] .ret) .skip)))) (g' 23 [aA 8]))))))) (q' 4 [ao (.mov (.k (.v false [.c (.i .i64 (-1))])))] .ret))) [.t 4] [] ?_;intro hb hE;simp only [go_sem];repeat' first|apply cj'|intro hc|exact om'|fail
 refine lq' false [0,1,7] [] [] (fun i:{i:Nat // i<=l.length/\(l.take i).any (fun d=>d.Name==v)=false}=>[(8,slV (.i .i64 i.1))]) nl' nl' (fun i=>l.length - i.1) (⟨0,by simp⟩) ?_;intro S0 hS0 i;obtain ⟨i,hi,ha⟩:=i;simp only [go_sem,hS0];repeat' first|apply cj'|intro hc|exact om'|fail
 ·rw [a1r,c4R (d:=default) (i:=i) (by omega) ha hc];rfl
 ·exact nx0 ⟨i+1,by omega,u3 (p:=fun d:e8=>d.Name==v) default (by omega) ha hc⟩
 ·rw [a1r,a8M (by rwa [i9 (by omega)] at ha)];rfl
noncomputable def b1N:CT:=k6 (fun (x:(List e8)×(List UInt8))=>c5G x.1 x.2)
@[go_sem] def d6q:=fun l v=>nm' (fQ' b1N rfl (l,v))
def relL (l:List d6):List e8:=l.map fun x=>⟨x.Name,0⟩
def d8n (p:c4):relL (a0c (a1q p 3))=lvl p fun _=>0:=by
 have h:=a6t (a1q p 3);have e:relL (a0c (a1q p 3))=((a0c (a1q p 3)).map d6.Name).map fun v=>(⟨v,0⟩:e8):=by rw [q4F];rfl
 rw [e,h];rfl
def d5m (p:c4) (k:Int):(a0c (a1q p k)).length<=p.Decls.length:=by
 have h1:=b0t (a1q p k);have h2:=q2F (fun d:f5=>d.Kind==k) p.Decls;exact q3H h1 h2
def vw_at {p:c4} {n:Nat} (hn:n < (vwS p).length):(vwS p).getD n []∈vwS p/\(∀ g,(lvl p g).getD n default=⟨(vwS p).getD n [],g ((vwS p).getD n [])⟩)/\∀ g x,(lvl p g).set n ⟨(vwS p).getD n [],x⟩=lvl p (upd g ((vwS p).getD n []) x):=
 ⟨A3v hn,fun g=>c8a p g hn,fun g x=>d2T p g hn x⟩
def c5J {p:c4} {g:Lev} {l:e7} {x:Int} (h0:∀ v,0<=g v) (hx:((l.Kind==2&&decide (0<=a1r (lvl p g) l.Atom.Name))=true/\x=a1r (lvl p g) l.Atom.Name+1)\/((l.Kind==2&&decide (0<=a1r (lvl p g) l.Atom.Name))=false/\x=a1r (lvl p g) l.Atom.Name)):(l.Atom.Name∈vwS p/\x=g l.Atom.Name+a8D l)\/(¬ l.Atom.Name∈vwS p/\x=-1):=by
 by_cases e:l.Atom.Name∈vwS p
 ·refine .inl ⟨e, ?_⟩;rw [c3A g e,V4 (h0 l.Atom.Name),q1I] at hx;rcases hx with ⟨h1,h2⟩|⟨h1,h2⟩
  ·rw [c0y h1];exact h2
  ·rw [c5L h1];omega
 ·refine .inr ⟨e, ?_⟩;rw [c7U g e,show decide ((0:Int)<=-1)=false from rfl,q2Y] at hx;rcases hx with ⟨h1,h2⟩|⟨h1,h2⟩
  ·cases h1
  ·exact h2
def c7V {p:c4} {g:Lev} {h:List UInt8} {l:e7} {x:Int} (h0:∀ v,0<=g v) (hx:((l.Kind==2&&decide (0<=a1r (lvl p g) l.Atom.Name))=true/\x=a1r (lvl p g) l.Atom.Name+1)\/((l.Kind==2&&decide (0<=a1r (lvl p g) l.Atom.Name))=false/\x=a1r (lvl p g) l.Atom.Name)) (hc:(l.Kind != 3&&decide (g h < x))=false):a3g p g h l:=by
 by_cases hk:(l.Kind==3)=true
 ·exact c3E hk
 ·have hn:¬ g h < x:=by
   rw [bne,(by simpa using hk:(l.Kind==3)=false),q3J,q0Q] at hc;exact of_decide_eq_false hc
  rcases c5J h0 hx with ⟨h1,h2⟩|⟨h1,h2⟩
  ·exact d1h h2 hn
  ·exact c3F h1
def c7X {p:c4} {g:Lev} {h:List UInt8} {b:List e7} {j:Nat} (hj:j < b.length) (h1:∀ l∈b.take j,a3g p g h l) (h2:a3g p g h (b.getD j default)):∀ l∈b.take (j+1),a3g p g h l:=fun l hl=>by
 rw [j4 default hj,W9,q0B] at hl;rcases hl with hl|rfl
 ·exact h1 l hl
 ·exact h2
def c2I (p:c4):spZ 127 [(true,[n7 p.Decls,m8 p.Rules])] [] (.tup [(false,[a8P ((j3 p).1)]),(false,[.b ((j3 p).2)])]):=by
 refine sx' false true none Tryz.func127 (q' 1 [ao (.box 2 (.t 0)),ao (.mov (.k (.v false [.nl a0K]))),ao (.mov (bb false))] (q' 16 [ae 2 1,ac 196 [16],aV 15,ao (.ext (.t 15) 0),ao (.ext (.t 15) 1),av 4 18,aV 5] (.seq (q' 20 [am 4,ao (.bin .neq (.t 20) (k' 0))] (.cond (.t 21) (q' 0 [ax (o' 2 (.mov (.k (.v false [.nl a0K])))),ab 3 false] .ret) .skip)) (q' 22 [ao (.bsl 2 0 [.s,.i .i64] []),aV 6] (.seq (q' 23 [ae 2 1,ao (.call 126 [.t 23,.k (.v false [.c (.i .i64 3)])]),ao (.fl false 0 1 (.t 24)),aN,aK 0] (.block 0 (.loop (q' 28 [ar 27 26] (.seq (.cond (.t 28) .skip (.exit 0)) (.seq (.block 1 (q' 29 [ai 3 25 27,aE 3,ax (w' 8 [.s,.i .i64, .sl n0]),aS 3 8 30] (g' 31 [am 6,aG 0 8,ao (.bld [.s,.i .i64] [(0,1,.t 33)]),ao (.bsl 2 1 [.s,.i .i64] [(0,.t 34)]),ao (.app 2 24 [.s,.i .i64] (.t 31) (.t 35)),aV 6]))) (g' 37 [aA 27]))))))) (.seq (q' 0 [ab 9 true] (.block 2 (.loop (.seq (q' 38 [am 9] (.cond (.t 38) .skip (.exit 2))) (.block 3 (q' 0 [ab 9 false] (q' 39 [am 6,aN,aK 0] (.block 4 (.loop (q' 42 [ar 41 40] (.seq (.cond (.t 42) .skip (.exit 4)) (.seq (.block 5 (q' 43 [am 41,aV 10] (.seq (q' 44 [aG 1 1,aN,aK 0] (.block 6 (.loop (q' 48 [ar 47 46] (.seq (.cond (.t 48) .skip (.exit 6)) (.seq (.block 7 (q' 49 [am 47,aV 11] (q' 50 [aG 1 1,am 11,aI 4,aE 4,ax (w' 12 [.i .i64,.s,.sl j6,.sl a9V]),aS 4 12 54] (.seq (.seq (G' 55 [af 1 12,aG 0 55,aM [6,10],aI 2,aG 0 60,ao (.bin .neq (.t 57) (.t 62))]) (.cond (.t 63) (.exit 7) .skip)) (q' 64 [aG 3 12,aN,aK 0] (.block 8 (.loop (q' 68 [ar 67 66] (.seq (.cond (.t 68) .skip (.exit 8)) (.seq (.block 9 (q' 69 [am 67,aV 13] (q' 70 [am 6,aG 3 12,am 13,aI 10,aF 1,aG 0 75,ac 198 [70,77],aV 14] (.seq (q' 79 [aG 3 12,am 13,aI 10,aG 0 82,ao (.bin .eql (.t 84) (k' 2)),am 85,au (.mov (.t 14)) 86 true,au (.bin .geq (.t 87) (k' 0)) 86 true,ao (.pick (.t 86) (.t 88) (bb false))] (.cond (.t 89) (g' 90 [aB 14]) .skip)) (q' 92 [aG 3 12,am 13,aI 10,aG 0 95,ao (.bin .neq (.t 97) (k' 3)),am 98,au (.mov (.t 14)) 99 true,au (.mov (.t 6)) 99 true,au (.mov (.t 10)) 99 true,au (.ia 2 (.t 101) (.t 102)) 99 true,au (.fa 1 (.t 103)) 99 true,au (.ld false 1 (.t 104)) 99 true,au (.bin .gtr (.t 100) (.t 105)) 99 true,ao (.pick (.t 99) (.t 106) (bb false))] (.cond (.t 107) (q' 108 [aM [6,10,14],ai 2 108 109,aF 1,aS 1 112 110] (g' 0 [ab 9 true])) .skip)))))) (g' 113 [aA 67]))))))))))) (g' 114 [aA 47]))))))) (q' 115 [aM [6,10],aI 2,aG 1 117,am 6,aN,ao (.bin .gtr (.t 119) (.t 121))] (.cond (.t 122) (q' 0 [ax (o' 2 (.mov (.k (.v false [.nl a0K])))),ab 3 false] .ret) .skip))))) (g' 123 [aA 41]))))))))))))) (q' 124 [am 6,aV 2,ab 3 true] .ret))))))) [.t 2,.t 3] [(196,[],a2h),(126,[],a3u),(198,[],b1N)] ?_;intro hb hE;simp only [go_sem];repeat' first|apply cj'|intro hc|exact om'|fail
 ·rw [j3,show ((l7 p).1==0)=false by simpa [bne] using hc];exact ⟨rfl,rfl⟩
 ·have hB:=z9 (p:=p) (by simpa [bne] using hc);simp only [y7,W3,q0A] at hB;omega
 have hN:((l7 p).1==0)=true:=by simpa [bne] using hc
 obtain ⟨hB,hD,hRb⟩:=a2p (by simpa using hN);have hdl:p.Decls.length<=16:=by
  have:=hB;simp only [y7,W3,q0A] at this;omega
 have hrl:p.Rules.length<=24:=by
  have:=hB;simp only [y7,W3,q0A] at this;omega
 have hvl:=c5Y hB;have hel:=d5m p 3;clear hc;refine lk' false [(false,6,0,100012)] [1,25,26] [2] [] (fun i:{i:Nat // i<=(a0c (a1q p 3)).length}=>[(6,.v false [.ow 100012]),(27,slV (.i .i64 i.1))]) nl' (fun i=>[(100012,a0K,(relL ((a0c (a1q p 3)).take i.1)).map e8.cells)]) (fun i=>(a0c (a1q p 3)).length - i.1) (⟨0,by simp⟩) ?_;intro S0 hS0 i;obtain ⟨i,hi⟩:=i;have hl:(relL ((a0c (a1q p 3)).take i)).length<=16:=by rw [relL,q0G,V2];omega
 simp only [go_sem,hS0];repeat' first|apply cj'|intro hc|exact om'|fail
 ·(refine lpK_n2 (⟨i+1,by omega⟩) _ (by simp only [go_sem];try rfl) ?_;simp only [go_sem,hS0]<;>repeat' first|apply V0|exact on'|fail)
  rw [show relL ((a0c (a1q p 3)).take (i+1))=relL ((a0c (a1q p 3)).take i)++[⟨((a0c (a1q p 3)).getD i default).Name,0⟩] from m_snoc (fun x:d6=>(⟨x.Name,0⟩:e8)) default (by omega)];first|done|(rw [q1J];rfl)|trace_state
 rw [i9 (by omega),d8n];clear hc hl hi;refine lq' false [1,6] [2] [] (fun i:{q:Bool×Lev // Low p q.2/\(∀ v∈vwS p,q.2 v<=(vwS p).length)/\(q.1=false->Fx p q.2)}=>[(9,slV (.b i.1.1))]) nl' (fun i=>[(100012,a0K,(lvl p i.1.2).map e8.cells)]) (fun i=>2 * a3h p i.1.2+(bif i.1.1 then 1 else 0)) (⟨(true,fun _=>0),Low.zero p,fun v _=>by simp only;omega,by intro h;cases h⟩) ?_;intro S1 hS1 i;obtain ⟨⟨ag,g⟩,hL,hle,hF⟩:=i;simp only at hL hle hF;have hll:=a6y p;simp only [go_sem,hS0,hS1,hll];repeat' first|apply cj'|intro hc|exact om'|fail
 ·have hag:=hc;clear hc;refine lq' false [1,6,40] [2] [] (fun i:{q:Nat×Bool×Lev // q.1<=(vwS p).length/\Low p q.2.2/\(∀ v∈vwS p,q.2.2 v<=(vwS p).length)/\(q.2.1=false->q.2.2=g/\∀ r∈p.Rules,r.Head.Name∈(vwS p).take q.1->a0E p g r)/\(q.2.1=true->a3h p q.2.2 < a3h p g)}=>[(9,slV (.b i.1.2.1)),(41,slV (.i .i64 i.1.1))]) nl' (fun i=>[(100012,a0K,(lvl p i.1.2.2).map e8.cells)]) (fun i=>(vwS p).length - i.1.1) (⟨(0,false,g),by simp,hL,hle,fun _=>⟨rfl,by simp⟩,by intro h;cases h⟩) ?_;intro S2 hS2 i;obtain ⟨⟨n,ag2,g2⟩,hn,hL2,hle2,hF2,hM2⟩:=i;simp only at hn hL2 hle2 hF2 hM2;simp only [go_sem,hS0,hS1,hll,hS2];repeat' first|apply cj'|intro hc|exact om'|fail
  ·have hnl:n < (vwS p).length:=by omega
   clear hc;obtain ⟨hv,hgm,hsm⟩:=vw_at hnl;refine lq' false [1,6,10,40,41,46] [2] [] (fun i:{q:Nat×Bool×Lev // q.1<=p.Rules.length/\Low p q.2.2/\(∀ v∈vwS p,v≠(vwS p).getD n []->q.2.2 v<=(vwS p).length)/\q.2.2 ((vwS p).getD n [])<=(vwS p).length+(8 * q.1:Nat)/\(q.2.1=false->q.2.2=g/\(∀ r∈p.Rules,r.Head.Name∈(vwS p).take n->a0E p g r)/\∀ r∈p.Rules.take q.1,r.Head.Name=(vwS p).getD n []->a0E p g r)/\(q.2.1=true->a3h p q.2.2 < a3h p g)}=>[(9,slV (.b i.1.2.1)),(47,slV (.i .i64 i.1.1))]) nl' (fun i=>[(100012,a0K,(lvl p i.1.2.2).map e8.cells)]) (fun i=>p.Rules.length - i.1.1) (⟨(0,ag2,g2),by simp,hL2,fun v hv2 _=>hle2 v hv2,by simp only;have:=hle2 _ hv;omega,fun h=>⟨(hF2 h).1,(hF2 h).2,by simp⟩,hM2⟩) ?_;intro S3 hS3 i;obtain ⟨⟨k,ag3,g3⟩,hk,hL3,ho3,hh3,hF3,hM3⟩:=i;simp only at hk hL3 ho3 hh3 hF3 hM3;simp only [go_sem,hS0,hS1,hll,hS2,hgm,hsm,hS3];repeat' first|apply cj'|intro hc|exact om'|fail
   ·have h3:ag3=false->g3=g/\(∀ r∈p.Rules,r.Head.Name∈(vwS p).take n->a0E p g r)/\∀ r∈p.Rules.take (k+1),r.Head.Name=(vwS p).getD n []->a0E p g r:=fun h=>by
     refine ⟨(hF3 h).1,(hF3 h).2.1,fun r hr he=>?_⟩;rw [j4 default (by omega),W9,q0B] at hr;rcases hr with hr|rfl
     ·exact (hF3 h).2.2 r hr he
     ·rw [he] at hc;simp at hc
    (refine lpK_n2 (⟨(k+1,ag3,g3),by simp only;omega,hL3,ho3,by simp only;omega,h3,hM3⟩) _ rfl ?_;simp only [go_sem,hS0,hS1,hll,hS2,hgm,hsm,hS3]<;>repeat' first|apply V0|exact on'|fail)
   ·have hkl:k < p.Rules.length:=by omega
    have hrh:(p.Rules.getD k default).Head.Name=(vwS p).getD n []:=by simpa using hc
    clear hc;have hb8:=c6G hB hkl;have hrm:p.Rules.getD k default∈p.Rules:=A3v hkl;refine lq' false [1,6,10,12,40,41,46,47,66] [2,24] [] (fun i:{q:Nat×Bool×Lev // q.1<=(p.Rules.getD k default).Body.length/\Low p q.2.2/\(∀ v∈vwS p,v≠(vwS p).getD n []->q.2.2 v<=(vwS p).length)/\q.2.2 ((vwS p).getD n [])<=(vwS p).length+(8 * k+q.1:Nat)/\(q.2.1=false->q.2.2=g/\(∀ r∈p.Rules,r.Head.Name∈(vwS p).take n->a0E p g r)/\(∀ r∈p.Rules.take k,r.Head.Name=(vwS p).getD n []->a0E p g r)/\∀ l∈(p.Rules.getD k default).Body.take q.1,a3g p g ((vwS p).getD n []) l)/\(q.2.1=true->a3h p q.2.2 < a3h p g)}=>[(9,slV (.b i.1.2.1)),(67,slV (.i .i64 i.1.1))]) nl' (fun i=>[(100012,a0K,(lvl p i.1.2.2).map e8.cells)]) (fun i=>(p.Rules.getD k default).Body.length - i.1.1) (⟨(0,ag3,g3),by simp,hL3,ho3,by simp only;omega,fun h=>⟨(hF3 h).1,(hF3 h).2.1,(hF3 h).2.2,by simp⟩,hM3⟩) ?_;intro S4 hS4 i;obtain ⟨⟨j,ag4,g4⟩,hj,hL4,ho4,hh4,hF4,hM4⟩:=i;simp only at hj hL4 ho4 hh4 hF4 hM4;have hLb:∀ v,-1<=a1r (lvl p g4) v/\a1r (lvl p g4) v<=400:=fun v=>by
     by_cases e:v∈vwS p
     ·rw [c3A g4 e];have:=hL4.ge v;by_cases e2:v=(vwS p).getD n []
      ·rw [e2] at this ⊢;omega
      ·have:=ho4 v e e2;omega
     ·rw [c7U g4 e];omega
    have hw:∀ v,IntKind.i64.wrap (a1r (lvl p g4) v+1)=a1r (lvl p g4) v+1:=fun v=>by have:=hLb v;rw [IntWalk.i64_in _ (by omega)]
    simp only [go_sem,hS0,hS1,hll,hS2,hgm,hsm,hS3,hS4,hw];repeat' first|apply cj'|intro hc|exact om'|fail
    ·rename_i hq;have hjl:j < (p.Rules.getD k default).Body.length:=by omega
     have hlm:((p.Rules.getD k default).Body.getD j default)∈(p.Rules.getD k default).Body:=A3v hjl;have hkk:((p.Rules.getD k default).Body.getD j default).Kind≠3:=by simpa using hc.1
     have hx0:=c5J (x:=a1r (lvl p g4) ((p.Rules.getD k default).Body.getD j default).Atom.Name+1) hL4.ge (.inl ⟨by simpa using hq,rfl⟩);have hh0:=hL4.ge ((vwS p).getD n []);have hc2:=hc.2;rcases hx0 with ⟨hvv,e⟩|⟨hvv,e⟩
     ·have hMM:a3h p g4<=a3h p g:=by
       cases hag4:ag4 with
       | true=>exact Nat.le_of_lt (hM4 hag4)
       | false=>rw [(hF4 hag4).1];exact q0C _
      have R:=a8S (j:=8 * k+j) hrm (by rw [hrh];exact hv) hlm hkk hvv hL4 (by rw [hrh];exact ho4) (by rw [hrh];exact hh4) (by omega) e (by rw [hrh];exact hc2) hMM;rw [hrh] at R
      (refine lpK_n2 (⟨(j+1,true,upd g4 ((vwS p).getD n []) (a1r (lvl p g4) ((p.Rules.getD k default).Body.getD j default).Atom.Name+1)),by simp only;omega,R.1,R.2.1,R.2.2.1,fun h=>(by cases h),fun _=>R.2.2.2⟩) _ rfl ?_;simp only [go_sem,hS0,hS1,hll,hS2,hgm,hsm,hS3,hS4,hw]<;>repeat' first|apply V0|exact on'|fail)
     ·exfalso;omega
    ·rename_i hq;have hjl:j < (p.Rules.getD k default).Body.length:=by omega
     have hst:a3g p g4 ((vwS p).getD n []) ((p.Rules.getD k default).Body.getD j default):=c7V hL4.ge (.inl ⟨by simpa using hq,rfl⟩) hc;have h3:ag4=false->g4=g/\(∀ r∈p.Rules,r.Head.Name∈(vwS p).take n->a0E p g r)/\(∀ r∈p.Rules.take k,r.Head.Name=((vwS p).getD n [])->a0E p g r)/\∀ l∈(p.Rules.getD k default).Body.take (j+1),a3g p g ((vwS p).getD n []) l:=fun h=>by
      have h5:=hF4 h;refine ⟨h5.1,h5.2.1,h5.2.2.1,c7X hjl h5.2.2.2 ?_⟩;rw [<- h5.1];exact hst
     (refine lpK_n2 (⟨(j+1,ag4,g4),by simp only;omega,hL4,ho4,by simp only;omega,h3,hM4⟩) _ rfl ?_;simp only [go_sem,hS0,hS1,hll,hS2,hgm,hsm,hS3,hS4,hw]<;>repeat' first|apply V0|exact on'|fail)
    ·rename_i hq;have hjl:j < (p.Rules.getD k default).Body.length:=by omega
     have hlm:((p.Rules.getD k default).Body.getD j default)∈(p.Rules.getD k default).Body:=A3v hjl;have hkk:((p.Rules.getD k default).Body.getD j default).Kind≠3:=by simpa using hc.1
     have hx0:=c5J (x:=a1r (lvl p g4) ((p.Rules.getD k default).Body.getD j default).Atom.Name) hL4.ge (.inr ⟨hq,rfl⟩);have hh0:=hL4.ge ((vwS p).getD n []);have hc2:=hc.2;rcases hx0 with ⟨hvv,e⟩|⟨hvv,e⟩
     ·have hMM:a3h p g4<=a3h p g:=by
       cases hag4:ag4 with
       | true=>exact Nat.le_of_lt (hM4 hag4)
       | false=>rw [(hF4 hag4).1];exact q0C _
      have R:=a8S (j:=8 * k+j) hrm (by rw [hrh];exact hv) hlm hkk hvv hL4 (by rw [hrh];exact ho4) (by rw [hrh];exact hh4) (by omega) e (by rw [hrh];exact hc2) hMM;rw [hrh] at R
      (refine lpK_n2 (⟨(j+1,true,upd g4 ((vwS p).getD n []) (a1r (lvl p g4) ((p.Rules.getD k default).Body.getD j default).Atom.Name)),by simp only;omega,R.1,R.2.1,R.2.2.1,fun h=>(by cases h),fun _=>R.2.2.2⟩) _ rfl ?_;simp only [go_sem,hS0,hS1,hll,hS2,hgm,hsm,hS3,hS4,hw]<;>repeat' first|apply V0|exact on'|fail)
     ·exfalso;omega
    ·rename_i hq;have hjl:j < (p.Rules.getD k default).Body.length:=by omega
     have hst:a3g p g4 ((vwS p).getD n []) ((p.Rules.getD k default).Body.getD j default):=c7V hL4.ge (.inr ⟨hq,rfl⟩) hc;have h3:ag4=false->g4=g/\(∀ r∈p.Rules,r.Head.Name∈(vwS p).take n->a0E p g r)/\(∀ r∈p.Rules.take k,r.Head.Name=((vwS p).getD n [])->a0E p g r)/\∀ l∈(p.Rules.getD k default).Body.take (j+1),a3g p g ((vwS p).getD n []) l:=fun h=>by
      have h5:=hF4 h;refine ⟨h5.1,h5.2.1,h5.2.2.1,c7X hjl h5.2.2.2 ?_⟩;rw [<- h5.1];exact hst
     (refine lpK_n2 (⟨(j+1,ag4,g4),by simp only;omega,hL4,ho4,by simp only;omega,h3,hM4⟩) _ rfl ?_;simp only [go_sem,hS0,hS1,hll,hS2,hgm,hsm,hS3,hS4,hw]<;>repeat' first|apply V0|exact on'|fail)
    ·have h3:ag4=false->g4=g/\(∀ r∈p.Rules,r.Head.Name∈(vwS p).take n->a0E p g r)/\∀ r∈p.Rules.take (k+1),r.Head.Name=((vwS p).getD n [])->a0E p g r:=fun h=>by
      have h5:=hF4 h;refine ⟨h5.1,h5.2.1,fun r hr he=>?_⟩;rw [j4 default (by omega),W9,q0B] at hr;rcases hr with hr|rfl
      ·exact h5.2.2.1 r hr he
      ·intro _ l hl;rw [he];refine h5.2.2.2 l ?_;rw [i9 (by omega)];exact hl
     (refine lpK_n2 (⟨(k+1,ag4,g4),by simp only;omega,hL4,ho4,by simp only;omega,h3,hM4⟩) _ rfl ?_;simp only [go_sem,hS0,hS1,hll,hS2,hgm,hsm,hS3,hS4,hw]<;>repeat' first|apply V0|exact on'|fail)
   ·rw [c3D hL3 hv hc];exact ⟨rfl,rfl⟩
   ·have h1:∀ v∈vwS p,g3 v<=(vwS p).length:=fun v hv2=>by
     by_cases e:v=((vwS p).getD n [])
     ·rw [e];omega
     ·exact ho3 v hv2 e
    have h3:ag3=false->g3=g/\∀ r∈p.Rules,r.Head.Name∈(vwS p).take (n+1)->a0E p g r:=fun h=>by
     have h5:=hF3 h;refine ⟨h5.1,fun r hr he=>?_⟩;rw [j4 [] (by omega),W9,q0B] at he;rcases he with he|he
     ·exact h5.2.1 r hr he
     ·exact h5.2.2 r (by rw [i9 (by omega)];exact hr) he
    (refine lpK_n2 (⟨(n+1,ag3,g3),by simp only;omega,hL3,h1,h3,hM3⟩) _ rfl ?_;simp only [go_sem,hS0,hS1,hll,hS2,hgm,hsm,hS3]<;>repeat' first|apply V0|exact on'|fail)
  ·have h3:ag2=false->Fx p g2:=fun h=>by
    have h5:=hF2 h;rw [i9 (by omega)] at h5;rw [h5.1];intro r hr hv2;exact h5.2 r hr hv2 hv2
   have hmm:ag2=false->g2=g:=fun h=>(hF2 h).1
   (refine lpK_n2 (⟨(ag2,g2),hL2,hle2,h3⟩) _ rfl ?_;simp only [go_sem,hS0,hS1,hll,hS2]<;>repeat' first|apply V0|exact on'|fail)
   cases hag2:ag2 with
   | false=>rw [hmm hag2,hag];simp only [W8,V1];omega
   | true=>have:=hM2 hag2;rw [hag];simp only [W8];omega
 ·rw [c0t hN ⟨hF hc,hL,hle⟩];exact ⟨rfl,rfl⟩
noncomputable def a5n:CT:=k6 (fun (x:c4)=>c2I x)
@[go_sem] def d4D:=fun x0 x1=>nm' (fQ' a5n rfl ⟨x0,x1⟩)
noncomputable def v6 (p:c4):Bool:=(j3 p).2&&a1A p==-1
def a3K {p:c4} (h:(j3 p).2=true):((l7 p).1==0)=true:=by
 cases e:((l7 p).1==0) with
 | true=>rfl
 | false=>rw [j3,e,V1] at h;exact h
def t7 {p:c4} (h:v6 p=true):((l7 p).1==0)=true:=by
 rw [v6,W3] at h;exact a3K h.1
def c7M (p:c4):spZ 131 [(true,[n7 p.Decls,m8 p.Rules])] [] (.one (false,[.b (v6 p)])):=by
 refine sy' Tryz.func131 (q' 0 [ax (o' 1 (.box 2 (.t 0))),ab 2 false] (q' 6 [ae 2 1,ac 200 [6],aV 5,ao (.ext (.t 5) 0),ao (.ext (.t 5) 1),av 3 8,aV 4] (q' 10 [aM [4,10],au (.ld true 2 (.t 1)) 11 true,au (.call 201 [.t 12]) 11 true,au (.bin .eql (.t 13) (.k (.v false [.c (.i .i64 (-1))]))) 11 true,ao (.pick (.t 11) (.t 14) (bb false)),aV 2] .ret))) [.t 2] [(200,[],a4X),(201,[],a5A)] ?_;intro hb hE;simp only [go_sem];repeat' first|apply cj'|intro hc|exact om'|fail
 all_goals (first|rfl)
noncomputable def b4R:CT:=k6 (fun (x:c4)=>c7M x)
@[go_sem] def d7j:=fun x0 x1=>nm' (fQ' b4R rfl ⟨x0,x1⟩)
def c7S (p:c4):spZ 124 [(true,[n7 p.Decls,m8 p.Rules])] [] (.one (false,[.b (v6 p)])):=by
 refine sy' Tryz.func124 (q' 0 [ax (o' 1 (.box 2 (.t 0))),ab 2 false] (q' 8 [ae 2 1,ac 196 [8],aV 7,ao (.ext (.t 7) 0),ao (.ext (.t 7) 1),av 3 10,aV 4] (q' 13 [ae 2 1,ac 127 [13],aV 12,ao (.ext (.t 12) 0),ao (.ext (.t 12) 1),av 5 15,aV 6] (q' 17 [am 3,ao (.bin .eql (.t 17) (k' 0)),am 18,au (.ld true 2 (.t 1)) 19 true,au (.call 197 [.t 20]) 19 true,au (.bin .eql (.t 21) (.k (.v false [.c (.i .i64 (-1))]))) 19 true,ao (.pick (.t 19) (.t 22) (bb false)),am 23,au (.mov (.t 6)) 24 true,ao (.pick (.t 24) (.t 25) (bb false)),aV 2] .ret)))) [.t 2] [(196,[],a2h),(127,[],a5n),(197,[],a5L)] ?_;intro hb hE;simp only [go_sem];repeat' first|apply cj'|intro hc|exact om'|fail
 all_goals (first|(rw [v6];cases h1:((l7 p).1==0)<;>cases h2:(j3 p).2<;>cases h3:(a1A p==-1)<;>first|rfl|(rw [a3K h2] at h1;cases h1)))
noncomputable def b4U:CT:=k6 (fun (x:c4)=>c7S x)
@[go_sem] def d7p:=fun x0 x1=>nm' (fQ' b4U rfl ⟨x0,x1⟩)
def a0p {α:Type} {l:List α} {i:Nat} (d:α) (h:i < l.length):l.drop i=l.getD i d::l.drop (i+1):=by
 rw [j8 d h];exact q3U h
def a0S (r:c9):Bool:=decide ((r.V.length:Int)<=6)&&r.V.all l6
def a1i:List d7->List d7->Int
 | [],[]=>0
 | [],_::_=>-1
 | _::_,[]=>1
 | x::a,y::b=>bif y8 x y then -1 else bif y8 y x then 1 else a1i a b
def a1H:List d7->List d7->Int
 | [],[]=>0
 | [],_::_=>-1
 | _::_,[]=>1
 | x::a,y::b=>if a0t x y=0 then a1H a b else a0t x y
def a8G (a b:c9):Int:=bif a0S a&&a0S b then a1i a.V b.V else 2
def a0N (r:f8) (i:Nat):Bool:=!((r.Rows.getD i default).V.length==r.Arity) || !a0S (r.Rows.getD i default) || decide (0 < i)&&!(a1i (r.Rows.getD (i - 1) default).V (r.Rows.getD i default).V==-1)
def a0n (r:f8):Bool:=decide (0<=r.Arity)&&decide (r.Arity<=6)&&decide ((r.Rows.length:Int)<=300)&&!a3G r.Rows.length (a0N r)
def a0P (l:List d6) (i:Nat):Bool:=!a0U (l.getD i default).Name || !a0n (l.getD i default).Rel || decide (0 < i)&&!Op.bytesLess (l.getD (i - 1) default).Name (l.getD i default).Name
def j9 (s:c8):Bool:=decide ((s.Rels.length:Int)<=24)&&!a3G s.Rels.length (a0P s.Rels)
def w8 (s:c8):Nat:=(s.Rels.map fun x=>x.Rel.Rows.length).sum
def a3b {α:Type} {l:List α} {i:Nat} (h:l.length<=i):l.drop i=[]:=q3R h
def d8m {a b:List d7} {i:Nat} (hi:i<=a.length) (hj:i<=b.length) (h:¬ (i < a.length/\i < b.length)):a1i (a.drop i) (b.drop i)=if a.length < b.length then -1 else if b.length < a.length then 1 else 0:=by
 by_cases h1:a.length < b.length
 ·rw [if_pos h1,a3b (show a.length<=i by omega),a0p (l:=b) default (by omega)];rfl
 ·rw [if_neg h1];by_cases h2:b.length < a.length
  ·rw [if_pos h2,a3b (show b.length<=i by omega),a0p (l:=a) default (by omega)];rfl
  ·rw [if_neg h2,a3b (show a.length<=i by omega),a3b (show b.length<=i by omega)];rfl
def b8y {a b:List d7} {i:Nat} (hi:i<=a.length) (hj:i<=b.length) (h:¬ (i < a.length/\i < b.length)):a1H (a.drop i) (b.drop i)=if a.length < b.length then -1 else if b.length < a.length then 1 else 0:=by
 by_cases h1:a.length < b.length
 ·rw [if_pos h1,a3b (show a.length<=i by omega),a0p (l:=b) default (by omega)];rfl
 ·rw [if_neg h1];by_cases h2:b.length < a.length
  ·rw [if_pos h2,a3b (show b.length<=i by omega),a0p (l:=a) default (by omega)];rfl
  ·rw [if_neg h2,a3b (show a.length<=i by omega),a3b (show b.length<=i by omega)];rfl
def b2B:∀ {a b:List d7},(∀ x∈a,l6 x=true)->(∀ x∈b,l6 x=true)->sgn (a1H a b)=a1i a b
 | [],[],_,_=>by decide
 | [],_::_,_,_=>by simp only [a1H,a1i];decide
 | _::_,[],_,_=>by simp only [a1H,a1i];decide
 | x::a,y::b,ha,hb=>by
   have h:=b5h (ha x (by simp)) (hb y (by simp));have ih:=b2B (a:=a) (b:=b) (fun z hz=>ha z (by simp [hz])) (fun z hz=>hb z (by simp [hz]));rw [a1H,a1i];unfold a9m at h;split
   ·rename_i h0;rw [h0] at h;cases h1:y8 x y with
    | true=>rw [h1,W8] at h;unfold sgn at h;omega
    | false=>
      cases h2:y8 y x with
      | true=>rw [h1,h2,W8,V1] at h;unfold sgn at h;omega
      | false=>exact ih
   ·rename_i h0;cases h1:y8 x y with
    | true=>rw [h1] at h;exact h
    | false=>
      cases h2:y8 y x with
      | true=>rw [h1,h2] at h;exact h
      | false=>rw [h1,h2] at h;unfold sgn at h;simp only [V1] at h;omega
def c0i (a:d7) (b:d7):spZ 223 [(true,[.i .i64 a.N,.s a.S]),(true,[.i .i64 b.N,.s b.S])] [] (.one (false,[.b (y8 a b)])):=by
 refine sy' Tryz.func223 (q' 2 [ao (.box 2 (.t 0)),ao (.box 2 (.t 1)),ao (.mov (bb false))] (.seq (q' 5 [aG 1 2,ao (.bin .eql (.t 6) (.k (.v false [.c (.s [])]))),am 7,au (.fa 1 (.t 3)) 8 true,au (.ld false 1 (.t 9)) 8 true,au (.bin .eql (.t 10) (.k (.v false [.c (.s [])]))) 8 true,ao (.pick (.t 8) (.t 11) (bb false))] (.cond (.t 12) (q' 13 [aG 0 2,aG 0 3,ar 14 16,aV 4] .ret) .skip)) (q' 18 [aG 1 2,aG 1 3,ar 19 21,aV 4] .ret))) [.t 4] [] ?_;intro hb hE;simp only [go_sem];repeat' first|apply cj'|intro hc|exact om'|fail
 ·rw [y8,hc.1,hc.2];rfl
 ·rw [y8,hc];rfl
noncomputable def a4h:CT:=k6 (fun (x:d7×d7)=>c0i x.1 x.2)
@[go_sem] def d2p:=fun x0 x1 x2 x3=>nm' (fQ' a4h rfl (⟨x0,x1⟩,⟨x2,x3⟩))
def b6K (a:c9) (b:c9):spZ 161 [(true,[l9 a.V]),(true,[l9 b.V])] [] (.one (false,[.i .i64 (a1i a.V b.V)])):=by
 refine sy' Tryz.func161 (q' 2 [ao (.box 1 (.t 0)),ao (.box 1 (.t 1)),aK 0] (.seq (q' 5 [aK 0] (.block 0 (.loop (.seq (q' 6 [am 5,aG 0 2,aN,ar 6 9,am 10,au (.mov (.t 5)) 11 true,au (.fa 0 (.t 3)) 11 true,au (.ld false 1 (.t 13)) 11 true,au (.len (.t 14)) 11 true,au (.bin .lss (.t 12) (.t 15)) 11 true,ao (.pick (.t 11) (.t 16) (bb false))] (.cond (.t 17) .skip (.exit 0))) (.seq (.block 1 (.seq (.seq (G' 20 [aG 0 2,am 5,aI 2,aE 2,aG 0 3,am 5,aI 2,aE 2,ac 223 [24,29]]) (.cond (.t 30) (q' 4 [ao (.mov (.k (.v false [.c (.i .i64 (-1))])))] .ret) .skip)) (.seq (G' 31 [aG 0 3,am 5,aI 2,aE 2,aG 0 2,am 5,aI 2,aE 2,ac 223 [35,40]]) (.cond (.t 41) (q' 4 [aK 1] .ret) .skip)))) (g' 18 [aB 5])))))) (.seq (q' 42 [aG 0 2,aN,aG 0 3,aN,ar 44 47] (.cond (.t 48) (q' 4 [ao (.mov (.k (.v false [.c (.i .i64 (-1))])))] .ret) .skip)) (.seq (q' 49 [aG 0 2,aN,aG 0 3,aN,ao (.bin .gtr (.t 51) (.t 54))] (.cond (.t 55) (q' 4 [aK 1] .ret) .skip)) (q' 4 [aK 0] .ret))))) [.t 4] [(223,[],a4h)] ?_;intro hb hE;simp only [go_sem];repeat' first|apply cj'|intro hc|exact om'|fail
 refine lq' false [2,3] [4,6] [] (fun i:{i:Nat // i<=a.V.length/\i<=b.V.length/\a1i (a.V.drop i) (b.V.drop i)=a1i a.V b.V}=>[(5,slV (.i .i64 i.1))]) nl' nl' (fun i=>a.V.length - i.1) (⟨0,by simp⟩) ?_;intro S0 hS0 i;obtain ⟨i,hi,hj,he⟩:=i;simp only [go_sem,hS0];repeat' first|apply cj'|intro hc|exact om'|fail
 ·rw [<- he,a0p (l:=a.V) default (by omega),a0p (l:=b.V) default (by omega),a1i,hc];rfl
 ·rename_i h1;rw [<- he,a0p (l:=a.V) default (by omega),a0p (l:=b.V) default (by omega),a1i,h1,hc];rfl
 ·rename_i h1;have h2:=he;rw [a0p (l:=a.V) default (by omega),a0p (l:=b.V) default (by omega),a1i,h1,hc] at h2;exact nx0 ⟨i+1,by omega,by omega,h2⟩
 all_goals have q:(decide ((i:Int) < a.V.length)&&decide ((i:Int) < b.V.length))=false:=by assumption
 all_goals rw [q3V,q1M,q1M] at q
 all_goals rw [<- he,d8m hi hj (by omega)]
 ·rw [if_pos (by omega)]
 ·rw [if_neg (by omega),if_pos (by omega)]
 ·rw [if_neg (by omega),if_neg (by omega)]
noncomputable def a3s:CT:=k6 (fun (x:c9×c9)=>b6K x.1 x.2)
@[go_sem] def d0t:=fun x0 x1=>nm' (fQ' a3s rfl (⟨x0⟩,⟨x1⟩))
def c5E (r:c9):spZ 216 [(true,[l9 r.V])] [] (.one (false,[.b (a0S r)])):=by
 refine sy' Tryz.func216 (q' 0 [ax (o' 1 (.box 1 (.t 0))),ab 2 false] (.seq (q' 5 [aG 0 1,aN,ao (.bin .gtr (.t 7) (k' 6))] (.cond (.t 8) (q' 0 [ab 2 false] .ret) .skip)) (.seq (q' 9 [aG 0 1,aN,aK 0] (.block 0 (.loop (q' 13 [ar 12 11] (.seq (.cond (.t 13) .skip (.exit 0)) (.seq (.block 1 (q' 14 [ai 2 10 12,aE 2,ax (w' 4 [.i .i64,.s]),aS 2 4 15] (q' 16 [ae 2 4,ac 280 [16],ao (.not (.t 17))] (.cond (.t 18) (q' 0 [ab 2 false] .ret) .skip)))) (g' 19 [aA 12]))))))) (q' 0 [ab 2 true] .ret)))) [.t 2] [(280,[],a1k)] ?_;intro hb hE;simp only [go_sem];repeat' first|apply cj'|intro hc|exact om'|fail
 ·rw [a0S,V6 (by omega)];rfl
 have h6:((r.V.length:Int))<=6:=by omega
 refine lq' false [10,11] [] [] (fun i:{i:Nat // i<=r.V.length/\(r.V.take i).all l6=true}=>[(12,slV (.i .i64 i.1))]) nl' nl' (fun i=>r.V.length - i.1) (⟨0,by simp⟩) ?_;intro S0 hS0 i;obtain ⟨i,hi,ha⟩:=i;simp only [go_sem,hS0];repeat' first|apply cj'|intro hc|exact om'|fail
 ·rw [a0S,all_false (d:=default) (i:=i) (by omega) hc,q2Y]
 ·exact nx0 ⟨i+1,by omega,y5 default (by omega) ha hc⟩
 ·rw [i9 (by omega)] at ha;rw [a0S,ha,V4 h6];rfl
noncomputable def a6r:CT:=k6 (fun (x:c9)=>c5E x)
@[go_sem] def d6o:=fun x0=>nm' (fQ' a6r rfl ⟨x0⟩)
def b9t (v:d7):spZ 232 [(true,[.i .i64 v.N,.s v.S])] [] (.one (false,[.b (!l6 v)])):=by
 refine sy' Tryz.func232 (q' 0 [ax (o' 1 (.box 2 (.t 0))),ab 2 false] (q' 3 [ae 2 1,ac 229 [3],ao (.not (.t 4)),aV 2] .ret)) [.t 2] [(229,[],a2c)] ?_;intro hb hE;simp only [go_sem];repeat' first|apply cj'|intro hc|exact om'|fail
noncomputable def a7L:CT:=k6 (fun (x:d7)=>b9t x)
@[go_sem] def d1z:=fun x0 x1=>nm' (fQ' a7L rfl ⟨x0,x1⟩)
def d1d (l:List d7):spZ 294 [(false,[l9 l]),(false,[.f 232 []])] [] (.one (false,[.i .i64 (a1f (fun y=>!l6 y) l)])):=by
 refine sy' Tryz.func294 (q' 4 [aK 0] (.seq (q' 6 [am 0,aN,aK 0] (.block 0 (.loop (q' 9 [ar 8 7] (.seq (.cond (.t 9) .skip (.exit 0)) (.seq (.block 1 (q' 10 [am 8,aV 5] (q' 11 [aM [1,0,5],aI 2,aE 2,ao (.callv (.t 11) [.t 15])] (.cond (.t 16) (q' 17 [am 5,aV 4] .ret) .skip)))) (g' 18 [aA 8]))))))) (q' 4 [ao (.mov (.k (.v false [.c (.i .i64 (-1))])))] .ret))) [.t 4] [(232,[],a7L)] ?_;intro hb hE;simp only [go_sem];repeat' first|apply cj'|intro hc|exact om'|fail
 refine lq' false [0,1,7] [] [] (fun i:{i:Nat // i<=l.length/\(l.take i).any (fun y=>!l6 y)=false}=>[(8,slV (.i .i64 i.1))]) nl' nl' (fun i=>l.length - i.1) (⟨0,by simp⟩) ?_;intro S0 hS0 i;obtain ⟨i,hi,ha⟩:=i;simp only [go_sem,hS0];repeat' first|apply cj'|intro hc|exact om'|fail
 ·exact (y3 (p:=fun y=>!l6 y) (d:=default) (by omega) ha (by simpa [-List.getD_eq_getElem?_getD] using hc)).symm
 ·exact nx0 ⟨i+1,by omega,u3 (p:=fun y=>!l6 y) default (by omega) ha (by simpa [-List.getD_eq_getElem?_getD] using hc)⟩
 ·exact (w9 (by rwa [i9 (by omega)] at ha)).symm
noncomputable def b8M:CT:=k6 (fun (x:(List d7))=>d1d x)
@[go_sem] def d8K:=fun l=>nm' (fQ' b8M rfl l)
def d1c (l:List d7):spZ 231 [(false,[l9 l]),(false,[.f 232 []])] [] (.one (false,[.b (l.any (fun y=>!l6 y))])):=by
 refine sy' Tryz.func231 (q' 0 [ab 4 false] (q' 5 [aM [0,1],ac 294 [5,6],ao (.bin .geq (.t 7) (k' 0)),aV 4] .ret)) [.t 4] [(294,[],b8M)] ?_;intro hb hE;simp only [go_sem];repeat' first|apply cj'|intro hc|exact om'|fail
 ·exact a0Y _ _
noncomputable def b8L:CT:=k6 (fun (x:(List d7))=>d1c x)
@[go_sem] def d8J:=fun l=>nm' (fQ' b8L rfl l)
def c5l (r:c9):spZ 179 [(true,[l9 r.V])] [] (.one (false,[.b (a0S r)])):=by
 refine sy' Tryz.func179 (q' 0 [ax (o' 1 (.box 1 (.t 0))),ab 2 false] (q' 3 [aG 0 1,aN,ao (.bin .leq (.t 5) (k' 6)),am 6,au (.fa 0 (.t 1)) 7 true,au (.ld false 1 (.t 8)) 7 true,au (.call 231 [.t 9,.k (.v false [.c (.f 232 [])])]) 7 true,au (.not (.t 10)) 7 true,ao (.pick (.t 7) (.t 11) (bb false)),aV 2] .ret)) [.t 2] [(231,[],b8L)] ?_;intro hb hE;simp only [go_sem];repeat' first|apply cj'|intro hc|exact om'|fail
 all_goals rw [a8I,q5G,a0S]
noncomputable def b1q:CT:=k6 (fun (x:c9)=>c5l x)
@[go_sem] def d5R:=fun x0=>nm' (fQ' b1q rfl ⟨x0⟩)
def d5c (a:List d7) (b:List d7):spZ 233 [(false,[l9 a]),(false,[l9 b]),(false,[.f 234 []])] [] (.one (false,[.i .i64 (a1H a b)])):=by
 refine sy' Tryz.func233 (q' 6 [aK 0] (.seq (q' 11 [am 0,aN,aK 0] (.block 0 (.loop (q' 14 [ar 13 12] (.seq (.cond (.t 14) .skip (.exit 0)) (.seq (.block 1 (q' 15 [am 13,ai 2 11 13,aE 2,ax (w' 8 [.i .i64,.s]),av 7 15,aS 2 8 17] (.seq (q' 18 [aM [7,1],aN,ao (.bin .geq (.t 18) (.t 20))] (.cond (.t 21) (q' 6 [aK 1] .ret) .skip)) (q' 22 [aM [1,7],aI 2,aE 2,ax (w' 9 [.i .i64,.s]),aS 2 9 25] (q' 26 [am 2,ae 2 8,ae 2 9,ao (.callv (.t 26) [.t 27,.t 28]),aV 10] (q' 30 [am 10,ao (.bin .neq (.t 30) (k' 0))] (.cond (.t 31) (q' 32 [am 10,aV 6] .ret) .skip))))))) (g' 33 [aA 13]))))))) (.seq (q' 34 [am 0,aN,am 1,aN,ar 35 37] (.cond (.t 38) (q' 6 [ao (.mov (.k (.v false [.c (.i .i64 (-1))])))] .ret) .skip)) (q' 6 [aK 0] .ret)))) [.t 6] [(234,[],a2e)] ?_;intro hb hE;simp only [go_sem];repeat' first|apply cj'|intro hc|exact om'|fail
 refine lq' false [0,1,2,11,12] [] [] (fun i:{i:Nat // i<=a.length/\i<=b.length/\a1H (a.drop i) (b.drop i)=a1H a b}=>[(13,slV (.i .i64 i.1))]) nl' nl' (fun i=>a.length - i.1) (⟨0,by simp⟩) ?_;intro S0 hS0 i;obtain ⟨i,hi,hj,he⟩:=i;simp only [go_sem,hS0];repeat' first|apply cj'|intro hc|exact om'|fail
 ·rw [<- he,b8y hi hj (by omega),if_neg (by omega),if_pos (by omega)]
 ·rw [<- he,a0p (l:=a) default (by omega),a0p (l:=b) default (by omega),a1H,if_neg (by simpa using hc)]
 ·have h2:=he;rw [a0p (l:=a) default (by omega),a0p (l:=b) default (by omega),a1H,if_pos (by simpa using hc)] at h2;exact nx0 ⟨i+1,by omega,by omega,h2⟩
 ·rw [<- he,b8y hi hj (by omega),if_pos (by omega)]
 ·rw [<- he,b8y hi hj (by omega),if_neg (by omega),if_neg (by omega)]
noncomputable def c3h:CT:=k6 (fun (x:(List d7)×(List d7))=>d5c x.1 x.2)
@[go_sem] def d8P:=fun a b=>nm' (fQ' c3h rfl (a,b))
def b2c (a:c9) (b:c9):spZ 180 [(true,[l9 a.V]),(true,[l9 b.V])] [] (.one (false,[.i .i64 (a1H a.V b.V)])):=by
 refine sy' Tryz.func180 (q' 2 [ao (.box 1 (.t 0)),ao (.box 1 (.t 1)),aK 0] (q' 5 [aG 0 2,aG 0 3,ao (.call 233 [.t 6,.t 8,.k (.v false [.c (.f 234 [])])]),aV 4] .ret)) [.t 4] [(233,[],c3h)] ?_;intro hb hE;simp only [go_sem];repeat' first|apply cj'|intro hc|exact om'|fail
noncomputable def a6q:CT:=k6 (fun (x:c9×c9)=>b2c x.1 x.2)
@[go_sem] def d5V:=fun x0 x1=>nm' (fQ' a6q rfl (⟨x0⟩,⟨x1⟩))
def b6J (a:c9) (b:c9):spZ 217 [(true,[l9 a.V]),(true,[l9 b.V])] [] (.one (false,[.i .i64 (a8G a b)])):=by
 refine sy' Tryz.func217 (q' 2 [ao (.box 1 (.t 0)),ao (.box 1 (.t 1)),aK 0] (.seq (q' 5 [ae 1 2,ac 216 [5],ao (.not (.t 6)),am 7,au (.ld true 1 (.t 3)) 8 false,au (.call 216 [.t 9]) 8 false,au (.not (.t 10)) 8 false,ao (.pick (.t 8) (bb true) (.t 11))] (.cond (.t 12) (q' 4 [aK 2] .ret) .skip)) (q' 13 [ae 1 2,ae 1 3,ac 161 [13,14],aV 4] .ret))) [.t 4] [(216,[],a6r),(161,[],a3s)] ?_;intro hb hE;simp only [go_sem];repeat' first|apply cj'|intro hc|exact om'|fail
 ·rcases hc with h|h<;>simp [a8G,h]
 ·rw [a8G,hc.1,hc.2];rfl
noncomputable def a6Y:CT:=k6 (fun (x:c9×c9)=>b6J x.1 x.2)
@[go_sem] def d0s:=fun x0 x1=>nm' (fQ' a6Y rfl (⟨x0⟩,⟨x1⟩))
def a4A {n:Nat} {p:Nat->Bool} (h:a3G n p=false) {j:Nat} (hj:j < n):p j=false:=by
 simp only [a3G,q0S] at h;simpa using b8w h hj
def a0f {r:c9} (h:a0S r=true):∀ x∈r.V,l6 x=true:=by
 simp only [a0S,W3,q0I] at h;exact h.2
def a2I {r:f8} {i:Nat} (h:a0N r i=false):a0S (r.Rows.getD i default)=true:=by
 simp only [a0N,q1C,q0S] at h;exact h.1.2
def bRow_ge {a b:List d7} (ha:∀ x∈a,l6 x=true) (hb:∀ x∈b,l6 x=true):decide (0<=a1H a b)=!(a1i a b==-1):=by
 have h:=b2B ha hb;unfold sgn at h;rw [q3Q];simp only [q0A,q0Y,beq_eq_false_iff_ne];omega
def d5v {r:f8} {i:Nat} (ha:a3G i (a0N r)=false):(!a0S (r.Rows.getD i default) || !((r.Rows.getD i default).V.length==r.Arity) || (decide (0 < i)&&decide (0<=a1H (r.Rows.getD (i - 1) default).V (r.Rows.getD i default).V)))=a0N r i:=by
 rw [a0N];cases h:a0S (r.Rows.getD i default) with
 | false=>simp
 | true=>
   by_cases h0:0 < i
   ·rw [bRow_ge (a0f (a2I (a4A ha (show i - 1 < i by omega)))) (a0f h)];simp
   ·rw [V6 h0];simp
def c0G {r:f8} {i:Nat} (hi:i < r.Rows.length) (h:a0N r i=true):a0n r=false:=by
 rw [a0n,a2w hi h];simp
def c5D (r:f8):spZ 153 [(true,[.i .i64 r.Arity,y6 r.Rows])] [] (.one (false,[.b (a0n r)])):=by
 refine sy' Tryz.func153 (q' 0 [ax (o' 1 (.box 2 (.t 0))),ab 2 false] (.seq (q' 4 [aG 0 1,ao (.bin .lss (.t 5) (k' 0)),am 6,au (.fa 0 (.t 1)) 7 false,au (.ld false 1 (.t 8)) 7 false,au (.bin .gtr (.t 9) (k' 6)) 7 false,ao (.pick (.t 7) (bb true) (.t 10)),am 11,au (.fa 1 (.t 1)) 12 false,au (.ld false 1 (.t 13)) 12 false,au (.len (.t 14)) 12 false,au (.bin .gtr (.t 15) (k' 300)) 12 false,ao (.pick (.t 12) (bb true) (.t 16))] (.cond (.t 17) (q' 0 [ab 2 false] .ret) .skip)) (.seq (q' 18 [aG 1 1,aN,aK 0] (.block 0 (.loop (q' 22 [ar 21 20] (.seq (.cond (.t 22) .skip (.exit 0)) (.seq (.block 1 (q' 23 [am 21,aV 3] (.seq (.seq (G' 24 [aG 1 1,am 3,aI 1,aG 0 27,aN,aG 0 1,ao (.bin .neq (.t 30) (.t 32)),am 33,au (.fa 1 (.t 1)) 34 false,au (.ld false 1 (.t 35)) 34 false,au (.mov (.t 3)) 34 false,au (.ia 1 (.t 36) (.t 37)) 34 false,au (.ld true 1 (.t 38)) 34 false,au (.call 216 [.t 39]) 34 false,au (.not (.t 40)) 34 false,ao (.pick (.t 34) (bb true) (.t 41))]) (.cond (.t 42) (q' 0 [ab 2 false] .ret) .skip)) (.seq (G' 43 [am 3,ao (.bin .gtr (.t 43) (k' 0)),am 44,au (.fa 1 (.t 1)) 45 true,au (.ld false 1 (.t 46)) 45 true,au (.mov (.t 3)) 45 true,au (.bin .sub (.t 48) (k' 1)) 45 true,au (.ia 1 (.t 47) (.t 49)) 45 true,au (.ld true 1 (.t 50)) 45 true,au (.fa 1 (.t 1)) 45 true,au (.ld false 1 (.t 52)) 45 true,au (.mov (.t 3)) 45 true,au (.ia 1 (.t 53) (.t 54)) 45 true,au (.ld true 1 (.t 55)) 45 true,au (.call 217 [.t 51,.t 56]) 45 true,au (.bin .neq (.t 57) (.k (.v false [.c (.i .i64 (-1))]))) 45 true,ao (.pick (.t 45) (.t 58) (bb false))]) (.cond (.t 59) (q' 0 [ab 2 false] .ret) .skip))))) (g' 60 [aA 21]))))))) (q' 0 [ab 2 true] .ret)))) [.t 2] [(216,[],a6r),(217,[],a6Y)] ?_;intro hb hE;simp only [go_sem];repeat' first|apply cj'|intro hc|exact om'|fail
 ·rcases hc with (h|h)|h
  ·rw [a0n,V6 (show ¬ 0<=r.Arity by omega)];rfl
  ·rw [a0n,V6 (show ¬ r.Arity<=6 by omega)];simp
  ·rw [a0n,V6 (show ¬ (r.Rows.length:Int)<=300 by omega)];simp
 have hA:=hc;clear hc;refine lq' false [1,20] [2] [] (fun i:{i:Nat // i<=r.Rows.length/\a3G i (a0N r)=false}=>[(21,slV (.i .i64 i.1))]) nl' nl' (fun i=>r.Rows.length - i.1) (⟨0,by simp [a1R]⟩) ?_;intro S0 hS0 i;obtain ⟨i,hi,ha⟩:=i;have hw:0 < i->IntKind.i64.wrap ((i:Int) - 1)=((i - 1:Nat):Int):=fun h=>by rw [IntWalk.i64_in _ (by omega)];omega
 simp only [go_sem,hS0];repeat' first|apply cj'|intro hc|exact om'|fail
 ·have hq:a0N r i=true:=by
   rw [a0N];rcases hc with h|h
   ·simp only [bne] at h;rw [h];rfl
   ·rw [h];simp
  rw [c0G (by omega) hq]
 ·rename_i h1;have hq:a0N r i=true:=by
   rw [hw (by omega)] at hc;rw [a8G,h1.2,show ((i - 1:Nat):Int).toNat=i - 1 from rfl,a2I (a4A ha (show i - 1 < i by omega))] at hc;rw [a0N,V4 (show 0 < i by omega)];have h3:=hc.2;simp only [bne,q1W,W8] at h3;rw [h3];simp
  rw [c0G (by omega) hq]
 ·rename_i h1;have hq:a0N r i=false:=by
   have h2:=h1.1;simp only [bne] at h2;rw [a0N,h2,h1.2];by_cases h0:0 < i
   ·rw [hw h0,V4 (show (0:Int) < i by omega),a8G,h1.2,show ((i - 1:Nat):Int).toNat=i - 1 from rfl,a2I (a4A ha (show i - 1 < i by omega))] at hc;rw [V4 h0];exact hc
   ·rw [V6 h0];rfl
  exact nx0 ⟨i+1,by omega,a1y ha hq⟩
 ·obtain rfl:i=r.Rows.length:=by omega
  rw [a0n,ha,V4 (show 0<=r.Arity by omega),V4 (show r.Arity<=6 by omega),V4 (show (r.Rows.length:Int)<=300 by omega)];rfl
noncomputable def b1J:CT:=k6 (fun (x:f8)=>c5D x)
@[go_sem] def d6n:=fun x0 x1=>nm' (fQ' b1J rfl ⟨x0,x1⟩)
def c5k (r:f8):spZ 105 [(true,[.i .i64 r.Arity,y6 r.Rows])] [] (.one (false,[.b (a0n r)])):=by
 refine sy' Tryz.func105 (q' 0 [ax (o' 1 (.box 2 (.t 0))),ab 2 false] (.seq (q' 5 [aG 1 1,aN,aK 0] (.block 0 (.loop (q' 9 [ar 8 7] (.seq (.cond (.t 9) .skip (.exit 0)) (.seq (.block 1 (q' 10 [am 8,ai 1 6 8,aE 1,ax (w' 4 [.sl k9]),av 3 10,aS 1 4 12] (.seq (G' 13 [ae 1 4,ac 179 [13],ao (.not (.t 14)),am 15,au (.fa 0 (.t 4)) 16 false,au (.ld false 1 (.t 17)) 16 false,au (.len (.t 18)) 16 false,au (.fa 0 (.t 1)) 16 false,au (.ld false 1 (.t 20)) 16 false,au (.bin .neq (.t 19) (.t 21)) 16 false,ao (.pick (.t 16) (bb true) (.t 22)),am 23,au (.mov (.t 3)) 24 false,au (.bin .gtr (.t 25) (k' 0)) 24 false,au (.mov (.t 26)) 24 false,au (.fa 1 (.t 1)) 27 true,au (.ld false 1 (.t 28)) 27 true,au (.mov (.t 3)) 27 true,au (.bin .sub (.t 30) (k' 1)) 27 true,au (.ia 1 (.t 29) (.t 31)) 27 true,au (.ld true 1 (.t 32)) 27 true,au (.ld true 1 (.t 4)) 27 true,au (.call 180 [.t 33,.t 34]) 27 true,au (.bin .geq (.t 35) (k' 0)) 27 true,au (.pick (.t 27) (.t 36) (bb false)) 24 false,ao (.pick (.t 24) (bb true) (.t 37))]) (.cond (.t 38) (q' 0 [ab 2 false] .ret) .skip)))) (g' 39 [aA 8]))))))) (q' 40 [aG 0 1,ao (.call 181 [.t 41,.k (.v false [.c (.i .i64 6)])]),am 42,au (.fa 1 (.t 1)) 43 true,au (.ld false 1 (.t 44)) 43 true,au (.len (.t 45)) 43 true,au (.bin .leq (.t 46) (k' 300)) 43 true,ao (.pick (.t 43) (.t 47) (bb false)),aV 2] .ret))) [.t 2] [(179,[],b1q),(180,[],a6q),(181,[],a7X)] ?_;intro hb hE;simp only [go_sem];repeat' first|apply cj'|intro hc|exact om'|fail
 refine lq' false [1,6,7] [2] [] (fun i:{i:Nat // i<=r.Rows.length/\a3G i (a0N r)=false}=>[(8,slV (.i .i64 i.1))]) nl' nl' (fun i=>r.Rows.length - i.1) (⟨0,by simp [a1R]⟩) ?_;intro S0 hS0 i;obtain ⟨i,hi,ha⟩:=i;have hR:=d5v ha;have hw:0 < i->IntKind.i64.wrap ((i:Int) - 1)=((i - 1:Nat):Int):=fun h=>by rw [IntWalk.i64_in _ (by omega)];omega
 simp only [go_sem,hS0];repeat' first|apply cj'|intro hc|exact om'|fail
 ·have hq:a0N r i=true:=by
   rw [<- hR];rcases hc with (h|h)|⟨h0,h⟩
   ·rw [h];rfl
   ·simp only [bne] at h;rw [h];simp
   ·rw [hw (by omega)] at h;have h':0<=a1H (r.Rows.getD (i - 1) default).V (r.Rows.getD i default).V:=h;rw [V4 (show 0 < i by omega),V4 h'];simp
  rw [c0G (by omega) hq]
 ·have hq:a0N r i=false:=by
   rw [<- hR];obtain ⟨⟨h1,h2⟩,h3⟩:=hc;simp only [bne] at h2;rw [h1,h2];by_cases h0:0 < i
   ·rw [hw h0,V4 (show (0:Int) < i by omega)] at h3;rw [V4 h0];exact h3
   ·rw [V6 h0];rfl
  exact nx0 ⟨i+1,by omega,a1y ha hq⟩
 ·obtain rfl:i=r.Rows.length:=by omega
  rw [a0n,ha];simp
noncomputable def b1p:CT:=k6 (fun (x:f8)=>c5k x)
@[go_sem] def d5Q:=fun x0 x1=>nm' (fQ' b1p rfl ⟨x0,x1⟩)
def c3Q {s:c8} {i:Nat} (hi:i < s.Rels.length) (h:a0P s.Rels i=true):j9 s=false:=by
 rw [j9,a2w hi h];simp
def c0g (s:c8):spZ 88 [(true,[j5 s.Rels])] [] (.one (false,[.b (j9 s)])):=by
 refine sy' Tryz.func88 (q' 0 [ax (o' 1 (.box 1 (.t 0))),ab 2 false] (.seq (q' 4 [aG 0 1,aN,ao (.bin .gtr (.t 6) (k' 24))] (.cond (.t 7) (q' 0 [ab 2 false] .ret) .skip)) (.seq (q' 8 [aG 0 1,aN,aK 0] (.block 0 (.loop (q' 12 [ar 11 10] (.seq (.cond (.t 12) .skip (.exit 0)) (.seq (.block 1 (q' 13 [am 11,aV 3] (.seq (G' 14 [aG 0 1,am 3,aI 3,aG 0 17,ac 152 [19],ao (.not (.t 20)),am 21,au (.fa 0 (.t 1)) 22 false,au (.ld false 1 (.t 23)) 22 false,au (.mov (.t 3)) 22 false,au (.ia 3 (.t 24) (.t 25)) 22 false,au (.fa 1 (.t 26)) 22 false,au (.ld true 2 (.t 27)) 22 false,au (.call 153 [.t 28]) 22 false,au (.not (.t 29)) 22 false,ao (.pick (.t 22) (bb true) (.t 30)),am 31,au (.mov (.t 3)) 32 false,au (.bin .gtr (.t 33) (k' 0)) 32 false,au (.mov (.t 34)) 32 false,au (.fa 0 (.t 1)) 35 true,au (.ld false 1 (.t 36)) 35 true,au (.mov (.t 3)) 35 true,au (.bin .sub (.t 38) (k' 1)) 35 true,au (.ia 3 (.t 37) (.t 39)) 35 true,au (.fa 0 (.t 40)) 35 true,au (.ld false 1 (.t 41)) 35 true,au (.fa 0 (.t 1)) 35 true,au (.ld false 1 (.t 43)) 35 true,au (.mov (.t 3)) 35 true,au (.ia 3 (.t 44) (.t 45)) 35 true,au (.fa 0 (.t 46)) 35 true,au (.ld false 1 (.t 47)) 35 true,au (.bin .geq (.t 42) (.t 48)) 35 true,au (.pick (.t 35) (.t 49) (bb false)) 32 false,ao (.pick (.t 32) (bb true) (.t 50))]) (.cond (.t 51) (q' 0 [ab 2 false] .ret) .skip)))) (g' 52 [aA 11]))))))) (q' 0 [ab 2 true] .ret)))) [.t 2] [(152,[],a2Q),(153,[],b1J)] ?_;intro hb hE;simp only [go_sem];repeat' first|apply cj'|intro hc|exact om'|fail
 ·rw [j9,V6 (by omega)];rfl
 have hA:=hc;clear hc;refine lq' false [1,10] [2] [] (fun i:{i:Nat // i<=s.Rels.length/\a3G i (a0P s.Rels)=false}=>[(11,slV (.i .i64 i.1))]) nl' nl' (fun i=>s.Rels.length - i.1) (⟨0,by simp [a1R]⟩) ?_;intro S0 hS0 i;obtain ⟨i,hi,ha⟩:=i;have hw:0 < i->IntKind.i64.wrap ((i:Int) - 1)=((i - 1:Nat):Int):=fun h=>by rw [IntWalk.i64_in _ (by omega)];omega
 simp only [go_sem,hS0];repeat' first|apply cj'|intro hc|exact om'|fail
 ·have hq:a0P s.Rels i=true:=by
   rw [a0P];rcases hc with (h|h)|⟨h0,h⟩
   ·rw [h];rfl
   ·rw [h];simp
   ·rw [hw (by omega)] at h;have h':Op.bytesLess (s.Rels.getD (i - 1) default).Name (s.Rels.getD i default).Name=false:=h;rw [V4 (show 0 < i by omega),h'];simp
  rw [c3Q (by omega) hq]
 ·have hq:a0P s.Rels i=false:=by
   obtain ⟨⟨h1,h2⟩,h3⟩:=hc;rw [a0P,h1,h2];by_cases h0:0 < i
   ·rw [hw h0,V4 (show (0:Int) < i by omega)] at h3;rw [V4 h0];exact h3
   ·rw [V6 h0];rfl
  exact nx0 ⟨i+1,by omega,a1y ha hq⟩
 ·obtain rfl:i=s.Rels.length:=by omega
  rw [j9,ha,V4 (show (s.Rels.length:Int)<=24 by omega)];rfl
noncomputable def a8q:CT:=k6 (fun (x:c8)=>c0g x)
@[go_sem] def d2n:=fun x0=>nm' (fQ' a8q rfl ⟨x0⟩)
def b9v (s:c8):spZ 47 [(true,[j5 s.Rels])] [] (.one (false,[.b (j9 s)])):=by
 refine sy' Tryz.func47 (q' 0 [ax (o' 1 (.box 1 (.t 0))),ab 2 false] (.seq (q' 5 [aG 0 1,aN,aK 0] (.block 0 (.loop (q' 9 [ar 8 7] (.seq (.cond (.t 9) .skip (.exit 0)) (.seq (.block 1 (q' 10 [am 8,ai 3 6 8,aE 3,ax (w' 4 [.s,.i .i64,.sl n0]),av 3 10,aS 3 4 12] (.seq (G' 13 [aG 0 4,ac 104 [14],ao (.not (.t 15)),am 16,au (.fa 1 (.t 4)) 17 false,au (.ld true 2 (.t 18)) 17 false,au (.call 105 [.t 19]) 17 false,au (.not (.t 20)) 17 false,ao (.pick (.t 17) (bb true) (.t 21)),am 22,au (.mov (.t 3)) 23 false,au (.bin .gtr (.t 24) (k' 0)) 23 false,au (.mov (.t 25)) 23 false,au (.fa 0 (.t 1)) 26 true,au (.ld false 1 (.t 27)) 26 true,au (.mov (.t 3)) 26 true,au (.bin .sub (.t 29) (k' 1)) 26 true,au (.ia 3 (.t 28) (.t 30)) 26 true,au (.fa 0 (.t 31)) 26 true,au (.ld false 1 (.t 32)) 26 true,au (.fa 0 (.t 4)) 26 true,au (.ld false 1 (.t 34)) 26 true,au (.bin .geq (.t 33) (.t 35)) 26 true,au (.pick (.t 26) (.t 36) (bb false)) 23 false,ao (.pick (.t 23) (bb true) (.t 37))]) (.cond (.t 38) (q' 0 [ab 2 false] .ret) .skip)))) (g' 39 [aA 8]))))))) (q' 40 [aG 0 1,aN,ao (.bin .leq (.t 42) (k' 24)),aV 2] .ret))) [.t 2] [(104,[],a2O),(105,[],b1p)] ?_;intro hb hE;simp only [go_sem];repeat' first|apply cj'|intro hc|exact om'|fail
 refine lq' false [1,6,7] [2] [] (fun i:{i:Nat // i<=s.Rels.length/\a3G i (a0P s.Rels)=false}=>[(8,slV (.i .i64 i.1))]) nl' nl' (fun i=>s.Rels.length - i.1) (⟨0,by simp [a1R]⟩) ?_;intro S0 hS0 i;obtain ⟨i,hi,ha⟩:=i;have hw:0 < i->IntKind.i64.wrap ((i:Int) - 1)=((i - 1:Nat):Int):=fun h=>by rw [IntWalk.i64_in _ (by omega)];omega
 simp only [go_sem,hS0];repeat' first|apply cj'|intro hc|exact om'|fail
 ·have hq:a0P s.Rels i=true:=by
   rw [a0P];rcases hc with (h|h)|⟨h0,h⟩
   ·rw [h];rfl
   ·rw [h];simp
   ·rw [hw (by omega)] at h;have h':Op.bytesLess (s.Rels.getD (i - 1) default).Name (s.Rels.getD i default).Name=false:=h;rw [V4 (show 0 < i by omega),h'];simp
  rw [c3Q (by omega) hq]
 ·have hq:a0P s.Rels i=false:=by
   obtain ⟨⟨h1,h2⟩,h3⟩:=hc;rw [a0P,h1,h2];by_cases h0:0 < i
   ·rw [hw h0,V4 (show (0:Int) < i by omega)] at h3;rw [V4 h0];exact h3
   ·rw [V6 h0];rfl
  exact nx0 ⟨i+1,by omega,a1y ha hq⟩
 ·obtain rfl:i=s.Rels.length:=by omega
  rw [j9,ha,q3J,q1I]
noncomputable def a7N:CT:=k6 (fun (x:c8)=>b9v x)
@[go_sem] def d1B:=fun x0=>nm' (fQ' a7N rfl ⟨x0⟩)
def d8v {α:Type} {f:α->Nat} {k:Nat}:∀ {l:List α},(∀ x∈l,f x<=k)->(l.map f).sum<=k * l.length
 | [],_=>by simp
 | x::l,h=>by
   have:=d8v (l:=l) fun y hy=>h y (by simp [hy])
   have:=h x (by simp);simp only [q0F,List.sum_cons,V8,Nat.mul_succ];omega
def a6e {r:f8} (h:a0n r=true):r.Rows.length<=300:=by
 simp only [a0n,W3,q0A] at h;omega
def a4R {s:c8} (h:j9 s=true):s.Rels.length<=24:=by
 simp only [j9,W3,q0A] at h;omega
def a3m {s:c8} (h:j9 s=true):∀ x∈s.Rels,a0n x.Rel=true:=by
 intro x hx;obtain ⟨i,hi,rfl⟩:=q1L hx;simp only [j9,W3,q0Y] at h;have:=a4A h.2 hi;simp only [a0P,q1C,q0S,j8 default hi] at this;exact this.1.2
def b2A (s:c8) (i:Nat):Nat:=((s.Rels.take i).map fun x=>x.Rel.Rows.length).sum
def c0J {s:c8} (h:j9 s=true) {i:Nat} (hi:i<=s.Rels.length):b2A s i<=7200:=by
 have h1:=a4R h;have h2:=d8v (f:=fun x:d6=>x.Rel.Rows.length) (k:=300) (l:=s.Rels.take i) fun x hx=>a6e (a3m h x (q1O hx))
 rw [V2] at h2;unfold b2A;omega
def c0K {s:c8} {i:Nat} (hi:i < s.Rels.length):b2A s (i+1)=b2A s i+(s.Rels.getD i default).Rel.Rows.length:=by
 unfold b2A;rw [j4 default hi,q1J,List.sum_append];simp
def b4z {s:c8} {i:Nat} (hi:¬ i < s.Rels.length):b2A s i=w8 s:=by
 unfold b2A w8;rw [i9 hi]
def c0q (s:c8) (hpre:j9 s=true):spZ 129 [(true,[j5 s.Rels])] [] (.one (false,[.i .i64 (w8 s:Nat)])):=by
 refine sy' Tryz.func129 (q' 1 [ao (.box 1 (.t 0)),aK 0] (q' 3 [aK 0] (.seq (q' 5 [aG 0 1,aN,aK 0] (.block 0 (.loop (q' 9 [ar 8 7] (.seq (.cond (.t 9) .skip (.exit 0)) (.seq (.block 1 (q' 10 [am 8,aV 4] (g' 11 [am 3,aG 0 1,am 4,aI 3,aF 1,aG 1 16,aN,ao (.bin .add (.t 11) (.t 19)),aV 3]))) (g' 21 [aA 8]))))))) (q' 22 [am 3,aV 2] .ret)))) [.t 2] [] ?_;intro hb hE;simp only [go_sem];repeat' first|apply cj'|intro hc|exact om'|fail
 refine lq' false [1,7] [2] [] (fun i:{i:Nat // i<=s.Rels.length}=>[(3,slV (.i .i64 (b2A s i.1:Nat))),(8,slV (.i .i64 i.1))]) nl' nl' (fun i=>s.Rels.length - i.1) (⟨0,by simp⟩) ?_;intro S0 hS0 i;obtain ⟨i,hi⟩:=i;simp only [go_sem,hS0];repeat' first|apply cj'|intro hc|exact om'|fail
 ·have h1:=c0K (s:=s) (i:=i) (by omega);have h2:=c0J hpre (i:=i+1) (by omega);exact nx0 ⟨i+1,by omega⟩
 ·rw [b4z (by omega)]
noncomputable def a8u:CT:=l8 (fun (x:c8) h=>c0q x h)
@[go_sem] def d2w:=fun x0=>nm' (fP' a8u rfl ⟨x0⟩)
def b3W (s:c8) (hpre:j9 s=true):spZ 205 [(true,[j5 s.Rels])] [] (.one (false,[.i .i64 (w8 s:Nat)])):=by
 refine sy' Tryz.func205 (q' 1 [ao (.box 1 (.t 0)),aK 0] (q' 3 [aK 0] (.seq (q' 6 [aG 0 1,aN,aK 0] (.block 0 (.loop (q' 10 [ar 9 8] (.seq (.cond (.t 10) .skip (.exit 0)) (.seq (.block 1 (q' 11 [ai 3 7 9,aE 3,ax (w' 5 [.s,.i .i64,.sl n0]),aS 3 5 12] (g' 13 [am 3,af 1 5,aG 1 14,aN,ao (.bin .add (.t 13) (.t 17)),aV 3]))) (g' 19 [aA 9]))))))) (q' 20 [am 3,aV 2] .ret)))) [.t 2] [] ?_;intro hb hE;simp only [go_sem];repeat' first|apply cj'|intro hc|exact om'|fail
 refine lq' false [7,8] [] [] (fun i:{i:Nat // i<=s.Rels.length}=>[(3,slV (.i .i64 (b2A s i.1:Nat))),(9,slV (.i .i64 i.1))]) nl' nl' (fun i=>s.Rels.length - i.1) (⟨0,by simp⟩) ?_;intro S0 hS0 i;obtain ⟨i,hi⟩:=i;simp only [go_sem,hS0];repeat' first|apply cj'|intro hc|exact om'|fail
 ·have h1:=c0K (s:=s) (i:=i) (by omega);have h2:=c0J hpre (i:=i+1) (by omega);exact nx0 ⟨i+1,by omega⟩
 ·rw [b4z (by omega)]
noncomputable def a5C:CT:=l8 (fun (x:c8) h=>b3W x h)
@[go_sem] def c8L:=fun x0=>nm' (fP' a5C rfl ⟨x0⟩)
def v9 (s:c8) (n:List UInt8):f8×Bool:=if 0<=a1f (fun x:d6=>x.Name==n) s.Rels then ((s.Rels.getD (a1f (fun x:d6=>x.Name==n) s.Rels).toNat default).Rel,true) else (⟨0,[]⟩,false)
def c0F {s:c8} {n:List UInt8} {i:Nat} (hi:i < s.Rels.length) (ha:(s.Rels.take i).any (fun x=>x.Name==n)=false) (h:((s.Rels.getD i default).Name==n)=true):v9 s n=((s.Rels.getD i default).Rel,true):=by
 rw [v9,y3 (p:=fun x:d6=>x.Name==n) default hi ha h,if_pos (by omega)];rfl
def c0E {s:c8} {n:List UInt8} (ha:s.Rels.any (fun x=>x.Name==n)=false):v9 s n=(⟨0,[]⟩,false):=by
 rw [v9,w9 ha,if_neg (by decide)]
def c2O (s:c8) (n:List UInt8):spZ 154 [(true,[j5 s.Rels]),(false,[.s n])] [] (.tup [(true,[.i .i64 (((v9 s n).1).Arity),y6 (((v9 s n).1).Rows)]),(false,[.b ((v9 s n).2)])]):=by
 refine sx' false true none Tryz.func154 (q' 2 [ao (.box 1 (.t 0)),ax (w' 4 [.i .i64,.sl n0]),ab 5 false] (.seq (q' 7 [aG 0 2,aN,aK 0] (.block 0 (.loop (q' 11 [ar 10 9] (.seq (.cond (.t 11) .skip (.exit 0)) (.seq (.block 1 (q' 12 [am 10,aV 6] (q' 13 [aG 0 2,am 6,aI 3,aG 0 16,am 1,ao (.bin .eql (.t 18) (.t 19))] (.cond (.t 20) (q' 21 [aG 0 2,am 6,aI 3,aF 1,aE 2,aS 2 4 26,ab 5 true] .ret) .skip)))) (g' 27 [aA 10]))))))) (q' 28 [ao (.bld [.i .i64,.sl n0] []),aS 2 4 28,ab 5 false] .ret))) [.c 4 true 2,.t 5] [] ?_;intro hb hE;simp only [go_sem];repeat' first|apply cj'|intro hc|exact om'|fail
 refine lq' false [1,2,4,9] [4] [] (fun i:{i:Nat // i<=s.Rels.length/\(s.Rels.take i).any (fun x=>x.Name==n)=false}=>[(10,slV (.i .i64 i.1))]) (fun i=>[(8,[.c (.i .i64 0),.nl n0])]) nl' (fun i=>s.Rels.length - i.1) (⟨0,by simp⟩) ?_;intro S0 hS0 i;obtain ⟨i,hi,ha⟩:=i;simp only [go_sem,hS0];repeat' first|apply cj'|intro hc|exact om'|fail
 ·rw [c0F (by omega) ha hc];exact ⟨⟨rfl,rfl⟩,rfl⟩
 ·exact nx0 ⟨i+1,by omega,u3 (p:=fun x:d6=>x.Name==n) default (by omega) ha hc⟩
 ·rw [i9 (by omega)] at ha;rw [c0E ha];exact ⟨⟨rfl,rfl⟩,rfl⟩
noncomputable def a2S:CT:=k6 (fun (x:c8×(List UInt8))=>c2O x.1 x.2)
@[go_sem] def d4K:=fun x0 n=>nm' (fQ' a2S rfl (⟨x0⟩,n))
def c5r (s:c8) (n:List UInt8):spZ 235 [(true,[j5 s.Rels]),(false,[.s n])] [] (.tup [(true,[.i .i64 (((v9 s n).1).Arity),y6 (((v9 s n).1).Rows)]),(false,[.b ((v9 s n).2)])]):=by
 refine sx' false true none Tryz.func235 (q' 2 [ao (.box 1 (.t 0)),ax (w' 4 [.i .i64,.sl n0]),ab 5 false] (.seq (q' 8 [aG 0 2,aN,aK 0] (.block 0 (.loop (q' 12 [ar 11 10] (.seq (.cond (.t 12) .skip (.exit 0)) (.seq (.block 1 (q' 13 [ai 3 9 11,aE 3,ax (w' 7 [.s,.i .i64,.sl n0]),aS 3 7 14] (q' 15 [aG 0 7,am 1,ao (.bin .eql (.t 16) (.t 17))] (.cond (.t 18) (q' 19 [af 1 7,aE 2,aS 2 4 20,ab 5 true] .ret) .skip)))) (g' 21 [aA 11]))))))) (q' 22 [ao (.bld [.i .i64,.sl n0] []),aS 2 4 22,ab 5 false] .ret))) [.c 4 true 2,.t 5] [] ?_;intro hb hE;simp only [go_sem];repeat' first|apply cj'|intro hc|exact om'|fail
 refine lq' false [1,4,9,10] [] [] (fun i:{i:Nat // i<=s.Rels.length/\(s.Rels.take i).any (fun x=>x.Name==n)=false}=>[(11,slV (.i .i64 i.1))]) (fun i=>[(8,[.c (.i .i64 0),.nl n0])]) nl' (fun i=>s.Rels.length - i.1) (⟨0,by simp⟩) ?_;intro S0 hS0 i;obtain ⟨i,hi,ha⟩:=i;simp only [go_sem,hS0];repeat' first|apply cj'|intro hc|exact om'|fail
 ·rw [c0F (by omega) ha hc];exact ⟨⟨rfl,rfl⟩,rfl⟩
 ·exact nx0 ⟨i+1,by omega,u3 (p:=fun x:d6=>x.Name==n) default (by omega) ha hc⟩
 ·rw [i9 (by omega)] at ha;rw [c0E ha];exact ⟨⟨rfl,rfl⟩,rfl⟩
noncomputable def a3I:CT:=k6 (fun (x:c8×(List UInt8))=>c5r x.1 x.2)
@[go_sem] def d6a:=fun x0 n=>nm' (fQ' a3I rfl (⟨x0⟩,n))
def vNe (a b:List d7) (i:Nat):Bool:=!vEq (a.getD i default) (b.getD i default)
def a2q (a b:List d7):Bool:=decide (a.length=b.length)&&!a3G a.length (vNe a b)
def d8x {a b:d7} (h:vEq a b=true):a=b:=by
 obtain ⟨n,s⟩:=a;obtain ⟨m,r⟩:=b;simp only [vEq,W3,beq_iff_eq] at h;rw [h.1,h.2]
def vEq_rfl (a:d7):vEq a a=true:=by simp [vEq]
def b5g (a b:List d7):a2q a b=decide (a=b):=by
 rw [q3Q,q0A];constructor
 ·intro h;simp only [a2q,W3,q0A,q0Y] at h;refine q4J h.1 fun i h1 h2=>?_
  have:=a4A h.2 h1;simp only [vNe,q0S,j8 default h1,j8 default h2] at this;exact d8x this
 ·rintro rfl;rw [a2q,V4 rfl,q0Q,q0Y];cases h:a3G a.length (vNe a a) with
  | false=>rfl
  | true=>
    simp only [a3G,q0Y] at h;rw [d6Q.2 fun i _=>by simp [vNe,vEq_rfl]] at h;cases h
def b2o (a:c9) (b:c9):spZ 194 [(true,[l9 a.V]),(true,[l9 b.V])] [] (.one (false,[.b (decide (a.V=b.V))])):=by
 refine sy' Tryz.func194 (q' 2 [ao (.box 1 (.t 0)),ao (.box 1 (.t 1)),ao (.mov (bb false))] (.seq (q' 6 [aG 0 2,aN,aG 0 3,aN,ao (.bin .neq (.t 8) (.t 11))] (.cond (.t 12) (q' 0 [ab 4 false] .ret) .skip)) (.seq (q' 13 [aG 0 2,aN,aK 0] (.block 0 (.loop (q' 17 [ar 16 15] (.seq (.cond (.t 17) .skip (.exit 0)) (.seq (.block 1 (q' 18 [am 16,aV 5] (.seq (G' 19 [aG 0 2,am 5,aI 2,aE 2,aG 0 3,am 5,aI 2,aE 2,ao (.eqs true [.i .i64,.s] (.t 23) (.t 28))]) (.cond (.t 29) (q' 0 [ab 4 false] .ret) .skip)))) (g' 30 [aA 16]))))))) (q' 0 [ab 4 true] .ret)))) [.t 4] [] ?_;intro hb hE;rw [<- b5g];simp only [go_sem];repeat' first|apply cj'|intro hc|exact om'|fail
 ·rw [a2q,V6 (fun h=>by simp [h] at hc)];rfl
 have hl:a.V.length=b.V.length:=by simpa [q3E] using hc
 clear hc;refine lq' false [2,3,15] [4,6] [] (fun i:{i:Nat // i<=a.V.length/\a3G i (vNe a.V b.V)=false}=>[(16,slV (.i .i64 i.1))]) nl' nl' (fun i=>a.V.length - i.1) (⟨0,by simp [a1R]⟩) ?_;intro S0 hS0 i;obtain ⟨i,hi,ha⟩:=i;simp only [go_sem,hS0];repeat' first|apply cj'|intro hc|exact om'|fail
 ·rw [a2q,a2w (i:=i) (by omega) (show vNe a.V b.V i=true by rw [vNe,vEq,hc];rfl)];simp
 ·exact nx0 ⟨i+1,by omega,a1y ha (show vNe a.V b.V i=false by rw [vNe,vEq,hc.1,hc.2];rfl)⟩
 ·obtain rfl:i=a.V.length:=by omega
  rw [a2q,ha,V4 hl];rfl
noncomputable def a4J:CT:=k6 (fun (x:c9×c9)=>b2o x.1 x.2)
@[go_sem] def c6X:=fun x0 x1=>nm' (fQ' a4J rfl (⟨x0⟩,⟨x1⟩))
def d7S (a:List d7) (b:List d7):spZ 245 [(false,[l9 a]),(false,[l9 b])] [] (.one (false,[.b (decide (a=b))])):=by
 refine sy' Tryz.func245 (q' 0 [ab 4 false] (.seq (q' 6 [am 0,aN,am 1,aN,ao (.bin .neq (.t 7) (.t 9))] (.cond (.t 10) (q' 0 [ab 4 false] .ret) .skip)) (.seq (q' 11 [am 0,aN,aK 0] (.block 0 (.loop (q' 14 [ar 13 12] (.seq (.cond (.t 14) .skip (.exit 0)) (.seq (.block 1 (q' 15 [am 13,aV 5] (.seq (G' 16 [aM [0,5],aI 2,aE 2,aM [1,5],aI 2,aE 2,ao (.eqs true [.i .i64,.s] (.t 19) (.t 23))]) (.cond (.t 24) (q' 0 [ab 4 false] .ret) .skip)))) (g' 25 [aA 13]))))))) (q' 0 [ab 4 true] .ret)))) [.t 4] [] ?_;intro hb hE;rw [<- b5g];simp only [go_sem];repeat' first|apply cj'|intro hc|exact om'|fail
 ·rw [a2q,V6 (fun h=>by simp [h] at hc)];rfl
 have hl:a.length=b.length:=by simpa [q3E] using hc
 clear hc;refine lq' false [0,1,12] [] [] (fun i:{i:Nat // i<=a.length/\a3G i (vNe a b)=false}=>[(13,slV (.i .i64 i.1))]) nl' nl' (fun i=>a.length - i.1) (⟨0,by simp [a1R]⟩) ?_;intro S0 hS0 i;obtain ⟨i,hi,ha⟩:=i;simp only [go_sem,hS0];repeat' first|apply cj'|intro hc|exact om'|fail
 ·rw [a2q,a2w (i:=i) (by omega) (show vNe a b i=true by rw [vNe,vEq,hc];rfl)];simp
 ·exact nx0 ⟨i+1,by omega,a1y ha (show vNe a b i=false by rw [vNe,vEq,hc.1,hc.2];rfl)⟩
 ·obtain rfl:i=a.length:=by omega
  rw [a2q,ha,V4 hl];rfl
noncomputable def c6K:CT:=k6 (fun (x:(List d7)×(List d7))=>d7S x.1 x.2)
@[go_sem] def c_eqVals_eq:=fun a b=>nm' (fQ' c6K rfl (a,b))
def a8B (a:c9) (b:c9):spZ 190 [(true,[l9 a.V]),(true,[l9 b.V])] [] (.one (false,[.b (decide (a.V=b.V))])):=by
 refine sy' Tryz.func190 (q' 2 [ao (.box 1 (.t 0)),ao (.box 1 (.t 1)),ao (.mov (bb false))] (q' 5 [aG 0 2,aG 0 3,ac 245 [6,8],aV 4] .ret)) [.t 4] [(245,[],c6K)] ?_;intro hb hE;simp only [go_sem];repeat' first|apply cj'|intro hc|exact om'|fail
noncomputable def b8O:CT:=k6 (fun (x:c9×c9)=>a8B x.1 x.2)
@[go_sem] def d1Q:=fun x0 x1=>nm' (fQ' b8O rfl (⟨x0⟩,⟨x1⟩))
def a2n (l:List c9) (r:c9):Bool:=l.any fun x=>decide (x.V=r.V)
def c2M (l:List c9) (r:c9):spZ 160 [(false,[y6 l]),(true,[l9 r.V])] [] (.one (false,[.b (a2n l r)])):=by
 refine sy' Tryz.func160 (q' 0 [ax (o' 3 (.box 1 (.t 1))),ab 4 false] (.seq (q' 6 [am 0,aN,aK 0] (.block 0 (.loop (q' 9 [ar 8 7] (.seq (.cond (.t 9) .skip (.exit 0)) (.seq (.block 1 (q' 10 [am 8,aV 5] (.seq (G' 11 [aM [0,5],aI 1,aE 1,ae 1 3,ac 194 [14,15]]) (.cond (.t 16) (q' 0 [ab 4 true] .ret) .skip)))) (g' 17 [aA 8]))))))) (q' 0 [ab 4 false] .ret))) [.t 4] [(194,[],a4J)] ?_;intro hb hE;simp only [go_sem];repeat' first|apply cj'|intro hc|exact om'|fail
 refine lq' false [0,3,7] [6] [] (fun i:{i:Nat // i<=l.length/\(l.take i).any (fun x=>decide (x.V=r.V))=false}=>[(8,slV (.i .i64 i.1))]) nl' nl' (fun i=>l.length - i.1) (⟨0,by simp⟩) ?_;intro S0 hS0 i;obtain ⟨i,hi,ha⟩:=i;simp only [go_sem,hS0];repeat' first|apply cj'|intro hc|exact om'|fail
 ·rw [a2n,any_true (p:=fun x:c9=>decide (x.V=r.V)) (d:=default) (i:=i) (by omega) (V4 hc)]
 ·exact nx0 ⟨i+1,by omega,u3 (p:=fun x:c9=>decide (x.V=r.V)) default (by omega) ha (V6 hc)⟩
 ·rw [i9 (by omega)] at ha;rw [a2n,ha]
noncomputable def a5p:CT:=k6 (fun (x:(List c9)×c9)=>c2M x.1 x.2)
@[go_sem] def d4I:=fun l x0=>nm' (fQ' a5p rfl (l,⟨x0⟩))
def c5H (s:c8) (n:List UInt8) (r:c9):spZ 221 [(true,[j5 s.Rels]),(false,[.s n]),(true,[l9 r.V])] [] (.one (false,[.b (a2n (v9 s n).1.Rows r)])):=by
 refine sy' Tryz.func221 (q' 3 [ao (.box 1 (.t 0)),ax (o' 5 (.box 1 (.t 2))),ab 6 false] (q' 10 [ae 1 3,am 1,ac 154 [10,11],aV 9,ao (.ext (.t 9) 0),ao (.ext (.t 9) 1),ax (w' 7 [.i .i64, .sl n0]),aS 2 7 13,aV 8] (q' 15 [aG 1 7,ae 1 5,ac 160 [16,17],aV 6] .ret))) [.t 6] [(154,[],a2S),(160,[],a5p)] ?_;intro hb hE;simp only [go_sem];repeat' first|apply cj'|intro hc|exact om'|fail
noncomputable def b1O:CT:=k6 (fun (x:c8×(List UInt8)×c9)=>c5H x.1 x.2.1 x.2.2)
@[go_sem] def d6r:=fun x0 n x1=>nm' (fQ' b1O rfl (⟨x0⟩,n,⟨x1⟩))
abbrev bsP (l:List c9) (t:c9) (k:Nat):Bool:=decide (0<=a1H (l.getD k default).V t.V)
abbrev bsN (l:List c9) (t:c9):Nat:=a2k l.length (bsP l t)
def mid_eq {i j:Nat} (h:i+j<=4000000):IntKind.i64.wrap ((IntKind.u64.wrap (IntKind.i64.wrap ((i:Int)+j))).fdiv (2 ^ min 1 64))=(((i+j) / 2:Nat):Int):=by
 have e1:IntKind.i64.wrap ((i:Int)+j)=(i:Int)+j:=IntWalk.i64_in _ (by omega);have e2:IntKind.u64.wrap ((i:Int)+j)=(i:Int)+j:=IntWalk.u64_in _ (by omega);have e3:(2:Int) ^ min 1 64=2:=by decide
 rw [e1,e2,e3,Int.fdiv_eq_ediv_of_nonneg _ (by decide)];have e4:IntKind.i64.wrap (((i:Int)+j) / 2)=((i:Int)+j) / 2:=IntWalk.i64_in _ (by omega);rw [e4];omega
def bs_end {l:List c9} {t:c9} {i:Nat} (hi:i<=l.length) (ha:∀ k,k < i->bsP l t k=false) (hz:∀ k,i<=k->k < l.length->bsP l t k=true):bsN l t=i:=by
 by_cases h:i < l.length
 ·exact a1U ha (hz i (q0C _) h) h
 ·have:i=l.length:=by omega
  subst this;exact a1T ha
def k_bsRow (l:List c9) (t:c9) (hpre:l.length<=1000000/\∀ a b,a<=b->b < l.length->a1H (l.getD b default).V t.V < 0->a1H (l.getD a default).V t.V < 0):spZ 343 [(false,[y6 l]),(true,[l9 t.V]),(false,[.f 180 []])] [] (.tup [(false,[.i .i64 (((bsN l t:Nat),decide (bsN l t < l.length)&&a1H (l.getD (bsN l t) default).V t.V==0).1)]),(false,[.b (((bsN l t:Nat),decide (bsN l t < l.length)&&a1H (l.getD (bsN l t) default).V t.V==0).2)])]):=by
 refine sy' Tryz.func343 (q' 4 [ao (.box 1 (.t 1)),az 6 0,ab 7 false] (q' 12 [am 0,aN,aV 8] (q' 9 [aV 14,aK 0,am 14] (.seq (.block 0 (.loop (.seq (q' 15 [aM [9,10],ar 15 16] (.cond (.t 17) .skip (.exit 0))) (.block 1 (q' 18 [aM [9,10],ao (.bin .add (.t 18) (.t 19)),ao (.cv .u64 (.t 20)),ao (.bin .shr (.t 21) (.k (.v false [.c (.i .u64 1)]))),ao (.cv .i64 (.t 22)),aV 11] (.seq (G' 24 [aM [2,0,11],aI 1,aE 1,ae 1 4,ao (.callv (.t 24) [.t 28,.t 29]),ao (.bin .lss (.t 30) (k' 0))]) (.cond (.t 31) (g' 9 [av 32 11,ax (a' 33 32),am 33]) (g' 34 [am 11,aV 10])))))))) (.seq (G' 35 [aM [9,9,8],ar 36 37,am 38,au (.mov (.t 2)) 39 true,au (.mov (.t 0)) 39 true,au (.mov (.t 9)) 39 true,au (.ia 1 (.t 41) (.t 42)) 39 true,au (.ld true 1 (.t 43)) 39 true,au (.ld true 1 (.t 4)) 39 true,au (.callv (.t 40) [.t 44,.t 45]) 39 true,au (.bin .eql (.t 46) (k' 0)) 39 true,ao (.pick (.t 39) (.t 47) (bb false)),av 6 35,aV 7]) .ret))))) [.t 6,.t 7] [(180,[],a6q)] ?_;intro hb hE;obtain ⟨hlen,hmo⟩:=hpre;simp only [go_sem];repeat' first|apply cj'|intro hc|exact om'|fail
 refine lq' false [0,2,4,8] [8] [] (fun i:{p:Nat×Nat // p.1<=p.2/\p.2<=l.length/\(∀ k,k < p.1->bsP l t k=false)/\(∀ k,p.2<=k->k < l.length->bsP l t k=true)}=>[(9,slV (.i .i64 i.1.1)),(10,slV (.i .i64 i.1.2))]) nl' nl' (fun i=>i.1.2 - i.1.1) (⟨(0,l.length),by simp,by simp,by intro k h;simp at h,by intro k h1 h2;simp at h1;omega⟩) ?_;intro S0 hS0 i;obtain ⟨⟨i,j⟩,hij,hj,ha,hz⟩:=i;simp only at hij hj ha hz;have hm:=mid_eq (i:=i) (j:=j) (by omega);simp only [go_sem,hS0,hm];repeat' first|apply cj'|intro hc|exact om'|fail
 ·have h1:∀ k,k < (i+j) / 2+1->bsP l t k=false:=by
   intro k hk;have:=hmo k ((i+j) / 2) (by omega) (by omega) hc;exact V6 (by omega)
  (refine lpK_n2 (⟨((i+j) / 2+1,j),by simp only;omega,hj,h1,hz⟩) _ rfl ?_;simp only [go_sem,hS0,hm]<;>repeat' first|apply V0|exact on'|fail)
 ·have h1:∀ k,(i+j) / 2<=k->k < l.length->bsP l t k=true:=by
   intro k hk hl;refine V4 ?_;have:¬ a1H (l.getD k default).V t.V < 0:=fun h=>hc (hmo _ k hk hl h)
   omega
  (refine lpK_n2 (⟨(i,(i+j) / 2),by simp only;omega,by simp only;omega,ha,h1⟩) _ rfl ?_;simp only [go_sem,hS0,hm]<;>repeat' first|apply V0|exact on'|fail)
 ·have hz':∀ k,i<=k->k < l.length->bsP l t k=true:=fun k h1 h2=>hz k (by omega) h2
  rw [bs_end (by omega) ha hz'];refine ⟨rfl, ?_⟩
  congr 1
  exact decide_eq_decide.2 (by omega)
noncomputable def d1u:CT:=l8 (fun (x:(List c9)×c9) h=>k_bsRow x.1 x.2 h)
@[go_sem] def c_bsRow_eq:=fun l x0=>nm' (fP' d1u rfl (l,⟨x0⟩))
def c7P (r:f8) (t:c9) (hpre:r.Rows.length<=1000000/\∀ a b,a<=b->b < r.Rows.length->a1H (r.Rows.getD b default).V t.V < 0->a1H (r.Rows.getD a default).V t.V < 0):spZ 299 [(true,[.i .i64 r.Arity,y6 r.Rows]),(true,[l9 t.V])] [] (.tup [(false,[.i .i64 (((bsN r.Rows t:Nat),decide (bsN r.Rows t < r.Rows.length)&&a1H (r.Rows.getD (bsN r.Rows t) default).V t.V==0).1)]),(false,[.b (((bsN r.Rows t:Nat),decide (bsN r.Rows t < r.Rows.length)&&a1H (r.Rows.getD (bsN r.Rows t) default).V t.V==0).2)])]):=by
 refine sy' Tryz.func299 (q' 2 [ao (.box 2 (.t 0)),ao (.box 1 (.t 1)),aK 0,ao (.mov (bb false))] (q' 6 [aG 1 2,ae 1 3,ao (.call 343 [.t 7,.t 8,.k (.v false [.c (.f 180 [])])]),ao (.ext (.t 9) 0),ao (.ext (.t 9) 1),av 4 10,aV 5] .ret)) [.t 4,.t 5] [(343,[],d1u)] ?_;intro hb hE;obtain ⟨hlen,hmo⟩:=hpre;simp only [go_sem];repeat' first|apply cj'|intro hc|exact om'|fail
 all_goals exact ⟨hlen,hmo⟩
noncomputable def b4S:CT:=l8 (fun (x:f8×c9) h=>c7P x.1 x.2 h)
@[go_sem] def d7m:=fun x0 x1 x2=>nm' (fP' b4S rfl (⟨x0,x1⟩,⟨x2⟩))
def c6F {x y:List UInt8} (h:Op.bytesLess x y=true):(y==[])=false:=by
 cases y with
 | nil=>cases x<;>simp [Op.bytesLess] at h
 | cons a y=>rfl
def d8y {a b c:d7} (h1:y8 a b=true) (h2:y8 b c=true):y8 a c=true:=by
 unfold y8 at *;cases ha:(a.S==[])<;>cases hb:(b.S==[])<;>cases hc:(c.S==[])<;>simp only [ha,hb,hc,q1W,q2Y,Bool.false_and,q1I,W8,V1,q0A] at h1 h2 ⊢;all_goals first
  | (rw [c6F h1] at hb;exact absurd hb (by decide))
  | (rw [c6F h2] at hc;exact absurd hc (by decide))
  | omega
  | exact a1J _ _ _ h1 h2
  | (rw [beq_iff_eq] at ha;rw [ha];cases hcs:c.S with
      | nil=>rw [hcs] at hc;cases hc
      | cons x y=>rfl)
def d1n {a b:d7} (ha:l6 a=true) (hb:l6 b=true) (h1:y8 a b=false) (h2:y8 b a=false):a=b:=by
 have:=b4D ha hb;rw [h1,h2,q3O] at this;exact d8x (by simpa using this)
abbrev okL (a:List d7):Prop:=∀ x∈a,l6 x=true
def okL.tl {x:d7} {a:List d7} (h:okL (x::a)):okL a:=fun y hy=>h y (by simp [hy])
def c5O:∀ {a b c:List d7},okL a->okL b->okL c->a1i a b=-1->a1i b c=-1->a1i a c=-1
 | [],[],_,_,_,_,h,_=>by simp [a1i] at h
 | [],y::b,[],_,_,_,_,h=>by simp [a1i] at h
 | [],y::b,z::c,_,_,_,_,_=>rfl
 | x::a,[],_,_,_,_,h,_=>by simp [a1i] at h
 | x::a,y::b,[],_,_,_,_,h=>by simp [a1i] at h
 | x::a,y::b,z::c,ha,hb,hc,h1,h2=>by
   have hx:=ha x (by simp);have hy:=hb y (by simp);have hz:=hc z (by simp);rw [a1i] at h1 h2 ⊢;cases e1:y8 x y with
   | true=>
     cases e2:y8 y z with
     | true=>rw [d8y e1 e2];rfl
     | false=>
       rw [e2,V1] at h2;cases e3:y8 z y with
       | true=>rw [e3,W8] at h2;omega
       | false=>rw [<- d1n hy hz e2 e3,e1];rfl
   | false=>
     rw [e1,V1] at h1;cases e3:y8 y x with
     | true=>rw [e3,W8] at h1;omega
     | false=>
       rw [e3,V1] at h1;have:=d1n hx hy e1 e3;subst this;cases e2:y8 x z with
       | true=>rfl
       | false=>
         rw [e2,V1] at h2;cases e4:y8 z x with
         | true=>rw [e4,W8] at h2;omega
         | false=>
           rw [e4,V1] at h2;exact c5O ha.tl hb.tl hc.tl h1 h2
def c3P:∀ {a b:List d7},okL a->okL b->(a1i a b=0↔a=b)
 | [],[],_,_=>by simp [a1i]
 | [],y::b,_,_=>by simp [a1i]
 | x::a,[],_,_=>by simp [a1i]
 | x::a,y::b,ha,hb=>by
   have ih:=c3P ha.tl hb.tl;rw [a1i];cases e1:y8 x y with
   | true=>
     simp only [W8,V3];refine ⟨fun h=>by omega,fun h=>?_⟩;have h3:=b4D (ha x (by simp)) (hb y (by simp));rw [<- h.1] at e1 h3;rw [e1] at h3;simp at h3
   | false=>
     cases e2:y8 y x with
     | true=>
       simp only [W8,V1,V3];refine ⟨fun h=>by omega,fun h=>?_⟩;rw [h.1] at e1 e2;rw [e1] at e2;cases e2
     | false=>
       have:=d1n (ha x (by simp)) (hb y (by simp)) e1 e2;subst this;simpa using ih
def c5Q {r:f8} (h:a0n r=true):∀ {b a:Nat},a < b->b < r.Rows.length->a1i (r.Rows.getD a default).V (r.Rows.getD b default).V=-1:=by
 have hN:∀ i,i < r.Rows.length->a0N r i=false:=by
  intro i hi;simp only [a0n,W3,q0Y] at h;exact a4A h.2 hi
 have hO:∀ i,i < r.Rows.length->okL (r.Rows.getD i default).V:=fun i hi=>a0f (a2I (hN i hi))
 intro b
 induction b with
 | zero=>intro a h;omega
 | succ b ih=>
   intro a hab hb;have hs:a1i (r.Rows.getD b default).V (r.Rows.getD (b+1) default).V=-1:=by
    have:=hN (b+1) hb;simp only [a0N,q1C,Nat.zero_lt_succ,decide_true,q0Q,q0S,beq_iff_eq,Nat.add_sub_cancel] at this;exact this.2
   rcases q3P.1 hab with h1|rfl
   ·exact c5O (hO a (by omega)) (hO b (by omega)) (hO _ hb) (ih h1 (by omega)) hs
   ·exact hs
def a1N {r:f8} (h:a0n r=true) {i:Nat} (hi:i < r.Rows.length):okL (r.Rows.getD i default).V:=by
 simp only [a0n,W3,q0Y] at h;exact a0f (a2I (a4A h.2 hi))
def b1i {a b:List d7} (ha:okL a) (hb:okL b):a1H a b < 0↔a1i a b=-1:=by
 have h:=b2B ha hb;unfold sgn at h;omega
def c4C {a b:List d7} (ha:okL a) (hb:okL b):a1H a b=0↔a=b:=by
 have h:=b2B ha hb;rw [<- c3P ha hb];unfold sgn at h;omega
def d8o {r:f8} (h:a0n r=true) {t:c9} (ht:a0S t=true):∀ a b,a<=b->b < r.Rows.length->a1H (r.Rows.getD b default).V t.V < 0->a1H (r.Rows.getD a default).V t.V < 0:=by
 intro a b hab hb hl;rcases Nat.lt_or_eq_of_le hab with h1|rfl
 ·rw [b1i (a1N h hb) (a0f ht)] at hl;rw [b1i (a1N h (by omega)) (a0f ht)];exact c5O (a1N h (by omega)) (a1N h hb) (a0f ht) (c5Q h h1 hb) hl
 ·exact hl
def rel_has {r:f8} (h:a0n r=true) {t:c9} (ht:a0S t=true):(decide (bsN r.Rows t < r.Rows.length)&&a1H (r.Rows.getD (bsN r.Rows t) default).V t.V==0)=a2n r.Rows t:=by
 rw [q3Q];constructor
 ·intro hh;simp only [W3,q0A,beq_iff_eq] at hh;exact any_true (p:=fun x:c9=>decide (x.V=t.V)) (d:=default) hh.1 (V4 ((c4C (a1N h hh.1) (a0f ht)).1 hh.2))
 ·intro hh;rw [a2n,q3D] at hh;obtain ⟨x,hx,he⟩:=hh;obtain ⟨k,hk,rfl⟩:=q1L hx;rw [q0A] at he;have hg:=j8 (l:=r.Rows) default hk;have e:bsN r.Rows t=k:=by
   refine a1U (fun j hj=>?_) ?_ hk
   ·refine V6 ?_;have:=(b1i (a1N h (show j < r.Rows.length by omega)) (a0f ht)).2 (by
     have:=c5Q h hj hk;rw [hg,he] at this;exact this)
    omega
   ·refine V4 ?_;rw [hg,(c4C (by rw [<- hg];exact a1N h hk) (a0f ht)).2 he];omega
  rw [e,V4 hk,hg,(c4C (by rw [<- hg];exact a1N h hk) (a0f ht)).2 he];rfl
def d1e (r:f8) (t:c9) (hpre:a0n r=true/\a0S t=true):spZ 238 [(true,[.i .i64 r.Arity,y6 r.Rows]),(true,[l9 t.V])] [] (.one (false,[.b (a2n r.Rows t)])):=by
 refine sy' Tryz.func238 (q' 2 [ao (.box 2 (.t 0)),ao (.box 1 (.t 1)),ao (.mov (bb false))] (q' 8 [ae 2 2,ae 1 3,ac 299 [8,9],aV 7,ao (.ext (.t 7) 0),ao (.ext (.t 7) 1),av 5 11,aV 6] (q' 13 [am 6,aV 4] .ret))) [.t 4] [(299,[],b4S)] ?_;intro hb hE;obtain ⟨hR,hT⟩:=hpre;simp only [go_sem];repeat' first|apply cj'|intro hc|exact om'|fail
 ·exact ⟨by have:=a6e hR;omega,d8o hR hT⟩
 ·exact rel_has hR hT
noncomputable def b8N:CT:=l8 (fun (x:f8×c9) h=>d1e x.1 x.2 h)
@[go_sem] def d8L:=fun x0 x1 x2=>nm' (fP' b8N rfl (⟨x0,x1⟩,⟨x2⟩))
end Go.Aw
