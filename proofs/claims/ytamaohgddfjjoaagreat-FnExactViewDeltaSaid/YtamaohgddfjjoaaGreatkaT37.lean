/- Empty states: the program's, and both functions. No condition. -/
import Derived.Test.YtamaohgddfjjoaaGreatkaI1
namespace Go.Aw
set_option maxHeartbeats 4000000
open Go.Proofs
attribute [local irreducible] aft blk lpK retK AW A0d
set_option linter.all false
set_option maxRecDepth 100000
def geN(n:List UInt8)(x:c9):Bool:=!sLt x.Name n
def a4Z(l:List c9)(n:List UInt8):Int:=bif decide (a1a (geN n) l<0)then(l.length:Int)else a1a (geN n) l
def c8o(l:List c9)(n:List UInt8):a4Z l n=((l.takeWhile fun x=>sLt x.Name n).length:Nat):=by
 rcases b0h (fun i=>geN n (l.getD i default)) l.length with h|⟨i,hi,h1,h2⟩
 ·have ha:l.any (geN n)=false:=by
   rw[q2R];intro x hx;obtain⟨j,hj,rfl⟩:=q1H hx;have:=h j hj;rw[j7 default hj]at this;simpa using this
  have ht:l.takeWhile (fun x=>sLt x.Name n)=l:=by
   have:∀l:List c9,l.any (geN n)=false->l.takeWhile (fun x=>sLt x.Name n)=l:=by
    intro l
    induction l with
    | nil=>intro _;rfl
    | cons x l ih=>
      intro h;rw[q2L,q0U]at h;have hx:sLt x.Name n=true:=by have:=h.1;rw[geN]at this;simpa using this
      rw[q2G,hx,if_pos rfl,ih h.2]
   exact this l ha
  rw[a4Z,w8 ha,ht];rfl
 ·have ha:(l.take i).any (geN n)=false:=by
   rw[q2R];intro x hx;obtain⟨j,hj,rfl⟩:=q2V.1 hx;have:=h1 j z0C;rw[j7 default z0C]at this;simpa using this
  have e:=w9 (p:=geN n) (d:=default) hi ha h2;have hl:(l.takeWhile fun x=>sLt x.Name n).length=i:=by
   have gen:∀(l:List c9) (i:Nat),i<l.length->(l.take i).any (geN n)=false->geN n (l.getD i default)=true->(l.takeWhile fun x=>sLt x.Name n).length=i:=by
    intro l
    induction l with
    | nil=>intro i h;simp at h
    | cons x l ih=>
      intro i h ha hp;cases i with
      | zero=>
        have hx:sLt x.Name n=false:=by simpa[geN]using hp
        rw[q2G,hx];rfl
      | succ i=>
        rw[q0G,q2L,q0U]at ha;have hx:sLt x.Name n=true:=by have:=ha.1;rw[geN]at this;simpa using this
        rw[q2G,hx,if_pos rfl,V7,ih i z01 ha.2 (by simpa using hp)]
   exact gen l i hi ha h2
  rw[a4Z,e,hl,V3 z0C];rfl
def b9w{l:List c9}{n:List UInt8}(h:∀x∈l,¬x.Name=n)(v:c9):c1z l (a4Z l n) v=a2e l n v:=by
 have hs:l=l.takeWhile (fun x=>sLt x.Name n)++l.dropWhile (fun x=>sLt x.Name n):=q1Q.symm;have hf:(l.dropWhile fun x=>sLt x.Name n).filter (fun x=>!(x.Name==n))=l.dropWhile fun x=>sLt x.Name n:=by
  rw[List.filter_eq_self];intro x hx;have:=h x (List.dropWhile_sublist _ |>.mem hx);simpa using this
 rw[a7D,hf,c1z,c8o,q4M];have e1:=q4O (l₁:=l.takeWhile fun x=>sLt x.Name n) (l₂:=l.dropWhile fun x=>sLt x.Name n);have e2:=q4B (l₁:=l.takeWhile fun x=>sLt x.Name n) (l₂:=l.dropWhile fun x=>sLt x.Name n);rw[<-hs]at e1 e2;rw[e1,e2]
def d6k(l:List c9)(n:List UInt8):0<=a4Z l n/\a4Z l n<=l.length:=by
 rw[c8o];have:=(List.takeWhile_sublist (fun x:c9=>sLt x.Name n) (l:=l)).length_le;omega
def c7A(l:List c9)(hpre:l.length<1000000):spZ 223 [(false,[.sl false [.s [],.i .i64 0,.sl false [.sl false [.i .i64 0,.s []] []] []] (l.map (c9.cells false false))])] [] (.one (false,[.sl true [.s [],.i .i64 0,.sl false [.sl false [.i .i64 0,.s []] []] []] (l.map (c9.cells false false))])):=by
 exact b0a (d:=[.s [],.i .i64 0,.sl false [.sl false [.i .i64 0,.s []] []] []]) Tryz.cloneNamed z0K (hi:=rfl) (hz0:=rfl) (hz1:=rfl) (bytes:=48) (hz2:=rfl) (hzs:=rfl) z00 (fun w=>rfl) _ z0X
noncomputable def a7i:CT:=k8 (fun(x:(List c9)) h=>c7A x h)
@[go_sem] def d8S:=fun l=>nm' (fP' a7i rfl l)
def c4K(x:c9)(n:List UInt8):spZ 225 [(true,[.s x.Name,.i .i64 x.Rel.Arity,n9 x.Rel.Rows]),(false,[.p [.s n]])] [] (.one (false,[.b (geN n x)])):=by
 refine sy' Tryz.func225 (q' 2 [aX 3 0,aU false] (q' 4 [aG 0 2,al 1,aD .geq 5 6,aV 3] .ret)) [.t 3] [] ?_;intro hb hE;simp only[go_sem];repeat' first|apply cj'|intro hc|exact om'|fail
 all_goals(first|rfl|(rw[geN,<-d4i];done))
noncomputable def b0O:CT:=j8 (fun(x:c9×(List UInt8))=>c4K x.1 x.2)
@[go_sem] def d7o:=fun x0 x1 x2 n=>nm' (fQ' b0O rfl (⟨x0,⟨x1,x2⟩⟩,n))
def c7G(l:List c9)(n:List UInt8):spZ 224 [(false,[i6 l]),(false,[.f 225 [.p [.s n]]])] [] (.one (false,[.i .i64 (a1a (geN n) l)])):=by
 refine sy' Tryz.func224 (q' 4 [aK 0] (.seq (q' 6 [am 0,aN,aK 0] (fO 0 9 [ar 8 7] 9 1 (q' 10 [am 8,aV 5] (q' 11 [aM [1,0,5],aI 3,aE 3,ao (.callv (.t 11) [.t 15])] (ci 16 (q' 17 [am 5,aV 4] .ret)))) (g' 18 [aA 8]))) (q' 4 [ao (.mov (.k (.v false [.c (.i .i64 (-1))])))] .ret))) [.t 4] [(225,[],b0O)] ?_;intro hb hE;simp only[go_sem];repeat' first|apply cj'|intro hc|exact om'|fail
 refine lq' false [0,1,7] [] [] (fun i:{i:Nat // i<=l.length/\(l.take i).any (geN n)=false}=>[(8,slV (.i .i64 i.1))]) nl' nl' (fun i=>l.length-i.1) (⟨0,z0D⟩) ?_;intro S0 hS0 i;obtain⟨i,hi,ha⟩:=i;simp only[go_sem,hS0];repeat' first|apply cj'|intro hc|exact om'|fail
 ·exact(w9 (p:=geN n) (d:=default) z0C ha z0G).symm
 ·exact nx0 ⟨i+1,z0C,t7 (p:=geN n) default z0C ha z0G⟩
 ·exact(w8 z0J).symm
noncomputable def a7j:CT:=j8 (fun(x:(List c9)×(List UInt8))=>c7G x.1 x.2)
@[go_sem] def d8Y:=fun l n=>nm' (fQ' a7j rfl (l,n))
@[go_sem] def b2t:ACode:=q' 3 [aX 1 0,aX 1 1,aX 2 2,aw [.sl i7]] (q' 8 [aG 0 3,ac 223 [9],ao (.bld [.sl i7] [(0,1,.t 10)]),aS 1 3 11] (q' 12 [aG 0 3,ao (.mf 225 [.t 4]),ac 224 [13,14],aV 7] (.seq (q' 16 [am 7,aC
 .lss 16 0] (ci 17 (g' 18 [aG 0 3,aN,aV 7]))) (.seq (.seq (G' 21 [am 7,aG 0 3,aN,ar 21 24,am 25,aH 26 true [bf 0 3,bL,bm 7,bI 3,bF 0,bL,bo (.ld false 1 (.t
 4)),bD .eql 32 33],aP 26 34]) (cd 35 (g' 36 [aG 0 3,am 7,ae 2 5,ai 3 37 38,aF 1,aS 2 41 39]) (g' 42 [aG 0 3,am 7,al 4,ae 2 5,ao (.bld [.s,.i .i64,.sl i5] [(0,1,.t 45),(1,2,.t 46)]),ao (.bsl 3 1 [.s,.i .i64,.sl i5] [(0,.t 47)]),ac 226
 [43,44,48],af 0 3,aS 1 50 49]))) (q' 51 [ae 1 3,aS 1 6 51] .ret)))))
def c4L(s:c4)(n:List UInt8)(r:d8)(hpre:(∀x∈s.Rels,¬x.Name=n)/\s.Rels.length<=1000):spZ 168 [(true,[i6 s.Rels]),(false,[.s n]),(true,[.i .i64 r.Arity,n9 r.Rows])] [] (.one (true,[b9x ((⟨a2e s.Rels n ⟨n,r⟩⟩:c4).Rels)])):=by
 refine sy' Tryz.func168 b2t [.c 6 true 1] [(223,[],a7i),(224,[],a7j),(226,[0,2],b1P)] ?_;intro hb hE;obtain⟨hno,hlen⟩:=hpre;simp only[go_sem];repeat' first|apply cj'|intro hc|exact om'|fail
 ·rename_i h0;exact congrArg (List.map _) (by rw[<-b9w hno ⟨n,r⟩,a4Z,V0 h0];rfl)
 ·exact absurd (by simpa using hc.2) (hno _ (A3w (d:=default) z0C))
 ·rename_i h0;have:=d6k s.Rels n;rw[a4Z,V3 h0]at this;simp only[V2]at this;exact⟨this,z0C⟩
 ·rename_i h0;exact congrArg (List.map _) (by rw[<-b9w hno ⟨n,r⟩,a4Z,V3 h0];rfl)
noncomputable def a5N:CT:=k8 (fun(x:c4×(List UInt8)×d8) h=>c4L x.1 x.2.1 x.2.2 h)
@[go_sem] def b5s:=fun x0 n x1 x2=>nm' (fP' a5N rfl (⟨x0⟩,n,⟨x1,x2⟩))
def d3S{l:List e7}{x:c9}(h:x∈a0h l):∃d∈l,d.Name=x.Name:=by
 have h1:x.Name∈(a0h l).map c9.Name:=q0X.2 ⟨x,h,rfl⟩;rw[a7u,o8]at h1;simpa using h1
def e1t{p:c6}(h:y6 p=true){k:Int}(hk:k<1\/3<k):a1Z p k=[]:=by
 rw[a1Z,List.filter_eq_nil_iff];intro d hd e;simp only[y6,W3,q0K]at h;have:=h.1.1.1 d hd;simp only[a2X,K7]at this;simp only[beq_iff_eq]at e;omega
def c1i(p:c6)(k:Int):List c9:=bif (n7 p).1==0 then a0h (a1Z p k)else[]
variable{v:List UInt8}{l:List c7}{args:List d5}{i:Nat}
def d3T{p:c6}(h:((n7 p).1==0)=true)(k:Int)(hi:i<p.Decls.length):∀x∈a0h ((p.Decls.take i).filter fun d=>d.Kind==k),¬x.Name=(p.Decls.getD i default).Name:=by
 intro x hx e;obtain⟨d,hd,hn⟩:=d3S hx;obtain⟨j,hj,rfl⟩:=q2V.1 (q1A.1 hd).1;have:=a7A (a4V z01).2.1 hi (j:=j) z0C;rw[j7 default z0C]at this;exact this (hn.trans e)
def d5K:∀{L:List (List C)} {r:List C},r∈L->A3o r=false->A3p L=false
 | [],r,h,_=>by simp at h
 | x::L,r,h,e=>by
   unfold A3p;rcases V9.1 h with rfl|h
   ·rw[e];rfl
   ·rw[d5K h e,q2J]
@[go_sem] def setS_clo(l:List c9)(n:List UInt8)(v:c9):A3p ((a2e l n v).map (c9.cells false false))=false:=by
 refine d5K (r:=c9.cells false false v) (q0X.2 ⟨v,by rw[a7D];simp,rfl⟩) ?_;simp[c9.cells,A3o,C.clo]
@[go_sem] def with_nil(l:List c9)(n:List UInt8)(a:Int):a5N [(true,[i6 l]),(false,[.s n]),(true,[.i .i64 a,.sl false i5 []])]=some ((∀x∈l,¬x.Name=n)/\l.length<=1000,[],.one (true,[b9x (a2e l n ⟨n,⟨a,[]⟩⟩)])):=by
 have h:=b5s l n a [];simpa using h
def b3J(p:c6)(k:Int):spZ 138 [(true,[m9 p.Decls,m7 p.Rules]),(false,[.i .i64 k])] [] (.one (true,[b9x ((⟨c1i p k⟩:c4).Rels)])):=by
 refine sy' Tryz.func138 (q' 2 [aX 2 0,ax (w' 4 [.sl i7])] (q' 5 [ax (o' 8 (.bld [.sl i7] [])),aw [.sl i7],aS 1 5 8] (.seq (q' 9 [ae 2 2,ac 201 [9],aO 10,am 11,aH 12 false [bm 1,bC .lss 13 1],aQ 12 14,am 15,aH 16 false [bm 1,bC .gtr 17 3],aQ 16 18] (ci 19 (q' 20 [ae 1 5,aS 1 4 20] .ret))) (.seq (q' 21 [aG 0 2,aN,aK 0] (fO 0 25 [ar 24 23] 25 1 (q' 26 [ai 3 22 24,aE 3,ax (w' 7 [.i .i64,.s,.i .i64]),aS 3 7 27] (q' 28 [aG 0 7,am 1,aD .eql 29 30] (ci 31 (g' 32 [ae 1 5,aG 1 7,aG 2 7,ao (.bld [.i .i64,.sl i5] [(0,1,.t 36)]),ac 168 [32,34,37],aS 1 5 38])))) (g' 39 [aA 24]))) (q' 40 [ae 1 5,aS 1 4 40] .ret))))) [.c 4 true 1] [(201,[],a2E),(168,[],a5N)] ?_;intro hb hE;simp only[go_sem];repeat' first|apply cj'|intro hc|exact om'|fail
 ·unfold c1i;cases hN:((n7 p).1==0)with
  | false=>rfl
  | true=>
    rw[W8,e1t (a0X hN) (by rw[hN]at hc;simp at hc;omega)];rfl
 have hN:((n7 p).1==0)=true:=by simp at hc;simpa using hc.1.1
 have hdl:=(show p.Decls.length<=16 by have:=a0X hN;simp only[y6,K7]at this;omega)
 clear hc;refine lk' false [(true,10,0,200020)] [1,4,5,22,23] [8] [] (fun i:{i:Nat // i<=p.Decls.length}=>[(24,slV (.i .i64 i.1))]) (fun i=>[(10,[.ow 200020])]) (fun i=>[(200020,i7,(a0h ((p.Decls.take i.1).filter fun d=>d.Kind==k)).map (c9.cells false false))]) (fun i=>p.Decls.length-i.1) (⟨0,z0D⟩) ?_;intro S0 hS0 i;obtain⟨i,hi⟩:=i;have h1:=b1R ((p.Decls.take i).filter fun d=>d.Kind==k);have h2:=q1X (fun d:e7=>d.Kind==k) (p.Decls.take i);rw[V1]at h2;simp only[go_sem,hS0];repeat' first|apply cj'|intro hc|exact om'|fail
 all_goals first
  | omega
  | exact⟨d3T hN k z0C,z0C⟩
  | ((refine lpK_n2 (⟨i+1,z0C⟩) _ z0E ?_;simp only[go_sem,hS0]<;>repeat' first|apply W6|exact on'|fail);rw[f_yes (p:=fun d:e7=>d.Kind==k) default z0C hc,b6Z];done)
  | ((refine lpK_n2 (⟨i+1,z0C⟩) _ z0E ?_;simp only[go_sem,hS0]<;>repeat' first|apply W6|exact on'|fail);rw[f_no (p:=fun d:e7=>d.Kind==k) default z0C hc];done)
  | (rw[i4 z0C,c1i,hN];rfl)
  | trace_state
noncomputable def a5g:CT:=j8 (fun(x:c6×Int)=>b3J x.1 x.2)
@[go_sem] def c9w:=fun x0 x1 k=>nm' (fQ' a5g rfl (⟨x0,x1⟩,k))
def b4o(a b:List c9)(i:Nat):Bool:=!((a.getD i default).Name==(b.getD i default).Name)||!((a.getD i default).Rel.Arity==(b.getD i default).Rel.Arity)
def a1G(a b:List c9):Bool:=decide (a.length=b.length)&&!a1t a.length (b4o a b)
noncomputable def a1I(p:c6)(s:c4):Bool:=a0m p&&j6 s&&a1G s.Rels (a0h (a1Z p 1))
def b5S(a:c4)(b:c4):spZ 137 [(true,[i6 a.Rels]),(true,[i6 b.Rels])] [] (.one (false,[.b (a1G a.Rels b.Rels)])):=by
 refine sy' Tryz.func137 (q' 2 [aX 1 0,aX 1 1,aU false] (.seq (q' 7 [aG 0 2,aN,aG 0 3,aN,aD .neq 9 12] (ci 13 (q' 4 [aU false] .ret))) (.seq (q' 14 [aG 0 2,aN,aK 0] (fO 0 18 [ar 17 16] 18 1 (q' 19 [am 17,ai 3 15 17,aE 3,ax (w' 6 [.s,.i .i64,.sl i5]),av 5 19,aS 3 6 21] (.seq (G' 22 [aG 0 6,aG 0 3,am 5,aI 3,aG 0 27,aD .neq 23 29,am 30,aH 31 false [bf 1 6,bF 0,bL,bf 0 3,bL,bm 5,bI 3,bF 1,bF 0,bL,bD .neq 34 41],aQ 31 42]) (ci 43 (q' 4 [aU false] .ret)))) (g' 44 [aA 17]))) (q' 4 [aU true] .ret)))) [.t 4] [] ?_;intro hb hE;simp only[go_sem];repeat' first|apply cj'|intro hc|exact om'|fail
 ·symm;rw[a1G,V3 (fun h=>by simp[h]at hc)];rfl
 have hl:a.Rels.length=b.Rels.length:=by simpa[q3G]using hc
 refine lq' false [3,15,16] [6] [] (fun i:{i:Nat // i<=a.Rels.length/\a1t i (b4o a.Rels b.Rels)=false}=>[(17,slV (.i .i64 i.1))]) nl' nl' (fun i=>a.Rels.length-i.1) (⟨0,z1A⟩) ?_;intro S0 hS0 i;obtain⟨i,hi,ha⟩:=i;simp only[go_sem,hS0];repeat' first|apply cj'|intro hc|exact om'|fail
 ·rw[a1G,a1p (i:=i) z0C z1T];simp
 ·exact nx0 ⟨i+1,z0C,a0c ha z1T⟩
 ·obtain rfl:i=a.Rels.length:=by omega
  rw[a1G,ha,V0 hl];rfl
noncomputable def a6p:CT:=j8 (fun(x:c4×c4)=>b5S x.1 x.2)
@[go_sem] def d1y:=fun x0 x1=>nm' (fQ' a6p rfl (⟨x0⟩,⟨x1⟩))
def b9o(a:c4)(b:c4):spZ 127 [(true,[i6 a.Rels]),(true,[i6 b.Rels])] [] (.one (false,[.b (a1G a.Rels b.Rels)])):=by
 refine sy' Tryz.func127 (q' 2 [aX 1 0,aX 1 1,aU false] (.seq (q' 6 [aG 0 2,aN,aG 0 3,aN,aD .neq 8 11] (ci 12 (q' 4 [aU false] .ret))) (.seq (q' 13 [aG 0 2,aN,aK 0] (fO 0 17 [ar 16 15] 17 1 (q' 18 [am 16,aV 5] (.seq (G' 19 [aG 0 2,am 5,aI 3,aG 0 22,aG 0 3,am 5,aI 3,aG 0 28,aD .neq 24 30,am 31,aH 32 false [bf 0 2,bL,bm 5,bI 3,bF 1,bF 0,bL,bf 0 3,bL,bm 5,bI 3,bF 1,bF 0,bL,bD .neq 39 46],aQ 32 47]) (ci 48 (q' 4 [aU false] .ret)))) (g' 49 [aA 16]))) (q' 4 [aU true] .ret)))) [.t 4] [] ?_;intro hb hE;simp only[go_sem];repeat' first|apply cj'|intro hc|exact om'|fail
 ·symm;rw[a1G,V3 (fun h=>by simp[h]at hc)];rfl
 have hl:a.Rels.length=b.Rels.length:=by simpa[q3G]using hc
 refine lq' false [2,3,15] [4,6] [] (fun i:{i:Nat // i<=a.Rels.length/\a1t i (b4o a.Rels b.Rels)=false}=>[(16,slV (.i .i64 i.1))]) nl' nl' (fun i=>a.Rels.length-i.1) (⟨0,z1A⟩) ?_;intro S0 hS0 i;obtain⟨i,hi,ha⟩:=i;simp only[go_sem,hS0];repeat' first|apply cj'|intro hc|exact om'|fail
 ·rw[a1G,a1p (i:=i) z0C z1T];simp
 ·exact nx0 ⟨i+1,z0C,a0c ha z1T⟩
 ·obtain rfl:i=a.Rels.length:=by omega
  rw[a1G,ha,V0 hl];rfl
noncomputable def a8p:CT:=j8 (fun(x:c4×c4)=>b9o x.1 x.2)
@[go_sem] def d3G:=fun x0 x1=>nm' (fQ' a8p rfl (⟨x0⟩,⟨x1⟩))
def d0b{p:c6}(h:a0m p=true)(k:Int):c1i p k=a0h (a1Z p k):=by rw[c1i,a0n h];rfl
def d3Y{p:c6}(h:a0m p=true):p.Decls.length<=16:=by
 have:=a0X (a0n h);simp only[y6,K7]at this;omega
def c1K(p:c6)(s:c4):spZ 76 [(true,[m9 p.Decls,m7 p.Rules]),(true,[i6 s.Rels])] [] (.one (false,[.b (a1I p s)])):=by
 refine sy' Tryz.func76 (q' 2 [aX 2 0,aX 1 1,aU false] (.seq (G' 5 [ae 2 2,ac 136 [5],am 6,aH 7 true [be 1 3,bc 115 [8]],aP 7 9,am 10,aH 11 true [be 1 3,be 2 2,bo (.call 138 [.t 13,.k (.v false [.c (.i .i64 1)])]),bc 137 [12,14]],aP 11 15,aV 4]) .ret)) [.t 4] [(136,[],b6V),(115,[],a2y),(138,[],a5g),(137,[],a6p)] ?_;intro hb hE;simp only[go_sem];repeat' first|apply cj'|intro hc|exact om'|fail
 rw[a1I];cases h:a0m p with
 | false=>rfl
 | true=>rw[d0b h]
noncomputable def a8T:CT:=j8 (fun(x:c6×c4)=>c1K x.1 x.2)
@[go_sem] def d4F:=fun x0 x1 x2=>nm' (fQ' a8T rfl (⟨x0,x1⟩,⟨x2⟩))
def c2C(p:c6)(s:c4):spZ 71 [(true,[m9 p.Decls,m7 p.Rules]),(true,[i6 s.Rels])] [] (.one (false,[.b (a1I p s)])):=by
 refine sy' Tryz.func71 (q' 2 [aX 2 0,aX 1 1,aU false] (.seq (G' 5 [ae 2 2,ac 126 [5],am 6,aH 7 true [be 1 3,bc 109 [8]],aP 7 9,am 10,aH 11 true [be 1 3,be 2 2,bo (.call 128 [.t 13,.k (.v false [.c (.i .i64 1)])]),bc 127 [12,14]],aP 11 15,aV 4]) .ret)) [.t 4] [(126,[],b6X),(109,[],a2G),(128,[],a3P),(127,[],a8p)] ?_;intro hb hE;simp only[go_sem];repeat' first|apply cj'|intro hc|exact om'|fail
 ·exact d3Y hc.1
 ·rfl
noncomputable def a9B:CT:=j8 (fun(x:c6×c4)=>c2C x.1 x.2)
@[go_sem] def d5y:=fun x0 x1 x2=>nm' (fQ' a9B rfl (⟨x0,x1⟩,⟨x2⟩))
attribute [local irreducible] RM
def gtB(v:List UInt8)(b:c7):Bool:=Op.bytesLess v b.Var
def a1n(l:List c7)(v:List UInt8)(x:d4):List c7:=l.takeWhile (fun b=>!gtB v b)++⟨v,x⟩::l.dropWhile (fun b=>!gtB v b)
def c8x{α:Type}{p:α->Bool}:∀{l:List α},l.any p=false->l.takeWhile (fun b=>!p b)=l/\l.dropWhile (fun b=>!p b)=[]
 | [],_=>⟨rfl,rfl⟩
 | x::l,h=>by
   rw[q2L,q0U]at h;have:=c8x h.2;rw[q2G,q3D,h.1];simp[this.1,this.2]
def c8v{α:Type}{p:α->Bool}{b:α}{r:List α}(hb:p b=true):∀{l:List α},l.any p=false->(l++b::r).takeWhile (fun b=>!p b)=l/\(l++b::r).dropWhile (fun b=>!p b)=b::r
 | [],_=>by rw[q1O,q2G,q3D,hb];exact⟨rfl,rfl⟩
 | x::l,h=>by
   rw[q2L,q0U]at h;have:=c8v (r:=r) hb h.2;rw[q1P,q2G,q3D,h.1];simp[this.1,this.2]
def c8u{α:Type}{p:α->Bool}{r:List α}:∀{l:List α},l.any p=true->(l++r).takeWhile (fun b=>!p b)=l.takeWhile (fun b=>!p b)/\(l++r).dropWhile (fun b=>!p b)=l.dropWhile (fun b=>!p b)++r
 | [],h=>by simp at h
 | x::l,h=>by
   rw[q1P,q2G,q3D,q2G,q3D];cases hx:p x with
   | true=>simp
   | false=>
     rw[q2L,hx,q3Q]at h;have:=c8u (r:=r) h;simp[this.1,this.2]
def b6G(x:d4)(h:l.any (gtB v)=false):a1n l v x=l++[⟨v,x⟩]:=by rw[a1n,(c8x h).1,(c8x h).2]
def e1N{b:c7}(x:d4)(h:l.any (gtB v)=false)(hb:gtB v b=true):a1n (l++[b]) v x=l++[⟨v,x⟩]++[b]:=by rw[a1n,(c8v hb h).1,(c8v hb h).2];simp
def d8G{b:c7}(x:d4)(h:l.any (gtB v)=true):a1n (l++[b]) v x=a1n l v x++[b]:=by rw[a1n,a1n,(c8u h).1,(c8u h).2];simp
def a3G(l:List c7)(v:List UInt8)(x:d4):(a1n l v x).length=l.length+1:=by
 have h:=congrArg List.length (q1Q (p:=fun b=>!gtB v b) (l:=l));rw[V5]at h;rw[a1n,V5,V7];omega
def d0U(l:List c7)(v:List UInt8):Int:=bif decide (a1a (gtB v) l<0)then(l.length:Int)else a1a (gtB v) l
def e1i(l:List c7)(v:List UInt8)(x:d4):0<=d0U l v/\d0U l v<=l.length/\c1z l (d0U l v) ⟨v,x⟩=a1n l v x:=by
 cases h:l.any (gtB v)with
 | false=>
   rw[d0U,w8 h];refine⟨z0D,z0D, ?_⟩;rw[b6G x h];simp[c1z]
 | true=>
   obtain⟨i,hi,ha,hp⟩:∃i,i<l.length/\(l.take i).any (gtB v)=false/\gtB v (l.getD i default)=true:=by
    have gen:∀l:List c7,l.any (gtB v)=true->∃i,i<l.length/\(l.take i).any (gtB v)=false/\gtB v (l.getD i default)=true:=by
     intro l
     induction l with
     | nil=>intro h;simp at h
     | cons y l ih=>
       intro h;cases hy:gtB v y with
       | true=>exact⟨0,z0D,z0D,by simpa using hy⟩
       | false=>
         rw[q2L,hy,q3Q]at h;obtain⟨i,h1,h2,h3⟩:=ih h;exact⟨i+1,by simpa using h1,by simp[hy,h2],by simpa using h3⟩
    exact gen l h
   have e:=w9 (p:=gtB v) (d:=default) hi ha hp;rw[d0U,e,V3 z0C];refine⟨z0D,z0S, ?_⟩;have hs:l=l.take i++l.getD i default::l.drop (i+1):=by
    rw[j7 default hi];simp
   rw[V2,c1z,q4M,a1n];generalize l.getD i default=b at hp hs;generalize l.drop (i+1)=r at hs;have h1:=c8v (r:=r) hp ha;rw[<-hs]at h1;rw[h1.1,h1.2];have h2:l.drop i=b::r:=by
    conv=>lhs;rw[hs]
    rw[q4T z07,q3O z07];rfl
   rw[h2]
def gt_not(b v:List UInt8):(!(Op.bytesLess b v||b==v))=Op.bytesLess v b:=by
 cases h1:Op.bytesLess b v with
 | true=>
   cases h2:Op.bytesLess v b with
   | false=>rfl
   | true=>have h3:=a2d _ _ _ h1 h2;rw[a1r]at h3;cases h3
 | false=>
   cases h2:Op.bytesLess v b with
   | false=>rw[a3l _ _ h1 h2];simp
   | true=>
     have:(b==v)=false:=beq_eq_false_iff_ne.2 fun e=>by subst e;have h3:=a1r b;rw[h3]at h2;cases h2
     rw[this];rfl
def a8y(l:List c7)(v:List UInt8)(x:d4):List c7:=bif l.any (gtB v)then a1n l v x else l
def d0R{x:d4}{b:c7}(h:l.any (gtB v)=false)(hb:gtB v b=true):a8y (l++[b]) v x=a8y l v x++[⟨v,x⟩]++[b]/\(l++[b]).any (gtB v)=true:=by
 have h2:(l++[b]).any (gtB v)=true:=by rw[q2A,q2L,hb];simp
 exact⟨by rw[a8y,a8y,h2,h,W8,V2,e1N x h hb],h2⟩
def d6j{x:d4}{b:c7}(h:(!l.any (gtB v)&&gtB v b)=false):a8y (l++[b]) v x=a8y l v x++[b]/\(l++[b]).any (gtB v)=l.any (gtB v):=by
 cases ha:l.any (gtB v)with
 | true=>
   have h2:(l++[b]).any (gtB v)=true:=by rw[q2A,ha];rfl
   exact⟨by rw[a8y,a8y,h2,ha,W8,W8,d8G x ha],h2⟩
 | false=>
   rw[ha]at h;have h2:(l++[b]).any (gtB v)=false:=by rw[q2A,ha,q2L,show gtB v b=false from h];rfl
   exact⟨by rw[a8y,a8y,h2,ha,V2,V2],h2⟩
def d0S(l:List c7)(v:List UInt8)(x:d4):(a8y l v x).length<=l.length+1:=by
 rw[a8y];cases l.any (gtB v)with
 | true=>rw[W8,a3G];exact q0C _
 | false=>exact q4K _
def d0q(l:List c7)(hpre:l.length<1000000):spZ 376 [(false,[.sl false [.s [],.i .i64 0,.s []] (l.map c7.cells)])] [] (.one (false,[.sl true [.s [],.i .i64 0,.s []] (l.map c7.cells)])):=by
 exact b0a (d:=[.s [],.i .i64 0,.s []]) Tryz.cloneBind z0K (hi:=rfl) (hz0:=rfl) (hz1:=rfl) (bytes:=40) (hz2:=rfl) (hzs:=rfl) z00 (fun w=>rfl) _ z0X
noncomputable def b6P:CT:=k8 (fun(x:(List c7)) h=>d0q x h)
@[go_sem] def e0o:=fun l=>nm' (fP' b6P rfl l)
def c4y(b:c7)(v:List UInt8):spZ 374 [(true,[.s b.Var,.i .i64 b.Val.N,.s b.Val.S]),(false,[.p [.s v]])] [] (.one (false,[.b (gtB v b)])):=by
 refine sy' Tryz.func374 (q' 2 [aX 3 0,aU false] (q' 4 [aG 0 2,al 1,aD .gtr 5 6,aV 3] .ret)) [.t 3] [] ?_;intro hb hE;simp only[go_sem];repeat' first|apply cj'|intro hc|exact om'|fail
 exact gt_not _ _
noncomputable def b0J:CT:=j8 (fun(x:c7×(List UInt8))=>c4y x.1 x.2)
@[go_sem] def d7c:=fun x0 x1 x2 v=>nm' (fQ' b0J rfl (⟨x0,⟨x1,x2⟩⟩,v))
def d0y(l:List c7)(v:List UInt8):spZ 373 [(false,[w4 l]),(false,[.f 374 [.p [.s v]]])] [] (.one (false,[.i .i64 (a1a (gtB v) l)])):=by
 refine sy' Tryz.func373 (q' 4 [aK 0] (.seq (q' 6 [am 0,aN,aK 0] (fO 0 9 [ar 8 7] 9 1 (q' 10 [am 8,aV 5] (q' 11 [aM [1,0,5],aI 3,aE 3,ao (.callv (.t 11) [.t 15])] (ci 16 (q' 17 [am 5,aV 4] .ret)))) (g' 18 [aA 8]))) (q' 4 [ao (.mov (.k (.v false [.c (.i .i64 (-1))])))] .ret))) [.t 4] [(374,[],b0J)] ?_;intro hb hE;simp only[go_sem];repeat' first|apply cj'|intro hc|exact om'|fail
 refine lq' false [0,1,7] [] [] (fun i:{i:Nat // i<=l.length/\(l.take i).any (gtB v)=false}=>[(8,slV (.i .i64 i.1))]) nl' nl' (fun i=>l.length-i.1) (⟨0,z0D⟩) ?_;intro S0 hS0 i;obtain⟨i,hi,ha⟩:=i;simp only[go_sem,hS0];repeat' first|apply cj'|intro hc|exact om'|fail
 ·exact(w9 (p:=gtB v) (d:=default) z0C ha z0G).symm
 ·exact nx0 ⟨i+1,z0C,t7 (p:=gtB v) default z0C ha z0G⟩
 ·exact(w8 z0J).symm
noncomputable def b6U:CT:=j8 (fun(x:(List c7)×(List UInt8))=>d0y x.1 x.2)
@[go_sem] def e0u:=fun l v=>nm' (fQ' b6U rfl (l,v))
@[go_sem] def a8F:ACode:=q' 5 [ax (o' 3 (.box 1 (.t 0))),aX 2 2,aw [.sl j5]] (q' 7 [ax (o' 11 (.bld [.sl j5] [])),aw [.sl j5],aS 1 7 11] (q' 8 [aU false] (.seq (q' 12 [aG 0 3,aN,aK 0] (fO 0 16 [ar 15 14] 16 1 (q' 17 [ai 3 13 15,aE 3,ax (w' 10 [.s,.i .i64,.s]),aS 3 10 18]
 (.seq (q' 19 [am 8,aO 19,am 20,aH 21 true [bm 1,bf 0 10,bL,bD .lss 22 24],aP 21 25] (ci 26 (q' 27 [aG 0 7,am 1,ae 2 5,ao (.bld [.s,.i .i64,.s] [(0,1,.t
 29),(1,2,.t 30)]),ao (.bsl 3 1 [.s,.i .i64,.s] [(0,.t 31)]),ao (.app 3 40 [.s,.i .i64,.s] (.t 28) (.t 32)),af 0 7,aS 1 34 33] (g' 8 [aU true])))) (g'
 35 [aG 0 7,ae 3 10,ao (.bsl 3 1 [.s,.i .i64,.s] [(0,.t 37)]),ao (.app 3 40 [.s,.i .i64,.s] (.t 36) (.t 38)),af 0 7,aS 1 40 39]))) (g' 41 [aA 15]))) (.seq
 (q' 42 [am 8,aO 42] (ci 43 (g' 44 [aG 0 7,am 1,ae 2 5,ao (.bld [.s,.i .i64,.s] [(0,1,.t 46),(1,2,.t 47)]),ao (.bsl 3 1 [.s,.i .i64,.s] [(0,.t
 48)]),ao (.app 3 40 [.s,.i .i64,.s] (.t 45) (.t 49)),af 0 7,aS 1 51 50]))) (q' 52 [ae 1 7,aS 1 6 52] .ret)))))
def c5r(e:d6)(v:List UInt8)(x:d4)(hpre:e.Binds.length<=1000):spZ 340 [(true,[w4 e.Binds]),(false,[.s v]),(true,[.i .i64 x.N,.s x.S])] [] (.one (true,[kTBind ((⟨a1n e.Binds v x⟩:d6).Binds)])):=by
 refine sy' Tryz.func340 a8F [.c 6 true 1] [] ?_;intro hb hE;simp only[go_sem];repeat' first|apply cj'|intro hc|exact om'|fail
 refine lk' false [(true,14,0,200028)] [1,5,6,7,13,14] [10,12] [] (fun i:{i:Nat // i<=e.Binds.length}=>[(8,slV (.b ((e.Binds.take i.1).any (gtB v)))),(15,slV (.i .i64 i.1))]) (fun i=>[(14,[.ow 200028])]) (fun i=>[(200028,j5,(a8y (e.Binds.take i.1) v x).map c7.cells)]) (fun i=>e.Binds.length-i.1) (⟨0,z0D⟩) ?_;intro S0 hS0 i;obtain⟨i,hi⟩:=i;have hol:=d0S (e.Binds.take i) v x;rw[V1]at hol;have hsn:i<e.Binds.length->e.Binds.take (i+1)=e.Binds.take i++[e.Binds.getD i default]:=fun h=>j3 default h
 simp only[go_sem,hS0];repeat' first|apply cj'|intro hc|exact om'|fail
 ·have h1:=d0R (x:=x) hc.1 hc.2;rw[<-hsn z0C]at h1
  (refine lpK_n2 (⟨i+1,z0C⟩) _ z0E ?_;simp only[go_sem,hS0]<;>repeat' first|apply W6|exact on'|fail)
  all_goals(first|exact congrArg (List.map c7.cells) h1.1.symm|(rw[h1.2];done)|(rw[h1.2];exact congrArg _ hc.1.symm))
 ·have h1:=d6j (x:=x) hc;rw[<-hsn z0C]at h1
  (refine lpK_n2 (⟨i+1,z0C⟩) _ z0E ?_;simp only[go_sem,hS0]<;>repeat' first|apply W6|exact on'|fail)
  all_goals(first|exact congrArg (List.map c7.cells) h1.1.symm|(rw[h1.2];done)|(rw[h1.2];exact congrArg _ hc.1.symm))
 ·rw[i4 z0C]at hc ⊢;rw[a8y,hc,V2,b6G x hc]
 ·rw[i4 z0C]at hc ⊢;rw[a8y,hc,W8]
noncomputable def b1g:CT:=k8 (fun(x:d6×(List UInt8)×d4) h=>c5r x.1 x.2.1 x.2.2 h)
@[go_sem] def d7V:=fun x0 v x1 x2=>nm' (fP' b1g rfl (⟨x0⟩,v,⟨x1,x2⟩))
def b1p(a b:d4):Bool:=a.N==b.N&&a.S==b.S
def c4r(b:List c7)(t:d5)(v:d4):Option (List c7):=bif (k9 ⟨b⟩ t).2 then(bif b1p (k9 ⟨b⟩ t).1 v then some b else none)else some (a1n b t.Var v)
def a2L(b:List c7)(args:List d5)(vs:List d4):Nat->Option (List c7)
 | 0=>some b
 | n+1=>(a2L b args vs n).bind fun c=>c4r c (args.getD n default) (vs.getD n default)
def a6N(e:d6)(args:List d5)(row:d3):d6×Bool:=bif decide (args.length=row.V.length)then(match a2L e.Binds args row.V args.length with|some c=>(⟨c⟩,true)|none=>(default,false))else(default,false)
def c5U{b:List c7}{args:List d5}{vs:List d4}{i:Nat}(h:a2L b args vs i=none):∀{n:Nat},i<=n->a2L b args vs n=none
 | 0,hn=>by
   obtain rfl:i=0:=by omega
   exact h
 | n+1,hn=>by
   rcases q3J i (n+1)with h1|h1
   ·rw[a2L,c5U h (show i<=n by omega)];rfl
   ·obtain rfl:i=n+1:=by omega
    exact h
def b3A{b:List c7}{args:List d5}{vs:List d4}:∀{n:Nat} {c:List c7},a2L b args vs n=some c->c.length<=b.length+n
 | 0,c,h=>by simp only[a2L,W0]at h;subst h;exact q0C _
 | n+1,c,h=>by
   rw[a2L]at h;obtain⟨d,h1,h2⟩:=q2T.1 h;have:=b3A h1;rw[c4r]at h2;cases hv:(k9 ⟨d⟩ (args.getD n default)).2 with
   | true=>
     rw[hv,W8]at h2;cases hs:b1p (k9 ⟨d⟩ (args.getD n default)).1 (vs.getD n default)with
     | true=>rw[hs,W8,W0]at h2;subst h2;omega
     | false=>rw[hs]at h2;cases h2
   | false=>
     rw[hv,V2,W0]at h2;subst h2;rw[a3G];omega
def d5R{b c:List c7}{vs:List d4}(h:a2L b args vs i=some c)(hv:(k9 ⟨c⟩ (args.getD i default)).2=false):a2L b args vs (i+1)=some (a1n c (args.getD i default).Var (vs.getD i default)):=by
 rw[a2L,h,q3V,c4r,hv,V2]
def c1r{b c:List c7}{vs:List d4}(h:a2L b args vs i=some c)(hv:(k9 ⟨c⟩ (args.getD i default)).2=true)(hs:b1p (k9 ⟨c⟩ (args.getD i default)).1 (vs.getD i default)=true):a2L b args vs (i+1)=some c:=by
 rw[a2L,h,q3V,c4r,hv,hs];rfl
def c7m{b c:List c7}{vs:List d4}{n:Nat}(h:a2L b args vs i=some c)(hn:i<n)(hv:(k9 ⟨c⟩ (args.getD i default)).2=true)(hs:b1p (k9 ⟨c⟩ (args.getD i default)).1 (vs.getD i default)=false):a2L b args vs n=none:=by
 refine c5U (i:=i+1) ?_ hn;rw[a2L,h,q3V,c4r,hv,hs];rfl
def b4x{e:d6}{t:d5}(h:(t.Var==[])=false):k9 e t=a0a e t.Var:=by rw[k9,h];rfl
def b0s{e:d6}{t:d5}(h:(t.Var==[])=true):k9 e t=(t.Val,true):=by rw[k9,h];rfl
end Go.Aw
namespace Go.Aw
set_option maxHeartbeats 4000000
open Go.Proofs
set_option linter.all false
set_option maxRecDepth 100000
def a3e(l:List c7)(v:List UInt8):a0a ⟨l⟩ v=match l.find? (fun b=>b.Var==v)with|some b=>(b.Val,true)|none=>(default,false):=by
 cases h:l.find? (fun b=>b.Var==v)with
 | none=>
   refine a9J fun j hj=>?_
   have:=q4Y.1 h (l.getD j default) (by rw[j7 default hj];exact q1E hj);simpa using this
 | some b=>
   obtain⟨hp,l1,l2,rfl,hno⟩:=List.find?_eq_some_iff_append.1 h;have e:(l1++b::l2).getD l1.length default=b:=by simp
   rw[a9K (e:=⟨l1++b::l2⟩) (i:=l1.length) z0D (fun j hj=>?_) (by simp only[e];exact hp)]
   ·simp only[e]
   ·have hm:(l1++b::l2).getD j default=l1[j]:=by
     rw[W5,q5K hj,V6 hj];rfl
    simp only[hm];have:=hno l1[j] (q1E hj);simpa using this
variable{v:List UInt8}{b c l:List c7}{rows:List d3}{args:List d5}{now:List d6}{i k n:Nat}{α:Type}
def c1k(h:(a0a ⟨l⟩ v).2=false):l.find? (fun b=>b.Var==v)=none:=by
 rw[a3e]at h;cases hf:l.find? (fun b=>b.Var==v)with
 | none=>rfl
 | some b=>rw[hf]at h;cases h
def b0k(h:(a0a ⟨l⟩ v).2=false):¬v∈l.map c7.Var:=by
 intro hm;obtain⟨b,hb,rfl⟩:=q0X.1 hm;have:=q4Y.1 (c1k h) b hb;simp at this
def off_of(h:¬v∈l.map c7.Var):(a0a ⟨l⟩ v).2=false:=by
 rw[a3e,q4Y.2 (fun b hb hv=>h (q0X.2 ⟨b,hb,by simpa using hv⟩))]
def e1E:(a0a ⟨l⟩ v).2=true↔v∈l.map c7.Var:=by
 constructor
 ·intro h;refine Classical.byContradiction fun hn=>?_
  rw[off_of hn]at h;cases h
 ·intro h;cases hv:(a0a ⟨l⟩ v).2 with
  | true=>rfl
  | false=>exact absurd h (b0k hv)
def c3j(l:List c7)(v:List UInt8):l.takeWhile (fun b=>!gtB v b)++l.dropWhile (fun b=>!gtB v b)=l:=q1Q
def d8g{w:List UInt8}{x:d4}(hw:w≠v):a0a ⟨a1n l v x⟩ w=a0a ⟨l⟩ w:=by
 rw[a3e,a3e]
 conv=>rhs;rw[<-c3j l v]
 rw[a1n,q5F,q5F,q3S,show((v==w)=false)from beq_eq_false_iff_ne.2 (Ne.symm hw)]
def d0d{x:d4}(h:(a0a ⟨l⟩ v).2=false):a0a ⟨a1n l v x⟩ v=(x,true):=by
 have h1:=c1k h;rw[<-c3j l v,q5F]at h1;rw[a3e,a1n,q5F];cases h2:(l.takeWhile fun b=>!gtB v b).find? (fun b=>b.Var==v)with
 | some b=>rw[h2]at h1;cases h1
 | none=>simp
def e1V{a b:d4}(h:b1p a b=true):a=b:=by
 obtain⟨n,s⟩:=a;obtain⟨m,t⟩:=b;simp only[b1p,W3,beq_iff_eq]at h;obtain⟨rfl,rfl⟩:=h;rfl
def Back(c:List c7)(t:d5)(x:d4):Prop:=k9 ⟨c⟩ t=(x,true)
def Back.set{t:d5}{x y:d4}(h:Back c t x)(hv:(a0a ⟨c⟩ v).2=false):Back (a1n c v y) t x:=by
 unfold Back at*;rw[k9]at h ⊢;cases ht:t.Var==[]with
 | true=>rw[ht]at h;exact h
 | false=>
   rw[ht,V2]at h;have hn:t.Var≠v:=by intro e;rw[<-e,h]at hv;cases hv
   rw[V2,d8g hn];exact h
def a1i{t:d5}(h:(k9 ⟨c⟩ t).2=false):(t.Var==[])=false/\(a0a ⟨c⟩ t.Var).2=false:=by
 rw[k9]at h;cases ht:t.Var==[]with
 | true=>rw[ht]at h;cases h
 | false=>rw[ht]at h;exact⟨rfl,h⟩
def b1T{t:d5}{v:d4}(h:c4r b t v=some c):(c=b/\Back b t v)\/(c=a1n b t.Var v/\(t.Var==[])=false/\(a0a ⟨b⟩ t.Var).2=false):=by
 rw[c4r]at h;cases hv:(k9 ⟨b⟩ t).2 with
 | true=>
   rw[hv,W8]at h;cases hs:b1p (k9 ⟨b⟩ t).1 v with
   | true=>
     rw[hs,W8,W0]at h;refine .inl ⟨h.symm, ?_⟩;unfold Back;rw[<-e1V hs,<-hv]
   | false=>rw[hs]at h;cases h
 | false=>
   rw[hv,V2,W0]at h;exact .inr ⟨h.symm,a1i hv⟩
def d8j{t:d5}{v:d4}(h:c4r b t v=some c):Back c t v/\∀s x,Back b s x->Back c s x:=by
 rcases b1T h with⟨rfl,h1⟩|⟨rfl,h1,h2⟩
 ·exact⟨h1,fun _ _ h=>h⟩
 ·refine⟨?_,fun s x h=>h.set h2⟩;unfold Back;rw[k9,h1,V2,d0d h2]
def b5C{b:List c7}{args:List d5}{vs:List d4}:∀{n:Nat} {c:List c7},a2L b args vs n=some c->(∀i,i<n->Back c (args.getD i default) (vs.getD i default))/\∀s x,Back b s x->Back c s x
 | 0,c,h=>by
   simp only[a2L,W0]at h;subst h;exact⟨fun i hi=>z0C,fun _ _ h=>h⟩
 | n+1,c,h=>by
   rw[a2L]at h;obtain⟨d,h1,h2⟩:=q2T.1 h;obtain⟨i1,i2⟩:=b5C h1;obtain⟨j1,j2⟩:=d8j h2;refine⟨fun i hi=>?_,fun s x h=>j2 s x (i2 s x h)⟩;rcases q3J i n with h3|h3
   ·exact j2 _ _ (i1 i h3)
   ·obtain rfl:i=n:=by omega
    exact j1
def EnvS(l:List c7):Prop:=(∀b∈l,a8s b.Var=true/\n0 b.Val=true)/\SS Op.bytesLess (l.map c7.Var)
def a1U{p:Nat->Bool}:a1t n p=false↔∀i,i<n->p i=false:=by
 constructor
 ·intro h i hi;cases hp:p i with
  | false=>rfl
  | true=>rw[a1p hi hp]at h;cases h
 ·intro h
  induction n with
  | zero=>rfl
  | succ n ih=>exact a0c (ih fun i hi=>h i z0C) (h n z0C)
def d2D{l:List (List UInt8)}(h:∀i,0<i->i<l.length->Op.bytesLess (l.getD (i-1) []) (l.getD i [])=true):SS Op.bytesLess l:=by
 refine q2N.2 fun i j hi hj hij=>?_
 have key:∀d,i+d+1<l.length->Op.bytesLess (l.getD i []) (l.getD (i+d+1) [])=true:=by
  intro d
  induction d with
  | zero=>intro hd;exact h (i+1) z0C hd
  | succ d ih=>intro hd;exact a2d _ _ _ (ih z0C) (h (i+(d+1)+1) z0C hd)
 have:=key (j-i-1) z0C;rw[show i+(j-i-1)+1=j by omega,j7 [] hi,j7 [] hj]at this;exact this
def a4k(x:d4)(h:¬v∈l.map c7.Var):(a1n l v x).map c7.Var=a1f Op.bytesLess (l.map c7.Var) v:=by
 rw[a1f,if_neg h,List.takeWhile_map,List.dropWhile_map,a1n,q1F,q0E];rfl
def e1O{x:d4}{b:c7}:b∈a1n l v x↔b=⟨v,x⟩\/b∈l:=by
 conv=>rhs;rw[<-c3j l v]
 rw[a1n,W9,V9,W9];constructor
 ·rintro(h|h|h)
  ·exact .inr (.inl h)
  ·exact .inl h
  ·exact .inr (.inr h)
 ·rintro(h|h|h)
  ·exact .inr (.inl h)
  ·exact .inl h
  ·exact .inr (.inr h)
def EnvS.set{x:d4}(h:EnvS l)(hv:a8s v=true)(hx:n0 x=true)(hn:(a0a ⟨l⟩ v).2=false):EnvS (a1n l v x):=by
 refine⟨fun b hb=>?_,by rw[a4k x (b0k hn)];exact SS.put o0 h.2 v⟩;rcases e1O.1 hb with rfl|hb
 ·exact⟨hv,hx⟩
 ·exact h.1 b hb
def c3s{t:d5}(h:z9 t=true)(hv:(t.Var==[])=false):a8s t.Var=true:=by
 rw[z9,hv]at h;simp only[q3M,W8,W3]at h;exact h.1
def EnvS.fit{t:d5}{v:d4}(h:EnvS b)(ht:z9 t=true)(hv:n0 v=true)(hf:c4r b t v=some c):EnvS c:=by
 rcases b1T hf with⟨rfl,_⟩|⟨rfl,h1,h2⟩
 ·exact h
 ·exact h.set (c3s ht h1) hv h2
def EnvS.fits{b:List c7}{args:List d5}{vs:List d4}(h:EnvS b)(ha:args.all z9=true)(hv:vs.all n0=true):∀{n:Nat} {c:List c7},n<=args.length->n<=vs.length->a2L b args vs n=some c->EnvS c
 | 0,c,_,_,hf=>by
   simp only[a2L,W0]at hf;subst hf;exact h
 | n+1,c,hn,hm,hf=>by
   rw[a2L]at hf;obtain⟨d,h1,h2⟩:=q2T.1 hf;refine(EnvS.fits h ha hv z0C z0C h1).fit (q0K.1 ha _ ?_) (q0K.1 hv _ ?_) h2
   ·rw[j7 default z0C];exact q1E _
   ·rw[j7 default z0C];exact q1E _
def fitR_on{e:d6}{row:d3}(h:(a6N e args row).2=true):args.length=row.V.length/\a2L e.Binds args row.V args.length=some (a6N e args row).1.Binds:=by
 rw[a6N]at h ⊢;by_cases hl:args.length=row.V.length
 ·rw[V0 hl,W8]at h ⊢;split at h
  ·rename_i c hc;exact⟨hl,hc⟩
  ·cases h
 ·rw[V3 hl]at h;cases h
def b5A{row:d3}(hl:args.length=row.V.length)(h:∀i,i<args.length->Back c (args.getD i default) (row.V.getD i default)):y8 ⟨c⟩ args=(row,true):=by
 have h1:args.all (fun t=>(k9 ⟨c⟩ t).2)=true:=by
  rw[q0K];intro t ht;obtain⟨i,hi,rfl⟩:=q1H ht;have:=h i hi;unfold Back at this;rw[j7 default hi]at this;rw[this]
 have h2:args.map (fun t=>(k9 ⟨c⟩ t).1)=row.V:=by
  refine q4P (by rw[q0F];exact hl) fun i hi hj=>?_
  rw[q0F]at hi;have:=h i hi;unfold Back at this;rw[j7 default hi,j7 default hj]at this;rw[q3W,this]
 rw[y8,h1,W8,h2]
def d4t(a:d4):y7 a a=false:=by
 rw[y7,a1r,V3 z0C];cases a.S==[]&&a.S==[]<;>rfl
def c6j:∀a:List d4,a1s a a=0
 | []=>rfl
 | x::a=>by rw[a1s,d4t];exact c6j a
def b6E{r:d3}(h:a0Z r=true):r.V.length<=6/\r.V.all n0=true:=by
 simp only[a0Z,K7]at h;exact⟨z0C,h.2⟩
def STO.two{β γ:Type}{lb:β->β->Bool}{lg:γ->γ->Bool}(ob:STO lb)(og:STO lg)(f:α->β)(g:α->γ)(inj:∀x y,f x=f y->g x=g y->x=y):STO fun x y=>lb (f x) (f y)||(!lb (f y) (f x)&&lg (g x) (g y)) where
 irr x:=by rw[ob.irr,og.irr];rfl
 tr x y z h1 h2:=by
  simp only[q2Q,W3,q0M]at h1 h2 ⊢;rcases h1 with h1|⟨h1,h1'⟩
  ·rcases h2 with h2|⟨h2,h2'⟩
   ·exact .inl (ob.tr _ _ _ h1 h2)
   ·cases h:lb (f y) (f z)with
    | true=>exact .inl (ob.tr _ _ _ h1 h)
    | false=>rw[<-ob.tri _ _ h h2];exact .inl h1
  ·cases h:lb (f x) (f y)with
   | true=>
     rcases h2 with h2|⟨h2,h2'⟩
     ·exact .inl (ob.tr _ _ _ h h2)
     ·cases h3:lb (f y) (f z)with
      | true=>exact .inl (ob.tr _ _ _ h h3)
      | false=>rw[<-ob.tri _ _ h3 h2];exact .inl h
   | false=>
     rw[ob.tri _ _ h h1];rcases h2 with h2|⟨h2,h2'⟩
     ·exact .inl h2
     ·exact .inr ⟨h2,og.tr _ _ _ h1' h2'⟩
 tri x y h1 h2:=by
  simp only[q0U,q3U,q0Q]at h1 h2;obtain⟨a1,a2⟩:=h1;obtain⟨b1,b2⟩:=h2;rcases a2 with a2|a2
  ·rw[b1]at a2;cases a2
  rcases b2 with b2|b2
  ·rw[a1]at b2;cases b2
  exact inj _ _ (ob.tri _ _ a1 b1) (og.tri _ _ a2 b2)
def a4R{α:Type}(lt:α->α->Bool):List α->List α->Bool
 | _,[]=>false
 | [],_::_=>true
 | x::a,y::b=>lt x y||(!lt y x&&a4R lt a b)
def STO.lex{lt:α->α->Bool}(o:STO lt):STO (a4R lt) where
 irr x:=by
  induction x with
  | nil=>rfl
  | cons x a ih=>rw[a4R,o.irr,ih];rfl
 tr x:=by
  induction x with
  | nil=>
    intro y z h1 h2;cases z with
    | nil=>cases y<;>simp[a4R]at h2
    | cons z c=>rfl
  | cons x a ih=>
    intro y z h1 h2;cases y with
    | nil=>simp[a4R]at h1
    | cons y b=>
      cases z with
      | nil=>simp[a4R]at h2
      | cons z c=>
        simp only[a4R,q2Q,W3,q0M]at h1 h2 ⊢;rcases h1 with h1|⟨h1,h1'⟩
        ·rcases h2 with h2|⟨h2,h2'⟩
         ·exact .inl (o.tr _ _ _ h1 h2)
         ·cases h:lt y z with
          | true=>exact .inl (o.tr _ _ _ h1 h)
          | false=>rw[<-o.tri _ _ h h2];exact .inl h1
        ·cases h:lt x y with
         | true=>
           rcases h2 with h2|⟨h2,h2'⟩
           ·exact .inl (o.tr _ _ _ h h2)
           ·cases h3:lt y z with
            | true=>exact .inl (o.tr _ _ _ h h3)
            | false=>rw[<-o.tri _ _ h3 h2];exact .inl h
         | false=>
           rw[o.tri _ _ h h1];rcases h2 with h2|⟨h2,h2'⟩
           ·exact .inl h2
           ·exact .inr ⟨h2,ih _ _ h1' h2'⟩
 tri x:=by
  induction x with
  | nil=>
    intro y h1 h2;cases y with
    | nil=>rfl
    | cons y b=>simp[a4R]at h1
  | cons x a ih=>
    intro y h1 h2;cases y with
    | nil=>simp[a4R]at h2
    | cons y b=>
      simp only[a4R,q0U,q3U,q0Q]at h1 h2;obtain⟨a1,a2⟩:=h1;obtain⟨b1,b2⟩:=h2;rcases a2 with a2|a2
      ·rw[b1]at a2;cases a2
      rcases b2 with b2|b2
      ·rw[a1]at b2;cases b2
      rw[o.tri _ _ a1 b1,ih _ a2 b2]
def vLt(a b:d4):Bool:=Op.bytesLess a.S b.S||(!Op.bytesLess b.S a.S&&iLt a.N b.N)
def b4w:STO vLt:=STO.two o0 d5U d4.S d4.N fun x y h1 h2=>by cases x;cases y;simp_all
def bLt(a b:c7):Bool:=Op.bytesLess a.Var b.Var||(!Op.bytesLess b.Var a.Var&&vLt a.Val b.Val)
def c6S:STO bLt:=STO.two o0 b4w c7.Var c7.Val fun x y h1 h2=>by cases x;cases y;simp_all
def a0q(a b:d6):Bool:=a4R bLt a.Binds b.Binds
def a3d:STO a0q where
 irr x:=c6S.lex.irr _
 tr x y z:=c6S.lex.tr _ _ _
 tri x y h1 h2:=by
  have:=c6S.lex.tri _ _ h1 h2;cases x;cases y;simp_all
def c8z{a b:d4}(ha:n0 a=true)(hb:n0 b=true):vLt a b=y7 a b:=by
 have hn:∀v:d4,n0 v=true->(v.S==[])=false->v.N=0:=by
  intro v hv hs;rw[n0,hs,V2,W3]at hv;simpa using hv.1
 rw[vLt,y7];cases h1:a.S==[]with
 | true=>
   rw[beq_iff_eq]at h1;cases h2:b.S==[]with
   | true=>
     rw[beq_iff_eq]at h2;rw[h1,h2];rfl
   | false=>
     rw[h1];cases hbs:b.S with
     | nil=>rw[hbs]at h2;cases h2
     | cons x y=>rfl
 | false=>
   rw[Bool.false_and,V2,hn a ha h1];cases h2:b.S==[]with
   | true=>
     rw[beq_iff_eq]at h2;rw[h2];cases has:a.S with
     | nil=>rw[has]at h1;cases h1
     | cons x y=>rfl
   | false=>
     rw[hn b hb h2,d5U.irr,q2J,q5N]
def d8a(n:Nat)(f:Nat->Int):a3R (n+1) f=if f 0=0 then a3R n (fun i=>f (i+1))else f 0:=by
 induction n with
 | zero=>simp[a3R]
 | succ n ih=>
   rw[a3R,ih];by_cases h:f 0=0
   ·rw[if_pos h,if_pos h,a3R]
   ·rw[if_neg h,if_neg h,if_neg h]
def okB(l:List c7):Prop:=∀b∈l,n0 b.Val=true
def c1j:∀{a b:List c7},okB a->okB b->a.map c7.Var=b.map c7.Var->a4L a b=bif a4R bLt a b then-1 else bif a4R bLt b a then 1 else 0
 | [],[],_,_,_=>rfl
 | [],y::b,_,_,h=>by cases h
 | x::a,[],_,_,h=>by cases h
 | x::a,y::b,ha,hb,h=>by
   simp only[q0E,V4]at h;have ih:=c1j (a:=a) (b:=b) (fun z hz=>ha z (by simp[hz])) (fun z hz=>hb z (by simp[hz])) h.2;have hx:=ha x z0D;have hy:=hb y z0D;rw[a4L]at ih;have e1:bLt x y=y7 x.Val y.Val:=by rw[bLt,h.1,a1r,c8z hx hy];simp
   have e2:bLt y x=y7 y.Val x.Val:=by rw[bLt,h.1,a1r,c8z hy hx];simp
   rw[a4L,V7,d8a];simp only[q1R,q2I,a4R,e1,e2,ih];rw[b0F];cases h1:y7 x.Val y.Val with
   | true=>rfl
   | false=>
     cases h2:y7 y.Val x.Val with
     | true=>rfl
     | false=>rfl
def c1p(args:List d5)(e:d6)(row:d3):Option d6:=bif (a6N e args row).2 then some (a6N e args row).1 else none
def a5w(args:List d5)(rows:List d3)(e:d6):List d6:=rows.filterMap (c1p args e)
def y4(args:List d5)(rows:List d3)(now:List d6):List d6:=now.flatMap (a5w args rows)
def a1m(r:c8)(s:c4):Nat->Option (List d6)
 | 0=>some [⟨[]⟩]
 | n+1=>(a1m r s n).bind fun now=>bif (r.Body.getD n default).Kind==1 then(bif decide ((y4 (r.Body.getD n default).Atom.Args (k6 s (r.Body.getD n default).Atom.Name).1.Rows now).length<=2000)then some (y4 (r.Body.getD n default).Atom.Args (k6 s (r.Body.getD n default).Atom.Name).1.Rows now)else none)else some now
def a1j(r:c8)(s:c4):List d6×Bool:=match a1m r s r.Body.length with|some l=>(l,true)|none=>([],false)
def c1C{r:c8}{s:c4}{i:Nat}(h:a1m r s i=none):∀{n:Nat},i<=n->a1m r s n=none
 | 0,hn=>by
   obtain rfl:i=0:=by omega
   exact h
 | n+1,hn=>by
   rcases q3J i (n+1)with h1|h1
   ·rw[a1m,c1C h (show i<=n by omega)];rfl
   ·obtain rfl:i=n+1:=by omega
    exact h
def c5u(args:List d5)(rows:List d3)(now:List d6)(j:Nat):(y4 args rows (now.take j)).length<=(y4 args rows now).length:=by
 conv=>rhs;rw[<-q1K j now]
 rw[y4,y4,q4C,V5];omega
def d4q{j:Nat}(h:j<now.length):y4 args rows (now.take (j+1))=y4 args rows (now.take j)++a5w args rows (now.getD j default):=by
 rw[j3 default h,y4,y4,q4C];simp
def e1M{e c:d6}(h:k<rows.length)(hf:c1p args e (rows.getD k default)=some c):a5w args (rows.take (k+1)) e=a5w args (rows.take k) e++[c]:=by
 rw[j3 default h,a5w,a5w,List.filterMap_append,List.filterMap_cons,hf];rfl
def rows_no{e:d6}(h:k<rows.length)(hf:c1p args e (rows.getD k default)=none):a5w args (rows.take (k+1)) e=a5w args (rows.take k) e:=by
 rw[j3 default h,a5w,a5w,List.filterMap_append,List.filterMap_cons,hf];simp
def d8F(args:List d5)(rows:List d3)(e:d6):(a5w args rows e).length<=rows.length:=List.length_filterMap_le _ _
def c1q{e:d6}{row:d3}(h:(a6N e args row).2=true):c1p args e row=some (a6N e args row).1:=by rw[c1p,h];rfl
def c7l{e:d6}{row:d3}(h:(a6N e args row).2=false):c1p args e row=none:=by rw[c1p,h];rfl
def c5W{r:c8}{s:c4}{j:Nat}(hj:a1m r s i=some now)(hi:i<r.Body.length)(hk:((r.Body.getD i default).Kind==1)=true)(hl:2000<(y4 (r.Body.getD i default).Atom.Args (k6 s (r.Body.getD i default).Atom.Name).1.Rows (now.take j)).length):a1j r s=([],false):=by
 have h1:=c5u (r.Body.getD i default).Atom.Args (k6 s (r.Body.getD i default).Atom.Name).1.Rows now j;have h2:a1m r s (i+1)=none:=by rw[a1m,hj,q3V,hk,W8,V3 z0C];rfl
 rw[a1j,c1C h2 (show i+1<=r.Body.length by omega)]
def d0o{r:c8}{s:c4}(hj:a1m r s i=some now)(hk:((r.Body.getD i default).Kind==1)=true)(hl:(y4 (r.Body.getD i default).Atom.Args (k6 s (r.Body.getD i default).Atom.Name).1.Rows now).length<=2000):a1m r s (i+1)=some (y4 (r.Body.getD i default).Atom.Args (k6 s (r.Body.getD i default).Atom.Name).1.Rows now):=by
 rw[a1m,hj,q3V,hk,W8,V0 hl];rfl
def c1D{r:c8}{s:c4}(hj:a1m r s i=some now)(hk:((r.Body.getD i default).Kind==1)=false):a1m r s (i+1)=some now:=by
 rw[a1m,hj,q3V,hk];rfl
def d0p{r:c8}{s:c4}(hj:a1m r s r.Body.length=some now):a1j r s=(now,true):=by rw[a1j,hj]
def b5I{r:c8}{s:c4}(h:a1m r s n=some now):now.length<=2000:=by
 induction n generalizing now with
 | zero=>simp only[a1m,W0]at h;subst h;simp
 | succ n ih=>
   rw[a1m]at h;obtain⟨d,h1,h2⟩:=q2T.1 h;cases hk:(r.Body.getD n default).Kind==1 with
   | false=>rw[hk,V2,W0]at h2;subst h2;exact ih h1
   | true=>
     rw[hk,W8]at h2;by_cases hl:(y4 (r.Body.getD n default).Atom.Args (k6 s (r.Body.getD n default).Atom.Name).1.Rows d).length<=2000
     ·rw[V0 hl,W8,W0]at h2;subst h2;exact hl
     ·rw[V3 hl]at h2;cases h2
def ExtB(b c:List c7):Prop:=∀s x,Back b s x->Back c s x
def ExtB.refl(b:List c7):ExtB b b:=fun _ _ h=>h
def ExtB.trans{d:List c7}(h1:ExtB b c)(h2:ExtB c d):ExtB b d:=fun s x h=>h2 s x (h1 s x h)
def dom1(vs:List (List UInt8))(t:d5):List (List UInt8):=bif t.Var==[]then vs else a1f Op.bytesLess vs t.Var
def e1b{t:d5}{v:d4}(h:c4r b t v=some c):c.map c7.Var=dom1 (b.map c7.Var) t:=by
 rcases b1T h with⟨rfl,h1⟩|⟨rfl,h1,h2⟩
 ·rw[dom1];cases ht:t.Var==[]with
  | true=>rfl
  | false=>
    unfold Back at h1;rw[k9,ht,V2]at h1;rw[V2,a1f,if_pos (e1E.1 (by rw[h1]))]
 ·rw[dom1,h1,V2,a4k v (b0k h2)]
def d0j{b:List c7}{args:List d5}{vs:List d4}:∀{n:Nat} {c:List c7},n<=args.length->a2L b args vs n=some c->c.map c7.Var=(args.take n).foldl dom1 (b.map c7.Var)
 | 0,c,_,h=>by
   simp only[a2L,W0]at h;subst h;rfl
 | n+1,c,hn,h=>by
   rw[a2L]at h;obtain⟨d,h1,h2⟩:=q2T.1 h;rw[j3 default z0C,q3A,<-d0j z0C h1,e1b h2];rfl
structure FitFact(args:List d5)(e:d6)(row:d3)(c:d6):Prop where
 len:args.length=row.V.length
 back:∀i,i<args.length->Back c.Binds (args.getD i default) (row.V.getD i default)
 ext:ExtB e.Binds c.Binds
 dom:c.Binds.map c7.Var=args.foldl dom1 (e.Binds.map c7.Var)
 ok:EnvS e.Binds->args.all z9=true->row.V.all n0=true->EnvS c.Binds
 lenB:c.Binds.length<=e.Binds.length+args.length
def a3y{e:d6}{row:d3}{c:d6}(h:c1p args e row=some c):FitFact args e row c:=by
 cases h2:(a6N e args row).2 with
 | false=>rw[c7l h2]at h;cases h
 | true=>
   rw[c1q h2,W0]at h;subst h;obtain⟨hl,hf⟩:=fitR_on h2;refine⟨hl,(b5C hf).1,(b5C hf).2, ?_,fun hE ha hv=>hE.fits ha hv (q0C _) z0C hf,b3A hf⟩;rw[d0j (q0C _) hf,List.take_length]
def d8i(hn:(l.map c7.Var).Nodup){b:c7}(hb:b∈l):l.find? (fun x=>x.Var==b.Var)=some b:=by
 induction l with
 | nil=>cases hb
 | cons a l ih=>
   rw[q0E,q1I]at hn;rw[q3S];rcases V9.1 hb with rfl|hb
   ·rw[beq_self_eq_true]
   ·have:(a.Var==b.Var)=false:=beq_eq_false_iff_ne.2 fun e=>hn.1 (e▸q0X.2 ⟨b,hb,rfl⟩)
    rw[this];exact ih hn.2 hb
def d1m(h:a8s v=true):(v==[])=false:=by
 cases v with
 | nil=>revert h;decide
 | cons a v=>rfl
def EnvS.nodup(h:EnvS l):(l.map c7.Var).Nodup:=SS.nodup o0 h.2
def EnvS.at(h:EnvS l){b:c7}(hb:b∈l):a0a ⟨l⟩ b.Var=(b.Val,true):=by
 rw[a3e,d8i h.nodup hb]
def d5P{a:List c7}(ha:EnvS a)(hb:EnvS b)(hv:a.map c7.Var=b.map c7.Var)(h1:ExtB a c)(h2:ExtB b c):a=b:=by
 have key:∀{l:List c7},EnvS l->ExtB l c->l=(l.map c7.Var).map fun v=>⟨v,(a0a ⟨c⟩ v).1⟩:=by
  intro l hl he;rw[q4L];refine(List.map_id _).symm.trans (q3H fun b hb=>?_);have h3:=he ⟨b.Var,default⟩ b.Val (by
   unfold Back;rw[k9];simp only[d1m (hl.1 b hb).1,V2];exact hl.at hb)
  unfold Back at h3;rw[k9]at h3;simp only[d1m (hl.1 b hb).1,V2]at h3;simp only[Function.comp,h3,id]
 rw[key ha h1,key hb h2,hv]
structure Alk(vs:List (List UInt8))(l:List d6):Prop where
 nd:l.Nodup
 ok:∀e∈l,EnvS e.Binds
 dom:∀e∈l,e.Binds.map c7.Var=vs
def e0g{row row':d3}(hl:args.length=row.V.length)(hl':args.length=row'.V.length)(h:∀i,i<args.length->Back c (args.getD i default) (row.V.getD i default))(h':∀i,i<args.length->Back c (args.getD i default) (row'.V.getD i default)):row=row':=by
 have:=(b5A hl h).symm.trans (b5A hl' h');exact(Prod.mk.inj this).1
def Alk.stage{vs:List (List UInt8)}{l:List d6}(h:Alk vs l)(ha:args.all z9=true)(hr:rows.Nodup)(hv:∀x∈rows,x.V.all n0=true):Alk (args.foldl dom1 vs) (y4 args rows l):=by
 have mem:∀{c:d6},c∈y4 args rows l->∃e∈l,∃row∈rows,c1p args e row=some c:=by
  intro c hc;obtain⟨e,he,hc⟩:=q2W.1 hc;obtain⟨row,hrow,hf⟩:=q4Z.1 hc;exact⟨e,he,row,hrow,hf⟩
 refine⟨?_,fun c hc=>?_,fun c hc=>?_⟩
 ·unfold List.Nodup;rw[y4,List.pairwise_flatMap];refine⟨fun e he=>?_, ?_⟩
  ·rw[a5w,List.pairwise_filterMap];refine List.Pairwise.imp ?_ hr;intro x y hxy c hc d hd hcd;subst hcd;have f1:=a3y hc;have f2:=a3y hd;exact hxy (e0g f1.len f2.len f1.back f2.back)
  ·refine List.Pairwise.imp_of_mem ?_ h.nd;intro e e' he he' hne c hc d hd hcd;subst hcd;obtain⟨_,_,hf⟩:=q4Z.1 hc;obtain⟨_,_,hf'⟩:=q4Z.1 hd;have f1:=a3y hf;have f2:=a3y hf';have:=d5P (h.ok e he) (h.ok e' he') ((h.dom e he).trans (h.dom e' he').symm) f1.ext f2.ext;exact hne (by cases e;cases e';simp_all)
 ·obtain⟨e,he,row,hrow,hf⟩:=mem hc;exact(a3y hf).ok (h.ok e he) ha (hv row hrow)
 ·obtain⟨e,he,row,hrow,hf⟩:=mem hc;rw[(a3y hf).dom,h.dom e he]
def eqS(l:d7)(b:List c7):List c7:=bif a0R l then(bif (k9 ⟨b⟩ l.A).2 then(bif (k9 ⟨b⟩ l.B).2 then b else a1n b l.B.Var (k9 ⟨b⟩ l.A).1)else(bif (k9 ⟨b⟩ l.B).2 then a1n b l.A.Var (k9 ⟨b⟩ l.B).1 else b))else b
def eqP(r:c8)(b:List c7):Nat->List c7
 | 0=>b
 | n+1=>eqS (r.Body.getD n default) (eqP r b n)
def a6c(r:c8)(b:List c7):List c7:=eqP r b r.Body.length
def eqI(r:c8)(b:List c7):Nat->List c7
 | 0=>b
 | k+1=>a6c r (eqI r b k)
def IsEq(r:c8)(b c:List c7):Prop:=∃k,eqI r b k=c/\a6c r c=c
def c1m{r:c8}{b c:List c7}{k:Nat}(h:eqI r b k=c)(hp:a6c r c=c):∀m,eqI r b (k+m)=c
 | 0=>h
 | m+1=>by rw[show k+(m+1)=(k+m)+1 from rfl,eqI,c1m h hp m,hp]
def IsEq.uniq{r:c8}{d:List c7}(h1:IsEq r b c)(h2:IsEq r b d):c=d:=by
 obtain⟨k,h1,p1⟩:=h1;obtain⟨m,h2,p2⟩:=h2;have a:=c1m h1 p1 m;have b:=c1m h2 p2 k;rw[q3Z]at b;exact a.symm.trans b
open Classical in
noncomputable def eqR(r:c8)(b:List c7):List c7:=if h:∃c,IsEq r b c then Classical.choose h else b
def c7h{r:c8}{c:List c7}(h:IsEq r b c):eqR r b=c:=by
 have hx:∃c,IsEq r b c:=⟨c,h⟩
 rw[eqR,dif_pos hx];exact(q5X hx).uniq h
inductive EqStep(l:d7)(b:List c7):List c7->Prop
 | same:EqStep l b b
 | right:a0R l=true->(k9 ⟨b⟩ l.A).2=true->(k9 ⟨b⟩ l.B).2=false->EqStep l b (a1n b l.B.Var (k9 ⟨b⟩ l.A).1)
 | left:a0R l=true->(k9 ⟨b⟩ l.B).2=true->(k9 ⟨b⟩ l.A).2=false->EqStep l b (a1n b l.A.Var (k9 ⟨b⟩ l.B).1)
def a4N(l:d7)(b:List c7):EqStep l b (eqS l b):=by
 rw[eqS];cases h0:a0R l with
 | false=>exact .same
 | true=>
   cases h1:(k9 ⟨b⟩ l.A).2 with
   | true=>
     cases h2:(k9 ⟨b⟩ l.B).2 with
     | true=>exact .same
     | false=>exact .right h0 h1 h2
   | false=>
     cases h2:(k9 ⟨b⟩ l.B).2 with
     | true=>exact .left h0 h2 h1
     | false=>exact .same
def c5T{l:d7}(h0:a0R l=true)(h1:(k9 ⟨b⟩ l.A).2=true)(h2:(k9 ⟨b⟩ l.B).2=false):eqS l b=a1n b l.B.Var (k9 ⟨b⟩ l.A).1:=by rw[eqS,h0,h1,h2];rfl
def d0h{l:d7}(h0:a0R l=true)(h1:(k9 ⟨b⟩ l.B).2=true)(h2:(k9 ⟨b⟩ l.A).2=false):eqS l b=a1n b l.A.Var (k9 ⟨b⟩ l.B).1:=by rw[eqS,h0,h1,h2];rfl
def d0i{l:d7}(h0:a0R l=false):eqS l b=b:=by rw[eqS,h0];rfl
def EqStep.len{l:d7}(h:EqStep l b c):c=b\/c.length=b.length+1:=by
 cases h with
 | same=>exact .inl rfl
 | right _ _ _=>exact .inr (a3G _ _ _)
 | left _ _ _=>exact .inr (a3G _ _ _)
def c7g(r:c8)(b:List c7):∀n,eqP r b n=b\/b.length<(eqP r b n).length
 | 0=>.inl rfl
 | n+1=>by
   have h1:=c7g r b n;have h2:=(a4N (r.Body.getD n default) (eqP r b n)).len;rw[eqP];rcases h1 with h1|h1
   ·rw[h1]at h2 ⊢;rcases h2 with h2|h2
    ·exact .inl h2
    ·exact .inr (by omega)
   ·rcases h2 with h2|h2
    ·rw[h2];exact .inr h1
    ·exact .inr z0C
def c6h{r:c8}(h:(a6c r b).length<=b.length):a6c r b=b:=by
 rcases c7g r b r.Body.length with h1|h1
 ·exact h1
 ·rw[a6c]at h;omega
def d6g{r:c8}{l:d7}(hl:l∈r.Body){t:d5}(ht:t=l.A\/t=l.B)(hv:(t.Var==[])=false):t.Var∈a8v r:=by
 refine q2W.2 ⟨l,hl,W9.2 (.inr (a0u.2 ⟨t, ?_,by rw[a0C,hv];rfl,rfl⟩))⟩;rcases ht with rfl|rfl
 ·exact q2M
 ·exact q1W _ (q0A.2 rfl)
def d0O{r:c8}(x:d4)(hv:v∈a8v r)(hn:(a0a ⟨b⟩ v).2=false):miss r ((a1n b v x).map c7.Var)<miss r (b.map c7.Var):=by
 have hm:=b0k hn;refine b5B (fun y hy=>?_) ⟨v,hv, ?_, ?_⟩
 ·simp only[q0M,q5G,q1J]at hy ⊢;intro h;rw[a4k x hm]at hy;exact hy (b4j.2 (.inr h))
 ·simp only[q0M,q5G,q1J];exact hm
 ·simp only[q0Q,q5G,V8];rw[a4k x hm];exact b4j.2 (.inl rfl)
def EqStep.miss{r:c8}{l:d7}(hl:l∈r.Body)(h:EqStep l b c):c=b\/(c.length=b.length+1/\miss r (c.map c7.Var)<miss r (b.map c7.Var)):=by
 cases h with
 | same=>exact .inl rfl
 | right _ _ h=>
   have h2:=a1i h;exact .inr ⟨a3G _ _ _,d0O _ (d6g hl (.inr rfl) h2.1) h2.2⟩
 | left _ _ h=>
   have h2:=a1i h;exact .inr ⟨a3G _ _ _,d0O _ (d6g hl (.inl rfl) h2.1) h2.2⟩
def a4M{r:c8}{b:List c7}:∀{n:Nat},n<=r.Body.length->(eqP r b n).length+miss r ((eqP r b n).map c7.Var)<=b.length+miss r (b.map c7.Var)/\(eqP r b n=b\/miss r ((eqP r b n).map c7.Var)<miss r (b.map c7.Var))
 | 0,_=>⟨q0C _,.inl rfl⟩
 | n+1,hn=>by
   obtain⟨i1,i2⟩:=a4M (r:=r) (b:=b) (n:=n) z0C;have hm:r.Body.getD n default∈r.Body:=by rw[j7 default z0C];exact q1E _
   rw[eqP];rcases(a4N (r.Body.getD n default) (eqP r b n)).miss hm with h|⟨h1,h2⟩
   ·rw[h];exact⟨i1,i2⟩
   ·refine⟨z0C,.inr ?_⟩;rcases i2 with i2|i2
    ·rw[i2]at h2 ⊢;exact h2
    ·omega
def EqStep.ext{l:d7}(h:EqStep l b c):ExtB b c:=by
 cases h with
 | same=>exact ExtB.refl _
 | right _ _ h=>exact fun s x hs=>hs.set (a1i h).2
 | left _ _ h=>exact fun s x hs=>hs.set (a1i h).2
def d5O(r:c8)(b:List c7):∀n,ExtB b (eqP r b n)
 | 0=>ExtB.refl _
 | n+1=>(d5O r b n).trans (a4N _ _).ext
def d5N(r:c8)(b:List c7):∀k,ExtB b (eqI r b k)
 | 0=>ExtB.refl _
 | k+1=>(d5N r b k).trans (d5O r _ _)
def c3v{t:d5}(h:EnvS b)(ht:z9 t=true)(hv:(k9 ⟨b⟩ t).2=true):n0 (k9 ⟨b⟩ t).1=true:=by
 rw[k9]at hv ⊢;cases hn:t.Var==[]with
 | true=>
   rw[z9,hn]at ht;simp only[q5B,V2,W3]at ht;exact ht.1
 | false=>
   rw[hn,V2]at hv;rw[V2];rw[a3e]at hv ⊢;cases hf:b.find? (fun x=>x.Var==t.Var)with
   | none=>rw[hf]at hv;cases hv
   | some y=>exact(h.1 y (q5L hf)).2
def EqStep.ok{r:c8}{l:d7}(hr:k7 r=true)(hl:l∈r.Body)(h:EqStep l b c)(hb:EnvS b):EnvS c:=by
 have hlit:a0R l=true->z9 l.A=true/\z9 l.B=true:=by
  intro he;simp only[k7,W3,q0K]at hr;have:=hr.2 l hl;simp only[a0R,W3]at he;rw[a2W,he.1,W8]at this;simp only[W3]at this;exact⟨this.1.2,this.2⟩
 cases h with
 | same=>exact hb
 | right h0 h1 h2=>exact hb.set (c3s (hlit h0).2 (a1i h2).1) (c3v hb (hlit h0).1 h1) (a1i h2).2
 | left h0 h1 h2=>exact hb.set (c3s (hlit h0).1 (a1i h2).1) (c3v hb (hlit h0).2 h1) (a1i h2).2
def e0U{r:c8}{b:List c7}(hr:k7 r=true)(hb:EnvS b):∀{n:Nat},n<=r.Body.length->EnvS (eqP r b n)
 | 0,_=>hb
 | n+1,hn=>(a4N _ _).ok hr z04 (e0U hr hb z0C)
def e0T{r:c8}{b:List c7}(hr:k7 r=true)(hb:EnvS b):∀k,EnvS (eqI r b k)
 | 0=>hb
 | k+1=>e0U hr (e0T hr hb k) (q0C _)
def c1l{r:c8}{b:List c7}:∀k,(eqI r b k).length+miss r ((eqI r b k).map c7.Var)<=b.length+miss r (b.map c7.Var)
 | 0=>q0C _
 | k+1=>q2X (a4M (q0C _)).1 (c1l k)
def d5W(r:c8):∀(m:Nat) (b:List c7),miss r (b.map c7.Var)<=m->∃c,IsEq r b c
 | 0,b,h=>⟨b,0,rfl,by
   rcases(a4M (r:=r) (b:=b) (q0C _)).2 with h1|h1
   ·exact h1
   ·omega⟩
 | m+1,b,h=>by
   rcases(a4M (r:=r) (b:=b) (q0C _)).2 with h1|h1
   ·exact⟨b,0,rfl,h1⟩
   ·obtain⟨c,k,h2,h3⟩:=d5W r m (a6c r b) (by rw[a6c];omega);refine⟨c,k+1, ?_,h3⟩;have key:∀k,eqI r (a6c r b) k=eqI r b (k+1):=by
     intro k
     induction k with
     | zero=>rfl
     | succ k ih=>rw[eqI,ih];rfl
    rw[<-key];exact h2
def c1n(r:c8)(b:List c7):IsEq r b (eqR r b):=by
 obtain⟨c,h⟩:=d5W r _ b (q0C _);rw[c7h h];exact h
def b9t(r:c8)(b:List c7):ExtB b (eqR r b):=by
 obtain⟨k,h,_⟩:=c1n r b;rw[<-h];exact d5N r b k
def e0V{r:c8}(hr:k7 r=true)(hb:EnvS b):EnvS (eqR r b):=by
 obtain⟨k,h,_⟩:=c1n r b;rw[<-h];exact e0T hr hb k
def eqR_len(r:c8)(b:List c7):(eqR r b).length<=b.length+(a8v r).length:=by
 obtain⟨k,h,_⟩:=c1n r b;have:=c1l (r:=r) (b:=b) k;have:=b9y r (b.map c7.Var);rw[h]at*;omega
def domE(l:d7)(vs:List (List UInt8)):List (List UInt8):=bif a0R l then(bif u1 vs l.A then(bif u1 vs l.B then vs else a1f Op.bytesLess vs l.B.Var)else(bif u1 vs l.B then a1f Op.bytesLess vs l.A.Var else vs))else vs
def a5A(b:List c7)(t:d5):(k9 ⟨b⟩ t).2=u1 (b.map c7.Var) t:=by
 rw[k9,u1];cases t.Var==[]with
 | true=>rfl
 | false=>
   rw[V2,q3Q];rw[q3T,e1E,q2F]
def c7i(l:d7)(b:List c7):(eqS l b).map c7.Var=domE l (b.map c7.Var):=by
 rw[eqS,domE];cases a0R l with
 | false=>rfl
 | true=>
   rw[W8,W8,<-a5A,<-a5A];cases h1:(k9 ⟨b⟩ l.A).2 with
   | true=>
     cases h2:(k9 ⟨b⟩ l.B).2 with
     | true=>rfl
     | false=>exact a4k _ (b0k (a1i h2).2)
   | false=>
     cases h2:(k9 ⟨b⟩ l.B).2 with
     | true=>exact a4k _ (b0k (a1i h1).2)
     | false=>rfl
def c7f{r:c8}{b c:List c7}(h:b.map c7.Var=c.map c7.Var):∀n,(eqP r b n).map c7.Var=(eqP r c n).map c7.Var
 | 0=>h
 | n+1=>by rw[eqP,eqP,c7i,c7i,c7f h n]
def d5M{r:c8}{b c:List c7}(h:b.map c7.Var=c.map c7.Var):∀n,(eqI r b n).map c7.Var=(eqI r c n).map c7.Var
 | 0=>h
 | n+1=>c7f (d5M h n) _
def e1G{r:c8}(h:b.map c7.Var=c.map c7.Var)(hc:a6c r c=c):a6c r b=b:=by
 refine c6h ?_;have h1:=congrArg List.length (c7f (r:=r) h r.Body.length);have h2:=congrArg List.length h;simp only[q0F]at h1 h2;rw[a6c]at hc ⊢;rw[hc]at h1;omega
def eqR_dom{r:c8}(h:b.map c7.Var=c.map c7.Var):(eqR r b).map c7.Var=(eqR r c).map c7.Var:=by
 obtain⟨k,h1,p1⟩:=c1n r b;have h2:=d5M (r:=r) h k;rw[h1]at h2;have p2:a6c r (eqI r c k)=eqI r c k:=e1G h2.symm p1;rw[c7h (c:=eqI r c k) ⟨k,rfl,p2⟩,h2]
def b6v(s:c4)(e:d6)(l:d7):Bool:=bif l.Kind==2 then !a0K (k6 s l.Atom.Name).1.Rows (y8 e l.Atom.Args).1 else bif l.Kind==3 then a0k l.Op (k9 e l.A).1 (k9 e l.B).1 else true
def c2Q(s:c4)(e:d6)(l:d7):Bool:=bif l.Kind==3 then a0k l.Op (k9 e l.A).1 (k9 e l.B).1 else a0K (k6 s l.Atom.Name).1.Rows (y8 e l.Atom.Args).1==(l.Kind==1)
def a5Y(r:c8)(s:c4)(e:d6):Bool:=r.Body.all (b6v s e)
def a9L(r:c8)(s:c4)(e:d6):Bool:=r.Body.all (c2Q s e)
def Rooted(s:c4)(e:d6)(l:d7):Prop:=(l.Kind==1)=true->∃row∈(k6 s l.Atom.Name).1.Rows,l.Atom.Args.length=row.V.length/\∀i,i<l.Atom.Args.length->Back e.Binds (l.Atom.Args.getD i default) (row.V.getD i default)
def Rooted.ext{s:c4}{e c:d6}{l:d7}(h:Rooted s e l)(he:ExtB e.Binds c.Binds):Rooted s c l:=fun hk=>by
 obtain⟨row,h1,h2,h3⟩:=h hk;exact⟨row,h1,h2,fun i hi=>he _ _ (h3 i hi)⟩
def Rooted.has{s:c4}{e:d6}{l:d7}(h:Rooted s e l)(hk:(l.Kind==1)=true):a0K (k6 s l.Atom.Name).1.Rows (y8 e l.Atom.Args).1=true:=by
 obtain⟨row,h1,h2,h3⟩:=h hk;rw[show y8 e l.Atom.Args=(row,true)from b5A h2 h3,a0K,q3F];exact⟨row,h1,z0D⟩
def e1y{r:c8}(hr:k7 r=true){l:d7}(hl:l∈r.Body):l.Kind=1\/l.Kind=2\/l.Kind=3:=by
 simp only[k7,W3,q0K]at hr;have:=hr.2 l hl;rw[a2W]at this;cases h:l.Kind==3 with
 | true=>exact .inr (.inr z01)
 | false=>
   rw[h]at this;simp only[V2,W3,q2Q,beq_iff_eq]at this;omega
def e1g{r:c8}{s:c4}{e:d6}(hr:k7 r=true)(h:∀l∈r.Body,Rooted s e l):a9L r s e=a5Y r s e:=by
 rw[a9L,a5Y,q3T,q0K,q0K];refine forall_congr' fun l=>forall_congr' fun hl=>?_
 rw[c2Q,b6v];rcases e1y hr hl with hk|hk|hk
 ·have:=(h l hl).has (by rw[hk];rfl);rw[this,hk];simp
 ·rw[hk];cases a0K (k6 s l.Atom.Name).1.Rows (y8 e l.Atom.Args).1<;>simp
 ·rw[hk];exact Iff.rfl
def c3i{r:c8}(hr:k7 r=true){l:d7}(hl:l∈r.Body)(hk:(l.Kind==3)=false):l.Atom.Args.all z9=true/\l.Atom.Args.length<=6:=by
 simp only[k7,W3,q0K]at hr;have:=hr.2 l hl;rw[a2W,hk,V2]at this;simp only[a4p,K7]at this;obtain⟨⟨⟨⟨_,⟨⟨_,h6⟩,hall⟩⟩,_⟩,_⟩,_⟩:=this;exact⟨hall,z0C⟩
def z5{v:c4}(h:j6 v=true)(n:List UInt8):n8 (k6 v n).1=true:=by
 unfold k6;split
 ·rename_i h0;have hl:=d5V (p:=fun x:c9=>x.Name==n) (l:=v.Rels);have hm:(a1a (fun x:c9=>x.Name==n) v.Rels).toNat<v.Rels.length:=by omega
  have:=a1J h _ (q1E hm);simp only[j7 default hm];exact this
 ·rfl
def d8E{r:d8}(h:n8 r=true):r.Rows.Nodup:=by
 refine q2N.2 fun i j hi hj hij e=>?_
 have:=c8q h hij hj;rw[j7 default hi,j7 default hj,e,c6j]at this;omega
structure Jn(r:c8)(s:c4)(n:Nat)(l:List d6):Prop where
 alk:∃vs,Alk vs l
 root:∀e∈l,∀i,i<n->Rooted s e (r.Body.getD i default)
 len:∀e∈l,e.Binds.length<=6*n
def Jn.all{r:c8}{s:c4}(hr:k7 r=true)(hs:j6 s=true):∀{n:Nat} {l:List d6},n<=r.Body.length->a1m r s n=some l->Jn r s n l
 | 0,l,_,h=>by
   simp only[a1m,W0]at h;subst h;refine⟨⟨[],z0D,fun e he=>?_,fun e he=>?_⟩,fun e _ i hi=>z0C,fun e he=>?_⟩
   ·rw[q0A.1 he];exact⟨z0D,SS.nil⟩
   ·rw[q0A.1 he];rfl
   ·rw[q0A.1 he];simp
 | n+1,l,hn,h=>by
   have hm:r.Body.getD n default∈r.Body:=by rw[j7 default z0C];exact q1E _
   rw[a1m]at h;obtain⟨d,h1,h2⟩:=q2T.1 h;have ih:=Jn.all hr hs z0C h1;cases hk:(r.Body.getD n default).Kind==1 with
   | false=>
     rw[hk,V2,W0]at h2;subst h2;refine⟨ih.alk,fun e he i hi=>?_,fun e he=>by have:=ih.len e he;omega⟩;rcases q3J i n with h3|h3
     ·exact ih.root e he i h3
     ·obtain rfl:i=n:=by omega
      intro h4;rw[hk]at h4;cases h4
   | true=>
     rw[hk,W8]at h2;have h3:((r.Body.getD n default).Kind==3)=false:=by rw[beq_iff_eq]at hk;rw[hk];rfl
     obtain⟨ha,ha6⟩:=c3i hr hm h3;have hR:=z5 hs (r.Body.getD n default).Atom.Name;by_cases hl:(y4 (r.Body.getD n default).Atom.Args (k6 s (r.Body.getD n default).Atom.Name).1.Rows d).length<=2000
     ·rw[V0 hl,W8,W0]at h2;subst h2;obtain⟨vs,halk⟩:=ih.alk;refine⟨⟨_,halk.stage ha (d8E hR) fun x hx=>?_⟩,fun e he i hi=>?_,fun e he=>?_⟩
      ·obtain⟨i,hi,rfl⟩:=q1H hx;have:=a2j hR hi;rw[j7 default hi]at this;exact q0K.2 this
      ·obtain⟨e0,he0,hc⟩:=q2W.1 he;obtain⟨row,hrow,hf⟩:=q4Z.1 hc;have ff:=a3y hf;rcases q3J i n with h4|h4
       ·exact(ih.root e0 he0 i h4).ext ff.ext
       ·obtain rfl:i=n:=by omega
        exact fun _=>⟨row,hrow,ff.len,ff.back⟩
      ·obtain⟨e0,he0,hc⟩:=q2W.1 he;obtain⟨row,hrow,hf⟩:=q4Z.1 hc;have ff:=a3y hf;have:=ff.lenB;have:=ih.len e0 he0;omega
     ·rw[V3 hl]at h2;cases h2
noncomputable def eqE(r:c8)(e:d6):d6:=⟨eqR r e.Binds⟩
noncomputable def a6b(r:c8)(s:c4)(l:List d6):List d6:=(l.map (eqE r)).filter (a5Y r s)
noncomputable def o7(r:c8)(s:c4):List d6×Bool:=bif (a1j r s).2 then(m8 a0q [] (a6b r s (a1j r s).1),true)else([],false)
def d0T{r:c8}{s:c4}{vs:List (List UInt8)}{l:List d6}(hr:k7 r=true)(h:Alk vs l):∃ws,Alk ws (a6b r s l):=by
 have h0:∃ws,Alk ws (l.map (eqE r)):=by
  have hd:∀e∈l,∀e'∈l,(eqR r e.Binds).map c7.Var=(eqR r e'.Binds).map c7.Var:=fun e he e' he'=>eqR_dom ((h.dom e he).trans (h.dom e' he').symm)
  refine⟨((l.map (eqE r)).getD 0 default).Binds.map c7.Var, ?_,fun c hc=>?_,fun c hc=>?_⟩
  ·unfold List.Nodup;rw[q3R];refine List.Pairwise.imp_of_mem ?_ h.nd;intro e e' he he' hne heq;have h1:eqR r e.Binds=eqR r e'.Binds:=congrArg d6.Binds heq;have h2:=b9t r e'.Binds;rw[<-h1]at h2;have:=d5P (h.ok e he) (h.ok e' he') ((h.dom e he).trans (h.dom e' he').symm) (b9t r e.Binds) h2;exact hne (by cases e;cases e';simp_all)
  ·obtain⟨e,he,rfl⟩:=q0X.1 hc;exact e0V hr (h.ok e he)
  ·obtain⟨e,he,rfl⟩:=q0X.1 hc;cases l with
   | nil=>cases he
   | cons a l=>exact hd e he a q2M
 obtain⟨ws,h1⟩:=h0;exact⟨ws,h1.nd.filter _,fun e he=>h1.ok e (q1A.1 he).1,fun e he=>h1.dom e (q1A.1 he).1⟩
def b4n(r:c8)(s:c4)(l:List d6):(a6b r s l).length<=l.length:=by
 have:=q1X (a5Y r s) (l.map (eqE r));rw[q0F]at this;exact this
attribute [local irreducible] aft blk lpK retK AW A0d
attribute [local irreducible] RM
def c4z(e:d6)(v:List UInt8)(x:d4)(hpre:e.Binds.length<=1000):spZ 309 [(true,[w4 e.Binds]),(false,[.s v]),(true,[.i .i64 x.N,.s x.S])] [] (.one (true,[w4 ((⟨a1n e.Binds v x⟩:d6).Binds)])):=by
 refine sx' false true none Tryz.func309 (q' 3 [aX 1 0,aX 1 1,aX 2 2,aw [.sl j5]] (q' 8 [aG 0 3,ao (.mf 374 [.t 4]),ac 373 [9,10],aV 7] (.seq (q' 12 [am 7,aC .lss 12 0] (ci 13 (g' 14 [aG 0 3,aN,aV 7]))) (.seq (rm' [(true,0,f' 17 0 3),(true,1,l' 18 17),(true,3,m' 20 7),(true,4,l' 21 4),(true,5,e' 22 2 5),(true,6,o' 23 (.bld [.s,.i .i64,.s] [(0,1,.t 21),(1,2,.t 22)])),(false,2,c' 19 376 [18]),(false,7,o' 24 (.bsl 3 1 [.s,.i .i64,.s] [(0,.t 23)])),(false,8, c' 25 375 [19,20,24]),(false,9,o' 26 (.bld [.sl j5] [(0,1,.t 25)])),(false,10,s' 1 6 26)] [[0,1,2,3,4,5,7,6,8,9, 10]] [6,7,8,9,10,11]) .ret)))) [.c 6 true 1] [(376,[],b6P),(373,[],b6U),(375,[0,2],c5L)] ?_;intro hb hE;have hI:=e1i e.Binds v x;simp only[go_sem];(repeat' first|apply cj'|intro hc|apply a0f);(all_goals(try((first|refine a0B 6 rfl ?_);intro S hS B0 hB;simp only[go_sem,K6]at hS hB;(repeat(first|replace hS:=And.right hS|replace hS:=CJ.r hS));have Rr6:=congrArg (fun s:St=>s.sl 6) hS;have Rr18:=congrArg (fun s:St=>s.sl 18) hS;have Rr20:=congrArg (fun s:St=>s.sl 20) hS;have Rr23:=congrArg (fun s:St=>s.sl 23) hS;have Rb6:=congrArg (fun s:St=>s.bx 6) hS;have Rb7:=congrArg (fun s:St=>s.bx 7) hS;have Rb8:=congrArg (fun s:St=>s.bx 8) hS;have Rb9:=congrArg (fun s:St=>s.bx 9) hS;have Rb10:=congrArg (fun s:St=>s.bx 10) hS;have Rb11:=congrArg (fun s:St=>s.bx 11) hS;have Rb12:=congrArg (fun s:St=>s.bx 12) hS;clear hS;simp only[go_sem]at Rr6 Rr18 Rr20 Rr23 Rb6 Rb7 Rb8 Rb9 Rb10 Rb11 Rb12;(try clear hc);intro K hc;simp only[go_sem,Rr6,Rr18,Rr20,Rr23,Rb6,Rb7,Rb8,Rb9,Rb10,Rb11,Rb12,hB,K3]at hc ⊢;simp only[go_sem,Rr6,Rr18,Rr20,Rr23,Rb6,Rb7,Rb8,Rb9,Rb10,Rb11,Rb12,hB,K0]at hc ⊢;(first|(simp only[hc,K5];done)|((repeat' first|exact hc|apply W6);done)))));all_goals try exact om'
 ·rw[<-hI.2.2,d0U,V0 hc,W8]
 ·rw[d0U,V3 hc,V2]at hI;exact⟨⟨hI.1,hI.2.1⟩,z0C⟩
 ·rw[<-hI.2.2,d0U,V3 hc,V2]
noncomputable def a5H:CT:=k8 (fun(x:d6×(List UInt8)×d4) h=>c4z x.1 x.2.1 x.2.2 h)
@[go_sem] def d7d:=fun x0 v x1 x2=>nm' (fP' a5H rfl (⟨x0⟩,v,⟨x1,x2⟩))
def b9i(e:d6)(v:List UInt8)(x:d4)(hpre:e.Binds.length<=1000):spZ 340 [(true,[w4 e.Binds]),(false,[.s v]),(true,[.i .i64 x.N,.s x.S])] [] (.one (true,[w4 ((⟨a1n e.Binds v x⟩:d6).Binds)])):=by
 refine sx' false true none Tryz.func340 a8F [.c 6 true 1] [] ?_;intro hb hE;simp only[go_sem];repeat' first|apply cj'|intro hc|exact om'|fail
 refine lk' false [(true,14,0,200028)] [1,5,6,7,13,14] [10,12] [] (fun i:{i:Nat // i<=e.Binds.length}=>[(8,slV (.b ((e.Binds.take i.1).any (gtB v)))),(15,slV (.i .i64 i.1))]) (fun i=>[(14,[.ow 200028])]) (fun i=>[(200028,j5,(a8y (e.Binds.take i.1) v x).map c7.cells)]) (fun i=>e.Binds.length-i.1) (⟨0,z0D⟩) ?_;intro S0 hS0 i;obtain⟨i,hi⟩:=i;have hol:=d0S (e.Binds.take i) v x;rw[V1]at hol;have hsn:i<e.Binds.length->e.Binds.take (i+1)=e.Binds.take i++[e.Binds.getD i default]:=fun h=>j3 default h
 simp only[go_sem,hS0];repeat' first|apply cj'|intro hc|exact om'|fail
 ·have h1:=d0R (x:=x) hc.1 hc.2;rw[<-hsn z0C]at h1
  (refine lpK_n2 (⟨i+1,z0C⟩) _ z0E ?_;simp only[go_sem,hS0]<;>repeat' first|apply W6|exact on'|fail)
  all_goals(first|exact congrArg (List.map c7.cells) h1.1.symm|(rw[h1.2];done)|(rw[h1.2];exact congrArg _ hc.1.symm))
 ·have h1:=d6j (x:=x) hc;rw[<-hsn z0C]at h1
  (refine lpK_n2 (⟨i+1,z0C⟩) _ z0E ?_;simp only[go_sem,hS0]<;>repeat' first|apply W6|exact on'|fail)
  all_goals(first|exact congrArg (List.map c7.cells) h1.1.symm|(rw[h1.2];done)|(rw[h1.2];exact congrArg _ hc.1.symm))
 ·rw[i4 z0C]at hc ⊢;rw[a8y,hc,V2,b6G x hc]
 ·rw[i4 z0C]at hc ⊢;rw[a8y,hc,W8]
noncomputable def a8j:CT:=k8 (fun(x:d6×(List UInt8)×d4) h=>b9i x.1 x.2.1 x.2.2 h)
@[go_sem] def d3A:=fun x0 v x1 x2=>nm' (fP' a8j rfl (⟨x0⟩,v,⟨x1,x2⟩))
def c7N(e:d6)(args:List d5)(row:d3)(hpre:e.Binds.length<=500/\row.V.length<=6):spZ 308 [(true,[w4 e.Binds]),(false,[l8 args]),(true,[o5 row.V])] [] (.tup [(true,[w4 (((a6N e args row).1).Binds)]),(false,[.b ((a6N e args row).2)])]):=by
 refine sx' false true none Tryz.func308 (q' 5 [ax (o' 3 (.box 1 (.t 0))),aX 1 2,aw [.sl j5],aU false] (.seq (q' 12 [am 1,aN,aG 0 5,aN,aD .neq 13 16] (ci 17 (q' 18 [ao (.bld [.sl j5] []),aS 1 6 18,ab 7 false] .ret))) (.seq (q' 19 [am 1,aN,aK 0] (fO 0 22 [ar 21 20] 22 1 (q' 23 [am 21,ai 3 19 21,aE 3,ax (w' 9 [.s, .i .i64,.s]),av 8 23,aS 3 9 25] (q' 27 [ae 1 3,ae 3 9,ac 266 [27,28],aV 26,aZ 26 0,aZ 26 1,ax (w' 10 [.i .i64,.s]),aS 2 10 30,aV 11] (.block 2 (q' 33 [am 11,aO 33,aV 32] (cd 32 (.rego [(true,1,f' 36 0 9),(true,2,l' 37 36),(true,3,f' 38 0 5),(true,4,l' 39 38),(true,5,m' 40 8),(true,6,i' 41 2 39 40),(true,7,e' 42 2 41),(false,0,e' 35 1 3),(false,8,c' 43 309 [35,37,42]),(false,9,s' 1 3 43)] [18,19,10,11]) (.seq (G' 45 [ae 2 10,aG 0 5,am 8,aI 2,aE 2,ao (.eqs true [.i .i64,.s] (.t 45) (.t 50)),aV 44]) (ci 44 (q' 52 [ao (.bld [.sl j5] []),aS 1 6 52,ab 7 false] .ret)))))))) (g' 53 [aA 21]))) (q' 54 [ae 1 3,aS 1 6 54,ab 7 true] .ret)))) [.c 6 true 1,.t 7] [(266,[],a1u),(309,[],a5H)] ?_;intro hb hE;obtain⟨hp1,hp2⟩:=hpre;simp only[go_sem];repeat' first|apply cj'|intro hc|exact om'|fail
 ·rw[a6N,V3 (by intro h;rw[h]at hc;simp at hc)];exact⟨rfl,rfl⟩
 have hl:args.length=row.V.length:=by simpa[q3G,bne]using hc
 clear hc;refine lq' false [3,5,6,19,20] [10,11,19] [] (fun i:{q:Nat×List c7 // q.1<=args.length/\a2L e.Binds args row.V q.1=some q.2}=>[(21,slV (.i .i64 i.1.1))]) (fun i=>[(6,[.c (w4 i.1.2)]),(12,[.nl j5])]) nl' (fun i=>args.length-i.1.1) (⟨(0,e.Binds),z0D,rfl⟩) ?_;intro S0 hS0 i;obtain⟨⟨i,c⟩,hi,hf⟩:=i;simp only at hi hf;have hcl:=b3A hf;simp only[go_sem,hS0];repeat' first|apply cj'|intro hc|exact om'|fail
 ·exact nx0 ⟨(i+1,a1n c (args.getD i default).Var (row.V.getD i default)),z0F,d5R hf hc⟩
 ·rename_i hv;rw[a6N,V0 hl,W8,c7m hf z0C hv hc];exact⟨rfl,rfl⟩
 ·rename_i hv;exact nx0 ⟨(i+1,c),z0F,c1r hf hv (by rw[b1p,hc.1,hc.2];rfl)⟩
 ·obtain rfl:i=args.length:=by omega
  rw[a6N,V0 hl,W8,hf];exact⟨rfl,rfl⟩
noncomputable def b3g:CT:=k8 (fun(x:d6×(List d5)×d3) h=>c7N x.1 x.2.1 x.2.2 h)
@[go_sem] def d9i:=fun x0 x1 x2=>nm' (fP' b3g rfl (⟨x0⟩,x1,⟨x2⟩))
def b9h(e:d6)(args:List d5)(row:d3)(hpre:e.Binds.length<=500/\row.V.length<=6):spZ 289 [(true,[w4 e.Binds]),(false,[l8 args]),(true,[o5 row.V])] [] (.tup [(true,[w4 (((a6N e args row).1).Binds)]),(false,[.b ((a6N e args row).2)])]):=by
 refine sx' false true none Tryz.func289 (q' 5 [ax (o' 3 (.box 1 (.t 0))),aX 1 2,aw [.sl j5],aU false] (.seq (q' 14 [am 1,aN,aG 0 5,aN,aD .neq 15 18] (ci 19 (q' 20 [ao (.bld [.sl j5] []),aS 1 6 20,ab 7 false] .ret))) (q' 21 [ao (.bsl 3 0 [.s,.i .i64,.s] []),aG 0 3,ao (.app 3 40 [.s,.i .i64,.s] (.t 21) (.t 23)),ao (.bld [.sl j5] [(0,1,.t 24)]),ax (w' 8 [.sl j5]),aS 1 8 25] (.seq (q' 26 [am 1,aN,aK 0] (fO 0 29 [ar 28 27] 29 1 (q' 30 [am 28,ai 3 26 28,aE 3,ax (w' 10 [.s,.i .i64,.s]),av 9 30,aS 3 10 32] (q' 33 [af 1 10,aE 2,ax (w' 11 [.i .i64,.s]),aS 2 11 34] (.seq (q' 35 [aG 0 10,aY .neq 36 []] (ci 37 (q' 39 [ae 1 8,aG 0 10,ac 293 [39,41],aV 38,aZ 38 0,aZ 38 1,ax (w' 12 [.i .i64,.s]),aS 2 12 43,aV 13] (.seq (q' 45 [am 13,aO 45] (ci 46 (.seq (.rego [(true,1,f' 48 0 10),(true,2,l' 49 48),(true,3,f' 50 0 5),(true,4,l' 51 50),(true,5,m' 52 9),(true,6,i' 53 2 51 52),(true,7,e' 54 2 53),(false,0,e' 47 1 8),(false,8,c' 55 340 [47,49,54]),(false,9,s' 1 8 55)] [20,21,10,11]) (g' 56 [aG 0 5,am 9,aI 2,aE 2,aS 2 12 60])))) (g' 61 [ae 2 12,aS 2 11 61]))))) (.seq (G' 62 [ae 2 11,aG 0 5,am 9,aI 2,aE 2,ao (.eqs true [.i .i64,.s] (.t 62) (.t 67))]) (ci 68 (q' 69 [ao (.bld [.sl j5] []),aS 1 6 69,ab 7 false] .ret)))))) (g' 70 [aA 28]))) (q' 71 [ae 1 8,aS 1 6 71,ab 7 true] .ret))))) [.c 6 true 1,.t 7] [(293,[],a3s),(340,[],b1g)] ?_;intro hb hE;obtain⟨hp1,hp2⟩:=hpre;simp only[go_sem];repeat' first|apply cj'|intro hc|exact om'|fail
 ·rw[a6N,V3 (by intro h;rw[h]at hc;simp at hc)];exact⟨rfl,rfl⟩
 have hl:args.length=row.V.length:=by simpa[q3G,bne]using hc
 clear hc;refine lk' false [(true,16,0,200032)] [5,6,8,26,27] [10,11,21] [] (fun i:{q:Nat×List c7 // q.1<=args.length/\a2L e.Binds args row.V q.1=some q.2}=>[(28,slV (.i .i64 i.1.1))]) (fun i=>[(16,[.ow 200032]),(12,[.nl j5])]) (fun i=>[(200032,j5,i.1.2.map c7.cells)]) (fun i=>args.length-i.1.1) (⟨(0,e.Binds),z0D,rfl⟩) ?_;intro S0 hS0 i;obtain⟨⟨i,c⟩,hi,hf⟩:=i;simp only at hi hf;have hcl:=b3A hf;simp only[go_sem,hS0];repeat' first|apply cj'|intro hc|exact om'|fail
 ·rename_i hv;exact nk0 ⟨(i+1,a1n c (args.getD i default).Var (row.V.getD i default)),z0F,d5R hf (by rw[b4x hv];exact hc)⟩
 ·rename_i hv ho;rw[a6N,V0 hl,W8,c7m hf z0C (by rw[b4x hv];exact ho) (by rw[b4x hv];exact hc)];exact⟨rfl,rfl⟩
 ·rename_i hv ho;exact nk0 ⟨(i+1,c),z0F,c1r hf (by rw[b4x hv];exact ho) (by rw[b4x hv,b1p,hc.1,hc.2];rfl)⟩
 ·rename_i hv;rw[a6N,V0 hl,W8,c7m hf z0C (by rw[b0s hv]) (by rw[b0s hv];exact hc)];exact⟨rfl,rfl⟩
 ·rename_i hv;exact nk0 ⟨(i+1,c),z0F,c1r hf (by rw[b0s hv]) (by rw[b0s hv,b1p,hc.1,hc.2];rfl)⟩
 ·obtain rfl:i=args.length:=by omega
  rw[a6N,V0 hl,W8,hf];exact⟨rfl,rfl⟩
noncomputable def a8i:CT:=k8 (fun(x:d6×(List d5)×d3) h=>b9h x.1 x.2.1 x.2.2 h)
@[go_sem] def d3z:=fun x0 x1 x2=>nm' (fP' a8i rfl (⟨x0⟩,x1,⟨x2⟩))
def body8{r:c8}(h:k7 r=true):r.Body.length<=8:=by
 simp only[k7,K7]at h;omega
def u7{l:List α}{i:Nat}(d:α)(h:i<l.length):l.getD i d∈l:=by
 rw[j7 d h];exact q1E _
def c3e{r:d8}(h:n8 r=true)(hi:i<r.Rows.length):(r.Rows.getD i default).V.length<=6:=by
 simp only[n8,W3,q0M]at h;exact(b6E (a3j (a5c h.2 hi))).1
abbrev arA(r:c8)(n:Nat):List d5:=(r.Body.getD n default).Atom.Args
abbrev arR(r:c8)(s:c4)(n:Nat):List d3:=(k6 s (r.Body.getD n default).Atom.Name).1.Rows
def b8q(A:List d5)(e:d6)(R:List d3)(base:List d6):Nat->List d6
 | 0=>base
 | k+1=>b8q A e R base k++(c1p A e (R.getD k default)).toList
def c6Q{A:List d5}{e:d6}{R:List d3}{base:List d6}:∀{k:Nat},k<=R.length->b8q A e R base k=base++a5w A (R.take k) e
 | 0,_=>by simp[b8q,a5w]
 | k+1,h=>by
   rw[b8q,c6Q z0C];cases hf:c1p A e (R.getD k default)with
   | none=>rw[rows_no z0C hf];simp
   | some c=>rw[e1M z0C hf];simp
def c9j{A:List d5}{e:d6}{R:List d3}{base:List d6}(h:k<=R.length):(b8q A e R base k).length<=base.length+R.length:=by
 rw[c6Q h,V5];have:=d8F A (R.take k) e;rw[V1]at this;omega
def c9i{A:List d5}{R:List d3}{now:List d6}{j:Nat}(h:j<now.length):b8q A (now.getD j default) R (y4 A R (now.take j)) R.length=y4 A R (now.take (j+1)):=by
 rw[c6Q (q0C _),List.take_length,d4q h]
def c4D(r:c8)(s:c4)(hpre:k7 r=true/\j6 s=true):spZ 261 [(true,[.i .i64 r.Kind,.s r.Head.Name,l8 r.Head.Args,a0g r.Body]),(true,[i6 s.Rels])] [] (.tup [(false,[kTEnv ((a1j r s).1)]),(false,[.b ((a1j r s).2)])]):=by
 refine sy' Tryz.func261 (q' 2 [aX 4 0,aX 1 1,ao (.mov (.k (.v false [.nl a3H]))),aU false] (q' 18 [ao (.bld [.sl j5] []),ao (.bsl 1 1 [.sl j5] [(0,.t 18)]),aV 6] (.seq (q' 20 [aG 3 2,aN,aK 0] (fO 0 24 [ar 23 22] 24 1 (q' 25 [ai 10 21 23,aE 10,ax (w' 8 [.i .i64,.s,.sl j5,.i .i64,.s,.i .i64,.s,.s,.i .i64,.s]),aS 10 8 26] (.seq (q' 27 [aG 0 8,aC .neq 28 1] (ci 29 (.exit 1))) (q' 31 [ae 1 3,af 1 8,aG 0 32,ac 166 [31,34],aV 30,aZ 30 0,aZ 30 1,ax (w' 9 [.i .i64,.sl i5]),aS 2 9 36,aV 10] (q' 38 [ao (.bsl 1 0 [.sl j5] []),aV 11] (.seq (q' 39 [am 6,aN,aK 0] (fO 2 42 [ar 41 40] 42 3 (q' 43 [ai 1 39 41,aE 1,ax (w' 13 [.sl j5]),aS 1 13 44] (.seq (q' 45 [aG 1 9,aN,aK 0] (fO 4 49 [ar 48 47] 49 5 (q' 50 [ai 1 46 48,aE 1,ax (w' 15 [.sl l9]),aS 1 15 51] (q' 53 [ae 1 13,af 1 8,aG 1 54,ae 1 15,ac 308 [53,56,57],aV 52,aZ 52 0,aZ 52 1,ax (w' 16 [.sl j5]),aS 1 16 59,aV 17] (q' 61 [am 17] (ci 61 (g' 62 [am 11,ae 1 16,ao (.bsl 1 1 [.sl j5] [(0,.t 63)]),ao (.app 1 24 [.sl j5] (.t 62) (.t 64)),aV 11]))))) (g' 66 [aA 48]))) (q' 67 [am 11,aN,aC .gtr 68 2000] (ci 69 (q' 4 [ao (.mov (.k (.v false [.nl a3H]))),aU false] .ret))))) (g' 70 [aA 41]))) (g' 71 [am 11,aV 6])))))) (g' 72 [aA 23]))) (q' 73 [am 6,aV 4,ab 5 true] .ret)))) [.t 4,.t 5] [(166,[],a1M),(308,[],b3g)] ?_;intro hb hE;obtain⟨hr,hs⟩:=hpre;have hb8:=body8 hr;simp only[go_sem];repeat' first|apply cj'|intro hc|exact om'|fail
 refine lk' false [(false,6,0,100012)] [3,21,22] [6] [] (fun i:{q:Nat×List d6 // q.1<=r.Body.length/\a1m r s q.1=some q.2}=>[(6,.v false [.ow 100012]),(23,slV (.i .i64 i.1.1))]) nl' (fun i=>[(100012,a3H,i.1.2.map (d6.cells false false))]) (fun i=>r.Body.length-i.1.1) (⟨(0,[⟨[]⟩]),z0D,rfl⟩) ?_;intro S0 hS0 i;obtain⟨⟨n,now⟩,hn,hj⟩:=i;simp only at hn hj;have hJ:=Jn.all hr hs hn hj;have hl:=b5I hj;have hR:=z5 hs (r.Body.getD n default).Atom.Name;have hRl:=a1g hR;have hRe:(arR r s n).length=(k6 s (r.Body.getD n default).Atom.Name).1.Rows.length:=rfl;simp only[go_sem,hS0];repeat' first|apply cj'|intro hc|exact om'|fail
 ·exact nk0 ⟨(n+1,now),z0F,c1D hj (by simpa[bne]using hc)⟩
 ·have hk:((r.Body.getD n default).Kind==1)=true:=by simpa[bne]using hc
  refine a7h 100012 ?_;refine lk' false [(false,11,0,100022)] [3,8,9,21,22,23,39,40] [6,16,18] [] (fun i:{j:Nat // j<=now.length/\(y4 (arA r n) (arR r s n) (now.take j)).length<=2000}=>[(11,.v false [.ow 100022]),(41,slV (.i .i64 i.1))]) nl' (fun i=>[(100022,a3H,(y4 (arA r n) (arR r s n) (now.take i.1)).map (d6.cells false false))]) (fun i=>now.length-i.1) (⟨0,z0D,by simp[y4]⟩) ?_;intro S1 hS1 i;obtain⟨j,hj1,hj2⟩:=i;simp only[go_sem,hS0,hS1];repeat' first|apply cj'|intro hc|exact om'|fail
  ·have hm:=u7 (l:=now) default (i:=j) z0C;have he6:=hJ.len _ hm;have hall:=c9i (A:=arA r n) (R:=arR r s n) (now:=now) (j:=j) z0C;refine lk' false [(false,11,0,100022)] [3,8,9,13,21,22,23,39,40,41,46,47] [6,16,18,26] [] (fun i:{k:Nat // k<=(arR r s n).length}=>[(11,.v false [.ow 100022]),(48,slV (.i .i64 i.1))]) nl' (fun i=>[(100022,a3H,(b8q (arA r n) (now.getD j default) (arR r s n) (y4 (arA r n) (arR r s n) (now.take j)) i.1).map (d6.cells false false))]) (fun i=>(arR r s n).length-i.1) (⟨0,z0D⟩) ?_;intro S2 hS2 i;obtain⟨k,hk1⟩:=i;have hlk:=c9j (A:=arA r n) (e:=now.getD j default) (R:=arR r s n) (base:=y4 (arA r n) (arR r s n) (now.take j)) hk1;simp only[go_sem,hS0,hS1,hS2];repeat' first|apply cj'|intro hc|exact om'|fail
   ·exact⟨z0C,c3e hR z0C⟩
   ·(refine lpK_n2 (⟨k+1,z0C⟩) _ z0L ?_;simp only[go_sem,hS0,hS1,hS2]<;>repeat' first|apply W6|exact on'|fail)
    all_goals(rw[b8q,c1q hc];rfl)
   ·(refine lpK_n2 (⟨k+1,z0C⟩) _ z0L ?_;simp only[go_sem,hS0,hS1,hS2]<;>repeat' first|apply W6|exact on'|fail)
    all_goals(rw[b8q,c7l hc];simp)
   ·obtain rfl:k=(arR r s n).length:=by omega
    rw[hall]at hc;rw[c5W hj z0C hk (j:=j+1) (show 2000<(y4 (arA r n) (arR r s n) (now.take (j+1))).length by omega)];exact⟨rfl,rfl⟩
   ·obtain rfl:k=(arR r s n).length:=by omega
    rw[hall]at hc
    (refine lpK_n2 (⟨j+1,z0C,z0C⟩) _ z0L ?_;simp only[go_sem,hS0,hS1,hS2]<;>repeat' first|apply W6|exact on'|fail)
    all_goals rw[hall]
  ·rw[i4 z0C]at hj2
   (refine lpK_n2 (⟨(n+1,y4 (arA r n) (arR r s n) now),z0F,d0o hj hk hj2⟩) _ z0L ?_;simp only[go_sem,hS0,hS1]<;>repeat' first|apply W6|exact on'|fail)
   all_goals rw[i4 z0C]
 ·obtain rfl:n=r.Body.length:=by omega
  rw[d0p hj];exact⟨rfl,rfl⟩
noncomputable def b0M:CT:=k8 (fun(x:c8×c4) h=>c4D x.1 x.2 h)
@[go_sem] def d7h:=fun x0 x1 x2 x3 x4=>nm' (fP' b0M rfl (⟨x0,⟨x1,x2⟩,x3⟩,⟨x4⟩))
def b8s(l:d7)(b:List c7):Bool:=a0R l&&((k9 ⟨b⟩ l.A).2&&!(k9 ⟨b⟩ l.B).2||(k9 ⟨b⟩ l.B).2&&!(k9 ⟨b⟩ l.A).2)
def eqG(r:c8)(b:List c7):Nat->Bool
 | 0=>false
 | n+1=>eqG r b n||b8s (r.Body.getD n default) (eqP r b n)
def c7e{l:d7}(h:b8s l b=false):eqS l b=b:=by
 rw[b8s]at h;rw[eqS];cases h0:a0R l with
 | false=>rfl
 | true=>
   rw[h0]at h;cases h1:(k9 ⟨b⟩ l.A).2<;>cases h2:(k9 ⟨b⟩ l.B).2<;>rw[h1,h2]at h<;>first|rfl|(exact absurd h z00)
def e0S{r:c8}{l:d7}(hl:l∈r.Body)(h:b8s l b=true):miss r ((eqS l b).map c7.Var)<miss r (b.map c7.Var):=by
 rcases(a4N l b).miss hl with h1|⟨_,h1⟩
 ·exfalso;have h2:=congrArg List.length h1;rw[b8s,W3]at h;obtain⟨h0,h⟩:=h;rw[eqS,h0]at h2;cases h3:(k9 ⟨b⟩ l.A).2<;>cases h4:(k9 ⟨b⟩ l.B).2<;>rw[h3,h4]at h h2
  ·exact absurd h (by decide)
  ·simp only[z0B,a3G]at h2;omega
  ·simp only[z0B,a3G]at h2;omega
  ·exact absurd h (by decide)
 ·exact h1
def d3U{r:c8}{b:List c7}:∀{n:Nat},eqG r b n=false->eqP r b n=b
 | 0,_=>rfl
 | n+1,h=>by
   rw[eqG,q0U]at h;have h1:=c7e h.2;rw[d3U h.1]at h1;rw[eqP,d3U h.1,h1]
def d5L{r:c8}{b:List c7}:∀{n:Nat},n<=r.Body.length->eqG r b n=true->miss r ((eqP r b n).map c7.Var)<miss r (b.map c7.Var)
 | 0,_,h=>by cases h
 | n+1,hn,h=>by
   have hm:=u7 (l:=r.Body) default (i:=n) z0C;have hle:=(a4M (r:=r) (b:=b) (n:=n) z0C).2;rw[eqG,q2Q]at h;rw[eqP];rcases h with h|h
   ·have h1:=d5L z0C h;rcases(a4N (r.Body.getD n default) (eqP r b n)).miss hm with h2|⟨_,h2⟩
    ·rw[h2];exact h1
    ·omega
   ·have h1:=e0S hm h;rcases hle with h2|h2
    ·rw[h2]at h1 ⊢;exact h1
    ·omega
def d0f{r:c8}{b:List c7}(hV:(a8v r).length<=64)(hn:n<=r.Body.length):(eqP r b n).length<=b.length+64:=by
 have h1:=(a4M (r:=r) (b:=b) hn).1;have h2:=b9y r (b.map c7.Var);omega
def d0e{r:c8}(hV:(a8v r).length<=64)(k:Nat):(eqI r b k).length<=b.length+64:=by
 have h1:=c1l (r:=r) (b:=b) k;have h2:=b9y r (b.map c7.Var);omega
def d6i{l:d7}(h:(l.Kind != 3)=true\/(l.Op != 1)=true):a0R l=false:=by
 rw[a0R];rcases h with h|h<;>simp only[bne,q0M]at h<;>rw[h]<;>simp
def b9A{l:d7}(h:(l.Kind != 3)=false/\(l.Op != 1)=false):a0R l=true:=by
 simp only[bne,q0Q]at h;rw[a0R,h.1,h.2];rfl
def b8x(op:Int)(a:d4)(b:d4):spZ 310 [(false,[.i .i64 op]),(true,[.i .i64 a.N,.s a.S]),(true,[.i .i64 b.N,.s b.S])] [] (.one (false,[.b (a0k op a b)])):=by
 refine sy' Tryz.func310 (q' 4 [aX 2 1,aX 2 2,aU false] (.seq (q' 7 [ae 2 4,ac 203 [7],aO 8,am 9,aH 10 false [be 2 5,bc 203 [11],bO 12],aQ 10 13] (ci 14 (q' 6 [aU false] .ret))) (.seq (q' 15 [am 0] (.block 0 (q' 17 [aC .eql 15 1,aV 16] (cd 16 (q' 18 [ae 2 4,ae 2 5,ao (.eqs false [.i .i64,.s] (.t 18) (.t 19)),aV 6] .ret) (q' 22 [aC .eql 15 2,aV 21] (cd 21 (q' 23 [ae 2 4,ae 2 5,ao (.eqs true [.i .i64,.s] (.t 23) (.t 24)),aV 6] .ret) (q' 27 [aC .eql 15 3,aV 26] (cd 26 (q' 28 [ae 2 4,ae 2 5,ac 271 [28,29],aC .lss 30 0,aV 6] .ret) (q' 33 [aC .eql 15 4,aV 32] (ci 32 (q' 34 [ae 2 4,ae 2 5,ac 271 [34,35],aC .leq 36 0,aV 6] .ret))))))))))) (q' 6 [aU false] .ret)))) [.t 6] [(203,[],a2z),(271,[],a2B)] ?_;intro hb hE;simp only[go_sem];repeat' first|apply cj'|intro hc|exact om'|fail
 ·rcases hc with h|h<;>simp[a0k,h]
 ·rename_i h;simp[a0k,h,hc,vEq]
 ·rename_i h h1;simp[a0k,h,hc,h1,vEq]
 ·rename_i h h1 h2;simp only[a0k,h.1,h.2,hc,h1,h2,z0B,q0Z];exact c0L h.1 h.2
 ·rename_i h h1 h2 h3;simp only[a0k,h.1,h.2,hc,h1,h2,h3,z0B,q0Z];exact c0K h.1 h.2
 ·rename_i h h1 h2 h3;simp only[a0k,h.1,h.2,hc,h1,h2,h3,V2,q0Z]
noncomputable def a7I:CT:=j8 (fun(x:Int×d4×d4)=>b8x x.1 x.2.1 x.2.2)
@[go_sem] def d2Q:=fun op x0 x1 x2 x3=>nm' (fQ' a7I rfl (op,⟨x0,x1⟩,⟨x2,x3⟩))
def b8T(op:Int)(a:d4)(b:d4):spZ 342 [(false,[.i .i64 op]),(true,[.i .i64 a.N,.s a.S]),(true,[.i .i64 b.N,.s b.S])] [] (.one (false,[.b (a0k op a b)])):=by
 refine sy' Tryz.func342 (q' 4 [aX 2 1,aX 2 2,aU false] (.seq (q' 7 [ae 2 4,ac 195 [7],aO 8,am 9,aH 10 false [be 2 5,bc 195 [11],bO 12],aQ 10 13] (ci 14 (q' 6 [aU false] .ret))) (.seq (q' 15 [am 0] (.block 0 (q' 17 [aC .eql 15 1,aV 16] (cd 16 (q' 18 [ae 2 4,ae 2 5,ao (.eqs false [.i .i64,.s] (.t 18) (.t 19)),aV 6] .ret) (q' 22 [aC .eql 15 2,aV 21] (cd 21 (q' 23 [ae 2 4,ae 2 5,ao (.eqs true [.i .i64,.s] (.t 23) (.t 24)),aV 6] .ret) (q' 27 [aC .eql 15 3,aV 26] (cd 26 (q' 28 [ae 2 4,ae 2 5,ac 397 [28,29],aV 6] .ret) (q' 32 [aC .eql 15 4,aV 31] (ci 31 (q' 33 [ae 2 4,ae 2 5,ac 397 [33,34],am 35,aH 36 false [be 2 4,be 2 5,bo (.eqs false [.i .i64,.s] (.t 37) (.t 38))],aQ 36 39,aV 6] .ret))))))))))) (q' 6 [aU false] .ret)))) [.t 6] [(195,[],a1v),(397,[],a6G)] ?_;intro hb hE;simp only[go_sem];repeat' first|apply cj'|intro hc|exact om'|fail
 ·rcases hc with h|h<;>simp[a0k,h]
 ·rename_i h;simp[a0k,h,hc,vEq]
 ·rename_i h h1;simp[a0k,h,hc,h1,vEq]
 ·rename_i h h1 h2;simp only[a0k,a4l,h.1,h.2,hc,h1,h2,z0B,q0Z]
 ·rename_i h h1 h2 h3;simp only[a0k,a4l,h.1,h.2,hc,h1,h2,h3,z0B,q0Z,vEq]
 ·rename_i h h1 h2 h3;simp only[a0k,h.1,h.2,hc,h1,h2,h3,V2,q0Z]
noncomputable def a8a:CT:=j8 (fun(x:Int×d4×d4)=>b8T x.1 x.2.1 x.2.2)
@[go_sem] def d3m:=fun op x0 x1 x2 x3=>nm' (fQ' a8a rfl (op,⟨x0,x1⟩,⟨x2,x3⟩))
def b8B(r:c8)(e:d6)(hpre:k7 r=true/\e.Binds.length<=100):spZ 262 [(true,[.i .i64 r.Kind,.s r.Head.Name,l8 r.Head.Args,a0g r.Body]),(true,[w4 e.Binds])] [] (.one (true,[w4 ((eqE r e).Binds)])):=by
 refine sx' false true none Tryz.func262 (q' 2 [aX 4 0,aX 1 1,aw [.sl j5]] (.seq (q' 5 [aU true] (lO 0 (.seq (q' 12 [am 5] (cd 12 .skip (.exit 0))) (.block 1 (q' 5 [aU false] (q' 13 [aG 3 2,aN,aK 0] (fO 2 17 [ar 16 15] 17 3 (q' 18 [ai 10 14 16,aE 10,ax (w' 7 [.i .i64,.s,.sl j5,.i .i64,.s,.i .i64,.s,.s,.i .i64,.s]),aS 10 7 19] (.seq (q' 20 [aG 0 7,aC .neq 21 3,am 22,aH 23 false [bf 3 7,bL,bC .neq 25 1],aQ 23 26] (ci 27 (.exit 3))) (q' 29 [ae 1 3,af 4 7,aE 3,ac 266 [29,31],aV 28,aZ 28 0,aZ 28 1,ax (w' 8 [.i .i64,.s]),aS 2 8 33,aV 9] (q' 36 [ae 1 3,af 7 7,aE 3,ac 266 [36,38],aV 35,aZ 35 0,aZ 35 1,ax (w' 10 [.i .i64, .s]),aS 2 10 40,aV 11] (.block 4 (q' 43 [aM [9,43],aH 44 true [bm 11,bO 45],aP 44 46,aV 42] (cd 42 (q' 48 [ae 1 3,af 7 7,aG 0 49,ae 2 8,ac 309 [48,51,52],aS 1 3 53] (g' 5 [aU true])) (q' 55 [aM [11,55],aH 56 true [bm 9,bO 57],aP 56 58,aV 54] (ci 54 (q' 60 [ae 1 3,af 4 7,aG 0 61,ae 2 10,ac 309 [60,63,64],aS 1 3 65] (g' 5 [aU true]))))))))))) (g' 66 [aA 16])))))))) (q' 67 [ae 1 3,aS 1 4 67] .ret))) [.c 4 true 1] [(266,[],a1u),(309,[],a5H)] ?_;intro hb hE;obtain⟨hr,he⟩:=hpre;have hV:=a4n hr;simp only[go_sem];repeat' first|apply cj'|intro hc|exact om'|fail
 refine lq' false [2,3,4] [4,8] [] (fun i:{q:Bool×List c7 // (∃k,eqI r e.Binds k=q.2)/\(q.1=false->a6c r q.2=q.2)}=>[(5,slV (.b i.1.1))]) (fun i=>[(6,[.c (w4 i.1.2)])]) nl' (fun i=>2*miss r (i.1.2.map c7.Var)+(bif i.1.1 then 1 else 0)) (⟨(true,e.Binds),⟨0,rfl⟩,by intro h;cases h⟩) ?_;intro S0 hS0 i;obtain⟨⟨g,c⟩,⟨k,hk⟩,hp⟩:=i;simp only at hk hp;have hcl:c.length<=e.Binds.length+64:=by rw[<-hk];exact d0e hV k
 simp only[go_sem,hS0];repeat' first|apply cj'|intro hc|exact om'|fail
 ·skip
  refine lq' false [2,3,4,14,15] [4,8] [] (fun i:{j:Nat // j<=r.Body.length}=>[(5,slV (.b (eqG r c i.1))),(16,slV (.i .i64 i.1))]) (fun i=>[(6,[.c (w4 (eqP r c i.1))])]) nl' (fun i=>r.Body.length-i.1) (⟨0,z0D⟩) ?_;intro S1 hS1 i;obtain⟨j,hj⟩:=i;have hl2:=d0f (b:=c) hV hj;simp only[go_sem,hS0,hS1];repeat' first|apply cj'|intro hc|exact om'|fail
  ·have h0:=d6i hc
   (refine lpK_n2 (⟨j+1,z0C⟩) _ rfl ?_;simp only[go_sem,hS0,hS1]<;>repeat' first|apply W6|exact on'|fail)
   all_goals first|(rw[eqP,d0i h0];done)|(rw[eqG,b8s,h0];simp;done)
  ·rename_i h1;have h0:=b9A h1
   (refine lpK_n2 (⟨j+1,z0C⟩) _ rfl ?_;simp only[go_sem,hS0,hS1]<;>repeat' first|apply W6|exact on'|fail)
   all_goals first|(rw[eqP,c5T h0 hc.1 hc.2];done)|(rw[eqG,b8s,h0,hc.1,hc.2];simp;done)
  ·rename_i h1 h2;have h0:=b9A h1
   (refine lpK_n2 (⟨j+1,z0C⟩) _ rfl ?_;simp only[go_sem,hS0,hS1]<;>repeat' first|apply W6|exact on'|fail)
   all_goals first|(rw[eqP,d0h h0 hc.1 hc.2];done)|(rw[eqG,b8s,h0,hc.1,hc.2];simp;done)
  ·rename_i h1 h2;have h3:b8s (r.Body.getD j default) (eqP r c j)=false:=by rw[b8s,h2,hc];simp
   (refine lpK_n2 (⟨j+1,z0C⟩) _ rfl ?_;simp only[go_sem,hS0,hS1]<;>repeat' first|apply W6|exact on'|fail)
   all_goals first|(rw[eqP,c7e h3];done)|(rw[eqG,h3,q5N];done)
  ·obtain rfl:j=r.Body.length:=by omega
   have h1:eqG r c r.Body.length=false->eqP r c r.Body.length=c:=d3U;have h2:=d5L (r:=r) (b:=c) (q0C _);have h4:eqI r e.Binds (k+1)=eqP r c r.Body.length:=by rw[eqI,hk];rfl
   cases hG:eqG r c r.Body.length with
   | true=>
     have h5:=h2 hG
     (refine lpK_n2 (⟨(true,eqP r c r.Body.length),⟨k+1,h4⟩,by intro h;cases h⟩) _ rfl ?_;simp only[go_sem,hS0,hS1]<;>repeat' first|apply W6|exact on'|fail)
     all_goals first|rfl|(rename_i h;rw[h];simp only[W8];omega)|(simp only[*,W8];omega)|trace_state
   | false=>
     have h5:=h1 hG;rw[h5]
     (refine lpK_n2 (⟨(false,c),⟨k,hk⟩,fun _=>h5⟩) _ rfl ?_;simp only[go_sem,hS0,hS1]<;>repeat' first|apply W6|exact on'|fail)
     all_goals first|rfl|(simp only[*,z0B];omega)|trace_state
 ·exact congrArg (List.map c7.cells) (c7h ⟨k,hk,hp hc⟩).symm
noncomputable def a7L:CT:=k8 (fun(x:c8×d6) h=>b8B x.1 x.2 h)
@[go_sem] def d2U:=fun x0 x1 x2 x3 x4=>nm' (fP' a7L rfl (⟨x0,⟨x1,x2⟩,x3⟩,⟨x4⟩))
def c2L(e:d6)(t:d5):spZ 341 [(true,[w4 e.Binds]),(true,[.s t.Var,.i .i64 t.Val.N,.s t.Val.S])] [] (.tup [(true,[.i .i64 (((k9 e t).1).N),.s (((k9 e t).1).S)]),(false,[.b ((k9 e t).2)])]):=by
 refine sy' Tryz.func341 (q' 2 [aX 1 0,aX 3 1,aw [.i .i64,.s],aU false] (.seq (q' 6 [aG 0 3,aY .eql 7 []] (ci 8 (q' 9 [af 1 3,aE 2,aS 2 4 10,ab 5 true] .ret))) (q' 11 [ae 1 2,aG 0 3,ac 293 [11,13],aZ 14 0,aZ 14 1,aS 2 4 15,aV 5] .ret))) [.c 4 true 2,.t 5] [(293,[],a3s)] ?_;intro hb hE;simp only[go_sem];repeat' first|apply cj'|intro hc|exact om'|fail
 all_goals first|(rw[k9,hc];exact⟨⟨rfl,rfl⟩,rfl⟩)|trace_state
noncomputable def a4J:CT:=j8 (fun(x:d6×d5)=>c2L x.1 x.2)
@[go_sem] def d5I:=fun x0 x1 x2 x3=>nm' (fQ' a4J rfl (⟨x0⟩,⟨x1,⟨x2,x3⟩⟩))
def b9j(r:c8)(e:d6)(hpre:k7 r=true/\e.Binds.length<=100):spZ 290 [(true,[.i .i64 r.Kind,.s r.Head.Name,l8 r.Head.Args,a0g r.Body]),(true,[w4 e.Binds])] [] (.one (true,[w4 ((eqE r e).Binds)])):=by
 refine sx' false true none Tryz.func290 (q' 2 [aX 4 0,aX 1 1,aw [.sl j5]] (.seq (q' 5 [ao (.mov (.k (.v false [.c (.i .i64 (-1))])))] (lO 0 (.seq (q' 12 [am 5,aG 0 3,aN,ar 12 15] (cd 16 .skip (.exit 0))) (.block 1 (q' 17 [aG 0 3,aN,aV 5] (q' 20 [aG 3 2,aN,aK 0] (fO 2 24 [ar 23 22] 24 3 (q' 25 [am 23,aV 6] (q' 26 [aG 3 2,am 6,aI 10,aE 10,ax (w' 7 [.i .i64,.s,.sl j5,.i .i64,.s,.i .i64,.s,.s,.i .i64,.s]),aS 10 7 30] (.seq (q' 31 [aG 0 7,aC .neq 32 3,am 33,aH 34 false [bf 3 7,bL,bC .neq 36 1],aQ 34 37] (ci 38 (.exit 3))) (q' 40 [ae 1 3,af 4 7,aE 3,ac 341 [40,42],aV 39,aZ 39 0,aZ 39 1,ax (w' 8 [.i .i64,.s]),aS 2 8 44,aV 9] (q' 47 [ae 1 3,af 7 7,aE 3,ac 341 [47,49],aV 46,aZ 46 0,aZ 46 1,ax (w' 10 [.i .i64,.s]),aS 2 10 51,aV 11] (.seq (q' 53 [aM [9,53],aH 54 true [bm 11,bO 55],aP 54 56] (ci 57 (g' 58 [ae 1 3,af 7 7,aG 0 59,ae 2 8,ac 340 [58,61,62],aS 1 3 63]))) (q' 64 [aM [11,64],aH 65 true [bm 9,bO 66],aP 65 67] (ci 68 (g' 69 [ae 1 3,af 4 7,aG 0 70,ae 2 10,ac 340 [69,72,73],aS 1 3 74]))))))))) (g' 75 [aA 23])))))))) (q' 76 [ae 1 3,aS 1 4 76] .ret))) [.c 4 true 1] [(341,[],a4J),(340,[],a8j)] ?_;intro hb hE;obtain⟨hr,he⟩:=hpre;have hV:=a4n hr;simp only[go_sem];repeat' first|apply cj'|intro hc|exact om'|fail
 refine lq' false [2,3,4] [4,8] [] (fun i:{q:Int×List c7 // (∃k,eqI r e.Binds k=q.2)/\-1<=q.1/\(¬q.1<q.2.length->a6c r q.2=q.2)}=>[(5,slV (.i .i64 i.1.1))]) (fun i=>[(6,[.c (w4 i.1.2)])]) nl' (fun i=>2*miss r (i.1.2.map c7.Var)+(bif decide (i.1.1<i.1.2.length)then 1 else 0)) (⟨(-1,e.Binds),⟨0,rfl⟩,z0D,z0F⟩) ?_;intro S0 hS0 i;obtain⟨⟨g,c⟩,⟨k,hk⟩,hg,hp⟩:=i;simp only at hk hg hp;have hcl:c.length<=e.Binds.length+64:=by rw[<-hk];exact d0e hV k
 simp only[go_sem,hS0];repeat' first|apply cj'|intro hc|exact om'|fail
 ·skip
  refine lq' false [2,3,4,5,22] [4,8] [] (fun i:{j:Nat // j<=r.Body.length}=>[(23,slV (.i .i64 i.1))]) (fun i=>[(6,[.c (w4 (eqP r c i.1))])]) nl' (fun i=>r.Body.length-i.1) (⟨0,z0D⟩) ?_;intro S1 hS1 i;obtain⟨j,hj⟩:=i;have hl2:=d0f (b:=c) hV hj;simp only[go_sem,hS0,hS1];repeat' first|apply cj'|intro hc|exact om'|fail
  ·have h0:=d6i hc
   (refine lpK_n2 (⟨j+1,z0C⟩) _ rfl ?_;simp only[go_sem,hS0,hS1]<;>repeat' first|apply W6|exact on'|fail)
   all_goals rw[eqP,d0i h0]
  ·rename_i h1 h2;rw[h2.2]at hc;exact absurd hc.1 (by decide)
  ·rename_i h1 h2;rw[h2.2]at hc;exact absurd hc.1 (by decide)
  ·rename_i h1 h2;have h0:=b9A h1
   (refine lpK_n2 (⟨j+1,z0C⟩) _ rfl ?_;simp only[go_sem,hS0,hS1]<;>repeat' first|apply W6|exact on'|fail)
   all_goals rw[eqP,c5T h0 h2.1 h2.2]
  ·rename_i h1 h2;have h0:=b9A h1
   (refine lpK_n2 (⟨j+1,z0C⟩) _ rfl ?_;simp only[go_sem,hS0,hS1]<;>repeat' first|apply W6|exact on'|fail)
   all_goals rw[eqP,d0h h0 hc.1 hc.2]
  ·rename_i h1 h2;have h3:b8s (r.Body.getD j default) (eqP r c j)=false:=by rw[b8s,h2,hc];simp
   (refine lpK_n2 (⟨j+1,z0C⟩) _ rfl ?_;simp only[go_sem,hS0,hS1]<;>repeat' first|apply W6|exact on'|fail)
   all_goals rw[eqP,c7e h3]
  ·obtain rfl:j=r.Body.length:=by omega
   have h4:eqI r e.Binds (k+1)=eqP r c r.Body.length:=by rw[eqI,hk];rfl
   have h5:=(a4M (r:=r) (b:=c) (q0C _)).2;have h6:¬(c.length:Int)<(eqP r c r.Body.length).length->a6c r (eqP r c r.Body.length)=eqP r c r.Body.length:=fun h=>by
    have:a6c r c=c:=c6h (by rw[a6c];omega);rw[a6c]at this;rw[this];exact this
   have h7:2*miss r ((eqP r c r.Body.length).map c7.Var)+(bif decide ((c.length:Int)<(eqP r c r.Body.length).length)then 1 else 0)<2*miss r (c.map c7.Var)+(bif decide (g<(c.length:Int))then 1 else 0):=by
    rw[V0 (p:=g<(c.length:Int)) z0C,W8];rcases h5 with h5|h5
    ·rw[h5,V3 z0C,V2];omega
    ·cases decide ((c.length:Int)<(eqP r c r.Body.length).length)<;>simp only[z0B]<;>omega
   (refine lpK_n2 (⟨(c.length,eqP r c r.Body.length),⟨k+1,h4⟩,z0F,h6⟩) _ rfl ?_;simp only[go_sem,hS0,hS1]<;>repeat' first|apply W6|exact on'|fail)
   all_goals first|exact h7|trace_state
 ·exact congrArg (List.map c7.cells) (c7h ⟨k,hk,hp z0C⟩).symm
noncomputable def a8k:CT:=k8 (fun(x:c8×d6) h=>b9j x.1 x.2 h)
@[go_sem] def d3B:=fun x0 x1 x2 x3 x4=>nm' (fP' a8k rfl (⟨x0,⟨x1,x2⟩,x3⟩,⟨x4⟩))
def c1o(hb:EnvS b)(ha:args.all z9=true)(hl:args.length<=6):a0Z (y8 ⟨b⟩ args).1=true:=by
 rw[y8];cases h:args.all (fun t=>(k9 ⟨b⟩ t).2)with
 | false=>rfl
 | true=>
   rw[W8,a0Z,V0 z0X,q0Z,q0K];intro x hx;obtain⟨t,ht,rfl⟩:=q0X.1 hx;exact c3v hb (q0K.1 ha t ht) (q0K.1 h t ht)
def c6e{r:c8}(hr:k7 r=true)(hi:i<r.Body.length)(hk:((r.Body.getD i default).Kind==3)=false):(r.Body.getD i default).Atom.Args.all z9=true/\(r.Body.getD i default).Atom.Args.length<=6:=c3i hr (u7 default hi) hk
def k2_3{k:Int}(h:(k==2)=true):(k==3)=false:=by rw[beq_iff_eq]at h;rw[h];rfl
def hH_no{r:c8}{s:c4}{e:d6}{i:Nat}(hi:i<r.Body.length)(h:b6v s e (r.Body.getD i default)=false):a5Y r s e=false:=all_false (p:=b6v s e) (d:=default) hi h
def hX_no{r:c8}{s:c4}{e:d6}{i:Nat}(hi:i<r.Body.length)(h:c2Q s e (r.Body.getD i default)=false):a9L r s e=false:=all_false (p:=c2Q s e) (d:=default) hi h
def c7O(r:c8)(s:c4)(e:d6)(hpre:k7 r=true/\j6 s=true/\EnvS e.Binds):spZ 263 [(true,[.i .i64 r.Kind,.s r.Head.Name,l8 r.Head.Args,a0g r.Body]),(true,[i6 s.Rels]),(true,[w4 e.Binds])] [] (.one (false,[.b (a5Y r s e)])):=by
 refine sy' Tryz.func263 (q' 3 [aX 4 0,aX 1 1,aX 1 2,aU false] (.seq (q' 17 [aG 3 3,aN,aK 0] (fO 0 21 [ar 20 19] 21 1 (q' 22 [ai 10 18 20,aE 10,ax (w' 8 [.i .i64,.s,.sl j5,.i .i64,.s,.i .i64,.s,.s,.i .i64,.s]),aS 10 8 23] (q' 24 [aG 0 8] (.block 2 (q' 27 [aC .eql 25 2,aV 26] (cd 26 (q' 29 [ae 1 5,af 1 8,aG 1 30,ac 209 [29,32],aV 28,aZ 28 0,aZ 28 1,ax (w' 9 [.sl l9]),aS 1 9 34,aV 10] (q' 37 [ae 1 4,af 1 8,aG 0 38,ac 166 [37,40],aV 36,aZ 36 0,aZ 36 1,ax (w' 11 [.i .i64,.sl i5]),aS 2 11 42,aV 12] (q' 44 [ae 2 11,ae 1 9,ac 155 [44,45]] (ci 46 (q' 6 [aU false] .ret))))) (q' 48 [aC .eql 25 3,aV 47] (ci 47 (q' 50 [ae 1 5,af 4 8,aE 3,ac 266 [50,52],aV 49,aZ 49 0,aZ 49 1,ax (w' 13 [.i .i64,.s]),aS 2 13 54,aV 14] (q' 57 [ae 1 5,af 7 8,aE 3,ac 266 [57,59],aV 56,aZ 56 0,aZ 56 1,ax (w' 15 [.i .i64,.s]),aS 2 15 61,aV 16] (q' 63 [aG 3 8,ae 2 13,ae 2 15,ac 310 [64,65,66],aO 67] (ci 68 (q' 6 [aU false] .ret)))))))))))) (g' 69 [aA 20]))) (q' 6 [aU true] .ret))) [.t 6] [(209,[],a8Y),(166,[],a1M),(155,[],a7m),(266,[],a1u),(310,[],a7I)] ?_;intro hb hE;obtain⟨hr,hs,he⟩:=hpre;simp only[go_sem];repeat' first|apply cj'|intro hc|exact om'|fail
 refine lq' false [4,5,18,19] [8,10] [] (fun i:{i:Nat // i<=r.Body.length/\(r.Body.take i).all (b6v s e)=true}=>[(20,slV (.i .i64 i.1))]) nl' nl' (fun i=>r.Body.length-i.1) (⟨0,z0D⟩) ?_;intro S0 hS0 i;obtain⟨i,hi,ha⟩:=i;have hR:=z5 hs (r.Body.getD i default).Atom.Name;have hT:=fun(h1:i<r.Body.length) (h2:((r.Body.getD i default).Kind==2)=true)=>c6e hr h1 (k2_3 h2)
 simp only[go_sem,hS0];repeat' first|apply cj'|intro hc|exact om'|fail
 ·exact(hT z0C hc).2
 ·exact⟨hR,c1o he (hT z0C hc).1 (hT z0C hc).2⟩
 ·rename_i h1;rw[hH_no (i:=i) z0C (by rw[b6v,h1,W8,hc];rfl)]
 ·rename_i h1;exact nx0 ⟨i+1,z0C,a0p (p:=b6v s e) default z0C ha (by rw[b6v,h1,W8,hc];rfl)⟩
 ·rename_i h1 h2;rw[hH_no (i:=i) z0C (by rw[b6v,h1,V2,h2,W8];exact hc)]
 ·rename_i h1 h2;exact nx0 ⟨i+1,z0C,a0p (p:=b6v s e) default z0C ha (by rw[b6v,h1,V2,h2,W8];exact hc)⟩
 ·rename_i h1;exact nx0 ⟨i+1,z0C,a0p (p:=b6v s e) default z0C ha (by rw[b6v,h1,V2,hc];rfl)⟩
 ·rw[i4 z0C]at ha;rw[a5Y,ha]
noncomputable def b3h:CT:=k8 (fun(x:c8×c4×d6) h=>c7O x.1 x.2.1 x.2.2 h)
@[go_sem] def d9k:=fun x0 x1 x2 x3 x4 x5=>nm' (fP' b3h rfl (⟨x0,⟨x1,x2⟩,x3⟩,⟨x4⟩,⟨x5⟩))
def b9l(r:c8)(s:c4)(e:d6)(hpre:k7 r=true):spZ 291 [(true,[.i .i64 r.Kind,.s r.Head.Name,l8 r.Head.Args,a0g r.Body]),(true,[i6 s.Rels]),(true,[w4 e.Binds])] [] (.one (false,[.b (a9L r s e)])):=by
 refine sy' Tryz.func291 (q' 3 [aX 4 0,aX 1 1,aX 1 2,aU false] (.seq (q' 15 [aG 3 3,aN,aK 0] (fO 0 19 [ar 18 17] 19 1 (q' 20 [am 18,aV 7] (q' 21 [aG 3 3,am 7,aI 10,aE 10,ax (w' 8 [.i .i64,.s,.sl j5,.i .i64,.s,.i .i64,.s,.s,.i .i64,.s]),aS 10 8 25] (.seq (q' 26 [aG 0 8,aC .eql 27 3] (ci 28 (q' 30 [ae 1 5,af 4 8,aE 3,ac 341 [30,32],aV 29,aZ 29 0,aZ 29 1,ax (w' 9 [.i .i64,.s]),aS 2 9 34,aV 10] (q' 37 [ae 1 5,af 7 8,aE 3,ac 341 [37,39],aV 36,aZ 36 0,aZ 36 1,ax (w' 11 [.i .i64,.s]),aS 2 11 41,aV 12] (.seq (q' 43 [aG 3 8,ae 2 9,ae 2 11,ac 342 [44,45,46],aO 47] (ci 48 (q' 6 [aU false] .ret))) (.exit 1)))))) (q' 50 [ae 1 5,af 1 8,aG 1 51,ac 248 [50,53],aV 49,aZ 49 0,aZ 49 1,ax (w' 13 [.sl l9]),aS 1 13 55,aV 14] (.seq (G' 57 [ae 1 4,af 1 8,aG 0 58,ae 1 13,ac 343 [57,60,61],aG 0 8,aC .eql 64 1,ao (.binb .neq (.t 62) (.t 65))]) (ci 66 (q' 6 [aU false] .ret))))))) (g' 67 [aA 18]))) (q' 6 [aU true] .ret))) [.t 6] [(248,[],a9E),(343,[],b3x),(341,[],a4J),(342,[],a8a)] ?_;intro hb hE;simp only[go_sem];repeat' first|apply cj'|intro hc|exact om'|fail
 refine lq' false [3,4,5,17] [6,8,10] [] (fun i:{i:Nat // i<=r.Body.length/\(r.Body.take i).all (c2Q s e)=true}=>[(18,slV (.i .i64 i.1))]) nl' nl' (fun i=>r.Body.length-i.1) (⟨0,z0D⟩) ?_;intro S0 hS0 i;obtain⟨i,hi,ha⟩:=i;have hT:=fun(h1:i<r.Body.length) (h2:((r.Body.getD i default).Kind==3)=false)=>c6e hpre h1 h2
 simp only[go_sem,hS0];repeat' first|apply cj'|intro hc|exact om'|fail
 ·rename_i h1;rw[hX_no (i:=i) z0C (by rw[c2Q,h1,W8];exact hc)]
 ·rename_i h1;exact nx0 ⟨i+1,z0C,a0p (p:=c2Q s e) default z0C ha (by rw[c2Q,h1,W8];exact hc)⟩
 ·exact(hT z0C hc).2
 ·rename_i h1;rw[hX_no (i:=i) z0C (by rw[c2Q,h1,V2];exact hc)]
 ·rename_i h1;exact nx0 ⟨i+1,z0C,a0p (p:=c2Q s e) default z0C ha (by rw[c2Q,h1,V2];exact hc)⟩
 ·rw[i4 z0C]at ha;rw[a9L,ha]
noncomputable def a8m:CT:=k8 (fun(x:c8×c4×d6) h=>b9l x.1 x.2.1 x.2.2 h)
@[go_sem] def d3D:=fun x0 x1 x2 x3 x4 x5=>nm' (fP' a8m rfl (⟨x0,⟨x1,x2⟩,x3⟩,⟨x4⟩,⟨x5⟩))
end Go.Aw
