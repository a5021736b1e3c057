/- Empty states: the program's, and both functions. No condition. -/
import Derived.Test.YtkophkhamikaoaaGreatkbI1
namespace Go.Aw
set_option maxHeartbeats 4000000
open Go.Proofs
attribute [local irreducible] aft blk lpK retK AW A0e
set_option linter.all false
set_option maxRecDepth 100000
def geN(n:List UInt8)(x:c9):Bool:=!sLt x.Name n
def a5m(l:List c9)(n:List UInt8):Int:=bif decide (a0A (geN n) l<0)then(l.length:Int)else a0A (geN n) l
def c8r(l:List c9)(n:List UInt8):a5m l n=((l.takeWhile fun x=>sLt x.Name n).length:Nat):=by
 rcases a9T (fun i=>geN n (l.getD i default)) l.length with h|⟨i,hi,h1,h2⟩
 ·have ha:l.any (geN n)=false:=by
   rw[q2J];intro x hx;obtain⟨j,hj,rfl⟩:=q1I hx;have:=h j hj;rw[k8 default hj]at this;simpa using this
  have ht:l.takeWhile (fun x=>sLt x.Name n)=l:=by
   have:∀l:List c9,l.any (geN n)=false->l.takeWhile (fun x=>sLt x.Name n)=l:=by
    intro l
    induction l with
    | nil=>intro _;rfl
    | cons x l ih=>
      intro h;rw[q2P,q0Y]at h;have hx:sLt x.Name n=true:=by have:=h.1;rw[geN]at this;simpa using this
      rw[q2M,hx,if_pos rfl,ih h.2]
   exact this l ha
  rw[a5m,w9 ha,ht];rfl
 ·have ha:(l.take i).any (geN n)=false:=by
   rw[q2J];intro x hx;obtain⟨j,hj,rfl⟩:=q2R.1 hx;have:=h1 j z0D;rw[k8 default z0D]at this;simpa using this
  have e:=y5 (p:=geN n) (d:=default) hi ha h2;have hl:(l.takeWhile fun x=>sLt x.Name n).length=i:=by
   have gen:∀(l:List c9) (i:Nat),i<l.length->(l.take i).any (geN n)=false->geN n (l.getD i default)=true->(l.takeWhile fun x=>sLt x.Name n).length=i:=by
    intro l
    induction l with
    | nil=>intro i h;simp at h
    | cons x l ih=>
      intro i h ha hp;cases i with
      | zero=>
        have hx:sLt x.Name n=false:=by simpa[geN]using hp
        rw[q2M,hx];rfl
      | succ i=>
        rw[q0G,q2P,q0Y]at ha;have hx:sLt x.Name n=true:=by have:=ha.1;rw[geN]at this;simpa using this
        rw[q2M,hx,if_pos rfl,V9,ih i z05 ha.2 (by simpa using hp)]
   exact gen l i hi ha h2
  rw[a5m,e,hl,V5 z0D];rfl
def b9e{l:List c9}{n:List UInt8}(h:∀x∈l,¬x.Name=n)(v:c9):c1q l (a5m l n) v=a1D l n v:=by
 have hs:l=l.takeWhile (fun x=>sLt x.Name n)++l.dropWhile (fun x=>sLt x.Name n):=q1Y.symm;have hf:(l.dropWhile fun x=>sLt x.Name n).filter (fun x=>!(x.Name==n))=l.dropWhile fun x=>sLt x.Name n:=by
  rw[List.filter_eq_self];intro x hx;have:=h x (List.dropWhile_sublist _ |>.mem hx);simpa using this
 rw[b0b,hf,c1q,c8r,q3V];have e1:=q4P (l₁:=l.takeWhile fun x=>sLt x.Name n) (l₂:=l.dropWhile fun x=>sLt x.Name n);have e2:=q4G (l₁:=l.takeWhile fun x=>sLt x.Name n) (l₂:=l.dropWhile fun x=>sLt x.Name n);rw[<-hs]at e1 e2;rw[e1,e2]
def d6y(l:List c9)(n:List UInt8):0<=a5m l n/\a5m l n<=l.length:=by
 rw[c8r];have:=(List.takeWhile_sublist (fun x:c9=>sLt x.Name n) (l:=l)).length_le;omega
def c7F(l:List c9)(hpre:l.length<1000000):spZ 158 [(false,[.sl false [.s [],.i .i64 0,.sl false [.sl false [.i .i64 0,.s []] []] []] (l.map (c9.cells false false))])] [] (.one (false,[.sl true [.s [],.i .i64 0,.sl false [.sl false [.i .i64 0,.s []] []] []] (l.map (c9.cells false false))])):=by
 exact a6L (d:=[.s [],.i .i64 0,.sl false [.sl false [.i .i64 0,.s []] []] []]) Tryz.cloneNamed z0L (hi:=rfl) (hz0:=rfl) (hz1:=rfl) (bytes:=48) (hz2:=rfl) (hzs:=rfl) z02 (fun w=>rfl) _ z01
noncomputable def a7f:CT:=n9 (fun(x:(List c9)) h=>c7F x h)
@[go_sem] def d9w:=fun l=>nm' (fP' a7f rfl l)
def c4B(x:c9)(n:List UInt8):spZ 160 [(true,[.s x.Name,.i .i64 x.Rel.Arity,u7 x.Rel.Rows]),(false,[.p [.s n]])] [] (.one (false,[.b (geN n x)])):=by
 refine sy' Tryz.func160 (q' 2 [aX 3 0,aU false] (q' 4 [aG 0 2,al 1,aD .geq 5 6,aV 3] .ret)) [.t 3] [] ?_;intro hb hE;simp only[go_sem];repeat' first|apply cj'|intro hc|exact om'|fail
 all_goals(first|rfl|(rw[geN,<-d4p];done))
noncomputable def b0B:CT:=l4 (fun(x:c9×(List UInt8))=>c4B x.1 x.2)
@[go_sem] def d7N:=fun x0 x1 x2 n=>nm' (fQ' b0B rfl (⟨x0,⟨x1,x2⟩⟩,n))
def c7L(l:List c9)(n:List UInt8):spZ 159 [(false,[j7 l]),(false,[.f 160 [.p [.s n]]])] [] (.one (false,[.i .i64 (a0A (geN n) l)])):=by
 refine sy' Tryz.func159 (q' 4 [aK 0] (.seq (q' 6 [am 0,aN,aK 0] (fO 0 9 [ar 8 7] 9 1 (q' 10 [am 8,aV 5] (q' 11 [aM [1,0,5],aI 3,aE 3,ao (.callv (.t 11) [.t 15])] (ci 16 (q' 17 [am 5,aV 4] .ret)))) (g' 18 [aA 8]))) (q' 4 [ao (.mov (.k (.v false [.c (.i .i64 (-1))])))] .ret))) [.t 4] [(160,[],b0B)] ?_;intro hb hE;simp only[go_sem];repeat' first|apply cj'|intro hc|exact om'|fail
 refine lq' false [0,1,7] [] [] (fun i:{i:Nat // i<=l.length/\(l.take i).any (geN n)=false}=>[(8,slV (.i .i64 i.1))]) nl' nl' (fun i=>l.length-i.1) (⟨0,z0E⟩) ?_;intro S0 hS0 i;obtain⟨i,hi,ha⟩:=i;simp only[go_sem,hS0];repeat' first|apply cj'|intro hc|exact om'|fail
 ·exact(y5 (p:=geN n) (d:=default) z0D ha z0F).symm
 ·exact nx0 ⟨i+1,z0D,u6 (p:=geN n) default z0D ha z0F⟩
 ·exact(w9 z0K).symm
noncomputable def a7g:CT:=l4 (fun(x:(List c9)×(List UInt8))=>c7L x.1 x.2)
@[go_sem] def d9C:=fun l n=>nm' (fQ' a7g rfl (l,n))
@[go_sem] def b2g:ACode:=q' 3 [aX 1 0,aX 1 1,aX 2 2,aw [.sl o0]] (q' 8 [aG 0 3,ac 158 [9],ao (.bld [.sl o0] [(0,1,.t 10)]),aS 1 3 11] (q' 12 [aG 0 3,ao (.mf 160 [.t 4]),ac 159 [13,14],aV 7] (.seq (q' 16 [am 7,aC
 .lss 16 0] (ci 17 (g' 18 [aG 0 3,aN,aV 7]))) (.seq (.seq (G' 21 [am 7,aG 0 3,aN,ar 21 24,am 25,aH 26 true [bf 0 3,bL,bm 7,bI 3,bF 0,bL,bo (.ld false 1 (.t
 4)),bD .eql 32 33],aP 26 34]) (cd 35 (g' 36 [aG 0 3,am 7,ae 2 5,ai 3 37 38,aF 1,aS 2 41 39]) (g' 42 [aG 0 3,am 7,al 4,ae 2 5,ao (.bld [.s,.i .i64,.sl k7] [(0,1,.t 45),(1,2,.t 46)]),ao (.bsl 3 1 [.s,.i .i64,.sl k7] [(0,.t 47)]),ac 161
 [43,44,48],af 0 3,aS 1 50 49]))) (q' 51 [ae 1 3,aS 1 6 51] .ret)))))
def c4C(s:c6)(n:List UInt8)(r:f8)(hpre:(∀x∈s.Rels,¬x.Name=n)/\s.Rels.length<=1000):spZ 102 [(true,[j7 s.Rels]),(false,[.s n]),(true,[.i .i64 r.Arity,u7 r.Rows])] [] (.one (true,[b9f ((⟨a1D s.Rels n ⟨n,r⟩⟩:c6).Rels)])):=by
 refine sy' Tryz.func102 b2g [.c 6 true 1] [(158,[],a7f),(159,[],a7g),(161,[0,2],b1F)] ?_;intro hb hE;obtain⟨hno,hlen⟩:=hpre;simp only[go_sem];repeat' first|apply cj'|intro hc|exact om'|fail
 ·rename_i h0;exact congrArg (List.map _) (by rw[<-b9e hno ⟨n,r⟩,a5m,V3 h0];rfl)
 ·exact absurd (by simpa using hc.2) (hno _ (A3y (d:=default) z0D))
 ·rename_i h0;have:=d6y s.Rels n;rw[a5m,V5 h0]at this;simp only[V2]at this;exact⟨this,z0D⟩
 ·rename_i h0;exact congrArg (List.map _) (by rw[<-b9e hno ⟨n,r⟩,a5m,V5 h0];rfl)
noncomputable def a5T:CT:=n9 (fun(x:c6×(List UInt8)×f8) h=>c4C x.1 x.2.1 x.2.2 h)
@[go_sem] def b5e:=fun x0 n x1 x2=>nm' (fP' a5T rfl (⟨x0⟩,n,⟨x1,x2⟩))
def d3V{l:List f7}{x:c9}(h:x∈a0r l):∃d∈l,d.Name=x.Name:=by
 have h1:x.Name∈(a0r l).map c9.Name:=q0R.2 ⟨x,h,rfl⟩;rw[a7l,o7]at h1;simpa using h1
def e1U{p:c4}(h:a0g p=true){k:Int}(hk:k<1\/3<k):a1P p k=[]:=by
 rw[a1P,List.filter_eq_nil_iff];intro d hd e;simp only[a0g,W3,q0I]at h;have:=h.1.1.1 d hd;simp only[a2X,K7]at this;simp only[beq_iff_eq]at e;omega
def c0W(p:c4)(k:Int):List c9:=bif (p7 p).1==0 then a0r (a1P p k)else[]
variable{v:List UInt8}{l:List d7}{args:List d9}{i:Nat}
def d3W{p:c4}(h:((p7 p).1==0)=true)(k:Int)(hi:i<p.Decls.length):∀x∈a0r ((p.Decls.take i).filter fun d=>d.Kind==k),¬x.Name=(p.Decls.getD i default).Name:=by
 intro x hx e;obtain⟨d,hd,hn⟩:=d3V hx;obtain⟨j,hj,rfl⟩:=q2R.1 (q0N.1 hd).1;have:=a7t (a2R z05).2.1 hi (j:=j) z0D;rw[k8 default z0D]at this;exact this (hn.trans e)
def d5Q:∀{L:List (List C)} {r:List C},r∈L->A3q r=false->A3r L=false
 | [],r,h,_=>by simp at h
 | x::L,r,h,e=>by
   unfold A3r;rcases q0B.1 h with rfl|h
   ·rw[e];rfl
   ·rw[d5Q h e,q2B]
@[go_sem] def setS_clo(l:List c9)(n:List UInt8)(v:c9):A3r ((a1D l n v).map (c9.cells false false))=false:=by
 refine d5Q (r:=c9.cells false false v) (q0R.2 ⟨v,by rw[b0b];simp,rfl⟩) ?_;simp[c9.cells,A3q,C.clo]
@[go_sem] def with_nil(l:List c9)(n:List UInt8)(a:Int):a5T [(true,[j7 l]),(false,[.s n]),(true,[.i .i64 a,.sl false k7 []])]=some ((∀x∈l,¬x.Name=n)/\l.length<=1000,[],.one (true,[b9f (a1D l n ⟨n,⟨a,[]⟩⟩)])):=by
 have h:=b5e l n a [];simpa using h
def b3z(p:c4)(k:Int):spZ 64 [(true,[p6 p.Decls,o9 p.Rules]),(false,[.i .i64 k])] [] (.one (true,[b9f ((⟨c0W p k⟩:c6).Rels)])):=by
 refine sy' Tryz.func64 (q' 2 [aX 2 0,ax (w' 4 [.sl o0])] (q' 5 [ax (o' 8 (.bld [.sl o0] [])),aw [.sl o0],aS 1 5 8] (.seq (q' 9 [ae 2 2,ac 101 [9],aO 10,am 11,aH 12 false [bm 1,bC .lss 13 1],aQ 12 14,am 15,aH 16 false [bm 1,bC .gtr 17 3],aQ 16 18] (ci 19 (q' 20 [ae 1 5,aS 1 4 20] .ret))) (.seq (q' 21 [aG 0 2,aN,aK 0] (fO 0 25 [ar 24 23] 25 1 (q' 26 [ai 3 22 24,aE 3,ax (w' 7 [.i .i64,.s,.i .i64]),aS 3 7 27] (q' 28 [aG 0 7,am 1,aD .eql 29 30] (ci 31 (g' 32 [ae 1 5,aG 1 7,aG 2 7,ao (.bld [.i .i64,.sl k7] [(0,1,.t 36)]),ac 102 [32,34,37],aS 1 5 38])))) (g' 39 [aA 24]))) (q' 40 [ae 1 5,aS 1 4 40] .ret))))) [.c 4 true 1] [(101,[],a2I),(102,[],a5T)] ?_;intro hb hE;simp only[go_sem];repeat' first|apply cj'|intro hc|exact om'|fail
 ·unfold c0W;cases hN:((p7 p).1==0)with
  | false=>rfl
  | true=>
    rw[W8,e1U (a0c hN) (by rw[hN]at hc;simp at hc;omega)];rfl
 have hN:((p7 p).1==0)=true:=by simp at hc;simpa using hc.1.1
 have hdl:=(show p.Decls.length<=16 by have:=a0c hN;simp only[a0g,K7]at this;omega)
 clear hc;refine lk' false [(true,10,0,200020)] [1,4,5,22,23] [8] [] (fun i:{i:Nat // i<=p.Decls.length}=>[(24,slV (.i .i64 i.1))]) (fun i=>[(10,[.ow 200020])]) (fun i=>[(200020,o0,(a0r ((p.Decls.take i.1).filter fun d=>d.Kind==k)).map (c9.cells false false))]) (fun i=>p.Decls.length-i.1) (⟨0,z0E⟩) ?_;intro S0 hS0 i;obtain⟨i,hi⟩:=i;have h1:=b1H ((p.Decls.take i).filter fun d=>d.Kind==k);have h2:=q1F (fun d:f7=>d.Kind==k) (p.Decls.take i);rw[V1]at h2;simp only[go_sem,hS0];repeat' first|apply cj'|intro hc|exact om'|fail
 all_goals first
  | omega
  | exact⟨d3W hN k z0D,z0D⟩
  | ((refine lpK_n2 (⟨i+1,z0D⟩) _ z0H ?_;simp only[go_sem,hS0]<;>repeat' first|apply W6|exact on'|fail);rw[f_yes (p:=fun d:f7=>d.Kind==k) default z0D hc,b6G];done)
  | ((refine lpK_n2 (⟨i+1,z0D⟩) _ z0H ?_;simp only[go_sem,hS0]<;>repeat' first|apply W6|exact on'|fail);rw[f_no (p:=fun d:f7=>d.Kind==k) default z0D hc];done)
  | (rw[j5 z0D,c0W,hN];rfl)
  | trace_state
noncomputable def a5r:CT:=l4 (fun(x:c4×Int)=>b3z x.1 x.2)
@[go_sem] def c9y:=fun x0 x1 k=>nm' (fQ' a5r rfl (⟨x0,x1⟩,k))
def b3Y(a b:List c9)(i:Nat):Bool:=!((a.getD i default).Name==(b.getD i default).Name)||!((a.getD i default).Rel.Arity==(b.getD i default).Rel.Arity)
def a1S(a b:List c9):Bool:=decide (a.length=b.length)&&!a2Y a.length (b3Y a b)
noncomputable def a0x(p:c4)(s:c6):Bool:=y3 p&&j9 s&&a1S s.Rels (a0r (a1P p 1))
def b5C(a:c6)(b:c6):spZ 63 [(true,[j7 a.Rels]),(true,[j7 b.Rels])] [] (.one (false,[.b (a1S a.Rels b.Rels)])):=by
 refine sy' Tryz.func63 (q' 2 [aX 1 0,aX 1 1,aU false] (.seq (q' 7 [aG 0 2,aN,aG 0 3,aN,aD .neq 9 12] (ci 13 (q' 4 [aU false] .ret))) (.seq (q' 14 [aG 0 2,aN,aK 0] (fO 0 18 [ar 17 16] 18 1 (q' 19 [am 17,ai 3 15 17,aE 3,ax (w' 6 [.s,.i .i64,.sl k7]),av 5 19,aS 3 6 21] (.seq (G' 22 [aG 0 6,aG 0 3,am 5,aI 3,aG 0 27,aD .neq 23 29,am 30,aH 31 false [bf 1 6,bF 0,bL,bf 0 3,bL,bm 5,bI 3,bF 1,bF 0,bL,bD .neq 34 41],aQ 31 42]) (ci 43 (q' 4 [aU false] .ret)))) (g' 44 [aA 17]))) (q' 4 [aU true] .ret)))) [.t 4] [] ?_;intro hb hE;simp only[go_sem];repeat' first|apply cj'|intro hc|exact om'|fail
 ·symm;rw[a1S,V5 (fun h=>by simp[h]at hc)];rfl
 have hl:a.Rels.length=b.Rels.length:=by simpa[q3H]using hc
 refine lq' false [3,15,16] [6] [] (fun i:{i:Nat // i<=a.Rels.length/\a2Y i (b3Y a.Rels b.Rels)=false}=>[(17,slV (.i .i64 i.1))]) nl' nl' (fun i=>a.Rels.length-i.1) (⟨0,z13⟩) ?_;intro S0 hS0 i;obtain⟨i,hi,ha⟩:=i;simp only[go_sem,hS0];repeat' first|apply cj'|intro hc|exact om'|fail
 ·rw[a1S,a2r (i:=i) z0D z1Z];simp
 ·exact nx0 ⟨i+1,z0D,a1h ha z1Z⟩
 ·obtain rfl:i=a.Rels.length:=by omega
  rw[a1S,ha,V3 hl];rfl
noncomputable def a6v:CT:=l4 (fun(x:c6×c6)=>b5C x.1 x.2)
@[go_sem] def d1E:=fun x0 x1=>nm' (fQ' a6v rfl (⟨x0⟩,⟨x1⟩))
def b8Y(a:c6)(b:c6):spZ 82 [(true,[j7 a.Rels]),(true,[j7 b.Rels])] [] (.one (false,[.b (a1S a.Rels b.Rels)])):=by
 refine sy' Tryz.func82 (q' 2 [aX 1 0,aX 1 1,aU false] (.seq (q' 6 [aG 0 2,aN,aG 0 3,aN,aD .neq 8 11] (ci 12 (q' 4 [aU false] .ret))) (.seq (q' 13 [aG 0 2,aN,aK 0] (fO 0 17 [ar 16 15] 17 1 (q' 18 [am 16,aV 5] (.seq (G' 19 [aG 0 2,am 5,aI 3,aG 0 22,aG 0 3,am 5,aI 3,aG 0 28,aD .neq 24 30,am 31,aH 32 false [bf 0 2,bL,bm 5,bI 3,bF 1,bF 0,bL,bf 0 3,bL,bm 5,bI 3,bF 1,bF 0,bL,bD .neq 39 46],aQ 32 47]) (ci 48 (q' 4 [aU false] .ret)))) (g' 49 [aA 16]))) (q' 4 [aU true] .ret)))) [.t 4] [] ?_;intro hb hE;simp only[go_sem];repeat' first|apply cj'|intro hc|exact om'|fail
 ·symm;rw[a1S,V5 (fun h=>by simp[h]at hc)];rfl
 have hl:a.Rels.length=b.Rels.length:=by simpa[q3H]using hc
 refine lq' false [2,3,15] [4,6] [] (fun i:{i:Nat // i<=a.Rels.length/\a2Y i (b3Y a.Rels b.Rels)=false}=>[(16,slV (.i .i64 i.1))]) nl' nl' (fun i=>a.Rels.length-i.1) (⟨0,z13⟩) ?_;intro S0 hS0 i;obtain⟨i,hi,ha⟩:=i;simp only[go_sem,hS0];repeat' first|apply cj'|intro hc|exact om'|fail
 ·rw[a1S,a2r (i:=i) z0D z1Z];simp
 ·exact nx0 ⟨i+1,z0D,a1h ha z1Z⟩
 ·obtain rfl:i=a.Rels.length:=by omega
  rw[a1S,ha,V3 hl];rfl
noncomputable def a8i:CT:=l4 (fun(x:c6×c6)=>b8Y x.1 x.2)
@[go_sem] def d3L:=fun x0 x1=>nm' (fQ' a8i rfl (⟨x0⟩,⟨x1⟩))
def c9W{p:c4}(h:y3 p=true)(k:Int):c0W p k=a0r (a1P p k):=by rw[c0W,u9 h];rfl
def c1m{p:c4}(h:y3 p=true):p.Decls.length<=16:=by
 have:=a0c (u9 h);simp only[a0g,K7]at this;omega
def c1C(p:c4)(s:c6):spZ 31 [(true,[p6 p.Decls,o9 p.Rules]),(true,[j7 s.Rels])] [] (.one (false,[.b (a0x p s)])):=by
 refine sy' Tryz.func31 (q' 2 [aX 2 0,aX 1 1,aU false] (.seq (G' 5 [ae 2 2,ac 61 [5],am 6,aH 7 true [be 1 3,bc 62 [8]],aP 7 9,am 10,aH 11 true [be 1 3,be 2 2,bo (.call 64 [.t 13,.k (.v false [.c (.i .i64 1)])]),bc 63 [12,14]],aP 11 15,aV 4]) .ret)) [.t 4] [(61,[],b6A),(62,[],a8K),(64,[],a5r),(63,[],a6v)] ?_;intro hb hE;simp only[go_sem];repeat' first|apply cj'|intro hc|exact om'|fail
 rw[a0x];cases h:y3 p with
 | false=>rfl
 | true=>rw[c9W h]
noncomputable def a8J:CT:=l4 (fun(x:c4×c6)=>c1C x.1 x.2)
@[go_sem] def d4L:=fun x0 x1 x2=>nm' (fQ' a8J rfl (⟨x0,x1⟩,⟨x2⟩))
def c2p(p:c4)(s:c6):spZ 48 [(true,[p6 p.Decls,o9 p.Rules]),(true,[j7 s.Rels])] [] (.one (false,[.b (a0x p s)])):=by
 refine sy' Tryz.func48 (q' 2 [aX 2 0,aX 1 1,aU false] (.seq (G' 5 [ae 2 2,ac 80 [5],am 6,aH 7 true [be 1 3,bc 81 [8]],aP 7 9,am 10,aH 11 true [be 1 3,be 2 2,bo (.call 83 [.t 13,.k (.v false [.c (.i .i64 1)])]),bc 82 [12,14]],aP 11 15,aV 4]) .ret)) [.t 4] [(80,[],b6D),(81,[],a9p),(83,[],a3X),(82,[],a8i)] ?_;intro hb hE;simp only[go_sem];repeat' first|apply cj'|intro hc|exact om'|fail
 ·exact c1m hc.1
 ·rfl
noncomputable def a9o:CT:=l4 (fun(x:c4×c6)=>c2p x.1 x.2)
@[go_sem] def d5B:=fun x0 x1 x2=>nm' (fQ' a9o rfl (⟨x0,x1⟩,⟨x2⟩))
attribute [local irreducible] RM
def gtB(v:List UInt8)(b:d7):Bool:=Op.bytesLess v b.Var
def a1u(l:List d7)(v:List UInt8)(x:d8):List d7:=l.takeWhile (fun b=>!gtB v b)++⟨v,x⟩::l.dropWhile (fun b=>!gtB v b)
def c8y{α:Type}{p:α->Bool}:∀{l:List α},l.any p=false->l.takeWhile (fun b=>!p b)=l/\l.dropWhile (fun b=>!p b)=[]
 | [],_=>⟨rfl,rfl⟩
 | x::l,h=>by
   rw[q2P,q0Y]at h;have:=c8y h.2;rw[q2M,q3N,h.1];simp[this.1,this.2]
def c8w{α:Type}{p:α->Bool}{b:α}{r:List α}(hb:p b=true):∀{l:List α},l.any p=false->(l++b::r).takeWhile (fun b=>!p b)=l/\(l++b::r).dropWhile (fun b=>!p b)=b::r
 | [],_=>by rw[q1J,q2M,q3N,hb];exact⟨rfl,rfl⟩
 | x::l,h=>by
   rw[q2P,q0Y]at h;have:=c8w (r:=r) hb h.2;rw[q1K,q2M,q3N,h.1];simp[this.1,this.2]
def c8v{α:Type}{p:α->Bool}{r:List α}:∀{l:List α},l.any p=true->(l++r).takeWhile (fun b=>!p b)=l.takeWhile (fun b=>!p b)/\(l++r).dropWhile (fun b=>!p b)=l.dropWhile (fun b=>!p b)++r
 | [],h=>by simp at h
 | x::l,h=>by
   rw[q1K,q2M,q3N,q2M,q3N];cases hx:p x with
   | true=>simp
   | false=>
     rw[q2P,hx,q3S]at h;have:=c8v (r:=r) h;simp[this.1,this.2]
def b6k(x:d8)(h:l.any (gtB v)=false):a1u l v x=l++[⟨v,x⟩]:=by rw[a1u,(c8y h).1,(c8y h).2]
def e2w{b:d7}(x:d8)(h:l.any (gtB v)=false)(hb:gtB v b=true):a1u (l++[b]) v x=l++[⟨v,x⟩]++[b]:=by rw[a1u,(c8w hb h).1,(c8w hb h).2];simp
def d9n{b:d7}(x:d8)(h:l.any (gtB v)=true):a1u (l++[b]) v x=a1u l v x++[b]:=by rw[a1u,a1u,(c8v h).1,(c8v h).2];simp
def a3N(l:List d7)(v:List UInt8)(x:d8):(a1u l v x).length=l.length+1:=by
 have h:=congrArg List.length (q1Y (p:=fun b=>!gtB v b) (l:=l));rw[V6]at h;rw[a1u,V6,V9];omega
def d1c(l:List d7)(v:List UInt8):Int:=bif decide (a0A (gtB v) l<0)then(l.length:Int)else a0A (gtB v) l
def e1H(l:List d7)(v:List UInt8)(x:d8):0<=d1c l v/\d1c l v<=l.length/\c1q l (d1c l v) ⟨v,x⟩=a1u l v x:=by
 cases h:l.any (gtB v)with
 | false=>
   rw[d1c,w9 h];refine⟨z0E,z0E, ?_⟩;rw[b6k x h];simp[c1q]
 | true=>
   obtain⟨i,hi,ha,hp⟩:∃i,i<l.length/\(l.take i).any (gtB v)=false/\gtB v (l.getD i default)=true:=by
    have gen:∀l:List d7,l.any (gtB v)=true->∃i,i<l.length/\(l.take i).any (gtB v)=false/\gtB v (l.getD i default)=true:=by
     intro l
     induction l with
     | nil=>intro h;simp at h
     | cons y l ih=>
       intro h;cases hy:gtB v y with
       | true=>exact⟨0,z0E,z0E,by simpa using hy⟩
       | false=>
         rw[q2P,hy,q3S]at h;obtain⟨i,h1,h2,h3⟩:=ih h;exact⟨i+1,by simpa using h1,by simp[hy,h2],by simpa using h3⟩
    exact gen l h
   have e:=y5 (p:=gtB v) (d:=default) hi ha hp;rw[d1c,e,V5 z0D];refine⟨z0E,z0X, ?_⟩;have hs:l=l.take i++l.getD i default::l.drop (i+1):=by
    rw[k8 default hi];simp
   rw[V2,c1q,q3V,a1u];generalize l.getD i default=b at hp hs;generalize l.drop (i+1)=r at hs;have h1:=c8w (r:=r) hp ha;rw[<-hs]at h1;rw[h1.1,h1.2];have h2:l.drop i=b::r:=by
    conv=>lhs;rw[hs]
    rw[q4T z1R,q3W z1R];rfl
   rw[h2]
def gt_not(b v:List UInt8):(!(Op.bytesLess b v||b==v))=Op.bytesLess v b:=by
 cases h1:Op.bytesLess b v with
 | true=>
   cases h2:Op.bytesLess v b with
   | false=>rfl
   | true=>have h3:=a2h _ _ _ h1 h2;rw[a1y]at h3;cases h3
 | false=>
   cases h2:Op.bytesLess v b with
   | false=>rw[a3m _ _ h1 h2];simp
   | true=>
     have:(b==v)=false:=beq_eq_false_iff_ne.2 fun e=>by subst e;have h3:=a1y b;rw[h3]at h2;cases h2
     rw[this];rfl
def a8q(l:List d7)(v:List UInt8)(x:d8):List d7:=bif l.any (gtB v)then a1u l v x else l
def d0Y{x:d8}{b:d7}(h:l.any (gtB v)=false)(hb:gtB v b=true):a8q (l++[b]) v x=a8q l v x++[⟨v,x⟩]++[b]/\(l++[b]).any (gtB v)=true:=by
 have h2:(l++[b]).any (gtB v)=true:=by rw[q2F,q2P,hb];simp
 exact⟨by rw[a8q,a8q,h2,h,W8,V2,e2w x h hb],h2⟩
def d6w{x:d8}{b:d7}(h:(!l.any (gtB v)&&gtB v b)=false):a8q (l++[b]) v x=a8q l v x++[b]/\(l++[b]).any (gtB v)=l.any (gtB v):=by
 cases ha:l.any (gtB v)with
 | true=>
   have h2:(l++[b]).any (gtB v)=true:=by rw[q2F,ha];rfl
   exact⟨by rw[a8q,a8q,h2,ha,W8,W8,d9n x ha],h2⟩
 | false=>
   rw[ha]at h;have h2:(l++[b]).any (gtB v)=false:=by rw[q2F,ha,q2P,show gtB v b=false from h];rfl
   exact⟨by rw[a8q,a8q,h2,ha,V2,V2],h2⟩
def d0Z(l:List d7)(v:List UInt8)(x:d8):(a8q l v x).length<=l.length+1:=by
 rw[a8q];cases l.any (gtB v)with
 | true=>rw[W8,a3N];exact q0F _
 | false=>exact q4V _
def d0s(l:List d7)(hpre:l.length<1000000):spZ 329 [(false,[.sl false [.s [],.i .i64 0,.s []] (l.map d7.cells)])] [] (.one (false,[.sl true [.s [],.i .i64 0,.s []] (l.map d7.cells)])):=by
 exact a6L (d:=[.s [],.i .i64 0,.s []]) Tryz.cloneBind z0L (hi:=rfl) (hz0:=rfl) (hz1:=rfl) (bytes:=40) (hz2:=rfl) (hzs:=rfl) z02 (fun w=>rfl) _ z01
noncomputable def b6u:CT:=n9 (fun(x:(List d7)) h=>d0s x h)
@[go_sem] def e0T:=fun l=>nm' (fP' b6u rfl l)
def c4o(b:d7)(v:List UInt8):spZ 327 [(true,[.s b.Var,.i .i64 b.Val.N,.s b.Val.S]),(false,[.p [.s v]])] [] (.one (false,[.b (gtB v b)])):=by
 refine sy' Tryz.func327 (q' 2 [aX 3 0,aU false] (q' 4 [aG 0 2,al 1,aD .gtr 5 6,aV 3] .ret)) [.t 3] [] ?_;intro hb hE;simp only[go_sem];repeat' first|apply cj'|intro hc|exact om'|fail
 exact gt_not _ _
noncomputable def b0u:CT:=l4 (fun(x:d7×(List UInt8))=>c4o x.1 x.2)
@[go_sem] def d7y:=fun x0 x1 x2 v=>nm' (fQ' b0u rfl (⟨x0,⟨x1,x2⟩⟩,v))
def d0A(l:List d7)(v:List UInt8):spZ 326 [(false,[a0b l]),(false,[.f 327 [.p [.s v]]])] [] (.one (false,[.i .i64 (a0A (gtB v) l)])):=by
 refine sy' Tryz.func326 (q' 4 [aK 0] (.seq (q' 6 [am 0,aN,aK 0] (fO 0 9 [ar 8 7] 9 1 (q' 10 [am 8,aV 5] (q' 11 [aM [1,0,5],aI 3,aE 3,ao (.callv (.t 11) [.t 15])] (ci 16 (q' 17 [am 5,aV 4] .ret)))) (g' 18 [aA 8]))) (q' 4 [ao (.mov (.k (.v false [.c (.i .i64 (-1))])))] .ret))) [.t 4] [(327,[],b0u)] ?_;intro hb hE;simp only[go_sem];repeat' first|apply cj'|intro hc|exact om'|fail
 refine lq' false [0,1,7] [] [] (fun i:{i:Nat // i<=l.length/\(l.take i).any (gtB v)=false}=>[(8,slV (.i .i64 i.1))]) nl' nl' (fun i=>l.length-i.1) (⟨0,z0E⟩) ?_;intro S0 hS0 i;obtain⟨i,hi,ha⟩:=i;simp only[go_sem,hS0];repeat' first|apply cj'|intro hc|exact om'|fail
 ·exact(y5 (p:=gtB v) (d:=default) z0D ha z0F).symm
 ·exact nx0 ⟨i+1,z0D,u6 (p:=gtB v) default z0D ha z0F⟩
 ·exact(w9 z0K).symm
noncomputable def b6z:CT:=l4 (fun(x:(List d7)×(List UInt8))=>d0A x.1 x.2)
@[go_sem] def e0Z:=fun l v=>nm' (fQ' b6z rfl (l,v))
@[go_sem] def a8x:ACode:=q' 5 [ax (o' 3 (.box 1 (.t 0))),aX 2 2,aw [.sl k9]] (q' 7 [ax (o' 11 (.bld [.sl k9] [])),aw [.sl k9],aS 1 7 11] (q' 8 [aU false] (.seq (q' 12 [aG 0 3,aN,aK 0] (fO 0 16 [ar 15 14] 16 1 (q' 17 [ai 3 13 15,aE 3,ax (w' 10 [.s,.i .i64,.s]),aS 3 10 18]
 (.seq (q' 19 [am 8,aO 19,am 20,aH 21 true [bm 1,bf 0 10,bL,bD .lss 22 24],aP 21 25] (ci 26 (q' 27 [aG 0 7,am 1,ae 2 5,ao (.bld [.s,.i .i64,.s] [(0,1,.t
 29),(1,2,.t 30)]),ao (.bsl 3 1 [.s,.i .i64,.s] [(0,.t 31)]),ao (.app 3 40 [.s,.i .i64,.s] (.t 28) (.t 32)),af 0 7,aS 1 34 33] (g' 8 [aU true])))) (g'
 35 [aG 0 7,ae 3 10,ao (.bsl 3 1 [.s,.i .i64,.s] [(0,.t 37)]),ao (.app 3 40 [.s,.i .i64,.s] (.t 36) (.t 38)),af 0 7,aS 1 40 39]))) (g' 41 [aA 15]))) (.seq
 (q' 42 [am 8,aO 42] (ci 43 (g' 44 [aG 0 7,am 1,ae 2 5,ao (.bld [.s,.i .i64,.s] [(0,1,.t 46),(1,2,.t 47)]),ao (.bsl 3 1 [.s,.i .i64,.s] [(0,.t
 48)]),ao (.app 3 40 [.s,.i .i64,.s] (.t 45) (.t 49)),af 0 7,aS 1 51 50]))) (q' 52 [ae 1 7,aS 1 6 52] .ret)))))
def c5k(e:e7)(v:List UInt8)(x:d8)(hpre:e.Binds.length<=1000):spZ 249 [(true,[a0b e.Binds]),(false,[.s v]),(true,[.i .i64 x.N,.s x.S])] [] (.one (true,[kTBind ((⟨a1u e.Binds v x⟩:e7).Binds)])):=by
 refine sy' Tryz.func249 a8x [.c 6 true 1] [] ?_;intro hb hE;simp only[go_sem];repeat' first|apply cj'|intro hc|exact om'|fail
 refine lk' false [(true,14,0,200028)] [1,5,6,7,13,14] [10,12] [] (fun i:{i:Nat // i<=e.Binds.length}=>[(8,slV (.b ((e.Binds.take i.1).any (gtB v)))),(15,slV (.i .i64 i.1))]) (fun i=>[(14,[.ow 200028])]) (fun i=>[(200028,k9,(a8q (e.Binds.take i.1) v x).map d7.cells)]) (fun i=>e.Binds.length-i.1) (⟨0,z0E⟩) ?_;intro S0 hS0 i;obtain⟨i,hi⟩:=i;have hol:=d0Z (e.Binds.take i) v x;rw[V1]at hol;have hsn:i<e.Binds.length->e.Binds.take (i+1)=e.Binds.take i++[e.Binds.getD i default]:=fun h=>j6 default h
 simp only[go_sem,hS0];repeat' first|apply cj'|intro hc|exact om'|fail
 ·have h1:=d0Y (x:=x) hc.1 hc.2;rw[<-hsn z0D]at h1
  (refine lpK_n2 (⟨i+1,z0D⟩) _ z0H ?_;simp only[go_sem,hS0]<;>repeat' first|apply W6|exact on'|fail)
  all_goals(first|exact congrArg (List.map d7.cells) h1.1.symm|(rw[h1.2];done)|(rw[h1.2];exact congrArg _ hc.1.symm))
 ·have h1:=d6w (x:=x) hc;rw[<-hsn z0D]at h1
  (refine lpK_n2 (⟨i+1,z0D⟩) _ z0H ?_;simp only[go_sem,hS0]<;>repeat' first|apply W6|exact on'|fail)
  all_goals(first|exact congrArg (List.map d7.cells) h1.1.symm|(rw[h1.2];done)|(rw[h1.2];exact congrArg _ hc.1.symm))
 ·rw[j5 z0D]at hc ⊢;rw[a8q,hc,V2,b6k x hc]
 ·rw[j5 z0D]at hc ⊢;rw[a8q,hc,W8]
noncomputable def b0U:CT:=n9 (fun(x:e7×(List UInt8)×d8) h=>c5k x.1 x.2.1 x.2.2 h)
@[go_sem] def d8v:=fun x0 v x1 x2=>nm' (fP' b0U rfl (⟨x0⟩,v,⟨x1,x2⟩))
def b1f(a b:d8):Bool:=a.N==b.N&&a.S==b.S
def c4h(b:List d7)(t:d9)(v:d8):Option (List d7):=bif (n8 ⟨b⟩ t).2 then(bif b1f (n8 ⟨b⟩ t).1 v then some b else none)else some (a1u b t.Var v)
def a2P(b:List d7)(args:List d9)(vs:List d8):Nat->Option (List d7)
 | 0=>some b
 | n+1=>(a2P b args vs n).bind fun c=>c4h c (args.getD n default) (vs.getD n default)
def a6N(e:e7)(args:List d9)(row:c7):e7×Bool:=bif decide (args.length=row.V.length)then(match a2P e.Binds args row.V args.length with|some c=>(⟨c⟩,true)|none=>(default,false))else(default,false)
def c5P{b:List d7}{args:List d9}{vs:List d8}{i:Nat}(h:a2P b args vs i=none):∀{n:Nat},i<=n->a2P b args vs n=none
 | 0,hn=>by
   obtain rfl:i=0:=by omega
   exact h
 | n+1,hn=>by
   rcases q3I i (n+1)with h1|h1
   ·rw[a2P,c5P h (show i<=n by omega)];rfl
   ·obtain rfl:i=n+1:=by omega
    exact h
def b3q{b:List d7}{args:List d9}{vs:List d8}:∀{n:Nat} {c:List d7},a2P b args vs n=some c->c.length<=b.length+n
 | 0,c,h=>by simp only[a2P,W0]at h;subst h;exact q0F _
 | n+1,c,h=>by
   rw[a2P]at h;obtain⟨d,h1,h2⟩:=q2W.1 h;have:=b3q h1;rw[c4h]at h2;cases hv:(n8 ⟨d⟩ (args.getD n default)).2 with
   | true=>
     rw[hv,W8]at h2;cases hs:b1f (n8 ⟨d⟩ (args.getD n default)).1 (vs.getD n default)with
     | true=>rw[hs,W8,W0]at h2;subst h2;omega
     | false=>rw[hs]at h2;cases h2
   | false=>
     rw[hv,V2,W0]at h2;subst h2;rw[a3N];omega
def d5X{b c:List d7}{vs:List d8}(h:a2P b args vs i=some c)(hv:(n8 ⟨c⟩ (args.getD i default)).2=false):a2P b args vs (i+1)=some (a1u c (args.getD i default).Var (vs.getD i default)):=by
 rw[a2P,h,q4C,c4h,hv,V2]
def c1g{b c:List d7}{vs:List d8}(h:a2P b args vs i=some c)(hv:(n8 ⟨c⟩ (args.getD i default)).2=true)(hs:b1f (n8 ⟨c⟩ (args.getD i default)).1 (vs.getD i default)=true):a2P b args vs (i+1)=some c:=by
 rw[a2P,h,q4C,c4h,hv,hs];rfl
def c7t{b c:List d7}{vs:List d8}{n:Nat}(h:a2P b args vs i=some c)(hn:i<n)(hv:(n8 ⟨c⟩ (args.getD i default)).2=true)(hs:b1f (n8 ⟨c⟩ (args.getD i default)).1 (vs.getD i default)=false):a2P b args vs n=none:=by
 refine c5P (i:=i+1) ?_ hn;rw[a2P,h,q4C,c4h,hv,hs];rfl
def b4i{e:e7}{t:d9}(h:(t.Var==[])=false):n8 e t=a0n e t.Var:=by rw[n8,h];rfl
def b0f{e:e7}{t:d9}(h:(t.Var==[])=true):n8 e t=(t.Val,true):=by rw[n8,h];rfl
end Go.Aw
namespace Go.Aw
set_option maxHeartbeats 4000000
open Go.Proofs
set_option linter.all false
set_option maxRecDepth 100000
def a3g(l:List d7)(v:List UInt8):a0n ⟨l⟩ v=match l.find? (fun b=>b.Var==v)with|some b=>(b.Val,true)|none=>(default,false):=by
 cases h:l.find? (fun b=>b.Var==v)with
 | none=>
   refine a9x fun j hj=>?_
   have:=q5A.1 h (l.getD j default) (by rw[k8 default hj];exact q1M hj);simpa using this
 | some b=>
   obtain⟨hp,l1,l2,rfl,hno⟩:=List.find?_eq_some_iff_append.1 h;have e:(l1++b::l2).getD l1.length default=b:=by simp
   rw[a9y (e:=⟨l1++b::l2⟩) (i:=l1.length) z0E (fun j hj=>?_) (by simp only[e];exact hp)]
   ·simp only[e]
   ·have hm:(l1++b::l2).getD j default=l1[j]:=by
     rw[W5,q5N hj,V7 hj];rfl
    simp only[hm];have:=hno l1[j] (q1M hj);simpa using this
variable{v:List UInt8}{rows:List c7}{b c l:List d7}{args:List d9}{now:List e7}{i k n:Nat}{α:Type}
def c0Y(h:(a0n ⟨l⟩ v).2=false):l.find? (fun b=>b.Var==v)=none:=by
 rw[a3g]at h;cases hf:l.find? (fun b=>b.Var==v)with
 | none=>rfl
 | some b=>rw[hf]at h;cases h
def a9X(h:(a0n ⟨l⟩ v).2=false):¬v∈l.map d7.Var:=by
 intro hm;obtain⟨b,hb,rfl⟩:=q0R.1 hm;have:=q5A.1 (c0Y h) b hb;simp at this
def off_of(h:¬v∈l.map d7.Var):(a0n ⟨l⟩ v).2=false:=by
 rw[a3g,q5A.2 (fun b hb hv=>h (q0R.2 ⟨b,hb,by simpa using hv⟩))]
def e2i:(a0n ⟨l⟩ v).2=true↔v∈l.map d7.Var:=by
 constructor
 ·intro h;refine Classical.byContradiction fun hn=>?_
  rw[off_of hn]at h;cases h
 ·intro h;cases hv:(a0n ⟨l⟩ v).2 with
  | true=>rfl
  | false=>exact absurd h (a9X hv)
def c3b(l:List d7)(v:List UInt8):l.takeWhile (fun b=>!gtB v b)++l.dropWhile (fun b=>!gtB v b)=l:=q1Y
def d8F{w:List UInt8}{x:d8}(hw:w≠v):a0n ⟨a1u l v x⟩ w=a0n ⟨l⟩ w:=by
 rw[a3g,a3g]
 conv=>rhs;rw[<-c3b l v]
 rw[a1u,q5H,q5H,q3Y,show((v==w)=false)from beq_eq_false_iff_ne.2 (Ne.symm hw)]
def c9Y{x:d8}(h:(a0n ⟨l⟩ v).2=false):a0n ⟨a1u l v x⟩ v=(x,true):=by
 have h1:=c0Y h;rw[<-c3b l v,q5H]at h1;rw[a3g,a1u,q5H];cases h2:(l.takeWhile fun b=>!gtB v b).find? (fun b=>b.Var==v)with
 | some b=>rw[h2]at h1;cases h1
 | none=>simp
def e2E{a b:d8}(h:b1f a b=true):a=b:=by
 obtain⟨n,s⟩:=a;obtain⟨m,t⟩:=b;simp only[b1f,W3,beq_iff_eq]at h;obtain⟨rfl,rfl⟩:=h;rfl
def Back(c:List d7)(t:d9)(x:d8):Prop:=n8 ⟨c⟩ t=(x,true)
def Back.set{t:d9}{x y:d8}(h:Back c t x)(hv:(a0n ⟨c⟩ v).2=false):Back (a1u c v y) t x:=by
 unfold Back at*;rw[n8]at h ⊢;cases ht:t.Var==[]with
 | true=>rw[ht]at h;exact h
 | false=>
   rw[ht,V2]at h;have hn:t.Var≠v:=by intro e;rw[<-e,h]at hv;cases hv
   rw[V2,d8F hn];exact h
def a1l{t:d9}(h:(n8 ⟨c⟩ t).2=false):(t.Var==[])=false/\(a0n ⟨c⟩ t.Var).2=false:=by
 rw[n8]at h;cases ht:t.Var==[]with
 | true=>rw[ht]at h;cases h
 | false=>rw[ht]at h;exact⟨rfl,h⟩
def b1I{t:d9}{v:d8}(h:c4h b t v=some c):(c=b/\Back b t v)\/(c=a1u b t.Var v/\(t.Var==[])=false/\(a0n ⟨b⟩ t.Var).2=false):=by
 rw[c4h]at h;cases hv:(n8 ⟨b⟩ t).2 with
 | true=>
   rw[hv,W8]at h;cases hs:b1f (n8 ⟨b⟩ t).1 v with
   | true=>
     rw[hs,W8,W0]at h;refine .inl ⟨h.symm, ?_⟩;unfold Back;rw[<-e2E hs,<-hv]
   | false=>rw[hs]at h;cases h
 | false=>
   rw[hv,V2,W0]at h;exact .inr ⟨h.symm,a1l hv⟩
def d8K{t:d9}{v:d8}(h:c4h b t v=some c):Back c t v/\∀s x,Back b s x->Back c s x:=by
 rcases b1I h with⟨rfl,h1⟩|⟨rfl,h1,h2⟩
 ·exact⟨h1,fun _ _ h=>h⟩
 ·refine⟨?_,fun s x h=>h.set h2⟩;unfold Back;rw[n8,h1,V2,c9Y h2]
def b5n{b:List d7}{args:List d9}{vs:List d8}:∀{n:Nat} {c:List d7},a2P b args vs n=some c->(∀i,i<n->Back c (args.getD i default) (vs.getD i default))/\∀s x,Back b s x->Back c s x
 | 0,c,h=>by
   simp only[a2P,W0]at h;subst h;exact⟨fun i hi=>z0D,fun _ _ h=>h⟩
 | n+1,c,h=>by
   rw[a2P]at h;obtain⟨d,h1,h2⟩:=q2W.1 h;obtain⟨i1,i2⟩:=b5n h1;obtain⟨j1,j2⟩:=d8K h2;refine⟨fun i hi=>?_,fun s x h=>j2 s x (i2 s x h)⟩;rcases q3I i n with h3|h3
   ·exact j2 _ _ (i1 i h3)
   ·obtain rfl:i=n:=by omega
    exact j1
def EnvS(l:List d7):Prop:=(∀b∈l,a8j b.Var=true/\o8 b.Val=true)/\SS Op.bytesLess (l.map d7.Var)
def a3C{p:Nat->Bool}:a2Y n p=false↔∀i,i<n->p i=false:=by
 constructor
 ·intro h i hi;cases hp:p i with
  | false=>rfl
  | true=>rw[a2r hi hp]at h;cases h
 ·intro h
  induction n with
  | zero=>rfl
  | succ n ih=>exact a1h (ih fun i hi=>h i z0D) (h n z0D)
def d2G{l:List (List UInt8)}(h:∀i,0<i->i<l.length->Op.bytesLess (l.getD (i-1) []) (l.getD i [])=true):SS Op.bytesLess l:=by
 refine q2X.2 fun i j hi hj hij=>?_
 have key:∀d,i+d+1<l.length->Op.bytesLess (l.getD i []) (l.getD (i+d+1) [])=true:=by
  intro d
  induction d with
  | zero=>intro hd;exact h (i+1) z0D hd
  | succ d ih=>intro hd;exact a2h _ _ _ (ih z0D) (h (i+(d+1)+1) z0D hd)
 have:=key (j-i-1) z0D;rw[show i+(j-i-1)+1=j by omega,k8 [] hi,k8 [] hj]at this;exact this
def a4x(x:d8)(h:¬v∈l.map d7.Var):(a1u l v x).map d7.Var=a1j Op.bytesLess (l.map d7.Var) v:=by
 rw[a1j,if_neg h,List.takeWhile_map,List.dropWhile_map,a1u,q1B,q0D];rfl
def e2x{x:d8}{b:d7}:b∈a1u l v x↔b=⟨v,x⟩\/b∈l:=by
 conv=>rhs;rw[<-c3b l v]
 rw[a1u,V0,q0B,V0];constructor
 ·rintro(h|h|h)
  ·exact .inr (.inl h)
  ·exact .inl h
  ·exact .inr (.inr h)
 ·rintro(h|h|h)
  ·exact .inr (.inl h)
  ·exact .inl h
  ·exact .inr (.inr h)
def EnvS.set{x:d8}(h:EnvS l)(hv:a8j v=true)(hx:o8 x=true)(hn:(a0n ⟨l⟩ v).2=false):EnvS (a1u l v x):=by
 refine⟨fun b hb=>?_,by rw[a4x x (a9X hn)];exact SS.put t5 h.2 v⟩;rcases e2x.1 hb with rfl|hb
 ·exact⟨hv,hx⟩
 ·exact h.1 b hb
def c3g{t:d9}(h:a0j t=true)(hv:(t.Var==[])=false):a8j t.Var=true:=by
 rw[a0j,hv]at h;simp only[q3K,W8,W3]at h;exact h.1
def EnvS.fit{t:d9}{v:d8}(h:EnvS b)(ht:a0j t=true)(hv:o8 v=true)(hf:c4h b t v=some c):EnvS c:=by
 rcases b1I hf with⟨rfl,_⟩|⟨rfl,h1,h2⟩
 ·exact h
 ·exact h.set (c3g ht h1) hv h2
def EnvS.fits{b:List d7}{args:List d9}{vs:List d8}(h:EnvS b)(ha:args.all a0j=true)(hv:vs.all o8=true):∀{n:Nat} {c:List d7},n<=args.length->n<=vs.length->a2P b args vs n=some c->EnvS c
 | 0,c,_,_,hf=>by
   simp only[a2P,W0]at hf;subst hf;exact h
 | n+1,c,hn,hm,hf=>by
   rw[a2P]at hf;obtain⟨d,h1,h2⟩:=q2W.1 hf;refine(EnvS.fits h ha hv z0D z0D h1).fit (q0I.1 ha _ ?_) (q0I.1 hv _ ?_) h2
   ·rw[k8 default z0D];exact q1M _
   ·rw[k8 default z0D];exact q1M _
def fitR_on{e:e7}{row:c7}(h:(a6N e args row).2=true):args.length=row.V.length/\a2P e.Binds args row.V args.length=some (a6N e args row).1.Binds:=by
 rw[a6N]at h ⊢;by_cases hl:args.length=row.V.length
 ·rw[V3 hl,W8]at h ⊢;split at h
  ·rename_i c hc;exact⟨hl,hc⟩
  ·cases h
 ·rw[V5 hl]at h;cases h
def b5l{row:c7}(hl:args.length=row.V.length)(h:∀i,i<args.length->Back c (args.getD i default) (row.V.getD i default)):a0i ⟨c⟩ args=(row,true):=by
 have h1:args.all (fun t=>(n8 ⟨c⟩ t).2)=true:=by
  rw[q0I];intro t ht;obtain⟨i,hi,rfl⟩:=q1I ht;have:=h i hi;unfold Back at this;rw[k8 default hi]at this;rw[this]
 have h2:args.map (fun t=>(n8 ⟨c⟩ t).1)=row.V:=by
  refine q4Q (by rw[q0C];exact hl) fun i hi hj=>?_
  rw[q0C]at hi;have:=h i hi;unfold Back at this;rw[k8 default hi,k8 default hj]at this;rw[q3R,this]
 rw[a0i,h1,W8,h2]
def d4z(a:d8):a0h a a=false:=by
 rw[a0h,a1y,V5 z0D];cases a.S==[]&&a.S==[]<;>rfl
def c6h:∀a:List d8,a1C a a=0
 | []=>rfl
 | x::a=>by rw[a1C,d4z];exact c6h a
def c6k{r:c7}(h:a0t r=true):r.V.length<=6/\r.V.all o8=true:=by
 simp only[a0t,K7]at h;exact⟨z0D,h.2⟩
def STO.two{β γ:Type}{lb:β->β->Bool}{lg:γ->γ->Bool}(ob:STO lb)(og:STO lg)(f:α->β)(g:α->γ)(inj:∀x y,f x=f y->g x=g y->x=y):STO fun x y=>lb (f x) (f y)||(!lb (f y) (f x)&&lg (g x) (g y)) where
 irr x:=by rw[ob.irr,og.irr];rfl
 tr x y z h1 h2:=by
  simp only[q2U,W3,q0W]at h1 h2 ⊢;rcases h1 with h1|⟨h1,h1'⟩
  ·rcases h2 with h2|⟨h2,h2'⟩
   ·exact .inl (ob.tr _ _ _ h1 h2)
   ·cases h:lb (f y) (f z)with
    | true=>exact .inl (ob.tr _ _ _ h1 h)
    | false=>rw[<-ob.tri _ _ h h2];exact .inl h1
  ·cases h:lb (f x) (f y)with
   | true=>
     rcases h2 with h2|⟨h2,h2'⟩
     ·exact .inl (ob.tr _ _ _ h h2)
     ·cases h3:lb (f y) (f z)with
      | true=>exact .inl (ob.tr _ _ _ h h3)
      | false=>rw[<-ob.tri _ _ h3 h2];exact .inl h
   | false=>
     rw[ob.tri _ _ h h1];rcases h2 with h2|⟨h2,h2'⟩
     ·exact .inl h2
     ·exact .inr ⟨h2,og.tr _ _ _ h1' h2'⟩
 tri x y h1 h2:=by
  simp only[q0Y,q4B,q0T]at h1 h2;obtain⟨a1,a2⟩:=h1;obtain⟨b1,b2⟩:=h2;rcases a2 with a2|a2
  ·rw[b1]at a2;cases a2
  rcases b2 with b2|b2
  ·rw[a1]at b2;cases b2
  exact inj _ _ (ob.tri _ _ a1 b1) (og.tri _ _ a2 b2)
def a4s{α:Type}(lt:α->α->Bool):List α->List α->Bool
 | _,[]=>false
 | [],_::_=>true
 | x::a,y::b=>lt x y||(!lt y x&&a4s lt a b)
def STO.lex{lt:α->α->Bool}(o:STO lt):STO (a4s lt) where
 irr x:=by
  induction x with
  | nil=>rfl
  | cons x a ih=>rw[a4s,o.irr,ih];rfl
 tr x:=by
  induction x with
  | nil=>
    intro y z h1 h2;cases z with
    | nil=>cases y<;>simp[a4s]at h2
    | cons z c=>rfl
  | cons x a ih=>
    intro y z h1 h2;cases y with
    | nil=>simp[a4s]at h1
    | cons y b=>
      cases z with
      | nil=>simp[a4s]at h2
      | cons z c=>
        simp only[a4s,q2U,W3,q0W]at h1 h2 ⊢;rcases h1 with h1|⟨h1,h1'⟩
        ·rcases h2 with h2|⟨h2,h2'⟩
         ·exact .inl (o.tr _ _ _ h1 h2)
         ·cases h:lt y z with
          | true=>exact .inl (o.tr _ _ _ h1 h)
          | false=>rw[<-o.tri _ _ h h2];exact .inl h1
        ·cases h:lt x y with
         | true=>
           rcases h2 with h2|⟨h2,h2'⟩
           ·exact .inl (o.tr _ _ _ h h2)
           ·cases h3:lt y z with
            | true=>exact .inl (o.tr _ _ _ h h3)
            | false=>rw[<-o.tri _ _ h3 h2];exact .inl h
         | false=>
           rw[o.tri _ _ h h1];rcases h2 with h2|⟨h2,h2'⟩
           ·exact .inl h2
           ·exact .inr ⟨h2,ih _ _ h1' h2'⟩
 tri x:=by
  induction x with
  | nil=>
    intro y h1 h2;cases y with
    | nil=>rfl
    | cons y b=>simp[a4s]at h1
  | cons x a ih=>
    intro y h1 h2;cases y with
    | nil=>simp[a4s]at h2
    | cons y b=>
      simp only[a4s,q0Y,q4B,q0T]at h1 h2;obtain⟨a1,a2⟩:=h1;obtain⟨b1,b2⟩:=h2;rcases a2 with a2|a2
      ·rw[b1]at a2;cases a2
      rcases b2 with b2|b2
      ·rw[a1]at b2;cases b2
      rw[o.tri _ _ a1 b1,ih _ a2 b2]
def vLt(a b:d8):Bool:=Op.bytesLess a.S b.S||(!Op.bytesLess b.S a.S&&iLt a.N b.N)
def b4h:STO vLt:=STO.two t5 c7z d8.S d8.N fun x y h1 h2=>by cases x;cases y;simp_all
def bLt(a b:d7):Bool:=Op.bytesLess a.Var b.Var||(!Op.bytesLess b.Var a.Var&&vLt a.Val b.Val)
def c7a:STO bLt:=STO.two t5 b4h d7.Var d7.Val fun x y h1 h2=>by cases x;cases y;simp_all
def a0z(a b:e7):Bool:=a4s bLt a.Binds b.Binds
def a3f:STO a0z where
 irr x:=c7a.lex.irr _
 tr x y z:=c7a.lex.tr _ _ _
 tri x y h1 h2:=by
  have:=c7a.lex.tri _ _ h1 h2;cases x;cases y;simp_all
def c8A{a b:d8}(ha:o8 a=true)(hb:o8 b=true):vLt a b=a0h a b:=by
 have hn:∀v:d8,o8 v=true->(v.S==[])=false->v.N=0:=by
  intro v hv hs;rw[o8,hs,V2,W3]at hv;simpa using hv.1
 rw[vLt,a0h];cases h1:a.S==[]with
 | true=>
   rw[beq_iff_eq]at h1;cases h2:b.S==[]with
   | true=>
     rw[beq_iff_eq]at h2;rw[h1,h2];rfl
   | false=>
     rw[h1];cases hbs:b.S with
     | nil=>rw[hbs]at h2;cases h2
     | cons x y=>rfl
 | false=>
   rw[Bool.false_and,V2,hn a ha h1];cases h2:b.S==[]with
   | true=>
     rw[beq_iff_eq]at h2;rw[h2];cases has:a.S with
     | nil=>rw[has]at h1;cases h1
     | cons x y=>rfl
   | false=>
     rw[hn b hb h2,c7z.irr,q2B,q5D]
def d8A(n:Nat)(f:Nat->Int):a4a (n+1) f=if f 0=0 then a4a n (fun i=>f (i+1))else f 0:=by
 induction n with
 | zero=>simp[a4a]
 | succ n ih=>
   rw[a4a,ih];by_cases h:f 0=0
   ·rw[if_pos h,if_pos h,a4a]
   ·rw[if_neg h,if_neg h,if_neg h]
def okB(l:List d7):Prop:=∀b∈l,o8 b.Val=true
def c0X:∀{a b:List d7},okB a->okB b->a.map d7.Var=b.map d7.Var->a4Y a b=bif a4s bLt a b then-1 else bif a4s bLt b a then 1 else 0
 | [],[],_,_,_=>rfl
 | [],y::b,_,_,h=>by cases h
 | x::a,[],_,_,h=>by cases h
 | x::a,y::b,ha,hb,h=>by
   simp only[q0D,V4]at h;have ih:=c0X (a:=a) (b:=b) (fun z hz=>ha z (by simp[hz])) (fun z hz=>hb z (by simp[hz])) h.2;have hx:=ha x z0E;have hy:=hb y z0E;rw[a4Y]at ih;have e1:bLt x y=a0h x.Val y.Val:=by rw[bLt,h.1,a1y,c8A hx hy];simp
   have e2:bLt y x=a0h y.Val x.Val:=by rw[bLt,h.1,a1y,c8A hy hx];simp
   rw[a4Y,V9,d8A];simp only[q1H,q1U,a4s,e1,e2,ih];rw[b0q];cases h1:a0h x.Val y.Val with
   | true=>rfl
   | false=>
     cases h2:a0h y.Val x.Val with
     | true=>rfl
     | false=>rfl
def c1e(args:List d9)(e:e7)(row:c7):Option e7:=bif (a6N e args row).2 then some (a6N e args row).1 else none
def a5G(args:List d9)(rows:List c7)(e:e7):List e7:=rows.filterMap (c1e args e)
def a0f(args:List d9)(rows:List c7)(now:List e7):List e7:=now.flatMap (a5G args rows)
def a1t(r:c8)(s:c6):Nat->Option (List e7)
 | 0=>some [⟨[]⟩]
 | n+1=>(a1t r s n).bind fun now=>bif (r.Body.getD n default).Kind==1 then(bif decide ((a0f (r.Body.getD n default).Atom.Args (w4 s (r.Body.getD n default).Atom.Name).1.Rows now).length<=2000)then some (a0f (r.Body.getD n default).Atom.Args (w4 s (r.Body.getD n default).Atom.Name).1.Rows now)else none)else some now
def a1n(r:c8)(s:c6):List e7×Bool:=match a1t r s r.Body.length with|some l=>(l,true)|none=>([],false)
def c1t{r:c8}{s:c6}{i:Nat}(h:a1t r s i=none):∀{n:Nat},i<=n->a1t r s n=none
 | 0,hn=>by
   obtain rfl:i=0:=by omega
   exact h
 | n+1,hn=>by
   rcases q3I i (n+1)with h1|h1
   ·rw[a1t,c1t h (show i<=n by omega)];rfl
   ·obtain rfl:i=n+1:=by omega
    exact h
def c5o(args:List d9)(rows:List c7)(now:List e7)(j:Nat):(a0f args rows (now.take j)).length<=(a0f args rows now).length:=by
 conv=>rhs;rw[<-q1X j now]
 rw[a0f,a0f,q3X,V6];omega
def d4w{j:Nat}(h:j<now.length):a0f args rows (now.take (j+1))=a0f args rows (now.take j)++a5G args rows (now.getD j default):=by
 rw[j6 default h,a0f,a0f,q3X];simp
def e2v{e c:e7}(h:k<rows.length)(hf:c1e args e (rows.getD k default)=some c):a5G args (rows.take (k+1)) e=a5G args (rows.take k) e++[c]:=by
 rw[j6 default h,a5G,a5G,List.filterMap_append,List.filterMap_cons,hf];rfl
def rows_no{e:e7}(h:k<rows.length)(hf:c1e args e (rows.getD k default)=none):a5G args (rows.take (k+1)) e=a5G args (rows.take k) e:=by
 rw[j6 default h,a5G,a5G,List.filterMap_append,List.filterMap_cons,hf];simp
def d9l(args:List d9)(rows:List c7)(e:e7):(a5G args rows e).length<=rows.length:=List.length_filterMap_le _ _
def c1f{e:e7}{row:c7}(h:(a6N e args row).2=true):c1e args e row=some (a6N e args row).1:=by rw[c1e,h];rfl
def c7s{e:e7}{row:c7}(h:(a6N e args row).2=false):c1e args e row=none:=by rw[c1e,h];rfl
def c5R{r:c8}{s:c6}{j:Nat}(hj:a1t r s i=some now)(hi:i<r.Body.length)(hk:((r.Body.getD i default).Kind==1)=true)(hl:2000<(a0f (r.Body.getD i default).Atom.Args (w4 s (r.Body.getD i default).Atom.Name).1.Rows (now.take j)).length):a1n r s=([],false):=by
 have h1:=c5o (r.Body.getD i default).Atom.Args (w4 s (r.Body.getD i default).Atom.Name).1.Rows now j;have h2:a1t r s (i+1)=none:=by rw[a1t,hj,q4C,hk,W8,V5 z0D];rfl
 rw[a1n,c1t h2 (show i+1<=r.Body.length by omega)]
def d0o{r:c8}{s:c6}(hj:a1t r s i=some now)(hk:((r.Body.getD i default).Kind==1)=true)(hl:(a0f (r.Body.getD i default).Atom.Args (w4 s (r.Body.getD i default).Atom.Name).1.Rows now).length<=2000):a1t r s (i+1)=some (a0f (r.Body.getD i default).Atom.Args (w4 s (r.Body.getD i default).Atom.Name).1.Rows now):=by
 rw[a1t,hj,q4C,hk,W8,V3 hl];rfl
def c1u{r:c8}{s:c6}(hj:a1t r s i=some now)(hk:((r.Body.getD i default).Kind==1)=false):a1t r s (i+1)=some now:=by
 rw[a1t,hj,q4C,hk];rfl
def d0p{r:c8}{s:c6}(hj:a1t r s r.Body.length=some now):a1n r s=(now,true):=by rw[a1n,hj]
def b5u{r:c8}{s:c6}(h:a1t r s n=some now):now.length<=2000:=by
 induction n generalizing now with
 | zero=>simp only[a1t,W0]at h;subst h;simp
 | succ n ih=>
   rw[a1t]at h;obtain⟨d,h1,h2⟩:=q2W.1 h;cases hk:(r.Body.getD n default).Kind==1 with
   | false=>rw[hk,V2,W0]at h2;subst h2;exact ih h1
   | true=>
     rw[hk,W8]at h2;by_cases hl:(a0f (r.Body.getD n default).Atom.Args (w4 s (r.Body.getD n default).Atom.Name).1.Rows d).length<=2000
     ·rw[V3 hl,W8,W0]at h2;subst h2;exact hl
     ·rw[V5 hl]at h2;cases h2
def ExtB(b c:List d7):Prop:=∀s x,Back b s x->Back c s x
def ExtB.refl(b:List d7):ExtB b b:=fun _ _ h=>h
def ExtB.trans{d:List d7}(h1:ExtB b c)(h2:ExtB c d):ExtB b d:=fun s x h=>h2 s x (h1 s x h)
def dom1(vs:List (List UInt8))(t:d9):List (List UInt8):=bif t.Var==[]then vs else a1j Op.bytesLess vs t.Var
def e1w{t:d9}{v:d8}(h:c4h b t v=some c):c.map d7.Var=dom1 (b.map d7.Var) t:=by
 rcases b1I h with⟨rfl,h1⟩|⟨rfl,h1,h2⟩
 ·rw[dom1];cases ht:t.Var==[]with
  | true=>rfl
  | false=>
    unfold Back at h1;rw[n8,ht,V2]at h1;rw[V2,a1j,if_pos (e2i.1 (by rw[h1]))]
 ·rw[dom1,h1,V2,a4x v (a9X h2)]
def d0e{b:List d7}{args:List d9}{vs:List d8}:∀{n:Nat} {c:List d7},n<=args.length->a2P b args vs n=some c->c.map d7.Var=(args.take n).foldl dom1 (b.map d7.Var)
 | 0,c,_,h=>by
   simp only[a2P,W0]at h;subst h;rfl
 | n+1,c,hn,h=>by
   rw[a2P]at h;obtain⟨d,h1,h2⟩:=q2W.1 h;rw[j6 default z0D,q2V,<-d0e z0D h1,e1w h2];rfl
structure FitFact(args:List d9)(e:e7)(row:c7)(c:e7):Prop where
 len:args.length=row.V.length
 back:∀i,i<args.length->Back c.Binds (args.getD i default) (row.V.getD i default)
 ext:ExtB e.Binds c.Binds
 dom:c.Binds.map d7.Var=args.foldl dom1 (e.Binds.map d7.Var)
 ok:EnvS e.Binds->args.all a0j=true->row.V.all o8=true->EnvS c.Binds
 lenB:c.Binds.length<=e.Binds.length+args.length
def a3F{e:e7}{row:c7}{c:e7}(h:c1e args e row=some c):FitFact args e row c:=by
 cases h2:(a6N e args row).2 with
 | false=>rw[c7s h2]at h;cases h
 | true=>
   rw[c1f h2,W0]at h;subst h;obtain⟨hl,hf⟩:=fitR_on h2;refine⟨hl,(b5n hf).1,(b5n hf).2, ?_,fun hE ha hv=>hE.fits ha hv (q0F _) z0D hf,b3q hf⟩;rw[d0e (q0F _) hf,q6D]
def d8H(hn:(l.map d7.Var).Nodup){b:d7}(hb:b∈l):l.find? (fun x=>x.Var==b.Var)=some b:=by
 induction l with
 | nil=>cases hb
 | cons a l ih=>
   rw[q0D,q1Q]at hn;rw[q3Y];rcases q0B.1 hb with rfl|hb
   ·rw[beq_self_eq_true]
   ·have:(a.Var==b.Var)=false:=beq_eq_false_iff_ne.2 fun e=>hn.1 (e▸q0R.2 ⟨b,hb,rfl⟩)
    rw[this];exact ih hn.2 hb
def d1y(h:a8j v=true):(v==[])=false:=by
 cases v with
 | nil=>revert h;decide
 | cons a v=>rfl
def EnvS.nodup(h:EnvS l):(l.map d7.Var).Nodup:=SS.nodup t5 h.2
def EnvS.at(h:EnvS l){b:d7}(hb:b∈l):a0n ⟨l⟩ b.Var=(b.Val,true):=by
 rw[a3g,d8H h.nodup hb]
def d5W{a:List d7}(ha:EnvS a)(hb:EnvS b)(hv:a.map d7.Var=b.map d7.Var)(h1:ExtB a c)(h2:ExtB b c):a=b:=by
 have key:∀{l:List d7},EnvS l->ExtB l c->l=(l.map d7.Var).map fun v=>⟨v,(a0n ⟨c⟩ v).1⟩:=by
  intro l hl he;rw[q4L];refine(List.map_id _).symm.trans (q3C fun b hb=>?_);have h3:=he ⟨b.Var,default⟩ b.Val (by
   unfold Back;rw[n8];simp only[d1y (hl.1 b hb).1,V2];exact hl.at hb)
  unfold Back at h3;rw[n8]at h3;simp only[d1y (hl.1 b hb).1,V2]at h3;simp only[Function.comp,h3,id]
 rw[key ha h1,key hb h2,hv]
structure Alk(vs:List (List UInt8))(l:List e7):Prop where
 nd:l.Nodup
 ok:∀e∈l,EnvS e.Binds
 dom:∀e∈l,e.Binds.map d7.Var=vs
def e0L{row row':c7}(hl:args.length=row.V.length)(hl':args.length=row'.V.length)(h:∀i,i<args.length->Back c (args.getD i default) (row.V.getD i default))(h':∀i,i<args.length->Back c (args.getD i default) (row'.V.getD i default)):row=row':=by
 have:=(b5l hl h).symm.trans (b5l hl' h');exact(Prod.mk.inj this).1
def Alk.stage{vs:List (List UInt8)}{l:List e7}(h:Alk vs l)(ha:args.all a0j=true)(hr:rows.Nodup)(hv:∀x∈rows,x.V.all o8=true):Alk (args.foldl dom1 vs) (a0f args rows l):=by
 have mem:∀{c:e7},c∈a0f args rows l->∃e∈l,∃row∈rows,c1e args e row=some c:=by
  intro c hc;obtain⟨e,he,hc⟩:=q2K.1 hc;obtain⟨row,hrow,hf⟩:=q5B.1 hc;exact⟨e,he,row,hrow,hf⟩
 refine⟨?_,fun c hc=>?_,fun c hc=>?_⟩
 ·unfold List.Nodup;rw[a0f,List.pairwise_flatMap];refine⟨fun e he=>?_, ?_⟩
  ·rw[a5G,List.pairwise_filterMap];refine List.Pairwise.imp ?_ hr;intro x y hxy c hc d hd hcd;subst hcd;have f1:=a3F hc;have f2:=a3F hd;exact hxy (e0L f1.len f2.len f1.back f2.back)
  ·refine List.Pairwise.imp_of_mem ?_ h.nd;intro e e' he he' hne c hc d hd hcd;subst hcd;obtain⟨_,_,hf⟩:=q5B.1 hc;obtain⟨_,_,hf'⟩:=q5B.1 hd;have f1:=a3F hf;have f2:=a3F hf';have:=d5W (h.ok e he) (h.ok e' he') ((h.dom e he).trans (h.dom e' he').symm) f1.ext f2.ext;exact hne (by cases e;cases e';simp_all)
 ·obtain⟨e,he,row,hrow,hf⟩:=mem hc;exact(a3F hf).ok (h.ok e he) ha (hv row hrow)
 ·obtain⟨e,he,row,hrow,hf⟩:=mem hc;rw[(a3F hf).dom,h.dom e he]
def eqS(l:e8)(b:List d7):List d7:=bif a0Y l then(bif (n8 ⟨b⟩ l.A).2 then(bif (n8 ⟨b⟩ l.B).2 then b else a1u b l.B.Var (n8 ⟨b⟩ l.A).1)else(bif (n8 ⟨b⟩ l.B).2 then a1u b l.A.Var (n8 ⟨b⟩ l.B).1 else b))else b
def eqP(r:c8)(b:List d7):Nat->List d7
 | 0=>b
 | n+1=>eqS (r.Body.getD n default) (eqP r b n)
def a6l(r:c8)(b:List d7):List d7:=eqP r b r.Body.length
def eqI(r:c8)(b:List d7):Nat->List d7
 | 0=>b
 | k+1=>a6l r (eqI r b k)
def IsEq(r:c8)(b c:List d7):Prop:=∃k,eqI r b k=c/\a6l r c=c
def c1a{r:c8}{b c:List d7}{k:Nat}(h:eqI r b k=c)(hp:a6l r c=c):∀m,eqI r b (k+m)=c
 | 0=>h
 | m+1=>by rw[show k+(m+1)=(k+m)+1 from rfl,eqI,c1a h hp m,hp]
def IsEq.uniq{r:c8}{d:List d7}(h1:IsEq r b c)(h2:IsEq r b d):c=d:=by
 obtain⟨k,h1,p1⟩:=h1;obtain⟨m,h2,p2⟩:=h2;have a:=c1a h1 p1 m;have b:=c1a h2 p2 k;rw[q4D]at b;exact a.symm.trans b
open Classical in
noncomputable def eqR(r:c8)(b:List d7):List d7:=if h:∃c,IsEq r b c then Classical.choose h else b
def c7p{r:c8}{c:List d7}(h:IsEq r b c):eqR r b=c:=by
 have hx:∃c,IsEq r b c:=⟨c,h⟩
 rw[eqR,dif_pos hx];exact(q6B hx).uniq h
inductive EqStep(l:e8)(b:List d7):List d7->Prop
 | same:EqStep l b b
 | right:a0Y l=true->(n8 ⟨b⟩ l.A).2=true->(n8 ⟨b⟩ l.B).2=false->EqStep l b (a1u b l.B.Var (n8 ⟨b⟩ l.A).1)
 | left:a0Y l=true->(n8 ⟨b⟩ l.B).2=true->(n8 ⟨b⟩ l.A).2=false->EqStep l b (a1u b l.A.Var (n8 ⟨b⟩ l.B).1)
def a5a(l:e8)(b:List d7):EqStep l b (eqS l b):=by
 rw[eqS];cases h0:a0Y l with
 | false=>exact .same
 | true=>
   cases h1:(n8 ⟨b⟩ l.A).2 with
   | true=>
     cases h2:(n8 ⟨b⟩ l.B).2 with
     | true=>exact .same
     | false=>exact .right h0 h1 h2
   | false=>
     cases h2:(n8 ⟨b⟩ l.B).2 with
     | true=>exact .left h0 h2 h1
     | false=>exact .same
def c5O{l:e8}(h0:a0Y l=true)(h1:(n8 ⟨b⟩ l.A).2=true)(h2:(n8 ⟨b⟩ l.B).2=false):eqS l b=a1u b l.B.Var (n8 ⟨b⟩ l.A).1:=by rw[eqS,h0,h1,h2];rfl
def d0c{l:e8}(h0:a0Y l=true)(h1:(n8 ⟨b⟩ l.B).2=true)(h2:(n8 ⟨b⟩ l.A).2=false):eqS l b=a1u b l.A.Var (n8 ⟨b⟩ l.B).1:=by rw[eqS,h0,h1,h2];rfl
def d0d{l:e8}(h0:a0Y l=false):eqS l b=b:=by rw[eqS,h0];rfl
def EqStep.len{l:e8}(h:EqStep l b c):c=b\/c.length=b.length+1:=by
 cases h with
 | same=>exact .inl rfl
 | right _ _ _=>exact .inr (a3N _ _ _)
 | left _ _ _=>exact .inr (a3N _ _ _)
def c7o(r:c8)(b:List d7):∀n,eqP r b n=b\/b.length<(eqP r b n).length
 | 0=>.inl rfl
 | n+1=>by
   have h1:=c7o r b n;have h2:=(a5a (r.Body.getD n default) (eqP r b n)).len;rw[eqP];rcases h1 with h1|h1
   ·rw[h1]at h2 ⊢;rcases h2 with h2|h2
    ·exact .inl h2
    ·exact .inr (by omega)
   ·rcases h2 with h2|h2
    ·rw[h2];exact .inr h1
    ·exact .inr z0D
def c6e{r:c8}(h:(a6l r b).length<=b.length):a6l r b=b:=by
 rcases c7o r b r.Body.length with h1|h1
 ·exact h1
 ·rw[a6l]at h;omega
def d6r{r:c8}{l:e8}(hl:l∈r.Body){t:d9}(ht:t=l.A\/t=l.B)(hv:(t.Var==[])=false):t.Var∈a8n r:=by
 refine q2K.2 ⟨l,hl,V0.2 (.inr (a0C.2 ⟨t, ?_,by rw[a0K,hv];rfl,rfl⟩))⟩;rcases ht with rfl|rfl
 ·exact q2L
 ·exact q1W _ (q0E.2 rfl)
def d0S{r:c8}(x:d8)(hv:v∈a8n r)(hn:(a0n ⟨b⟩ v).2=false):miss r ((a1u b v x).map d7.Var)<miss r (b.map d7.Var):=by
 have hm:=a9X hn;refine b5m (fun y hy=>?_) ⟨v,hv, ?_, ?_⟩
 ·simp only[q0W,q5J,q1E]at hy ⊢;intro h;rw[a4x x hm]at hy;exact hy (b3U.2 (.inr h))
 ·simp only[q0W,q5J,q1E];exact hm
 ·simp only[q0T,q5J,V8];rw[a4x x hm];exact b3U.2 (.inl rfl)
def EqStep.miss{r:c8}{l:e8}(hl:l∈r.Body)(h:EqStep l b c):c=b\/(c.length=b.length+1/\miss r (c.map d7.Var)<miss r (b.map d7.Var)):=by
 cases h with
 | same=>exact .inl rfl
 | right _ _ h=>
   have h2:=a1l h;exact .inr ⟨a3N _ _ _,d0S _ (d6r hl (.inr rfl) h2.1) h2.2⟩
 | left _ _ h=>
   have h2:=a1l h;exact .inr ⟨a3N _ _ _,d0S _ (d6r hl (.inl rfl) h2.1) h2.2⟩
def a4Z{r:c8}{b:List d7}:∀{n:Nat},n<=r.Body.length->(eqP r b n).length+miss r ((eqP r b n).map d7.Var)<=b.length+miss r (b.map d7.Var)/\(eqP r b n=b\/miss r ((eqP r b n).map d7.Var)<miss r (b.map d7.Var))
 | 0,_=>⟨q0F _,.inl rfl⟩
 | n+1,hn=>by
   obtain⟨i1,i2⟩:=a4Z (r:=r) (b:=b) (n:=n) z0D;have hm:r.Body.getD n default∈r.Body:=by rw[k8 default z0D];exact q1M _
   rw[eqP];rcases(a5a (r.Body.getD n default) (eqP r b n)).miss hm with h|⟨h1,h2⟩
   ·rw[h];exact⟨i1,i2⟩
   ·refine⟨z0D,.inr ?_⟩;rcases i2 with i2|i2
    ·rw[i2]at h2 ⊢;exact h2
    ·omega
def EqStep.ext{l:e8}(h:EqStep l b c):ExtB b c:=by
 cases h with
 | same=>exact ExtB.refl _
 | right _ _ h=>exact fun s x hs=>hs.set (a1l h).2
 | left _ _ h=>exact fun s x hs=>hs.set (a1l h).2
def d5V(r:c8)(b:List d7):∀n,ExtB b (eqP r b n)
 | 0=>ExtB.refl _
 | n+1=>(d5V r b n).trans (a5a _ _).ext
def d5U(r:c8)(b:List d7):∀k,ExtB b (eqI r b k)
 | 0=>ExtB.refl _
 | k+1=>(d5U r b k).trans (d5V r _ _)
def c3j{t:d9}(h:EnvS b)(ht:a0j t=true)(hv:(n8 ⟨b⟩ t).2=true):o8 (n8 ⟨b⟩ t).1=true:=by
 rw[n8]at hv ⊢;cases hn:t.Var==[]with
 | true=>
   rw[a0j,hn]at ht;simp only[q4M,V2,W3]at ht;exact ht.1
 | false=>
   rw[hn,V2]at hv;rw[V2];rw[a3g]at hv ⊢;cases hf:b.find? (fun x=>x.Var==t.Var)with
   | none=>rw[hf]at hv;cases hv
   | some y=>exact(h.1 y (q5O hf)).2
def EqStep.ok{r:c8}{l:e8}(hr:l8 r=true)(hl:l∈r.Body)(h:EqStep l b c)(hb:EnvS b):EnvS c:=by
 have hlit:a0Y l=true->a0j l.A=true/\a0j l.B=true:=by
  intro he;simp only[l8,W3,q0I]at hr;have:=hr.2 l hl;simp only[a0Y,W3]at he;rw[a2V,he.1,W8]at this;simp only[W3]at this;exact⟨this.1.2,this.2⟩
 cases h with
 | same=>exact hb
 | right h0 h1 h2=>exact hb.set (c3g (hlit h0).2 (a1l h2).1) (c3j hb (hlit h0).1 h1) (a1l h2).2
 | left h0 h1 h2=>exact hb.set (c3g (hlit h0).1 (a1l h2).1) (c3j hb (hlit h0).2 h1) (a1l h2).2
def e1o{r:c8}{b:List d7}(hr:l8 r=true)(hb:EnvS b):∀{n:Nat},n<=r.Body.length->EnvS (eqP r b n)
 | 0,_=>hb
 | n+1,hn=>(a5a _ _).ok hr z09 (e1o hr hb z0D)
def e1n{r:c8}{b:List d7}(hr:l8 r=true)(hb:EnvS b):∀k,EnvS (eqI r b k)
 | 0=>hb
 | k+1=>e1o hr (e1n hr hb k) (q0F _)
def c0Z{r:c8}{b:List d7}:∀k,(eqI r b k).length+miss r ((eqI r b k).map d7.Var)<=b.length+miss r (b.map d7.Var)
 | 0=>q0F _
 | k+1=>q3B (a4Z (q0F _)).1 (c0Z k)
def d6e(r:c8):∀(m:Nat) (b:List d7),miss r (b.map d7.Var)<=m->∃c,IsEq r b c
 | 0,b,h=>⟨b,0,rfl,by
   rcases(a4Z (r:=r) (b:=b) (q0F _)).2 with h1|h1
   ·exact h1
   ·omega⟩
 | m+1,b,h=>by
   rcases(a4Z (r:=r) (b:=b) (q0F _)).2 with h1|h1
   ·exact⟨b,0,rfl,h1⟩
   ·obtain⟨c,k,h2,h3⟩:=d6e r m (a6l r b) (by rw[a6l];omega);refine⟨c,k+1, ?_,h3⟩;have key:∀k,eqI r (a6l r b) k=eqI r b (k+1):=by
     intro k
     induction k with
     | zero=>rfl
     | succ k ih=>rw[eqI,ih];rfl
    rw[<-key];exact h2
def c1b(r:c8)(b:List d7):IsEq r b (eqR r b):=by
 obtain⟨c,h⟩:=d6e r _ b (q0F _);rw[c7p h];exact h
def b9b(r:c8)(b:List d7):ExtB b (eqR r b):=by
 obtain⟨k,h,_⟩:=c1b r b;rw[<-h];exact d5U r b k
def e1p{r:c8}(hr:l8 r=true)(hb:EnvS b):EnvS (eqR r b):=by
 obtain⟨k,h,_⟩:=c1b r b;rw[<-h];exact e1n hr hb k
def eqR_len(r:c8)(b:List d7):(eqR r b).length<=b.length+(a8n r).length:=by
 obtain⟨k,h,_⟩:=c1b r b;have:=c0Z (r:=r) (b:=b) k;have:=b9h r (b.map d7.Var);rw[h]at*;omega
def domE(l:e8)(vs:List (List UInt8)):List (List UInt8):=bif a0Y l then(bif y6 vs l.A then(bif y6 vs l.B then vs else a1j Op.bytesLess vs l.B.Var)else(bif y6 vs l.B then a1j Op.bytesLess vs l.A.Var else vs))else vs
def a5I(b:List d7)(t:d9):(n8 ⟨b⟩ t).2=y6 (b.map d7.Var) t:=by
 rw[n8,y6];cases t.Var==[]with
 | true=>rfl
 | false=>
   rw[V2,q3S];rw[q3L,e2i,q2I]
def c7q(l:e8)(b:List d7):(eqS l b).map d7.Var=domE l (b.map d7.Var):=by
 rw[eqS,domE];cases a0Y l with
 | false=>rfl
 | true=>
   rw[W8,W8,<-a5I,<-a5I];cases h1:(n8 ⟨b⟩ l.A).2 with
   | true=>
     cases h2:(n8 ⟨b⟩ l.B).2 with
     | true=>rfl
     | false=>exact a4x _ (a9X (a1l h2).2)
   | false=>
     cases h2:(n8 ⟨b⟩ l.B).2 with
     | true=>exact a4x _ (a9X (a1l h1).2)
     | false=>rfl
def c7n{r:c8}{b c:List d7}(h:b.map d7.Var=c.map d7.Var):∀n,(eqP r b n).map d7.Var=(eqP r c n).map d7.Var
 | 0=>h
 | n+1=>by rw[eqP,eqP,c7q,c7q,c7n h n]
def d5T{r:c8}{b c:List d7}(h:b.map d7.Var=c.map d7.Var):∀n,(eqI r b n).map d7.Var=(eqI r c n).map d7.Var
 | 0=>h
 | n+1=>c7n (d5T h n) _
def e2k{r:c8}(h:b.map d7.Var=c.map d7.Var)(hc:a6l r c=c):a6l r b=b:=by
 refine c6e ?_;have h1:=congrArg List.length (c7n (r:=r) h r.Body.length);have h2:=congrArg List.length h;simp only[q0C]at h1 h2;rw[a6l]at hc ⊢;rw[hc]at h1;omega
def eqR_dom{r:c8}(h:b.map d7.Var=c.map d7.Var):(eqR r b).map d7.Var=(eqR r c).map d7.Var:=by
 obtain⟨k,h1,p1⟩:=c1b r b;have h2:=d5T (r:=r) h k;rw[h1]at h2;have p2:a6l r (eqI r c k)=eqI r c k:=e2k h2.symm p1;rw[c7p (c:=eqI r c k) ⟨k,rfl,p2⟩,h2]
def b6a(s:c6)(e:e7)(l:e8):Bool:=bif l.Kind==2 then !s8 (w4 s l.Atom.Name).1.Rows (a0i e l.Atom.Args).1 else bif l.Kind==3 then a0y l.Op (n8 e l.A).1 (n8 e l.B).1 else true
def c2G(s:c6)(e:e7)(l:e8):Bool:=bif l.Kind==3 then a0y l.Op (n8 e l.A).1 (n8 e l.B).1 else s8 (w4 s l.Atom.Name).1.Rows (a0i e l.Atom.Args).1==(l.Kind==1)
def a6f(r:c8)(s:c6)(e:e7):Bool:=r.Body.all (b6a s e)
def a9z(r:c8)(s:c6)(e:e7):Bool:=r.Body.all (c2G s e)
def Rooted(s:c6)(e:e7)(l:e8):Prop:=(l.Kind==1)=true->∃row∈(w4 s l.Atom.Name).1.Rows,l.Atom.Args.length=row.V.length/\∀i,i<l.Atom.Args.length->Back e.Binds (l.Atom.Args.getD i default) (row.V.getD i default)
def Rooted.ext{s:c6}{e c:e7}{l:e8}(h:Rooted s e l)(he:ExtB e.Binds c.Binds):Rooted s c l:=fun hk=>by
 obtain⟨row,h1,h2,h3⟩:=h hk;exact⟨row,h1,h2,fun i hi=>he _ _ (h3 i hi)⟩
def Rooted.has{s:c6}{e:e7}{l:e8}(h:Rooted s e l)(hk:(l.Kind==1)=true):s8 (w4 s l.Atom.Name).1.Rows (a0i e l.Atom.Args).1=true:=by
 obtain⟨row,h1,h2,h3⟩:=h hk;rw[show a0i e l.Atom.Args=(row,true)from b5l h2 h3,s8,q3E];exact⟨row,h1,z0E⟩
def e1Z{r:c8}(hr:l8 r=true){l:e8}(hl:l∈r.Body):l.Kind=1\/l.Kind=2\/l.Kind=3:=by
 simp only[l8,W3,q0I]at hr;have:=hr.2 l hl;rw[a2V]at this;cases h:l.Kind==3 with
 | true=>exact .inr (.inr z05)
 | false=>
   rw[h]at this;simp only[V2,W3,q2U,beq_iff_eq]at this;omega
def e1G{r:c8}{s:c6}{e:e7}(hr:l8 r=true)(h:∀l∈r.Body,Rooted s e l):a9z r s e=a6f r s e:=by
 rw[a9z,a6f,q3L,q0I,q0I];refine forall_congr' fun l=>forall_congr' fun hl=>?_
 rw[c2G,b6a];rcases e1Z hr hl with hk|hk|hk
 ·have:=(h l hl).has (by rw[hk];rfl);rw[this,hk];simp
 ·rw[hk];cases s8 (w4 s l.Atom.Name).1.Rows (a0i e l.Atom.Args).1<;>simp
 ·rw[hk];exact Iff.rfl
def c3a{r:c8}(hr:l8 r=true){l:e8}(hl:l∈r.Body)(hk:(l.Kind==3)=false):l.Atom.Args.all a0j=true/\l.Atom.Args.length<=6:=by
 simp only[l8,W3,q0I]at hr;have:=hr.2 l hl;rw[a2V,hk,V2]at this;simp only[a4E,K7]at this;obtain⟨⟨⟨⟨_,⟨⟨_,h6⟩,hall⟩⟩,_⟩,_⟩,_⟩:=this;exact⟨hall,z0D⟩
def a0I{v:c6}(h:j9 v=true)(n:List UInt8):y8 (w4 v n).1=true:=by
 unfold w4;split
 ·rename_i h0;have hl:=d6d (p:=fun x:c9=>x.Name==n) (l:=v.Rels);have hm:(a0A (fun x:c9=>x.Name==n) v.Rels).toNat<v.Rels.length:=by omega
  have:=a1o h _ (q1M hm);simp only[k8 default hm];exact this
 ·rfl
def d9j{r:f8}(h:y8 r=true):r.Rows.Nodup:=by
 refine q2X.2 fun i j hi hj hij e=>?_
 have:=c8t h hij hj;rw[k8 default hi,k8 default hj,e,c6h]at this;omega
structure Jn(r:c8)(s:c6)(n:Nat)(l:List e7):Prop where
 alk:∃vs,Alk vs l
 root:∀e∈l,∀i,i<n->Rooted s e (r.Body.getD i default)
 len:∀e∈l,e.Binds.length<=6*n
def Jn.all{r:c8}{s:c6}(hr:l8 r=true)(hs:j9 s=true):∀{n:Nat} {l:List e7},n<=r.Body.length->a1t r s n=some l->Jn r s n l
 | 0,l,_,h=>by
   simp only[a1t,W0]at h;subst h;refine⟨⟨[],z0E,fun e he=>?_,fun e he=>?_⟩,fun e _ i hi=>z0D,fun e he=>?_⟩
   ·rw[q0E.1 he];exact⟨z0E,SS.nil⟩
   ·rw[q0E.1 he];rfl
   ·rw[q0E.1 he];simp
 | n+1,l,hn,h=>by
   have hm:r.Body.getD n default∈r.Body:=by rw[k8 default z0D];exact q1M _
   rw[a1t]at h;obtain⟨d,h1,h2⟩:=q2W.1 h;have ih:=Jn.all hr hs z0D h1;cases hk:(r.Body.getD n default).Kind==1 with
   | false=>
     rw[hk,V2,W0]at h2;subst h2;refine⟨ih.alk,fun e he i hi=>?_,fun e he=>by have:=ih.len e he;omega⟩;rcases q3I i n with h3|h3
     ·exact ih.root e he i h3
     ·obtain rfl:i=n:=by omega
      intro h4;rw[hk]at h4;cases h4
   | true=>
     rw[hk,W8]at h2;have h3:((r.Body.getD n default).Kind==3)=false:=by rw[beq_iff_eq]at hk;rw[hk];rfl
     obtain⟨ha,ha6⟩:=c3a hr hm h3;have hR:=a0I hs (r.Body.getD n default).Atom.Name;by_cases hl:(a0f (r.Body.getD n default).Atom.Args (w4 s (r.Body.getD n default).Atom.Name).1.Rows d).length<=2000
     ·rw[V3 hl,W8,W0]at h2;subst h2;obtain⟨vs,halk⟩:=ih.alk;refine⟨⟨_,halk.stage ha (d9j hR) fun x hx=>?_⟩,fun e he i hi=>?_,fun e he=>?_⟩
      ·obtain⟨i,hi,rfl⟩:=q1I hx;have:=a2k hR hi;rw[k8 default hi]at this;exact q0I.2 this
      ·obtain⟨e0,he0,hc⟩:=q2K.1 he;obtain⟨row,hrow,hf⟩:=q5B.1 hc;have ff:=a3F hf;rcases q3I i n with h4|h4
       ·exact(ih.root e0 he0 i h4).ext ff.ext
       ·obtain rfl:i=n:=by omega
        exact fun _=>⟨row,hrow,ff.len,ff.back⟩
      ·obtain⟨e0,he0,hc⟩:=q2K.1 he;obtain⟨row,hrow,hf⟩:=q5B.1 hc;have ff:=a3F hf;have:=ff.lenB;have:=ih.len e0 he0;omega
     ·rw[V5 hl]at h2;cases h2
noncomputable def eqE(r:c8)(e:e7):e7:=⟨eqR r e.Binds⟩
noncomputable def a6k(r:c8)(s:c6)(l:List e7):List e7:=(l.map (eqE r)).filter (a6f r s)
noncomputable def u1(r:c8)(s:c6):List e7×Bool:=bif (a1n r s).2 then(l5 a0z [] (a6k r s (a1n r s).1),true)else([],false)
def d1a{r:c8}{s:c6}{vs:List (List UInt8)}{l:List e7}(hr:l8 r=true)(h:Alk vs l):∃ws,Alk ws (a6k r s l):=by
 have h0:∃ws,Alk ws (l.map (eqE r)):=by
  have hd:∀e∈l,∀e'∈l,(eqR r e.Binds).map d7.Var=(eqR r e'.Binds).map d7.Var:=fun e he e' he'=>eqR_dom ((h.dom e he).trans (h.dom e' he').symm)
  refine⟨((l.map (eqE r)).getD 0 default).Binds.map d7.Var, ?_,fun c hc=>?_,fun c hc=>?_⟩
  ·unfold List.Nodup;rw[q4H];refine List.Pairwise.imp_of_mem ?_ h.nd;intro e e' he he' hne heq;have h1:eqR r e.Binds=eqR r e'.Binds:=congrArg e7.Binds heq;have h2:=b9b r e'.Binds;rw[<-h1]at h2;have:=d5W (h.ok e he) (h.ok e' he') ((h.dom e he).trans (h.dom e' he').symm) (b9b r e.Binds) h2;exact hne (by cases e;cases e';simp_all)
  ·obtain⟨e,he,rfl⟩:=q0R.1 hc;exact e1p hr (h.ok e he)
  ·obtain⟨e,he,rfl⟩:=q0R.1 hc;cases l with
   | nil=>cases he
   | cons a l=>exact hd e he a q2L
 obtain⟨ws,h1⟩:=h0;exact⟨ws,h1.nd.filter _,fun e he=>h1.ok e (q0N.1 he).1,fun e he=>h1.dom e (q0N.1 he).1⟩
def b3V(r:c8)(s:c6)(l:List e7):(a6k r s l).length<=l.length:=by
 have:=q1F (a6f r s) (l.map (eqE r));rw[q0C]at this;exact this
attribute [local irreducible] aft blk lpK retK AW A0e
attribute [local irreducible] RM
def c4p(e:e7)(v:List UInt8)(x:d8)(hpre:e.Binds.length<=1000):spZ 287 [(true,[a0b e.Binds]),(false,[.s v]),(true,[.i .i64 x.N,.s x.S])] [] (.one (true,[a0b ((⟨a1u e.Binds v x⟩:e7).Binds)])):=by
 refine sx' false true none Tryz.func287 (q' 3 [aX 1 0,aX 1 1,aX 2 2,aw [.sl k9]] (q' 8 [aG 0 3,ao (.mf 327 [.t 4]),ac 326 [9,10],aV 7] (.seq (q' 12 [am 7,aC .lss 12 0] (ci 13 (g' 14 [aG 0 3,aN,aV 7]))) (.seq (rm' [(true,0,f' 17 0 3),(true,1,l' 18 17),(true,3,m' 20 7),(true,4,l' 21 4),(true,5,e' 22 2 5),(true,6,o' 23 (.bld [.s,.i .i64,.s] [(0,1,.t 21),(1,2,.t 22)])),(false,2,c' 19 329 [18]),(false,7,o' 24 (.bsl 3 1 [.s,.i .i64,.s] [(0,.t 23)])),(false,8, c' 25 328 [19,20,24]),(false,9,o' 26 (.bld [.sl k9] [(0,1,.t 25)])),(false,10,s' 1 6 26)] [[0,1,2,3,4,5,7,6,8,9, 10]] [6,7,8,9,10,11]) .ret)))) [.c 6 true 1] [(329,[],b6u),(326,[],b6z),(328,[0,2],c5E)] ?_;intro hb hE;have hI:=e1H e.Binds v x;simp only[go_sem];(repeat' first|apply cj'|intro hc|apply a0o);(all_goals(try((first|refine a0V 6 rfl ?_);intro S hS B0 hB;simp only[go_sem,z0B]at hS hB;(repeat(first|replace hS:=And.right hS|replace hS:=CJ.r hS));have Rr6:=congrArg (fun s:St=>s.sl 6) hS;have Rr18:=congrArg (fun s:St=>s.sl 18) hS;have Rr20:=congrArg (fun s:St=>s.sl 20) hS;have Rr23:=congrArg (fun s:St=>s.sl 23) hS;have Rb6:=congrArg (fun s:St=>s.bx 6) hS;have Rb7:=congrArg (fun s:St=>s.bx 7) hS;have Rb8:=congrArg (fun s:St=>s.bx 8) hS;have Rb9:=congrArg (fun s:St=>s.bx 9) hS;have Rb10:=congrArg (fun s:St=>s.bx 10) hS;have Rb11:=congrArg (fun s:St=>s.bx 11) hS;have Rb12:=congrArg (fun s:St=>s.bx 12) hS;clear hS;simp only[go_sem]at Rr6 Rr18 Rr20 Rr23 Rb6 Rb7 Rb8 Rb9 Rb10 Rb11 Rb12;(try clear hc);intro K hc;simp only[go_sem,Rr6,Rr18,Rr20,Rr23,Rb6,Rb7,Rb8,Rb9,Rb10,Rb11,Rb12,hB,K6]at hc ⊢;simp only[go_sem,Rr6,Rr18,Rr20,Rr23,Rb6,Rb7,Rb8,Rb9,Rb10,Rb11,Rb12,hB,K0]at hc ⊢;(first|(simp only[hc,K5];done)|((repeat' first|exact hc|apply W6);done)))));all_goals try exact om'
 ·rw[<-hI.2.2,d1c,V3 hc,W8]
 ·rw[d1c,V5 hc,V2]at hI;exact⟨⟨hI.1,hI.2.1⟩,z0D⟩
 ·rw[<-hI.2.2,d1c,V5 hc,V2]
noncomputable def a5N:CT:=n9 (fun(x:e7×(List UInt8)×d8) h=>c4p x.1 x.2.1 x.2.2 h)
@[go_sem] def d7z:=fun x0 v x1 x2=>nm' (fP' a5N rfl (⟨x0⟩,v,⟨x1,x2⟩))
def b8S(e:e7)(v:List UInt8)(x:d8)(hpre:e.Binds.length<=1000):spZ 249 [(true,[a0b e.Binds]),(false,[.s v]),(true,[.i .i64 x.N,.s x.S])] [] (.one (true,[a0b ((⟨a1u e.Binds v x⟩:e7).Binds)])):=by
 refine sx' false true none Tryz.func249 a8x [.c 6 true 1] [] ?_;intro hb hE;simp only[go_sem];repeat' first|apply cj'|intro hc|exact om'|fail
 refine lk' false [(true,14,0,200028)] [1,5,6,7,13,14] [10,12] [] (fun i:{i:Nat // i<=e.Binds.length}=>[(8,slV (.b ((e.Binds.take i.1).any (gtB v)))),(15,slV (.i .i64 i.1))]) (fun i=>[(14,[.ow 200028])]) (fun i=>[(200028,k9,(a8q (e.Binds.take i.1) v x).map d7.cells)]) (fun i=>e.Binds.length-i.1) (⟨0,z0E⟩) ?_;intro S0 hS0 i;obtain⟨i,hi⟩:=i;have hol:=d0Z (e.Binds.take i) v x;rw[V1]at hol;have hsn:i<e.Binds.length->e.Binds.take (i+1)=e.Binds.take i++[e.Binds.getD i default]:=fun h=>j6 default h
 simp only[go_sem,hS0];repeat' first|apply cj'|intro hc|exact om'|fail
 ·have h1:=d0Y (x:=x) hc.1 hc.2;rw[<-hsn z0D]at h1
  (refine lpK_n2 (⟨i+1,z0D⟩) _ z0H ?_;simp only[go_sem,hS0]<;>repeat' first|apply W6|exact on'|fail)
  all_goals(first|exact congrArg (List.map d7.cells) h1.1.symm|(rw[h1.2];done)|(rw[h1.2];exact congrArg _ hc.1.symm))
 ·have h1:=d6w (x:=x) hc;rw[<-hsn z0D]at h1
  (refine lpK_n2 (⟨i+1,z0D⟩) _ z0H ?_;simp only[go_sem,hS0]<;>repeat' first|apply W6|exact on'|fail)
  all_goals(first|exact congrArg (List.map d7.cells) h1.1.symm|(rw[h1.2];done)|(rw[h1.2];exact congrArg _ hc.1.symm))
 ·rw[j5 z0D]at hc ⊢;rw[a8q,hc,V2,b6k x hc]
 ·rw[j5 z0D]at hc ⊢;rw[a8q,hc,W8]
noncomputable def a8d:CT:=n9 (fun(x:e7×(List UInt8)×d8) h=>b8S x.1 x.2.1 x.2.2 h)
@[go_sem] def d3F:=fun x0 v x1 x2=>nm' (fP' a8d rfl (⟨x0⟩,v,⟨x1,x2⟩))
def c7R(e:e7)(args:List d9)(row:c7)(hpre:e.Binds.length<=500/\row.V.length<=6):spZ 286 [(true,[a0b e.Binds]),(false,[o6 args]),(true,[l9 row.V])] [] (.tup [(true,[a0b (((a6N e args row).1).Binds)]),(false,[.b ((a6N e args row).2)])]):=by
 refine sx' false true none Tryz.func286 (q' 5 [ax (o' 3 (.box 1 (.t 0))),aX 1 2,aw [.sl k9],aU false] (.seq (q' 12 [am 1,aN,aG 0 5,aN,aD .neq 13 16] (ci 17 (q' 18 [ao (.bld [.sl k9] []),aS 1 6 18,ab 7 false] .ret))) (.seq (q' 19 [am 1,aN,aK 0] (fO 0 22 [ar 21 20] 22 1 (q' 23 [am 21,ai 3 19 21,aE 3,ax (w' 9 [.s, .i .i64,.s]),av 8 23,aS 3 9 25] (q' 27 [ae 1 3,ae 3 9,ac 223 [27,28],aV 26,aZ 26 0,aZ 26 1,ax (w' 10 [.i .i64,.s]),aS 2 10 30,aV 11] (.block 2 (q' 33 [am 11,aO 33,aV 32] (cd 32 (.rego [(true,1,f' 36 0 9),(true,2,l' 37 36),(true,3,f' 38 0 5),(true,4,l' 39 38),(true,5,m' 40 8),(true,6,i' 41 2 39 40),(true,7,e' 42 2 41),(false,0,e' 35 1 3),(false,8,c' 43 287 [35,37,42]),(false,9,s' 1 3 43)] [18,19,10,11]) (.seq (G' 45 [ae 2 10,aG 0 5,am 8,aI 2,aE 2,ao (.eqs true [.i .i64,.s] (.t 45) (.t 50)),aV 44]) (ci 44 (q' 52 [ao (.bld [.sl k9] []),aS 1 6 52,ab 7 false] .ret)))))))) (g' 53 [aA 21]))) (q' 54 [ae 1 3,aS 1 6 54,ab 7 true] .ret)))) [.c 6 true 1,.t 7] [(223,[],a1F),(287,[],a5N)] ?_;intro hb hE;obtain⟨hp1,hp2⟩:=hpre;simp only[go_sem];repeat' first|apply cj'|intro hc|exact om'|fail
 ·rw[a6N,V5 (by intro h;rw[h]at hc;simp at hc)];exact⟨rfl,rfl⟩
 have hl:args.length=row.V.length:=by simpa[q3H,bne]using hc
 clear hc;refine lq' false [3,5,6,19,20] [10,11,19] [] (fun i:{q:Nat×List d7 // q.1<=args.length/\a2P e.Binds args row.V q.1=some q.2}=>[(21,slV (.i .i64 i.1.1))]) (fun i=>[(6,[.c (a0b i.1.2)]),(12,[.nl k9])]) nl' (fun i=>args.length-i.1.1) (⟨(0,e.Binds),z0E,rfl⟩) ?_;intro S0 hS0 i;obtain⟨⟨i,c⟩,hi,hf⟩:=i;simp only at hi hf;have hcl:=b3q hf;simp only[go_sem,hS0];repeat' first|apply cj'|intro hc|exact om'|fail
 ·exact nx0 ⟨(i+1,a1u c (args.getD i default).Var (row.V.getD i default)),z0G,d5X hf hc⟩
 ·rename_i hv;rw[a6N,V3 hl,W8,c7t hf z0D hv hc];exact⟨rfl,rfl⟩
 ·rename_i hv;exact nx0 ⟨(i+1,c),z0G,c1g hf hv (by rw[b1f,hc.1,hc.2];rfl)⟩
 ·obtain rfl:i=args.length:=by omega
  rw[a6N,V3 hl,W8,hf];exact⟨rfl,rfl⟩
noncomputable def b2O:CT:=n9 (fun(x:e7×(List d9)×c7) h=>c7R x.1 x.2.1 x.2.2 h)
@[go_sem] def d9K:=fun x0 x1 x2=>nm' (fP' b2O rfl (⟨x0⟩,x1,⟨x2⟩))
def b8R(e:e7)(args:List d9)(row:c7)(hpre:e.Binds.length<=500/\row.V.length<=6):spZ 187 [(true,[a0b e.Binds]),(false,[o6 args]),(true,[l9 row.V])] [] (.tup [(true,[a0b (((a6N e args row).1).Binds)]),(false,[.b ((a6N e args row).2)])]):=by
 refine sx' false true none Tryz.func187 (q' 5 [ax (o' 3 (.box 1 (.t 0))),aX 1 2,aw [.sl k9],aU false] (.seq (q' 14 [am 1,aN,aG 0 5,aN,aD .neq 15 18] (ci 19 (q' 20 [ao (.bld [.sl k9] []),aS 1 6 20,ab 7 false] .ret))) (q' 21 [ao (.bsl 3 0 [.s,.i .i64,.s] []),aG 0 3,ao (.app 3 40 [.s,.i .i64,.s] (.t 21) (.t 23)),ao (.bld [.sl k9] [(0,1,.t 24)]),ax (w' 8 [.sl k9]),aS 1 8 25] (.seq (q' 26 [am 1,aN,aK 0] (fO 0 29 [ar 28 27] 29 1 (q' 30 [am 28,ai 3 26 28,aE 3,ax (w' 10 [.s,.i .i64,.s]),av 9 30,aS 3 10 32] (q' 33 [af 1 10,aE 2,ax (w' 11 [.i .i64,.s]),aS 2 11 34] (.seq (q' 35 [aG 0 10,aY .neq 36 []] (ci 37 (q' 39 [ae 1 8,aG 0 10,ac 191 [39,41],aV 38,aZ 38 0,aZ 38 1,ax (w' 12 [.i .i64,.s]),aS 2 12 43,aV 13] (.seq (q' 45 [am 13,aO 45] (ci 46 (.seq (.rego [(true,1,f' 48 0 10),(true,2,l' 49 48),(true,3,f' 50 0 5),(true,4,l' 51 50),(true,5,m' 52 9),(true,6,i' 53 2 51 52),(true,7,e' 54 2 53),(false,0,e' 47 1 8),(false,8,c' 55 249 [47,49,54]),(false,9,s' 1 8 55)] [20,21,10,11]) (g' 56 [aG 0 5,am 9,aI 2,aE 2,aS 2 12 60])))) (g' 61 [ae 2 12,aS 2 11 61]))))) (.seq (G' 62 [ae 2 11,aG 0 5,am 9,aI 2,aE 2,ao (.eqs true [.i .i64,.s] (.t 62) (.t 67))]) (ci 68 (q' 69 [ao (.bld [.sl k9] []),aS 1 6 69,ab 7 false] .ret)))))) (g' 70 [aA 28]))) (q' 71 [ae 1 8,aS 1 6 71,ab 7 true] .ret))))) [.c 6 true 1,.t 7] [(191,[],a3w),(249,[],b0U)] ?_;intro hb hE;obtain⟨hp1,hp2⟩:=hpre;simp only[go_sem];repeat' first|apply cj'|intro hc|exact om'|fail
 ·rw[a6N,V5 (by intro h;rw[h]at hc;simp at hc)];exact⟨rfl,rfl⟩
 have hl:args.length=row.V.length:=by simpa[q3H,bne]using hc
 clear hc;refine lk' false [(true,16,0,200032)] [5,6,8,26,27] [10,11,21] [] (fun i:{q:Nat×List d7 // q.1<=args.length/\a2P e.Binds args row.V q.1=some q.2}=>[(28,slV (.i .i64 i.1.1))]) (fun i=>[(16,[.ow 200032]),(12,[.nl k9])]) (fun i=>[(200032,k9,i.1.2.map d7.cells)]) (fun i=>args.length-i.1.1) (⟨(0,e.Binds),z0E,rfl⟩) ?_;intro S0 hS0 i;obtain⟨⟨i,c⟩,hi,hf⟩:=i;simp only at hi hf;have hcl:=b3q hf;simp only[go_sem,hS0];repeat' first|apply cj'|intro hc|exact om'|fail
 ·rename_i hv;exact nk0 ⟨(i+1,a1u c (args.getD i default).Var (row.V.getD i default)),z0G,d5X hf (by rw[b4i hv];exact hc)⟩
 ·rename_i hv ho;rw[a6N,V3 hl,W8,c7t hf z0D (by rw[b4i hv];exact ho) (by rw[b4i hv];exact hc)];exact⟨rfl,rfl⟩
 ·rename_i hv ho;exact nk0 ⟨(i+1,c),z0G,c1g hf (by rw[b4i hv];exact ho) (by rw[b4i hv,b1f,hc.1,hc.2];rfl)⟩
 ·rename_i hv;rw[a6N,V3 hl,W8,c7t hf z0D (by rw[b0f hv]) (by rw[b0f hv];exact hc)];exact⟨rfl,rfl⟩
 ·rename_i hv;exact nk0 ⟨(i+1,c),z0G,c1g hf (by rw[b0f hv]) (by rw[b0f hv,b1f,hc.1,hc.2];rfl)⟩
 ·obtain rfl:i=args.length:=by omega
  rw[a6N,V3 hl,W8,hf];exact⟨rfl,rfl⟩
noncomputable def a8c:CT:=n9 (fun(x:e7×(List d9)×c7) h=>b8R x.1 x.2.1 x.2.2 h)
@[go_sem] def d3E:=fun x0 x1 x2=>nm' (fP' a8c rfl (⟨x0⟩,x1,⟨x2⟩))
def body8{r:c8}(h:l8 r=true):r.Body.length<=8:=by
 simp only[l8,K7]at h;omega
def u4{l:List α}{i:Nat}(d:α)(h:i<l.length):l.getD i d∈l:=by
 rw[k8 d h];exact q1M _
def c2W{r:f8}(h:y8 r=true)(hi:i<r.Rows.length):(r.Rows.getD i default).V.length<=6:=by
 simp only[y8,W3,q0W]at h;exact(c6k (a3j (a5p h.2 hi))).1
abbrev arA(r:c8)(n:Nat):List d9:=(r.Body.getD n default).Atom.Args
abbrev arR(r:c8)(s:c6)(n:Nat):List c7:=(w4 s (r.Body.getD n default).Atom.Name).1.Rows
def b8a(A:List d9)(e:e7)(R:List c7)(base:List e7):Nat->List e7
 | 0=>base
 | k+1=>b8a A e R base k++(c1e A e (R.getD k default)).toList
def c6X{A:List d9}{e:e7}{R:List c7}{base:List e7}:∀{k:Nat},k<=R.length->b8a A e R base k=base++a5G A (R.take k) e
 | 0,_=>by simp[b8a,a5G]
 | k+1,h=>by
   rw[b8a,c6X z0D];cases hf:c1e A e (R.getD k default)with
   | none=>rw[rows_no z0D hf];simp
   | some c=>rw[e2v z0D hf];simp
def c9l{A:List d9}{e:e7}{R:List c7}{base:List e7}(h:k<=R.length):(b8a A e R base k).length<=base.length+R.length:=by
 rw[c6X h,V6];have:=d9l A (R.take k) e;rw[V1]at this;omega
def c9k{A:List d9}{R:List c7}{now:List e7}{j:Nat}(h:j<now.length):b8a A (now.getD j default) R (a0f A R (now.take j)) R.length=a0f A R (now.take (j+1)):=by
 rw[c6X (q0F _),q6D,d4w h]
def c4u(r:c8)(s:c6)(hpre:l8 r=true/\j9 s=true):spZ 218 [(true,[.i .i64 r.Kind,.s r.Head.Name,o6 r.Head.Args,a0s r.Body]),(true,[j7 s.Rels])] [] (.tup [(false,[kTEnv ((a1n r s).1)]),(false,[.b ((a1n r s).2)])]):=by
 refine sy' Tryz.func218 (q' 2 [aX 4 0,aX 1 1,ao (.mov (.k (.v false [.nl a3R]))),aU false] (q' 18 [ao (.bld [.sl k9] []),ao (.bsl 1 1 [.sl k9] [(0,.t 18)]),aV 6] (.seq (q' 20 [aG 3 2,aN,aK 0] (fO 0 24 [ar 23 22] 24 1 (q' 25 [ai 10 21 23,aE 10,ax (w' 8 [.i .i64,.s,.sl k9,.i .i64,.s,.i .i64,.s,.s,.i .i64,.s]),aS 10 8 26] (.seq (q' 27 [aG 0 8,aC .neq 28 1] (ci 29 (.exit 1))) (q' 31 [ae 1 3,af 1 8,aG 0 32,ac 162 [31,34],aV 30,aZ 30 0,aZ 30 1,ax (w' 9 [.i .i64,.sl k7]),aS 2 9 36,aV 10] (q' 38 [ao (.bsl 1 0 [.sl k9] []),aV 11] (.seq (q' 39 [am 6,aN,aK 0] (fO 2 42 [ar 41 40] 42 3 (q' 43 [ai 1 39 41,aE 1,ax (w' 13 [.sl k9]),aS 1 13 44] (.seq (q' 45 [aG 1 9,aN,aK 0] (fO 4 49 [ar 48 47] 49 5 (q' 50 [ai 1 46 48,aE 1,ax (w' 15 [.sl l7]),aS 1 15 51] (q' 53 [ae 1 13,af 1 8,aG 1 54,ae 1 15,ac 286 [53,56,57],aV 52,aZ 52 0,aZ 52 1,ax (w' 16 [.sl k9]),aS 1 16 59,aV 17] (q' 61 [am 17] (ci 61 (g' 62 [am 11,ae 1 16,ao (.bsl 1 1 [.sl k9] [(0,.t 63)]),ao (.app 1 24 [.sl k9] (.t 62) (.t 64)),aV 11]))))) (g' 66 [aA 48]))) (q' 67 [am 11,aN,aC .gtr 68 2000] (ci 69 (q' 4 [ao (.mov (.k (.v false [.nl a3R]))),aU false] .ret))))) (g' 70 [aA 41]))) (g' 71 [am 11,aV 6])))))) (g' 72 [aA 23]))) (q' 73 [am 6,aV 4,ab 5 true] .ret)))) [.t 4,.t 5] [(162,[],a4o),(286,[],b2O)] ?_;intro hb hE;obtain⟨hr,hs⟩:=hpre;have hb8:=body8 hr;simp only[go_sem];repeat' first|apply cj'|intro hc|exact om'|fail
 refine lk' false [(false,6,0,100012)] [3,21,22] [6] [] (fun i:{q:Nat×List e7 // q.1<=r.Body.length/\a1t r s q.1=some q.2}=>[(6,.v false [.ow 100012]),(23,slV (.i .i64 i.1.1))]) nl' (fun i=>[(100012,a3R,i.1.2.map (e7.cells false false))]) (fun i=>r.Body.length-i.1.1) (⟨(0,[⟨[]⟩]),z0E,rfl⟩) ?_;intro S0 hS0 i;obtain⟨⟨n,now⟩,hn,hj⟩:=i;simp only at hn hj;have hJ:=Jn.all hr hs hn hj;have hl:=b5u hj;have hR:=a0I hs (r.Body.getD n default).Atom.Name;have hRl:=a6X hR;have hRe:(arR r s n).length=(w4 s (r.Body.getD n default).Atom.Name).1.Rows.length:=rfl;simp only[go_sem,hS0];repeat' first|apply cj'|intro hc|exact om'|fail
 ·exact nk0 ⟨(n+1,now),z0G,c1u hj (by simpa[bne]using hc)⟩
 ·have hk:((r.Body.getD n default).Kind==1)=true:=by simpa[bne]using hc
  refine a2B 100012 ?_;refine lk' false [(false,11,0,100022)] [3,8,9,21,22,23,39,40] [6,16,18] [] (fun i:{j:Nat // j<=now.length/\(a0f (arA r n) (arR r s n) (now.take j)).length<=2000}=>[(11,.v false [.ow 100022]),(41,slV (.i .i64 i.1))]) nl' (fun i=>[(100022,a3R,(a0f (arA r n) (arR r s n) (now.take i.1)).map (e7.cells false false))]) (fun i=>now.length-i.1) (⟨0,z0E,by simp[a0f]⟩) ?_;intro S1 hS1 i;obtain⟨j,hj1,hj2⟩:=i;simp only[go_sem,hS0,hS1];repeat' first|apply cj'|intro hc|exact om'|fail
  ·have hm:=u4 (l:=now) default (i:=j) z0D;have he6:=hJ.len _ hm;have hall:=c9k (A:=arA r n) (R:=arR r s n) (now:=now) (j:=j) z0D;refine lk' false [(false,11,0,100022)] [3,8,9,13,21,22,23,39,40,41,46,47] [6,16,18,26] [] (fun i:{k:Nat // k<=(arR r s n).length}=>[(11,.v false [.ow 100022]),(48,slV (.i .i64 i.1))]) nl' (fun i=>[(100022,a3R,(b8a (arA r n) (now.getD j default) (arR r s n) (a0f (arA r n) (arR r s n) (now.take j)) i.1).map (e7.cells false false))]) (fun i=>(arR r s n).length-i.1) (⟨0,z0E⟩) ?_;intro S2 hS2 i;obtain⟨k,hk1⟩:=i;have hlk:=c9l (A:=arA r n) (e:=now.getD j default) (R:=arR r s n) (base:=a0f (arA r n) (arR r s n) (now.take j)) hk1;simp only[go_sem,hS0,hS1,hS2];repeat' first|apply cj'|intro hc|exact om'|fail
   ·exact⟨z0D,c2W hR z0D⟩
   ·(refine lpK_n2 (⟨k+1,z0D⟩) _ z0M ?_;simp only[go_sem,hS0,hS1,hS2]<;>repeat' first|apply W6|exact on'|fail)
    all_goals(rw[b8a,c1f hc];rfl)
   ·(refine lpK_n2 (⟨k+1,z0D⟩) _ z0M ?_;simp only[go_sem,hS0,hS1,hS2]<;>repeat' first|apply W6|exact on'|fail)
    all_goals(rw[b8a,c7s hc];simp)
   ·obtain rfl:k=(arR r s n).length:=by omega
    rw[hall]at hc;rw[c5R hj z0D hk (j:=j+1) (show 2000<(a0f (arA r n) (arR r s n) (now.take (j+1))).length by omega)];exact⟨rfl,rfl⟩
   ·obtain rfl:k=(arR r s n).length:=by omega
    rw[hall]at hc
    (refine lpK_n2 (⟨j+1,z0D,z0D⟩) _ z0M ?_;simp only[go_sem,hS0,hS1,hS2]<;>repeat' first|apply W6|exact on'|fail)
    all_goals rw[hall]
  ·rw[j5 z0D]at hj2
   (refine lpK_n2 (⟨(n+1,a0f (arA r n) (arR r s n) now),z0G,d0o hj hk hj2⟩) _ z0M ?_;simp only[go_sem,hS0,hS1]<;>repeat' first|apply W6|exact on'|fail)
   all_goals rw[j5 z0D]
 ·obtain rfl:n=r.Body.length:=by omega
  rw[d0p hj];exact⟨rfl,rfl⟩
noncomputable def b0z:CT:=n9 (fun(x:c8×c6) h=>c4u x.1 x.2 h)
@[go_sem] def d7G:=fun x0 x1 x2 x3 x4=>nm' (fP' b0z rfl (⟨x0,⟨x1,x2⟩,x3⟩,⟨x4⟩))
def b8c(l:e8)(b:List d7):Bool:=a0Y l&&((n8 ⟨b⟩ l.A).2&&!(n8 ⟨b⟩ l.B).2||(n8 ⟨b⟩ l.B).2&&!(n8 ⟨b⟩ l.A).2)
def eqG(r:c8)(b:List d7):Nat->Bool
 | 0=>false
 | n+1=>eqG r b n||b8c (r.Body.getD n default) (eqP r b n)
def c7m{l:e8}(h:b8c l b=false):eqS l b=b:=by
 rw[b8c]at h;rw[eqS];cases h0:a0Y l with
 | false=>rfl
 | true=>
   rw[h0]at h;cases h1:(n8 ⟨b⟩ l.A).2<;>cases h2:(n8 ⟨b⟩ l.B).2<;>rw[h1,h2]at h<;>first|rfl|(exact absurd h z02)
def e1m{r:c8}{l:e8}(hl:l∈r.Body)(h:b8c l b=true):miss r ((eqS l b).map d7.Var)<miss r (b.map d7.Var):=by
 rcases(a5a l b).miss hl with h1|⟨_,h1⟩
 ·exfalso;have h2:=congrArg List.length h1;rw[b8c,W3]at h;obtain⟨h0,h⟩:=h;rw[eqS,h0]at h2;cases h3:(n8 ⟨b⟩ l.A).2<;>cases h4:(n8 ⟨b⟩ l.B).2<;>rw[h3,h4]at h h2
  ·exact absurd h (by decide)
  ·simp only[z0C,a3N]at h2;omega
  ·simp only[z0C,a3N]at h2;omega
  ·exact absurd h (by decide)
 ·exact h1
def d3X{r:c8}{b:List d7}:∀{n:Nat},eqG r b n=false->eqP r b n=b
 | 0,_=>rfl
 | n+1,h=>by
   rw[eqG,q0Y]at h;have h1:=c7m h.2;rw[d3X h.1]at h1;rw[eqP,d3X h.1,h1]
def d5S{r:c8}{b:List d7}:∀{n:Nat},n<=r.Body.length->eqG r b n=true->miss r ((eqP r b n).map d7.Var)<miss r (b.map d7.Var)
 | 0,_,h=>by cases h
 | n+1,hn,h=>by
   have hm:=u4 (l:=r.Body) default (i:=n) z0D;have hle:=(a4Z (r:=r) (b:=b) (n:=n) z0D).2;rw[eqG,q2U]at h;rw[eqP];rcases h with h|h
   ·have h1:=d5S z0D h;rcases(a5a (r.Body.getD n default) (eqP r b n)).miss hm with h2|⟨_,h2⟩
    ·rw[h2];exact h1
    ·omega
   ·have h1:=e1m hm h;rcases hle with h2|h2
    ·rw[h2]at h1 ⊢;exact h1
    ·omega
def d0a{r:c8}{b:List d7}(hV:(a8n r).length<=64)(hn:n<=r.Body.length):(eqP r b n).length<=b.length+64:=by
 have h1:=(a4Z (r:=r) (b:=b) hn).1;have h2:=b9h r (b.map d7.Var);omega
def c9Z{r:c8}(hV:(a8n r).length<=64)(k:Nat):(eqI r b k).length<=b.length+64:=by
 have h1:=c0Z (r:=r) (b:=b) k;have h2:=b9h r (b.map d7.Var);omega
def d6t{l:e8}(h:(l.Kind != 3)=true\/(l.Op != 1)=true):a0Y l=false:=by
 rw[a0Y];rcases h with h|h<;>simp only[bne,q0W]at h<;>rw[h]<;>simp
def b9o{l:e8}(h:(l.Kind != 3)=false/\(l.Op != 1)=false):a0Y l=true:=by
 simp only[bne,q0T]at h;rw[a0Y,h.1,h.2];rfl
def b8h(op:Int)(a:d8)(b:d8):spZ 288 [(false,[.i .i64 op]),(true,[.i .i64 a.N,.s a.S]),(true,[.i .i64 b.N,.s b.S])] [] (.one (false,[.b (a0y op a b)])):=by
 refine sy' Tryz.func288 (q' 4 [aX 2 1,aX 2 2,aU false] (.seq (q' 7 [ae 2 4,ac 210 [7],aO 8,am 9,aH 10 false [be 2 5,bc 210 [11],bO 12],aQ 10 13] (ci 14 (q' 6 [aU false] .ret))) (.seq (q' 15 [am 0] (.block 0 (q' 17 [aC .eql 15 1,aV 16] (cd 16 (q' 18 [ae 2 4,ae 2 5,ao (.eqs false [.i .i64,.s] (.t 18) (.t 19)),aV 6] .ret) (q' 22 [aC .eql 15 2,aV 21] (cd 21 (q' 23 [ae 2 4,ae 2 5,ao (.eqs true [.i .i64,.s] (.t 23) (.t 24)),aV 6] .ret) (q' 27 [aC .eql 15 3,aV 26] (cd 26 (q' 28 [ae 2 4,ae 2 5,ac 212 [28,29],aC .lss 30 0,aV 6] .ret) (q' 33 [aC .eql 15 4,aV 32] (ci 32 (q' 34 [ae 2 4,ae 2 5,ac 212 [34,35],aC .leq 36 0,aV 6] .ret))))))))))) (q' 6 [aU false] .ret)))) [.t 6] [(210,[],a2D),(212,[],a2F)] ?_;intro hb hE;simp only[go_sem];repeat' first|apply cj'|intro hc|exact om'|fail
 ·rcases hc with h|h<;>simp[a0y,h]
 ·rename_i h;simp[a0y,h,hc,vEq]
 ·rename_i h h1;simp[a0y,h,hc,h1,vEq]
 ·rename_i h h1 h2;simp only[a0y,h.1,h.2,hc,h1,h2,z0C,q0P];exact c0D h.1 h.2
 ·rename_i h h1 h2 h3;simp only[a0y,h.1,h.2,hc,h1,h2,h3,z0C,q0P];exact c0C h.1 h.2
 ·rename_i h h1 h2 h3;simp only[a0y,h.1,h.2,hc,h1,h2,h3,V2,q0P]
noncomputable def a7A:CT:=l4 (fun(x:Int×d8×d8)=>b8h x.1 x.2.1 x.2.2)
@[go_sem] def d2W:=fun op x0 x1 x2 x3=>nm' (fQ' a7A rfl (op,⟨x0,x1⟩,⟨x2,x3⟩))
def b8E(op:Int)(a:d8)(b:d8):spZ 251 [(false,[.i .i64 op]),(true,[.i .i64 a.N,.s a.S]),(true,[.i .i64 b.N,.s b.S])] [] (.one (false,[.b (a0y op a b)])):=by
 refine sy' Tryz.func251 (q' 4 [aX 2 1,aX 2 2,aU false] (.seq (q' 7 [ae 2 4,ac 245 [7],aO 8,am 9,aH 10 false [be 2 5,bc 245 [11],bO 12],aQ 10 13] (ci 14 (q' 6 [aU false] .ret))) (.seq (q' 15 [am 0] (.block 0 (q' 17 [aC .eql 15 1,aV 16] (cd 16 (q' 18 [ae 2 4,ae 2 5,ao (.eqs false [.i .i64,.s] (.t 18) (.t 19)),aV 6] .ret) (q' 22 [aC .eql 15 2,aV 21] (cd 21 (q' 23 [ae 2 4,ae 2 5,ao (.eqs true [.i .i64,.s] (.t 23) (.t 24)),aV 6] .ret) (q' 27 [aC .eql 15 3,aV 26] (cd 26 (q' 28 [ae 2 4,ae 2 5,ac 313 [28,29],aV 6] .ret) (q' 32 [aC .eql 15 4,aV 31] (ci 31 (q' 33 [ae 2 4,ae 2 5,ac 313 [33,34],am 35,aH 36 false [be 2 4,be 2 5,bo (.eqs false [.i .i64,.s] (.t 37) (.t 38))],aQ 36 39,aV 6] .ret))))))))))) (q' 6 [aU false] .ret)))) [.t 6] [(245,[],a1G),(313,[],a6F)] ?_;intro hb hE;simp only[go_sem];repeat' first|apply cj'|intro hc|exact om'|fail
 ·rcases hc with h|h<;>simp[a0y,h]
 ·rename_i h;simp[a0y,h,hc,vEq]
 ·rename_i h h1;simp[a0y,h,hc,h1,vEq]
 ·rename_i h h1 h2;simp only[a0y,a4z,h.1,h.2,hc,h1,h2,z0C,q0P]
 ·rename_i h h1 h2 h3;simp only[a0y,a4z,h.1,h.2,hc,h1,h2,h3,z0C,q0P,vEq]
 ·rename_i h h1 h2 h3;simp only[a0y,h.1,h.2,hc,h1,h2,h3,V2,q0P]
noncomputable def a7U:CT:=l4 (fun(x:Int×d8×d8)=>b8E x.1 x.2.1 x.2.2)
@[go_sem] def d3t:=fun op x0 x1 x2 x3=>nm' (fQ' a7U rfl (op,⟨x0,x1⟩,⟨x2,x3⟩))
def b8l(r:c8)(e:e7)(hpre:l8 r=true/\e.Binds.length<=100):spZ 219 [(true,[.i .i64 r.Kind,.s r.Head.Name,o6 r.Head.Args,a0s r.Body]),(true,[a0b e.Binds])] [] (.one (true,[a0b ((eqE r e).Binds)])):=by
 refine sx' false true none Tryz.func219 (q' 2 [aX 4 0,aX 1 1,aw [.sl k9]] (.seq (q' 5 [aU true] (lO 0 (.seq (q' 12 [am 5] (cd 12 .skip (.exit 0))) (.block 1 (q' 5 [aU false] (q' 13 [aG 3 2,aN,aK 0] (fO 2 17 [ar 16 15] 17 3 (q' 18 [ai 10 14 16,aE 10,ax (w' 7 [.i .i64,.s,.sl k9,.i .i64,.s,.i .i64,.s,.s,.i .i64,.s]),aS 10 7 19] (.seq (q' 20 [aG 0 7,aC .neq 21 3,am 22,aH 23 false [bf 3 7,bL,bC .neq 25 1],aQ 23 26] (ci 27 (.exit 3))) (q' 29 [ae 1 3,af 4 7,aE 3,ac 223 [29,31],aV 28,aZ 28 0,aZ 28 1,ax (w' 8 [.i .i64,.s]),aS 2 8 33,aV 9] (q' 36 [ae 1 3,af 7 7,aE 3,ac 223 [36,38],aV 35,aZ 35 0,aZ 35 1,ax (w' 10 [.i .i64, .s]),aS 2 10 40,aV 11] (.block 4 (q' 43 [aM [9,43],aH 44 true [bm 11,bO 45],aP 44 46,aV 42] (cd 42 (q' 48 [ae 1 3,af 7 7,aG 0 49,ae 2 8,ac 287 [48,51,52],aS 1 3 53] (g' 5 [aU true])) (q' 55 [aM [11,55],aH 56 true [bm 9,bO 57],aP 56 58,aV 54] (ci 54 (q' 60 [ae 1 3,af 4 7,aG 0 61,ae 2 10,ac 287 [60,63,64],aS 1 3 65] (g' 5 [aU true]))))))))))) (g' 66 [aA 16])))))))) (q' 67 [ae 1 3,aS 1 4 67] .ret))) [.c 4 true 1] [(223,[],a1F),(287,[],a5N)] ?_;intro hb hE;obtain⟨hr,he⟩:=hpre;have hV:=a4C hr;simp only[go_sem];repeat' first|apply cj'|intro hc|exact om'|fail
 refine lq' false [2,3,4] [4,8] [] (fun i:{q:Bool×List d7 // (∃k,eqI r e.Binds k=q.2)/\(q.1=false->a6l r q.2=q.2)}=>[(5,slV (.b i.1.1))]) (fun i=>[(6,[.c (a0b i.1.2)])]) nl' (fun i=>2*miss r (i.1.2.map d7.Var)+(bif i.1.1 then 1 else 0)) (⟨(true,e.Binds),⟨0,rfl⟩,by intro h;cases h⟩) ?_;intro S0 hS0 i;obtain⟨⟨g,c⟩,⟨k,hk⟩,hp⟩:=i;simp only at hk hp;have hcl:c.length<=e.Binds.length+64:=by rw[<-hk];exact c9Z hV k
 simp only[go_sem,hS0];repeat' first|apply cj'|intro hc|exact om'|fail
 ·skip
  refine lq' false [2,3,4,14,15] [4,8] [] (fun i:{j:Nat // j<=r.Body.length}=>[(5,slV (.b (eqG r c i.1))),(16,slV (.i .i64 i.1))]) (fun i=>[(6,[.c (a0b (eqP r c i.1))])]) nl' (fun i=>r.Body.length-i.1) (⟨0,z0E⟩) ?_;intro S1 hS1 i;obtain⟨j,hj⟩:=i;have hl2:=d0a (b:=c) hV hj;simp only[go_sem,hS0,hS1];repeat' first|apply cj'|intro hc|exact om'|fail
  ·have h0:=d6t hc
   (refine lpK_n2 (⟨j+1,z0D⟩) _ rfl ?_;simp only[go_sem,hS0,hS1]<;>repeat' first|apply W6|exact on'|fail)
   all_goals first|(rw[eqP,d0d h0];done)|(rw[eqG,b8c,h0];simp;done)
  ·rename_i h1;have h0:=b9o h1
   (refine lpK_n2 (⟨j+1,z0D⟩) _ rfl ?_;simp only[go_sem,hS0,hS1]<;>repeat' first|apply W6|exact on'|fail)
   all_goals first|(rw[eqP,c5O h0 hc.1 hc.2];done)|(rw[eqG,b8c,h0,hc.1,hc.2];simp;done)
  ·rename_i h1 h2;have h0:=b9o h1
   (refine lpK_n2 (⟨j+1,z0D⟩) _ rfl ?_;simp only[go_sem,hS0,hS1]<;>repeat' first|apply W6|exact on'|fail)
   all_goals first|(rw[eqP,d0c h0 hc.1 hc.2];done)|(rw[eqG,b8c,h0,hc.1,hc.2];simp;done)
  ·rename_i h1 h2;have h3:b8c (r.Body.getD j default) (eqP r c j)=false:=by rw[b8c,h2,hc];simp
   (refine lpK_n2 (⟨j+1,z0D⟩) _ rfl ?_;simp only[go_sem,hS0,hS1]<;>repeat' first|apply W6|exact on'|fail)
   all_goals first|(rw[eqP,c7m h3];done)|(rw[eqG,h3,q5D];done)
  ·obtain rfl:j=r.Body.length:=by omega
   have h1:eqG r c r.Body.length=false->eqP r c r.Body.length=c:=d3X;have h2:=d5S (r:=r) (b:=c) (q0F _);have h4:eqI r e.Binds (k+1)=eqP r c r.Body.length:=by rw[eqI,hk];rfl
   cases hG:eqG r c r.Body.length with
   | true=>
     have h5:=h2 hG
     (refine lpK_n2 (⟨(true,eqP r c r.Body.length),⟨k+1,h4⟩,by intro h;cases h⟩) _ rfl ?_;simp only[go_sem,hS0,hS1]<;>repeat' first|apply W6|exact on'|fail)
     all_goals first|rfl|(rename_i h;rw[h];simp only[W8];omega)|(simp only[*,W8];omega)|trace_state
   | false=>
     have h5:=h1 hG;rw[h5]
     (refine lpK_n2 (⟨(false,c),⟨k,hk⟩,fun _=>h5⟩) _ rfl ?_;simp only[go_sem,hS0,hS1]<;>repeat' first|apply W6|exact on'|fail)
     all_goals first|rfl|(simp only[*,z0C];omega)|trace_state
 ·exact congrArg (List.map d7.cells) (c7p ⟨k,hk,hp hc⟩).symm
noncomputable def a7E:CT:=n9 (fun(x:c8×e7) h=>b8l x.1 x.2 h)
@[go_sem] def d3a:=fun x0 x1 x2 x3 x4=>nm' (fP' a7E rfl (⟨x0,⟨x1,x2⟩,x3⟩,⟨x4⟩))
def c2z(e:e7)(t:d9):spZ 250 [(true,[a0b e.Binds]),(true,[.s t.Var,.i .i64 t.Val.N,.s t.Val.S])] [] (.tup [(true,[.i .i64 (((n8 e t).1).N),.s (((n8 e t).1).S)]),(false,[.b ((n8 e t).2)])]):=by
 refine sy' Tryz.func250 (q' 2 [aX 1 0,aX 3 1,aw [.i .i64,.s],aU false] (.seq (q' 6 [aG 0 3,aY .eql 7 []] (ci 8 (q' 9 [af 1 3,aE 2,aS 2 4 10,ab 5 true] .ret))) (q' 11 [ae 1 2,aG 0 3,ac 191 [11,13],aZ 14 0,aZ 14 1,aS 2 4 15,aV 5] .ret))) [.c 4 true 2,.t 5] [(191,[],a3w)] ?_;intro hb hE;simp only[go_sem];repeat' first|apply cj'|intro hc|exact om'|fail
 all_goals first|(rw[n8,hc];exact⟨⟨rfl,rfl⟩,rfl⟩)|trace_state
noncomputable def a4W:CT:=l4 (fun(x:e7×d9)=>c2z x.1 x.2)
@[go_sem] def d5L:=fun x0 x1 x2 x3=>nm' (fQ' a4W rfl (⟨x0⟩,⟨x1,⟨x2,x3⟩⟩))
def b8T(r:c8)(e:e7)(hpre:l8 r=true/\e.Binds.length<=100):spZ 188 [(true,[.i .i64 r.Kind,.s r.Head.Name,o6 r.Head.Args,a0s r.Body]),(true,[a0b e.Binds])] [] (.one (true,[a0b ((eqE r e).Binds)])):=by
 refine sx' false true none Tryz.func188 (q' 2 [aX 4 0,aX 1 1,aw [.sl k9]] (.seq (q' 5 [ao (.mov (.k (.v false [.c (.i .i64 (-1))])))] (lO 0 (.seq (q' 12 [am 5,aG 0 3,aN,ar 12 15] (cd 16 .skip (.exit 0))) (.block 1 (q' 17 [aG 0 3,aN,aV 5] (q' 20 [aG 3 2,aN,aK 0] (fO 2 24 [ar 23 22] 24 3 (q' 25 [am 23,aV 6] (q' 26 [aG 3 2,am 6,aI 10,aE 10,ax (w' 7 [.i .i64,.s,.sl k9,.i .i64,.s,.i .i64,.s,.s,.i .i64,.s]),aS 10 7 30] (.seq (q' 31 [aG 0 7,aC .neq 32 3,am 33,aH 34 false [bf 3 7,bL,bC .neq 36 1],aQ 34 37] (ci 38 (.exit 3))) (q' 40 [ae 1 3,af 4 7,aE 3,ac 250 [40,42],aV 39,aZ 39 0,aZ 39 1,ax (w' 8 [.i .i64,.s]),aS 2 8 44,aV 9] (q' 47 [ae 1 3,af 7 7,aE 3,ac 250 [47,49],aV 46,aZ 46 0,aZ 46 1,ax (w' 10 [.i .i64,.s]),aS 2 10 51,aV 11] (.seq (q' 53 [aM [9,53],aH 54 true [bm 11,bO 55],aP 54 56] (ci 57 (g' 58 [ae 1 3,af 7 7,aG 0 59,ae 2 8,ac 249 [58,61,62],aS 1 3 63]))) (q' 64 [aM [11,64],aH 65 true [bm 9,bO 66],aP 65 67] (ci 68 (g' 69 [ae 1 3,af 4 7,aG 0 70,ae 2 10,ac 249 [69,72,73],aS 1 3 74]))))))))) (g' 75 [aA 23])))))))) (q' 76 [ae 1 3,aS 1 4 76] .ret))) [.c 4 true 1] [(250,[],a4W),(249,[],a8d)] ?_;intro hb hE;obtain⟨hr,he⟩:=hpre;have hV:=a4C hr;simp only[go_sem];repeat' first|apply cj'|intro hc|exact om'|fail
 refine lq' false [2,3,4] [4,8] [] (fun i:{q:Int×List d7 // (∃k,eqI r e.Binds k=q.2)/\-1<=q.1/\(¬q.1<q.2.length->a6l r q.2=q.2)}=>[(5,slV (.i .i64 i.1.1))]) (fun i=>[(6,[.c (a0b i.1.2)])]) nl' (fun i=>2*miss r (i.1.2.map d7.Var)+(bif decide (i.1.1<i.1.2.length)then 1 else 0)) (⟨(-1,e.Binds),⟨0,rfl⟩,z0E,z0G⟩) ?_;intro S0 hS0 i;obtain⟨⟨g,c⟩,⟨k,hk⟩,hg,hp⟩:=i;simp only at hk hg hp;have hcl:c.length<=e.Binds.length+64:=by rw[<-hk];exact c9Z hV k
 simp only[go_sem,hS0];repeat' first|apply cj'|intro hc|exact om'|fail
 ·skip
  refine lq' false [2,3,4,5,22] [4,8] [] (fun i:{j:Nat // j<=r.Body.length}=>[(23,slV (.i .i64 i.1))]) (fun i=>[(6,[.c (a0b (eqP r c i.1))])]) nl' (fun i=>r.Body.length-i.1) (⟨0,z0E⟩) ?_;intro S1 hS1 i;obtain⟨j,hj⟩:=i;have hl2:=d0a (b:=c) hV hj;simp only[go_sem,hS0,hS1];repeat' first|apply cj'|intro hc|exact om'|fail
  ·have h0:=d6t hc
   (refine lpK_n2 (⟨j+1,z0D⟩) _ rfl ?_;simp only[go_sem,hS0,hS1]<;>repeat' first|apply W6|exact on'|fail)
   all_goals rw[eqP,d0d h0]
  ·rename_i h1 h2;rw[h2.2]at hc;exact absurd hc.1 (by decide)
  ·rename_i h1 h2;rw[h2.2]at hc;exact absurd hc.1 (by decide)
  ·rename_i h1 h2;have h0:=b9o h1
   (refine lpK_n2 (⟨j+1,z0D⟩) _ rfl ?_;simp only[go_sem,hS0,hS1]<;>repeat' first|apply W6|exact on'|fail)
   all_goals rw[eqP,c5O h0 h2.1 h2.2]
  ·rename_i h1 h2;have h0:=b9o h1
   (refine lpK_n2 (⟨j+1,z0D⟩) _ rfl ?_;simp only[go_sem,hS0,hS1]<;>repeat' first|apply W6|exact on'|fail)
   all_goals rw[eqP,d0c h0 hc.1 hc.2]
  ·rename_i h1 h2;have h3:b8c (r.Body.getD j default) (eqP r c j)=false:=by rw[b8c,h2,hc];simp
   (refine lpK_n2 (⟨j+1,z0D⟩) _ rfl ?_;simp only[go_sem,hS0,hS1]<;>repeat' first|apply W6|exact on'|fail)
   all_goals rw[eqP,c7m h3]
  ·obtain rfl:j=r.Body.length:=by omega
   have h4:eqI r e.Binds (k+1)=eqP r c r.Body.length:=by rw[eqI,hk];rfl
   have h5:=(a4Z (r:=r) (b:=c) (q0F _)).2;have h6:¬(c.length:Int)<(eqP r c r.Body.length).length->a6l r (eqP r c r.Body.length)=eqP r c r.Body.length:=fun h=>by
    have:a6l r c=c:=c6e (by rw[a6l];omega);rw[a6l]at this;rw[this];exact this
   have h7:2*miss r ((eqP r c r.Body.length).map d7.Var)+(bif decide ((c.length:Int)<(eqP r c r.Body.length).length)then 1 else 0)<2*miss r (c.map d7.Var)+(bif decide (g<(c.length:Int))then 1 else 0):=by
    rw[V3 (p:=g<(c.length:Int)) z0D,W8];rcases h5 with h5|h5
    ·rw[h5,V5 z0D,V2];omega
    ·cases decide ((c.length:Int)<(eqP r c r.Body.length).length)<;>simp only[z0C]<;>omega
   (refine lpK_n2 (⟨(c.length,eqP r c r.Body.length),⟨k+1,h4⟩,z0G,h6⟩) _ rfl ?_;simp only[go_sem,hS0,hS1]<;>repeat' first|apply W6|exact on'|fail)
   all_goals first|exact h7|trace_state
 ·exact congrArg (List.map d7.cells) (c7p ⟨k,hk,hp z0D⟩).symm
noncomputable def a8e:CT:=n9 (fun(x:c8×e7) h=>b8T x.1 x.2 h)
@[go_sem] def d3G:=fun x0 x1 x2 x3 x4=>nm' (fP' a8e rfl (⟨x0,⟨x1,x2⟩,x3⟩,⟨x4⟩))
def c1d(hb:EnvS b)(ha:args.all a0j=true)(hl:args.length<=6):a0t (a0i ⟨b⟩ args).1=true:=by
 rw[a0i];cases h:args.all (fun t=>(n8 ⟨b⟩ t).2)with
 | false=>rfl
 | true=>
   rw[W8,a0t,V3 z01,q0P,q0I];intro x hx;obtain⟨t,ht,rfl⟩:=q0R.1 hx;exact c3j hb (q0I.1 ha t ht) (q0I.1 h t ht)
def c6a{r:c8}(hr:l8 r=true)(hi:i<r.Body.length)(hk:((r.Body.getD i default).Kind==3)=false):(r.Body.getD i default).Atom.Args.all a0j=true/\(r.Body.getD i default).Atom.Args.length<=6:=c3a hr (u4 default hi) hk
def k2_3{k:Int}(h:(k==2)=true):(k==3)=false:=by rw[beq_iff_eq]at h;rw[h];rfl
def hH_no{r:c8}{s:c6}{e:e7}{i:Nat}(hi:i<r.Body.length)(h:b6a s e (r.Body.getD i default)=false):a6f r s e=false:=all_false (p:=b6a s e) (d:=default) hi h
def hX_no{r:c8}{s:c6}{e:e7}{i:Nat}(hi:i<r.Body.length)(h:c2G s e (r.Body.getD i default)=false):a9z r s e=false:=all_false (p:=c2G s e) (d:=default) hi h
def c7S(r:c8)(s:c6)(e:e7)(hpre:l8 r=true/\j9 s=true/\EnvS e.Binds):spZ 220 [(true,[.i .i64 r.Kind,.s r.Head.Name,o6 r.Head.Args,a0s r.Body]),(true,[j7 s.Rels]),(true,[a0b e.Binds])] [] (.one (false,[.b (a6f r s e)])):=by
 refine sy' Tryz.func220 (q' 3 [aX 4 0,aX 1 1,aX 1 2,aU false] (.seq (q' 17 [aG 3 3,aN,aK 0] (fO 0 21 [ar 20 19] 21 1 (q' 22 [ai 10 18 20,aE 10,ax (w' 8 [.i .i64,.s,.sl k9,.i .i64,.s,.i .i64,.s,.s,.i .i64,.s]),aS 10 8 23] (q' 24 [aG 0 8] (.block 2 (q' 27 [aC .eql 25 2,aV 26] (cd 26 (q' 29 [ae 1 5,af 1 8,aG 1 30,ac 165 [29,32],aV 28,aZ 28 0,aZ 28 1,ax (w' 9 [.sl l7]),aS 1 9 34,aV 10] (q' 37 [ae 1 4,af 1 8,aG 0 38,ac 162 [37,40],aV 36,aZ 36 0,aZ 36 1,ax (w' 11 [.i .i64,.sl k7]),aS 2 11 42,aV 12] (q' 44 [ae 2 11,ae 1 9,ac 116 [44,45]] (ci 46 (q' 6 [aU false] .ret))))) (q' 48 [aC .eql 25 3,aV 47] (ci 47 (q' 50 [ae 1 5,af 4 8,aE 3,ac 223 [50,52],aV 49,aZ 49 0,aZ 49 1,ax (w' 13 [.i .i64,.s]),aS 2 13 54,aV 14] (q' 57 [ae 1 5,af 7 8,aE 3,ac 223 [57,59],aV 56,aZ 56 0,aZ 56 1,ax (w' 15 [.i .i64,.s]),aS 2 15 61,aV 16] (q' 63 [aG 3 8,ae 2 13,ae 2 15,ac 288 [64,65,66],aO 67] (ci 68 (q' 6 [aU false] .ret)))))))))))) (g' 69 [aA 20]))) (q' 6 [aU true] .ret))) [.t 6] [(165,[],a8Q),(162,[],a4o),(116,[],a7i),(223,[],a1F),(288,[],a7A)] ?_;intro hb hE;obtain⟨hr,hs,he⟩:=hpre;simp only[go_sem];repeat' first|apply cj'|intro hc|exact om'|fail
 refine lq' false [4,5,18,19] [8,10] [] (fun i:{i:Nat // i<=r.Body.length/\(r.Body.take i).all (b6a s e)=true}=>[(20,slV (.i .i64 i.1))]) nl' nl' (fun i=>r.Body.length-i.1) (⟨0,z0E⟩) ?_;intro S0 hS0 i;obtain⟨i,hi,ha⟩:=i;have hR:=a0I hs (r.Body.getD i default).Atom.Name;have hT:=fun(h1:i<r.Body.length) (h2:((r.Body.getD i default).Kind==2)=true)=>c6a hr h1 (k2_3 h2)
 simp only[go_sem,hS0];repeat' first|apply cj'|intro hc|exact om'|fail
 ·exact(hT z0D hc).2
 ·exact⟨hR,c1d he (hT z0D hc).1 (hT z0D hc).2⟩
 ·rename_i h1;rw[hH_no (i:=i) z0D (by rw[b6a,h1,W8,hc];rfl)]
 ·rename_i h1;exact nx0 ⟨i+1,z0D,y9 (p:=b6a s e) default z0D ha (by rw[b6a,h1,W8,hc];rfl)⟩
 ·rename_i h1 h2;rw[hH_no (i:=i) z0D (by rw[b6a,h1,V2,h2,W8];exact hc)]
 ·rename_i h1 h2;exact nx0 ⟨i+1,z0D,y9 (p:=b6a s e) default z0D ha (by rw[b6a,h1,V2,h2,W8];exact hc)⟩
 ·rename_i h1;exact nx0 ⟨i+1,z0D,y9 (p:=b6a s e) default z0D ha (by rw[b6a,h1,V2,hc];rfl)⟩
 ·rw[j5 z0D]at ha;rw[a6f,ha]
noncomputable def b2Q:CT:=n9 (fun(x:c8×c6×e7) h=>c7S x.1 x.2.1 x.2.2 h)
@[go_sem] def d9M:=fun x0 x1 x2 x3 x4 x5=>nm' (fP' b2Q rfl (⟨x0,⟨x1,x2⟩,x3⟩,⟨x4⟩,⟨x5⟩))
def b8V(r:c8)(s:c6)(e:e7)(hpre:l8 r=true):spZ 189 [(true,[.i .i64 r.Kind,.s r.Head.Name,o6 r.Head.Args,a0s r.Body]),(true,[j7 s.Rels]),(true,[a0b e.Binds])] [] (.one (false,[.b (a9z r s e)])):=by
 refine sy' Tryz.func189 (q' 3 [aX 4 0,aX 1 1,aX 1 2,aU false] (.seq (q' 15 [aG 3 3,aN,aK 0] (fO 0 19 [ar 18 17] 19 1 (q' 20 [am 18,aV 7] (q' 21 [aG 3 3,am 7,aI 10,aE 10,ax (w' 8 [.i .i64,.s,.sl k9,.i .i64,.s,.i .i64,.s,.s,.i .i64,.s]),aS 10 8 25] (.seq (q' 26 [aG 0 8,aC .eql 27 3] (ci 28 (q' 30 [ae 1 5,af 4 8,aE 3,ac 250 [30,32],aV 29,aZ 29 0,aZ 29 1,ax (w' 9 [.i .i64,.s]),aS 2 9 34,aV 10] (q' 37 [ae 1 5,af 7 8,aE 3,ac 250 [37,39],aV 36,aZ 36 0,aZ 36 1,ax (w' 11 [.i .i64,.s]),aS 2 11 41,aV 12] (.seq (q' 43 [aG 3 8,ae 2 9,ae 2 11,ac 251 [44,45,46],aO 47] (ci 48 (q' 6 [aU false] .ret))) (.exit 1)))))) (q' 50 [ae 1 5,af 1 8,aG 1 51,ac 134 [50,53],aV 49,aZ 49 0,aZ 49 1,ax (w' 13 [.sl l7]),aS 1 13 55,aV 14] (.seq (G' 57 [ae 1 4,af 1 8,aG 0 58,ae 1 13,ac 252 [57,60,61],aG 0 8,aC .eql 64 1,ao (.binb .neq (.t 62) (.t 65))]) (ci 66 (q' 6 [aU false] .ret))))))) (g' 67 [aA 18]))) (q' 6 [aU true] .ret))) [.t 6] [(134,[],a9s),(252,[],b3m),(250,[],a4W),(251,[],a7U)] ?_;intro hb hE;simp only[go_sem];repeat' first|apply cj'|intro hc|exact om'|fail
 refine lq' false [3,4,5,17] [6,8,10] [] (fun i:{i:Nat // i<=r.Body.length/\(r.Body.take i).all (c2G s e)=true}=>[(18,slV (.i .i64 i.1))]) nl' nl' (fun i=>r.Body.length-i.1) (⟨0,z0E⟩) ?_;intro S0 hS0 i;obtain⟨i,hi,ha⟩:=i;have hT:=fun(h1:i<r.Body.length) (h2:((r.Body.getD i default).Kind==3)=false)=>c6a hpre h1 h2
 simp only[go_sem,hS0];repeat' first|apply cj'|intro hc|exact om'|fail
 ·rename_i h1;rw[hX_no (i:=i) z0D (by rw[c2G,h1,W8];exact hc)]
 ·rename_i h1;exact nx0 ⟨i+1,z0D,y9 (p:=c2G s e) default z0D ha (by rw[c2G,h1,W8];exact hc)⟩
 ·exact(hT z0D hc).2
 ·rename_i h1;rw[hX_no (i:=i) z0D (by rw[c2G,h1,V2];exact hc)]
 ·rename_i h1;exact nx0 ⟨i+1,z0D,y9 (p:=c2G s e) default z0D ha (by rw[c2G,h1,V2];exact hc)⟩
 ·rw[j5 z0D]at ha;rw[a9z,ha]
noncomputable def a8f:CT:=n9 (fun(x:c8×c6×e7) h=>b8V x.1 x.2.1 x.2.2 h)
@[go_sem] def d3I:=fun x0 x1 x2 x3 x4 x5=>nm' (fP' a8f rfl (⟨x0,⟨x1,x2⟩,x3⟩,⟨x4⟩,⟨x5⟩))
end Go.Aw
