/- Draws: programs. No condition. -/
import Derived.Test.YtokefohpgeajaaaGreatwfU0
import Derived.Test.YtokefohpgeajaaaGreatwfShelf
import Derived.Test.YtokefohpgeajaaaGreatrMx1wf
import Derived.Test.YtokefohpgeajaaaGreatrBx7wf
namespace Go.Aw
open Go.Proofs
attribute [local irreducible] aft blk lpK retK AW A0p
set_option linter.all false
set_option maxRecDepth 100000
attribute [local irreducible] RM
set_option maxHeartbeats 4000000
def b2X:Nat->c7->List UInt8->List UInt8×c7
 | 0,c,s=>(s,c)
 | n+1,c,s=>b2X n (a0j c s).2 (bif (z8 (a0j c s).1).2.1==0 then(a0j c s).1 else s)
def prgK(c:c7):List UInt8×c7:=b2X (i7 (i6 c 8) 3).toNat (i6 (i6 c 8) 3) (a9g.getD (i7 c 8).toNat [])
def a8v(c:c7):d9:=(z8 (prgK c).1).1
def b2W(c:c7):c7:=(prgK c).2
def c5H:∀(n:Nat) {c:c7} (s:List UInt8),k7 c->k7 (b2X n c s).2
 | 0,c,s,h=>h
 | n+1,c,s,h=>c5H n _ (b5Y h s).1
def c5G{c:c7}(h:k7 c):k7 (b2W c):=c5H _ _ (i8 (i8 h 8) 3)
def prgT_1{n:Nat}{c:c7}{s:List UInt8}(hn:0<n)(h:(z8 (a0j c s).1).2.1==0):b2X n c s=b2X (n-1) (a0j c s).2 (a0j c s).1:=by
 obtain⟨k,rfl⟩:∃k,n=k+1:=⟨n-1,by omega⟩
 rw[b2X,h];rfl
def prgT_0{n:Nat}{c:c7}{s:List UInt8}(hn:0<n)(h:((z8 (a0j c s).1).2.1==0)=false):b2X n c s=b2X (n-1) (a0j c s).2 s:=by
 obtain⟨k,rfl⟩:∃k,n=k+1:=⟨n-1,by omega⟩
 rw[b2X,h];rfl
def a9y(c:c7)(hpre:k7 c):spZ 335 [(false,[.mp [.sl false [.i .u8 0] (c.b.map cU8),.i .i64 c.i,.i .i64 c.h]])] [(0,(false,[.mp [.sl false [.i .u8 0] (((b2W c).b).map cU8),.i .i64 ((b2W c).i),.i .i64 ((b2W c).h)]]))] (.one (true,[c9V ((a8v c).Decls),c9S ((a8v c).Rules)])):=by
 refine sx' true false (some 0) Tryz.func335 (q' 2 [aw [.sl a1y,.sl a1K]] (q' 12 [am 0,ao (.call 33 [.t 12,.k (.v false [.c (.i .i64 8)])]),ac 89 [13],aV 3] (.seq (q' 15 [am 0,ao (.call 33 [.t 15,.k (.v false [.c (.i .i64 3)])]),aV 4] (fo 0 17 [am 4,aC .gtr 17 0] 18 1 (q' 21 [aM [0,3],ac 90 [21,22],aV 5] (q' 25 [am 5,ac 35 [25],aV 24,aZ 24 0,aZ 24 1,aZ 24 2,ax (w' 6 [.sl a1y,.sl a1K]),aS 2 6 27,av 7 28,aV 8] (q' 30 [am 7,aC .eql 30 0] (ci 31 (g' 32 [am 5,aV 3]))))) (g' 19 [am 4,aC .sub 19 1,aV 4]))) (q' 34 [am 3,ac 35 [34],aV 33,aZ 33 0,aZ 33 1,aZ 33 2,ax (w' 9 [.sl a1y,.sl a1K]),aS 2 9 36,av 10 37,aV 11] (q' 39 [ae 2 9,aS 2 2 39] .ret))))) [.c 2 true 2] [(33,[0],l5),(89,[],a2c),(90,[0],a3u),(35,[],a9c)] ?_;intro hb hE;have h1:=i8 hpre 8;have h2:=i8 h1 3;have hb8:=j9 c (n:=8) (by omega);have hb3:=j9 (i6 c 8) (n:=3) (by omega);have hl0:=c0O (i7 c 8).toNat
 simp only[go_sem];repeat' first|apply cj'|intro hc|exact om'|fail
 ·exact hpre
 ·exact h1
 refine lq' true [0,2] [4] [] (fun i:{q:Nat×c7×List UInt8 // (q.1<=2/\k7 q.2.1)/\((q.1=2->q.2.2.length<=1000)/\(q.1=1->q.2.2.length<=2020)/\q.2.2.length<=4060)/\b2X q.1 q.2.1 q.2.2=prgK c}=>[(3,slV (.s i.1.2.2)),(4,slV (.i .i64 i.1.1))]) (fun i=>[(1,[.c (.sl false [.i .u8 0] (i.1.2.1.b.map cU8)),.c (.i .i64 i.1.2.1.i),.c (.i .i64 i.1.2.1.h)])]) nl' (fun i=>i.1.1) (⟨((i7 (i6 c 8) 3).toNat,i6 (i6 c 8) 3,a9g.getD (i7 c 8).toNat []),⟨by show(i7 (i6 c 8) 3).toNat<=2;omega,h2⟩,⟨fun _=>hl0,fun _=>q2J hl0 (by omega),q2J hl0 (by omega)⟩,rfl⟩) ?_;intro S0 hS0 i;obtain⟨⟨k,d,s⟩,⟨hk,hd⟩,⟨hl2,hl1,hl4⟩,he⟩:=i;simp only at hk hd hl2 hl1 hl4 he;have h5:=b5Y hd s;have hk2:0<k->k=1\/k=2:=by omega
 have hw:0<k->IntKind.i64.wrap ((k:Int)-1)=((k-1:Nat):Int):=fun h=>by rw[IntWalk.i64_in _ ⟨by omega,by omega⟩];omega
 simp only[go_sem,hS0];repeat' first|apply cj'|intro hc|exact om'|fail
 ·exact⟨hd,by omega⟩
 ·have hw:=hw (by omega);have he2:b2X (k-1) (a0j d s).2 (a0j d s).1=prgK c:=by rw[<-he,<-prgT_1 (by omega) (by assumption)]
  have hk2:=hk2 (by omega)
  (refine lpK_n2 (⟨(k-1,(a0j d s).2,(a0j d s).1),⟨by show k-1<=2;omega,h5.1⟩,⟨fun h=>by have h:k-1=2:=h;omega,fun h=>by have h:k-1=1:=h;have:=hl2 (by omega);show(a0j d s).1.length<=2020;omega,by show(a0j d s).1.length<=4060;rcases hk2 with h|h;have:=hl1 h;omega;have:=hl2 h;omega⟩,he2⟩) _ rfl ?_;simp only[go_sem,hS0]<;>repeat' first|apply V1|exact on'|fail)
 ·have hw:=hw (by omega);have he2:b2X (k-1) (a0j d s).2 s=prgK c:=by rw[<-he,<-prgT_0 (by omega) (by assumption)]
  have hk2:=hk2 (by omega)
  (refine lpK_n2 (⟨(k-1,(a0j d s).2,s),⟨by show k-1<=2;omega,h5.1⟩,⟨fun h=>by have h:k-1=2:=h;omega,fun h=>by have h:k-1=1:=h;have:=hl2 (by omega);show s.length<=2020;omega,by show s.length<=4060;omega⟩,he2⟩) _ rfl ?_;simp only[go_sem,hS0]<;>repeat' first|apply V1|exact on'|fail)
 ·have he3:prgK c=(s,d):=by rw[<-he,show k=0 by omega];rfl
  rw[a8v,b2W,he3];exact⟨⟨rfl,rfl⟩,rfl⟩
noncomputable def a3T:CT:=p6 (fun(x:c7) h=>a9y x h)
@[go_sem] def c0J:=fun x0 x1 x2=>nm' (fP' a3T rfl ⟨x0,x1,x2⟩)
end Go.Aw
namespace Go.Aw
set_option maxHeartbeats 4000000
open Go.Proofs
attribute [local irreducible] aft blk lpK retK AW A0p
set_option linter.all false
set_option maxRecDepth 100000
def c1Z(l:List (List UInt8)):a9L l=a1s Op.bytesLess l:=by
 unfold a9L a1s
 congr 1
 funext x y
 rw[c1W,q3R];simp
def c7H(l:List (List UInt8))(hpre:l.length<4611686018427387904):spZ 230 [(false,[.sl true [.s []] (l.map a0h)])] [(0,(false,[.sl true [.s []] ((a1s Op.bytesLess l).map a0h)]))] (.tup []):=by
 rw[<-c1Z];exact c7V Tryz.l190 (by kernel_rfl) l hpre
noncomputable def b0o:CT:=p6 (fun(x:(List (List UInt8))) h=>c7H x h)
@[go_sem] def d1n:=fun l=>nm' (fP' b0o rfl l)
def c9W(l:List (List UInt8)):spZ 231 [(false,[.sl true [.s []] (l.map a0h)])] [] (.one (false,[.sl true [.s []] ((Lib.compact l).map a0h)])):=by
 exact b8X Tryz.l194 (by kernel_rfl) l
noncomputable def b4g:CT:=o9 (fun(x:(List (List UInt8)))=>c9W x)
@[go_sem] def c_comStr_eq:=fun l=>nm' (fQ' b4g rfl l)
abbrev sLt:List UInt8->List UInt8->Bool:=Op.bytesLess
def a0J{α:Type}(lt:α->α->Bool)(s:α)(t:List α):List α:=bif t.any (lt s)then t.takeWhile (fun x=>!lt s x)++s::t.dropWhile (fun x=>!lt s x)else t
def d0M{α:Type}{q:α->Bool}{t:List α}(h:∀x∈t,q x=true):t.takeWhile q=t/\t.dropWhile q=[]:=by
 induction t with
 | nil=>exact⟨rfl,rfl⟩
 | cons a t ih=>
   have ha:=h a (by simp);have:=ih fun x hx=>h x (by simp[hx])
   simp[q2C,q2V,ha,this.1,this.2]
def tw_app{α:Type}{q:α->Bool}{t u:List α}(h:∃x∈t,q x=false):(t++u).takeWhile q=t.takeWhile q/\(t++u).dropWhile q=t.dropWhile q++u:=by
 induction t with
 | nil=>obtain⟨x,hx,_⟩:=h;simp at hx
 | cons a t ih=>
   cases ha:q a with
   | false=>simp[q2C,q2V,ha]
   | true=>
     obtain⟨x,hx,hq⟩:=h;have:=ih ⟨x,by
      rcases q0C.1 hx with rfl|hx
      ·rw[ha]at hq;simp at hq
      ·exact hx,hq⟩
     simp[q2C,q2V,ha,this.1,this.2]
def a3d{α:Type}{lt:α->α->Bool}{s:α}{t:List α}(h:t.any (lt s)=false):∀x∈t,(fun x=>!lt s x) x=true:=by
 intro x hx;rw[q4R]at h;have:=h x hx;simpa using this
def c0w{α:Type}{lt:α->α->Bool}{s:α}{t:List α}(h:t.any (lt s)=true):∃x∈t,(fun x=>!lt s x) x=false:=by
 rw[q3T]at h;obtain⟨x,hx,hp⟩:=h;exact⟨x,hx,by simp[hp]⟩
def a6V{α:Type}{lt:α->α->Bool}{s x:α}{t:List α}(h:t.any (lt s)=true):a0J lt s (t++[x])=a0J lt s t++[x]:=by
 have e:=tw_app (u:=[x]) (c0w h);have h2:(t++[x]).any (lt s)=true:=by rw[q1J,h];rfl
 unfold a0J;rw[h,h2,e.1,e.2,W4,W4,q1C];rfl
def a9q{α:Type}{lt:α->α->Bool}{s x:α}{t:List α}(h:t.any (lt s)=false)(hx:lt s x=true):a0J lt s (t++[x])=a0J lt s t++[s]++[x]:=by
 have e:=d0M (a3d h);have h2:(t++[x]).any (lt s)=true:=by rw[q1J,h];simp[hx]
 unfold a0J;rw[h,h2,W4,W6];rw[List.takeWhile_append_of_pos (a3d h),List.dropWhile_append_of_pos (a3d h)];simp[q2C,q2V,hx]
def b4F{α:Type}{lt:α->α->Bool}{s x:α}{t:List α}(h:t.any (lt s)=false)(hx:lt s x=false):a0J lt s (t++[x])=a0J lt s t++[x]:=by
 have h2:(t++[x]).any (lt s)=false:=by rw[q1J,h];simp[hx]
 unfold a0J;rw[h,h2];rfl
def a6W{α:Type}[DecidableEq α]{lt:α->α->Bool}{s:α}{l:List α}(hm:¬s∈l)(h:l.any (lt s)=true):a0f lt l s=a0J lt s l:=by
 rw[a0f,if_neg hm,a0J,h];rfl
def a6X{α:Type}[DecidableEq α]{lt:α->α->Bool}{s:α}{l:List α}(hm:¬s∈l)(h:l.any (lt s)=false):a0f lt l s=a0J lt s l++[s]:=by
 have e:=d0M (a3d h);rw[a0f,if_neg hm,a0J,h,e.1,e.2];rfl
def a9r{α:Type}(lt:α->α->Bool)(s:α)(t:List α):(a0J lt s t).length<=t.length+1:=by
 unfold a0J;cases t.any (lt s)with
 | false=>simp
 | true=>
   have e:=congrArg List.length (q1V (p:=fun x=>!lt s x) (l:=t));simp only[W5]at e;simp only[W4,W5,V5];omega
def b3f{α:Type}[DecidableEq α](lt:α->α->Bool)(l:List α)(s:α):(a0f lt l s).length<=l.length+1:=by
 unfold a0f;split
 ·omega
 ·have e:=congrArg List.length (q1V (p:=fun x=>!lt s x) (l:=l));simp only[W5]at e;simp only[W5,V5];omega
def a1B{α:Type}[DecidableEq α](lt:α->α->Bool):∀(r l:List α),(t8 lt l r).length<=l.length+r.length:=by
 intro r
 induction r with
 | nil=>intro l;exact q0A _
 | cons a r ih=>
   intro l;have:=ih (a0f lt l a);have:=b3f lt l a;simp only[t8,q2S,V5]at*;omega
def b8f{α:Type}[DecidableEq α](lt:α->α->Bool)(l r:List α)(x:α):t8 lt l (r++[x])=a0f lt (t8 lt l r) x:=by
 simp[t8,q3P]
def a0a(t:d4):Bool:=!(t.Var==[])
def n7(l:List d4):List (List UInt8):=(l.filter a0a).map d4.Var
def a4f(l:List d4):List (List UInt8):=t8 sLt [] (n7 l)
def d0S(l:List d4):Lib.compact (a1s sLt (n7 l))=a4f l:=
 a5o a0e (SS.puts a0e SS.nil) fun x=>by rw[a4f,w9];simp
def a1k(l:List d4):(n7 l).length<=l.length:=c9L _ _ _
def a7Z(l:List (List UInt8))(v:List UInt8):l.contains v=l.any (fun x=>x==v):=by
 rw[List.contains_eq_any_beq];congr 1;funext x;exact q3R.2 ⟨fun h=>by rw[beq_iff_eq]at h ⊢;exact h.symm,fun h=>by rw[beq_iff_eq]at h ⊢;exact h.symm⟩
def k_idxS(l:List (List UInt8))(v:List UInt8):spZ 106 [(false,[a2N l]),(false,[.s v])] [] (.one (false,[.i .i64 (a5U (fun y=>v==y) l)])):=by
 refine sy' Tryz.func106 (q' 4 [aK 0] (.seq (q' 6 [am 0,aN,aK 0] (fO 0 9 [ar 8 7] 9 1 (q' 10 [am 8,aV 5] (q' 11 [aM [1,0,5],aI 1,aL,aD .eql 11 15] (ci 16 (q' 17 [am 5,aV 4] .ret)))) (g' 18 [aA 8]))) (q' 4 [ao (.mov (.k (.v false [.c (.i .i64 (-1))])))] .ret))) [.t 4] [] ?_;intro hb hE;simp only[go_sem];repeat' first|apply cj'|intro hc|exact om'|fail
 refine lq' false [0,1,7] [] [] (fun i:{i:Nat // i<=l.length/\(l.take i).any (fun y=>v==y)=false}=>[(8,slV (.i .i64 i.1))]) nl' nl' (fun i=>l.length-i.1) (⟨0,by simp⟩) ?_;intro S0 hS0 i;obtain⟨i,hi,ha⟩:=i;simp only[go_sem,hS0];repeat' first|apply cj'|intro hc|exact om'|fail
 ·exact(a2w (p:=fun y=>v==y) (d:=[]) (by omega) ha hc).symm
 ·exact nx0 ⟨i+1,by omega,a1W (p:=fun y=>v==y) [] (by omega) ha hc⟩
 ·exact(a1O (by rwa [k6 (by omega)]at ha)).symm
noncomputable def c9r:CT:=o9 (fun(x:(List (List UInt8))×(List UInt8))=>k_idxS x.1 x.2)
@[go_sem] def c_idxS_eq:=fun l v=>nm' (fQ' c9r rfl (l,v))
def k_conS(l:List (List UInt8))(v:List UInt8):spZ 49 [(false,[a2N l]),(false,[.s v])] [] (.one (false,[.b (l.contains v)])):=by
 refine sy' Tryz.func49 (q' 4 [aU false] (q' 5 [aM [0,1],ac 106 [5,6],aC .geq 7 0,aV 4] .ret)) [.t 4] [(106,[],c9r)] ?_;intro hb hE;simp only[go_sem];repeat' first|apply cj'|intro hc|exact om'|fail
 all_goals(rw[List.contains_eq_any_beq];exact a9o _ _)
noncomputable def c9p:CT:=o9 (fun(x:(List (List UInt8))×(List UInt8))=>k_conS x.1 x.2)
@[go_sem] def c_conS_eq:=fun l v=>nm' (fQ' c9p rfl (l,v))
def b7q(l:List (List UInt8))(v:List UInt8):spZ 159 [(false,[a2N l]),(false,[.s v])] [] (.one (false,[.b (l.contains v)])):=by
 refine sy' Tryz.func159 (q' 4 [aU false] (.seq (q' 7 [am 0,aN,aK 0] (fO 0 10 [ar 9 8] 10 1 (q' 11 [ai 1 7 9,aL,aV 6] (q' 13 [aM [6,1],aD .eql 13 14] (ci 15 (q' 4 [aU true] .ret)))) (g' 16 [aA 9]))) (q' 4 [aU false] .ret))) [.t 4] [] ?_;intro hb hE;simp only[go_sem];repeat' first|apply cj'|intro hc|exact om'|fail
 refine lq' false [1,7,8] [] [] (fun i:{i:Nat // i<=l.length/\(l.take i).any (fun x=>x==v)=false}=>[(9,slV (.i .i64 i.1))]) nl' nl' (fun i=>l.length-i.1) (⟨0,by simp⟩) ?_;intro S0 hS0 i;obtain⟨i,hi,ha⟩:=i;simp only[go_sem,hS0];repeat' first|apply cj'|intro hc|exact om'|fail
 ·rw[a7Z,any_true (d:=[]) (i:=i) (by omega) hc]
 ·exact nx0 ⟨i+1,by omega,a1W [] (by omega) ha hc⟩
 ·rw[a7Z,<-ha,k6 (by omega)]
noncomputable def a4s:CT:=o9 (fun(x:(List (List UInt8))×(List UInt8))=>b7q x.1 x.2)
@[go_sem] def c7i:=fun l v=>nm' (fQ' a4s rfl (l,v))
@[go_sem] def a6g:ACode:=q' 4 [ao (.mov (.k (.v false [.nl [.s []]])))] (q' 9 [ao (.bsl 1 0 [.s] []),aV 5] (q' 6 [aU false] (.seq (q' 10 [am 0,aN,aK 0] (fO 0 13 [ar 12 11] 13 1 (q' 14
 [ai 1 10 12,aL,aV 8] (.seq (q' 16 [aM [8,1],aD .eql 16 17] (ci 18 (q' 19 [am 0,aV 4] .ret))) (.seq (q' 20 [am 6,aO 20,am 21,aH 22 true [bm 1,bm 8,bD .lss 23
 24],aP 22 25] (ci 26 (q' 27 [aM [5,1],ao (.bsl 1 1 [.s] [(0,.t 28)]),ao (.app 1 16 [.s] (.t 27) (.t 29)),aV 5] (g' 6 [aU true])))) (g' 31 [aM [5,8],ao (.bsl
 1 1 [.s] [(0,.t 32)]),ao (.app 1 16 [.s] (.t 31) (.t 33)),aV 5])))) (g' 35 [aA 12]))) (.seq (q' 36 [am 6,aO 36] (ci 37 (g' 38 [aM [5,1],ao (.bsl 1 1 [.s]
 [(0,.t 39)]),ao (.app 1 16 [.s] (.t 38) (.t 40)),aV 5]))) (q' 42 [am 5,aV 4] .ret)))))
def b7r(l:List (List UInt8))(s:List UInt8)(hpre:l.length<1099511627776):spZ 313 [(false,[a2N l]),(false,[.s s])] [] (.one (false,[a2N (a0f sLt l s)])):=by
 refine sx' false true none Tryz.func313 a6g [.t 4] [] ?_;intro hb hE;simp only[go_sem];repeat' first|apply cj'|intro hc|exact om'|fail
 refine lk' false [(false,5,0,100010)] [0,1,10,11] [] [] (fun i:{i:Nat // i<=l.length/\¬s∈l.take i}=>[(5,.v false [.ow 100010]),(6,slV (.b ((l.take i.1).any (sLt s)))),(12,slV (.i .i64 i.1))]) nl' (fun i=>[(100010,[.s []],(a0J sLt s (l.take i.1)).map a0h)]) (fun i=>l.length-i.1) (⟨0,by simp⟩) ?_;intro S0 hS0 i;obtain⟨i,hi,hm⟩:=i;simp only[go_sem,hS0];repeat' first|apply cj'|intro hc|exact om'|fail
 all_goals have hl:=a9r sLt s (l.take i)
 all_goals rw[V9]at hl
 ·have hm2:s∈l:=by
   rw[beq_iff_eq]at hc;have:=n8 (l:=l) [] (i:=i) (by omega);rw[<-hc,this];exact q0T _
  rw[a0f,if_pos hm2]
 ·omega
 ·omega
 ·have hx:=l6 (l:=l) [] (i:=i) (by omega);have hn:¬s∈l.take (i+1):=by rw[hx];simp only[W9,q0D];rintro(h|h);exact hm h;subst h;simp at*
  have h1:(l.take (i+1)).any (sLt s)=true:=by rw[hx,q1J,hc.1,q2H,show sLt s (l.getD i [])=true from hc.2];rfl
  have h2:a0J sLt s (l.take (i+1))=a0J sLt s (l.take i)++[s]++[l.getD i []]:=by rw[hx,a9q hc.1 hc.2]
  (refine lpK_n2 (⟨i+1,by omega,hn⟩) _ (by simp only[go_sem];try rfl) ?_;simp only[go_sem,hS0]<;>repeat' first|apply V1|exact on'|fail)
  all_goals first|rw[h1]|rw[h2]
 ·omega
 ·have hx:=l6 (l:=l) [] (i:=i) (by omega);have hn:¬s∈l.take (i+1):=by rw[hx];simp only[W9,q0D];rintro(h|h);exact hm h;subst h;simp at*
  have h3:(l.take (i+1)).any (sLt s)=(l.take i).any (sLt s)/\a0J sLt s (l.take (i+1))=a0J sLt s (l.take i)++[l.getD i []]:=by
   rw[hx];cases h:(l.take i).any (sLt s)with
   | true=>exact⟨by rw[q1J,h];rfl,a6V h⟩
   | false=>
     rw[h]at hc;have hc2:sLt s (l.getD i [])=false:=hc;exact⟨by rw[q1J,h,q2H,hc2];rfl,b4F h hc2⟩
  (refine lpK_n2 (⟨i+1,by omega,hn⟩) _ (by simp only[go_sem];try rfl) ?_;simp only[go_sem,hS0]<;>repeat' first|apply V1|exact on'|fail)
  all_goals first|rw[h3.1]|rw[h3.2]
 ·omega
 ·rw[k6 (by omega)]at hc hm ⊢;rw[a6X hm hc]
 ·rw[k6 (by omega)]at hc hm ⊢;rw[a6W hm hc]
noncomputable def a7W:CT:=p6 (fun(x:(List (List UInt8))×(List UInt8)) h=>b7r x.1 x.2 h)
@[go_sem] def c7j:=fun l s=>nm' (fP' a7W rfl (l,s))
def b6Y(l:List d4)(hpre:l.length<1099511627776):spZ 229 [(false,[n9 l])] [] (.one (false,[a8b (a4f l)])):=by
 refine sy' Tryz.func229 (q' 2 [ao (.mov (.k (.v false [.nl [.s []]])))] (q' 6 [ao (.bsl 1 0 [.s] []),aV 3] (.seq (q' 7 [am 0,aN,aK 0] (fO 0 10 [ar 9 8] 10 1 (q' 11 [ai 3 7 9,aE 3,ax (w' 5 [.s,.i .i64,.s]),aS 3 5 12] (q' 13 [aG 0 5,aY .neq 14 []] (ci 15 (g' 16 [am 3,aG 0 5,ao (.bsl 1 1 [.s] [(0,.t 18)]),ao (.app 1 16 [.s] (.t 16) (.t 19)),aV 3])))) (g' 21 [aA 9]))) (q' 22 [am 3,ac 230 [22]] (q' 24 [am 3,ac 231 [24],aV 2] .ret))))) [.t 2] [(230,[0],b0o),(231,[0],b4g)] ?_;intro hb hE;simp only[go_sem];repeat' first|apply cj'|intro hc|exact om'|fail
 refine lk' false [(false,3,0,100006)] [7,8] [] [] (fun i:{i:Nat // i<=l.length}=>[(3,.v false [.ow 100006]),(9,slV (.i .i64 i.1))]) nl' (fun i=>[(100006,[.s []],(n7 (l.take i.1)).map a0h)]) (fun i=>l.length-i.1) (⟨0,by simp⟩) ?_;intro S0 hS0 i;obtain⟨i,hi⟩:=i;simp only[go_sem,hS0];repeat' first|apply cj'|intro hc|exact om'|fail
 all_goals have hl:=a1k (l.take i)
 all_goals rw[V9]at hl
 ·omega
 ·(refine lpK_n2 (⟨i+1,by omega⟩) _ (by simp only[go_sem];try rfl) ?_;simp only[go_sem,hS0]<;>repeat' first|apply V1|exact on'|fail)
  all_goals rw[n7,n7,b4x (p:=a0a) d4.Var default (by omega) (by rw[a0a,hc];rfl)]
 ·(refine lpK_n2 (⟨i+1,by omega⟩) _ (by simp only[go_sem];try rfl) ?_;simp only[go_sem,hS0]<;>repeat' first|apply V1|exact on'|fail)
  all_goals rw[n7,n7,c1l (p:=a0a) d4.Var default (by omega) (by rw[a0a,hc];rfl)]
 ·omega
 ·rw[k6 (by omega),d0S]
noncomputable def a4p:CT:=p6 (fun(x:(List d4)) h=>b6Y x h)
@[go_sem] def c6P:=fun l=>nm' (fP' a4p rfl l)
@[go_sem] def a4B:ACode:=q' 4 [ao (.mov (.k (.v false [.nl [.s []]])))] (.seq (q' 7 [am 1,aN,aK 0] (fO 0 10 [ar 9 8] 10 1 (q' 11 [ai 3 7 9,aE 3,ax (w' 6 [.s,.i .i64,.s]),aS 3 6 12]
 (q' 13 [aG 0 6,aY .neq 14 []] (ci 15 (g' 16 [am 0,aG 0 6,ac 313 [16,18],aV 0])))) (g' 20 [aA 9]))) (q' 21 [am 0,aV 4] .ret))
def b2L(a:List (List UInt8))(l:List d4)(hpre:a.length+l.length<1099511627776):spZ 250 [(false,[a2N a]),(false,[n9 l])] [] (.one (false,[a2N (t8 sLt a (n7 l))])):=by
 refine sx' false true none Tryz.func250 a4B [.t 4] [(313,[],a7W)] ?_;intro hb hE;simp only[go_sem];repeat' first|apply cj'|intro hc|exact om'|fail
 refine lq' false [7,8] [] [] (fun i:{i:Nat // i<=l.length}=>[(0,.v false [.c (a2N (t8 sLt a (n7 (l.take i.1))))]),(9,slV (.i .i64 i.1))]) nl' nl' (fun i=>l.length-i.1) (⟨0,by simp⟩) ?_;intro S0 hS0 i;obtain⟨i,hi⟩:=i;simp only[go_sem,hS0];repeat' first|apply cj'|intro hc|exact om'|fail
 all_goals have hl:=a1k (l.take i)
 all_goals have hl2:=a1B sLt (n7 (l.take i)) a
 all_goals rw[V9]at hl
 ·omega
 ·(refine lpK_n2 (⟨i+1,by omega⟩) _ rfl ?_;simp only[go_sem,hS0]<;>repeat' first|apply V1|exact on'|fail)
  all_goals rw[show n7 (l.take (i+1))=n7 (l.take i)++[(l.getD i default).Var] by rw[n7,n7,b4x (p:=a0a) d4.Var default (by omega) (by rw[a0a,hc];rfl)],b8f]
 ·(refine lpK_n2 (⟨i+1,by omega⟩) _ rfl ?_;simp only[go_sem,hS0]<;>repeat' first|apply V1|exact on'|fail)
  all_goals rw[show n7 (l.take (i+1))=n7 (l.take i) by rw[n7,n7,c1l (p:=a0a) d4.Var default (by omega) (by rw[a0a,hc];rfl)]]
 ·rw[k6 (by omega)]
noncomputable def a1G:CT:=p6 (fun(x:(List (List UInt8))×(List d4)) h=>b2L x.1 x.2 h)
@[go_sem] def a3y:=fun a l=>nm' (fP' a1G rfl (a,l))
def a0y(l:d7):Bool:=l.Kind==3&&l.Op==1
inductive Bd(r:c6):List UInt8->Prop
 | base {l:d7} {t:d4}:l∈r.Body->(l.Kind==1)=true->t∈l.Atom.Args->a0a t=true->Bd r t.Var
 | leftV {l:d7}:l∈r.Body->a0y l=true->a0a l.A=true->a0a l.B=false->Bd r l.A.Var
 | leftB {l:d7}:l∈r.Body->a0y l=true->a0a l.A=true->Bd r l.B.Var->Bd r l.A.Var
 | rightV {l:d7}:l∈r.Body->a0y l=true->a0a l.B=true->a0a l.A=false->Bd r l.B.Var
 | rightB {l:d7}:l∈r.Body->a0y l=true->a0a l.B=true->Bd r l.A.Var->Bd r l.B.Var
def u3(out:List (List UInt8))(t:d4):Bool:=t.Var==[]||out.contains t.Var
def a0i(out:List (List UInt8))(l:d7):Prop:=a0y l=true->(u3 out l.A||u3 out l.B)=true->∀x∈n7 [l.A,l.B],x∈out
def a2P(r:c6)(out:List (List UInt8)):Prop:=∀l∈r.Body,(l.Kind==1)=true->∀x∈n7 l.Atom.Args,x∈out
def y5{l:List d4}{x:List UInt8}:x∈n7 l↔∃t∈l,a0a t=true/\t.Var=x:=by
 simp only[n7,q1E,q1M,and_assoc]
def Bd.mem{r:c6}{out:List (List UInt8)}(hb:a2P r out)(hc:∀l∈r.Body,a0i out l){v:List UInt8}(h:Bd r v):v∈out:=by
 induction h with
 | base hl hk ht hv=>exact hb _ hl hk _ (y5.2 ⟨_,ht,hv,rfl⟩)
 | leftV hl he hv hn=>
   refine hc _ hl he ?_ _ (y5.2 ⟨_,by simp,hv,rfl⟩);simp only[a0a,q1K]at hn;simp[u3,hn]
 | leftB hl he hv _ ih=>
   refine hc _ hl he ?_ _ (y5.2 ⟨_,by simp,hv,rfl⟩);simp[u3,ih]
 | rightV hl he hv hn=>
   refine hc _ hl he ?_ _ (y5.2 ⟨_,q2N _ (q0D.2 rfl),hv,rfl⟩);simp only[a0a,q1K]at hn;simp[u3,hn]
 | rightB hl he hv _ ih=>
   refine hc _ hl he ?_ _ (y5.2 ⟨_,q2N _ (q0D.2 rfl),hv,rfl⟩);simp[u3,ih]
def a2n(r:c6):List (List UInt8):=r.Body.flatMap fun l=>n7 l.Atom.Args++n7 [l.A,l.B]
def Bd.all{r:c6}{v:List UInt8}(h:Bd r v):v∈a2n r:=by
 have hm:∀{l:d7} {x:List UInt8},l∈r.Body->(x∈n7 l.Atom.Args\/x∈n7 [l.A,l.B])->x∈a2n r:=fun hl hx=>q2I.2 ⟨_,hl,W9.2 hx⟩
 cases h with
 | base hl hk ht hv=>exact hm hl (.inl (y5.2 ⟨_,ht,hv,rfl⟩))
 | leftV hl he hv hn=>exact hm hl (.inr (y5.2 ⟨_,by simp,hv,rfl⟩))
 | leftB hl he hv hn=>exact hm hl (.inr (y5.2 ⟨_,by simp,hv,rfl⟩))
 | rightV hl he hv hn=>exact hm hl (.inr (y5.2 ⟨_,q2N _ (q0D.2 rfl),hv,rfl⟩))
 | rightB hl he hv hn=>exact hm hl (.inr (y5.2 ⟨_,q2N _ (q0D.2 rfl),hv,rfl⟩))
open Classical in
noncomputable def a1X(r:c6):List (List UInt8):=(t8 sLt [] (a2n r)).filter fun v=>decide (Bd r v)
def b7H(r:c6):SS sLt (a1X r):=SS.filter (SS.puts a0e SS.nil) _
open Classical in
def a3J{r:c6}{v:List UInt8}:v∈a1X r↔Bd r v:=by
 rw[a1X,q1M,w9,q0B];exact⟨fun h=>h.2,fun h=>⟨.inr h.all,h⟩⟩
def c3d{r:c6}{out:List (List UInt8)}(hs:SS sLt out)(hB:∀v∈out,Bd r v)(hb:a2P r out)(hc:∀l∈r.Body,a0i out l):out=a1X r:=
 SS.uniq a0e hs (b7H r) fun x=>⟨fun h=>a3J.2 (hB x h),fun h=>(a3J.1 h).mem hb hc⟩
def c3c{r:c6}{out:List (List UInt8)}(hB:∀v∈out,Bd r v)(hb:a2P r out)(hc:∀l∈r.Body,a0i out l):Lib.compact (a1s sLt out)=a1X r:=
 a5o a0e (b7H r) fun x=>⟨fun h=>(a3J.1 h).mem hb hc,fun h=>a3J.2 (hB x h)⟩
def c1N{α:Type}[DecidableEq α]{lt:α->α->Bool}{l:List α}{s:α}(h:(a0f lt l s).length=l.length):s∈l:=by
 unfold a0f at h;split at h
 ·assumption
 ·have e:=congrArg List.length (q1V (p:=fun x=>!lt s x) (l:=l));simp only[W5,V5]at e h;omega
def d0t{α:Type}[DecidableEq α](lt:α->α->Bool)(l:List α)(s:α):l.length<=(a0f lt l s).length:=by
 unfold a0f;split
 ·omega
 ·have e:=congrArg List.length (q1V (p:=fun x=>!lt s x) (l:=l));simp only[W5,V5]at e ⊢;omega
def c5I{α:Type}[DecidableEq α](lt:α->α->Bool):∀(r l:List α),l.length<=(t8 lt l r).length:=by
 intro r
 induction r with
 | nil=>intro l;exact q0A _
 | cons a r ih=>
   intro l;have:=ih (a0f lt l a);have:=d0t lt l a;simp only[t8,q2S]at*;omega
def c7M{α:Type}[DecidableEq α]{lt:α->α->Bool}:∀{r l:List α},(t8 lt l r).length=l.length->t8 lt l r=l/\∀x∈r,x∈l:=by
 intro r
 induction r with
 | nil=>intro l _;exact⟨rfl,by simp⟩
 | cons a r ih=>
   intro l h;have h1:=c5I lt r (a0f lt l a);have h2:=d0t lt l a;simp only[t8,q2S]at h h1;have ha:a∈l:=c1N (lt:=lt) (by omega);have e:a0f lt l a=l:=by rw[a0f,if_pos ha]
   rw[e]at h;have h3:=ih (l:=l) h;simp only[t8,q2S,e];refine⟨h3.1,fun x hx=>?_⟩;rcases q0C.1 hx with rfl|hx
   ·exact ha
   ·exact h3.2 x hx
def a3m{r:c6}(h:l4 r=true):(a2n r).length<=64:=by
 have h8:r.Body.length<=8:=by
  simp only[l4,W7,q0B]at h;omega
 have ha:∀l∈r.Body,(n7 l.Atom.Args++n7 [l.A,l.B]).length<=8:=by
  intro l hl;simp only[l4,W7,q0S]at h;have hb:=h.2 l hl;have h1:=a1k l.Atom.Args;have h2:=a1k [l.A,l.B];have h6:l.Atom.Args.length<=6:=by
   rw[a1U]at hb;cases hk:(l.Kind==3)<;>rw[hk]at hb<;>simp only[W4,W6,W7,q0B,beq_iff_eq,a2Y]at hb<;>omega
  simp only[W5,V5,q0X]at*;omega
 unfold a2n
 revert ha h8
 generalize r.Body=b;intro h8 ha;have:∀b:List d7,(∀l∈b,(n7 l.Atom.Args++n7 [l.A,l.B]).length<=8)->(b.flatMap fun l=>n7 l.Atom.Args++n7 [l.A,l.B]).length<=8*b.length:=by
  intro b
  induction b with
  | nil=>intro _;simp
  | cons x b ih=>
    intro hb;have h1:=hb x (by simp);have h2:=ih fun l hl=>hb l (by simp[hl])
    simp only[q1X,W5,V5]at*;omega
 have:=this b ha;omega
def b2K(l:List (List UInt8))(s:List UInt8)(hpre:l.length<1099511627776):spZ 313 [(false,[a8b l]),(false,[.s s])] [] (.one (false,[a8b (a0f sLt l s)])):=by
 refine sy' Tryz.func313 a6g [.t 4] [] ?_;intro hb hE;simp only[go_sem];repeat' first|apply cj'|intro hc|exact om'|fail
 refine lk' false [(false,5,0,100010)] [0,1,10,11] [] [1] (fun i:{i:Nat // i<=l.length/\¬s∈l.take i}=>[(5,.v false [.ow 100010]),(6,slV (.b ((l.take i.1).any (sLt s)))),(12,slV (.i .i64 i.1))]) nl' (fun i=>[(100010,[.s []],(a0J sLt s (l.take i.1)).map a0h)]) (fun i=>l.length-i.1) (⟨0,by simp⟩) ?_;intro S0 hS0 i;obtain⟨i,hi,hm⟩:=i;simp only[go_sem,hS0];repeat' first|apply cj'|intro hc|exact om'|fail
 all_goals have hl:=a9r sLt s (l.take i)
 all_goals rw[V9]at hl
 ·have hm2:s∈l:=by
   rw[beq_iff_eq]at hc;have:=n8 (l:=l) [] (i:=i) (by omega);rw[<-hc,this];exact q0T _
  rw[a0f,if_pos hm2]
 ·omega
 ·omega
 ·have hx:=l6 (l:=l) [] (i:=i) (by omega);have hn:¬s∈l.take (i+1):=by rw[hx];simp only[W9,q0D];rintro(h|h);exact hm h;subst h;simp at*
  have h1:(l.take (i+1)).any (sLt s)=true:=by rw[hx,q1J,hc.1,q2H,show sLt s (l.getD i [])=true from hc.2];rfl
  have h2:a0J sLt s (l.take (i+1))=a0J sLt s (l.take i)++[s]++[l.getD i []]:=by rw[hx,a9q hc.1 hc.2]
  (refine lpK_n2 (⟨i+1,by omega,hn⟩) _ (by simp only[go_sem];try rfl) ?_;simp only[go_sem,hS0]<;>repeat' first|apply V1|exact on'|fail)
  all_goals first|rw[h1]|rw[h2]
 ·omega
 ·have hx:=l6 (l:=l) [] (i:=i) (by omega);have hn:¬s∈l.take (i+1):=by rw[hx];simp only[W9,q0D];rintro(h|h);exact hm h;subst h;simp at*
  have h3:(l.take (i+1)).any (sLt s)=(l.take i).any (sLt s)/\a0J sLt s (l.take (i+1))=a0J sLt s (l.take i)++[l.getD i []]:=by
   rw[hx];cases h:(l.take i).any (sLt s)with
   | true=>exact⟨by rw[q1J,h];rfl,a6V h⟩
   | false=>
     rw[h]at hc;have hc2:sLt s (l.getD i [])=false:=hc;exact⟨by rw[q1J,h,q2H,hc2];rfl,b4F h hc2⟩
  (refine lpK_n2 (⟨i+1,by omega,hn⟩) _ (by simp only[go_sem];try rfl) ?_;simp only[go_sem,hS0]<;>repeat' first|apply V1|exact on'|fail)
  all_goals first|rw[h3.1]|rw[h3.2]
 ·omega
 ·rw[k6 (by omega)]at hc hm ⊢;rw[a6X hm hc]
 ·rw[k6 (by omega)]at hc hm ⊢;rw[a6W hm hc]
noncomputable def a5I:CT:=p6 (fun(x:(List (List UInt8))×(List UInt8)) h=>b2K x.1 x.2 h)
@[go_sem] def c3w:=fun l s=>nm' (fP' a5I rfl (l,s))
def a9z(a:List (List UInt8))(l:List d4)(hpre:a.length+l.length<1099511627776):spZ 250 [(false,[a8b a]),(false,[n9 l])] [] (.one (false,[a8b (t8 sLt a (n7 l))])):=by
 refine sy' Tryz.func250 a4B [.t 4] [(313,[0],a5I)] ?_;intro hb hE;simp only[go_sem];repeat' first|apply cj'|intro hc|exact om'|fail
 refine lk' false [(false,0,0,100000)] [7,8] [] [] (fun i:{i:Nat // i<=l.length}=>[(0,.v false [.ow 100000]),(9,slV (.i .i64 i.1))]) nl' (fun i=>[(100000,[.s []],(t8 sLt a (n7 (l.take i.1))).map a0h)]) (fun i=>l.length-i.1) (⟨0,by simp⟩) ?_;intro S0 hS0 i;obtain⟨i,hi⟩:=i;simp only[go_sem,hS0];repeat' first|apply cj'|intro hc|exact om'|fail
 all_goals have hl:=a1k (l.take i)
 all_goals have hl2:=a1B sLt (n7 (l.take i)) a
 all_goals rw[V9]at hl
 ·omega
 ·(refine lpK_n2 (⟨i+1,by omega⟩) _ (by simp only[go_sem];try rfl) ?_;simp only[go_sem,hS0]<;>repeat' first|apply V1|exact on'|fail)
  all_goals rw[show n7 (l.take (i+1))=n7 (l.take i)++[(l.getD i default).Var] by rw[n7,n7,b4x (p:=a0a) d4.Var default (by omega) (by rw[a0a,hc];rfl)],b8f]
 ·(refine lpK_n2 (⟨i+1,by omega⟩) _ (by simp only[go_sem];try rfl) ?_;simp only[go_sem,hS0]<;>repeat' first|apply V1|exact on'|fail)
  all_goals rw[show n7 (l.take (i+1))=n7 (l.take i) by rw[n7,n7,c1l (p:=a0a) d4.Var default (by omega) (by rw[a0a,hc];rfl)]]
 ·rw[k6 (by omega)]
noncomputable def a2e:CT:=p6 (fun(x:(List (List UInt8))×(List d4)) h=>a9z x.1 x.2 h)
@[go_sem] def a6K:=fun a l=>nm' (fP' a2e rfl (a,l))
@[go_sem] def l16T_pair(a:List (List UInt8))(v1:List UInt8)(n1:Int)(s1 v2:List UInt8)(n2:Int)(s2:List UInt8):a2e [(false,[a8b a]),(false,[.sl false j3 [[.s v1,.i .i64 n1,.s s1],[.s v2,.i .i64 n2,.s s2]]])]=some (a.length+2<1099511627776,[],.one (false,[a8b (t8 sLt a (n7 [⟨v1,⟨n1,s1⟩⟩,⟨v2,⟨n2,s2⟩⟩]))])):=a6K a [⟨v1,⟨n1,s1⟩⟩,⟨v2,⟨n2,s2⟩⟩]
def b2M(w:List (List UInt8))(t:d4):spZ 251 [(false,[a2N w]),(true,[.s t.Var,.i .i64 t.Val.N,.s t.Val.S])] [] (.one (false,[.b (u3 w t)])):=by
 refine sy' Tryz.func251 (q' 3 [aX 3 1,aU false] (q' 5 [aG 0 3,aY .eql 6 [],am 7,aH 8 false [bm 0,bf 0 3,bL,bc 159 [9,11]],aQ 8 12,aV 4] .ret)) [.t 4] [(159,[],a4s)] ?_;intro hb hE;simp only[go_sem];repeat' first|apply cj'|intro hc|exact om'|fail
 all_goals rfl
noncomputable def a5J:CT:=o9 (fun(x:(List (List UInt8))×d4)=>b2M x.1 x.2)
@[go_sem] def c3x:=fun w x0 x1 x2=>nm' (fQ' a5J rfl (w,⟨x0,⟨x1,x2⟩⟩))
def ss_len{out l:List (List UInt8)}(hs:SS sLt out)(h:∀v∈out,v∈l):out.length<=l.length:=by
 have e:out=(t8 sLt [] l).filter (fun v=>out.contains v):=SS.uniq a0e hs (SS.filter (SS.puts a0e SS.nil) _) fun x=>⟨fun hx=>q1M.2 ⟨w9.2 (.inr (h x hx)),by simpa using hx⟩,fun hx=>by simpa using(q1M.1 hx).2⟩
 have e1:=congrArg List.length e;have e2:=q2P (fun v=>out.contains v) (t8 sLt [] l);have e3:=a1B sLt l [];simp only[q0X]at e3;omega
def c3b{r:c6}(h:l4 r=true){out:List (List UInt8)}(hs:SS sLt out)(hB:∀v∈out,Bd r v):out.length<=64:=
 q2J (ss_len hs fun v hv=>(hB v hv).all) (a3m h)
def a4Y{r:c6}(h:l4 r=true){l:d7}(hl:l∈r.Body):l.Atom.Args.length<=6:=by
 simp only[l4,W7,q0S]at h;have hb:=h.2 l hl;rw[a1U]at hb;cases hk:(l.Kind==3)<;>rw[hk]at hb<;>simp only[W4,W6,W7,q0B,beq_iff_eq,a2Y]at hb<;>omega
def c4m{r:c6}{l:d7}(hl:l∈r.Body)(hk:(l.Kind==1)=true){x:List UInt8}(hx:x∈n7 l.Atom.Args):Bd r x:=by
 obtain⟨t,ht,hv,rfl⟩:=y5.1 hx;exact Bd.base hl hk ht hv
def bd_step{r:c6}{l:d7}(hl:l∈r.Body)(he:a0y l=true){out:List (List UInt8)}(hB:∀v∈out,Bd r v)(hk:(u3 out l.A||u3 out l.B)=true){x:List UInt8}(hx:x∈n7 [l.A,l.B]):Bd r x:=by
 obtain⟨t,ht,hv,rfl⟩:=y5.1 hx;have hA:u3 out l.A=true->a0a l.A=false\/Bd r l.A.Var:=by
  intro h;simp only[u3,q2B,q1Q]at h;rcases h with h|h
  ·exact .inl (by simp[a0a,h])
  ·exact .inr (hB _ h)
 have hBB:u3 out l.B=true->a0a l.B=false\/Bd r l.B.Var:=by
  intro h;simp only[u3,q2B,q1Q]at h;rcases h with h|h
  ·exact .inl (by simp[a0a,h])
  ·exact .inr (hB _ h)
 simp only[q2B]at hk;simp only[q0C,q5K,or_false]at ht;rcases ht with rfl|rfl
 ·rcases hk with h|h
  ·rcases hA h with h|h
   ·rw[h]at hv;cases hv
   ·exact h
  ·rcases hBB h with h|h
   ·exact Bd.leftV hl he hv h
   ·exact Bd.leftB hl he hv h
 ·rcases hk with h|h
  ·rcases hA h with h|h
   ·exact Bd.rightV hl he hv h
   ·exact Bd.rightB hl he hv h
  ·rcases hBB h with h|h
   ·rw[h]at hv;cases hv
   ·exact h
def b0D(r:c6):spZ 157 [(true,[.i .i64 r.Kind,.s r.Head.Name,n9 r.Head.Args,a0r r.Body])] [] (.one (false,[a2N (bif l4 r then a1X r else[])])):=by
 refine sx' false true none Tryz.func157 (q' 1 [aX 4 0,ao (.mov (.k (.v false [.nl [.s []]])))] (q' 8 [ao (.bsl 1 0 [.s] []),aV 3] (.seq (q' 9 [ae 4 1,ac 73 [9],aO 10] (ci 11 (q' 12 [am 3,aV 2] .ret))) (.seq (q' 13 [aG 3 1,aN,aK 0] (fO 0 17 [ar 16 15] 17 1 (q' 18 [am 16,aV 4] (q' 19 [aG 3 1,am 4,aI 10,aG 0 22,aC .eql 24 1] (ci 25 (g' 26 [am 3,aG 3 1,am 4,aI 10,aF 1,aG 1 31,ac 250 [26,33],aV 3])))) (g' 35 [aA 16]))) (.seq (q' 5 [ao (.mov (.k (.v false [.c (.i .i64 (-1))])))] (lO 2 (.seq (q' 36 [aM [5,3],aN,ar 36 38] (cd 39 .skip (.exit 2))) (.block 3 (q' 40 [am 3,aN,aV 5] (q' 42 [aG 3 1,aN,aK 0] (fO 4 46 [ar 45 44] 46 5 (q' 47 [am 45,aV 6] (q' 48 [aG 3 1,am 6,aI 10,aE 10,ax (w' 7 [.i .i64,.s,.sl j3,.i .i64,.s,.i .i64,.s,.s,.i .i64,.s]),aS 10 7 52] (q' 53 [aG 0 7,aC .eql 54 3,am 55,aH 56 true [bf 3 7,bL,bC .eql 58 1],aP 56 59,am 60,aH 61 true [bm 3,bf 4 7,bE 3,bc 251 [62,64],bm 65],aH 66 false [bm 3,bf 7 7,bE 3,bc 251 [67,69]],aH 61 true [bQ 66 70],aP 61 71] (ci 72 (g' 73 [am 3,af 4 7,aE 3,af 7 7,aE 3,ao (.bsl 3 2 [.s,.i .i64,.s] [(0,.t 75),(1,.t 77)]),ac 250 [73,78],aV 3]))))) (g' 80 [aA 45])))))))) (q' 81 [am 3,aV 2] .ret)))))) [.t 2] [(73,[],a1m),(250,[0],a2e),(251,[],a5J)] ?_;intro hb hE;simp only[go_sem];repeat' first|apply cj'|intro hc|exact om'|fail
 ·rw[hc];rfl
 have hR:l4 r=true:=hc;have hb8:r.Body.length<=8:=by
  simp only[l4,W7,q0B]at hR;omega
 rw[hR];clear hc;refine lk' false [(false,3,0,100006)] [1,15] [2] [] (fun i:{p:Nat×List (List UInt8) // p.1<=r.Body.length/\SS sLt p.2/\(∀v∈p.2,Bd r v)/\∀l∈r.Body.take p.1,(l.Kind==1)=true->∀x∈n7 l.Atom.Args,x∈p.2}=>[(3,.v false [.ow 100006]),(16,slV (.i .i64 i.1.1))]) nl' (fun i=>[(100006,[.s []],i.1.2.map a0h)]) (fun i=>r.Body.length-i.1.1) (⟨(0,[]),by simp,SS.nil,by simp,by simp⟩) ?_;intro S0 hS0 i;obtain⟨⟨i,o⟩,hi,hs,hB,hI⟩:=i;simp only at hi hs hB hI;have hlen:=c3b hR hs hB;simp only[go_sem,hS0];repeat' first|apply cj'|intro hc|exact om'|fail
 ·have:=a4Y hR (l:=r.Body.getD i default) (by rw[n8 default (by omega)];exact q0T _);omega
 ·have hm:r.Body.getD i default∈r.Body:=by rw[n8 default (by omega)];exact q0T _
  have h2:∀v∈t8 sLt o (n7 (r.Body.getD i default).Atom.Args),Bd r v:=fun v hv=>(w9.1 hv).elim (hB v) (c4m hm hc)
  have h3:∀l∈r.Body.take (i+1),(l.Kind==1)=true->∀x∈n7 l.Atom.Args,x∈t8 sLt o (n7 (r.Body.getD i default).Atom.Args):=by
   intro l hl hk x hx;rw[l6 default (by omega),W9,q0D]at hl;rcases hl with hl|rfl
   ·exact w9.2 (.inl (hI l hl hk x hx))
   ·exact w9.2 (.inr hx)
  exact nk0 ⟨(i+1,t8 sLt o (n7 (r.Body.getD i default).Atom.Args)),by simp only;omega,SS.puts a0e hs,h2,h3⟩
 ·have h3:∀l∈r.Body.take (i+1),(l.Kind==1)=true->∀x∈n7 l.Atom.Args,x∈o:=by
   intro l hl hk x hx;rw[l6 default (by omega),W9,q0D]at hl;rcases hl with hl|rfl
   ·exact hI l hl hk x hx
   ·rw[hc]at hk;cases hk
  exact nk0 ⟨(i+1,o),by simp only;omega,hs,hB,h3⟩
 rw[k6 (by omega)]at hI;clear hc hi;refine lk' false [(false,3,0,100006)] [1] [2] [] (fun i:{p:Int×List (List UInt8) // -1<=p.1/\p.1<=p.2.length/\SS sLt p.2/\(∀v∈p.2,Bd r v)/\a2P r p.2/\(p.1=p.2.length->∀l∈r.Body,a0i p.2 l)}=>[(3,.v false [.ow 100006]),(5,slV (.i .i64 i.1.1))]) nl' (fun i=>[(100006,[.s []],i.1.2.map a0h)]) (fun i=>(64-i.1.1).toNat) (⟨(-1,o),by simp,by simp only;omega,hs,hB,hI,by intro h;simp only at h;omega⟩) ?_;intro S1 hS1 i;obtain⟨⟨n,o1⟩,hn0,hn,hs1,hB1,hI1,hC1⟩:=i;simp only at hn0 hn hs1 hB1 hI1 hC1;have hlen1:=c3b hR hs1 hB1;simp only[go_sem,hS0,hS1];repeat' first|apply cj'|intro hc|exact om'|fail
 ·skip
  refine lk' false [(false,3,0,100006)] [1,5,44] [2] [] (fun i:{p:Nat×List (List UInt8) // p.1<=r.Body.length/\SS sLt p.2/\(∀v∈p.2,Bd r v)/\a2P r p.2/\o1.length<=p.2.length/\(p.2.length=o1.length->∀l∈r.Body.take p.1,a0i p.2 l)}=>[(3,.v false [.ow 100006]),(45,slV (.i .i64 i.1.1))]) nl' (fun i=>[(100006,[.s []],i.1.2.map a0h)]) (fun i=>r.Body.length-i.1.1) (⟨(0,o1),by simp,hs1,hB1,hI1,by simp,by simp⟩) ?_;intro S2 hS2 i;obtain⟨⟨i,o2⟩,hi,hs2,hB2,hI2,hge,hC2⟩:=i;simp only at hi hs2 hB2 hI2 hge hC2;have hlen2:=c3b hR hs2 hB2;simp only[go_sem,hS0,hS1,hS2];repeat' first|apply cj'|intro hc|exact om'|fail
  ·have hm:r.Body.getD i default∈r.Body:=by rw[n8 default (by omega)];exact q0T _
   have he:a0y (r.Body.getD i default)=true:=by rw[a0y,hc.1.1,hc.1.2];rfl
   have hk:(u3 o2 (r.Body.getD i default).A||u3 o2 (r.Body.getD i default).B)=true:=by rw[q2B];exact hc.2
   have hg:=c5I sLt (n7 [(r.Body.getD i default).A,(r.Body.getD i default).B]) o2;have h2:∀v∈t8 sLt o2 (n7 [(r.Body.getD i default).A,(r.Body.getD i default).B]),Bd r v:=fun v hv=>(w9.1 hv).elim (hB2 v) (bd_step hm he hB2 hk)
   have h3:a2P r (t8 sLt o2 (n7 [(r.Body.getD i default).A,(r.Body.getD i default).B])):=fun l hl hk x hx=>w9.2 (.inl (hI2 l hl hk x hx))
   have h4:(t8 sLt o2 (n7 [(r.Body.getD i default).A,(r.Body.getD i default).B])).length=o1.length->∀l∈r.Body.take (i+1),a0i (t8 sLt o2 (n7 [(r.Body.getD i default).A,(r.Body.getD i default).B])) l:=by
    intro hq l hl;have hs3:=c7M (lt:=sLt) (r:=n7 [(r.Body.getD i default).A,(r.Body.getD i default).B]) (l:=o2) (by omega);rw[hs3.1];rw[l6 default (by omega),W9,q0D]at hl;rcases hl with hl|rfl
    ·exact hC2 (by omega) l hl
    ·exact fun _ _=>hs3.2
   (refine lpK_n2 (⟨(i+1,t8 sLt o2 (n7 [(r.Body.getD i default).A,(r.Body.getD i default).B])),by simp only;omega,SS.puts a0e hs2,h2,h3,by simp only;omega,h4⟩) _ (by simp only[go_sem,hS0,hS1];try rfl) ?_;simp only[go_sem,hS0,hS1,hS2]<;>repeat' first|apply V1|exact on'|fail)
  ·have h4:o2.length=o1.length->∀l∈r.Body.take (i+1),a0i o2 l:=by
    intro hq l hl;rw[l6 default (by omega),W9,q0D]at hl;rcases hl with hl|rfl
    ·exact hC2 hq l hl
    ·intro h5 h6;rw[a0y]at h5;rw[h5,h6]at hc;cases hc
   (refine lpK_n2 (⟨(i+1,o2),by simp only;omega,hs2,hB2,hI2,hge,h4⟩) _ (by simp only[go_sem,hS0,hS1];try rfl) ?_;simp only[go_sem,hS0,hS1,hS2]<;>repeat' first|apply V1|exact on'|fail)
  ·have h4:(o1.length:Int)=o2.length->∀l∈r.Body,a0i o2 l:=by
    intro hq l hl;rw[k6 (by omega)]at hC2;exact hC2 (by omega) l hl
   (refine lpK_n2 (⟨((o1.length:Int),o2),by simp only;omega,by simp only;omega,hs2,hB2,hI2,h4⟩) _ (by simp only[go_sem,hS0,hS1];try rfl) ?_;simp only[go_sem,hS0,hS1,hS2]<;>repeat' first|apply V1|exact on'|fail)
 ·rw[c3d hs1 hB1 hI1 (hC1 (by omega))]<;>rfl
noncomputable def a4H:CT:=o9 (fun(x:c6)=>b0D x)
@[go_sem] def c2k:=fun x0 x1 x2 x3=>nm' (fQ' a4H rfl ⟨x0,⟨x1,x2⟩,x3⟩)
def miss(r:c6)(out:List (List UInt8)):Nat:=((a2n r).filter fun v=>!out.contains v).length
def b3e(r:c6)(out:List (List UInt8)):miss r out<=(a2n r).length:=q2P _ _
def b0x{α:Type}{p q:α->Bool}:∀{l:List α},(∀x,q x=true->p x=true)->(∃x∈l,p x=true/\q x=false)->(l.filter q).length<(l.filter p).length
 | [],_,h=>by obtain⟨x,hx,_⟩:=h;simp at hx
 | a::l,hpq,h=>by
   have hle:(l.filter q).length<=(l.filter p).length:=by
    clear h
    induction l with
    | nil=>simp
    | cons b l ih=>
      have:=hpq b;cases hq:q b<;>cases hp:p b<;>simp_all<;>omega
   obtain⟨x,hx,h1,h2⟩:=h;rcases q0C.1 hx with rfl|hx
   ·simp only[q5L,h1,h2,if_true,q3C,if_false,V5];omega
   ·have ih:=b0x (l:=l) hpq ⟨x,hx,h1,h2⟩;have:=hpq a;cases hq:q a<;>cases hp:p a<;>simp_all<;>omega
def miss_lt{r:c6}{out:List (List UInt8)}{v:List UInt8}(hv:v∈a2n r)(hn:out.contains v=false):miss r (out++[v])<miss r out:=by
 refine b0x (fun x hx=>?_) ⟨v,hv,by rw[hn];rfl,by simp⟩;simp only[q0U,q4T,W9,q2K,not_or]at hx ⊢;exact hx.1
def b8u(l:List d4):(a4f l).length<=l.length:=by
 have h1:=a1B sLt (n7 l) [];have h2:=a1k l;simp only[q0X]at h1;unfold a4f;omega
def b7Y{l:List d4}{x:List UInt8}:x∈a4f l↔x∈n7 l:=by
 rw[a4f,w9];simp
def c7p{o:List (List UInt8)}{l:d7}(h0:u3 o l.B=true->a0a l.A=true->l.A.Var∈o)(h1:u3 o l.A=true->a0a l.B=true->l.B.Var∈o):a0i o l:=by
 intro _ hk x hx;obtain⟨t,ht,hv,rfl⟩:=y5.1 hx;have hs:∀t:d4,a0a t=true->u3 o t=true->t.Var∈o:=by
  intro t hv h;simp only[u3,q2B,q1Q]at h;rcases h with h|h
  ·simp[a0a,h]at hv
  ·exact h
 simp only[q0C,q5K,or_false]at ht;rw[q2B]at hk;rcases ht with rfl|rfl
 ·rcases hk with h|h
  ·exact hs _ hv h
  ·exact h0 h hv
 ·rcases hk with h|h
  ·exact h1 h hv
  ·exact hs _ hv h
def c0q{r:c6}(hV:(a2n r).length<=64){o1 o3:List (List UInt8)}{g3:Bool}{v:List UInt8}(hl:o3.length+miss r o3<=112)(hB:∀v∈o3,Bd r v)(hI:a2P r o3)(hC:g3=false->o3=o1)(hM:g3=true->miss r o3<miss r o1)(hv:Bd r v)(hn:o3.contains v=false):(o3++[v]).length+miss r (o3++[v])<=112/\(∀x∈o3++[v],Bd r x)/\a2P r (o3++[v])/\miss r (o3++[v])<miss r o1:=by
 have h1:=miss_lt hv.all hn;refine⟨by simp only[W5,V5,q0X];omega,fun x hx=>?_,fun l hl hk x hx=>W9.2 (.inl (hI l hl hk x hx)), ?_⟩
 ·rcases W9.1 hx with h|h
  ·exact hB x h
  ·rw[q0D.1 h];exact hv
 ·cases g3 with
  | false=>rw[hC rfl]at h1 ⊢;exact h1
  | true=>have:=hM rfl;omega
def b9q(r:c6)(hpre:l4 r=true):spZ 137 [(true,[.i .i64 r.Kind,.s r.Head.Name,n9 r.Head.Args,a0r r.Body])] [] (.one (false,[a8b (a1X r)])):=by
 refine sy' Tryz.func137 (q' 1 [aX 4 0,ao (.mov (.k (.v false [.nl [.s []]])))] (q' 12 [ao (.bsl 1 0 [.s] []),aV 3] (.seq (q' 13 [aG 3 1,aN,aK 0] (fO 0 17 [ar 16 15] 17 1 (q' 18 [ai 10 14 16,aE 10,ax (w' 5 [.i .i64,.s,.sl j3,.i .i64,.s,.i .i64,.s,.s,.i .i64,.s]),aS 10 5 19] (q' 20 [aG 0 5,aC .eql 21 1] (ci 22 (g' 23 [am 3,af 1 5,aG 1 24,ac 229 [26],ao (.app 1 16 [.s] (.t 23) (.t 27)),aV 3])))) (g' 29 [aA 16]))) (.seq (q' 6 [aU true] (lO 2 (.seq (q' 30 [am 6] (cd 30 .skip (.exit 2))) (.block 3 (q' 6 [aU false] (q' 31 [aG 3 1,aN,aK 0] (fO 4 35 [ar 34 33] 35 5 (q' 36 [ai 10 32 34,aE 10,ax (w' 8 [.i .i64,.s,.sl j3,.i .i64,.s,.i .i64,.s,.s,.i .i64,.s]),aS 10 8 37] (.seq (q' 38 [aG 0 8,aC .neq 39 3,am 40,aH 41 false [bf 3 8,bL,bC .neq 43 1],aQ 41 44] (ci 45 (.exit 5))) (q' 46 [af 4 8,aE 3,af 7 8,aE 3,ao (.bld [.s,.i .i64,.s,.s,.i .i64,.s] [(0,3,.t 47),(3,3,.t 49)]),af 7 8,aE 3,af 4 8,aE 3,ao (.bld [.s,.i .i64,.s,.s,.i .i64,.s] [(0,3,.t 52),(3,3,.t 54)]),ao (.bsl 6 2 [.s,.i .i64,.s,.s,.i .i64,.s] [(0,.t 50),(1,.t 55)]),aN,aK 0] (fO 6 59 [ar 58 57] 59 7 (q' 60 [ai 6 56 58,aE 6,ax (w' 10 [.s,.i .i64,.s,.s,.i .i64,.s]),aS 6 10 61] (q' 62 [ao (.ib 2 3 (.t 10) (k' 1)),aG 0 62,aY .eql 64 [],am 65,aH 66 false [bm 3,bo (.ib 2 3 (.t 10) (k' 1)),bF 0,bL,bc 49 [67,70]],aQ 66 71,aV 11] (q' 73 [aM [11,73],aH 74 true [bo (.ib 2 3 (.t 10) (k' 0)),bF 0,bL,bY .neq 77 []],aP 74 78,am 79,aH 80 true [bm 3,bo (.ib 2 3 (.t 10) (k' 0)),bF 0,bL,bc 49 [81,84],bO 85],aP 80 86] (ci 87 (q' 88 [am 3,ao (.ib 2 3 (.t 10) (k' 0)),aG 0 89,ao (.bsl 1 1 [.s] [(0,.t 91)]),ao (.app 1 16 [.s] (.t 88) (.t 92)),aV 3] (g' 6 [aU true])))))) (g' 94 [aA 58]))))) (g' 95 [aA 34])))))))) (q' 96 [am 3,ac 230 [96]] (q' 98 [am 3,ac 231 [98],aV 2] .ret)))))) [.t 2] [(229,[],a4p),(49,[],c9p),(230,[0],b0o),(231,[0],b4g)] ?_;intro hb hE;have hb8:r.Body.length<=8:=by
  simp only[l4,W7,q0B]at hpre;omega
 have hV:=a3m hpre;simp only[go_sem];repeat' first|apply cj'|intro hc|exact om'|fail
 refine lk' false [(false,3,0,100006)] [1,14,15] [2] [] (fun i:{p:Nat×List (List UInt8) // p.1<=r.Body.length/\p.2.length<=6*p.1/\(∀v∈p.2,Bd r v)/\∀l∈r.Body.take p.1,(l.Kind==1)=true->∀x∈n7 l.Atom.Args,x∈p.2}=>[(3,.v false [.ow 100006]),(16,slV (.i .i64 i.1.1))]) nl' (fun i=>[(100006,[.s []],i.1.2.map a0h)]) (fun i=>r.Body.length-i.1.1) (⟨(0,[]),by simp,by simp,by simp,by simp⟩) ?_;intro S0 hS0 i;obtain⟨⟨i,o⟩,hi,hlen,hB,hI⟩:=i;simp only at hi hlen hB hI;simp only[go_sem,hS0];repeat' first|apply cj'|intro hc|exact om'|fail
 ·have:=a4Y hpre (l:=r.Body.getD i default) (by rw[n8 default (by omega)];exact q0T _);omega
 ·have:=a4Y hpre (l:=r.Body.getD i default) (by rw[n8 default (by omega)];exact q0T _);have:=b8u (r.Body.getD i default).Atom.Args;omega
 ·have hm:r.Body.getD i default∈r.Body:=by rw[n8 default (by omega)];exact q0T _
  have h6:=a4Y hpre hm;have hv6:=b8u (r.Body.getD i default).Atom.Args;have h2:∀v∈o++a4f (r.Body.getD i default).Atom.Args,Bd r v:=fun v hv=>(W9.1 hv).elim (hB v) fun h=>c4m hm hc (b7Y.1 h)
  have h3:∀l∈r.Body.take (i+1),(l.Kind==1)=true->∀x∈n7 l.Atom.Args,x∈o++a4f (r.Body.getD i default).Atom.Args:=by
   intro l hl hk x hx;rw[l6 default (by omega),W9,q0D]at hl;rcases hl with hl|rfl
   ·exact W9.2 (.inl (hI l hl hk x hx))
   ·exact W9.2 (.inr (b7Y.2 hx))
  (refine lpK_n2 (⟨(i+1,o++a4f (r.Body.getD i default).Atom.Args),by simp only;omega,by simp only[W5];omega,h2,h3⟩) _ (by simp only[go_sem];try rfl) ?_;simp only[go_sem,hS0]<;>repeat' first|apply V1|exact on'|fail)
  all_goals rw[q1U]
 ·have h3:∀l∈r.Body.take (i+1),(l.Kind==1)=true->∀x∈n7 l.Atom.Args,x∈o:=by
   intro l hl hk x hx;rw[l6 default (by omega),W9,q0D]at hl;rcases hl with hl|rfl
   ·exact hI l hl hk x hx
   ·rw[hc]at hk;cases hk
  exact nk0 ⟨(i+1,o),by simp only;omega,by simp only;omega,hB,h3⟩
 rw[k6 (by omega)]at hI;clear hc;have hms:=b3e r o;refine lk' false [(false,3,0,100006)] [1] [2] [] (fun i:{p:Bool×List (List UInt8) // p.2.length+miss r p.2<=112/\(∀v∈p.2,Bd r v)/\a2P r p.2/\(p.1=false->∀l∈r.Body,a0i p.2 l)}=>[(3,.v false [.ow 100006]),(6,slV (.b i.1.1))]) nl' (fun i=>[(100006,[.s []],i.1.2.map a0h)]) (fun i=>2*miss r i.1.2+(bif i.1.1 then 1 else 0)) (⟨(true,o),by simp only;omega,hB,hI,by intro h;cases h⟩) ?_;intro S1 hS1 i;obtain⟨⟨g,o1⟩,hl1,hB1,hI1,hC1⟩:=i;simp only at hl1 hB1 hI1 hC1;simp only[go_sem,hS0,hS1];repeat' first|apply cj'|intro hc|exact om'|fail
 ·skip
  refine lk' false [(false,3,0,100006)] [1,32,33] [2] [] (fun i:{p:Nat×Bool×List (List UInt8) // p.1<=r.Body.length/\p.2.2.length+miss r p.2.2<=112/\(∀v∈p.2.2,Bd r v)/\a2P r p.2.2/\(p.2.1=false->p.2.2=o1/\∀l∈r.Body.take p.1,a0i o1 l)/\(p.2.1=true->miss r p.2.2<miss r o1)}=>[(3,.v false [.ow 100006]),(6,slV (.b i.1.2.1)),(34,slV (.i .i64 i.1.1))]) nl' (fun i=>[(100006,[.s []],i.1.2.2.map a0h)]) (fun i=>r.Body.length-i.1.1) (⟨(0,false,o1),by simp,hl1,hB1,hI1,by simp,by intro h;cases h⟩) ?_;intro S2 hS2 i;obtain⟨⟨i,g2,o2⟩,hi2,hl2,hB2,hI2,hC2,hM2⟩:=i;simp only at hi2 hl2 hB2 hI2 hC2 hM2;simp only[go_sem,hS0,hS1,hS2];repeat' first|apply cj'|intro hc|exact om'|fail
  ·have h3:g2=false->o2=o1/\∀l∈r.Body.take (i+1),a0i o1 l:=by
    intro hg;refine⟨(hC2 hg).1,fun l hl=>?_⟩;rw[l6 default (by omega),W9,q0D]at hl;rcases hl with hl|rfl
    ·exact(hC2 hg).2 l hl
    ·intro h5;simp only[a0y,W7]at h5;rcases hc with h|h
     ·simp only[bne,h5.1]at h;cases h
     ·simp only[bne,h5.2]at h;cases h
   (refine lpK_n2 (⟨(i+1,g2,o2),by simp only;omega,hl2,hB2,hI2,h3,hM2⟩) _ (by simp only[go_sem,hS0,hS1];try rfl) ?_;simp only[go_sem,hS0,hS1,hS2]<;>repeat' first|apply V1|exact on'|fail)
  ·skip
   refine lk' false [(false,3,0,100006)] [1,32,33,34,56,57] [2] [7168] (fun i:{p:Nat×Bool×List (List UInt8) // p.1<=2/\p.2.2.length+miss r p.2.2<=112/\(∀v∈p.2.2,Bd r v)/\a2P r p.2.2/\(p.2.1=false->p.2.2=o1/\(∀l∈r.Body.take i,a0i o1 l)/\(0<p.1->u3 o1 (r.Body.getD i default).B=true->a0a (r.Body.getD i default).A=true->(r.Body.getD i default).A.Var∈o1)/\(1<p.1->u3 o1 (r.Body.getD i default).A=true->a0a (r.Body.getD i default).B=true->(r.Body.getD i default).B.Var∈o1))/\(p.2.1=true->miss r p.2.2<miss r o1)}=>[(3,.v false [.ow 100006]),(6,slV (.b i.1.2.1)),(58,slV (.i .i64 i.1.1))]) nl' (fun i=>[(100006,[.s []],i.1.2.2.map a0h)]) (fun i=>2-i.1.1) (⟨(0,g2,o2),by simp,hl2,hB2,hI2,fun hg=>⟨(hC2 hg).1,(hC2 hg).2,by simp,by simp⟩,hM2⟩) ?_;intro S3 hS3 i;obtain⟨⟨k,g3,o3⟩,hk3,hl3,hB3,hI3,hC3,hM3⟩:=i;simp only at hk3 hl3 hB3 hI3 hC3 hM3;have hm:r.Body.getD i default∈r.Body:=by rw[n8 default (by omega)];exact q0T _
   have he:a0y (r.Body.getD i default)=true:=by
    simp only[bne,q1K]at hc;rw[a0y,hc.1,hc.2];rfl
   rcases(show k=0\/k=1\/k=2 by omega)with rfl|rfl|rfl
   ·simp only[go_sem,hS0,hS1,hS2,hS3];repeat' first|apply cj'|intro hc|exact om'|fail
    ·have hv:Bd r (r.Body.getD i default).A.Var:=by
      rcases hc.1.1 with h|h
      ·exact Bd.leftV hm he (by rw[a0a,hc.1.2];rfl) (by rw[a0a,h];rfl)
      ·exact Bd.leftB hm he (by rw[a0a,hc.1.2];rfl) (hB3 _ (q1Q.1 h))
     have ha:=c0q hV hl3 hB3 hI3 (fun hg=>(hC3 hg).1) hM3 hv hc.2
     (refine lpK_n2 (⟨(1,true,o3++[(r.Body.getD i default).A.Var]),by simp,ha.1,ha.2.1,ha.2.2.1,fun h=>absurd h (by simp),fun _=>ha.2.2.2⟩) _ (by simp only[go_sem,hS0,hS1,hS2];try rfl) ?_;simp only[go_sem,hS0,hS1,hS2,hS3]<;>repeat' first|apply V1|exact on'|fail)
     all_goals rw[q1U];rfl
    ·have h9:g3=false->u3 o1 (r.Body.getD i default).B=true->a0a (r.Body.getD i default).A=true->(r.Body.getD i default).A.Var∈o1:=by
      intro hg h5 h6;rw[<-(hC3 hg).1]at h5 ⊢;rw[u3]at h5;simp only[a0a]at h6;rw[h5,h6]at hc;simpa using hc
     (refine lpK_n2 (⟨(1,g3,o3),by simp,hl3,hB3,hI3,fun hg=>⟨(hC3 hg).1,(hC3 hg).2.1,fun _=>h9 hg,by simp⟩,hM3⟩) _ (by simp only[go_sem,hS0,hS1,hS2];try rfl) ?_;simp only[go_sem,hS0,hS1,hS2,hS3]<;>repeat' first|apply V1|exact on'|fail)
   ·simp only[go_sem,hS0,hS1,hS2,hS3];repeat' first|apply cj'|intro hc|exact om'|fail
    ·have hv:Bd r (r.Body.getD i default).B.Var:=by
      rcases hc.1.1 with h|h
      ·exact Bd.rightV hm he (by rw[a0a,hc.1.2];rfl) (by rw[a0a,h];rfl)
      ·exact Bd.rightB hm he (by rw[a0a,hc.1.2];rfl) (hB3 _ (q1Q.1 h))
     have ha:=c0q hV hl3 hB3 hI3 (fun hg=>(hC3 hg).1) hM3 hv hc.2
     (refine lpK_n2 (⟨(2,true,o3++[(r.Body.getD i default).B.Var]),by simp,ha.1,ha.2.1,ha.2.2.1,fun h=>absurd h (by simp),fun _=>ha.2.2.2⟩) _ (by simp only[go_sem,hS0,hS1,hS2];try rfl) ?_;simp only[go_sem,hS0,hS1,hS2,hS3]<;>repeat' first|apply V1|exact on'|fail)
     all_goals rw[q1U];rfl
    ·have h9:g3=false->u3 o1 (r.Body.getD i default).A=true->a0a (r.Body.getD i default).B=true->(r.Body.getD i default).B.Var∈o1:=by
      intro hg h5 h6;rw[<-(hC3 hg).1]at h5 ⊢;rw[u3]at h5;simp only[a0a]at h6;rw[h5,h6]at hc;simpa using hc
     (refine lpK_n2 (⟨(2,g3,o3),by simp,hl3,hB3,hI3,fun hg=>⟨(hC3 hg).1,(hC3 hg).2.1,(fun _=>(hC3 hg).2.2.1 (by simp)),fun _=>h9 hg⟩,hM3⟩) _ (by simp only[go_sem,hS0,hS1,hS2];try rfl) ?_;simp only[go_sem,hS0,hS1,hS2,hS3]<;>repeat' first|apply V1|exact on'|fail)
   ·simp only[go_sem,hS0,hS1,hS2,hS3];repeat' first|apply cj'|intro hc|exact om'|fail
    have h9:g3=false->o3=o1/\∀l∈r.Body.take (i+1),a0i o1 l:=by
     intro hg;obtain⟨h5,h6,h7,h8⟩:=hC3 hg;refine⟨h5,fun l hl=>?_⟩;rw[l6 default (by omega),W9,q0D]at hl;rcases hl with hl|rfl
     ·exact h6 l hl
     ·exact c7p (h7 (by simp)) (h8 (by simp))
    (refine lpK_n2 (⟨(i+1,g3,o3),by simp only;omega,hl3,hB3,hI3,h9,hM3⟩) _ (by simp only[go_sem,hS0,hS1,hS2];try rfl) ?_;simp only[go_sem,hS0,hS1,hS2,hS3]<;>repeat' first|apply V1|exact on'|fail)
  ·have h3:g2=false->∀l∈r.Body,a0i o2 l:=by
    intro hg l hl;have h5:=hC2 hg;rw[k6 (by omega)]at h5;rw[h5.1];exact h5.2 l hl
   cases g2 with
   | false=>
     have h7:=(hC2 rfl).1
     (refine lpK_n2 (⟨(false,o2),hl2,hB2,hI2,h3⟩) _ (by simp only[go_sem,hS0,hS1,hS2];try rfl) ?_;simp only[go_sem,hS0,hS1,hS2]<;>repeat' first|apply V1|exact on'|fail)
     all_goals(subst h7;rw[show g=true by assumption];simp only[W4];omega)
   | true=>
     have h7:=hM2 rfl
     (refine lpK_n2 (⟨(true,o2),hl2,hB2,hI2,h3⟩) _ (by simp only[go_sem,hS0,hS1,hS2];try rfl) ?_;simp only[go_sem,hS0,hS1,hS2]<;>repeat' first|apply V1|exact on'|fail)
     all_goals(rw[show g=true by assumption];simp only[W4];omega)
 ·rw[c3c hB1 hI1 (hC1 hc)]
noncomputable def a8U:CT:=p6 (fun(x:c6) h=>b9q x h)
@[go_sem] def c8j:=fun x0 x1 x2 x3=>nm' (fP' a8U rfl ⟨x0,⟨x1,x2⟩,x3⟩)
end Go.Aw
namespace Go.Aw
set_option maxHeartbeats 4000000
open Go.Proofs Go.Shelf Go.RowKit
attribute [local irreducible] aft blk lpK retK AW A0p
set_option linter.all false
set_option maxRecDepth 100000
def a3L(l:d7):List d4:=bif l.Kind==3 then[l.A,l.B]else l.Atom.Args
def b1e(r:c6):List d4:=r.Head.Args++r.Body.flatMap a3L
def a4g(r:c6):List (List UInt8):=t8 sLt [] (n7 r.Head.Args++a2n r)
def c2g(a b:List d4):n7 (a++b)=n7 a++n7 b:=by simp[n7]
def c4h{l:d7}(h:a1U l=true):n7 (a3L l)=n7 l.Atom.Args++n7 [l.A,l.B]:=by
 rw[a1U]at h;rw[a3L];cases hk:(l.Kind==3)with
 | true=>
   rw[hk]at h;simp only[W4,W7,beq_iff_eq]at h ⊢;have:l.Atom.Args=[]:=q0L.1 (by omega);rw[this];rfl
 | false=>
   rw[hk]at h;simp only[W6,W7,b8r,beq_iff_eq]at h ⊢;have h1:a0a l.A=false:=by simp[a0a,h.1.2.1]
   have h2:a0a l.B=false:=by simp[a0a,h.2.1]
   simp[n7,h1,h2]
def b8t:∀{b:List d7},(∀l∈b,a1U l=true)->n7 (b.flatMap a3L)=b.flatMap fun l=>n7 l.Atom.Args++n7 [l.A,l.B]
 | [],_=>rfl
 | l::b,h=>by
   rw[q1X,q1X,c2g,c4h (h l (by simp)),b8t fun x hx=>h x (by simp[hx])]
def a8w{r:c6}(h:l4 r=true):∀l∈r.Body,a1U l=true:=by
 simp only[l4,W7,q0S]at h;exact h.2
def c2i{r:c6}(h:l4 r=true):a4f (b1e r)=a4g r:=by
 rw[a4f,b1e,c2g,b8t (a8w h),a4g,a2n]
def b5W{l:d7}(h:a1U l=true):(a3L l).length<=6:=by
 rw[a1U]at h;rw[a3L];cases hk:(l.Kind==3)with
 | true=>simp
 | false=>
   rw[hk]at h;simp only[W6,W7,q0B,a2Y]at h ⊢;omega
def b8s:∀{b:List d7},(∀l∈b,a1U l=true)->(b.flatMap a3L).length<=6*b.length
 | [],_=>by simp
 | l::b,h=>by
   have h1:=b5W (h l (by simp));have h2:=b8s (b:=b) fun x hx=>h x (by simp[hx])
   simp only[q1X,W5,V5];omega
def a6T{r:c6}(h:l4 r=true):r.Head.Args.length<=6/\r.Body.length<=8:=by
 simp only[l4,W7,q0B,a2Y]at h;omega
noncomputable def d0i(r:c6):List (List UInt8):=(a4g r).filter fun v=>!(a1X r).contains v
noncomputable def a0P(r:c6):List (List UInt8):=bif l4 r then d0i r else[]
def c8d{r:c6}(h:l4 r=true):(a4g r).length<=128:=by
 have h1:=a1B sLt (n7 r.Head.Args++a2n r) [];have h2:=a1k r.Head.Args;have h3:=a3m h;have h4:=a6T h;simp only[W5,q0X]at h1;rw[a4g];omega
def c1s(l:List d4)(hpre:l.length<1099511627776):spZ 233 [(false,[.sl false [.s [],.i .i64 0,.s []] (l.map d4.cells)])] [] (.one (false,[.sl true [.s [],.i .i64 0,.s []] (l.map d4.cells)])):=by
 exact b0q (d:=[.s [],.i .i64 0,.s []]) Tryz.cloneTerm (by kernel_rfl) (hi:=rfl) (hz0:=rfl) (hz1:=rfl) (bytes:=40) (hz2:=rfl) (hzs:=rfl) (by decide) (fun w=>rfl) _ (by rw[q0H];omega)
noncomputable def b1k:CT:=p6 (fun(x:(List d4)) h=>c1s x h)
@[go_sem] def c9o:=fun l=>nm' (fP' b1k rfl l)
def b4Y(l:d7):spZ 234 [(true,[.i .i64 l.Kind,.s l.Atom.Name,n9 l.Atom.Args,.i .i64 l.Op,.s l.A.Var,.i .i64 l.A.Val.N,.s l.A.Val.S,.s l.B.Var,.i .i64 l.B.Val.N,.s l.B.Val.S])] [] (.one (false,[n9 (a3L l)])):=by
 refine sx' false true none Tryz.func234 (q' 1 [aX 10 0,ao (.mov (.k (.v false [.nl j3])))] (.seq (q' 3 [aG 0 1,aC .eql 4 3] (ci 5 (q' 6 [af 4 1,aE 3,af 7 1,aE 3,ao (.bsl 3 2 [.s, .i .i64,.s] [(0,.t 7),(1,.t 9)]),aV 2] .ret))) (q' 11 [af 1 1,aG 1 11,aV 2] .ret))) [.t 2] [] ?_;intro hb hE;simp only[go_sem];repeat' first|apply cj'|intro hc|exact om'|fail
 all_goals(rw[a3L,hc];rfl)
noncomputable def a6x:CT:=o9 (fun(x:d7)=>b4Y x)
@[go_sem] def c4D:=fun x0 x1 x2 x3 x4 x5 x6 x7 x8 x9=>nm' (fQ' a6x rfl ⟨x0,⟨x1,x2⟩,x3,⟨x4,⟨x5,x6⟩⟩,⟨x7,⟨x8,x9⟩⟩⟩)
def b7Q(f:d7->List (List UInt8))(c:Nat):∀{b:List d7},(∀l∈b,(f l).length<=c)->(b.flatMap f).length<=c*b.length
 | [],_=>by simp
 | l::b,h=>by
   have h1:=h l (by simp);have h2:=b7Q f c (b:=b) fun x hx=>h x (by simp[hx])
   simp only[q1X,W5,V5,Nat.mul_add];omega
def b4w{β:Type}(f:d7->List β){b:List d7}{i:Nat}(h:i<b.length):(b.take (i+1)).flatMap f=(b.take i).flatMap f++f (b.getD i default):=by
 rw[l6 default h,q4G];simp
def b6Z(r:c6)(hpre:l4 r=true):spZ 139 [(true,[.i .i64 r.Kind,.s r.Head.Name,n9 r.Head.Args,a0r r.Body])] [] (.one (false,[a8b (a4g r)])):=by
 refine sy' Tryz.func139 (q' 1 [aX 4 0,ao (.mov (.k (.v false [.nl [.s []]])))] (q' 6 [af 1 1,aG 1 6,ac 233 [8],aV 3] (.seq (q' 10 [aG 3 1,aN,aK 0] (fO 0 14 [ar 13 12] 14 1 (q' 15 [ai 10 11 13,aE 10,ax (w' 5 [.i .i64,.s,.sl j3,.i .i64,.s,.i .i64,.s,.s,.i .i64,.s]),aS 10 5 16] (g' 17 [am 3,ae 10 5,ac 234 [18],ao (.app 3 40 [.s,.i .i64,.s] (.t 17) (.t 19)),aV 3])) (g' 21 [aA 13]))) (q' 22 [am 3,ac 229 [22],aV 2] .ret)))) [.t 2] [(233,[],b1k),(234,[],a6x),(229,[],a4p)] ?_;intro hb hE;have hh:=a6T hpre;have hL:=a8w hpre;simp only[go_sem];repeat' first|apply cj'|intro hc|exact om'|fail
 refine lk' false [(false,3,0,100006)] [11,12] [] [] (fun i:{i:Nat // i<=r.Body.length}=>[(3,.v false [.ow 100006]),(13,slV (.i .i64 i.1))]) nl' (fun i=>[(100006,j3,(r.Head.Args++(r.Body.take i.1).flatMap a3L).map d4.cells)]) (fun i=>r.Body.length-i.1) (⟨0,by simp⟩) ?_;intro S0 hS0 i;obtain⟨i,hi⟩:=i;have h1:=b8s (b:=r.Body.take i) fun l hl=>hL l (q2F hl)
 rw[V9]at h1;simp only[go_sem,hS0];repeat' first|apply cj'|intro hc|exact om'|fail
 all_goals first
  | (have h2:=b5W (hL _ (A3I (d:=default) (show i<r.Body.length by omega)));(try simp only[W5]at*);omega)
  | ((refine lpK_n2 (⟨i+1,by omega⟩) _ (by simp only[go_sem];try rfl) ?_;simp only[go_sem,hS0]<;>repeat' first|apply V1|exact on'|fail);rw[b4w a3L (by omega)];simp only[q1U,q1C];done)
  | (rw[k6 (by omega),<-c2i hpre,b1e];done)
  | ((try simp only[W5]at*);omega)
  | trace_state
noncomputable def a7K:CT:=p6 (fun(x:c6) h=>b6Z x h)
@[go_sem] def c6Q:=fun x0 x1 x2 x3=>nm' (fP' a7K rfl ⟨x0,⟨x1,x2⟩,x3⟩)
@[go_sem] def l16T_nil(l:List d4):a1G [(false,[.sl false [.s []] []]),(false,[n9 l])]=some (0+l.length<1099511627776,[],.one (false,[a2N (t8 sLt [] (n7 l))])):=a3y [] l
@[go_sem] def l16T_two(a:List (List UInt8))(v1:List UInt8)(n1:Int)(s1 v2:List UInt8)(n2:Int)(s2:List UInt8):a1G [(false,[a2N a]),(false,[.sl false j3 [[.s v1,.i .i64 n1,.s s1],[.s v2,.i .i64 n2,.s s2]]])]=some (a.length+2<1099511627776,[],.one (false,[a2N (t8 sLt a (n7 [⟨v1,⟨n1,s1⟩⟩,⟨v2,⟨n2,s2⟩⟩]))])):=a3y a [⟨v1,⟨n1,s1⟩⟩,⟨v2,⟨n2,s2⟩⟩]
def c7L(l r s:List (List UInt8)):t8 sLt (t8 sLt l r) s=t8 sLt l (r++s):=by simp[t8,q3P]
def b7b(r:c6):spZ 158 [(true,[.i .i64 r.Kind,.s r.Head.Name,n9 r.Head.Args,a0r r.Body])] [] (.one (false,[a2N (bif l4 r then a4g r else[])])):=by
 refine sx' false true none Tryz.func158 (q' 1 [aX 4 0,ao (.mov (.k (.v false [.nl [.s []]])))] (q' 5 [ao (.bsl 1 0 [.s] []),aV 3] (.seq (q' 6 [ae 4 1,ac 73 [6],aO 7] (ci 8 (q' 9 [am 3,aV 2] .ret))) (q' 10 [am 3,af 1 1,aG 1 11,ac 250 [10,13],aV 3] (.seq (q' 15 [aG 3 1,aN,aK 0] (fO 0 19 [ar 18 17] 19 1 (q' 20 [am 18,aV 4] (q' 21 [am 3,aG 3 1,am 4,aI 10,aF 1,aG 1 26,ac 250 [21,28],aV 3] (.rego [(true,0,m' 30 3),(true,1,f' 31 3 1),(true,2,l' 32 31),(true,3,m' 33 4),(true,4,i' 34 10 32 33),(true,5,f' 35 4 34),(true,6,e' 36 3 35),(true,7,f' 37 3 1),(true,8,l' 38 37),(false,9,m' 39 4),(false,10,i' 40 10 38 39),(false,11,f' 41 7 40),(false, 12,e' 42 3 41),(false,13,o' 43 (.bsl 3 2 [.s,.i .i64,.s] [(0,.t 36),(1,.t 42)])),(false,14,c' 44 250 [30,43]),(false,15,m' 3 44)] [2,3]))) (g' 45 [aA 18]))) (q' 46 [am 3,aV 2] .ret)))))) [.t 2] [(73,[],a1m),(250,[],a1G)] ?_;intro hb hE;simp only[go_sem];repeat' first|apply cj'|intro hc|exact om'|fail
 ·rw[hc];rfl
 ·have:=a6T hc;omega
 have hR:l4 r=true:=hc;have hh:=a6T hR;have hA:=a3m hR;rw[hR];clear hc;refine lq' false [1,17] [2,3] [] (fun i:{i:Nat // i<=r.Body.length}=>[(3,.v false [.c (a2N (t8 sLt [] (n7 r.Head.Args++(r.Body.take i.1).flatMap fun l=>n7 l.Atom.Args++n7 [l.A,l.B])))]),(18,slV (.i .i64 i.1))]) nl' nl' (fun i=>r.Body.length-i.1) (⟨0,by simp⟩) ?_;intro S0 hS0 i;obtain⟨i,hi⟩:=i;have hp:=a1B sLt (n7 r.Head.Args++(r.Body.take i).flatMap fun l=>n7 l.Atom.Args++n7 [l.A,l.B]) [];have hv:=a1k r.Head.Args;have hf:((r.Body.take i).flatMap fun l=>n7 l.Atom.Args++n7 [l.A,l.B]).length<=64:=by
  refine q2J ?_ hA;have e:a2n r=((r.Body.take i).flatMap fun l=>n7 l.Atom.Args++n7 [l.A,l.B])++(r.Body.drop i).flatMap fun l=>n7 l.Atom.Args++n7 [l.A,l.B]:=by
   rw[<-q4G,q1P];rfl
  rw[e,W5];omega
 simp only[W5,q0X]at hp;have h2:=a1B sLt (n7 (r.Body.getD i default).Atom.Args) (t8 sLt [] (n7 r.Head.Args++(r.Body.take i).flatMap fun l=>n7 l.Atom.Args++n7 [l.A,l.B]));have h3:=a1k (r.Body.getD i default).Atom.Args;simp only[go_sem,hS0];repeat' first|apply cj'|intro hc|exact om'|fail
 all_goals first
  | (have hq:=a4Y hR (A3I (d:=default) (show i<r.Body.length by omega));omega)
  | ((refine lpK_n2 (⟨i+1,by omega⟩) _ rfl ?_;simp only[go_sem,hS0]<;>repeat' first|apply V1|exact on'|fail);rw[show((r.Body.take (i+1)).flatMap fun l=>n7 l.Atom.Args++n7 [l.A,l.B])=_ from b4w _ (by omega)];simp only[c7L,q1C];done)
  | ((refine lpK_n2 (⟨i+1,by omega⟩) _ rfl ?_;simp only[go_sem,hS0]<;>repeat' first|apply V1|exact on'|fail);trace_state)
  | (rw[k6 (by omega)];rfl)
  | trace_state
noncomputable def a7M:CT:=o9 (fun(x:c6)=>b7b x)
@[go_sem] def c6S:=fun x0 x1 x2 x3=>nm' (fQ' a7M rfl ⟨x0,⟨x1,x2⟩,x3⟩)
def b0F(r:c6):spZ 74 [(true,[.i .i64 r.Kind,.s r.Head.Name,n9 r.Head.Args,a0r r.Body])] [] (.one (false,[a2N (a0P r)])):=by
 refine sx' false true none Tryz.func74 (q' 1 [aX 4 0,ao (.mov (.k (.v false [.nl [.s []]])))] (q' 7 [ae 4 1,ac 157 [7],aV 3] (q' 9 [ao (.bsl 1 0 [.s] []),aV 4] (.seq (q' 10 [ae 4 1,ac 158 [10],aN,aK 0] (fO 0 14 [ar 13 12] 14 1 (q' 15 [ai 1 11 13,aL,aV 6] (q' 17 [aM [3,6],ac 159 [17,18],aO 19] (ci 20 (g' 21 [aM [4,6],ao (.bsl 1 1 [.s] [(0,.t 22)]),ao (.app 1 16 [.s] (.t 21) (.t 23)),aV 4])))) (g' 25 [aA 13]))) (q' 26 [am 4,aV 2] .ret))))) [.t 2] [(157,[],a4H),(158,[],a7M),(159,[],a4s)] ?_;intro hb hE;have hlv:(bif l4 r then a4g r else[]).length<=128:=by
  cases h:l4 r with
  | true=>exact c8d h
  | false=>exact q2G _
 simp only[go_sem];repeat' first|apply cj'|intro hc|exact om'|fail
 refine lk' false [(false,4,0,100008)] [3,11,12] [] [] (fun i:{i:Nat // i<=(bif l4 r then a4g r else[]).length}=>[(4,.v false [.ow 100008]),(13,slV (.i .i64 i.1))]) nl' (fun i=>[(100008,[.s []],(((bif l4 r then a4g r else[]).take i.1).filter fun v=>!(bif l4 r then a1X r else[]).contains v).map a0h)]) (fun i=>(bif l4 r then a4g r else[]).length-i.1) (⟨0,by simp⟩) ?_;intro S0 hS0 i;obtain⟨i,hi⟩:=i;have hf:=q2P (fun v=>!(bif l4 r then a1X r else[]).contains v) ((bif l4 r then a4g r else[]).take i);rw[V9]at hf;simp only[go_sem,hS0];repeat' first|apply cj'|intro hc|exact om'|fail
 all_goals first
  | omega
  | (have hc2:(fun v=>!(bif l4 r then a1X r else[]).contains v) ((bif l4 r then a4g r else[]).getD i [])=true:=by(first|exact hc|(simpa[-List.getD_eq_getElem?_getD]using hc))
     (refine lpK_n2 (⟨i+1,by omega⟩) _ (by simp only[go_sem];try rfl) ?_;simp only[go_sem,hS0]<;>repeat' first|apply V1|exact on'|fail)
     rw[f_yes (p:=fun v=>!(bif l4 r then a1X r else[]).contains v) [] (by omega) hc2];done)
  | (have hc2:(fun v=>!(bif l4 r then a1X r else[]).contains v) ((bif l4 r then a4g r else[]).getD i [])=false:=by(first|exact hc|(simpa[-List.getD_eq_getElem?_getD]using hc))
     (refine lpK_n2 (⟨i+1,by omega⟩) _ (by simp only[go_sem];try rfl) ?_;simp only[go_sem,hS0]<;>repeat' first|apply V1|exact on'|fail)
     rw[f_no (p:=fun v=>!(bif l4 r then a1X r else[]).contains v) [] (by omega) hc2];done)
  | (rw[k6 (by omega),a0P];cases h:l4 r<;>rfl)
  | trace_state
noncomputable def a4J:CT:=o9 (fun(x:c6)=>b0F x)
@[go_sem] def c2m:=fun x0 x1 x2 x3=>nm' (fQ' a4J rfl ⟨x0,⟨x1,x2⟩,x3⟩)
def b8Y(k:List (List UInt8))(x:List UInt8):Lib.containsS (k.map fun s=>(⟨s.toArray⟩:ByteArray)) ⟨x.toArray⟩=k.contains x:=by
 rw[q3R,Lib.containsS_iff,q1Q,q1E];constructor
 ·rintro⟨s,hs,e⟩;have e2:s.toArray=x.toArray:=ByteArray.mk.inj e;have:s=x:=by simpa using e2
  exact this▸hs
 ·intro h;exact⟨x,h,rfl⟩
def c4a(b o n cap:Nat)(a:Option Addr)(y:ByteArray)(W:World)(r:Bool)(hcell:W.cell? ⟨b,o,none⟩=some (Value.slice a n cap))(HC:Aside (Calls Tryz.prog 49 #[.slice a n cap,.string y] W fun e w'=>e=.returned (.bool r)/\w'=W)):Calls Tryz.prog 140 #[.string y,.pointer (some ⟨b,o,none⟩)] W fun e w'=>e=.returned (.bool r)/\∃q,w'=W.drewN q:=by
 go_enter Tryz.func140,Tryz.ntmps140
 go_wp2_with (go_at_call 49;refine HC.out.mono ?_;rintro e w' ⟨rfl,rfl⟩)
 go_ret
 exact⟨rfl,0,rfl⟩
def c1z(k:List (List UInt8))(F:Nat->Prop)(W:World)(lb:List Value)(h:C.RdVals F W [.p [a2N k]] lb [])(x:List UInt8):FnGives Tryz.prog 140 lb.toArray #[encStr x] (.bool (k.contains x)) W:=by
 unfold C.RdVals at h;obtain⟨v,vs,f1,f2,rfl,hf,h1,h2⟩:=h;unfold C.RdVals at h2;obtain⟨rfl,rfl⟩:=h2;unfold C.Rd at h1;obtain⟨rfl,b,o,vs,rfl,hFb,hca,hv⟩:=h1;unfold C.RdVals at hv;obtain⟨v,vs',f3,f4,rfl,hf2,hv1,hv2⟩:=hv;unfold C.RdVals at hv2;obtain⟨rfl,rfl⟩:=hv2;unfold C.Rd at hv1;obtain⟨a,cap,rfl,hl1,hl2,hl3,hl4⟩:=hv1;simp only[W6]at hl4;have hcell:=hca 0 (by simp);simp only[List.getElem_cons_zero,q4N]at hcell;have hcon:Calls Tryz.prog 49 #[.slice a (k.map a0h).length cap,encStr x] W fun e w'=>e=.returned (.bool (k.contains x))/\w'=W:=by
  rcases hl4.2 with h0|⟨b2,o2,vs2,rfl,hF2,hca2,hrr⟩
  ·have hk:k=[]:=by simpa using h0
   subst hk;exact Any.slices_Contains_string_empty Tryz.l110 a cap ⟨x.toArray⟩ W
  ·obtain⟨rfl,_,hok⟩:=a4X hrr;have:=Any.slices_Contains_string Tryz.l110 b2 o2 k.length cap (k.map fun s=>(⟨s.toArray⟩:ByteArray)) ⟨x.toArray⟩ W (by simp) (by rw[q0H]at hl1;simp only[maxLen]at hl2;omega) (fun j hj=>by
    have hj':j<k.length:=by simpa using hj
    have:=hca2 j (by simpa using hj');rw[this];simp[encStr,q0E,hj'])
   rw[q1S (by simp),b8Y]at this;rw[q0H];exact this
 show Calls Tryz.prog 140 #[encStr x,.pointer (some ⟨b,o,none⟩)] W _;exact c4a b o _ cap a _ W _ hcell hcon
def b4M(l:List (List UInt8))(k:List (List UInt8)):spZ 138 [(false,[.sl true [.s []] (l.map a0h)]),(false,[.f 140 [.p [.sl false [.s []] (k.map a0h)]]])] [] (.one (false,[.sl true [.s []] ((l.filter fun v=>!k.contains v).map a0h)])):=by
 refine c3I Tryz.delStr (by kernel_rfl) (fun w=>Tryz.zeroValue9 w) (enters_of Tryz.func140 (by kernel_rfl) rfl) (fun v=>k.contains v) (c1z k) ?_ l;intro F w lb fp h;unfold C.RdVals at h;obtain⟨v,vs,f1,f2,rfl,hf,h1,h2⟩:=h;unfold C.RdVals at h2;obtain⟨rfl,rfl⟩:=h2;unfold C.Rd at h1;rw[hf,h1.1];rfl
noncomputable def a6o:CT:=o9 (fun(x:(List (List UInt8))×(List (List UInt8)))=>b4M x.1 x.2)
@[go_sem] def c4q:=fun l k=>nm' (fQ' a6o rfl (l,k))
def b0C(r:c6):spZ 67 [(true,[.i .i64 r.Kind,.s r.Head.Name,n9 r.Head.Args,a0r r.Body])] [] (.one (false,[a8b (a0P r)])):=by
 refine sy' Tryz.func67 (q' 1 [aX 4 0,ao (.mov (.k (.v false [.nl [.s []]])))] (.seq (q' 4 [ae 4 1,ac 69 [4],aO 5] (ci 6 (q' 2 [ao (.mov (.k (.v false [.nl [.s []]])))] .ret))) (q' 7 [ae 4 1,ac 137 [7],ax (w' 3 [.sl [.s []]]),aS 1 3 8] (q' 9 [ae 4 1,ac 139 [9],ao (.mf 140 [.t 3]),ac 138 [10,11],aV 2] .ret)))) [.t 2] [(69,[],a2A),(137,[],a8U),(139,[],a7K),(138,[0],a6o)] ?_;intro hb hE;simp only[go_sem];repeat' first|apply cj'|intro hc|exact om'|fail
 all_goals(have h9:l4 r=_:=hc;rw[a0P,h9];first|rfl)
noncomputable def a2q:CT:=o9 (fun(x:c6)=>b0C x)
@[go_sem] def c2j:=fun x0 x1 x2 x3=>nm' (fQ' a2q rfl ⟨x0,⟨x1,x2⟩,x3⟩)
end Go.Aw
namespace Go.Aw
set_option maxHeartbeats 4000000
open Go.Proofs
attribute [local irreducible] aft blk lpK retK AW A0p
set_option linter.all false
set_option maxRecDepth 100000
set_option maxRecDepth 100000 in
def c7n(a b:ByteArray)(w:World):Calls Tryz.prog 103 #[.string a,.string b] w fun e w'=>e=.returned (.int .i64 (Lib.compareBytes a.data.toList b.data.toList))/\w'=w:=by
 go_enter Tryz.func103,Tryz.ntmps103
 go_wp2
 rw[run_callFunc_extern Tryz.func203 (by kernel_rfl) (by kernel_rfl) (by kernel_rfl) (e:=Extern.BytealgCompare.compare) (by kernel_rfl),Lib.run_compareString];simp only[Result.andThen];rw[Oper.upon_value]
 go_wp2
 go_ret
 exact⟨rfl,rfl⟩
def a4S(a:List UInt8)(b:List UInt8):spZ 103 [(false,[.s a]),(false,[.s b])] [] (.one (false,[.i .i64 (Lib.compareBytes a b)])):=by
 unfold spZ A0p;refine⟨by kernel_rfl, ?_⟩;intro F w vs fpa h _ _ hF;simp only[VsRd,VRd,C.RdVals,C.Rd]at h;obtain⟨_,_,_,_,rfl,rfl,⟨_,hc,hr⟩,_,_,_,_,rfl,rfl,⟨_,hc',hr'⟩,rfl,rfl⟩:=h;simp only[V2,q0Q]at hc hc';subst hc;subst hc';simp only[C.Rd]at hr hr';obtain⟨rfl,h1,rfl⟩:=hr;obtain⟨rfl,h2,rfl⟩:=hr';refine(c7n ⟨a.toArray⟩ ⟨b.toArray⟩ w).mono ?_;rintro e w' ⟨rfl,rfl⟩;refine⟨F,_,[],[],rfl, ?_,rfl,⟨fun _ h=>h,fun _ h=>.inl h,hF,q0V,by simp,fun _ _ _=>rfl,q0A _,rfl,Tp.of rfl rfl,rfl⟩⟩;simp only[RRd,VRd];refine⟨_,rfl, ?_⟩;unfold C.Rd;have hb:∀x y:List UInt8,-1<=Lib.compareBytes x y/\Lib.compareBytes x y<=1:=by
  intro x
  induction x with
  | nil=>intro y;cases y<;>simp[Lib.compareBytes]
  | cons a x ih=>
    intro y;cases y with
    | nil=>simp[Lib.compareBytes]
    | cons b y=>
      simp only[Lib.compareBytes];repeat' split
      all_goals first|exact ih y|decide
 have:=hb a b;refine⟨rfl, ?_,rfl⟩;rw[min_i64,max_i64];omega
noncomputable def a1N:CT:=o9 (fun(x:(List UInt8)×(List UInt8))=>a4S x.1 x.2)
@[go_sem] def b4d:=fun a b=>nm' (fQ' a1N rfl (a,b))
def a9B(a:List UInt8)(b:List UInt8):spZ 42 [(false,[.s a]),(false,[.s b])] [] (.one (false,[.i .i64 (Lib.compareBytes a b)])):=by
 refine sy' Tryz.func42 (q' 4 [aK 0] (q' 5 [aM [0,1],ac 103 [5,6],aV 4] .ret)) [.t 4] [(103,[],a1N)] ?_;intro hb hE;simp only[go_sem];repeat' first|apply cj'|intro hc|exact om'|fail
noncomputable def a3V:CT:=o9 (fun(x:(List UInt8)×(List UInt8))=>a9B x.1 x.2)
@[go_sem] def c0L:=fun a b=>nm' (fQ' a3V rfl (a,b))
def a0g(a b:d5):Int:=bif a.S==[]&&!(b.S==[])then-1 else bif !(a.S==[])&&b.S==[]then 1 else bif a.S==[]then IntKind.i64.wrap (a.N-b.N)else Lib.compareBytes a.S b.S
def w8(a b:d5):Bool:=bif a.S==[]&&b.S==[]then decide (a.N<b.N)else Op.bytesLess a.S b.S
def a3l(a b:d5):Bool:=k9 a&&k9 b&&w8 a b
def vEq(a b:d5):Bool:=a.N==b.N&&a.S==b.S
def z5(op:Int)(a b:d5):Bool:=k9 a&&k9 b&&(bif op==1 then vEq a b else bif op==2 then !vEq a b else bif op==3 then w8 a b else bif op==4 then w8 a b||vEq a b else false)
def b4T(a:d5)(b:d5):spZ 248 [(true,[.i .i64 a.N,.s a.S]),(true,[.i .i64 b.N,.s b.S])] [] (.one (false,[.i .i64 (a0g a b)])):=by
 refine sy' Tryz.func248 (q' 2 [aX 2 0,aX 2 1,aK 0] (.seq (.block 0 (q' 6 [aG 1 2,aY .eql 7 [],am 8,aH 9 true [bf 1 3,bL,bY .neq 11 []],aP 9 12,aV 5] (cd 5 (q' 4 [ao (.mov (.k (.v false [.c (.i .i64 (-1))])))] .ret) (q' 15 [aG 1 2,aY .neq 16 [],am 17,aH 18 true [bf 1 3,bL,bY .eql 20 []],aP 18 21,aV 14] (cd 14 (q' 4 [aK 1] .ret) (q' 24 [aG 1 2,aY .eql 25 [],aV 23] (ci 23 (q' 27 [aG 0 2,aG 0 3,aD .sub 28 30,aV 4] .ret)))))))) (q' 32 [aG 1 2,aG 1 3,ac 42 [33,35],aV 4] .ret))) [.t 4] [(42,[],a3V)] ?_;intro hb hE;simp only[go_sem];repeat' first|apply cj'|intro hc|exact om'|fail
 ·simp only[a0g,hc,q3B,q1L,W4]
 ·simp only[a0g,hc];rfl
 ·rename_i h1 h2;rcases q2O (b.S==[])with h|h<;>rw[hc,h]at h1 h2<;>simp only[a0g,hc,h]<;>first|rfl|contradiction
 ·rename_i h1 h2;rcases q2O (b.S==[])with h|h<;>rw[hc,h]at h1 h2<;>simp only[a0g,hc,h]<;>first|rfl|contradiction
noncomputable def a1Z:CT:=o9 (fun(x:d5×d5)=>b4T x.1 x.2)
@[go_sem] def c4x:=fun x0 x1 x2 x3=>nm' (fQ' a1Z rfl (⟨x0,x1⟩,⟨x2,x3⟩))
def b0H(a:d5)(b:d5):spZ 314 [(true,[.i .i64 a.N,.s a.S]),(true,[.i .i64 b.N,.s b.S])] [] (.one (false,[.b (a3l a b)])):=by
 refine sy' Tryz.func314 (q' 2 [aX 2 0,aX 2 1,aU false] (.seq (q' 5 [ae 2 2,ac 312 [5],aO 6,am 7,aH 8 false [be 2 3,bc 312 [9],bO 10],aQ 8 11] (ci 12 (q' 4 [aU false] .ret))) (.seq (q' 13 [aG 1 2,aY .eql 14 [],am 15,aH 16 true [bf 1 3,bL,bY .eql 18 []],aP 16 19] (ci 20 (q' 21 [aG 0 2,aG 0 3,ar 22 24,aV 4] .ret))) (q' 26 [aG 1 2,aG 1 3,ar 27 29,aV 4] .ret)))) [.t 4] [(312,[],a1d)] ?_;intro hb hE;simp only[go_sem];repeat' first|apply cj'|intro hc|exact om'|fail
 ·rcases hc with h|h<;>simp[a3l,h]
 ·simp only[a3l,w8, *,q1L,q0N,W4]
 ·simp only[a3l,w8, *,q1L,q0N,W6]
noncomputable def a4L:CT:=o9 (fun(x:d5×d5)=>b0H x.1 x.2)
@[go_sem] def c2p:=fun x0 x1 x2 x3=>nm' (fQ' a4L rfl (⟨x0,x1⟩,⟨x2,x3⟩))
def cmp_lt:∀x y:List UInt8,decide (Lib.compareBytes x y<0)=Op.bytesLess x y:=by
 intro x
 induction x with
 | nil=>intro y;cases y<;>simp[Lib.compareBytes,Op.bytesLess]
 | cons a x ih=>
   intro y;cases y with
   | nil=>simp[Lib.compareBytes,Op.bytesLess]
   | cons b y=>
     simp only[Lib.compareBytes,Op.bytesLess];by_cases h1:a<b
     ·simp[h1]
     ·by_cases h2:b<a
      ·have:(a==b)=false:=by simp;rintro rfl;exact h1 h2
       simp[h1,h2,this]
      ·have:a=b:=by
        apply UInt8.toNat_inj.1;simp only[UInt8.lt_iff_toNat_lt]at h1 h2;omega
       simp[this,ih]
def cmp_le:∀x y:List UInt8,decide (Lib.compareBytes x y<=0)=(Op.bytesLess x y||x==y):=by
 intro x
 induction x with
 | nil=>intro y;cases y<;>simp[Lib.compareBytes,Op.bytesLess]
 | cons a x ih=>
   intro y;cases y with
   | nil=>simp[Lib.compareBytes,Op.bytesLess]
   | cons b y=>
     simp only[Lib.compareBytes,Op.bytesLess];by_cases h1:a<b
     ·simp[h1]
     ·by_cases h2:b<a
      ·have:(a==b)=false:=by simp;rintro rfl;exact h1 h2
       simp[h1,h2,this]
      ·have:a=b:=by
        apply UInt8.toNat_inj.1;simp only[UInt8.lt_iff_toNat_lt]at h1 h2;omega
       simp[this,ih]
def b4c{a b:d5}(ha:k9 a=true)(hb:k9 b=true):decide (a0g a b<0)=w8 a b:=by
 simp only[a0g,w8,k9]at*;rcases(q2O (a.S==[])).symm with h1|h1<;>rcases(q2O (b.S==[])).symm with h2|h2<;>simp only[h1,h2,W4,W6,q4D,q3B,q1H,q2T,q0N]at ha hb ⊢
 ·exact cmp_lt _ _
 ·have:b.S=[]:=by simpa using h2
  rw[this];simp[Op.bytesLess]
 ·have:a.S=[]:=by simpa using h1
  rw[this];cases h:b.S with
  | nil=>simp[h]at h2
  | cons x l=>simp[Op.bytesLess]
 ·simp only[a0x,W7,q0B]at ha hb;rw[IntWalk.i64_in _ (by omega)];exact decide_eq_decide.2 (by omega)
def b4b{a b:d5}(ha:k9 a=true)(hb:k9 b=true):decide (a0g a b<=0)=(w8 a b||vEq a b):=by
 simp only[a0g,w8,k9,vEq]at*;rcases(q2O (a.S==[])).symm with h1|h1<;>rcases(q2O (b.S==[])).symm with h2|h2<;>simp only[h1,h2,W4,W6,q4D,q3B,q1H,q2T,q0N,W7,beq_iff_eq]at ha hb ⊢
 ·rw[cmp_le,ha.1,hb.1];simp
 ·have e:b.S=[]:=by simpa using h2
  rw[e]at h2 ⊢;simp[Op.bytesLess,h1]
 ·have e:a.S=[]:=by simpa using h1
  rw[e];cases h:b.S with
  | nil=>simp[h]at h2
  | cons x l=>simp[Op.bytesLess]
 ·simp only[a0x,W7,q0B]at ha hb;have e1:(a.S==b.S)=true:=by rw[show a.S=[] by simpa using h1,show b.S=[] by simpa using h2];rfl
  have:(a.N==b.N)=decide (a.N=b.N):=rfl;rw[IntWalk.i64_in _ (by omega),e1,this];simp only[q1H,<-Bool.decide_or];exact decide_eq_decide.2 (by omega)
def b5B:∀x y:List UInt8,Op.bytesLess y x=!(Op.bytesLess x y||x==y):=by
 intro x
 induction x with
 | nil=>intro y;cases y<;>simp[Op.bytesLess]
 | cons a x ih=>
   intro y;cases y with
   | nil=>simp[Op.bytesLess]
   | cons b y=>
     simp only[Op.bytesLess];by_cases h1:a<b
     ·have:¬b<a:=fun h=>by simp only[UInt8.lt_iff_toNat_lt]at*;omega
      have h3:(b==a)=false:=by simp;rintro rfl;exact this h1
      simp[h1,this,h3]
     ·by_cases h2:b<a
      ·have:(a==b)=false:=by simp;rintro rfl;exact h1 h2
       simp[h1,h2,this]
      ·have:a=b:=by
        apply UInt8.toNat_inj.1;simp only[UInt8.lt_iff_toNat_lt]at h1 h2;omega
       subst this;simp[h1,ih]
def b1f{a b:d5}(ha:k9 a=true)(hb:k9 b=true):w8 b a=!(w8 a b||vEq a b):=by
 simp only[w8,k9,vEq]at*;rcases(q2O (a.S==[])).symm with h1|h1<;>rcases(q2O (b.S==[])).symm with h2|h2<;>simp only[h1,h2,W4,W6,q4D,q3B,q1H,q2T,q0N,W7,beq_iff_eq]at ha hb ⊢
 ·rw[b5B,ha.1,hb.1];simp
 ·rw[b5B];have:(a.S==b.S)=false:=by
   cases h:a.S==b.S with
   | false=>rfl
   | true=>rw[eq_of_beq h,h2]at h1;cases h1
  rw[this];simp
 ·rw[b5B];have:(a.S==b.S)=false:=by
   cases h:a.S==b.S with
   | false=>rfl
   | true=>rw[<-eq_of_beq h,h1]at h2;cases h2
  rw[this];simp
 ·have e1:(a.S==b.S)=true:=by rw[show a.S=[] by simpa using h1,show b.S=[] by simpa using h2];rfl
  have:(a.N==b.N)=decide (a.N=b.N):=rfl;rw[e1,this,q1H,<-Bool.decide_or,<-decide_not];exact decide_eq_decide.2 (by omega)
def a2V:Nat->(Nat->Int)->Int
 | 0,_=>0
 | n+1,f=>if a2V n f=0 then f n else a2V n f
def b0r{n:Nat}{f:Nat->Int}(h:∀i,i<n->f i=0):a2V n f=0:=by
 induction n with
 | zero=>rfl
 | succ n ih=>rw[a2V,if_pos (ih fun i hi=>h i (by omega)),h n (by omega)]
def b0s{i:Nat}{f:Nat->Int}(h:∀j,j<i->f j=0)(hp:f i≠0):∀{n:Nat},i<n->a2V n f=f i
 | 0,hn=>by omega
 | n+1,hn=>by
   by_cases e:i=n
   ·subst e;rw[a2V,if_pos (b0r h)]
   ·have:=b0s h hp (n:=n) (by omega);rw[a2V,this,if_neg hp]
def sgn(x:Int):Int:=max (-1) (min x 1)
def c0P{f g:Nat->Int}:∀{n:Nat},(∀i,i<n->sgn (f i)=g i)->sgn (a2V n f)=a2V n g
 | 0,_=>by simp only[a2V];decide
 | n+1,h=>by
   have ih:=c0P (n:=n) fun i hi=>h i (by omega)
   have hn:=h n (by omega);rw[a2V,a2V,<-ih,<-hn];unfold sgn;by_cases e:a2V n f=0
   ·rw[if_pos e,e,if_pos (by decide)]
   ·rw[if_neg e,if_neg (by omega)]
def a7y(a b:d5):Int:=bif w8 a b then-1 else bif w8 b a then 1 else 0
def b1z{a b:d5}(ha:k9 a=true)(hb:k9 b=true):sgn (a0g a b)=a7y a b:=by
 have h1:=b4c ha hb;have h2:=b4b ha hb;have h3:=b1f ha hb;rw[<-h2]at h3;rw[a7y,h3,<-h1];unfold sgn;by_cases e:a0g a b<0
 ·rw[V0 e,W4];omega
 ·rw[V3 e,W6];by_cases e2:a0g a b<=0
  ·rw[V0 e2];simp only[q4D,W6];omega
  ·rw[V3 e2];simp only[q3B,W4];omega
def a3C(a b:List c4):Int:=a2V a.length fun i=>a7y (a.getD i default).Val (b.getD i default).Val
def b8W(a b:List c4)(i:Nat):Int:=a0g (a.getD i default).Val (b.getD i default).Val
def b4S(x:c4)(y:c4):spZ 247 [(true,[.s x.Var,.i .i64 x.Val.N,.s x.Val.S]),(true,[.s y.Var,.i .i64 y.Val.N,.s y.Val.S])] [] (.one (false,[.i .i64 (a0g x.Val y.Val)])):=by
 refine sy' Tryz.func247 (q' 2 [aX 3 0,aX 3 1,aK 0] (q' 5 [af 1 2,aE 2,af 1 3,aE 2,ac 248 [6,8],aV 4] .ret)) [.t 4] [(248,[],a1Z)] ?_;intro hb hE;simp only[go_sem];repeat' first|apply cj'|intro hc|exact om'|fail
noncomputable def a6t:CT:=o9 (fun(x:c4×c4)=>b4S x.1 x.2)
@[go_sem] def c4w:=fun x0 x1 x2 x3 x4 x5=>nm' (fQ' a6t rfl (⟨x0,⟨x1,x2⟩⟩,⟨x3,⟨x4,x5⟩⟩))
def c3U(a:List c4)(b:List c4)(hpre:a.length=b.length):spZ 246 [(false,[u9 a]),(false,[u9 b]),(false,[.f 247 []])] [] (.one (false,[.i .i64 (a2V a.length (b8W a b))])):=by
 refine sy' Tryz.func246 (q' 6 [aK 0] (.seq (q' 11 [am 0,aN,aK 0] (fO 0 14 [ar 13 12] 14 1 (q' 15 [am 13,ai 3 11 13,aE 3,ax (w' 8 [.s,.i .i64,.s]),av 7 15,aS 3 8 17] (.seq (q' 18 [aM [7,1],aN,aD .geq 18 20] (ci 21 (q' 6 [aK 1] .ret))) (q' 22 [aM [1,7],aI 3,aE 3,ax (w' 9 [.s,.i .i64,.s]),aS 3 9 25] (q' 26 [am 2,ae 3 8,ae 3 9,ao (.callv (.t 26) [.t 27,.t 28]),aV 10] (q' 30 [am 10,aC .neq 30 0] (ci 31 (q' 32 [am 10,aV 6] .ret))))))) (g' 33 [aA 13]))) (.seq (q' 34 [am 0,aN,am 1,aN,ar 35 37] (ci 38 (q' 6 [ao (.mov (.k (.v false [.c (.i .i64 (-1))])))] .ret))) (q' 6 [aK 0] .ret)))) [.t 6] [(247,[],a6t)] ?_;intro hb hE;simp only[go_sem];repeat' first|apply cj'|intro hc|exact om'|fail
 refine lq' false [0,1,2,11,12] [] [] (fun i:{i:Nat // i<=a.length/\∀j,j<i->b8W a b j=0}=>[(13,slV (.i .i64 i.1))]) nl' nl' (fun i=>a.length-i.1) (⟨0,by simp⟩) ?_;intro S0 hS0 i;obtain⟨i,hi,ha⟩:=i;simp only[go_sem,hS0];repeat' first|apply cj'|intro hc|exact om'|fail
 ·rw[b0s ha (by simpa[b8W]using hc) (by omega)];rfl
 ·exact nx0 ⟨i+1,by omega,fun j hj=>(q2U.1 hj).elim (ha j) (fun q=>by subst q;simpa[b8W]using hc)⟩
 ·rw[b0r fun j hj=>ha j (by omega)]
noncomputable def b4f:CT:=p6 (fun(x:(List c4)×(List c4)) h=>c3U x.1 x.2 h)
@[go_sem] def d0Z:=fun a b=>nm' (fP' b4f rfl (a,b))
def a9t(a:c9)(b:c9)(hpre:a.Binds.length=b.Binds.length):spZ 154 [(true,[u9 a.Binds]),(true,[u9 b.Binds])] [] (.one (false,[.i .i64 (a2V a.Binds.length (b8W a.Binds b.Binds))])):=by
 refine sy' Tryz.func154 (q' 2 [aX 1 0,aX 1 1,aK 0] (q' 5 [aG 0 2,aG 0 3,ao (.call 246 [.t 6,.t 8,.k (.v false [.c (.f 247 [])])]),aV 4] .ret)) [.t 4] [(246,[],b4f)] ?_;intro hb hE;simp only[go_sem];repeat' first|apply cj'|intro hc|exact om'|fail
noncomputable def b8T:CT:=p6 (fun(x:c9×c9) h=>a9t x.1 x.2 h)
@[go_sem] def c8k:=fun x0 x1=>nm' (fP' b8T rfl (⟨x0⟩,⟨x1⟩))
def b1p{a b:List c4}{i:Nat}(h:∀j,j<i->a7y (a.getD j default).Val (b.getD j default).Val=0)(hp:a7y (a.getD i default).Val (b.getD i default).Val≠0)(hi:i<a.length):a3C a b=a7y (a.getD i default).Val (b.getD i default).Val:=b0s (f:=fun i=>a7y (a.getD i default).Val (b.getD i default).Val) h hp hi
def c1d{a b:List c4}(h:∀j,j<a.length->a7y (a.getD j default).Val (b.getD j default).Val=0):a3C a b=0:=b0r h
set_option maxRecDepth 100000
def pkB:List UInt8:=[112,97,99,107,101,116]
def fwB:List UInt8:=[102,111,114,119,97,114,100]
def c4l(p:d9)(name:List UInt8):Int:=bif name==pkB then 4 else bif name==fwB then 1 else bif hasDecl p name then(c9z p name).Arity else-1
def b9F(p:d9)(name:List UInt8):Int:=(c9z p name).Kind
def movB(p:d9)(name:List UInt8):Bool:=name==pkB||b9F p name==2
def a1D(r:c6):List f7:=r.Head::(r.Body.filter fun l=>!(l.Kind==3)).map d7.Atom
def movL(p:d9)(l:d7):Bool:=!(l.Kind==3)&&movB p l.Atom.Name
def fstOk(p:d9)(r:c6):Bool:=decide ((0:Int)<r.Body.length)&&(r.Body.getD 0 default).Kind==1&&(movB p (r.Body.getD 0 default).Atom.Name&&(!(r.Kind==1)||(r.Body.getD 0 default).Atom.Name==pkB))
def inpB(p:d9)(r:c6):Bool:=bif !(r.Kind==1)||r.Head.Name==fwB then fstOk p r&&!(r.Body.drop 1).any (movL p)else !r.Body.any (movL p)
def arBad(p:d9)(a:f7):Bool:=decide (c4l p a.Name<0)
def arOff(p:d9)(a:f7):Bool:=!(c4l p a.Name==(a.Args.length:Int))
def isFw(a:f7):Bool:=a.Name==fwB
def kindBad(p:d9)(r:c6):Bool:=bif r.Kind==1 then !(b9F p r.Head.Name==3)&&!(r.Head.Name==fwB)else !(b9F p r.Head.Name==1)
def c1U(p:d9)(r:c6):Int:=bif (a1D r).any (arBad p)then 3 else bif (a1D r).any (arOff p)then 4 else bif kindBad p r then 5 else bif ((a1D r).drop 1).any isFw then 6 else bif !inpB p r then 7 else 0
def c5i(p:d9)(i:Nat):Bool:=(p.Decls.getD i default).Name==pkB||(p.Decls.getD i default).Name==fwB||(p.Decls.take i).any fun x=>x.Name==(p.Decls.getD i default).Name
def b9O(p:d9)(i:Nat):Bool:=!(c1U p (p.Rules.getD i default)==0)
def c3G(p:d9):Int×Int:=
 bif !progB p then(1,0)else
 if a0W p.Decls.length (c5i p)<p.Decls.length then(2,(a0W p.Decls.length (c5i p):Int))else
 if a0W p.Rules.length (b9O p)<p.Rules.length then(c1U p (p.Rules.getD (a0W p.Rules.length (b9O p)) default),(a0W p.Rules.length (b9O p):Int))else(0,0)
def atB(l:d7):Bool:=!(l.Kind==3)
def a8q(r:c6):a1D r=r.Head::(r.Body.filter atB).map d7.Atom:=rfl
end Go.Aw
