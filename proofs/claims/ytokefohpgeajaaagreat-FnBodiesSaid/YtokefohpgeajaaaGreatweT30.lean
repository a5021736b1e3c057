/- Rows, relations, stores. No condition. -/
import Derived.Test.YtokefohpgeajaaaGreatweT2
import Derived.Test.YtokefohpgeajaaaGreatrBx10we
import Derived.Test.YtokefohpgeajaaaGreatrBx11we
namespace Go.Aw
set_option maxHeartbeats 4000000
open Go.Proofs
attribute [local irreducible] aft blk lpK retK AW A0p
set_option linter.all false
set_option maxRecDepth 100000
def z9{α:Type}{l:List α}{i:Nat}(d:α)(h:i<l.length):l.drop i=l.getD i d::l.drop (i+1):=by
 rw[m9 d h];exact q2Q h
def a0V(r:d5):Bool:=decide ((r.V.length:Int)<=6)&&r.V.all k9
def a0W:List d4->List d4->Int
 | [],[]=>0
 | [],_::_=>-1
 | _::_,[]=>1
 | x::a,y::b=>bif v8 x y then-1 else bif v8 y x then 1 else a0W a b
def a1G:List d4->List d4->Int
 | [],[]=>0
 | [],_::_=>-1
 | _::_,[]=>1
 | x::a,y::b=>if a0c x y=0 then a1G a b else a0c x y
def a6O(a b:d5):Int:=bif a0V a&&a0V b then a0W a.V b.V else 2
def a0E(r:f5)(i:Nat):Bool:=!((r.Rows.getD i default).V.length==r.Arity)||!a0V (r.Rows.getD i default)||decide (0<i)&&!(a0W (r.Rows.getD (i-1) default).V (r.Rows.getD i default).V==-1)
def a0y(r:f5):Bool:=decide (0<=r.Arity)&&decide (r.Arity<=6)&&decide ((r.Rows.length:Int)<=300)&&!a3x r.Rows.length (a0E r)
def a1j(l:List d8)(i:Nat):Bool:=!a0S (l.getD i default).Name||!a0y (l.getD i default).Rel||decide (0<i)&&!Op.bytesLess (l.getD (i-1) default).Name (l.getD i default).Name
def u3(s:d7):Bool:=decide ((s.Rels.length:Int)<=24)&&!a3x s.Rels.length (a1j s.Rels)
def a2u{α:Type}{l:List α}{i:Nat}(h:l.length<=i):l.drop i=[]:=List.drop_eq_nil_of_le h
def c9f{a b:List d4}{i:Nat}(hi:i<=a.length)(hj:i<=b.length)(h:¬(i<a.length/\i<b.length)):a0W (a.drop i) (b.drop i)=if a.length<b.length then-1 else if b.length<a.length then 1 else 0:=by
 by_cases h1:a.length<b.length
 ·rw[if_pos h1,a2u (show a.length<=i by omega),z9 (l:=b) default (by omega)];rfl
 ·rw[if_neg h1];by_cases h2:b.length<a.length
  ·rw[if_pos h2,a2u (show b.length<=i by omega),z9 (l:=a) default (by omega)];rfl
  ·rw[if_neg h2,a2u (show a.length<=i by omega),a2u (show b.length<=i by omega)];rfl
def b3v{a b:List d4}{i:Nat}(hi:i<=a.length)(hj:i<=b.length)(h:¬(i<a.length/\i<b.length)):a1G (a.drop i) (b.drop i)=if a.length<b.length then-1 else if b.length<a.length then 1 else 0:=by
 by_cases h1:a.length<b.length
 ·rw[if_pos h1,a2u (show a.length<=i by omega),z9 (l:=b) default (by omega)];rfl
 ·rw[if_neg h1];by_cases h2:b.length<a.length
  ·rw[if_pos h2,a2u (show b.length<=i by omega),z9 (l:=a) default (by omega)];rfl
  ·rw[if_neg h2,a2u (show a.length<=i by omega),a2u (show b.length<=i by omega)];rfl
def a9l:∀{a b:List d4},(∀x∈a,k9 x=true)->(∀x∈b,k9 x=true)->sgn (a1G a b)=a0W a b
 | [],[],_,_=>by decide
 | [],_::_,_,_=>by simp only[a1G,a0W];decide
 | _::_,[],_,_=>by simp only[a1G,a0W];decide
 | x::a,y::b,ha,hb=>by
   have h:=b0U (ha x (by simp)) (hb y (by simp));have ih:=a9l (a:=a) (b:=b) (fun z hz=>ha z (by simp[hz])) (fun z hz=>hb z (by simp[hz]));rw[a1G,a0W];unfold a7c at h;split
   ·rename_i h0;rw[h0]at h;cases h1:v8 x y with
    | true=>rw[h1,W5]at h;unfold sgn at h;omega
    | false=>
      cases h2:v8 y x with
      | true=>rw[h1,h2,W5,W3]at h;unfold sgn at h;omega
      | false=>exact ih
   ·rename_i h0;cases h1:v8 x y with
    | true=>rw[h1]at h;exact h
    | false=>
      cases h2:v8 y x with
      | true=>rw[h1,h2]at h;exact h
      | false=>rw[h1,h2]at h;unfold sgn at h;simp only[W3]at h;omega
def b4B(a:d4)(b:d4):spZ 315 [(true,[.i .i64 a.N,.s a.S]),(true,[.i .i64 b.N,.s b.S])] [] (.one (false,[.b (v8 a b)])):=by
 refine sy' Tryz.func315 (q' 2 [aX 2 0,aX 2 1,aU false] (.seq (q' 5 [aG 1 2,aY .eql 6 [],am 7,aH 8 true [bf 1 3,bL,bY .eql 10 []],aP 8 11] (ci 12 (q' 13 [aG 0 2,aG 0 3,ar 14 16,aV 4] .ret))) (q' 18 [aG 1 2,aG 1 3,ar 19 21,aV 4] .ret))) [.t 4] [] ?_;intro hb hE;simp only[go_sem];repeat' first|apply cj'|intro hc|exact om'|fail
 ·rw[v8,hc.1,hc.2];rfl
 ·rw[v8,hc];rfl
noncomputable def a3e:CT:=o8 (fun(x:d4×d4)=>b4B x.1 x.2)
@[go_sem] def c3R:=fun x0 x1 x2 x3=>nm' (fQ' a3e rfl (⟨x0,x1⟩,⟨x2,x3⟩))
def b1X(a:d5)(b:d5):spZ 269 [(true,[u6 a.V]),(true,[u6 b.V])] [] (.one (false,[.i .i64 (a0W a.V b.V)])):=by
 refine sy' Tryz.func269 (q' 2 [aX 1 0,aX 1 1,aK 0] (.seq (q' 5 [aK 0] (fo 0 6 [am 5,aG 0 2,aN,ar 6 9,am 10,aH 11 true [bm 5,bf 0 3,bL,bN,bD .lss 12 15],aP 11 16] 17 1 (.seq (.seq (G' 20 [aG 0 2,am 5,aI 2,aE 2,aG 0 3,am 5,aI 2,aE 2,ac 315 [24,29]]) (ci 30 (q' 4 [ao (.mov (.k (.v false [.c (.i .i64 (-1))])))] .ret))) (.seq (G' 31 [aG 0 3,am 5,aI 2,aE 2,aG 0 2,am 5,aI 2,aE 2,ac 315 [35,40]]) (ci 41 (q' 4 [aK 1] .ret)))) (g' 18 [aB 5]))) (.seq (q' 42 [aG 0 2,aN,aG 0 3,aN,ar 44 47] (ci 48 (q' 4 [ao (.mov (.k (.v false [.c (.i .i64 (-1))])))] .ret))) (.seq (q' 49 [aG 0 2,aN,aG 0 3,aN,aD .gtr 51 54] (ci 55 (q' 4 [aK 1] .ret))) (q' 4 [aK 0] .ret))))) [.t 4] [(315,[],a3e)] ?_;intro hb hE;simp only[go_sem];repeat' first|apply cj'|intro hc|exact om'|fail
 refine lq' false [2,3] [4,6] [] (fun i:{i:Nat // i<=a.V.length/\i<=b.V.length/\a0W (a.V.drop i) (b.V.drop i)=a0W a.V b.V}=>[(5,slV (.i .i64 i.1))]) nl' nl' (fun i=>a.V.length-i.1) (⟨0,by simp⟩) ?_;intro S0 hS0 i;obtain⟨i,hi,hj,he⟩:=i;simp only[go_sem,hS0];repeat' first|apply cj'|intro hc|exact om'|fail
 ·rw[<-he,z9 (l:=a.V) default (by omega),z9 (l:=b.V) default (by omega),a0W,hc];rfl
 ·rename_i h1;rw[<-he,z9 (l:=a.V) default (by omega),z9 (l:=b.V) default (by omega),a0W,h1,hc];rfl
 ·rename_i h1;have h2:=he;rw[z9 (l:=a.V) default (by omega),z9 (l:=b.V) default (by omega),a0W,h1,hc]at h2;exact nx0 ⟨i+1,by omega,by omega,h2⟩
 all_goals have q:(decide ((i:Int)<a.V.length)&&decide ((i:Int)<b.V.length))=false:=by assumption
 all_goals rw[q3P,q2E,q2E]at q
 all_goals rw[<-he,c9f hi hj (by omega)]
 ·rw[if_pos (by omega)]
 ·rw[if_neg (by omega),if_pos (by omega)]
 ·rw[if_neg (by omega),if_neg (by omega)]
noncomputable def a2C:CT:=o8 (fun(x:d5×d5)=>b1X x.1 x.2)
@[go_sem] def c2v:=fun x0 x1=>nm' (fQ' a2C rfl (⟨x0⟩,⟨x1⟩))
def b8H(r:d5):spZ 252 [(true,[u6 r.V])] [] (.one (false,[.b (a0V r)])):=by
 refine sy' Tryz.func252 (q' 1 [aX 1 0,aU false] (.seq (q' 5 [aG 0 1,aN,aC .gtr 7 6] (ci 8 (q' 2 [aU false] .ret))) (.seq (q' 9 [aG 0 1,aN,aK 0] (fO 0 13 [ar 12 11] 13 1 (q' 14 [ai 2 10 12,aE 2,ax (w' 4 [.i .i64,.s]),aS 2 4 15] (q' 16 [ae 2 4,ac 312 [16],aO 17] (ci 18 (q' 2 [aU false] .ret)))) (g' 19 [aA 12]))) (q' 2 [aU true] .ret)))) [.t 2] [(312,[],a0Z)] ?_;intro hb hE;simp only[go_sem];repeat' first|apply cj'|intro hc|exact om'|fail
 ·rw[a0V,V2 (by omega)];rfl
 have h6:((r.V.length:Int))<=6:=by omega
 refine lq' false [10,11] [] [] (fun i:{i:Nat // i<=r.V.length/\(r.V.take i).all k9=true}=>[(12,slV (.i .i64 i.1))]) nl' nl' (fun i=>r.V.length-i.1) (⟨0,by simp⟩) ?_;intro S0 hS0 i;obtain⟨i,hi,ha⟩:=i;simp only[go_sem,hS0];repeat' first|apply cj'|intro hc|exact om'|fail
 ·rw[a0V,all_false (d:=default) (i:=i) (by omega) hc,q2N]
 ·exact nx0 ⟨i+1,by omega,a2s default (by omega) ha hc⟩
 ·rw[k7 (by omega)]at ha;rw[a0V,ha,W9 h6];rfl
noncomputable def a5c:CT:=o8 (fun(x:d5)=>b8H x)
@[go_sem] def c7p:=fun x0=>nm' (fQ' a5c rfl ⟨x0⟩)
def b4h(v:d4):spZ 175 [(true,[.i .i64 v.N,.s v.S])] [] (.one (false,[.b (!k9 v)])):=by
 refine sy' Tryz.func175 (q' 1 [aX 2 0,aU false] (q' 3 [ae 2 1,ac 168 [3],aO 4,aV 2] .ret)) [.t 2] [(168,[],a0X)] ?_;intro hb hE;simp only[go_sem];repeat' first|apply cj'|intro hc|exact om'|fail
noncomputable def a6i:CT:=o8 (fun(x:d4)=>b4h x)
@[go_sem] def c3x:=fun x0 x1=>nm' (fQ' a6i rfl ⟨x0,x1⟩)
def c3b(l:List d4):spZ 263 [(false,[u6 l]),(false,[.f 175 []])] [] (.one (false,[.i .i64 (a5M (fun y=>!k9 y) l)])):=by
 refine sy' Tryz.func263 (q' 4 [aK 0] (.seq (q' 6 [am 0,aN,aK 0] (fO 0 9 [ar 8 7] 9 1 (q' 10 [am 8,aV 5] (q' 11 [aM [1,0,5],aI 2,aE 2,ao (.callv (.t 11) [.t 15])] (ci 16 (q' 17 [am 5,aV 4] .ret)))) (g' 18 [aA 8]))) (q' 4 [ao (.mov (.k (.v false [.c (.i .i64 (-1))])))] .ret))) [.t 4] [(175,[],a6i)] ?_;intro hb hE;simp only[go_sem];repeat' first|apply cj'|intro hc|exact om'|fail
 refine lq' false [0,1,7] [] [] (fun i:{i:Nat // i<=l.length/\(l.take i).any (fun y=>!k9 y)=false}=>[(8,slV (.i .i64 i.1))]) nl' nl' (fun i=>l.length-i.1) (⟨0,by simp⟩) ?_;intro S0 hS0 i;obtain⟨i,hi,ha⟩:=i;simp only[go_sem,hS0];repeat' first|apply cj'|intro hc|exact om'|fail
 ·exact(a2i (p:=fun y=>!k9 y) (d:=default) (by omega) ha (by simpa[-List.getD_eq_getElem?_getD]using hc)).symm
 ·exact nx0 ⟨i+1,by omega,a1J (p:=fun y=>!k9 y) default (by omega) ha (by simpa[-List.getD_eq_getElem?_getD]using hc)⟩
 ·exact(a1B (by rwa [k7 (by omega)]at ha)).symm
noncomputable def b3E:CT:=o8 (fun(x:(List d4))=>c3b x)
@[go_sem] def c9J:=fun l=>nm' (fQ' b3E rfl l)
def c3a(l:List d4):spZ 174 [(false,[u6 l]),(false,[.f 175 []])] [] (.one (false,[.b (l.any (fun y=>!k9 y))])):=by
 refine sy' Tryz.func174 (q' 4 [aU false] (q' 5 [aM [0,1],ac 263 [5,6],aC .geq 7 0,aV 4] .ret)) [.t 4] [(263,[],b3E)] ?_;intro hb hE;simp only[go_sem];repeat' first|apply cj'|intro hc|exact om'|fail
 ·exact a8N _ _
noncomputable def b3D:CT:=o8 (fun(x:(List d4))=>c3a x)
@[go_sem] def c9I:=fun l=>nm' (fQ' b3D rfl l)
def b8x(r:d5):spZ 85 [(true,[u6 r.V])] [] (.one (false,[.b (a0V r)])):=by
 refine sy' Tryz.func85 (q' 1 [aX 1 0,aU false] (q' 3 [aG 0 1,aN,aC .leq 5 6,am 6,aH 7 true [bf 0 1,bL,bo (.call 174 [.t 9,.k (.v false [.c (.f 175 [])])]),bO 10],aP 7 11,aV 2] .ret)) [.t 2] [(174,[],b3D)] ?_;intro hb hE;simp only[go_sem];repeat' first|apply cj'|intro hc|exact om'|fail
 all_goals rw[b2u,q5M,a0V]
noncomputable def a4Z:CT:=o8 (fun(x:d5)=>b8x x)
@[go_sem] def c7d:=fun x0=>nm' (fQ' a4Z rfl ⟨x0⟩)
def c6x(a:List d4)(b:List d4):spZ 262 [(false,[u6 a]),(false,[u6 b]),(false,[.f 248 []])] [] (.one (false,[.i .i64 (a1G a b)])):=by
 refine sy' Tryz.func262 (q' 6 [aK 0] (.seq (q' 11 [am 0,aN,aK 0] (fO 0 14 [ar 13 12] 14 1 (q' 15 [am 13,ai 2 11 13,aE 2,ax (w' 8 [.i .i64,.s]),av 7 15,aS 2 8 17] (.seq (q' 18 [aM [7,1],aN,aD .geq 18 20] (ci 21 (q' 6 [aK 1] .ret))) (q' 22 [aM [1,7],aI 2,aE 2,ax (w' 9 [.i .i64,.s]),aS 2 9 25] (q' 26 [am 2,ae 2 8,ae 2 9,ao (.callv (.t 26) [.t 27,.t 28]),aV 10] (q' 30 [am 10,aC .neq 30 0] (ci 31 (q' 32 [am 10,aV 6] .ret))))))) (g' 33 [aA 13]))) (.seq (q' 34 [am 0,aN,am 1,aN,ar 35 37] (ci 38 (q' 6 [ao (.mov (.k (.v false [.c (.i .i64 (-1))])))] .ret))) (q' 6 [aK 0] .ret)))) [.t 6] [(248,[],a1N)] ?_;intro hb hE;simp only[go_sem];repeat' first|apply cj'|intro hc|exact om'|fail
 refine lq' false [0,1,2,11,12] [] [] (fun i:{i:Nat // i<=a.length/\i<=b.length/\a1G (a.drop i) (b.drop i)=a1G a b}=>[(13,slV (.i .i64 i.1))]) nl' nl' (fun i=>a.length-i.1) (⟨0,by simp⟩) ?_;intro S0 hS0 i;obtain⟨i,hi,hj,he⟩:=i;simp only[go_sem,hS0];repeat' first|apply cj'|intro hc|exact om'|fail
 ·rw[<-he,b3v hi hj (by omega),if_neg (by omega),if_pos (by omega)]
 ·rw[<-he,z9 (l:=a) default (by omega),z9 (l:=b) default (by omega),a1G,if_neg (by simpa using hc)]
 ·have h2:=he;rw[z9 (l:=a) default (by omega),z9 (l:=b) default (by omega),a1G,if_pos (by simpa using hc)]at h2;exact nx0 ⟨i+1,by omega,by omega,h2⟩
 ·rw[<-he,b3v hi hj (by omega),if_pos (by omega)]
 ·rw[<-he,b3v hi hj (by omega),if_neg (by omega),if_neg (by omega)]
noncomputable def b6R:CT:=o8 (fun(x:(List d4)×(List d4))=>c6x x.1 x.2)
@[go_sem] def c9P:=fun a b=>nm' (fQ' b6R rfl (a,b))
def b8A(a:d5)(b:d5):spZ 173 [(true,[u6 a.V]),(true,[u6 b.V])] [] (.one (false,[.i .i64 (a1G a.V b.V)])):=by
 refine sy' Tryz.func173 (q' 2 [aX 1 0,aX 1 1,aK 0] (q' 5 [aG 0 2,aG 0 3,ao (.call 262 [.t 6,.t 8,.k (.v false [.c (.f 248 [])])]),aV 4] .ret)) [.t 4] [(262,[],b6R)] ?_;intro hb hE;simp only[go_sem];repeat' first|apply cj'|intro hc|exact om'|fail
noncomputable def a5b:CT:=o8 (fun(x:d5×d5)=>b8A x.1 x.2)
@[go_sem] def c7h:=fun x0 x1=>nm' (fQ' a5b rfl (⟨x0⟩,⟨x1⟩))
def b1V(a:d5)(b:d5):spZ 253 [(true,[u6 a.V]),(true,[u6 b.V])] [] (.one (false,[.i .i64 (a6O a b)])):=by
 refine sy' Tryz.func253 (q' 2 [aX 1 0,aX 1 1,aK 0] (.seq (q' 5 [ae 1 2,ac 252 [5],aO 6,am 7,aH 8 false [be 1 3,bc 252 [9],bO 10],aQ 8 11] (ci 12 (q' 4 [aK 2] .ret))) (q' 13 [ae 1 2,ae 1 3,ac 269 [13,14],aV 4] .ret))) [.t 4] [(252,[],a5c),(269,[],a2C)] ?_;intro hb hE;simp only[go_sem];repeat' first|apply cj'|intro hc|exact om'|fail
 ·rcases hc with h|h<;>simp[a6O,h]
 ·rw[a6O,hc.1,hc.2];rfl
noncomputable def a5v:CT:=o8 (fun(x:d5×d5)=>b1V x.1 x.2)
@[go_sem] def c2t:=fun x0 x1=>nm' (fQ' a5v rfl (⟨x0⟩,⟨x1⟩))
def a3A{n:Nat}{p:Nat->Bool}(h:a3x n p=false){j:Nat}(hj:j<n):p j=false:=by
 simp only[a3x,q1G]at h;simpa using b3t h hj
def a0m{r:d5}(h:a0V r=true):∀x∈r.V,k9 x=true:=by
 simp only[a0V,W6,q0R]at h;exact h.2
def a2k{r:f5}{i:Nat}(h:a0E r i=false):a0V (r.Rows.getD i default)=true:=by
 simp only[a0E,q0Y,q1G]at h;exact h.1.2
def bRow_ge{a b:List d4}(ha:∀x∈a,k9 x=true)(hb:∀x∈b,k9 x=true):decide (0<=a1G a b)=!(a0W a b==-1):=by
 have h:=a9l ha hb;unfold sgn at h;rw[q3K];simp only[V9,q0T,beq_eq_false_iff_ne];omega
def c6I{r:f5}{i:Nat}(ha:a3x i (a0E r)=false):(!a0V (r.Rows.getD i default)||!((r.Rows.getD i default).V.length==r.Arity)||(decide (0<i)&&decide (0<=a1G (r.Rows.getD (i-1) default).V (r.Rows.getD i default).V)))=a0E r i:=by
 rw[a0E];cases h:a0V (r.Rows.getD i default)with
 | false=>simp
 | true=>
   by_cases h0:0<i
   ·rw[bRow_ge (a0m (a2k (a3A ha (show i-1<i by omega)))) (a0m h)];simp
   ·rw[V2 h0];simp
def b5f{r:f5}{i:Nat}(hi:i<r.Rows.length)(h:a0E r i=true):a0y r=false:=by
 rw[a0y,a4w hi h];simp
def b8G(r:f5):spZ 161 [(true,[.i .i64 r.Arity,a2x r.Rows])] [] (.one (false,[.b (a0y r)])):=by
 refine sy' Tryz.func161 (q' 1 [aX 2 0,aU false] (.seq (q' 4 [aG 0 1,aC .lss 5 0,am 6,aH 7 false [bf 0 1,bL,bC .gtr 9 6],aQ 7 10,am 11,aH 12 false [bf 1 1,bL,bN,bC .gtr 15 300],aQ 12 16] (ci 17 (q' 2 [aU false] .ret))) (.seq (q' 18 [aG 1 1,aN,aK 0] (fO 0 22 [ar 21 20] 22 1 (q' 23 [am 21,aV 3] (.seq (.seq (G' 24 [aG 1 1,am 3,aI 1,aG 0 27,aN,aG 0 1,aD .neq 30 32,am 33,aH 34 false [bf 1 1,bL,bm 3,bI 1,bE 1,bc 252 [39],bO 40],aQ 34 41]) (ci 42 (q' 2 [aU false] .ret))) (.seq (G' 43 [am 3,aC .gtr 43 0,am 44,aH 45 true [bf 1 1,bL,bm 3,bC .sub 48 1,bi 1 47 49,bE 1,bf 1 1,bL,bm 3,bI 1,bE 1,bc 253 [51,56],bC .neq 57 (-1)],aP 45 58]) (ci 59 (q' 2 [aU false] .ret))))) (g' 60 [aA 21]))) (q' 2 [aU true] .ret)))) [.t 2] [(252,[],a5c),(253,[],a5v)] ?_;intro hb hE;simp only[go_sem];repeat' first|apply cj'|intro hc|exact om'|fail
 ·rcases hc with(h|h)|h
  ·rw[a0y,V2 (show¬0<=r.Arity by omega)];rfl
  ·rw[a0y,V2 (show¬r.Arity<=6 by omega)];simp
  ·rw[a0y,V2 (show¬(r.Rows.length:Int)<=300 by omega)];simp
 have hA:=hc;clear hc;refine lq' false [1,20] [2] [] (fun i:{i:Nat // i<=r.Rows.length/\a3x i (a0E r)=false}=>[(21,slV (.i .i64 i.1))]) nl' nl' (fun i=>r.Rows.length-i.1) (⟨0,by simp[a2V]⟩) ?_;intro S0 hS0 i;obtain⟨i,hi,ha⟩:=i;have hw:0<i->IntKind.i64.wrap ((i:Int)-1)=((i-1:Nat):Int):=fun h=>by rw[IntWalk.i64_in _ (by omega)];omega
 simp only[go_sem,hS0];repeat' first|apply cj'|intro hc|exact om'|fail
 ·have hq:a0E r i=true:=by
   rw[a0E];rcases hc with h|h
   ·simp only[bne]at h;rw[h];rfl
   ·rw[h];simp
  rw[b5f (by omega) hq]
 ·rename_i h1;have hq:a0E r i=true:=by
   rw[hw (by omega)]at hc;rw[a6O,h1.2,show((i-1:Nat):Int).toNat=i-1 from rfl,a2k (a3A ha (show i-1<i by omega))]at hc;rw[a0E,W9 (show 0<i by omega)];have h3:=hc.2;simp only[bne,q1F,W5]at h3;rw[h3];simp
  rw[b5f (by omega) hq]
 ·rename_i h1;have hq:a0E r i=false:=by
   have h2:=h1.1;simp only[bne]at h2;rw[a0E,h2,h1.2];by_cases h0:0<i
   ·rw[hw h0,W9 (show(0:Int)<i by omega),a6O,h1.2,show((i-1:Nat):Int).toNat=i-1 from rfl,a2k (a3A ha (show i-1<i by omega))]at hc;rw[W9 h0];exact hc
   ·rw[V2 h0];rfl
  exact nx0 ⟨i+1,by omega,a2c ha hq⟩
 ·obtain rfl:i=r.Rows.length:=by omega
  rw[a0y,ha,W9 (show 0<=r.Arity by omega),W9 (show r.Arity<=6 by omega),W9 (show(r.Rows.length:Int)<=300 by omega)];rfl
noncomputable def a8E:CT:=o8 (fun(x:f5)=>b8G x)
@[go_sem] def c7o:=fun x0 x1=>nm' (fQ' a8E rfl ⟨x0,x1⟩)
def b8w(r:f5):spZ 84 [(true,[.i .i64 r.Arity,a2x r.Rows])] [] (.one (false,[.b (a0y r)])):=by
 refine sy' Tryz.func84 (q' 1 [aX 2 0,aU false] (.seq (q' 5 [aG 1 1,aN,aK 0] (fO 0 9 [ar 8 7] 9 1 (q' 10 [am 8,ai 1 6 8,aE 1,ax (w' 4 [.sl l5]),av 3 10,aS 1 4 12] (.seq (G' 13 [ae 1 4,ac 85 [13],aO 14,am 15,aH 16 false [bf 0 4,bL,bN,bf 0 1,bL,bD .neq 19 21],aQ 16 22,am 23,aH 24 false [bm 3,bC .gtr 25 0,bm 26],aH 27 true [bf 1 1,bL,bm 3,bC .sub 30 1,bi 1 29 31,bE 1,be 1 4,bc 173 [33,34],bC .geq 35 0],aH 24 false [bP 27 36],aQ 24 37]) (ci 38 (q' 2 [aU false] .ret)))) (g' 39 [aA 8]))) (q' 40 [aG 0 1,ao (.call 130 [.t 41,.k (.v false [.c (.i .i64 6)])]),am 42,aH 43 true [bf 1 1,bL,bN,bC .leq 46 300],aP 43 47,aV 2] .ret))) [.t 2] [(85,[],a4Z),(173,[],a5b),(130,[],b0L)] ?_;intro hb hE;simp only[go_sem];repeat' first|apply cj'|intro hc|exact om'|fail
 refine lq' false [1,6,7] [2] [] (fun i:{i:Nat // i<=r.Rows.length/\a3x i (a0E r)=false}=>[(8,slV (.i .i64 i.1))]) nl' nl' (fun i=>r.Rows.length-i.1) (⟨0,by simp[a2V]⟩) ?_;intro S0 hS0 i;obtain⟨i,hi,ha⟩:=i;have hR:=c6I ha;have hw:0<i->IntKind.i64.wrap ((i:Int)-1)=((i-1:Nat):Int):=fun h=>by rw[IntWalk.i64_in _ (by omega)];omega
 simp only[go_sem,hS0];repeat' first|apply cj'|intro hc|exact om'|fail
 ·have hq:a0E r i=true:=by
   rw[<-hR];rcases hc with(h|h)|⟨h0,h⟩
   ·rw[h];rfl
   ·simp only[bne]at h;rw[h];simp
   ·rw[hw (by omega)]at h;have h':0<=a1G (r.Rows.getD (i-1) default).V (r.Rows.getD i default).V:=h;rw[W9 (show 0<i by omega),W9 h'];simp
  rw[b5f (by omega) hq]
 ·have hq:a0E r i=false:=by
   rw[<-hR];obtain⟨⟨h1,h2⟩,h3⟩:=hc;simp only[bne]at h2;rw[h1,h2];by_cases h0:0<i
   ·rw[hw h0,W9 (show(0:Int)<i by omega)]at h3;rw[W9 h0];exact h3
   ·rw[V2 h0];rfl
  exact nx0 ⟨i+1,by omega,a2c ha hq⟩
 ·obtain rfl:i=r.Rows.length:=by omega
  rw[a0y,ha];simp
noncomputable def a4Y:CT:=o8 (fun(x:f5)=>b8w x)
@[go_sem] def c7c:=fun x0 x1=>nm' (fQ' a4Y rfl ⟨x0,x1⟩)
def b7w{s:d7}{i:Nat}(hi:i<s.Rels.length)(h:a1j s.Rels i=true):u3 s=false:=by
 rw[u3,a4w hi h];simp
def b4u(s:d7):spZ 75 [(true,[v9 s.Rels])] [] (.one (false,[.b (u3 s)])):=by
 refine sy' Tryz.func75 (q' 1 [aX 1 0,aU false] (.seq (q' 4 [aG 0 1,aN,aC .gtr 6 24] (ci 7 (q' 2 [aU false] .ret))) (.seq (q' 8 [aG 0 1,aN,aK 0] (fO 0 12 [ar 11 10] 12 1 (q' 13 [am 11,aV 3] (.seq (G' 14 [aG 0 1,am 3,aI 3,aG 0 17,ac 160 [19],aO 20,am 21,aH 22 false [bf 0 1,bL,bm 3,bI 3,bF 1,bE 2,bc 161 [28],bO 29],aQ 22 30,am 31,aH 32 false [bm 3,bC .gtr 33 0,bm 34],aH 35 true [bf 0 1,bL,bm 3,bC .sub 38 1,bi 3 37 39,bF 0,bL,bf 0 1,bL,bm 3,bI 3,bF 0,bL,bD .geq 42 48],aH 32 false [bP 35 49],aQ 32 50]) (ci 51 (q' 2 [aU false] .ret)))) (g' 52 [aA 11]))) (q' 2 [aU true] .ret)))) [.t 2] [(160,[],a0Q),(161,[],a8E)] ?_;intro hb hE;simp only[go_sem];repeat' first|apply cj'|intro hc|exact om'|fail
 ·rw[u3,V2 (by omega)];rfl
 have hA:=hc;clear hc;refine lq' false [1,10] [2] [] (fun i:{i:Nat // i<=s.Rels.length/\a3x i (a1j s.Rels)=false}=>[(11,slV (.i .i64 i.1))]) nl' nl' (fun i=>s.Rels.length-i.1) (⟨0,by simp[a2V]⟩) ?_;intro S0 hS0 i;obtain⟨i,hi,ha⟩:=i;have hw:0<i->IntKind.i64.wrap ((i:Int)-1)=((i-1:Nat):Int):=fun h=>by rw[IntWalk.i64_in _ (by omega)];omega
 simp only[go_sem,hS0];repeat' first|apply cj'|intro hc|exact om'|fail
 ·have hq:a1j s.Rels i=true:=by
   rw[a1j];rcases hc with(h|h)|⟨h0,h⟩
   ·rw[h];rfl
   ·rw[h];simp
   ·rw[hw (by omega)]at h;have h':Op.bytesLess (s.Rels.getD (i-1) default).Name (s.Rels.getD i default).Name=false:=h;rw[W9 (show 0<i by omega),h'];simp
  rw[b7w (by omega) hq]
 ·have hq:a1j s.Rels i=false:=by
   obtain⟨⟨h1,h2⟩,h3⟩:=hc;rw[a1j,h1,h2];by_cases h0:0<i
   ·rw[hw h0,W9 (show(0:Int)<i by omega)]at h3;rw[W9 h0];exact h3
   ·rw[V2 h0];rfl
  exact nx0 ⟨i+1,by omega,a2c ha hq⟩
 ·obtain rfl:i=s.Rels.length:=by omega
  rw[u3,ha,W9 (show(s.Rels.length:Int)<=24 by omega)];rfl
noncomputable def a6q:CT:=o8 (fun(x:d7)=>b4u x)
@[go_sem] def c3K:=fun x0=>nm' (fQ' a6q rfl ⟨x0⟩)
def b4i(s:d7):spZ 70 [(true,[v9 s.Rels])] [] (.one (false,[.b (u3 s)])):=by
 refine sy' Tryz.func70 (q' 1 [aX 1 0,aU false] (.seq (q' 5 [aG 0 1,aN,aK 0] (fO 0 9 [ar 8 7] 9 1 (q' 10 [am 8,ai 3 6 8,aE 3,ax (w' 4 [.s,.i .i64,.sl u2]),av 3 10,aS 3 4 12] (.seq (G' 13 [aG 0 4,ac 149 [14],aO 15,am 16,aH 17 false [bf 1 4,bE 2,bc 84 [19],bO 20],aQ 17 21,am 22,aH 23 false [bm 3,bC .gtr 24 0,bm 25],aH 26 true [bf 0 1,bL,bm 3,bC .sub 29 1,bi 3 28 30,bF 0,bL,bf 0 4,bL,bD .geq 33 35],aH 23 false [bP 26 36],aQ 23 37]) (ci 38 (q' 2 [aU false] .ret)))) (g' 39 [aA 8]))) (q' 40 [aG 0 1,aN,aC .leq 42 24,aV 2] .ret))) [.t 2] [(149,[],a2m),(84,[],a4Y)] ?_;intro hb hE;simp only[go_sem];repeat' first|apply cj'|intro hc|exact om'|fail
 refine lq' false [1,6,7] [2] [] (fun i:{i:Nat // i<=s.Rels.length/\a3x i (a1j s.Rels)=false}=>[(8,slV (.i .i64 i.1))]) nl' nl' (fun i=>s.Rels.length-i.1) (⟨0,by simp[a2V]⟩) ?_;intro S0 hS0 i;obtain⟨i,hi,ha⟩:=i;have hw:0<i->IntKind.i64.wrap ((i:Int)-1)=((i-1:Nat):Int):=fun h=>by rw[IntWalk.i64_in _ (by omega)];omega
 simp only[go_sem,hS0];repeat' first|apply cj'|intro hc|exact om'|fail
 ·have hq:a1j s.Rels i=true:=by
   rw[a1j];rcases hc with(h|h)|⟨h0,h⟩
   ·rw[h];rfl
   ·rw[h];simp
   ·rw[hw (by omega)]at h;have h':Op.bytesLess (s.Rels.getD (i-1) default).Name (s.Rels.getD i default).Name=false:=h;rw[W9 (show 0<i by omega),h'];simp
  rw[b7w (by omega) hq]
 ·have hq:a1j s.Rels i=false:=by
   obtain⟨⟨h1,h2⟩,h3⟩:=hc;rw[a1j,h1,h2];by_cases h0:0<i
   ·rw[hw h0,W9 (show(0:Int)<i by omega)]at h3;rw[W9 h0];exact h3
   ·rw[V2 h0];rfl
  exact nx0 ⟨i+1,by omega,a2c ha hq⟩
 ·obtain rfl:i=s.Rels.length:=by omega
  rw[u3,ha,q2Z,q1D]
noncomputable def a3a:CT:=o8 (fun(x:d7)=>b4i x)
@[go_sem] def c3y:=fun x0=>nm' (fQ' a3a rfl ⟨x0⟩)
def a6W{r:f5}(h:a0y r=true):r.Rows.length<=300:=by
 simp only[a0y,W6,V9]at h;omega
def c1i{s:d7}(h:u3 s=true):∀x∈s.Rels,a0y x.Rel=true:=by
 intro x hx;obtain⟨i,hi,rfl⟩:=q2V hx;simp only[u3,W6,q0T]at h;have:=a3A h.2 hi;simp only[a1j,q0Y,q1G,m9 default hi]at this;exact this.1.2
def z5(s:d7)(n:List UInt8):f5×Bool:=if 0<=a5M (fun x:d8=>x.Name==n) s.Rels then((s.Rels.getD (a5M (fun x:d8=>x.Name==n) s.Rels).toNat default).Rel,true)else(⟨0,[]⟩,false)
def b5e{s:d7}{n:List UInt8}{i:Nat}(hi:i<s.Rels.length)(ha:(s.Rels.take i).any (fun x=>x.Name==n)=false)(h:((s.Rels.getD i default).Name==n)=true):z5 s n=((s.Rels.getD i default).Rel,true):=by
 rw[z5,a2i (p:=fun x:d8=>x.Name==n) default hi ha h,if_pos (by omega)];rfl
def b5d{s:d7}{n:List UInt8}(ha:s.Rels.any (fun x=>x.Name==n)=false):z5 s n=(⟨0,[]⟩,false):=by
 rw[z5,a1B ha,if_neg (by decide)]
def b6x(s:d7)(n:List UInt8):spZ 162 [(true,[v9 s.Rels]),(false,[.s n])] [] (.tup [(true,[.i .i64 (((z5 s n).1).Arity),a2x (((z5 s n).1).Rows)]),(false,[.b ((z5 s n).2)])]):=by
 refine sx' false true none Tryz.func162 (q' 2 [aX 1 0,ax (w' 4 [.i .i64,.sl u2]),ab 5 false] (.seq (q' 7 [aG 0 2,aN,aK 0] (fO 0 11 [ar 10 9] 11 1 (q' 12 [am 10,aV 6] (q' 13 [aG 0 2,am 6,aI 3,aG 0 16,am 1,aD .eql 18 19] (ci 20 (q' 21 [aG 0 2,am 6,aI 3,aF 1,aE 2,aS 2 4 26,ab 5 true] .ret)))) (g' 27 [aA 10]))) (q' 28 [ao (.bld [.i .i64,.sl u2] []),aS 2 4 28,ab 5 false] .ret))) [.c 4 true 2,.t 5] [] ?_;intro hb hE;simp only[go_sem];repeat' first|apply cj'|intro hc|exact om'|fail
 refine lq' false [1,2,4,9] [4] [] (fun i:{i:Nat // i<=s.Rels.length/\(s.Rels.take i).any (fun x=>x.Name==n)=false}=>[(10,slV (.i .i64 i.1))]) (fun i=>[(8,[.c (.i .i64 0),.nl u2])]) nl' (fun i=>s.Rels.length-i.1) (⟨0,by simp⟩) ?_;intro S0 hS0 i;obtain⟨i,hi,ha⟩:=i;simp only[go_sem,hS0];repeat' first|apply cj'|intro hc|exact om'|fail
 ·rw[b5e (by omega) ha hc];exact⟨⟨rfl,rfl⟩,rfl⟩
 ·exact nx0 ⟨i+1,by omega,a1J (p:=fun x:d8=>x.Name==n) default (by omega) ha hc⟩
 ·rw[k7 (by omega)]at ha;rw[b5d ha];exact⟨⟨rfl,rfl⟩,rfl⟩
noncomputable def a4f:CT:=o8 (fun(x:d7×(List UInt8))=>b6x x.1 x.2)
@[go_sem] def c6c:=fun x0 n=>nm' (fQ' a4f rfl (⟨x0⟩,n))
def b8E(s:d7)(n:List UInt8):spZ 82 [(true,[v9 s.Rels]),(false,[.s n])] [] (.tup [(true,[.i .i64 (((z5 s n).1).Arity),a2x (((z5 s n).1).Rows)]),(false,[.b ((z5 s n).2)])]):=by
 refine sx' false true none Tryz.func82 (q' 2 [aX 1 0,ax (w' 4 [.i .i64,.sl u2]),ab 5 false] (.seq (q' 8 [aG 0 2,aN,aK 0] (fO 0 12 [ar 11 10] 12 1 (q' 13 [ai 3 9 11,aE 3,ax (w' 7 [.s,.i .i64,.sl u2]),aS 3 7 14] (q' 15 [aG 0 7,am 1,aD .eql 16 17] (ci 18 (q' 19 [af 1 7,aE 2,aS 2 4 20,ab 5 true] .ret)))) (g' 21 [aA 11]))) (q' 22 [ao (.bld [.i .i64,.sl u2] []),aS 2 4 22,ab 5 false] .ret))) [.c 4 true 2,.t 5] [] ?_;intro hb hE;simp only[go_sem];repeat' first|apply cj'|intro hc|exact om'|fail
 refine lq' false [1,4,9,10] [] [] (fun i:{i:Nat // i<=s.Rels.length/\(s.Rels.take i).any (fun x=>x.Name==n)=false}=>[(11,slV (.i .i64 i.1))]) (fun i=>[(8,[.c (.i .i64 0),.nl u2])]) nl' (fun i=>s.Rels.length-i.1) (⟨0,by simp⟩) ?_;intro S0 hS0 i;obtain⟨i,hi,ha⟩:=i;simp only[go_sem,hS0];repeat' first|apply cj'|intro hc|exact om'|fail
 ·rw[b5e (by omega) ha hc];exact⟨⟨rfl,rfl⟩,rfl⟩
 ·exact nx0 ⟨i+1,by omega,a1J (p:=fun x:d8=>x.Name==n) default (by omega) ha hc⟩
 ·rw[k7 (by omega)]at ha;rw[b5d ha];exact⟨⟨rfl,rfl⟩,rfl⟩
noncomputable def a2R:CT:=o8 (fun(x:d7×(List UInt8))=>b8E x.1 x.2)
@[go_sem] def c7l:=fun x0 n=>nm' (fQ' a2R rfl (⟨x0⟩,n))
def vNe(a b:List d4)(i:Nat):Bool:=!vEq (a.getD i default) (b.getD i default)
def a4S(a b:List d4):Bool:=decide (a.length=b.length)&&!a3x a.length (vNe a b)
def c9x{a b:d4}(h:vEq a b=true):a=b:=by
 obtain⟨n,s⟩:=a;obtain⟨m,r⟩:=b;simp only[vEq,W6,beq_iff_eq]at h;rw[h.1,h.2]
def vEq_rfl(a:d4):vEq a a=true:=by simp[vEq]
def c1e(a b:List d4):a4S a b=decide (a=b):=by
 rw[q3K,V9];constructor
 ·intro h;simp only[a4S,W6,V9,q0T]at h;refine q4M h.1 fun i h1 h2=>?_
  have:=a3A h.2 h1;simp only[vNe,q1G,m9 default h1,m9 default h2]at this;exact c9x this
 ·rintro rfl;rw[a4S,W9 rfl,q0K,q0T];cases h:a3x a.length (vNe a a)with
  | false=>rfl
  | true=>
    simp only[a3x,q0T]at h;rw[c7N.2 fun i _=>by simp[vNe,vEq_rfl]]at h;cases h
def a8W(a:d5)(b:d5):spZ 318 [(true,[u6 a.V]),(true,[u6 b.V])] [] (.one (false,[.b (decide (a.V=b.V))])):=by
 refine sy' Tryz.func318 (q' 2 [aX 1 0,aX 1 1,aU false] (.seq (q' 6 [aG 0 2,aN,aG 0 3,aN,aD .neq 8 11] (ci 12 (q' 4 [aU false] .ret))) (.seq (q' 13 [aG 0 2,aN,aK 0] (fO 0 17 [ar 16 15] 17 1 (q' 18 [am 16,aV 5] (.seq (G' 19 [aG 0 2,am 5,aI 2,aE 2,aG 0 3,am 5,aI 2,aE 2,ao (.eqs true [.i .i64,.s] (.t 23) (.t 28))]) (ci 29 (q' 4 [aU false] .ret)))) (g' 30 [aA 16]))) (q' 4 [aU true] .ret)))) [.t 4] [] ?_;intro hb hE;rw[<-c1e];simp only[go_sem];repeat' first|apply cj'|intro hc|exact om'|fail
 ·rw[a4S,V2 (fun h=>by simp[h]at hc)];rfl
 have hl:a.V.length=b.V.length:=by simpa[Int.ofNat_inj]using hc
 clear hc;refine lq' false [2,3,15] [4,6] [] (fun i:{i:Nat // i<=a.V.length/\a3x i (vNe a.V b.V)=false}=>[(16,slV (.i .i64 i.1))]) nl' nl' (fun i=>a.V.length-i.1) (⟨0,by simp[a2V]⟩) ?_;intro S0 hS0 i;obtain⟨i,hi,ha⟩:=i;simp only[go_sem,hS0];repeat' first|apply cj'|intro hc|exact om'|fail
 ·rw[a4S,a4w (i:=i) (by omega) (show vNe a.V b.V i=true by rw[vNe,vEq,hc];rfl)];simp
 ·exact nx0 ⟨i+1,by omega,a2c ha (show vNe a.V b.V i=false by rw[vNe,vEq,hc.1,hc.2];rfl)⟩
 ·obtain rfl:i=a.V.length:=by omega
  rw[a4S,ha,W9 hl];rfl
noncomputable def a3F:CT:=o8 (fun(x:d5×d5)=>a8W x.1 x.2)
@[go_sem] def b9O:=fun x0 x1=>nm' (fQ' a3F rfl (⟨x0⟩,⟨x1⟩))
def a1b(l:List d5)(r:d5):Bool:=l.any fun x=>decide (x.V=r.V)
def b6u(l:List d5)(r:d5):spZ 268 [(false,[a2x l]),(true,[u6 r.V])] [] (.one (false,[.b (a1b l r)])):=by
 refine sy' Tryz.func268 (q' 3 [aX 1 1,aU false] (.seq (q' 6 [am 0,aN,aK 0] (fO 0 9 [ar 8 7] 9 1 (q' 10 [am 8,aV 5] (.seq (G' 11 [aM [0,5],aI 1,aE 1,ae 1 3,ac 318 [14,15]]) (ci 16 (q' 4 [aU true] .ret)))) (g' 17 [aA 8]))) (q' 4 [aU false] .ret))) [.t 4] [(318,[],a3F)] ?_;intro hb hE;simp only[go_sem];repeat' first|apply cj'|intro hc|exact om'|fail
 refine lq' false [0,3,7] [6] [] (fun i:{i:Nat // i<=l.length/\(l.take i).any (fun x=>decide (x.V=r.V))=false}=>[(8,slV (.i .i64 i.1))]) nl' nl' (fun i=>l.length-i.1) (⟨0,by simp⟩) ?_;intro S0 hS0 i;obtain⟨i,hi,ha⟩:=i;simp only[go_sem,hS0];repeat' first|apply cj'|intro hc|exact om'|fail
 ·rw[a1b,any_true (p:=fun x:d5=>decide (x.V=r.V)) (d:=default) (i:=i) (by omega) (W9 hc)]
 ·exact nx0 ⟨i+1,by omega,a1J (p:=fun x:d5=>decide (x.V=r.V)) default (by omega) ha (V2 hc)⟩
 ·rw[k7 (by omega)]at ha;rw[a1b,ha]
noncomputable def a4d:CT:=o8 (fun(x:(List d5)×d5)=>b6u x.1 x.2)
@[go_sem] def c5Z:=fun l x0=>nm' (fQ' a4d rfl (l,⟨x0⟩))
def b8L(s:d7)(n:List UInt8)(r:d5):spZ 258 [(true,[v9 s.Rels]),(false,[.s n]),(true,[u6 r.V])] [] (.one (false,[.b (a1b (z5 s n).1.Rows r)])):=by
 refine sy' Tryz.func258 (q' 5 [ax (o' 3 (.box 1 (.t 0))),aX 1 2,aU false] (q' 10 [ae 1 3,am 1,ac 162 [10,11],aV 9,aZ 9 0,aZ 9 1,ax (w' 7 [.i .i64,.sl u2]),aS 2 7 13,aV 8] (q' 15 [aG 1 7,ae 1 5,ac 268 [16,17],aV 6] .ret))) [.t 6] [(162,[],a4f),(268,[],a4d)] ?_;intro hb hE;simp only[go_sem];repeat' first|apply cj'|intro hc|exact om'|fail
noncomputable def a8G:CT:=o8 (fun(x:d7×(List UInt8)×d5)=>b8L x.1 x.2.1 x.2.2)
@[go_sem] def c7t:=fun x0 n x1=>nm' (fQ' a8G rfl (⟨x0⟩,n,⟨x1⟩))
abbrev bsP(l:List d5)(t:d5)(k:Nat):Bool:=decide (0<=a1G (l.getD k default).V t.V)
abbrev bsN(l:List d5)(t:d5):Nat:=a0R l.length (bsP l t)
def mid_eq{i j:Nat}(h:i+j<=4000000):IntKind.i64.wrap ((IntKind.u64.wrap (IntKind.i64.wrap ((i:Int)+j))).fdiv (2^min 1 64))=(((i+j)/2:Nat):Int):=by
 have e1:IntKind.i64.wrap ((i:Int)+j)=(i:Int)+j:=IntWalk.i64_in _ (by omega);have e2:IntKind.u64.wrap ((i:Int)+j)=(i:Int)+j:=IntWalk.u64_in _ (by omega);have e3:(2:Int)^min 1 64=2:=by decide
 rw[e1,e2,e3,Int.fdiv_eq_ediv_of_nonneg _ (by decide)];have e4:IntKind.i64.wrap (((i:Int)+j)/2)=((i:Int)+j)/2:=IntWalk.i64_in _ (by omega);rw[e4];omega
def bs_end{l:List d5}{t:d5}{i:Nat}(hi:i<=l.length)(ha:∀k,k<i->bsP l t k=false)(hz:∀k,i<=k->k<l.length->bsP l t k=true):bsN l t=i:=by
 by_cases h:i<l.length
 ·exact a2w ha (hz i (q0C _) h) h
 ·have:i=l.length:=by omega
  subst this;exact a3J ha
def k_bsRow(l:List d5)(t:d5)(hpre:l.length<=1000000/\∀a b,a<=b->b<l.length->a1G (l.getD b default).V t.V<0->a1G (l.getD a default).V t.V<0):spZ 264 [(false,[a2x l]),(true,[u6 t.V]),(false,[.f 173 []])] [] (.tup [(false,[.i .i64 (((bsN l t:Nat),decide (bsN l t<l.length)&&a1G (l.getD (bsN l t) default).V t.V==0).1)]),(false,[.b (((bsN l t:Nat),decide (bsN l t<l.length)&&a1G (l.getD (bsN l t) default).V t.V==0).2)])]):=by
 refine sy' Tryz.func264 (q' 4 [aX 1 1,az 6 0,ab 7 false] (q' 12 [am 0,aN,aV 8] (q' 9 [aV 14,aK 0,am 14] (.seq (lO 0 (.seq (q' 15 [aM [9,10],ar 15 16] (cd 17 .skip (.exit 0))) (.block 1 (q' 18 [aM [9,10],aD .add 18 19,ao (.cv .u64 (.t 20)),ao (.bin .shr (.t 21) (.k (.v false [.c (.i .u64 1)]))),ao (.cv .i64 (.t 22)),aV 11] (.seq (G' 24 [aM [2,0,11],aI 1,aE 1,ae 1 4,ao (.callv (.t 24) [.t 28,.t 29]),aC .lss 30 0]) (cd 31 (g' 32 [am 11,aC .add 32 1,aV 9]) (g' 34 [am 11,aV 10]))))))) (.seq (G' 35 [aM [9,9,8],ar 36 37,am 38,aH 39 true [bm 2,bm 0,bm 9,bI 1,bE 1,be 1 4,bo (.callv (.t 40) [.t 44,.t 45]),bC .eql 46 0],aP 39 47,av 6 35,aV 7]) .ret))))) [.t 6,.t 7] [(173,[],a5b)] ?_;intro hb hE;obtain⟨hlen,hmo⟩:=hpre;simp only[go_sem];repeat' first|apply cj'|intro hc|exact om'|fail
 refine lq' false [0,2,4,8] [8] [] (fun i:{p:Nat×Nat // p.1<=p.2/\p.2<=l.length/\(∀k,k<p.1->bsP l t k=false)/\(∀k,p.2<=k->k<l.length->bsP l t k=true)}=>[(9,slV (.i .i64 i.1.1)),(10,slV (.i .i64 i.1.2))]) nl' nl' (fun i=>i.1.2-i.1.1) (⟨(0,l.length),by simp,by simp,by intro k h;simp at h,by intro k h1 h2;simp at h1;omega⟩) ?_;intro S0 hS0 i;obtain⟨⟨i,j⟩,hij,hj,ha,hz⟩:=i;simp only at hij hj ha hz;have hm:=mid_eq (i:=i) (j:=j) (by omega);simp only[go_sem,hS0,hm];repeat' first|apply cj'|intro hc|exact om'|fail
 ·have h1:∀k,k<(i+j)/2+1->bsP l t k=false:=by
   intro k hk;have:=hmo k ((i+j)/2) (by omega) (by omega) hc;exact V2 (by omega)
  (refine lpK_n2 (⟨((i+j)/2+1,j),by simp only;omega,hj,h1,hz⟩) _ rfl ?_;simp only[go_sem,hS0,hm]<;>repeat' first|apply V0|exact on'|fail)
 ·have h1:∀k,(i+j)/2<=k->k<l.length->bsP l t k=true:=by
   intro k hk hl;refine W9 ?_;have:¬a1G (l.getD k default).V t.V<0:=fun h=>hc (hmo _ k hk hl h)
   omega
  (refine lpK_n2 (⟨(i,(i+j)/2),by simp only;omega,by simp only;omega,ha,h1⟩) _ rfl ?_;simp only[go_sem,hS0,hm]<;>repeat' first|apply V0|exact on'|fail)
 ·have hz':∀k,i<=k->k<l.length->bsP l t k=true:=fun k h1 h2=>hz k (by omega) h2
  rw[bs_end (by omega) ha hz'];refine⟨rfl, ?_⟩
  congr 1
  exact decide_eq_decide.2 (by omega)
noncomputable def c3t:CT:=s6 (fun(x:(List d5)×d5) h=>k_bsRow x.1 x.2 h)
@[go_sem] def c_bsRow_eq:=fun l x0=>nm' (fP' c3t rfl (l,⟨x0⟩))
def c0B(r:f5)(t:d5)(hpre:r.Rows.length<=1000000/\∀a b,a<=b->b<r.Rows.length->a1G (r.Rows.getD b default).V t.V<0->a1G (r.Rows.getD a default).V t.V<0):spZ 176 [(true,[.i .i64 r.Arity,a2x r.Rows]),(true,[u6 t.V])] [] (.tup [(false,[.i .i64 (((bsN r.Rows t:Nat),decide (bsN r.Rows t<r.Rows.length)&&a1G (r.Rows.getD (bsN r.Rows t) default).V t.V==0).1)]),(false,[.b (((bsN r.Rows t:Nat),decide (bsN r.Rows t<r.Rows.length)&&a1G (r.Rows.getD (bsN r.Rows t) default).V t.V==0).2)])]):=by
 refine sy' Tryz.func176 (q' 2 [aX 2 0,aX 1 1,aK 0,aU false] (q' 6 [aG 1 2,ae 1 3,ao (.call 264 [.t 7,.t 8,.k (.v false [.c (.f 173 [])])]),aZ 9 0,aZ 9 1,av 4 10,aV 5] .ret)) [.t 4,.t 5] [(264,[],c3t)] ?_;intro hb hE;obtain⟨hlen,hmo⟩:=hpre;simp only[go_sem];repeat' first|apply cj'|intro hc|exact om'|fail
 all_goals exact⟨hlen,hmo⟩
noncomputable def b0K:CT:=s6 (fun(x:f5×d5) h=>c0B x.1 x.2 h)
@[go_sem] def c8l:=fun x0 x1 x2=>nm' (fP' b0K rfl (⟨x0,x1⟩,⟨x2⟩))
def b9F{x y:List UInt8}(h:Op.bytesLess x y=true):(y==[])=false:=by
 cases y with
 | nil=>cases x<;>simp[Op.bytesLess]at h
 | cons a y=>rfl
def c9y{a b c:d4}(h1:v8 a b=true)(h2:v8 b c=true):v8 a c=true:=by
 unfold v8 at*;cases ha:(a.S==[])<;>cases hb:(b.S==[])<;>cases hc:(c.S==[])<;>simp only[ha,hb,hc,q1F,q2N,Bool.false_and,q1D,W5,W3,V9]at h1 h2 ⊢;all_goals first
  | (rw[b9F h1]at hb;exact absurd hb (by decide))
  | (rw[b9F h2]at hc;exact absurd hc (by decide))
  | omega
  | exact a4Q _ _ _ h1 h2
  | (rw[beq_iff_eq]at ha;rw[ha];cases hcs:c.S with
      | nil=>rw[hcs]at hc;cases hc
      | cons x y=>rfl)
def c3k{a b:d4}(ha:k9 a=true)(hb:k9 b=true)(h1:v8 a b=false)(h2:v8 b a=false):a=b:=by
 have:=b0B ha hb;rw[h1,h2,q3C]at this;exact c9x (by simpa using this)
abbrev okL(a:List d4):Prop:=∀x∈a,k9 x=true
def okL.tl{x:d4}{a:List d4}(h:okL (x::a)):okL a:=fun y hy=>h y (by simp[hy])
def b8R:∀{a b c:List d4},okL a->okL b->okL c->a0W a b=-1->a0W b c=-1->a0W a c=-1
 | [],[],_,_,_,_,h,_=>by simp[a0W]at h
 | [],y::b,[],_,_,_,_,h=>by simp[a0W]at h
 | [],y::b,z::c,_,_,_,_,_=>rfl
 | x::a,[],_,_,_,_,h,_=>by simp[a0W]at h
 | x::a,y::b,[],_,_,_,_,h=>by simp[a0W]at h
 | x::a,y::b,z::c,ha,hb,hc,h1,h2=>by
   have hx:=ha x (by simp);have hy:=hb y (by simp);have hz:=hc z (by simp);rw[a0W]at h1 h2 ⊢;cases e1:v8 x y with
   | true=>
     cases e2:v8 y z with
     | true=>rw[c9y e1 e2];rfl
     | false=>
       rw[e2,W3]at h2;cases e3:v8 z y with
       | true=>rw[e3,W5]at h2;omega
       | false=>rw[<-c3k hy hz e2 e3,e1];rfl
   | false=>
     rw[e1,W3]at h1;cases e3:v8 y x with
     | true=>rw[e3,W5]at h1;omega
     | false=>
       rw[e3,W3]at h1;have:=c3k hx hy e1 e3;subst this;cases e2:v8 x z with
       | true=>rfl
       | false=>
         rw[e2,W3]at h2;cases e4:v8 z x with
         | true=>rw[e4,W5]at h2;omega
         | false=>
           rw[e4,W3]at h2;exact b8R ha.tl hb.tl hc.tl h1 h2
def b7t:∀{a b:List d4},okL a->okL b->(a0W a b=0↔a=b)
 | [],[],_,_=>by simp[a0W]
 | [],y::b,_,_=>by simp[a0W]
 | x::a,[],_,_=>by simp[a0W]
 | x::a,y::b,ha,hb=>by
   have ih:=b7t ha.tl hb.tl;rw[a0W];cases e1:v8 x y with
   | true=>
     simp only[W5,V1];refine⟨fun h=>by omega,fun h=>?_⟩;have h3:=b0B (ha x (by simp)) (hb y (by simp));rw[<-h.1]at e1 h3;rw[e1]at h3;simp at h3
   | false=>
     cases e2:v8 y x with
     | true=>
       simp only[W5,W3,V1];refine⟨fun h=>by omega,fun h=>?_⟩;rw[h.1]at e1 e2;rw[e1]at e2;cases e2
     | false=>
       have:=c3k (ha x (by simp)) (hb y (by simp)) e1 e2;subst this;simpa using ih
def c3h{r:f5}(h:a0y r=true):∀{b a:Nat},a<b->b<r.Rows.length->a0W (r.Rows.getD a default).V (r.Rows.getD b default).V=-1:=by
 have hN:∀i,i<r.Rows.length->a0E r i=false:=by
  intro i hi;simp only[a0y,W6,q0T]at h;exact a3A h.2 hi
 have hO:∀i,i<r.Rows.length->okL (r.Rows.getD i default).V:=fun i hi=>a0m (a2k (hN i hi))
 intro b
 induction b with
 | zero=>intro a h;omega
 | succ b ih=>
   intro a hab hb;have hs:a0W (r.Rows.getD b default).V (r.Rows.getD (b+1) default).V=-1:=by
    have:=hN (b+1) hb;simp only[a0E,q0Y,Nat.zero_lt_succ,decide_true,q0K,q1G,beq_iff_eq,Nat.add_sub_cancel]at this;exact this.2
   rcases q2S.1 hab with h1|rfl
   ·exact b8R (hO a (by omega)) (hO b (by omega)) (hO _ hb) (ih h1 (by omega)) hs
   ·exact hs
def a2S{r:f5}(h:a0y r=true){i:Nat}(hi:i<r.Rows.length):okL (r.Rows.getD i default).V:=by
 simp only[a0y,W6,q0T]at h;exact a0m (a2k (a3A h.2 hi))
def b8a{a b:List d4}(ha:okL a)(hb:okL b):a1G a b<0↔a0W a b=-1:=by
 have h:=a9l ha hb;unfold sgn at h;omega
def b7Z{a b:List d4}(ha:okL a)(hb:okL b):a1G a b=0↔a=b:=by
 have h:=a9l ha hb;rw[<-b7t ha hb];unfold sgn at h;omega
def c9h{r:f5}(h:a0y r=true){t:d5}(ht:a0V t=true):∀a b,a<=b->b<r.Rows.length->a1G (r.Rows.getD b default).V t.V<0->a1G (r.Rows.getD a default).V t.V<0:=by
 intro a b hab hb hl;rcases Nat.lt_or_eq_of_le hab with h1|rfl
 ·rw[b8a (a2S h hb) (a0m ht)]at hl;rw[b8a (a2S h (by omega)) (a0m ht)];exact b8R (a2S h (by omega)) (a2S h hb) (a0m ht) (c3h h h1 hb) hl
 ·exact hl
def rel_has{r:f5}(h:a0y r=true){t:d5}(ht:a0V t=true):(decide (bsN r.Rows t<r.Rows.length)&&a1G (r.Rows.getD (bsN r.Rows t) default).V t.V==0)=a1b r.Rows t:=by
 rw[q3K];constructor
 ·intro hh;simp only[W6,V9,beq_iff_eq]at hh;exact any_true (p:=fun x:d5=>decide (x.V=t.V)) (d:=default) hh.1 (W9 ((b7Z (a2S h hh.1) (a0m ht)).1 hh.2))
 ·intro hh;rw[a1b,q3N]at hh;obtain⟨x,hx,he⟩:=hh;obtain⟨k,hk,rfl⟩:=q2V hx;rw[V9]at he;have hg:=m9 (l:=r.Rows) default hk;have e:bsN r.Rows t=k:=by
   refine a2w (fun j hj=>?_) ?_ hk
   ·refine V2 ?_;have:=(b8a (a2S h (show j<r.Rows.length by omega)) (a0m ht)).2 (by
     have:=c3h h hj hk;rw[hg,he]at this;exact this)
    omega
   ·refine W9 ?_;rw[hg,(b7Z (by rw[<-hg];exact a2S h hk) (a0m ht)).2 he];omega
  rw[e,W9 hk,hg,(b7Z (by rw[<-hg];exact a2S h hk) (a0m ht)).2 he];rfl
def c3c(r:f5)(t:d5)(hpre:a0y r=true/\a0V t=true):spZ 86 [(true,[.i .i64 r.Arity,a2x r.Rows]),(true,[u6 t.V])] [] (.one (false,[.b (a1b r.Rows t)])):=by
 refine sy' Tryz.func86 (q' 2 [aX 2 0,aX 1 1,aU false] (q' 8 [ae 2 2,ae 1 3,ac 176 [8,9],aV 7,aZ 7 0,aZ 7 1,av 5 11,aV 6] (q' 13 [am 6,aV 4] .ret))) [.t 4] [(176,[],b0K)] ?_;intro hb hE;obtain⟨hR,hT⟩:=hpre;simp only[go_sem];repeat' first|apply cj'|intro hc|exact om'|fail
 ·exact⟨by have:=a6W hR;omega,c9h hR hT⟩
 ·exact rel_has hR hT
noncomputable def a7W:CT:=s6 (fun(x:f5×d5) h=>c3c x.1 x.2 h)
@[go_sem] def c9K:=fun x0 x1 x2=>nm' (fP' a7W rfl (⟨x0,x1⟩,⟨x2⟩))
def bodyN(r:c7):List (List UInt8):=((a1t r).drop 1).map f8.Name
def c8O(p:d9)(a:List UInt8)(r:c7):Bool:=(r.Kind==1&&b8M p r.Head.Name==3)&&r.Head.Name==a
def a2N(p:d9)(a:List UInt8):List (List UInt8):=(p.Rules.filter (c8O p a)).flatMap bodyN
inductive Rch(p:d9)(a:List UInt8):List UInt8->Prop
 | one {b:List UInt8}:b∈a2N p a->Rch p a b
 | step {b c:List UInt8}:Rch p a b->c∈a2N p b->Rch p a c
def b6M(p:d9):List (List UInt8):=p.Rules.flatMap bodyN
def b4W{p:d9}{a b:List UInt8}(h:b∈a2N p a):b∈b6M p:=by
 obtain⟨r,hr,hb⟩:=q1W.1 h;exact q1W.2 ⟨r,(q1H.1 hr).1,hb⟩
def Rch.all{p:d9}{a b:List UInt8}(h:Rch p a b):b∈b6M p:=by
 cases h with
 | one h=>exact b4W h
 | step _ h=>exact b4W h
def Rch.mem{p:d9}{a:List UInt8}{l:List (List UInt8)}(h1:∀x∈a2N p a,x∈l)(h2:∀x∈l,∀y∈a2N p x,y∈l){b:List UInt8}(h:Rch p a b):b∈l:=by
 induction h with
 | one h=>exact h1 _ h
 | step _ h ih=>exact h2 _ ih _ h
open Classical in
noncomputable def reachS(p:d9)(a:List UInt8):List (List UInt8):=(t9 sLt [] (b6M p)).filter fun v=>decide (Rch p a v)
noncomputable def leans(p:d9)(a b:List UInt8):Bool:=(c2M p).1==0&&(reachS p a).contains b
def a4r(o l:List (List UInt8)):List (List UInt8):=l.foldl (fun o y=>if y∈o then o else o++[y]) o
def b3s:∀(l o:List (List UInt8)),∃s,a4r o l=o++s/\(∀x∈s,x∈l)
 | [],o=>⟨[],by simp[a4r],by simp⟩
 | y::l,o=>by
   by_cases h:y∈o
   ·obtain⟨s,e,hs⟩:=b3s l o;exact⟨s,by rw[<-e];simp[a4r,h],fun x hx=>q2J _ (hs x hx)⟩
   ·obtain⟨s,e,hs⟩:=b3s l (o++[y]);refine⟨y::s, ?_, ?_⟩
    ·have:a4r o (y::l)=a4r (o++[y]) l:=by simp[a4r,h]
     rw[this,e];simp
    ·intro x hx;rcases q0A.1 hx with rfl|hx
     ·simp
     ·exact q2J _ (hs x hx)
def a4s{l o:List (List UInt8)}{x:List UInt8}:x∈a4r o l↔x∈o\/x∈l:=by
 induction l generalizing o with
 | nil=>simp[a4r]
 | cons y l ih=>
   have e:a4r o (y::l)=a4r (if y∈o then o else o++[y]) l:=rfl;rw[e,ih];by_cases h:y∈o
   ·simp only[h,if_true,q0A];constructor
    ·rintro(h1|h1);exact .inl h1;exact .inr (.inr h1)
    ·rintro(h1|rfl|h1);exact .inl h1;exact .inl h;exact .inr h1
   ·rw[if_neg h,W8,q0B,q0A,or_assoc]
def a7T:∀{l o:List (List UInt8)},o.Nodup->(a4r o l).Nodup
 | [],o,h=>h
 | y::l,o,h=>by
   have e:a4r o (y::l)=a4r (if y∈o then o else o++[y]) l:=rfl;rw[e];by_cases hy:y∈o
   ·rw[if_pos hy];exact a7T h
   ·rw[if_neg hy];refine a7T (q0D.2 ⟨h,by simp, ?_⟩);intro a ha b hb;rw[q0B]at hb;rintro rfl;exact hy (hb▸ha)
def univ(p:d9):Nat:=(b6M p).length
structure FInv(p:d9)(v:List UInt8)(k:Nat)(o n:List (List UInt8)):Prop where
 nd:o.Nodup
 un:∀x∈o,x∈b6M p
 ok:∀x∈o,Rch p v x
 nx:∀x∈n,x=v\/x∈o
 cl:∀x,x=v\/x∈o->x∈n\/∀y∈a2N p x,y∈o
 ms:n=[]\/k+2*(univ p-o.length)+n.length<=2*univ p+1
def b0t{α:Type}[DecidableEq α]:∀{l m:List α},l.Nodup->(∀x∈l,x∈m)->l.length<=m.length
 | [],_,_,_=>q2I _
 | x::l,m,h,hm=>by
   rw[q1C]at h;have h1:=b0t (l:=l) (m:=m.erase x) h.2 fun y hy=>(List.mem_erase_of_ne (fun e=>h.1 (by rw[<-e];exact hy))).2 (hm y (by simp[hy]))
   have h2:=List.length_erase_of_mem (hm x (by simp));have h3:0<m.length:=List.length_pos_of_mem (hm x (by simp));simp only[V3];omega
def FInv.step{p:d9}{v:List UInt8}{k:Nat}{o r:List (List UInt8)}{x:List UInt8}(h:FInv p v k o (x::r)):FInv p v (k+1) (a4r o (a2N p x)) (r++(a4r o (a2N p x)).drop o.length):=by
 obtain⟨s,e,hs⟩:=b3s (a2N p x) o;have hd:(a4r o (a2N p x)).drop o.length=s:=by rw[e];simp
 have hx:x=v\/Rch p v x:=(h.nx x (by simp)).imp id (h.ok x);have hR:∀y∈a2N p x,Rch p v y:=fun y hy=>by
  rcases hx with rfl|hx
  ·exact .one hy
  ·exact .step hx hy
 have hun:∀y∈a4r o (a2N p x),y∈b6M p:=fun y hy=>(a4s.1 hy).elim (h.un y) b4W
 have hnd:=a7T (l:=a2N p x) h.nd;refine⟨hnd,hun,fun y hy=>(a4s.1 hy).elim (h.ok y) (hR y), ?_, ?_, ?_⟩
 ·intro y hy;rw[hd]at hy;rcases W8.1 hy with hy|hy
  ·exact(h.nx y (by simp[hy])).imp id fun hy=>a4s.2 (.inl hy)
  ·exact .inr (a4s.2 (.inr (hs y hy)))
 ·intro y hy;rw[hd];have old:y=v\/y∈o->y∈r++s\/∀z∈a2N p y,z∈a4r o (a2N p x):=by
   intro hy;rcases h.cl y hy with h1|h1
   ·rcases q0A.1 h1 with rfl|h1
    ·exact .inr fun z hz=>a4s.2 (.inr hz)
    ·exact .inl (W8.2 (.inl h1))
   ·exact .inr fun z hz=>a4s.2 (.inl (h1 z hz))
  rcases hy with hy|hy
  ·exact old (.inl hy)
  ·rw[e]at hy;rcases W8.1 hy with hy|hy
   ·exact old (.inr hy)
   ·exact .inl (W8.2 (.inr hy))
 ·right;have h1:=b0t hnd hun;have h2:(a4r o (a2N p x)).length=o.length+s.length:=by rw[e,W4]
  have h3:=h.ms.resolve_left (by simp);rw[hd];simp only[V3,W4,univ]at h1 h3 ⊢;omega
def nextF(p:d9)(a:List UInt8)(n:Nat):List (List UInt8):=((p.Rules.take n).filter (c8O p a)).flatMap bodyN
@[go_sem] def nextF_zero(p:d9)(a:List UInt8):nextF p a 0=[]:=rfl
@[go_sem] def putsN_nil(l:List (List UInt8)):t9 sLt l []=l:=rfl
@[go_sem] def addL_nil(o:List (List UInt8)):a4r o []=o:=rfl
@[go_sem] def c9F(l o:List (List UInt8)):l++List.drop o.length o=l:=by simp
def vwN(p:d9):List (List UInt8):=(p.Decls.filter fun d=>d.Kind==3).map i3.Name
def vwS(p:d9):List (List UInt8):=t9 sLt [] (vwN p)
abbrev Lev:=List UInt8->Int
def upd(g:Lev)(v:List UInt8)(n:Int):Lev:=fun x=>if x=v then n else g x
def negL(l:d6):Int:=if l.Kind=2 then 1 else 0
def litFx(p:d9)(g:Lev)(h:List UInt8)(l:d6):Prop:=l.Kind≠3->l.Atom.Name∈vwS p->g l.Atom.Name+negL l<=g h
def ruleFx(p:d9)(g:Lev)(r:c7):Prop:=r.Head.Name∈vwS p->∀l∈r.Body,litFx p g r.Head.Name l
def Fx(p:d9)(g:Lev):Prop:=∀r∈p.Rules,ruleFx p g r
structure Low(p:d9)(g:Lev):Prop where
 ge:∀v,0<=g v
 mn:∀F,Fx p F->(∀v,0<=F v)->∀v∈vwS p,g v<=F v
structure Least(p:d9)(g:Lev):Prop where
 fx:Fx p g
 low:Low p g
 le:∀v∈vwS p,g v<=(vwS p).length
def Low.zero(p:d9):Low p fun _=>0:=⟨fun _=>Int.le_refl _,fun F _ h v _=>h v⟩
def Low.up{p:d9}{g:Lev}(h:Low p g){r:c7}(hr:r∈p.Rules)(hh:r.Head.Name∈vwS p){l:d6}(hl:l∈r.Body)(hk:l.Kind≠3)(hb:l.Atom.Name∈vwS p):Low p (upd g r.Head.Name (g l.Atom.Name+negL l)):=by
 have hn:0<=negL l:=by unfold negL;split<;>omega
 refine⟨fun v=>?_,fun F hF hF0 v hv=>?_⟩
 ·unfold upd;split
  ·have:=h.ge l.Atom.Name;omega
  ·exact h.ge v
 ·unfold upd;split
  ·rename_i e;subst e;have h1:=hF r hr hh l hl hk hb;have h2:=h.mn F hF hF0 _ hb;omega
  ·exact h.mn F hF hF0 v hv
end Go.Aw
namespace Go.Aw
set_option maxHeartbeats 4000000
open Go.Proofs Go.Shelf Go.RowKit Go.Sort
attribute [local irreducible] aft blk lpK retK AW A0p
set_option linter.all false
set_option maxRecDepth 100000
end Go.Aw
namespace Go.Aw
set_option maxHeartbeats 4000000
open Go.Proofs
attribute [local irreducible] aft blk lpK retK AW A0p
set_option linter.all false
set_option maxRecDepth 100000
def a1s(n:List UInt8)(v:d8)(q:List d8×Bool)(x:d8):List d8×Bool:=((bif !q.2&&!sLt x.Name n then q.1++[v]else q.1)++(bif x.Name==n then[]else[x]),q.2||!sLt x.Name n)
def a7E(n:List UInt8)(v:d8)(l:List d8):List d8×Bool:=l.foldl (a1s n v) ([],false)
def a2K(l:List d8)(n:List UInt8)(v:d8):List d8:=bif (a7E n v l).2 then(a7E n v l).1 else(a7E n v l).1++[v]
def a5e(n:List UInt8)(v:d8){l:List d8}{i:Nat}(h:i<l.length):a7E n v (l.take (i+1))=a1s n v (a7E n v (l.take i)) (l.getD i default):=by
 rw[l9 default h,a7E,q3X];rfl
def c4u(n:List UInt8)(v:d8):∀(A q:List d8),(∀x∈A,sLt x.Name n=true)->A.foldl (a1s n v) (q,false)=(q++A,false)
 | [],q,_=>by simp
 | x::A,q,h=>by
   have hx:=h x (by simp);have hne:(x.Name==n)=false:=beq_eq_false_iff_ne.2 (a0b.ne hx);rw[q2R,a1s,hx,hne];have:=c4u n v A (q++[x]) fun y hy=>h y (by simp[hy])
   simpa using this
def b0a(n:List UInt8)(v:d8):∀(B q:List d8),B.foldl (a1s n v) (q,true)=(q++B.filter fun x=>!(x.Name==n),true)
 | [],q=>by simp
 | x::B,q=>by
   rw[q2R,a1s];cases h:(x.Name==n)with
   | true=>
     have:=b0a n v B q;simpa[h]using this
   | false=>
     have:=b0a n v B (q++[x]);simpa[h]using this
def c9v{α:Type}{q:α->Bool}:∀{l:List α} {x:α},x∈l.takeWhile q->q x=true
 | [],x,h=>by simp at h
 | a::l,x,h=>by
   rw[q1Z]at h;split at h
   ·rename_i ha;rcases q0A.1 h with rfl|h
    ·exact ha
    ·exact c9v h
   ·simp at h
def c4M(l:List d8)(n:List UInt8)(v:d8):a2K l n v=l.takeWhile (fun x=>sLt x.Name n)++v::(l.dropWhile fun x=>sLt x.Name n).filter fun x=>!(x.Name==n):=by
 have e:a7E n v l=(l.dropWhile fun x=>sLt x.Name n).foldl (a1s n v) (l.takeWhile (fun x=>sLt x.Name n),false):=by
  have h0:=c4u n v (l.takeWhile fun x=>sLt x.Name n) [] fun x hx=>c9v (q:=fun x:d8=>sLt x.Name n) hx
  rw[q1P]at h0;rw[<-h0,<-q3X,q1Q];rfl
 rw[a2K,e];cases hB:l.dropWhile fun x=>sLt x.Name n with
 | nil=>simp
 | cons b B=>
   have hb:=a3o hB;rw[q2R,a1s,hb];simp only[q2Z,q1F,W5,q5L];rw[b0a];cases hn:(b.Name==n)with
   | true=>simp[hn]
   | false=>simp[hn]
def c8U{l:List d8}{n:List UInt8}{v x:d8}(h:x∈a2K l n v):x=v\/x∈l:=by
 rw[c4M]at h;rcases W8.1 h with h|h
 ·exact .inr (List.takeWhile_sublist _ |>.mem h)
 ·rcases q0A.1 h with h|h
  ·exact .inl h
  ·exact .inr (List.dropWhile_sublist _ |>.mem (q1H.1 h).1)
set_option maxHeartbeats 40000000
attribute [local irreducible] RM
def c8N(n x:List UInt8):(Op.bytesLess n x||n==x)=!sLt x n:=by
 cases h1:Op.bytesLess n x with
 | true=>
   cases h2:sLt x n with
   | true=>have h3:=a4Q _ _ _ h1 h2;rw[a1k]at h3;cases h3
   | false=>rfl
 | false=>
   cases h2:sLt x n with
   | true=>
     have:(n==x)=false:=beq_eq_false_iff_ne.2 fun e=>by subst e;have h3:sLt n n=false:=a1k n;rw[h3]at h2;cases h2
     rw[this];rfl
   | false=>rw[a4R _ _ h1 h2];simp
def b7z{n:List UInt8}{v x:d8}{q1:List d8}{q2:Bool}(h:q2=false/\(Op.bytesLess n x.Name=true\/(n==x.Name)=true)):a1s n v (q1,q2) x=(q1++[v]++(bif x.Name==n then[]else[x]),true):=by
 have h2:(!sLt x.Name n)=true:=by rw[<-c8N,q1Y];exact h.2
 rw[a1s,h.1,h2];rfl
def c1h{n:List UInt8}{v x:d8}{q1:List d8}{q2:Bool}(h:(!q2&&(Op.bytesLess n x.Name||n==x.Name))=false):a1s n v (q1,q2) x=(q1++(bif x.Name==n then[]else[x]),q2):=by
 rw[c8N]at h;rw[a1s,h,W3];cases q2 with
 | true=>rfl
 | false=>
   have h2:(!sLt x.Name n)=false:=by simpa using h
   rw[h2];rfl
def b7a(n:List UInt8)(v:d8):∀(l q:List d8) (b:Bool),(l.foldl (a1s n v) (q,b)).1.length<=q.length+2*l.length
 | [],q,b=>by simp
 | x::l,q,b=>by
   rw[q2R];have h:=b7a n v l (a1s n v (q,b) x).1 (a1s n v (q,b) x).2;have h2:(a1s n v (q,b) x).1.length<=q.length+2:=by
    simp only[a1s];cases !b&&!sLt x.Name n<;>cases x.Name==n<;>simp<;>omega
   have e:((a1s n v (q,b) x).1,(a1s n v (q,b) x).2)=a1s n v (q,b) x:=rfl;rw[e]at h;simp only[V3];omega
end Go.Aw
namespace Go.Aw
open Go.Proofs Go.Lib
set_option linter.all false
set_option maxRecDepth 100000
set_option maxHeartbeats 4000000
abbrev a9s:Value:=.agg #[.string ⟨#[]⟩,.int .i64 0,.string ⟨#[]⟩]
def c0s(w:World)(a:Option Addr)(n c:Nat)(ax:Addr)(cx:Nat)(v':Value)(w':World)(hr:(Builtin.append_ #[59,59] 59 #[.slice a n c,.slice (some ax) 1 cx]).run Tryz.prog w=.ok v' w'):
  Calls Tryz.prog 303 #[.slice a n c,.int .i64 n,.slice (some ax) 1 cx] w fun x w''=>x=.returned v'/\w''=w':=by
 have hz1:¬(((1:Nat):Int)=0):=by omega
 have u0:=run_underlying Tryz.underlying59
 go_enter Tryz.func303,Tryz.ntmps303
 go_wp2_with (at_builtin;refine b4a _ rfl _ _ 59 59 rfl _ _ rfl rfl hr ?_)
 all_goals(try go_ret)
 all_goals(first|exact⟨rfl,rfl⟩)
def a8O:(Tryz.prog.info? 111).map (fun i=>(i.zero,i.size,i.bytes))=some (some a9s,3,40):=by kernel_rfl
def b5W(b o n c i vb vo vc:Nat)(cs vs:List Value)(w:World)(hi:i<n)(hroom:n+1<=c)(hcm:c<=maxLen)(hvb:vb≠b)(hcl:cs.length=n*3)(hvl:vs.length=3)(hcs:CellsAt w b o cs)(hvs:CellsAt w vb vo vs)(hob:OwnBlk w b (o+c*3))(hov:OwnBlk w vb (vo+3))(h1c:∀v∈cs,v.oneCell'=true)(h1v:∀v∈vs,v.oneCell'=true):
  Calls Tryz.prog 303 #[.slice (some ⟨b,o,none⟩) n c,.int .i64 i,.slice (some ⟨vb,vo,none⟩) 1 vc] w fun x w'=>x=.returned (.slice (some ⟨b,o,none⟩) (n+1) c)/\∃u,Drew w u/\w'=(u.setCells b (o+(i+1)*3) (cs.drop (i*3))).setCells b (o+i*3) vs:=by
 have u0:=run_underlying Tryz.underlying59;have hz1:¬(((1:Nat):Int)=0):=by omega
 have hz2:¬((i:Int)=(n:Int)):=by omega
 have mixed:Tryz.prog.follows Departure.mixedOrders=true:=by kernel_rfl
 simp only[maxLen]at hcm;have hsz:(Tryz.prog.info? 111).map (·.size)=some 3:=by kernel_rfl
 obtain⟨cb,eb,hb,hbs⟩:=hob;obtain⟨cv,ev,hv,hvs2⟩:=hov;have hcell:∀(W:World) (cc:Array Value),W.heap[b]? = some (.cells cc eb (0,0))->o+c*3<=cc.size->∀j,j<c*3->(W.cell? ⟨b,o+j,none⟩).isSome=true:=fun W cc h h2 j hj=>by
  simp only[World.cell?,h];rw[q1A (by omega)];rfl
 have hfz:∀(W:World) (cc:Array Value),W.heap[b]? = some (.cells cc eb (0,0))->∀x,W.frozen? ⟨b,x,none⟩=false:=fun W cc h x=>by simp[World.frozen?,h]
 have hov:∀lb cb',(callFunc 339 #[.slice (some ⟨vb,vo,none⟩) 1 vc,.slice (some ⟨b,o+(i+1)*3,none⟩) lb cb']).run Tryz.prog w=.ok (.value (.bool false)) w:=fun lb cb'=>by
  rw[run_callFunc_extern Tryz.func339 (by kernel_rfl) (by kernel_rfl) (by kernel_rfl) (e:=Extern.SlicesOverlaps.overlaps #[59,59] #[4]) (by kernel_rfl),
   Lib.run_overlaps_apart w 59 4 111 Tryz.underlying59 3 (fun w=>rfl) ⟨vb,vo,none⟩ ⟨b,o+(i+1)*3,none⟩ 1 vc lb cb' hvb ev eb cv.size cb.size (by simp[World.shape?,hv]) (by simp[World.shape?,hb]) (by omega) (by simp[World.frozen?,hv]) (by simp[World.frozen?,hv])]
  rfl
 have hdl:(cs.drop (i*3)).length=(n-i)*3:=by rw[q1O,hcl,Nat.sub_mul]
 have hw1:IntKind.i64.wrap ((i:Int)+1)=(i:Int)+1:=by rw[IntKind.wrap_i64];omega
 have hb1:(0:Int)<=(i:Int)+1:=by omega
 have hin:i<=n:=by omega
 have htn:((i:Int)+1).toNat=i+1:=by omega
 have hb2:¬(c=i+1):=by omega
 have hb3:(i:Int)<=(n:Int)+1:=by omega
 have hb4:¬(c=i):=by omega
 have hcp1:∀ty dc sc,(Builtin.copy_ #[59,59] ty #[.slice (some ⟨b,o+(i+1)*3,none⟩) (n-i) dc,.slice (some ⟨b,o+i*3,none⟩) (n+1-i) sc]).run Tryz.prog w.drew=.ok (goInt (Nat.min (n+1-i) (n-i))) (w.drew.setCells b (o+(i+1)*3) (cs.drop (i*3))):=fun ty dc sc=>
  a5i w.drew _ _ ty 111 3 b (o+(i+1)*3) _ dc ⟨b,o+i*3,none⟩ _ sc (cs.drop (i*3)) Tryz.underlying59 hsz (by rw[hdl];congr 1;simp only[Nat.min_def];split<;>omega)
   (fun j v hj=>by
     rw[List.getElem?_drop]at hj;obtain⟨hj',rfl⟩:=q0X.1 hj;rw[A0x,q3Y];exact hcs (i*3+j) hj')
   (fun j hj=>by rw[q3Y];exact hcell w.drew cb hb hbs _ (by omega)) (fun j hj=>hfz w.drew cb hb _) (fun v hv=>h1c v (q2P hv))
 obtain⟨W1,hW1⟩:∃W1,W1=w.drew.setCells b (o+(i+1)*3) (cs.drop (i*3)):=⟨_,rfl⟩
 have q1:=A0w b (cs.drop (i*3)) (o+(i+1)*3) w.drew cb hb (by omega);rw[<-hW1]at q1;have q2:W1.heap[vb]? = w.heap[vb]?:=by rw[hW1];exact(A0h b _ _ w.drew).1 vb hvb
 have hcp2:∀(W:World),W.heap=W1.heap->∀ty dc,(Builtin.copy_ #[59,59] ty #[.slice (some ⟨b,o+i*3,none⟩) (n+1-i) dc,.slice (some ⟨vb,vo,none⟩) 1 vc]).run Tryz.prog W=.ok (goInt (Nat.min 1 (n+1-i))) (W.setCells b (o+i*3) vs):=fun W hW ty dc=>
  a5i W _ _ ty 111 3 b (o+i*3) _ dc ⟨vb,vo,none⟩ 1 vc vs Tryz.underlying59 hsz (by rw[hvl];simp only[Nat.min_def];split<;>omega)
   (fun j v hj=>by
     obtain⟨hj',rfl⟩:=q0X.1 hj;rw[A0x,World.cell?_of_block (w:=w) (by rw[hW,q2])];exact hvs j hj')
   (fun j hj=>by rw[q3Y];exact hcell W _ (by rw[hW];exact q1) (by simp only[q1M,W4,V8,q1O,q1U];omega) _ (by omega)) (fun j hj=>hfz W _ (by rw[hW];exact q1) _) h1v
 rw[<-hW1]at hcp1
 go_enter Tryz.func303,Tryz.ntmps303
 go_wp2_with (simp only[hov])
 go_region_law_o (refine b3Z rfl _ _ 59 59 rfl _ _ (by simp[Act.eval,Act.put]) (by simp[Act.eval,Act.put]) (hcp1 _ _ _) ?_)
 go_wp2_with (at_builtin;refine b4b _ rfl _ _ 59 59 rfl _ _ rfl rfl (hcp2 _ rfl _ _) ?_)
 go_ret
 exact⟨rfl,w.drew,⟨rfl,rfl,⟨rfl,q4K _⟩,rfl⟩,rfl⟩
def b8r(b o n c i vb vo vc:Nat)(cs vs:List Value)(w:World)(hi:i<n)(hnc:n<=c)(hroom:c<n+1)(hcm:n<=1000000)(hvw:vb<w.heap.size)(hbw:b<w.heap.size)(hcl:cs.length=n*3)(hvl:vs.length=3)(hcs:CellsAt w b o cs)(hvs:CellsAt w vb vo vs)(h1c:∀v∈cs,v.oneCell'=true)(h1v:∀v∈vs,v.oneCell'=true):
  Calls Tryz.prog 303 #[.slice (some ⟨b,o,none⟩) n c,.int .i64 i,.slice (some ⟨vb,vo,none⟩) 1 vc] w fun x w'=>x=.returned (.slice (some ⟨w.heap.size,0,none⟩) (n+1) (grownCap w (n+1) c 111))/\
   ∃u,Drew (w.alloc (.cells ((cs.take (i*3)).toArray++Builtin.zeroCells a9s.cells (n+1-i)++Builtin.zeroCells a9s.cells (grownCap w (n+1) c 111-(n+1))) 111)) u/\w'=(u.setCells w.heap.size (i*3) vs).setCells w.heap.size ((i+1)*3) (cs.drop (i*3)):=by
 have u0:=run_underlying Tryz.underlying59;have hz1:¬(((1:Nat):Int)=0):=by omega
 have hz2:¬((i:Int)=(n:Int)):=by omega
 have hz3:(c:Int)<(n:Int)+1:=by omega
 have mixed:Tryz.prog.follows Departure.mixedOrders=true:=by kernel_rfl
 have hsz:(Tryz.prog.info? 111).map (·.size)=some 3:=by kernel_rfl
 obtain⟨i0,hi0,hz0⟩:=W7.1 a8O;simp only[W2]at hz0;obtain⟨hz0,hzs,hzb⟩:=hz0;have hkk:(n:Int)+1-(i:Int)=((n+1-i:Nat):Int):=by omega
 have hik:i+(n+1-i)=n+1:=by omega
 have hdl:(cs.drop (i*3)).length=(n-i)*3:=by rw[q1O,hcl,Nat.sub_mul]
 have hold:(Builtin.firstCells i0.size i (.slice (some ⟨b,o,none⟩) i c)).run Tryz.prog w.drew=.ok (cs.take (i*3)).toArray w.drew:=by
  rw[hzs];exact run_firstCells_some w.drew 3 i ⟨b,o,none⟩ i c (cs.take (i*3)) (by rw[V8];omega) (fun j v hj=>by
   rw[A0x];rw[List.getElem?_take]at hj;split at hj
   ·obtain⟨hj',rfl⟩:=q0X.1 hj;exact hcs j hj'
   ·cases hj)
 have hrz:∀ty,(Builtin.append_ #[59,3] ty #[.slice (some ⟨b,o,none⟩) i c,.int .i64 ((n:Int)+1-(i:Int))]).run Tryz.prog w =
   .ok (.slice (some ⟨w.heap.size,0,none⟩) (n+1) (grownCap w (n+1) c 111)) (w.drew.alloc (.cells ((cs.take (i*3)).toArray++Builtin.zeroCells a9s.cells (n+1-i)++Builtin.zeroCells a9s.cells (grownCap w (n+1) c 111-(n+1))) 111)):=fun ty=>by
  have h:=Lib.run_append_grow_zeros w 59 3 ty 111 i0 _ .i64 .i64 Tryz.underlying59 Tryz.underlying3 hi0 hz0 (some ⟨b,o,none⟩) i c (cs.take (i*3)) hold (n+1-i) (by omega) (by omega) (by omega) (by omega) (by rw[hzb];omega) (by rw[hzb,hik];exact growslice_fits hroom (by omega));rw[hik]at h;rw[hkk];exact h
 obtain⟨G,hG⟩:∃G,G=grownCap w (n+1) c 111:=⟨_,rfl⟩
 obtain⟨ROW,hROW⟩:∃ROW:Array Value,ROW=(cs.take (i*3)).toArray++Builtin.zeroCells a9s.cells (n+1-i)++Builtin.zeroCells a9s.cells (G-(n+1)):=⟨_,rfl⟩
 have hge:=grownCap_ge w (n+1) c 111;rw[<-hG]at hrz hge ⊢;rw[<-hROW]at hrz ⊢;have hRl:(n+1)*3<=ROW.size:=by
  rw[hROW];simp only[q3W,q1M,V8,size_zeroCells,show a9s.cells.size=3 from rfl];omega
 obtain⟨W1,hW1⟩:∃W1,W1=w.drew.alloc (.cells ROW 111):=⟨_,rfl⟩
 rw[<-hW1]at hrz;have hN:W1.heap[w.heap.size]? = some (.cells ROW 111 (0,0)):=by rw[hW1];exact heap_alloc_new w.drew _
 have hcA:∀(W:World) (R:Array Value),W.heap[w.heap.size]? = some (.cells R 111 (0,0))->(n+1)*3<=R.size->∀j,j<(n+1)*3->(W.cell? ⟨w.heap.size,j,none⟩).isSome=true:=fun W R h h2 j hj=>by
  simp only[World.cell?,h];rw[q1A (by omega)];rfl
 have hfz:∀(W:World) (R:Array Value),W.heap[w.heap.size]? = some (.cells R 111 (0,0))->∀x,W.frozen? ⟨w.heap.size,x,none⟩=false:=fun W R h x=>by simp[World.frozen?,h]
 have hvW:W1.heap[vb]? = w.heap[vb]?:=by rw[hW1];exact E7 (w:=w.drew) hvw
 have hbW:W1.heap[b]? = w.heap[b]?:=by rw[hW1];exact E7 (w:=w.drew) hbw
 have hcp2:∀(W:World),W.heap=W1.heap->∀ty dc,(Builtin.copy_ #[59,59] ty #[.slice (some ⟨w.heap.size,i*3,none⟩) (n+1-i) dc,.slice (some ⟨vb,vo,none⟩) 1 vc]).run Tryz.prog W=.ok (goInt (Nat.min 1 (n+1-i))) (W.setCells w.heap.size (i*3) vs):=fun W hW ty dc=>
  a5i W _ _ ty 111 3 w.heap.size (i*3) _ dc ⟨vb,vo,none⟩ 1 vc vs Tryz.underlying59 hsz (by rw[hvl];simp only[Nat.min_def];split<;>omega)
   (fun j v hj=>by
     obtain⟨hj',rfl⟩:=q0X.1 hj;rw[A0x,World.cell?_of_block (w:=w) (by rw[hW,hvW])];exact hvs j hj')
   (fun j hj=>hcA W ROW (by rw[hW];exact hN) hRl _ (by omega)) (fun j hj=>hfz W ROW (by rw[hW];exact hN) _) h1v
 have q1:=A0w w.heap.size vs (i*3) W1 ROW hN (by omega);have q2:(W1.setCells w.heap.size (i*3) vs).heap[b]? = w.heap[b]?:=by rw[(A0h w.heap.size vs (i*3) W1).1 b (by omega),hbW]
 have hcp3:∀(W:World),W.heap=(W1.setCells w.heap.size (i*3) vs).heap->∀ty dc sc,(Builtin.copy_ #[59,59] ty #[.slice (some ⟨w.heap.size,(i+1)*3,none⟩) (n-i) dc,.slice (some ⟨b,o+i*3,none⟩) (n-i) sc]).run Tryz.prog W=.ok (goInt (Nat.min (n-i) (n-i))) (W.setCells w.heap.size ((i+1)*3) (cs.drop (i*3))):=fun W hW ty dc sc=>
  a5i W _ _ ty 111 3 w.heap.size ((i+1)*3) _ dc ⟨b,o+i*3,none⟩ _ sc (cs.drop (i*3)) Tryz.underlying59 hsz (by rw[hdl];congr 1;simp only[Nat.min_def];split<;>omega)
   (fun j v hj=>by
     rw[List.getElem?_drop]at hj;obtain⟨hj',rfl⟩:=q0X.1 hj;rw[A0x,q3Y,World.cell?_of_block (w:=w) (by rw[hW,q2])];exact hcs (i*3+j) hj')
   (fun j hj=>hcA W _ (by rw[hW];exact q1) (by simp only[q1M,W4,V8,q1O,q1U];omega) _ (by omega)) (fun j hj=>hfz W _ (by rw[hW];exact q1) _) (fun v hv=>h1c v (q2P hv))
 have hw1:IntKind.i64.wrap ((i:Int)+1)=(i:Int)+1:=by rw[IntKind.wrap_i64];omega
 have hb1:(0:Int)<=(i:Int)+1:=by omega
 have hin:i<=n:=by omega
 have htn:((i:Int)+1).toNat=i+1:=by omega
 have hb3:(i:Int)<=(n:Int):=by omega
 have hGn:n+1<=G:=hge;have hG63:G<=9223372036854775807:=by
  have:=grownCap_le_maxLen w (n+1) c 111 (by unfold maxLen;omega);rw[<-hG]at this;unfold maxLen at this;omega
 have hGi:¬(G=i):=by omega
 have hGim:¬(G=i+1):=by omega
 have hci:¬(c=i):=by omega
 subst hW1;have hcA2:=hcp2 ((w.alloc (.cells ROW 111)).drew) rfl;have hcB2:=hcp3 (((w.alloc (.cells ROW 111)).drew.setCells w.heap.size (i*3) vs).drew) (by
  show((w.alloc (.cells ROW 111)).drew.setCells w.heap.size (i*3) vs).heap=_;rfl)
 clear hkk hik hold hROW hG hRl q1 q2 hcA hfz hN hvW hbW
 go_enter Tryz.func303,Tryz.ntmps303
 go_wp2_with (first
  | (at_builtin;refine b4a _ rfl _ _ 59 3 rfl _ _ rfl rfl (hrz _) ?_)
  | (at_builtin;refine b4b _ rfl _ _ 59 59 rfl _ _ rfl rfl (hcA2 _ _) ?_)
  | (at_builtin;refine b4b _ rfl _ _ 59 59 rfl _ _ rfl rfl (hcB2 _ _ _) ?_))
 go_region_law_o (refine b3Z rfl _ _ 59 59 rfl (.slice (some ⟨w.heap.size,(i+1)*3,none⟩) (n-i) (G-(i+1))) (.slice (some ⟨b,o+i*3,none⟩) (n-i) (c-i)) (by simp[Act.eval,Act.put]) (by simp[Act.eval,Act.put]) (hcB2 3 (G-(i+1)) (c-i)) ?_)
 go_wp2
 go_ret
 exact⟨rfl,(w.alloc (.cells ROW 111)).drew.drew,⟨rfl,rfl,⟨rfl,q4O _ 2⟩,rfl⟩,by rw[idrew]⟩
def b8s:InsRuns Tryz.prog 303 59 111 3 a9s:=⟨c0s,b5W,b8r⟩
def c6A(a:List c4)(k:Int)(x:c4)(hpre:0<=k/\k<=a.length/\a.length<=1000000):spZ 303 [(false,[.sl true [.s [],.i .i64 0,.s []] (a.map c4.cells)]),(false,[.i .i64 k]),(false,[.sl true [.s [],.i .i64 0,.s []] [[.s x.Var,.i .i64 x.Val.N,.s x.Val.S]]])] [] (.one (false,[.sl true [.s [],.i .i64 0,.s []] ((insL a k x).map c4.cells)])):=by
 obtain⟨h0,h1,h2⟩:=hpre;obtain⟨n,rfl⟩:=Int.eq_ofNat_of_zero_le h0;rw[show(insL a n x).map c4.cells=(a.map c4.cells).take n++c4.cells x::(a.map c4.cells).drop n by simp[insL,List.map_take,List.map_drop]];obtain⟨i0,hi0,hz0⟩:=W7.1 a8O;simp only[W2]at hz0;obtain⟨hz0,hzs,hzb⟩:=hz0;exact c2V (d:=[.s [],.i .i64 0,.s []]) b8s (by kernel_rfl) Tryz.underlying59 hi0 hz0 (by rw[hzs];rfl) hzs (by omega) (a.map c4.cells) (c4.cells x) n (by rw[q0O];omega) (by rw[hzb,q0O];omega) (by rw[q0O];exact h2)
noncomputable def b6U:CT:=s6 (fun(x:(List c4)×Int×c4) h=>c6A x.1 x.2.1 x.2.2 h)
@[go_sem] def c9S:=fun a k x0 x1 x2=>nm' (fP' b6U rfl (a,k,⟨x0,⟨x1,x2⟩⟩))
end Go.Aw
namespace Go.Aw
open Go.Proofs
attribute [local irreducible] aft blk lpK retK AW A0p
set_option linter.all false
set_option maxRecDepth 100000
set_option maxHeartbeats 4000000
attribute [local irreducible] RM
def gtB(v:List UInt8)(b:c4):Bool:=Op.bytesLess v b.Var
def a0N(l:List c4)(v:List UInt8)(x:d4):List c4:=l.takeWhile (fun b=>!gtB v b)++⟨v,x⟩::l.dropWhile (fun b=>!gtB v b)
def b8Z{α:Type}{p:α->Bool}:∀{l:List α},l.any p=false->l.takeWhile (fun b=>!p b)=l/\l.dropWhile (fun b=>!p b)=[]
 | [],_=>⟨rfl,rfl⟩
 | x::l,h=>by
   rw[q2K,q0Y]at h;have:=b8Z h.2;rw[q1Z,q2U,h.1];simp[this.1,this.2]
def b8Y{α:Type}{p:α->Bool}{b:α}{r:List α}(hb:p b=true):∀{l:List α},l.any p=false->(l++b::r).takeWhile (fun b=>!p b)=l/\(l++b::r).dropWhile (fun b=>!p b)=b::r
 | [],_=>by rw[q1P,q1Z,q2U,hb];exact⟨rfl,rfl⟩
 | x::l,h=>by
   rw[q2K,q0Y]at h;have:=b8Y (r:=r) hb h.2;rw[q2G,q1Z,q2U,h.1];simp[this.1,this.2]
def b8X{α:Type}{p:α->Bool}{r:List α}:∀{l:List α},l.any p=true->(l++r).takeWhile (fun b=>!p b)=l.takeWhile (fun b=>!p b)/\(l++r).dropWhile (fun b=>!p b)=l.dropWhile (fun b=>!p b)++r
 | [],h=>by simp at h
 | x::l,h=>by
   rw[q2G,q1Z,q2U,q1Z,q2U];cases hx:p x with
   | true=>simp
   | false=>
     rw[q2K,hx,q3C]at h;have:=b8X (r:=r) h;simp[this.1,this.2]
def b0y{l:List c4}{v:List UInt8}(x:d4)(h:l.any (gtB v)=false):a0N l v x=l++[⟨v,x⟩]:=by rw[a0N,(b8Z h).1,(b8Z h).2]
def c9l{l:List c4}{v:List UInt8}{b:c4}(x:d4)(h:l.any (gtB v)=false)(hb:gtB v b=true):a0N (l++[b]) v x=l++[⟨v,x⟩]++[b]:=by rw[a0N,(b8Y hb h).1,(b8Y hb h).2];simp
def c6N{l:List c4}{v:List UInt8}{b:c4}(x:d4)(h:l.any (gtB v)=true):a0N (l++[b]) v x=a0N l v x++[b]:=by rw[a0N,a0N,(b8X h).1,(b8X h).2];simp
def a2z(l:List c4)(v:List UInt8)(x:d4):(a0N l v x).length=l.length+1:=by
 have h:=congrArg List.length (q1Q (p:=fun b=>!gtB v b) (l:=l));rw[W4]at h;rw[a0N,W4,V3];omega
def c0T(l:List c4)(v:List UInt8):Int:=bif decide (a5M (gtB v) l<0)then(l.length:Int)else a5M (gtB v) l
def c8C(l:List c4)(v:List UInt8)(x:d4):0<=c0T l v/\c0T l v<=l.length/\insL l (c0T l v) ⟨v,x⟩=a0N l v x:=by
 cases h:l.any (gtB v)with
 | false=>
   rw[c0T,a1B h];refine⟨by simp,by simp, ?_⟩;rw[b0y x h];simp[insL]
 | true=>
   obtain⟨i,hi,ha,hp⟩:∃i,i<l.length/\(l.take i).any (gtB v)=false/\gtB v (l.getD i default)=true:=by
    have gen:∀l:List c4,l.any (gtB v)=true->∃i,i<l.length/\(l.take i).any (gtB v)=false/\gtB v (l.getD i default)=true:=by
     intro l
     induction l with
     | nil=>intro h;simp at h
     | cons y l ih=>
       intro h;cases hy:gtB v y with
       | true=>exact⟨0,by simp,by simp,by simpa using hy⟩
       | false=>
         rw[q2K,hy,q3C]at h;obtain⟨i,h1,h2,h3⟩:=ih h;exact⟨i+1,by simpa using h1,by simp[hy,h2],by simpa using h3⟩
    exact gen l h
   have e:=a2i (p:=gtB v) (d:=default) hi ha hp;rw[c0T,e,V2 (by omega)];refine⟨by simp,by simp;omega, ?_⟩;have hs:l=l.take i++l.getD i default::l.drop (i+1):=by
    rw[m9 default hi];simp
   rw[W3,insL,Int.toNat_natCast,a0N];generalize l.getD i default=b at hp hs;generalize l.drop (i+1)=r at hs;have h1:=b8Y (r:=r) hp ha;rw[<-hs]at h1;rw[h1.1,h1.2];have h2:l.drop i=b::r:=by
    conv=>lhs;rw[hs]
    rw[List.drop_append_of_le_length (by rw[V8];omega),List.drop_eq_nil_of_le (by rw[V8];omega)];rfl
   rw[h2]
def gt_not(b v:List UInt8):(!(Op.bytesLess b v||b==v))=Op.bytesLess v b:=by
 cases h1:Op.bytesLess b v with
 | true=>
   cases h2:Op.bytesLess v b with
   | false=>rfl
   | true=>have h3:=a4Q _ _ _ h1 h2;rw[a1k]at h3;cases h3
 | false=>
   cases h2:Op.bytesLess v b with
   | false=>rw[a4R _ _ h1 h2];simp
   | true=>
     have:(b==v)=false:=beq_eq_false_iff_ne.2 fun e=>by subst e;have h3:=a1k b;rw[h3]at h2;cases h2
     rw[this];rfl
def a5O(l:List c4)(v:List UInt8)(x:d4):List c4:=bif l.any (gtB v)then a0N l v x else l
def c0N{l:List c4}{v:List UInt8}{x:d4}{b:c4}(h:l.any (gtB v)=false)(hb:gtB v b=true):a5O (l++[b]) v x=a5O l v x++[⟨v,x⟩]++[b]/\(l++[b]).any (gtB v)=true:=by
 have h2:(l++[b]).any (gtB v)=true:=by rw[q1I,q2K,hb];simp
 exact⟨by rw[a5O,a5O,h2,h,W5,W3,c9l x h hb],h2⟩
def c4D{l:List c4}{v:List UInt8}{x:d4}{b:c4}(h:(!l.any (gtB v)&&gtB v b)=false):a5O (l++[b]) v x=a5O l v x++[b]/\(l++[b]).any (gtB v)=l.any (gtB v):=by
 cases ha:l.any (gtB v)with
 | true=>
   have h2:(l++[b]).any (gtB v)=true:=by rw[q1I,ha];rfl
   exact⟨by rw[a5O,a5O,h2,ha,W5,W5,c6N x ha],h2⟩
 | false=>
   rw[ha]at h;have h2:(l++[b]).any (gtB v)=false:=by rw[q1I,ha,q2K,show gtB v b=false from h];rfl
   exact⟨by rw[a5O,a5O,h2,ha,W3,W3],h2⟩
def c0O(l:List c4)(v:List UInt8)(x:d4):(a5O l v x).length<=l.length+1:=by
 rw[a5O];cases l.any (gtB v)with
 | true=>rw[W5,a2z];exact q0C _
 | false=>exact q4K _
def c0w(l:List c4)(hpre:l.length<1000000):spZ 72 [(false,[.sl false [.s [],.i .i64 0,.s []] (l.map c4.cells)])] [] (.one (false,[.sl true [.s [],.i .i64 0,.s []] (l.map c4.cells)])):=by
 exact a9S (d:=[.s [],.i .i64 0,.s []]) Tryz.cloneBind (by kernel_rfl) (hi:=rfl) (hz0:=rfl) (hz1:=rfl) (bytes:=40) (hz2:=rfl) (hzs:=rfl) (by decide) (fun w=>rfl) _ (by rw[q0O];omega)
noncomputable def a6d:CT:=s6 (fun(x:(List c4)) h=>c0w x h)
@[go_sem] def c8d:=fun l=>nm' (fP' a6d rfl l)
def b6c(b:c4)(v:List UInt8):spZ 302 [(true,[.s b.Var,.i .i64 b.Val.N,.s b.Val.S]),(false,[.p [.s v]])] [] (.one (false,[.b (gtB v b)])):=by
 refine sy' Tryz.func302 (q' 2 [aX 3 0,aU false] (q' 4 [aG 0 2,al 1,aD .gtr 5 6,aV 3] .ret)) [.t 3] [] ?_;intro hb hE;simp only[go_sem];repeat' first|apply cj'|intro hc|exact om'|fail
 exact gt_not _ _
noncomputable def a7l:CT:=o8 (fun(x:c4×(List UInt8))=>b6c x.1 x.2)
@[go_sem] def c5G:=fun x0 x1 x2 v=>nm' (fQ' a7l rfl (⟨x0,⟨x1,x2⟩⟩,v))
def c0y(l:List c4)(v:List UInt8):spZ 301 [(false,[u5 l]),(false,[.f 302 [.p [.s v]]])] [] (.one (false,[.i .i64 (a5M (gtB v) l)])):=by
 refine sy' Tryz.func301 (q' 4 [aK 0] (.seq (q' 6 [am 0,aN,aK 0] (fO 0 9 [ar 8 7] 9 1 (q' 10 [am 8,aV 5] (q' 11 [aM [1,0,5],aI 3,aE 3,ao (.callv (.t 11) [.t 15])] (ci 16 (q' 17 [am 5,aV 4] .ret)))) (g' 18 [aA 8]))) (q' 4 [ao (.mov (.k (.v false [.c (.i .i64 (-1))])))] .ret))) [.t 4] [(302,[],a7l)] ?_;intro hb hE;simp only[go_sem];repeat' first|apply cj'|intro hc|exact om'|fail
 refine lq' false [0,1,7] [] [] (fun i:{i:Nat // i<=l.length/\(l.take i).any (gtB v)=false}=>[(8,slV (.i .i64 i.1))]) nl' nl' (fun i=>l.length-i.1) (⟨0,by simp⟩) ?_;intro S0 hS0 i;obtain⟨i,hi,ha⟩:=i;simp only[go_sem,hS0];repeat' first|apply cj'|intro hc|exact om'|fail
 ·exact(a2i (p:=gtB v) (d:=default) (by omega) ha (by simpa[-List.getD_eq_getElem?_getD]using hc)).symm
 ·exact nx0 ⟨i+1,by omega,a1J (p:=gtB v) default (by omega) ha (by simpa[-List.getD_eq_getElem?_getD]using hc)⟩
 ·exact(a1B (by rwa [k7 (by omega)]at ha)).symm
noncomputable def b0J:CT:=o8 (fun(x:(List c4)×(List UInt8))=>c0y x.1 x.2)
@[go_sem] def c8g:=fun l v=>nm' (fQ' b0J rfl (l,v))
@[go_sem] def a5Y:ACode:=q' 5 [ax (o' 3 (.box 1 (.t 0))),aX 2 2,aw [.sl j3]] (q' 7 [ax (o' 11 (.bld [.sl j3] [])),aw [.sl j3],aS 1 7 11] (q' 8 [aU false] (.seq (q' 12 [aG 0 3,aN,aK 0] (fO 0 16 [ar 15 14] 16 1 (q' 17 [ai 3 13 15,aE 3,ax (w' 10 [.s,.i .i64,.s]),aS 3 10 18]
 (.seq (q' 19 [am 8,aO 19,am 20,aH 21 true [bm 1,bf 0 10,bL,bD .lss 22 24],aP 21 25] (ci 26 (q' 27 [aG 0 7,am 1,ae 2 5,ao (.bld [.s,.i .i64,.s] [(0,1,.t
 29),(1,2,.t 30)]),ao (.bsl 3 1 [.s,.i .i64,.s] [(0,.t 31)]),ao (.app 3 40 [.s,.i .i64,.s] (.t 28) (.t 32)),af 0 7,aS 1 34 33] (g' 8 [aU true])))) (g'
 35 [aG 0 7,ae 3 10,ao (.bsl 3 1 [.s,.i .i64,.s] [(0,.t 37)]),ao (.app 3 40 [.s,.i .i64,.s] (.t 36) (.t 38)),af 0 7,aS 1 40 39]))) (g' 41 [aA 15]))) (.seq
 (q' 42 [am 8,aO 42] (ci 43 (g' 44 [aG 0 7,am 1,ae 2 5,ao (.bld [.s,.i .i64,.s] [(0,1,.t 46),(1,2,.t 47)]),ao (.bsl 3 1 [.s,.i .i64,.s] [(0,.t
 48)]),ao (.app 3 40 [.s,.i .i64,.s] (.t 45) (.t 49)),af 0 7,aS 1 51 50]))) (q' 52 [ae 1 7,aS 1 6 52] .ret)))))
def b6D(e:c9)(v:List UInt8)(x:d4)(hpre:e.Binds.length<=1000):spZ 255 [(true,[u5 e.Binds]),(false,[.s v]),(true,[.i .i64 x.N,.s x.S])] [] (.one (true,[kTBind ((⟨a0N e.Binds v x⟩:c9).Binds)])):=by
 refine sy' Tryz.func255 a5Y [.c 6 true 1] [] ?_;intro hb hE;simp only[go_sem];repeat' first|apply cj'|intro hc|exact om'|fail
 refine lk' false [(true,14,0,200028)] [1,5,6,7,13,14] [10,12] [] (fun i:{i:Nat // i<=e.Binds.length}=>[(8,slV (.b ((e.Binds.take i.1).any (gtB v)))),(15,slV (.i .i64 i.1))]) (fun i=>[(14,[.ow 200028])]) (fun i=>[(200028,j3,(a5O (e.Binds.take i.1) v x).map c4.cells)]) (fun i=>e.Binds.length-i.1) (⟨0,by simp⟩) ?_;intro S0 hS0 i;obtain⟨i,hi⟩:=i;have hol:=c0O (e.Binds.take i) v x;rw[V8]at hol;have hsn:i<e.Binds.length->e.Binds.take (i+1)=e.Binds.take i++[e.Binds.getD i default]:=fun h=>l9 default h
 simp only[go_sem,hS0];repeat' first|apply cj'|intro hc|exact om'|fail
 ·have h1:=c0N (x:=x) hc.1 hc.2;rw[<-hsn (by omega)]at h1
  (refine lpK_n2 (⟨i+1,by omega⟩) _ (by simp only[go_sem];try rfl) ?_;simp only[go_sem,hS0]<;>repeat' first|apply V0|exact on'|fail)
  all_goals(first|exact congrArg (List.map c4.cells) h1.1.symm|(rw[h1.2];done)|(rw[h1.2];exact congrArg _ hc.1.symm))
 ·have h1:=c4D (x:=x) hc;rw[<-hsn (by omega)]at h1
  (refine lpK_n2 (⟨i+1,by omega⟩) _ (by simp only[go_sem];try rfl) ?_;simp only[go_sem,hS0]<;>repeat' first|apply V0|exact on'|fail)
  all_goals(first|exact congrArg (List.map c4.cells) h1.1.symm|(rw[h1.2];done)|(rw[h1.2];exact congrArg _ hc.1.symm))
 ·rw[k7 (by omega)]at hc ⊢;rw[a5O,hc,W3,b0y x hc]
 ·rw[k7 (by omega)]at hc ⊢;rw[a5O,hc,W5]
noncomputable def a7B:CT:=s6 (fun(x:c9×(List UInt8)×d4) h=>b6D x.1 x.2.1 x.2.2 h)
@[go_sem] def c6i:=fun x0 v x1 x2=>nm' (fP' a7B rfl (⟨x0⟩,v,⟨x1,x2⟩))
def a7J(a b:d4):Bool:=a.N==b.N&&a.S==b.S
def b5V(b:List c4)(t:d3)(v:d4):Option (List c4):=bif (k8 ⟨b⟩ t).2 then(bif a7J (k8 ⟨b⟩ t).1 v then some b else none)else some (a0N b t.Var v)
def a1U(b:List c4)(args:List d3)(vs:List d4):Nat->Option (List c4)
 | 0=>some b
 | n+1=>(a1U b args vs n).bind fun c=>b5V c (args.getD n default) (vs.getD n default)
def a4G(e:c9)(args:List d3)(row:d5):c9×Bool:=bif decide (args.length=row.V.length)then(match a1U e.Binds args row.V args.length with|some c=>(⟨c⟩,true)|none=>(default,false))else(default,false)
def b6Y{b:List c4}{args:List d3}{vs:List d4}{i:Nat}(h:a1U b args vs i=none):∀{n:Nat},i<=n->a1U b args vs n=none
 | 0,hn=>by
   obtain rfl:i=0:=by omega
   exact h
 | n+1,hn=>by
   rcases q2X i (n+1)with h1|h1
   ·rw[a1U,b6Y h (show i<=n by omega)];rfl
   ·obtain rfl:i=n+1:=by omega
    exact h
def a8K{b:List c4}{args:List d3}{vs:List d4}:∀{n:Nat} {c:List c4},a1U b args vs n=some c->c.length<=b.length+n
 | 0,c,h=>by simp only[a1U,W0]at h;subst h;exact q0C _
 | n+1,c,h=>by
   rw[a1U]at h;obtain⟨d,h1,h2⟩:=q1R.1 h;have:=a8K h1;rw[b5V]at h2;cases hv:(k8 ⟨d⟩ (args.getD n default)).2 with
   | true=>
     rw[hv,W5]at h2;cases hs:a7J (k8 ⟨d⟩ (args.getD n default)).1 (vs.getD n default)with
     | true=>rw[hs,W5,W0]at h2;subst h2;omega
     | false=>rw[hs]at h2;cases h2
   | false=>
     rw[hv,W3,W0]at h2;subst h2;rw[a2z];omega
def c4s{b c:List c4}{args:List d3}{vs:List d4}{i:Nat}(h:a1U b args vs i=some c)(hv:(k8 ⟨c⟩ (args.getD i default)).2=false):a1U b args vs (i+1)=some (a0N c (args.getD i default).Var (vs.getD i default)):=by
 rw[a1U,h,q3F,b5V,hv,W3]
def b3O{b c:List c4}{args:List d3}{vs:List d4}{i:Nat}(h:a1U b args vs i=some c)(hv:(k8 ⟨c⟩ (args.getD i default)).2=true)(hs:a7J (k8 ⟨c⟩ (args.getD i default)).1 (vs.getD i default)=true):a1U b args vs (i+1)=some c:=by
 rw[a1U,h,q3F,b5V,hv,hs];rfl
def b8p{b c:List c4}{args:List d3}{vs:List d4}{i n:Nat}(h:a1U b args vs i=some c)(hn:i<n)(hv:(k8 ⟨c⟩ (args.getD i default)).2=true)(hs:a7J (k8 ⟨c⟩ (args.getD i default)).1 (vs.getD i default)=false):a1U b args vs n=none:=by
 refine b6Y (i:=i+1) ?_ hn;rw[a1U,h,q3F,b5V,hv,hs];rfl
def a9p{e:c9}{t:d3}(h:(t.Var==[])=false):k8 e t=w6 e t.Var:=by rw[k8,h];rfl
def a6Z{e:c9}{t:d3}(h:(t.Var==[])=true):k8 e t=(t.Val,true):=by rw[k8,h];rfl
end Go.Aw
namespace Go.Aw
set_option maxHeartbeats 4000000
open Go.Proofs
set_option linter.all false
set_option maxRecDepth 100000
def a2h(l:List c4)(v:List UInt8):w6 ⟨l⟩ v=match l.find? (fun b=>b.Var==v)with|some b=>(b.Val,true)|none=>(default,false):=by
 cases h:l.find? (fun b=>b.Var==v)with
 | none=>
   refine a6G fun j hj=>?_
   have:=List.find?_eq_none.1 h (l.getD j default) (by rw[m9 default hj];exact q0S hj);simpa using this
 | some b=>
   obtain⟨hp,l1,l2,rfl,hno⟩:=List.find?_eq_some_iff_append.1 h;have e:(l1++b::l2).getD l1.length default=b:=by simp
   rw[a6H (e:=⟨l1++b::l2⟩) (i:=l1.length) (by simp) (fun j hj=>?_) (by simp only[e];exact hp)]
   ·simp only[e]
   ·have hm:(l1++b::l2).getD j default=l1[j]:=by
     rw[q0F,q3S hj,V5 hj];rfl
    simp only[hm];have:=hno l1[j] (q0S hj);simpa using this
def b3J{l:List c4}{v:List UInt8}(h:(w6 ⟨l⟩ v).2=false):l.find? (fun b=>b.Var==v)=none:=by
 rw[a2h]at h;cases hf:l.find? (fun b=>b.Var==v)with
 | none=>rfl
 | some b=>rw[hf]at h;cases h
def a3L{l:List c4}{v:List UInt8}(h:(w6 ⟨l⟩ v).2=false):¬v∈l.map c4.Var:=by
 intro hm;obtain⟨b,hb,rfl⟩:=q1E.1 hm;have:=List.find?_eq_none.1 (b3J h) b hb;simp at this
def off_of{l:List c4}{v:List UInt8}(h:¬v∈l.map c4.Var):(w6 ⟨l⟩ v).2=false:=by
 rw[a2h,List.find?_eq_none.2 (fun b hb hv=>h (q1E.2 ⟨b,hb,by simpa using hv⟩))]
def c8W{l:List c4}{v:List UInt8}:(w6 ⟨l⟩ v).2=true↔v∈l.map c4.Var:=by
 constructor
 ·intro h;refine Classical.byContradiction fun hn=>?_
  rw[off_of hn]at h;cases h
 ·intro h;cases hv:(w6 ⟨l⟩ v).2 with
  | true=>rfl
  | false=>exact absurd h (a3L hv)
def b5h(l:List c4)(v:List UInt8):l.takeWhile (fun b=>!gtB v b)++l.dropWhile (fun b=>!gtB v b)=l:=q1Q
def c6o{l:List c4}{v w:List UInt8}{x:d4}(hw:w≠v):w6 ⟨a0N l v x⟩ w=w6 ⟨l⟩ w:=by
 rw[a2h,a2h]
 conv=>rhs;rw[<-b5h l v]
 rw[a0N,q5B,q5B,q3J,show((v==w)=false)from beq_eq_false_iff_ne.2 (Ne.symm hw)]
def c0j{l:List c4}{v:List UInt8}{x:d4}(h:(w6 ⟨l⟩ v).2=false):w6 ⟨a0N l v x⟩ v=(x,true):=by
 have h1:=b3J h;rw[<-b5h l v,q5B]at h1;rw[a2h,a0N,q5B];cases h2:(l.takeWhile fun b=>!gtB v b).find? (fun b=>b.Var==v)with
 | some b=>rw[h2]at h1;cases h1
 | none=>simp
def c9z{a b:d4}(h:a7J a b=true):a=b:=by
 obtain⟨n,s⟩:=a;obtain⟨m,t⟩:=b;simp only[a7J,W6,beq_iff_eq]at h;obtain⟨rfl,rfl⟩:=h;rfl
def Back(c:List c4)(t:d3)(x:d4):Prop:=k8 ⟨c⟩ t=(x,true)
def Back.set{c:List c4}{t:d3}{x y:d4}{v:List UInt8}(h:Back c t x)(hv:(w6 ⟨c⟩ v).2=false):Back (a0N c v y) t x:=by
 unfold Back at*;rw[k8]at h ⊢;cases ht:t.Var==[]with
 | true=>rw[ht]at h;exact h
 | false=>
   rw[ht,W3]at h;have hn:t.Var≠v:=by intro e;rw[<-e,h]at hv;cases hv
   rw[W3,c6o hn];exact h
def a0j{c:List c4}{t:d3}(h:(k8 ⟨c⟩ t).2=false):(t.Var==[])=false/\(w6 ⟨c⟩ t.Var).2=false:=by
 rw[k8]at h;cases ht:t.Var==[]with
 | true=>rw[ht]at h;cases h
 | false=>rw[ht]at h;exact⟨rfl,h⟩
def a7X{b c:List c4}{t:d3}{v:d4}(h:b5V b t v=some c):(c=b/\Back b t v)\/(c=a0N b t.Var v/\(t.Var==[])=false/\(w6 ⟨b⟩ t.Var).2=false):=by
 rw[b5V]at h;cases hv:(k8 ⟨b⟩ t).2 with
 | true=>
   rw[hv,W5]at h;cases hs:a7J (k8 ⟨b⟩ t).1 v with
   | true=>
     rw[hs,W5,W0]at h;refine .inl ⟨h.symm, ?_⟩;unfold Back;rw[<-c9z hs,<-hv]
   | false=>rw[hs]at h;cases h
 | false=>
   rw[hv,W3,W0]at h;exact .inr ⟨h.symm,a0j hv⟩
def c6t{b c:List c4}{t:d3}{v:d4}(h:b5V b t v=some c):Back c t v/\∀s x,Back b s x->Back c s x:=by
 rcases a7X h with⟨rfl,h1⟩|⟨rfl,h1,h2⟩
 ·exact⟨h1,fun _ _ h=>h⟩
 ·refine⟨?_,fun s x h=>h.set h2⟩;unfold Back;rw[k8,h1,W3,c0j h2]
def a9Z{b:List c4}{args:List d3}{vs:List d4}:∀{n:Nat} {c:List c4},a1U b args vs n=some c->(∀i,i<n->Back c (args.getD i default) (vs.getD i default))/\∀s x,Back b s x->Back c s x
 | 0,c,h=>by
   simp only[a1U,W0]at h;subst h;exact⟨fun i hi=>by omega,fun _ _ h=>h⟩
 | n+1,c,h=>by
   rw[a1U]at h;obtain⟨d,h1,h2⟩:=q1R.1 h;obtain⟨i1,i2⟩:=a9Z h1;obtain⟨j1,j2⟩:=c6t h2;refine⟨fun i hi=>?_,fun s x h=>j2 s x (i2 s x h)⟩;rcases q2X i n with h3|h3
   ·exact j2 _ _ (i1 i h3)
   ·obtain rfl:i=n:=by omega
    exact j1
def EnvS(l:List c4):Prop:=(∀b∈l,a3R b.Var=true/\k9 b.Val=true)/\SS Op.bytesLess (l.map c4.Var)
def b9B{n:Nat}{p:Nat->Bool}:a3x n p=false↔∀i,i<n->p i=false:=by
 constructor
 ·intro h i hi;cases hp:p i with
  | false=>rfl
  | true=>rw[a4w hi hp]at h;cases h
 ·intro h
  induction n with
  | zero=>rfl
  | succ n ih=>exact a2c (ih fun i hi=>h i (by omega)) (h n (by omega))
def c2b{l:List (List UInt8)}(h:∀i,0<i->i<l.length->Op.bytesLess (l.getD (i-1) []) (l.getD i [])=true):SS Op.bytesLess l:=by
 refine q3T.2 fun i j hi hj hij=>?_
 have key:∀d,i+d+1<l.length->Op.bytesLess (l.getD i []) (l.getD (i+d+1) [])=true:=by
  intro d
  induction d with
  | zero=>intro hd;exact h (i+1) (by omega) hd
  | succ d ih=>intro hd;exact a4Q _ _ _ (ih (by omega)) (h (i+(d+1)+1) (by omega) hd)
 have:=key (j-i-1) (by omega);rw[show i+(j-i-1)+1=j by omega,m9 [] hi,m9 [] hj]at this;exact this
def a8L(l:List c4)(i:Nat):(l.map c4.Var).getD i []=(l.getD i default).Var:=by
 rw[q0F,q0F,q4H];cases l[i]? with
 | none=>rfl
 | some b=>rfl
def b6W{e:c9}:b0N e=true↔EnvS e.Binds/\e.Binds.length<=60:=by
 rw[b0N,W6,q0T,b9B,V9];have hl:((e.Binds.length:Int)<=60)↔e.Binds.length<=60:=by omega
 rw[hl];refine and_congr_left fun _=>⟨fun h=>⟨fun b hb=>?_,c2b fun i h0 hi=>?_⟩,fun h i hi=>?_⟩
 ·obtain⟨i,hi,rfl⟩:=q2V hb;have:=h i hi;rw[a2Q,m9 default hi]at this;simp only[q0Y,q1G]at this;exact this.1
 ·rw[q0O]at hi;rw[a8L,a8L];have:=h i hi;rw[a2Q,W9 (p:=(0:Int)<i) (by omega)]at this;simp only[q0Y,q1G,q0K]at this;exact this.2
 ·have h1:=h.1 (e.Binds.getD i default) (by rw[m9 default hi];exact q0S hi);rw[a2Q,h1.1,h1.2];rcases Nat.eq_zero_or_pos i with h0|h0
  ·subst h0;simp
  ·have h2:=q3T.1 h.2 (i-1) i (by rw[q0O];omega) (by rw[q0O];omega) (by omega);rw[<-m9 [] (by rw[q0O];omega),<-m9 [] (by rw[q0O];omega),a8L,a8L]at h2;rw[h2];simp
def a1F{l:List c4}{v:List UInt8}(x:d4)(h:¬v∈l.map c4.Var):(a0N l v x).map c4.Var=a0i Op.bytesLess (l.map c4.Var) v:=by
 rw[a0i,if_neg h,List.takeWhile_map,List.dropWhile_map,a0N,q1T,V7];rfl
def c9m{l:List c4}{v:List UInt8}{x:d4}{b:c4}:b∈a0N l v x↔b=⟨v,x⟩\/b∈l:=by
 conv=>rhs;rw[<-b5h l v]
 rw[a0N,W8,q0A,W8];constructor
 ·rintro(h|h|h)
  ·exact .inr (.inl h)
  ·exact .inl h
  ·exact .inr (.inr h)
 ·rintro(h|h|h)
  ·exact .inr (.inl h)
  ·exact .inl h
  ·exact .inr (.inr h)
def EnvS.set{l:List c4}{v:List UInt8}{x:d4}(h:EnvS l)(hv:a3R v=true)(hx:k9 x=true)(hn:(w6 ⟨l⟩ v).2=false):EnvS (a0N l v x):=by
 refine⟨fun b hb=>?_,by rw[a1F x (a3L hn)];exact SS.put a0b h.2 v⟩;rcases c9m.1 hb with rfl|hb
 ·exact⟨hv,hx⟩
 ·exact h.1 b hb
def b5m{t:d3}(h:p6 t=true)(hv:(t.Var==[])=false):a3R t.Var=true:=by
 rw[p6,hv]at h;simp only[q2Z,W5,W6]at h;exact h.1
def EnvS.fit{b c:List c4}{t:d3}{v:d4}(h:EnvS b)(ht:p6 t=true)(hv:k9 v=true)(hf:b5V b t v=some c):EnvS c:=by
 rcases a7X hf with⟨rfl,_⟩|⟨rfl,h1,h2⟩
 ·exact h
 ·exact h.set (b5m ht h1) hv h2
def EnvS.fits{b:List c4}{args:List d3}{vs:List d4}(h:EnvS b)(ha:args.all p6=true)(hv:vs.all k9=true):∀{n:Nat} {c:List c4},n<=args.length->n<=vs.length->a1U b args vs n=some c->EnvS c
 | 0,c,_,_,hf=>by
   simp only[a1U,W0]at hf;subst hf;exact h
 | n+1,c,hn,hm,hf=>by
   rw[a1U]at hf;obtain⟨d,h1,h2⟩:=q1R.1 hf;refine(EnvS.fits h ha hv (by omega) (by omega) h1).fit (q0R.1 ha _ ?_) (q0R.1 hv _ ?_) h2
   ·rw[m9 default (by omega)];exact q0S _
   ·rw[m9 default (by omega)];exact q0S _
def fitR_on{e:c9}{args:List d3}{row:d5}(h:(a4G e args row).2=true):args.length=row.V.length/\a1U e.Binds args row.V args.length=some (a4G e args row).1.Binds:=by
 rw[a4G]at h ⊢;by_cases hl:args.length=row.V.length
 ·rw[W9 hl,W5]at h ⊢;split at h
  ·rename_i c hc;exact⟨hl,hc⟩
  ·cases h
 ·rw[V2 hl]at h;cases h
def a9X{c:List c4}{args:List d3}{row:d5}(hl:args.length=row.V.length)(h:∀i,i<args.length->Back c (args.getD i default) (row.V.getD i default)):z7 ⟨c⟩ args=(row,true):=by
 have h1:args.all (fun t=>(k8 ⟨c⟩ t).2)=true:=by
  rw[q0R];intro t ht;obtain⟨i,hi,rfl⟩:=q2V ht;have:=h i hi;unfold Back at this;rw[m9 default hi]at this;rw[this]
 have h2:args.map (fun t=>(k8 ⟨c⟩ t).1)=row.V:=by
  refine q4M (by rw[q0O];exact hl) fun i hi hj=>?_
  rw[q0O]at hi;have:=h i hi;unfold Back at this;rw[m9 default hi,m9 default hj]at this;rw[q5H,this]
 rw[z7,h1,W5,h2]
def c3l(a:d4):v8 a a=false:=by
 rw[v8,a1k,V2 (by omega)];cases a.S==[]&&a.S==[]<;>rfl
def b7s:∀a:List d4,a0W a a=0
 | []=>rfl
 | x::a=>by rw[a0W,c3l];exact b7s a
def b7y{r:d5}(h:a0V r=true):r.V.length<=6/\r.V.all k9=true:=by
 simp only[a0V,W6,V9]at h;exact⟨by omega,h.2⟩
def STO.two{α β γ:Type}{lb:β->β->Bool}{lg:γ->γ->Bool}(ob:STO lb)(og:STO lg)(f:α->β)(g:α->γ)(inj:∀x y,f x=f y->g x=g y->x=y):STO fun x y=>lb (f x) (f y)||(!lb (f y) (f x)&&lg (g x) (g y)) where
 irr x:=by rw[ob.irr,og.irr];rfl
 tr x y z h1 h2:=by
  simp only[q1Y,W6,q0T]at h1 h2 ⊢;rcases h1 with h1|⟨h1,h1'⟩
  ·rcases h2 with h2|⟨h2,h2'⟩
   ·exact .inl (ob.tr _ _ _ h1 h2)
   ·cases h:lb (f y) (f z)with
    | true=>exact .inl (ob.tr _ _ _ h1 h)
    | false=>rw[<-ob.tri _ _ h h2];exact .inl h1
  ·cases h:lb (f x) (f y)with
   | true=>
     rcases h2 with h2|⟨h2,h2'⟩
     ·exact .inl (ob.tr _ _ _ h h2)
     ·cases h3:lb (f y) (f z)with
      | true=>exact .inl (ob.tr _ _ _ h h3)
      | false=>rw[<-ob.tri _ _ h3 h2];exact .inl h
   | false=>
     rw[ob.tri _ _ h h1];rcases h2 with h2|⟨h2,h2'⟩
     ·exact .inl h2
     ·exact .inr ⟨h2,og.tr _ _ _ h1' h2'⟩
 tri x y h1 h2:=by
  simp only[q0Y,q3P,q1G]at h1 h2;obtain⟨a1,a2⟩:=h1;obtain⟨b1,b2⟩:=h2;rcases a2 with a2|a2
  ·rw[b1]at a2;cases a2
  rcases b2 with b2|b2
  ·rw[a1]at b2;cases b2
  exact inj _ _ (ob.tri _ _ a1 b1) (og.tri _ _ a2 b2)
def a4i{α:Type}(lt:α->α->Bool):List α->List α->Bool
 | _,[]=>false
 | [],_::_=>true
 | x::a,y::b=>lt x y||(!lt y x&&a4i lt a b)
def STO.lex{α:Type}{lt:α->α->Bool}(o:STO lt):STO (a4i lt) where
 irr x:=by
  induction x with
  | nil=>rfl
  | cons x a ih=>rw[a4i,o.irr,ih];rfl
 tr x:=by
  induction x with
  | nil=>
    intro y z h1 h2;cases z with
    | nil=>cases y<;>simp[a4i]at h2
    | cons z c=>rfl
  | cons x a ih=>
    intro y z h1 h2;cases y with
    | nil=>simp[a4i]at h1
    | cons y b=>
      cases z with
      | nil=>simp[a4i]at h2
      | cons z c=>
        simp only[a4i,q1Y,W6,q0T]at h1 h2 ⊢;rcases h1 with h1|⟨h1,h1'⟩
        ·rcases h2 with h2|⟨h2,h2'⟩
         ·exact .inl (o.tr _ _ _ h1 h2)
         ·cases h:lt y z with
          | true=>exact .inl (o.tr _ _ _ h1 h)
          | false=>rw[<-o.tri _ _ h h2];exact .inl h1
        ·cases h:lt x y with
         | true=>
           rcases h2 with h2|⟨h2,h2'⟩
           ·exact .inl (o.tr _ _ _ h h2)
           ·cases h3:lt y z with
            | true=>exact .inl (o.tr _ _ _ h h3)
            | false=>rw[<-o.tri _ _ h3 h2];exact .inl h
         | false=>
           rw[o.tri _ _ h h1];rcases h2 with h2|⟨h2,h2'⟩
           ·exact .inl h2
           ·exact .inr ⟨h2,ih _ _ h1' h2'⟩
 tri x:=by
  induction x with
  | nil=>
    intro y h1 h2;cases y with
    | nil=>rfl
    | cons y b=>simp[a4i]at h1
  | cons x a ih=>
    intro y h1 h2;cases y with
    | nil=>simp[a4i]at h2
    | cons y b=>
      simp only[a4i,q0Y,q3P,q1G]at h1 h2;obtain⟨a1,a2⟩:=h1;obtain⟨b1,b2⟩:=h2;rcases a2 with a2|a2
      ·rw[b1]at a2;cases a2
      rcases b2 with b2|b2
      ·rw[a1]at b2;cases b2
      rw[o.tri _ _ a1 b1,ih _ a2 b2]
def vLt(a b:d4):Bool:=Op.bytesLess a.S b.S||(!Op.bytesLess b.S a.S&&iLt a.N b.N)
def c4O:STO vLt:=STO.two a0b c4w d4.S d4.N fun x y h1 h2=>by cases x;cases y;simp_all
def bLt(a b:c4):Bool:=Op.bytesLess a.Var b.Var||(!Op.bytesLess b.Var a.Var&&vLt a.Val b.Val)
def b7Y:STO bLt:=STO.two a0b c4O c4.Var c4.Val fun x y h1 h2=>by cases x;cases y;simp_all
def y6(a b:c9):Bool:=a4i bLt a.Binds b.Binds
def a2g:STO y6 where
 irr x:=b7Y.lex.irr _
 tr x y z:=b7Y.lex.tr _ _ _
 tri x y h1 h2:=by
  have:=b7Y.lex.tri _ _ h1 h2;cases x;cases y;simp_all
def b9a{a b:d4}(ha:k9 a=true)(hb:k9 b=true):vLt a b=v8 a b:=by
 have hn:∀v:d4,k9 v=true->(v.S==[])=false->v.N=0:=by
  intro v hv hs;rw[k9,hs,W3,W6]at hv;simpa using hv.1
 rw[vLt,v8];cases h1:a.S==[]with
 | true=>
   rw[beq_iff_eq]at h1;cases h2:b.S==[]with
   | true=>
     rw[beq_iff_eq]at h2;rw[h1,h2];rfl
   | false=>
     rw[h1];cases hbs:b.S with
     | nil=>rw[hbs]at h2;cases h2
     | cons x y=>rfl
 | false=>
   rw[Bool.false_and,W3,hn a ha h1];cases h2:b.S==[]with
   | true=>
     rw[beq_iff_eq]at h2;rw[h2];cases has:a.S with
     | nil=>rw[has]at h1;cases h1
     | cons x y=>rfl
   | false=>
     rw[hn b hb h2,c4w.irr,q2N,Bool.or_false]
def c6n(n:Nat)(f:Nat->Int):a2I (n+1) f=if f 0=0 then a2I n (fun i=>f (i+1))else f 0:=by
 induction n with
 | zero=>simp[a2I]
 | succ n ih=>
   rw[a2I,ih];by_cases h:f 0=0
   ·rw[if_pos h,if_pos h,a2I]
   ·rw[if_neg h,if_neg h,if_neg h]
def okB(l:List c4):Prop:=∀b∈l,k9 b.Val=true
def b3I:∀{a b:List c4},okB a->okB b->a.map c4.Var=b.map c4.Var->a3p a b=bif a4i bLt a b then-1 else bif a4i bLt b a then 1 else 0
 | [],[],_,_,_=>rfl
 | [],y::b,_,_,h=>by cases h
 | x::a,[],_,_,h=>by cases h
 | x::a,y::b,ha,hb,h=>by
   simp only[V7,V1]at h;have ih:=b3I (a:=a) (b:=b) (fun z hz=>ha z (by simp[hz])) (fun z hz=>hb z (by simp[hz])) h.2;have hx:=ha x (by simp);have hy:=hb y (by simp);rw[a3p]at ih;have e1:bLt x y=v8 x.Val y.Val:=by rw[bLt,h.1,a1k,b9a hx hy];simp
   have e2:bLt y x=v8 y.Val x.Val:=by rw[bLt,h.1,a1k,b9a hy hx];simp
   rw[a3p,V3,c6n];simp only[q2F,q3E,a4i,e1,e2,ih];rw[a7c];cases h1:v8 x.Val y.Val with
   | true=>rfl
   | false=>
     cases h2:v8 y.Val x.Val with
     | true=>rfl
     | false=>rfl
def b3M(args:List d3)(e:c9)(row:d5):Option c9:=bif (a4G e args row).2 then some (a4G e args row).1 else none
def a3M(args:List d3)(rows:List d5)(e:c9):List c9:=rows.filterMap (b3M args e)
def v5(args:List d3)(rows:List d5)(now:List c9):List c9:=now.flatMap (a3M args rows)
def a0s(r:c7)(s:d7):Nat->Option (List c9)
 | 0=>some [⟨[]⟩]
 | n+1=>(a0s r s n).bind fun now=>bif (r.Body.getD n default).Kind==1 then(bif decide ((v5 (r.Body.getD n default).Atom.Args (z5 s (r.Body.getD n default).Atom.Name).1.Rows now).length<=2000)then some (v5 (r.Body.getD n default).Atom.Args (z5 s (r.Body.getD n default).Atom.Name).1.Rows now)else none)else some now
def a0H(r:c7)(s:d7):List c9×Bool:=match a0s r s r.Body.length with|some l=>(l,true)|none=>([],false)
def b4c{r:c7}{s:d7}{i:Nat}(h:a0s r s i=none):∀{n:Nat},i<=n->a0s r s n=none
 | 0,hn=>by
   obtain rfl:i=0:=by omega
   exact h
 | n+1,hn=>by
   rcases q2X i (n+1)with h1|h1
   ·rw[a0s,b4c h (show i<=n by omega)];rfl
   ·obtain rfl:i=n+1:=by omega
    exact h
def b6F(args:List d3)(rows:List d5)(now:List c9)(j:Nat):(v5 args rows (now.take j)).length<=(v5 args rows now).length:=by
 conv=>rhs;rw[<-q1S j now]
 rw[v5,v5,q4Q,W4];omega
def c3i{args:List d3}{rows:List d5}{now:List c9}{j:Nat}(h:j<now.length):v5 args rows (now.take (j+1))=v5 args rows (now.take j)++a3M args rows (now.getD j default):=by
 rw[l9 default h,v5,v5,q4Q];simp
def c9k{args:List d3}{rows:List d5}{e c:c9}{k:Nat}(h:k<rows.length)(hf:b3M args e (rows.getD k default)=some c):a3M args (rows.take (k+1)) e=a3M args (rows.take k) e++[c]:=by
 rw[l9 default h,a3M,a3M,List.filterMap_append,List.filterMap_cons,hf];rfl
def rows_no{args:List d3}{rows:List d5}{e:c9}{k:Nat}(h:k<rows.length)(hf:b3M args e (rows.getD k default)=none):a3M args (rows.take (k+1)) e=a3M args (rows.take k) e:=by
 rw[l9 default h,a3M,a3M,List.filterMap_append,List.filterMap_cons,hf];simp
def c6L(args:List d3)(rows:List d5)(e:c9):(a3M args rows e).length<=rows.length:=List.length_filterMap_le _ _
def b3N{args:List d3}{e:c9}{row:d5}(h:(a4G e args row).2=true):b3M args e row=some (a4G e args row).1:=by rw[b3M,h];rfl
def b8o{args:List d3}{e:c9}{row:d5}(h:(a4G e args row).2=false):b3M args e row=none:=by rw[b3M,h];rfl
def b7d{r:c7}{s:d7}{i j:Nat}{now:List c9}(hj:a0s r s i=some now)(hi:i<r.Body.length)(hk:((r.Body.getD i default).Kind==1)=true)(hl:2000<(v5 (r.Body.getD i default).Atom.Args (z5 s (r.Body.getD i default).Atom.Name).1.Rows (now.take j)).length):a0H r s=([],false):=by
 have h1:=b6F (r.Body.getD i default).Atom.Args (z5 s (r.Body.getD i default).Atom.Name).1.Rows now j;have h2:a0s r s (i+1)=none:=by rw[a0s,hj,q3F,hk,W5,V2 (by omega)];rfl
 rw[a0H,b4c h2 (show i+1<=r.Body.length by omega)]
def c0t{r:c7}{s:d7}{i:Nat}{now:List c9}(hj:a0s r s i=some now)(hk:((r.Body.getD i default).Kind==1)=true)(hl:(v5 (r.Body.getD i default).Atom.Args (z5 s (r.Body.getD i default).Atom.Name).1.Rows now).length<=2000):a0s r s (i+1)=some (v5 (r.Body.getD i default).Atom.Args (z5 s (r.Body.getD i default).Atom.Name).1.Rows now):=by
 rw[a0s,hj,q3F,hk,W5,W9 hl];rfl
def b4d{r:c7}{s:d7}{i:Nat}{now:List c9}(hj:a0s r s i=some now)(hk:((r.Body.getD i default).Kind==1)=false):a0s r s (i+1)=some now:=by
 rw[a0s,hj,q3F,hk];rfl
def c0u{r:c7}{s:d7}{now:List c9}(hj:a0s r s r.Body.length=some now):a0H r s=(now,true):=by rw[a0H,hj]
def b0c{r:c7}{s:d7}{n:Nat}{now:List c9}(h:a0s r s n=some now):now.length<=2000:=by
 induction n generalizing now with
 | zero=>simp only[a0s,W0]at h;subst h;simp
 | succ n ih=>
   rw[a0s]at h;obtain⟨d,h1,h2⟩:=q1R.1 h;cases hk:(r.Body.getD n default).Kind==1 with
   | false=>rw[hk,W3,W0]at h2;subst h2;exact ih h1
   | true=>
     rw[hk,W5]at h2;by_cases hl:(v5 (r.Body.getD n default).Atom.Args (z5 s (r.Body.getD n default).Atom.Name).1.Rows d).length<=2000
     ·rw[W9 hl,W5,W0]at h2;subst h2;exact hl
     ·rw[V2 hl]at h2;cases h2
def ExtB(b c:List c4):Prop:=∀s x,Back b s x->Back c s x
def ExtB.refl(b:List c4):ExtB b b:=fun _ _ h=>h
def ExtB.trans{b c d:List c4}(h1:ExtB b c)(h2:ExtB c d):ExtB b d:=fun s x h=>h2 s x (h1 s x h)
def c0c(vs:List (List UInt8))(t:d3):List (List UInt8):=bif t.Var==[]then vs else a0i Op.bytesLess vs t.Var
def c8z{b c:List c4}{t:d3}{v:d4}(h:b5V b t v=some c):c.map c4.Var=c0c (b.map c4.Var) t:=by
 rcases a7X h with⟨rfl,h1⟩|⟨rfl,h1,h2⟩
 ·rw[c0c];cases ht:t.Var==[]with
  | true=>rfl
  | false=>
    unfold Back at h1;rw[k8,ht,W3]at h1;rw[W3,a0i,if_pos (c8W.1 (by rw[h1]))]
 ·rw[c0c,h1,W3,a1F v (a3L h2)]
def c0p{b:List c4}{args:List d3}{vs:List d4}:∀{n:Nat} {c:List c4},n<=args.length->a1U b args vs n=some c->c.map c4.Var=(args.take n).foldl c0c (b.map c4.Var)
 | 0,c,_,h=>by
   simp only[a1U,W0]at h;subst h;rfl
 | n+1,c,hn,h=>by
   rw[a1U]at h;obtain⟨d,h1,h2⟩:=q1R.1 h;rw[l9 default (by omega),q3X,<-c0p (by omega) h1,c8z h2];rfl
structure FitFact(args:List d3)(e:c9)(row:d5)(c:c9):Prop where
 len:args.length=row.V.length
 back:∀i,i<args.length->Back c.Binds (args.getD i default) (row.V.getD i default)
 ext:ExtB e.Binds c.Binds
 dom:c.Binds.map c4.Var=args.foldl c0c (e.Binds.map c4.Var)
 ok:EnvS e.Binds->args.all p6=true->row.V.all k9=true->EnvS c.Binds
 lenB:c.Binds.length<=e.Binds.length+args.length
def a1V{args:List d3}{e:c9}{row:d5}{c:c9}(h:b3M args e row=some c):FitFact args e row c:=by
 cases h2:(a4G e args row).2 with
 | false=>rw[b8o h2]at h;cases h
 | true=>
   rw[b3N h2,W0]at h;subst h;obtain⟨hl,hf⟩:=fitR_on h2;refine⟨hl,(a9Z hf).1,(a9Z hf).2, ?_,fun hE ha hv=>hE.fits ha hv (q0C _) (by omega) hf,a8K hf⟩;rw[c0p (q0C _) hf,List.take_length]
def c6r{l:List c4}(hn:(l.map c4.Var).Nodup){b:c4}(hb:b∈l):l.find? (fun x=>x.Var==b.Var)=some b:=by
 induction l with
 | nil=>cases hb
 | cons a l ih=>
   rw[V7,q1C]at hn;rw[q3J];rcases q0A.1 hb with rfl|hb
   ·rw[beq_self_eq_true]
   ·have:(a.Var==b.Var)=false:=beq_eq_false_iff_ne.2 fun e=>hn.1 (e▸q1E.2 ⟨b,hb,rfl⟩)
    rw[this];exact ih hn.2 hb
def c1o{v:List UInt8}(h:a3R v=true):(v==[])=false:=by
 cases v with
 | nil=>revert h;decide
 | cons a v=>rfl
def EnvS.nodup{l:List c4}(h:EnvS l):(l.map c4.Var).Nodup:=SS.nodup a0b h.2
def EnvS.at{l:List c4}(h:EnvS l){b:c4}(hb:b∈l):w6 ⟨l⟩ b.Var=(b.Val,true):=by
 rw[a2h,c6r h.nodup hb]
def c4r{a b c:List c4}(ha:EnvS a)(hb:EnvS b)(hv:a.map c4.Var=b.map c4.Var)(h1:ExtB a c)(h2:ExtB b c):a=b:=by
 have key:∀{l:List c4},EnvS l->ExtB l c->l=(l.map c4.Var).map fun v=>⟨v,(w6 ⟨c⟩ v).1⟩:=by
  intro l hl he;rw[q5K];refine(List.map_id _).symm.trans (q3L fun b hb=>?_);have h3:=he ⟨b.Var,default⟩ b.Val (by
   unfold Back;rw[k8];simp only[c1o (hl.1 b hb).1,W3];exact hl.at hb)
  unfold Back at h3;rw[k8]at h3;simp only[c1o (hl.1 b hb).1,W3]at h3;simp only[Function.comp,h3,id]
 rw[key ha h1,key hb h2,hv]
structure Alk(vs:List (List UInt8))(l:List c9):Prop where
 nd:l.Nodup
 ok:∀e∈l,EnvS e.Binds
 dom:∀e∈l,e.Binds.map c4.Var=vs
def c7V{c:List c4}{args:List d3}{row row':d5}(hl:args.length=row.V.length)(hl':args.length=row'.V.length)(h:∀i,i<args.length->Back c (args.getD i default) (row.V.getD i default))(h':∀i,i<args.length->Back c (args.getD i default) (row'.V.getD i default)):row=row':=by
 have:=(a9X hl h).symm.trans (a9X hl' h');exact(Prod.mk.inj this).1
def Alk.stage{vs:List (List UInt8)}{l:List c9}{args:List d3}{rows:List d5}(h:Alk vs l)(ha:args.all p6=true)(hr:rows.Nodup)(hv:∀x∈rows,x.V.all k9=true):Alk (args.foldl c0c vs) (v5 args rows l):=by
 have mem:∀{c:c9},c∈v5 args rows l->∃e∈l,∃row∈rows,b3M args e row=some c:=by
  intro c hc;obtain⟨e,he,hc⟩:=q1W.1 hc;obtain⟨row,hrow,hf⟩:=q3O.1 hc;exact⟨e,he,row,hrow,hf⟩
 refine⟨?_,fun c hc=>?_,fun c hc=>?_⟩
 ·unfold List.Nodup;rw[v5,List.pairwise_flatMap];refine⟨fun e he=>?_, ?_⟩
  ·rw[a3M,List.pairwise_filterMap];refine List.Pairwise.imp ?_ hr;intro x y hxy c hc d hd hcd;subst hcd;have f1:=a1V hc;have f2:=a1V hd;exact hxy (c7V f1.len f2.len f1.back f2.back)
  ·refine List.Pairwise.imp_of_mem ?_ h.nd;intro e e' he he' hne c hc d hd hcd;subst hcd;obtain⟨_,_,hf⟩:=q3O.1 hc;obtain⟨_,_,hf'⟩:=q3O.1 hd;have f1:=a1V hf;have f2:=a1V hf';have:=c4r (h.ok e he) (h.ok e' he') ((h.dom e he).trans (h.dom e' he').symm) f1.ext f2.ext;exact hne (by cases e;cases e';simp_all)
 ·obtain⟨e,he,row,hrow,hf⟩:=mem hc;exact(a1V hf).ok (h.ok e he) ha (hv row hrow)
 ·obtain⟨e,he,row,hrow,hf⟩:=mem hc;rw[(a1V hf).dom,h.dom e he]
end Go.Aw
