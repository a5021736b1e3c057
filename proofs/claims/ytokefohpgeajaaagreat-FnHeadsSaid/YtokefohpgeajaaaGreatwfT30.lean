/- Rows, relations, stores. No condition. -/
import Derived.Test.YtokefohpgeajaaaGreatwfT2
import Derived.Test.YtokefohpgeajaaaGreatrBx10wf
import Derived.Test.YtokefohpgeajaaaGreatrBx11wf
namespace Go.Aw
set_option maxHeartbeats 4000000
open Go.Proofs
attribute [local irreducible] aft blk lpK retK AW A0p
set_option linter.all false
set_option maxRecDepth 100000
def a0d{α:Type}{l:List α}{i:Nat}(d:α)(h:i<l.length):l.drop i=l.getD i d::l.drop (i+1):=by
 rw[n8 d h];exact q2R h
def a0M(r:d3):Bool:=decide ((r.V.length:Int)<=6)&&r.V.all k9
def a1a:List d5->List d5->Int
 | [],[]=>0
 | [],_::_=>-1
 | _::_,[]=>1
 | x::a,y::b=>bif w8 x y then-1 else bif w8 y x then 1 else a1a a b
def a1z:List d5->List d5->Int
 | [],[]=>0
 | [],_::_=>-1
 | _::_,[]=>1
 | x::a,y::b=>if a0g x y=0 then a1z a b else a0g x y
def a7i(a b:d3):Int:=bif a0M a&&a0M b then a1a a.V b.V else 2
def a0I(r:f5)(i:Nat):Bool:=!((r.Rows.getD i default).V.length==r.Arity)||!a0M (r.Rows.getD i default)||decide (0<i)&&!(a1a (r.Rows.getD (i-1) default).V (r.Rows.getD i default).V==-1)
def a0v(r:f5):Bool:=decide (0<=r.Arity)&&decide (r.Arity<=6)&&decide ((r.Rows.length:Int)<=300)&&!a3n r.Rows.length (a0I r)
def a1n(l:List d8)(i:Nat):Bool:=!a0X (l.getD i default).Name||!a0v (l.getD i default).Rel||decide (0<i)&&!Op.bytesLess (l.getD (i-1) default).Name (l.getD i default).Name
def u7(s:d6):Bool:=decide ((s.Rels.length:Int)<=24)&&!a3n s.Rels.length (a1n s.Rels)
def a2K{α:Type}{l:List α}{i:Nat}(h:l.length<=i):l.drop i=[]:=List.drop_eq_nil_of_le h
def d0w{a b:List d5}{i:Nat}(hi:i<=a.length)(hj:i<=b.length)(h:¬(i<a.length/\i<b.length)):a1a (a.drop i) (b.drop i)=if a.length<b.length then-1 else if b.length<a.length then 1 else 0:=by
 by_cases h1:a.length<b.length
 ·rw[if_pos h1,a2K (show a.length<=i by omega),a0d (l:=b) default (by omega)];rfl
 ·rw[if_neg h1];by_cases h2:b.length<a.length
  ·rw[if_pos h2,a2K (show b.length<=i by omega),a0d (l:=a) default (by omega)];rfl
  ·rw[if_neg h2,a2K (show a.length<=i by omega),a2K (show b.length<=i by omega)];rfl
def b3Y{a b:List d5}{i:Nat}(hi:i<=a.length)(hj:i<=b.length)(h:¬(i<a.length/\i<b.length)):a1z (a.drop i) (b.drop i)=if a.length<b.length then-1 else if b.length<a.length then 1 else 0:=by
 by_cases h1:a.length<b.length
 ·rw[if_pos h1,a2K (show a.length<=i by omega),a0d (l:=b) default (by omega)];rfl
 ·rw[if_neg h1];by_cases h2:b.length<a.length
  ·rw[if_pos h2,a2K (show b.length<=i by omega),a0d (l:=a) default (by omega)];rfl
  ·rw[if_neg h2,a2K (show a.length<=i by omega),a2K (show b.length<=i by omega)];rfl
def a9K:∀{a b:List d5},(∀x∈a,k9 x=true)->(∀x∈b,k9 x=true)->sgn (a1z a b)=a1a a b
 | [],[],_,_=>by decide
 | [],_::_,_,_=>by simp only[a1z,a1a];decide
 | _::_,[],_,_=>by simp only[a1z,a1a];decide
 | x::a,y::b,ha,hb=>by
   have h:=b1z (ha x (by simp)) (hb y (by simp));have ih:=a9K (a:=a) (b:=b) (fun z hz=>ha z (by simp[hz])) (fun z hz=>hb z (by simp[hz]));rw[a1z,a1a];unfold a7y at h;split
   ·rename_i h0;rw[h0]at h;cases h1:w8 x y with
    | true=>rw[h1,W4]at h;unfold sgn at h;omega
    | false=>
      cases h2:w8 y x with
      | true=>rw[h1,h2,W4,W6]at h;unfold sgn at h;omega
      | false=>exact ih
   ·rename_i h0;cases h1:w8 x y with
    | true=>rw[h1]at h;exact h
    | false=>
      cases h2:w8 y x with
      | true=>rw[h1,h2]at h;exact h
      | false=>rw[h1,h2]at h;unfold sgn at h;simp only[W6]at h;omega
def b5j(a:d5)(b:d5):spZ 315 [(true,[.i .i64 a.N,.s a.S]),(true,[.i .i64 b.N,.s b.S])] [] (.one (false,[.b (w8 a b)])):=by
 refine sy' Tryz.func315 (q' 2 [aX 2 0,aX 2 1,aU false] (.seq (q' 5 [aG 1 2,aY .eql 6 [],am 7,aH 8 true [bf 1 3,bL,bY .eql 10 []],aP 8 11] (ci 12 (q' 13 [aG 0 2,aG 0 3,ar 14 16,aV 4] .ret))) (q' 18 [aG 1 2,aG 1 3,ar 19 21,aV 4] .ret))) [.t 4] [] ?_;intro hb hE;simp only[go_sem];repeat' first|apply cj'|intro hc|exact om'|fail
 ·rw[w8,hc.1,hc.2];rfl
 ·rw[w8,hc];rfl
noncomputable def a3s:CT:=o9 (fun(x:d5×d5)=>b5j x.1 x.2)
@[go_sem] def c4P:=fun x0 x1 x2 x3=>nm' (fQ' a3s rfl (⟨x0,x1⟩,⟨x2,x3⟩))
def b2C(a:d3)(b:d3):spZ 269 [(true,[t5 a.V]),(true,[t5 b.V])] [] (.one (false,[.i .i64 (a1a a.V b.V)])):=by
 refine sy' Tryz.func269 (q' 2 [aX 1 0,aX 1 1,aK 0] (.seq (q' 5 [aK 0] (fo 0 6 [am 5,aG 0 2,aN,ar 6 9,am 10,aH 11 true [bm 5,bf 0 3,bL,bN,bD .lss 12 15],aP 11 16] 17 1 (.seq (.seq (G' 20 [aG 0 2,am 5,aI 2,aE 2,aG 0 3,am 5,aI 2,aE 2,ac 315 [24,29]]) (ci 30 (q' 4 [ao (.mov (.k (.v false [.c (.i .i64 (-1))])))] .ret))) (.seq (G' 31 [aG 0 3,am 5,aI 2,aE 2,aG 0 2,am 5,aI 2,aE 2,ac 315 [35,40]]) (ci 41 (q' 4 [aK 1] .ret)))) (g' 18 [aB 5]))) (.seq (q' 42 [aG 0 2,aN,aG 0 3,aN,ar 44 47] (ci 48 (q' 4 [ao (.mov (.k (.v false [.c (.i .i64 (-1))])))] .ret))) (.seq (q' 49 [aG 0 2,aN,aG 0 3,aN,aD .gtr 51 54] (ci 55 (q' 4 [aK 1] .ret))) (q' 4 [aK 0] .ret))))) [.t 4] [(315,[],a3s)] ?_;intro hb hE;simp only[go_sem];repeat' first|apply cj'|intro hc|exact om'|fail
 refine lq' false [2,3] [4,6] [] (fun i:{i:Nat // i<=a.V.length/\i<=b.V.length/\a1a (a.V.drop i) (b.V.drop i)=a1a a.V b.V}=>[(5,slV (.i .i64 i.1))]) nl' nl' (fun i=>a.V.length-i.1) (⟨0,by simp⟩) ?_;intro S0 hS0 i;obtain⟨i,hi,hj,he⟩:=i;simp only[go_sem,hS0];repeat' first|apply cj'|intro hc|exact om'|fail
 ·rw[<-he,a0d (l:=a.V) default (by omega),a0d (l:=b.V) default (by omega),a1a,hc];rfl
 ·rename_i h1;rw[<-he,a0d (l:=a.V) default (by omega),a0d (l:=b.V) default (by omega),a1a,h1,hc];rfl
 ·rename_i h1;have h2:=he;rw[a0d (l:=a.V) default (by omega),a0d (l:=b.V) default (by omega),a1a,h1,hc]at h2;exact nx0 ⟨i+1,by omega,by omega,h2⟩
 all_goals have q:(decide ((i:Int)<a.V.length)&&decide ((i:Int)<b.V.length))=false:=by assumption
 all_goals rw[q3W,q2K,q2K]at q
 all_goals rw[<-he,d0w hi hj (by omega)]
 ·rw[if_pos (by omega)]
 ·rw[if_neg (by omega),if_pos (by omega)]
 ·rw[if_neg (by omega),if_neg (by omega)]
noncomputable def a1E:CT:=o9 (fun(x:d3×d3)=>b2C x.1 x.2)
@[go_sem] def c3o:=fun x0 x1=>nm' (fQ' a1E rfl (⟨x0⟩,⟨x1⟩))
def b9A(r:d3):spZ 252 [(true,[t5 r.V])] [] (.one (false,[.b (a0M r)])):=by
 refine sy' Tryz.func252 (q' 1 [aX 1 0,aU false] (.seq (q' 5 [aG 0 1,aN,aC .gtr 7 6] (ci 8 (q' 2 [aU false] .ret))) (.seq (q' 9 [aG 0 1,aN,aK 0] (fO 0 13 [ar 12 11] 13 1 (q' 14 [ai 2 10 12,aE 2,ax (w' 4 [.i .i64,.s]),aS 2 4 15] (q' 16 [ae 2 4,ac 312 [16],aO 17] (ci 18 (q' 2 [aU false] .ret)))) (g' 19 [aA 12]))) (q' 2 [aU true] .ret)))) [.t 2] [(312,[],a1d)] ?_;intro hb hE;simp only[go_sem];repeat' first|apply cj'|intro hc|exact om'|fail
 ·rw[a0M,V3 (by omega)];rfl
 have h6:((r.V.length:Int))<=6:=by omega
 refine lq' false [10,11] [] [] (fun i:{i:Nat // i<=r.V.length/\(r.V.take i).all k9=true}=>[(12,slV (.i .i64 i.1))]) nl' nl' (fun i=>r.V.length-i.1) (⟨0,by simp⟩) ?_;intro S0 hS0 i;obtain⟨i,hi,ha⟩:=i;simp only[go_sem,hS0];repeat' first|apply cj'|intro hc|exact om'|fail
 ·rw[a0M,all_false (d:=default) (i:=i) (by omega) hc,q2T]
 ·exact nx0 ⟨i+1,by omega,a2H default (by omega) ha hc⟩
 ·rw[k6 (by omega)]at ha;rw[a0M,ha,V0 h6];rfl
noncomputable def a5m:CT:=o9 (fun(x:d3)=>b9A x)
@[go_sem] def c8w:=fun x0=>nm' (fQ' a5m rfl ⟨x0⟩)
def b4P(v:d5):spZ 175 [(true,[.i .i64 v.N,.s v.S])] [] (.one (false,[.b (!k9 v)])):=by
 refine sy' Tryz.func175 (q' 1 [aX 2 0,aU false] (q' 3 [ae 2 1,ac 168 [3],aO 4,aV 2] .ret)) [.t 2] [(168,[],a1b)] ?_;intro hb hE;simp only[go_sem];repeat' first|apply cj'|intro hc|exact om'|fail
noncomputable def a6s:CT:=o9 (fun(x:d5)=>b4P x)
@[go_sem] def c4t:=fun x0 x1=>nm' (fQ' a6s rfl ⟨x0,x1⟩)
def c3W(l:List d5):spZ 263 [(false,[t5 l]),(false,[.f 175 []])] [] (.one (false,[.i .i64 (a5U (fun y=>!k9 y) l)])):=by
 refine sy' Tryz.func263 (q' 4 [aK 0] (.seq (q' 6 [am 0,aN,aK 0] (fO 0 9 [ar 8 7] 9 1 (q' 10 [am 8,aV 5] (q' 11 [aM [1,0,5],aI 2,aE 2,ao (.callv (.t 11) [.t 15])] (ci 16 (q' 17 [am 5,aV 4] .ret)))) (g' 18 [aA 8]))) (q' 4 [ao (.mov (.k (.v false [.c (.i .i64 (-1))])))] .ret))) [.t 4] [(175,[],a6s)] ?_;intro hb hE;simp only[go_sem];repeat' first|apply cj'|intro hc|exact om'|fail
 refine lq' false [0,1,7] [] [] (fun i:{i:Nat // i<=l.length/\(l.take i).any (fun y=>!k9 y)=false}=>[(8,slV (.i .i64 i.1))]) nl' nl' (fun i=>l.length-i.1) (⟨0,by simp⟩) ?_;intro S0 hS0 i;obtain⟨i,hi,ha⟩:=i;simp only[go_sem,hS0];repeat' first|apply cj'|intro hc|exact om'|fail
 ·exact(a2w (p:=fun y=>!k9 y) (d:=default) (by omega) ha (by simpa[-List.getD_eq_getElem?_getD]using hc)).symm
 ·exact nx0 ⟨i+1,by omega,a1W (p:=fun y=>!k9 y) default (by omega) ha (by simpa[-List.getD_eq_getElem?_getD]using hc)⟩
 ·exact(a1O (by rwa [k6 (by omega)]at ha)).symm
noncomputable def b4i:CT:=o9 (fun(x:(List d5))=>c3W x)
@[go_sem] def d1b:=fun l=>nm' (fQ' b4i rfl l)
def c3V(l:List d5):spZ 174 [(false,[t5 l]),(false,[.f 175 []])] [] (.one (false,[.b (l.any (fun y=>!k9 y))])):=by
 refine sy' Tryz.func174 (q' 4 [aU false] (q' 5 [aM [0,1],ac 263 [5,6],aC .geq 7 0,aV 4] .ret)) [.t 4] [(263,[],b4i)] ?_;intro hb hE;simp only[go_sem];repeat' first|apply cj'|intro hc|exact om'|fail
 ·exact a9o _ _
noncomputable def b4h:CT:=o9 (fun(x:(List d5))=>c3V x)
@[go_sem] def d1a:=fun l=>nm' (fQ' b4h rfl l)
def b9o(r:d3):spZ 85 [(true,[t5 r.V])] [] (.one (false,[.b (a0M r)])):=by
 refine sy' Tryz.func85 (q' 1 [aX 1 0,aU false] (q' 3 [aG 0 1,aN,aC .leq 5 6,am 6,aH 7 true [bf 0 1,bL,bo (.call 174 [.t 9,.k (.v false [.c (.f 175 [])])]),bO 10],aP 7 11,aV 2] .ret)) [.t 2] [(174,[],b4h)] ?_;intro hb hE;simp only[go_sem];repeat' first|apply cj'|intro hc|exact om'|fail
 all_goals rw[b3a,q5Q,a0M]
noncomputable def a5i:CT:=o9 (fun(x:d3)=>b9o x)
@[go_sem] def c8h:=fun x0=>nm' (fQ' a5i rfl ⟨x0⟩)
def c7B(a:List d5)(b:List d5):spZ 262 [(false,[t5 a]),(false,[t5 b]),(false,[.f 248 []])] [] (.one (false,[.i .i64 (a1z a b)])):=by
 refine sy' Tryz.func262 (q' 6 [aK 0] (.seq (q' 11 [am 0,aN,aK 0] (fO 0 14 [ar 13 12] 14 1 (q' 15 [am 13,ai 2 11 13,aE 2,ax (w' 8 [.i .i64,.s]),av 7 15,aS 2 8 17] (.seq (q' 18 [aM [7,1],aN,aD .geq 18 20] (ci 21 (q' 6 [aK 1] .ret))) (q' 22 [aM [1,7],aI 2,aE 2,ax (w' 9 [.i .i64,.s]),aS 2 9 25] (q' 26 [am 2,ae 2 8,ae 2 9,ao (.callv (.t 26) [.t 27,.t 28]),aV 10] (q' 30 [am 10,aC .neq 30 0] (ci 31 (q' 32 [am 10,aV 6] .ret))))))) (g' 33 [aA 13]))) (.seq (q' 34 [am 0,aN,am 1,aN,ar 35 37] (ci 38 (q' 6 [ao (.mov (.k (.v false [.c (.i .i64 (-1))])))] .ret))) (q' 6 [aK 0] .ret)))) [.t 6] [(248,[],a1Z)] ?_;intro hb hE;simp only[go_sem];repeat' first|apply cj'|intro hc|exact om'|fail
 refine lq' false [0,1,2,11,12] [] [] (fun i:{i:Nat // i<=a.length/\i<=b.length/\a1z (a.drop i) (b.drop i)=a1z a b}=>[(13,slV (.i .i64 i.1))]) nl' nl' (fun i=>a.length-i.1) (⟨0,by simp⟩) ?_;intro S0 hS0 i;obtain⟨i,hi,hj,he⟩:=i;simp only[go_sem,hS0];repeat' first|apply cj'|intro hc|exact om'|fail
 ·rw[<-he,b3Y hi hj (by omega),if_neg (by omega),if_pos (by omega)]
 ·rw[<-he,a0d (l:=a) default (by omega),a0d (l:=b) default (by omega),a1z,if_neg (by simpa using hc)]
 ·have h2:=he;rw[a0d (l:=a) default (by omega),a0d (l:=b) default (by omega),a1z,if_pos (by simpa using hc)]at h2;exact nx0 ⟨i+1,by omega,by omega,h2⟩
 ·rw[<-he,b3Y hi hj (by omega),if_pos (by omega)]
 ·rw[<-he,b3Y hi hj (by omega),if_neg (by omega),if_neg (by omega)]
noncomputable def b7I:CT:=o9 (fun(x:(List d5)×(List d5))=>c7B x.1 x.2)
@[go_sem] def d1h:=fun a b=>nm' (fQ' b7I rfl (a,b))
def a9u(a:d3)(b:d3):spZ 173 [(true,[t5 a.V]),(true,[t5 b.V])] [] (.one (false,[.i .i64 (a1z a.V b.V)])):=by
 refine sy' Tryz.func173 (q' 2 [aX 1 0,aX 1 1,aK 0] (q' 5 [aG 0 2,aG 0 3,ao (.call 262 [.t 6,.t 8,.k (.v false [.c (.f 248 [])])]),aV 4] .ret)) [.t 4] [(262,[],b7I)] ?_;intro hb hE;simp only[go_sem];repeat' first|apply cj'|intro hc|exact om'|fail
noncomputable def a5k:CT:=o9 (fun(x:d3×d3)=>a9u x.1 x.2)
@[go_sem] def c8l:=fun x0 x1=>nm' (fQ' a5k rfl (⟨x0⟩,⟨x1⟩))
def b2A(a:d3)(b:d3):spZ 253 [(true,[t5 a.V]),(true,[t5 b.V])] [] (.one (false,[.i .i64 (a7i a b)])):=by
 refine sy' Tryz.func253 (q' 2 [aX 1 0,aX 1 1,aK 0] (.seq (q' 5 [ae 1 2,ac 252 [5],aO 6,am 7,aH 8 false [be 1 3,bc 252 [9],bO 10],aQ 8 11] (ci 12 (q' 4 [aK 2] .ret))) (q' 13 [ae 1 2,ae 1 3,ac 269 [13,14],aV 4] .ret))) [.t 4] [(252,[],a5m),(269,[],a1E)] ?_;intro hb hE;simp only[go_sem];repeat' first|apply cj'|intro hc|exact om'|fail
 ·rcases hc with h|h<;>simp[a7i,h]
 ·rw[a7i,hc.1,hc.2];rfl
noncomputable def a5F:CT:=o9 (fun(x:d3×d3)=>b2A x.1 x.2)
@[go_sem] def c3m:=fun x0 x1=>nm' (fQ' a5F rfl (⟨x0⟩,⟨x1⟩))
def a3O{n:Nat}{p:Nat->Bool}(h:a3n n p=false){j:Nat}(hj:j<n):p j=false:=by
 simp only[a3n,q1K]at h;simpa using b3W h hj
def y9{r:d3}(h:a0M r=true):∀x∈r.V,k9 x=true:=by
 simp only[a0M,W7,q0S]at h;exact h.2
def a2y{r:f5}{i:Nat}(h:a0I r i=false):a0M (r.Rows.getD i default)=true:=by
 simp only[a0I,q1A,q1K]at h;exact h.1.2
def bRow_ge{a b:List d5}(ha:∀x∈a,k9 x=true)(hb:∀x∈b,k9 x=true):decide (0<=a1z a b)=!(a1a a b==-1):=by
 have h:=a9K ha hb;unfold sgn at h;rw[q3R];simp only[q0B,q0U,beq_eq_false_iff_ne];omega
def c7N{r:f5}{i:Nat}(ha:a3n i (a0I r)=false):(!a0M (r.Rows.getD i default)||!((r.Rows.getD i default).V.length==r.Arity)||(decide (0<i)&&decide (0<=a1z (r.Rows.getD (i-1) default).V (r.Rows.getD i default).V)))=a0I r i:=by
 rw[a0I];cases h:a0M (r.Rows.getD i default)with
 | false=>simp
 | true=>
   by_cases h0:0<i
   ·rw[bRow_ge (y9 (a2y (a3O ha (show i-1<i by omega)))) (y9 h)];simp
   ·rw[V3 h0];simp
def b5N{r:f5}{i:Nat}(hi:i<r.Rows.length)(h:a0I r i=true):a0v r=false:=by
 rw[a0v,a3k hi h];simp
def b9z(r:f5):spZ 161 [(true,[.i .i64 r.Arity,a1f r.Rows])] [] (.one (false,[.b (a0v r)])):=by
 refine sy' Tryz.func161 (q' 1 [aX 2 0,aU false] (.seq (q' 4 [aG 0 1,aC .lss 5 0,am 6,aH 7 false [bf 0 1,bL,bC .gtr 9 6],aQ 7 10,am 11,aH 12 false [bf 1 1,bL,bN,bC .gtr 15 300],aQ 12 16] (ci 17 (q' 2 [aU false] .ret))) (.seq (q' 18 [aG 1 1,aN,aK 0] (fO 0 22 [ar 21 20] 22 1 (q' 23 [am 21,aV 3] (.seq (.seq (G' 24 [aG 1 1,am 3,aI 1,aG 0 27,aN,aG 0 1,aD .neq 30 32,am 33,aH 34 false [bf 1 1,bL,bm 3,bI 1,bE 1,bc 252 [39],bO 40],aQ 34 41]) (ci 42 (q' 2 [aU false] .ret))) (.seq (G' 43 [am 3,aC .gtr 43 0,am 44,aH 45 true [bf 1 1,bL,bm 3,bC .sub 48 1,bi 1 47 49,bE 1,bf 1 1,bL,bm 3,bI 1,bE 1,bc 253 [51,56],bC .neq 57 (-1)],aP 45 58]) (ci 59 (q' 2 [aU false] .ret))))) (g' 60 [aA 21]))) (q' 2 [aU true] .ret)))) [.t 2] [(252,[],a5m),(253,[],a5F)] ?_;intro hb hE;simp only[go_sem];repeat' first|apply cj'|intro hc|exact om'|fail
 ·rcases hc with(h|h)|h
  ·rw[a0v,V3 (show¬0<=r.Arity by omega)];rfl
  ·rw[a0v,V3 (show¬r.Arity<=6 by omega)];simp
  ·rw[a0v,V3 (show¬(r.Rows.length:Int)<=300 by omega)];simp
 have hA:=hc;clear hc;refine lq' false [1,20] [2] [] (fun i:{i:Nat // i<=r.Rows.length/\a3n i (a0I r)=false}=>[(21,slV (.i .i64 i.1))]) nl' nl' (fun i=>r.Rows.length-i.1) (⟨0,by simp[a2o]⟩) ?_;intro S0 hS0 i;obtain⟨i,hi,ha⟩:=i;have hw:0<i->IntKind.i64.wrap ((i:Int)-1)=((i-1:Nat):Int):=fun h=>by rw[IntWalk.i64_in _ (by omega)];omega
 simp only[go_sem,hS0];repeat' first|apply cj'|intro hc|exact om'|fail
 ·have hq:a0I r i=true:=by
   rw[a0I];rcases hc with h|h
   ·simp only[bne]at h;rw[h];rfl
   ·rw[h];simp
  rw[b5N (by omega) hq]
 ·rename_i h1;have hq:a0I r i=true:=by
   rw[hw (by omega)]at hc;rw[a7i,h1.2,show((i-1:Nat):Int).toNat=i-1 from rfl,a2y (a3O ha (show i-1<i by omega))]at hc;rw[a0I,V0 (show 0<i by omega)];have h3:=hc.2;simp only[bne,q1L,W4]at h3;rw[h3];simp
  rw[b5N (by omega) hq]
 ·rename_i h1;have hq:a0I r i=false:=by
   have h2:=h1.1;simp only[bne]at h2;rw[a0I,h2,h1.2];by_cases h0:0<i
   ·rw[hw h0,V0 (show(0:Int)<i by omega),a7i,h1.2,show((i-1:Nat):Int).toNat=i-1 from rfl,a2y (a3O ha (show i-1<i by omega))]at hc;rw[V0 h0];exact hc
   ·rw[V3 h0];rfl
  exact nx0 ⟨i+1,by omega,a1L ha hq⟩
 ·obtain rfl:i=r.Rows.length:=by omega
  rw[a0v,ha,V0 (show 0<=r.Arity by omega),V0 (show r.Arity<=6 by omega),V0 (show(r.Rows.length:Int)<=300 by omega)];rfl
noncomputable def a9d:CT:=o9 (fun(x:f5)=>b9z x)
@[go_sem] def c8v:=fun x0 x1=>nm' (fQ' a9d rfl ⟨x0,x1⟩)
def b9n(r:f5):spZ 84 [(true,[.i .i64 r.Arity,a1f r.Rows])] [] (.one (false,[.b (a0v r)])):=by
 refine sy' Tryz.func84 (q' 1 [aX 2 0,aU false] (.seq (q' 5 [aG 1 1,aN,aK 0] (fO 0 9 [ar 8 7] 9 1 (q' 10 [am 8,ai 1 6 8,aE 1,ax (w' 4 [.sl l3]),av 3 10,aS 1 4 12] (.seq (G' 13 [ae 1 4,ac 85 [13],aO 14,am 15,aH 16 false [bf 0 4,bL,bN,bf 0 1,bL,bD .neq 19 21],aQ 16 22,am 23,aH 24 false [bm 3,bC .gtr 25 0,bm 26],aH 27 true [bf 1 1,bL,bm 3,bC .sub 30 1,bi 1 29 31,bE 1,be 1 4,bc 173 [33,34],bC .geq 35 0],aH 24 false [bP 27 36],aQ 24 37]) (ci 38 (q' 2 [aU false] .ret)))) (g' 39 [aA 8]))) (q' 40 [aG 0 1,ao (.call 130 [.t 41,.k (.v false [.c (.i .i64 6)])]),am 42,aH 43 true [bf 1 1,bL,bN,bC .leq 46 300],aP 43 47,aV 2] .ret))) [.t 2] [(85,[],a5i),(173,[],a5k),(130,[],b1n)] ?_;intro hb hE;simp only[go_sem];repeat' first|apply cj'|intro hc|exact om'|fail
 refine lq' false [1,6,7] [2] [] (fun i:{i:Nat // i<=r.Rows.length/\a3n i (a0I r)=false}=>[(8,slV (.i .i64 i.1))]) nl' nl' (fun i=>r.Rows.length-i.1) (⟨0,by simp[a2o]⟩) ?_;intro S0 hS0 i;obtain⟨i,hi,ha⟩:=i;have hR:=c7N ha;have hw:0<i->IntKind.i64.wrap ((i:Int)-1)=((i-1:Nat):Int):=fun h=>by rw[IntWalk.i64_in _ (by omega)];omega
 simp only[go_sem,hS0];repeat' first|apply cj'|intro hc|exact om'|fail
 ·have hq:a0I r i=true:=by
   rw[<-hR];rcases hc with(h|h)|⟨h0,h⟩
   ·rw[h];rfl
   ·simp only[bne]at h;rw[h];simp
   ·rw[hw (by omega)]at h;have h':0<=a1z (r.Rows.getD (i-1) default).V (r.Rows.getD i default).V:=h;rw[V0 (show 0<i by omega),V0 h'];simp
  rw[b5N (by omega) hq]
 ·have hq:a0I r i=false:=by
   rw[<-hR];obtain⟨⟨h1,h2⟩,h3⟩:=hc;simp only[bne]at h2;rw[h1,h2];by_cases h0:0<i
   ·rw[hw h0,V0 (show(0:Int)<i by omega)]at h3;rw[V0 h0];exact h3
   ·rw[V3 h0];rfl
  exact nx0 ⟨i+1,by omega,a1L ha hq⟩
 ·obtain rfl:i=r.Rows.length:=by omega
  rw[a0v,ha];simp
noncomputable def a5h:CT:=o9 (fun(x:f5)=>b9n x)
@[go_sem] def c8g:=fun x0 x1=>nm' (fQ' a5h rfl ⟨x0,x1⟩)
def b8l{s:d6}{i:Nat}(hi:i<s.Rels.length)(h:a1n s.Rels i=true):u7 s=false:=by
 rw[u7,a3k hi h];simp
def b5c(s:d6):spZ 75 [(true,[v9 s.Rels])] [] (.one (false,[.b (u7 s)])):=by
 refine sy' Tryz.func75 (q' 1 [aX 1 0,aU false] (.seq (q' 4 [aG 0 1,aN,aC .gtr 6 24] (ci 7 (q' 2 [aU false] .ret))) (.seq (q' 8 [aG 0 1,aN,aK 0] (fO 0 12 [ar 11 10] 12 1 (q' 13 [am 11,aV 3] (.seq (G' 14 [aG 0 1,am 3,aI 3,aG 0 17,ac 160 [19],aO 20,am 21,aH 22 false [bf 0 1,bL,bm 3,bI 3,bF 1,bE 2,bc 161 [28],bO 29],aQ 22 30,am 31,aH 32 false [bm 3,bC .gtr 33 0,bm 34],aH 35 true [bf 0 1,bL,bm 3,bC .sub 38 1,bi 3 37 39,bF 0,bL,bf 0 1,bL,bm 3,bI 3,bF 0,bL,bD .geq 42 48],aH 32 false [bP 35 49],aQ 32 50]) (ci 51 (q' 2 [aU false] .ret)))) (g' 52 [aA 11]))) (q' 2 [aU true] .ret)))) [.t 2] [(160,[],a0V),(161,[],a9d)] ?_;intro hb hE;simp only[go_sem];repeat' first|apply cj'|intro hc|exact om'|fail
 ·rw[u7,V3 (by omega)];rfl
 have hA:=hc;clear hc;refine lq' false [1,10] [2] [] (fun i:{i:Nat // i<=s.Rels.length/\a3n i (a1n s.Rels)=false}=>[(11,slV (.i .i64 i.1))]) nl' nl' (fun i=>s.Rels.length-i.1) (⟨0,by simp[a2o]⟩) ?_;intro S0 hS0 i;obtain⟨i,hi,ha⟩:=i;have hw:0<i->IntKind.i64.wrap ((i:Int)-1)=((i-1:Nat):Int):=fun h=>by rw[IntWalk.i64_in _ (by omega)];omega
 simp only[go_sem,hS0];repeat' first|apply cj'|intro hc|exact om'|fail
 ·have hq:a1n s.Rels i=true:=by
   rw[a1n];rcases hc with(h|h)|⟨h0,h⟩
   ·rw[h];rfl
   ·rw[h];simp
   ·rw[hw (by omega)]at h;have h':Op.bytesLess (s.Rels.getD (i-1) default).Name (s.Rels.getD i default).Name=false:=h;rw[V0 (show 0<i by omega),h'];simp
  rw[b8l (by omega) hq]
 ·have hq:a1n s.Rels i=false:=by
   obtain⟨⟨h1,h2⟩,h3⟩:=hc;rw[a1n,h1,h2];by_cases h0:0<i
   ·rw[hw h0,V0 (show(0:Int)<i by omega)]at h3;rw[V0 h0];exact h3
   ·rw[V3 h0];rfl
  exact nx0 ⟨i+1,by omega,a1L ha hq⟩
 ·obtain rfl:i=s.Rels.length:=by omega
  rw[u7,ha,V0 (show(s.Rels.length:Int)<=24 by omega)];rfl
noncomputable def a6z:CT:=o9 (fun(x:d6)=>b5c x)
@[go_sem] def c4I:=fun x0=>nm' (fQ' a6z rfl ⟨x0⟩)
def b4Q(s:d6):spZ 70 [(true,[v9 s.Rels])] [] (.one (false,[.b (u7 s)])):=by
 refine sy' Tryz.func70 (q' 1 [aX 1 0,aU false] (.seq (q' 5 [aG 0 1,aN,aK 0] (fO 0 9 [ar 8 7] 9 1 (q' 10 [am 8,ai 3 6 8,aE 3,ax (w' 4 [.s,.i .i64,.sl o8]),av 3 10,aS 3 4 12] (.seq (G' 13 [aG 0 4,ac 149 [14],aO 15,am 16,aH 17 false [bf 1 4,bE 2,bc 84 [19],bO 20],aQ 17 21,am 22,aH 23 false [bm 3,bC .gtr 24 0,bm 25],aH 26 true [bf 0 1,bL,bm 3,bC .sub 29 1,bi 3 28 30,bF 0,bL,bf 0 4,bL,bD .geq 33 35],aH 23 false [bP 26 36],aQ 23 37]) (ci 38 (q' 2 [aU false] .ret)))) (g' 39 [aA 8]))) (q' 40 [aG 0 1,aN,aC .leq 42 24,aV 2] .ret))) [.t 2] [(149,[],a2z),(84,[],a5h)] ?_;intro hb hE;simp only[go_sem];repeat' first|apply cj'|intro hc|exact om'|fail
 refine lq' false [1,6,7] [2] [] (fun i:{i:Nat // i<=s.Rels.length/\a3n i (a1n s.Rels)=false}=>[(8,slV (.i .i64 i.1))]) nl' nl' (fun i=>s.Rels.length-i.1) (⟨0,by simp[a2o]⟩) ?_;intro S0 hS0 i;obtain⟨i,hi,ha⟩:=i;have hw:0<i->IntKind.i64.wrap ((i:Int)-1)=((i-1:Nat):Int):=fun h=>by rw[IntWalk.i64_in _ (by omega)];omega
 simp only[go_sem,hS0];repeat' first|apply cj'|intro hc|exact om'|fail
 ·have hq:a1n s.Rels i=true:=by
   rw[a1n];rcases hc with(h|h)|⟨h0,h⟩
   ·rw[h];rfl
   ·rw[h];simp
   ·rw[hw (by omega)]at h;have h':Op.bytesLess (s.Rels.getD (i-1) default).Name (s.Rels.getD i default).Name=false:=h;rw[V0 (show 0<i by omega),h'];simp
  rw[b8l (by omega) hq]
 ·have hq:a1n s.Rels i=false:=by
   obtain⟨⟨h1,h2⟩,h3⟩:=hc;rw[a1n,h1,h2];by_cases h0:0<i
   ·rw[hw h0,V0 (show(0:Int)<i by omega)]at h3;rw[V0 h0];exact h3
   ·rw[V3 h0];rfl
  exact nx0 ⟨i+1,by omega,a1L ha hq⟩
 ·obtain rfl:i=s.Rels.length:=by omega
  rw[u7,ha,q3B,q1H]
noncomputable def a3o:CT:=o9 (fun(x:d6)=>b4Q x)
@[go_sem] def c4u:=fun x0=>nm' (fQ' a3o rfl ⟨x0⟩)
def b1a{r:f5}(h:a0v r=true):r.Rows.length<=300:=by
 simp only[a0v,W7,q0B]at h;omega
def c2b{s:d6}(h:u7 s=true):∀x∈s.Rels,a0v x.Rel=true:=by
 intro x hx;obtain⟨i,hi,rfl⟩:=q2Y hx;simp only[u7,W7,q0U]at h;have:=a3O h.2 hi;simp only[a1n,q1A,q1K,n8 default hi]at this;exact this.1.2
def a0u(s:d6)(n:List UInt8):f5×Bool:=if 0<=a5U (fun x:d8=>x.Name==n) s.Rels then((s.Rels.getD (a5U (fun x:d8=>x.Name==n) s.Rels).toNat default).Rel,true)else(⟨0,[]⟩,false)
def b5M{s:d6}{n:List UInt8}{i:Nat}(hi:i<s.Rels.length)(ha:(s.Rels.take i).any (fun x=>x.Name==n)=false)(h:((s.Rels.getD i default).Name==n)=true):a0u s n=((s.Rels.getD i default).Rel,true):=by
 rw[a0u,a2w (p:=fun x:d8=>x.Name==n) default hi ha h,if_pos (by omega)];rfl
def b5L{s:d6}{n:List UInt8}(ha:s.Rels.any (fun x=>x.Name==n)=false):a0u s n=(⟨0,[]⟩,false):=by
 rw[a0u,a1O ha,if_neg (by decide)]
def b7n(s:d6)(n:List UInt8):spZ 162 [(true,[v9 s.Rels]),(false,[.s n])] [] (.tup [(true,[.i .i64 (((a0u s n).1).Arity),a1f (((a0u s n).1).Rows)]),(false,[.b ((a0u s n).2)])]):=by
 refine sx' false true none Tryz.func162 (q' 2 [aX 1 0,ax (w' 4 [.i .i64,.sl o8]),ab 5 false] (.seq (q' 7 [aG 0 2,aN,aK 0] (fO 0 11 [ar 10 9] 11 1 (q' 12 [am 10,aV 6] (q' 13 [aG 0 2,am 6,aI 3,aG 0 16,am 1,aD .eql 18 19] (ci 20 (q' 21 [aG 0 2,am 6,aI 3,aF 1,aE 2,aS 2 4 26,ab 5 true] .ret)))) (g' 27 [aA 10]))) (q' 28 [ao (.bld [.i .i64,.sl o8] []),aS 2 4 28,ab 5 false] .ret))) [.c 4 true 2,.t 5] [] ?_;intro hb hE;simp only[go_sem];repeat' first|apply cj'|intro hc|exact om'|fail
 refine lq' false [1,2,4,9] [4] [] (fun i:{i:Nat // i<=s.Rels.length/\(s.Rels.take i).any (fun x=>x.Name==n)=false}=>[(10,slV (.i .i64 i.1))]) (fun i=>[(8,[.c (.i .i64 0),.nl o8])]) nl' (fun i=>s.Rels.length-i.1) (⟨0,by simp⟩) ?_;intro S0 hS0 i;obtain⟨i,hi,ha⟩:=i;simp only[go_sem,hS0];repeat' first|apply cj'|intro hc|exact om'|fail
 ·rw[b5M (by omega) ha hc];exact⟨⟨rfl,rfl⟩,rfl⟩
 ·exact nx0 ⟨i+1,by omega,a1W (p:=fun x:d8=>x.Name==n) default (by omega) ha hc⟩
 ·rw[k6 (by omega)]at ha;rw[b5L ha];exact⟨⟨rfl,rfl⟩,rfl⟩
noncomputable def a4r:CT:=o9 (fun(x:d6×(List UInt8))=>b7n x.1 x.2)
@[go_sem] def c7f:=fun x0 n=>nm' (fQ' a4r rfl (⟨x0⟩,n))
def b9v(s:d6)(n:List UInt8):spZ 82 [(true,[v9 s.Rels]),(false,[.s n])] [] (.tup [(true,[.i .i64 (((a0u s n).1).Arity),a1f (((a0u s n).1).Rows)]),(false,[.b ((a0u s n).2)])]):=by
 refine sx' false true none Tryz.func82 (q' 2 [aX 1 0,ax (w' 4 [.i .i64,.sl o8]),ab 5 false] (.seq (q' 8 [aG 0 2,aN,aK 0] (fO 0 12 [ar 11 10] 12 1 (q' 13 [ai 3 9 11,aE 3,ax (w' 7 [.s,.i .i64,.sl o8]),aS 3 7 14] (q' 15 [aG 0 7,am 1,aD .eql 16 17] (ci 18 (q' 19 [af 1 7,aE 2,aS 2 4 20,ab 5 true] .ret)))) (g' 21 [aA 11]))) (q' 22 [ao (.bld [.i .i64,.sl o8] []),aS 2 4 22,ab 5 false] .ret))) [.c 4 true 2,.t 5] [] ?_;intro hb hE;simp only[go_sem];repeat' first|apply cj'|intro hc|exact om'|fail
 refine lq' false [1,4,9,10] [] [] (fun i:{i:Nat // i<=s.Rels.length/\(s.Rels.take i).any (fun x=>x.Name==n)=false}=>[(11,slV (.i .i64 i.1))]) (fun i=>[(8,[.c (.i .i64 0),.nl o8])]) nl' (fun i=>s.Rels.length-i.1) (⟨0,by simp⟩) ?_;intro S0 hS0 i;obtain⟨i,hi,ha⟩:=i;simp only[go_sem,hS0];repeat' first|apply cj'|intro hc|exact om'|fail
 ·rw[b5M (by omega) ha hc];exact⟨⟨rfl,rfl⟩,rfl⟩
 ·exact nx0 ⟨i+1,by omega,a1W (p:=fun x:d8=>x.Name==n) default (by omega) ha hc⟩
 ·rw[k6 (by omega)]at ha;rw[b5L ha];exact⟨⟨rfl,rfl⟩,rfl⟩
noncomputable def a5l:CT:=o9 (fun(x:d6×(List UInt8))=>b9v x.1 x.2)
@[go_sem] def c8q:=fun x0 n=>nm' (fQ' a5l rfl (⟨x0⟩,n))
def vNe(a b:List d5)(i:Nat):Bool:=!vEq (a.getD i default) (b.getD i default)
def a2j(a b:List d5):Bool:=decide (a.length=b.length)&&!a3n a.length (vNe a b)
def d0P{a b:d5}(h:vEq a b=true):a=b:=by
 obtain⟨n,s⟩:=a;obtain⟨m,r⟩:=b;simp only[vEq,W7,beq_iff_eq]at h;rw[h.1,h.2]
def vEq_rfl(a:d5):vEq a a=true:=by simp[vEq]
def b1y(a b:List d5):a2j a b=decide (a=b):=by
 rw[q3R,q0B];constructor
 ·intro h;simp only[a2j,W7,q0B,q0U]at h;refine q4U h.1 fun i h1 h2=>?_
  have:=a3O h.2 h1;simp only[vNe,q1K,n8 default h1,n8 default h2]at this;exact d0P this
 ·rintro rfl;rw[a2j,V0 rfl,q0N,q0U];cases h:a3n a.length (vNe a a)with
  | false=>rfl
  | true=>
    simp only[a3n,q0U]at h;rw[c8V.2 fun i _=>by simp[vNe,vEq_rfl]]at h;cases h
def a9w(a:d3)(b:d3):spZ 318 [(true,[t5 a.V]),(true,[t5 b.V])] [] (.one (false,[.b (decide (a.V=b.V))])):=by
 refine sy' Tryz.func318 (q' 2 [aX 1 0,aX 1 1,aU false] (.seq (q' 6 [aG 0 2,aN,aG 0 3,aN,aD .neq 8 11] (ci 12 (q' 4 [aU false] .ret))) (.seq (q' 13 [aG 0 2,aN,aK 0] (fO 0 17 [ar 16 15] 17 1 (q' 18 [am 16,aV 5] (.seq (G' 19 [aG 0 2,am 5,aI 2,aE 2,aG 0 3,am 5,aI 2,aE 2,ao (.eqs true [.i .i64,.s] (.t 23) (.t 28))]) (ci 29 (q' 4 [aU false] .ret)))) (g' 30 [aA 16]))) (q' 4 [aU true] .ret)))) [.t 4] [] ?_;intro hb hE;rw[<-b1y];simp only[go_sem];repeat' first|apply cj'|intro hc|exact om'|fail
 ·rw[a2j,V3 (fun h=>by simp[h]at hc)];rfl
 have hl:a.V.length=b.V.length:=by simpa[Int.ofNat_inj]using hc
 clear hc;refine lq' false [2,3,15] [4,6] [] (fun i:{i:Nat // i<=a.V.length/\a3n i (vNe a.V b.V)=false}=>[(16,slV (.i .i64 i.1))]) nl' nl' (fun i=>a.V.length-i.1) (⟨0,by simp[a2o]⟩) ?_;intro S0 hS0 i;obtain⟨i,hi,ha⟩:=i;simp only[go_sem,hS0];repeat' first|apply cj'|intro hc|exact om'|fail
 ·rw[a2j,a3k (i:=i) (by omega) (show vNe a.V b.V i=true by rw[vNe,vEq,hc];rfl)];simp
 ·exact nx0 ⟨i+1,by omega,a1L ha (show vNe a.V b.V i=false by rw[vNe,vEq,hc.1,hc.2];rfl)⟩
 ·obtain rfl:i=a.V.length:=by omega
  rw[a2j,ha,V0 hl];rfl
noncomputable def a3S:CT:=o9 (fun(x:d3×d3)=>a9w x.1 x.2)
@[go_sem] def c0H:=fun x0 x1=>nm' (fQ' a3S rfl (⟨x0⟩,⟨x1⟩))
def c9Z(a:List d5)(b:List d5):spZ 317 [(false,[t5 a]),(false,[t5 b])] [] (.one (false,[.b (decide (a=b))])):=by
 refine sy' Tryz.func317 (q' 4 [aU false] (.seq (q' 6 [am 0,aN,am 1,aN,aD .neq 7 9] (ci 10 (q' 4 [aU false] .ret))) (.seq (q' 11 [am 0,aN,aK 0] (fO 0 14 [ar 13 12] 14 1 (q' 15 [am 13,aV 5] (.seq (G' 16 [aM [0,5],aI 2,aE 2,aM [1,5],aI 2,aE 2,ao (.eqs true [.i .i64,.s] (.t 19) (.t 23))]) (ci 24 (q' 4 [aU false] .ret)))) (g' 25 [aA 13]))) (q' 4 [aU true] .ret)))) [.t 4] [] ?_;intro hb hE;rw[<-b1y];simp only[go_sem];repeat' first|apply cj'|intro hc|exact om'|fail
 ·rw[a2j,V3 (fun h=>by simp[h]at hc)];rfl
 have hl:a.length=b.length:=by simpa[Int.ofNat_inj]using hc
 clear hc;refine lq' false [0,1,12] [] [] (fun i:{i:Nat // i<=a.length/\a3n i (vNe a b)=false}=>[(13,slV (.i .i64 i.1))]) nl' nl' (fun i=>a.length-i.1) (⟨0,by simp[a2o]⟩) ?_;intro S0 hS0 i;obtain⟨i,hi,ha⟩:=i;simp only[go_sem,hS0];repeat' first|apply cj'|intro hc|exact om'|fail
 ·rw[a2j,a3k (i:=i) (by omega) (show vNe a b i=true by rw[vNe,vEq,hc];rfl)];simp
 ·exact nx0 ⟨i+1,by omega,a1L ha (show vNe a b i=false by rw[vNe,vEq,hc.1,hc.2];rfl)⟩
 ·obtain rfl:i=a.length:=by omega
  rw[a2j,ha,V0 hl];rfl
noncomputable def c0D:CT:=o9 (fun(x:(List d5)×(List d5))=>c9Z x.1 x.2)
@[go_sem] def c_eqVals_eq:=fun a b=>nm' (fQ' c0D rfl (a,b))
def a6Y(a:d3)(b:d3):spZ 267 [(true,[t5 a.V]),(true,[t5 b.V])] [] (.one (false,[.b (decide (a.V=b.V))])):=by
 refine sy' Tryz.func267 (q' 2 [aX 1 0,aX 1 1,aU false] (q' 5 [aG 0 2,aG 0 3,ac 317 [6,8],aV 4] .ret)) [.t 4] [(317,[],c0D)] ?_;intro hb hE;simp only[go_sem];repeat' first|apply cj'|intro hc|exact om'|fail
noncomputable def b4j:CT:=o9 (fun(x:d3×d3)=>a6Y x.1 x.2)
@[go_sem] def c4C:=fun x0 x1=>nm' (fQ' b4j rfl (⟨x0⟩,⟨x1⟩))
def a1x(l:List d3)(r:d3):Bool:=l.any fun x=>decide (x.V=r.V)
def b7j(l:List d3)(r:d3):spZ 268 [(false,[a1f l]),(true,[t5 r.V])] [] (.one (false,[.b (a1x l r)])):=by
 refine sy' Tryz.func268 (q' 3 [aX 1 1,aU false] (.seq (q' 6 [am 0,aN,aK 0] (fO 0 9 [ar 8 7] 9 1 (q' 10 [am 8,aV 5] (.seq (G' 11 [aM [0,5],aI 1,aE 1,ae 1 3,ac 318 [14,15]]) (ci 16 (q' 4 [aU true] .ret)))) (g' 17 [aA 8]))) (q' 4 [aU false] .ret))) [.t 4] [(318,[],a3S)] ?_;intro hb hE;simp only[go_sem];repeat' first|apply cj'|intro hc|exact om'|fail
 refine lq' false [0,3,7] [6] [] (fun i:{i:Nat // i<=l.length/\(l.take i).any (fun x=>decide (x.V=r.V))=false}=>[(8,slV (.i .i64 i.1))]) nl' nl' (fun i=>l.length-i.1) (⟨0,by simp⟩) ?_;intro S0 hS0 i;obtain⟨i,hi,ha⟩:=i;simp only[go_sem,hS0];repeat' first|apply cj'|intro hc|exact om'|fail
 ·rw[a1x,any_true (p:=fun x:d3=>decide (x.V=r.V)) (d:=default) (i:=i) (by omega) (V0 hc)]
 ·exact nx0 ⟨i+1,by omega,a1W (p:=fun x:d3=>decide (x.V=r.V)) default (by omega) ha (V3 hc)⟩
 ·rw[k6 (by omega)]at ha;rw[a1x,ha]
noncomputable def a2E:CT:=o9 (fun(x:(List d3)×d3)=>b7j x.1 x.2)
@[go_sem] def c7b:=fun l x0=>nm' (fQ' a2E rfl (l,⟨x0⟩))
def b9E(s:d6)(n:List UInt8)(r:d3):spZ 258 [(true,[v9 s.Rels]),(false,[.s n]),(true,[t5 r.V])] [] (.one (false,[.b (a1x (a0u s n).1.Rows r)])):=by
 refine sy' Tryz.func258 (q' 5 [ax (o' 3 (.box 1 (.t 0))),aX 1 2,aU false] (q' 10 [ae 1 3,am 1,ac 162 [10,11],aV 9,aZ 9 0,aZ 9 1,ax (w' 7 [.i .i64,.sl o8]),aS 2 7 13,aV 8] (q' 15 [aG 1 7,ae 1 5,ac 268 [16,17],aV 6] .ret))) [.t 6] [(162,[],a4r),(268,[],a2E)] ?_;intro hb hE;simp only[go_sem];repeat' first|apply cj'|intro hc|exact om'|fail
noncomputable def a9f:CT:=o9 (fun(x:d6×(List UInt8)×d3)=>b9E x.1 x.2.1 x.2.2)
@[go_sem] def c8A:=fun x0 n x1=>nm' (fQ' a9f rfl (⟨x0⟩,n,⟨x1⟩))
abbrev bsP(l:List d3)(t:d3)(k:Nat):Bool:=decide (0<=a1z (l.getD k default).V t.V)
abbrev bsN(l:List d3)(t:d3):Nat:=a0W l.length (bsP l t)
def mid_eq{i j:Nat}(h:i+j<=4000000):IntKind.i64.wrap ((IntKind.u64.wrap (IntKind.i64.wrap ((i:Int)+j))).fdiv (2^min 1 64))=(((i+j)/2:Nat):Int):=by
 have e1:IntKind.i64.wrap ((i:Int)+j)=(i:Int)+j:=IntWalk.i64_in _ (by omega);have e2:IntKind.u64.wrap ((i:Int)+j)=(i:Int)+j:=IntWalk.u64_in _ (by omega);have e3:(2:Int)^min 1 64=2:=by decide
 rw[e1,e2,e3,Int.fdiv_eq_ediv_of_nonneg _ (by decide)];have e4:IntKind.i64.wrap (((i:Int)+j)/2)=((i:Int)+j)/2:=IntWalk.i64_in _ (by omega);rw[e4];omega
def bs_end{l:List d3}{t:d3}{i:Nat}(hi:i<=l.length)(ha:∀k,k<i->bsP l t k=false)(hz:∀k,i<=k->k<l.length->bsP l t k=true):bsN l t=i:=by
 by_cases h:i<l.length
 ·exact a2M ha (hz i (q0A _) h) h
 ·have:i=l.length:=by omega
  subst this;exact a3W ha
def k_bsRow(l:List d3)(t:d3)(hpre:l.length<=1000000/\∀a b,a<=b->b<l.length->a1z (l.getD b default).V t.V<0->a1z (l.getD a default).V t.V<0):spZ 264 [(false,[a1f l]),(true,[t5 t.V]),(false,[.f 173 []])] [] (.tup [(false,[.i .i64 (((bsN l t:Nat),decide (bsN l t<l.length)&&a1z (l.getD (bsN l t) default).V t.V==0).1)]),(false,[.b (((bsN l t:Nat),decide (bsN l t<l.length)&&a1z (l.getD (bsN l t) default).V t.V==0).2)])]):=by
 refine sy' Tryz.func264 (q' 4 [aX 1 1,az 6 0,ab 7 false] (q' 12 [am 0,aN,aV 8] (q' 9 [aV 14,aK 0,am 14] (.seq (lO 0 (.seq (q' 15 [aM [9,10],ar 15 16] (cd 17 .skip (.exit 0))) (.block 1 (q' 18 [aM [9,10],aD .add 18 19,ao (.cv .u64 (.t 20)),ao (.bin .shr (.t 21) (.k (.v false [.c (.i .u64 1)]))),ao (.cv .i64 (.t 22)),aV 11] (.seq (G' 24 [aM [2,0,11],aI 1,aE 1,ae 1 4,ao (.callv (.t 24) [.t 28,.t 29]),aC .lss 30 0]) (cd 31 (g' 32 [am 11,aC .add 32 1,aV 9]) (g' 34 [am 11,aV 10]))))))) (.seq (G' 35 [aM [9,9,8],ar 36 37,am 38,aH 39 true [bm 2,bm 0,bm 9,bI 1,bE 1,be 1 4,bo (.callv (.t 40) [.t 44,.t 45]),bC .eql 46 0],aP 39 47,av 6 35,aV 7]) .ret))))) [.t 6,.t 7] [(173,[],a5k)] ?_;intro hb hE;obtain⟨hlen,hmo⟩:=hpre;simp only[go_sem];repeat' first|apply cj'|intro hc|exact om'|fail
 refine lq' false [0,2,4,8] [8] [] (fun i:{p:Nat×Nat // p.1<=p.2/\p.2<=l.length/\(∀k,k<p.1->bsP l t k=false)/\(∀k,p.2<=k->k<l.length->bsP l t k=true)}=>[(9,slV (.i .i64 i.1.1)),(10,slV (.i .i64 i.1.2))]) nl' nl' (fun i=>i.1.2-i.1.1) (⟨(0,l.length),by simp,by simp,by intro k h;simp at h,by intro k h1 h2;simp at h1;omega⟩) ?_;intro S0 hS0 i;obtain⟨⟨i,j⟩,hij,hj,ha,hz⟩:=i;simp only at hij hj ha hz;have hm:=mid_eq (i:=i) (j:=j) (by omega);simp only[go_sem,hS0,hm];repeat' first|apply cj'|intro hc|exact om'|fail
 ·have h1:∀k,k<(i+j)/2+1->bsP l t k=false:=by
   intro k hk;have:=hmo k ((i+j)/2) (by omega) (by omega) hc;exact V3 (by omega)
  (refine lpK_n2 (⟨((i+j)/2+1,j),by simp only;omega,hj,h1,hz⟩) _ rfl ?_;simp only[go_sem,hS0,hm]<;>repeat' first|apply V1|exact on'|fail)
 ·have h1:∀k,(i+j)/2<=k->k<l.length->bsP l t k=true:=by
   intro k hk hl;refine V0 ?_;have:¬a1z (l.getD k default).V t.V<0:=fun h=>hc (hmo _ k hk hl h)
   omega
  (refine lpK_n2 (⟨(i,(i+j)/2),by simp only;omega,by simp only;omega,ha,h1⟩) _ rfl ?_;simp only[go_sem,hS0,hm]<;>repeat' first|apply V1|exact on'|fail)
 ·have hz':∀k,i<=k->k<l.length->bsP l t k=true:=fun k h1 h2=>hz k (by omega) h2
  rw[bs_end (by omega) ha hz'];refine⟨rfl, ?_⟩
  congr 1
  exact decide_eq_decide.2 (by omega)
noncomputable def c4o:CT:=p6 (fun(x:(List d3)×d3) h=>k_bsRow x.1 x.2 h)
@[go_sem] def c_bsRow_eq:=fun l x0=>nm' (fP' c4o rfl (l,⟨x0⟩))
def c1w(r:f5)(t:d3)(hpre:r.Rows.length<=1000000/\∀a b,a<=b->b<r.Rows.length->a1z (r.Rows.getD b default).V t.V<0->a1z (r.Rows.getD a default).V t.V<0):spZ 176 [(true,[.i .i64 r.Arity,a1f r.Rows]),(true,[t5 t.V])] [] (.tup [(false,[.i .i64 (((bsN r.Rows t:Nat),decide (bsN r.Rows t<r.Rows.length)&&a1z (r.Rows.getD (bsN r.Rows t) default).V t.V==0).1)]),(false,[.b (((bsN r.Rows t:Nat),decide (bsN r.Rows t<r.Rows.length)&&a1z (r.Rows.getD (bsN r.Rows t) default).V t.V==0).2)])]):=by
 refine sy' Tryz.func176 (q' 2 [aX 2 0,aX 1 1,aK 0,aU false] (q' 6 [aG 1 2,ae 1 3,ao (.call 264 [.t 7,.t 8,.k (.v false [.c (.f 173 [])])]),aZ 9 0,aZ 9 1,av 4 10,aV 5] .ret)) [.t 4,.t 5] [(264,[],c4o)] ?_;intro hb hE;obtain⟨hlen,hmo⟩:=hpre;simp only[go_sem];repeat' first|apply cj'|intro hc|exact om'|fail
 all_goals exact⟨hlen,hmo⟩
noncomputable def b1m:CT:=p6 (fun(x:f5×d3) h=>c1w x.1 x.2 h)
@[go_sem] def c9v:=fun x0 x1 x2=>nm' (fP' b1m rfl (⟨x0,x1⟩,⟨x2⟩))
def c0z{x y:List UInt8}(h:Op.bytesLess x y=true):(y==[])=false:=by
 cases y with
 | nil=>cases x<;>simp[Op.bytesLess]at h
 | cons a y=>rfl
def d0Q{a b c:d5}(h1:w8 a b=true)(h2:w8 b c=true):w8 a c=true:=by
 unfold w8 at*;cases ha:(a.S==[])<;>cases hb:(b.S==[])<;>cases hc:(c.S==[])<;>simp only[ha,hb,hc,q1L,q2T,Bool.false_and,q1H,W4,W6,q0B]at h1 h2 ⊢;all_goals first
  | (rw[c0z h1]at hb;exact absurd hb (by decide))
  | (rw[c0z h2]at hc;exact absurd hc (by decide))
  | omega
  | exact a5a _ _ _ h1 h2
  | (rw[beq_iff_eq]at ha;rw[ha];cases hcs:c.S with
      | nil=>rw[hcs]at hc;cases hc
      | cons x y=>rfl)
def c4f{a b:d5}(ha:k9 a=true)(hb:k9 b=true)(h1:w8 a b=false)(h2:w8 b a=false):a=b:=by
 have:=b1f ha hb;rw[h1,h2,q3E]at this;exact d0P (by simpa using this)
abbrev okL(a:List d5):Prop:=∀x∈a,k9 x=true
def okL.tl{x:d5}{a:List d5}(h:okL (x::a)):okL a:=fun y hy=>h y (by simp[hy])
def b9L:∀{a b c:List d5},okL a->okL b->okL c->a1a a b=-1->a1a b c=-1->a1a a c=-1
 | [],[],_,_,_,_,h,_=>by simp[a1a]at h
 | [],y::b,[],_,_,_,_,h=>by simp[a1a]at h
 | [],y::b,z::c,_,_,_,_,_=>rfl
 | x::a,[],_,_,_,_,h,_=>by simp[a1a]at h
 | x::a,y::b,[],_,_,_,_,h=>by simp[a1a]at h
 | x::a,y::b,z::c,ha,hb,hc,h1,h2=>by
   have hx:=ha x (by simp);have hy:=hb y (by simp);have hz:=hc z (by simp);rw[a1a]at h1 h2 ⊢;cases e1:w8 x y with
   | true=>
     cases e2:w8 y z with
     | true=>rw[d0Q e1 e2];rfl
     | false=>
       rw[e2,W6]at h2;cases e3:w8 z y with
       | true=>rw[e3,W4]at h2;omega
       | false=>rw[<-c4f hy hz e2 e3,e1];rfl
   | false=>
     rw[e1,W6]at h1;cases e3:w8 y x with
     | true=>rw[e3,W4]at h1;omega
     | false=>
       rw[e3,W6]at h1;have:=c4f hx hy e1 e3;subst this;cases e2:w8 x z with
       | true=>rfl
       | false=>
         rw[e2,W6]at h2;cases e4:w8 z x with
         | true=>rw[e4,W4]at h2;omega
         | false=>
           rw[e4,W6]at h2;exact b9L ha.tl hb.tl hc.tl h1 h2
def b8h:∀{a b:List d5},okL a->okL b->(a1a a b=0↔a=b)
 | [],[],_,_=>by simp[a1a]
 | [],y::b,_,_=>by simp[a1a]
 | x::a,[],_,_=>by simp[a1a]
 | x::a,y::b,ha,hb=>by
   have ih:=b8h ha.tl hb.tl;rw[a1a];cases e1:w8 x y with
   | true=>
     simp only[W4,V2];refine⟨fun h=>by omega,fun h=>?_⟩;have h3:=b1f (ha x (by simp)) (hb y (by simp));rw[<-h.1]at e1 h3;rw[e1]at h3;simp at h3
   | false=>
     cases e2:w8 y x with
     | true=>
       simp only[W4,W6,V2];refine⟨fun h=>by omega,fun h=>?_⟩;rw[h.1]at e1 e2;rw[e1]at e2;cases e2
     | false=>
       have:=c4f (ha x (by simp)) (hb y (by simp)) e1 e2;subst this;simpa using ih
def c4c{r:f5}(h:a0v r=true):∀{b a:Nat},a<b->b<r.Rows.length->a1a (r.Rows.getD a default).V (r.Rows.getD b default).V=-1:=by
 have hN:∀i,i<r.Rows.length->a0I r i=false:=by
  intro i hi;simp only[a0v,W7,q0U]at h;exact a3O h.2 hi
 have hO:∀i,i<r.Rows.length->okL (r.Rows.getD i default).V:=fun i hi=>y9 (a2y (hN i hi))
 intro b
 induction b with
 | zero=>intro a h;omega
 | succ b ih=>
   intro a hab hb;have hs:a1a (r.Rows.getD b default).V (r.Rows.getD (b+1) default).V=-1:=by
    have:=hN (b+1) hb;simp only[a0I,q1A,Nat.zero_lt_succ,decide_true,q0N,q1K,beq_iff_eq,q5C]at this;exact this.2
   rcases q2U.1 hab with h1|rfl
   ·exact b9L (hO a (by omega)) (hO b (by omega)) (hO _ hb) (ih h1 (by omega)) hs
   ·exact hs
def a3g{r:f5}(h:a0v r=true){i:Nat}(hi:i<r.Rows.length):okL (r.Rows.getD i default).V:=by
 simp only[a0v,W7,q0U]at h;exact y9 (a2y (a3O h.2 hi))
def a8R{a b:List d5}(ha:okL a)(hb:okL b):a1z a b<0↔a1a a b=-1:=by
 have h:=a9K ha hb;unfold sgn at h;omega
def b8R{a b:List d5}(ha:okL a)(hb:okL b):a1z a b=0↔a=b:=by
 have h:=a9K ha hb;rw[<-b8h ha hb];unfold sgn at h;omega
def d0z{r:f5}(h:a0v r=true){t:d3}(ht:a0M t=true):∀a b,a<=b->b<r.Rows.length->a1z (r.Rows.getD b default).V t.V<0->a1z (r.Rows.getD a default).V t.V<0:=by
 intro a b hab hb hl;rcases Nat.lt_or_eq_of_le hab with h1|rfl
 ·rw[a8R (a3g h hb) (y9 ht)]at hl;rw[a8R (a3g h (by omega)) (y9 ht)];exact b9L (a3g h (by omega)) (a3g h hb) (y9 ht) (c4c h h1 hb) hl
 ·exact hl
def rel_has{r:f5}(h:a0v r=true){t:d3}(ht:a0M t=true):(decide (bsN r.Rows t<r.Rows.length)&&a1z (r.Rows.getD (bsN r.Rows t) default).V t.V==0)=a1x r.Rows t:=by
 rw[q3R];constructor
 ·intro hh;simp only[W7,q0B,beq_iff_eq]at hh;exact any_true (p:=fun x:d3=>decide (x.V=t.V)) (d:=default) hh.1 (V0 ((b8R (a3g h hh.1) (y9 ht)).1 hh.2))
 ·intro hh;rw[a1x,q3T]at hh;obtain⟨x,hx,he⟩:=hh;obtain⟨k,hk,rfl⟩:=q2Y hx;rw[q0B]at he;have hg:=n8 (l:=r.Rows) default hk;have e:bsN r.Rows t=k:=by
   refine a2M (fun j hj=>?_) ?_ hk
   ·refine V3 ?_;have:=(a8R (a3g h (show j<r.Rows.length by omega)) (y9 ht)).2 (by
     have:=c4c h hj hk;rw[hg,he]at this;exact this)
    omega
   ·refine V0 ?_;rw[hg,(b8R (by rw[<-hg];exact a3g h hk) (y9 ht)).2 he];omega
  rw[e,V0 hk,hg,(b8R (by rw[<-hg];exact a3g h hk) (y9 ht)).2 he];rfl
def c3X(r:f5)(t:d3)(hpre:a0v r=true/\a0M t=true):spZ 86 [(true,[.i .i64 r.Arity,a1f r.Rows]),(true,[t5 t.V])] [] (.one (false,[.b (a1x r.Rows t)])):=by
 refine sy' Tryz.func86 (q' 2 [aX 2 0,aX 1 1,aU false] (q' 8 [ae 2 2,ae 1 3,ac 176 [8,9],aV 7,aZ 7 0,aZ 7 1,av 5 11,aV 6] (q' 13 [am 6,aV 4] .ret))) [.t 4] [(176,[],b1m)] ?_;intro hb hE;obtain⟨hR,hT⟩:=hpre;simp only[go_sem];repeat' first|apply cj'|intro hc|exact om'|fail
 ·exact⟨by have:=b1a hR;omega,d0z hR hT⟩
 ·exact rel_has hR hT
noncomputable def a8r:CT:=p6 (fun(x:f5×d3) h=>c3X x.1 x.2 h)
@[go_sem] def d1c:=fun x0 x1 x2=>nm' (fP' a8r rfl (⟨x0,x1⟩,⟨x2⟩))
def bodyN(r:c6):List (List UInt8):=((a1D r).drop 1).map f7.Name
def d0e(p:d9)(a:List UInt8)(r:c6):Bool:=(r.Kind==1&&b9F p r.Head.Name==3)&&r.Head.Name==a
def a3b(p:d9)(a:List UInt8):List (List UInt8):=(p.Rules.filter (d0e p a)).flatMap bodyN
inductive Rch(p:d9)(a:List UInt8):List UInt8->Prop
 | one {b:List UInt8}:b∈a3b p a->Rch p a b
 | step {b c:List UInt8}:Rch p a b->c∈a3b p b->Rch p a c
def b7D(p:d9):List (List UInt8):=p.Rules.flatMap bodyN
def b5D{p:d9}{a b:List UInt8}(h:b∈a3b p a):b∈b7D p:=by
 obtain⟨r,hr,hb⟩:=q2I.1 h;exact q2I.2 ⟨r,(q1M.1 hr).1,hb⟩
def Rch.all{p:d9}{a b:List UInt8}(h:Rch p a b):b∈b7D p:=by
 cases h with
 | one h=>exact b5D h
 | step _ h=>exact b5D h
def Rch.mem{p:d9}{a:List UInt8}{l:List (List UInt8)}(h1:∀x∈a3b p a,x∈l)(h2:∀x∈l,∀y∈a3b p x,y∈l){b:List UInt8}(h:Rch p a b):b∈l:=by
 induction h with
 | one h=>exact h1 _ h
 | step _ h ih=>exact h2 _ ih _ h
open Classical in
noncomputable def reachS(p:d9)(a:List UInt8):List (List UInt8):=(t8 sLt [] (b7D p)).filter fun v=>decide (Rch p a v)
noncomputable def leans(p:d9)(a b:List UInt8):Bool:=(c3G p).1==0&&(reachS p a).contains b
def a4C(o l:List (List UInt8)):List (List UInt8):=l.foldl (fun o y=>if y∈o then o else o++[y]) o
def b3V:∀(l o:List (List UInt8)),∃s,a4C o l=o++s/\(∀x∈s,x∈l)
 | [],o=>⟨[],by simp[a4C],by simp⟩
 | y::l,o=>by
   by_cases h:y∈o
   ·obtain⟨s,e,hs⟩:=b3V l o;exact⟨s,by rw[<-e];simp[a4C,h],fun x hx=>q2N _ (hs x hx)⟩
   ·obtain⟨s,e,hs⟩:=b3V l (o++[y]);refine⟨y::s, ?_, ?_⟩
    ·have:a4C o (y::l)=a4C (o++[y]) l:=by simp[a4C,h]
     rw[this,e];simp
    ·intro x hx;rcases q0C.1 hx with rfl|hx
     ·simp
     ·exact q2N _ (hs x hx)
def a4D{l o:List (List UInt8)}{x:List UInt8}:x∈a4C o l↔x∈o\/x∈l:=by
 induction l generalizing o with
 | nil=>simp[a4C]
 | cons y l ih=>
   have e:a4C o (y::l)=a4C (if y∈o then o else o++[y]) l:=rfl;rw[e,ih];by_cases h:y∈o
   ·simp only[h,if_true,q0C];constructor
    ·rintro(h1|h1);exact .inl h1;exact .inr (.inr h1)
    ·rintro(h1|rfl|h1);exact .inl h1;exact .inl h;exact .inr h1
   ·rw[if_neg h,W9,q0D,q0C,or_assoc]
def a8o:∀{l o:List (List UInt8)},o.Nodup->(a4C o l).Nodup
 | [],o,h=>h
 | y::l,o,h=>by
   have e:a4C o (y::l)=a4C (if y∈o then o else o++[y]) l:=rfl;rw[e];by_cases hy:y∈o
   ·rw[if_pos hy];exact a8o h
   ·rw[if_neg hy];refine a8o (q0F.2 ⟨h,by simp, ?_⟩);intro a ha b hb;rw[q0D]at hb;rintro rfl;exact hy (hb▸ha)
def univ(p:d9):Nat:=(b7D p).length
structure FInv(p:d9)(v:List UInt8)(k:Nat)(o n:List (List UInt8)):Prop where
 nd:o.Nodup
 un:∀x∈o,x∈b7D p
 ok:∀x∈o,Rch p v x
 nx:∀x∈n,x=v\/x∈o
 cl:∀x,x=v\/x∈o->x∈n\/∀y∈a3b p x,y∈o
 ms:n=[]\/k+2*(univ p-o.length)+n.length<=2*univ p+1
def a7p{α:Type}[DecidableEq α]:∀{l m:List α},l.Nodup->(∀x∈l,x∈m)->l.length<=m.length
 | [],_,_,_=>q2G _
 | x::l,m,h,hm=>by
   rw[q1B]at h;have h1:=a7p (l:=l) (m:=m.erase x) h.2 fun y hy=>(List.mem_erase_of_ne (fun e=>h.1 (by rw[<-e];exact hy))).2 (hm y (by simp[hy]))
   have h2:=List.length_erase_of_mem (hm x (by simp));have h3:0<m.length:=List.length_pos_of_mem (hm x (by simp));simp only[V5];omega
def FInv.start(p:d9)(v:List UInt8):FInv p v 0 [] [v]:=
 ⟨q0V,by simp,by simp,by simp,fun x hx=>.inl (by simpa using hx),.inr (by simp)⟩
def FInv.step{p:d9}{v:List UInt8}{k:Nat}{o r:List (List UInt8)}{x:List UInt8}(h:FInv p v k o (x::r)):FInv p v (k+1) (a4C o (a3b p x)) (r++(a4C o (a3b p x)).drop o.length):=by
 obtain⟨s,e,hs⟩:=b3V (a3b p x) o;have hd:(a4C o (a3b p x)).drop o.length=s:=by rw[e];simp
 have hx:x=v\/Rch p v x:=(h.nx x (by simp)).imp id (h.ok x);have hR:∀y∈a3b p x,Rch p v y:=fun y hy=>by
  rcases hx with rfl|hx
  ·exact .one hy
  ·exact .step hx hy
 have hun:∀y∈a4C o (a3b p x),y∈b7D p:=fun y hy=>(a4D.1 hy).elim (h.un y) b5D
 have hnd:=a8o (l:=a3b p x) h.nd;refine⟨hnd,hun,fun y hy=>(a4D.1 hy).elim (h.ok y) (hR y), ?_, ?_, ?_⟩
 ·intro y hy;rw[hd]at hy;rcases W9.1 hy with hy|hy
  ·exact(h.nx y (by simp[hy])).imp id fun hy=>a4D.2 (.inl hy)
  ·exact .inr (a4D.2 (.inr (hs y hy)))
 ·intro y hy;rw[hd];have old:y=v\/y∈o->y∈r++s\/∀z∈a3b p y,z∈a4C o (a3b p x):=by
   intro hy;rcases h.cl y hy with h1|h1
   ·rcases q0C.1 h1 with rfl|h1
    ·exact .inr fun z hz=>a4D.2 (.inr hz)
    ·exact .inl (W9.2 (.inl h1))
   ·exact .inr fun z hz=>a4D.2 (.inl (h1 z hz))
  rcases hy with hy|hy
  ·exact old (.inl hy)
  ·rw[e]at hy;rcases W9.1 hy with hy|hy
   ·exact old (.inr hy)
   ·exact .inl (W9.2 (.inr hy))
 ·right;have h1:=a7p hnd hun;have h2:(a4C o (a3b p x)).length=o.length+s.length:=by rw[e,W5]
  have h3:=h.ms.resolve_left (by simp);rw[hd];simp only[V5,W5,univ]at h1 h3 ⊢;omega
def nextF(p:d9)(a:List UInt8)(n:Nat):List (List UInt8):=((p.Rules.take n).filter (d0e p a)).flatMap bodyN
@[go_sem] def nextF_zero(p:d9)(a:List UInt8):nextF p a 0=[]:=rfl
@[go_sem] def putsN_nil(l:List (List UInt8)):t8 sLt l []=l:=rfl
@[go_sem] def addL_nil(o:List (List UInt8)):a4C o []=o:=rfl
@[go_sem] def d0X(l o:List (List UInt8)):l++List.drop o.length o=l:=by simp
def vwN(p:d9):List (List UInt8):=(p.Decls.filter fun d=>d.Kind==3).map i3.Name
def vwS(p:d9):List (List UInt8):=t8 sLt [] (vwN p)
abbrev Lev:=List UInt8->Int
def upd(g:Lev)(v:List UInt8)(n:Int):Lev:=fun x=>if x=v then n else g x
def negL(l:d7):Int:=if l.Kind=2 then 1 else 0
def litFx(p:d9)(g:Lev)(h:List UInt8)(l:d7):Prop:=l.Kind≠3->l.Atom.Name∈vwS p->g l.Atom.Name+negL l<=g h
def ruleFx(p:d9)(g:Lev)(r:c6):Prop:=r.Head.Name∈vwS p->∀l∈r.Body,litFx p g r.Head.Name l
def Fx(p:d9)(g:Lev):Prop:=∀r∈p.Rules,ruleFx p g r
structure Low(p:d9)(g:Lev):Prop where
 ge:∀v,0<=g v
 mn:∀F,Fx p F->(∀v,0<=F v)->∀v∈vwS p,g v<=F v
structure Least(p:d9)(g:Lev):Prop where
 fx:Fx p g
 low:Low p g
 le:∀v∈vwS p,g v<=(vwS p).length
def Low.zero(p:d9):Low p fun _=>0:=⟨fun _=>Int.le_refl _,fun F _ h v _=>h v⟩
def Low.up{p:d9}{g:Lev}(h:Low p g){r:c6}(hr:r∈p.Rules)(hh:r.Head.Name∈vwS p){l:d7}(hl:l∈r.Body)(hk:l.Kind≠3)(hb:l.Atom.Name∈vwS p):Low p (upd g r.Head.Name (g l.Atom.Name+negL l)):=by
 have hn:0<=negL l:=by unfold negL;split<;>omega
 refine⟨fun v=>?_,fun F hF hF0 v hv=>?_⟩
 ·unfold upd;split
  ·have:=h.ge l.Atom.Name;omega
  ·exact h.ge v
 ·unfold upd;split
  ·rename_i e;subst e;have h1:=hF r hr hh l hl hk hb;have h2:=h.mn F hF hF0 _ hb;omega
  ·exact h.mn F hF hF0 v hv
end Go.Aw
namespace Go.Aw
set_option maxHeartbeats 4000000
open Go.Proofs Go.Shelf Go.RowKit Go.Sort
attribute [local irreducible] aft blk lpK retK AW A0p
set_option linter.all false
set_option maxRecDepth 100000
end Go.Aw
namespace Go.Aw
set_option maxHeartbeats 4000000
open Go.Proofs
attribute [local irreducible] aft blk lpK retK AW A0p
set_option linter.all false
set_option maxRecDepth 100000
def a1C(n:List UInt8)(v:d8)(q:List d8×Bool)(x:d8):List d8×Bool:=((bif !q.2&&!sLt x.Name n then q.1++[v]else q.1)++(bif x.Name==n then[]else[x]),q.2||!sLt x.Name n)
def a8a(n:List UInt8)(v:d8)(l:List d8):List d8×Bool:=l.foldl (a1C n v) ([],false)
def a2X(l:List d8)(n:List UInt8)(v:d8):List d8:=bif (a8a n v l).2 then(a8a n v l).1 else(a8a n v l).1++[v]
def a5q(n:List UInt8)(v:d8){l:List d8}{i:Nat}(h:i<l.length):a8a n v (l.take (i+1))=a1C n v (a8a n v (l.take i)) (l.getD i default):=by
 rw[l6 default h,a8a,q3P];rfl
def c5t(n:List UInt8)(v:d8):∀(A q:List d8),(∀x∈A,sLt x.Name n=true)->A.foldl (a1C n v) (q,false)=(q++A,false)
 | [],q,_=>by simp
 | x::A,q,h=>by
   have hx:=h x (by simp);have hne:(x.Name==n)=false:=beq_eq_false_iff_ne.2 (a0e.ne hx);rw[q2S,a1C,hx,hne];have:=c5t n v A (q++[x]) fun y hy=>h y (by simp[hy])
   simpa using this
def b0z(n:List UInt8)(v:d8):∀(B q:List d8),B.foldl (a1C n v) (q,true)=(q++B.filter fun x=>!(x.Name==n),true)
 | [],q=>by simp
 | x::B,q=>by
   rw[q2S,a1C];cases h:(x.Name==n)with
   | true=>
     have:=b0z n v B q;simpa[h]using this
   | false=>
     have:=b0z n v B (q++[x]);simpa[h]using this
def d0N{α:Type}{q:α->Bool}:∀{l:List α} {x:α},x∈l.takeWhile q->q x=true
 | [],x,h=>by simp at h
 | a::l,x,h=>by
   rw[q2C]at h;split at h
   ·rename_i ha;rcases q0C.1 h with rfl|h
    ·exact ha
    ·exact d0N h
   ·simp at h
def c5L(l:List d8)(n:List UInt8)(v:d8):a2X l n v=l.takeWhile (fun x=>sLt x.Name n)++v::(l.dropWhile fun x=>sLt x.Name n).filter fun x=>!(x.Name==n):=by
 have e:a8a n v l=(l.dropWhile fun x=>sLt x.Name n).foldl (a1C n v) (l.takeWhile (fun x=>sLt x.Name n),false):=by
  have h0:=c5t n v (l.takeWhile fun x=>sLt x.Name n) [] fun x hx=>d0N (q:=fun x:d8=>sLt x.Name n) hx
  rw[q1T]at h0;rw[<-h0,<-q3P,q1V];rfl
 rw[a2X,e];cases hB:l.dropWhile fun x=>sLt x.Name n with
 | nil=>simp
 | cons b B=>
   have hb:=a3B hB;rw[q2S,a1C,hb];simp only[q3B,q1L,W4,q5P];rw[b0z];cases hn:(b.Name==n)with
   | true=>simp[hn]
   | false=>simp[hn]
def d0l{l:List d8}{n:List UInt8}{v x:d8}(h:x∈a2X l n v):x=v\/x∈l:=by
 rw[c5L]at h;rcases W9.1 h with h|h
 ·exact .inr (List.takeWhile_sublist _ |>.mem h)
 ·rcases q0C.1 h with h|h
  ·exact .inl h
  ·exact .inr (List.dropWhile_sublist _ |>.mem (q1M.1 h).1)
set_option maxHeartbeats 40000000
attribute [local irreducible] RM
def d0d(n x:List UInt8):(Op.bytesLess n x||n==x)=!sLt x n:=by
 cases h1:Op.bytesLess n x with
 | true=>
   cases h2:sLt x n with
   | true=>have h3:=a5a _ _ _ h1 h2;rw[a1o]at h3;cases h3
   | false=>rfl
 | false=>
   cases h2:sLt x n with
   | true=>
     have:(n==x)=false:=beq_eq_false_iff_ne.2 fun e=>by subst e;have h3:sLt n n=false:=a1o n;rw[h3]at h2;cases h2
     rw[this];rfl
   | false=>rw[a5b _ _ h1 h2];simp
def b8p{n:List UInt8}{v x:d8}{q1:List d8}{q2:Bool}(h:q2=false/\(Op.bytesLess n x.Name=true\/(n==x.Name)=true)):a1C n v (q1,q2) x=(q1++[v]++(bif x.Name==n then[]else[x]),true):=by
 have h2:(!sLt x.Name n)=true:=by rw[<-d0d,q2B];exact h.2
 rw[a1C,h.1,h2];rfl
def c2a{n:List UInt8}{v x:d8}{q1:List d8}{q2:Bool}(h:(!q2&&(Op.bytesLess n x.Name||n==x.Name))=false):a1C n v (q1,q2) x=(q1++(bif x.Name==n then[]else[x]),q2):=by
 rw[d0d]at h;rw[a1C,h,W6];cases q2 with
 | true=>rfl
 | false=>
   have h2:(!sLt x.Name n)=false:=by simpa using h
   rw[h2];rfl
def b7R(n:List UInt8)(v:d8):∀(l q:List d8) (b:Bool),(l.foldl (a1C n v) (q,b)).1.length<=q.length+2*l.length
 | [],q,b=>by simp
 | x::l,q,b=>by
   rw[q2S];have h:=b7R n v l (a1C n v (q,b) x).1 (a1C n v (q,b) x).2;have h2:(a1C n v (q,b) x).1.length<=q.length+2:=by
    simp only[a1C];cases !b&&!sLt x.Name n<;>cases x.Name==n<;>simp<;>omega
   have e:((a1C n v (q,b) x).1,(a1C n v (q,b) x).2)=a1C n v (q,b) x:=rfl;rw[e]at h;simp only[V5];omega
end Go.Aw
namespace Go.Aw
open Go.Proofs Go.Lib
set_option linter.all false
set_option maxRecDepth 100000
set_option maxHeartbeats 4000000
abbrev a9S:Value:=.agg #[.string ⟨#[]⟩,.int .i64 0,.string ⟨#[]⟩]
def c1m(w:World)(a:Option Addr)(n c:Nat)(ax:Addr)(cx:Nat)(v':Value)(w':World)(hr:(Builtin.append_ #[59,59] 59 #[.slice a n c,.slice (some ax) 1 cx]).run Tryz.prog w=.ok v' w'):
  Calls Tryz.prog 303 #[.slice a n c,.int .i64 n,.slice (some ax) 1 cx] w fun x w''=>x=.returned v'/\w''=w':=by
 have hz1:¬(((1:Nat):Int)=0):=by omega
 have u0:=run_underlying Tryz.underlying59
 go_enter Tryz.func303,Tryz.ntmps303
 go_wp2_with (at_builtin;refine b4H _ rfl _ _ 59 59 rfl _ _ rfl rfl hr ?_)
 all_goals(try go_ret)
 all_goals(first|exact⟨rfl,rfl⟩)
def a9p:(Tryz.prog.info? 111).map (fun i=>(i.zero,i.size,i.bytes))=some (some a9S,3,40):=by kernel_rfl
def b6L(b o n c i vb vo vc:Nat)(cs vs:List Value)(w:World)(hi:i<n)(hroom:n+1<=c)(hcm:c<=maxLen)(hvb:vb≠b)(hcl:cs.length=n*3)(hvl:vs.length=3)(hcs:CellsAt w b o cs)(hvs:CellsAt w vb vo vs)(hob:OwnBlk w b (o+c*3))(hov:OwnBlk w vb (vo+3))(h1c:∀v∈cs,v.oneCell'=true)(h1v:∀v∈vs,v.oneCell'=true):
  Calls Tryz.prog 303 #[.slice (some ⟨b,o,none⟩) n c,.int .i64 i,.slice (some ⟨vb,vo,none⟩) 1 vc] w fun x w'=>x=.returned (.slice (some ⟨b,o,none⟩) (n+1) c)/\∃u,Drew w u/\w'=(u.setCells b (o+(i+1)*3) (cs.drop (i*3))).setCells b (o+i*3) vs:=by
 have u0:=run_underlying Tryz.underlying59;have hz1:¬(((1:Nat):Int)=0):=by omega
 have hz2:¬((i:Int)=(n:Int)):=by omega
 have mixed:Tryz.prog.follows Departure.mixedOrders=true:=by kernel_rfl
 simp only[maxLen]at hcm;have hsz:(Tryz.prog.info? 111).map (·.size)=some 3:=by kernel_rfl
 obtain⟨cb,eb,hb,hbs⟩:=hob;obtain⟨cv,ev,hv,hvs2⟩:=hov;have hcell:∀(W:World) (cc:Array Value),W.heap[b]? = some (.cells cc eb (0,0))->o+c*3<=cc.size->∀j,j<c*3->(W.cell? ⟨b,o+j,none⟩).isSome=true:=fun W cc h h2 j hj=>by
  simp only[World.cell?,h];rw[q1D (by omega)];rfl
 have hfz:∀(W:World) (cc:Array Value),W.heap[b]? = some (.cells cc eb (0,0))->∀x,W.frozen? ⟨b,x,none⟩=false:=fun W cc h x=>by simp[World.frozen?,h]
 have hov:∀lb cb',(callFunc 339 #[.slice (some ⟨vb,vo,none⟩) 1 vc,.slice (some ⟨b,o+(i+1)*3,none⟩) lb cb']).run Tryz.prog w=.ok (.value (.bool false)) w:=fun lb cb'=>by
  rw[run_callFunc_extern Tryz.func339 (by kernel_rfl) (by kernel_rfl) (by kernel_rfl) (e:=Extern.SlicesOverlaps.overlaps #[59,59] #[4]) (by kernel_rfl),
   Lib.run_overlaps_apart w 59 4 111 Tryz.underlying59 3 (fun w=>rfl) ⟨vb,vo,none⟩ ⟨b,o+(i+1)*3,none⟩ 1 vc lb cb' hvb ev eb cv.size cb.size (by simp[World.shape?,hv]) (by simp[World.shape?,hb]) (by omega) (by simp[World.frozen?,hv]) (by simp[World.frozen?,hv])]
  rfl
 have hdl:(cs.drop (i*3)).length=(n-i)*3:=by rw[q1O,hcl,Nat.sub_mul]
 have hw1:IntKind.i64.wrap ((i:Int)+1)=(i:Int)+1:=by rw[IntKind.wrap_i64];omega
 have hb1:(0:Int)<=(i:Int)+1:=by omega
 have hin:i<=n:=by omega
 have htn:((i:Int)+1).toNat=i+1:=by omega
 have hb2:¬(c=i+1):=by omega
 have hb3:(i:Int)<=(n:Int)+1:=by omega
 have hb4:¬(c=i):=by omega
 have hcp1:∀ty dc sc,(Builtin.copy_ #[59,59] ty #[.slice (some ⟨b,o+(i+1)*3,none⟩) (n-i) dc,.slice (some ⟨b,o+i*3,none⟩) (n+1-i) sc]).run Tryz.prog w.drew=.ok (goInt (Nat.min (n+1-i) (n-i))) (w.drew.setCells b (o+(i+1)*3) (cs.drop (i*3))):=fun ty dc sc=>
  a5t w.drew _ _ ty 111 3 b (o+(i+1)*3) _ dc ⟨b,o+i*3,none⟩ _ sc (cs.drop (i*3)) Tryz.underlying59 hsz (by rw[hdl];congr 1;simp only[Nat.min_def];split<;>omega)
   (fun j v hj=>by
     rw[List.getElem?_drop]at hj;obtain⟨hj',rfl⟩:=q0Z.1 hj;rw[A0x,q3L];exact hcs (i*3+j) hj')
   (fun j hj=>by rw[q3L];exact hcell w.drew cb hb hbs _ (by omega)) (fun j hj=>hfz w.drew cb hb _) (fun v hv=>h1c v (q2Q hv))
 obtain⟨W1,hW1⟩:∃W1,W1=w.drew.setCells b (o+(i+1)*3) (cs.drop (i*3)):=⟨_,rfl⟩
 have q1:=A0w b (cs.drop (i*3)) (o+(i+1)*3) w.drew cb hb (by omega);rw[<-hW1]at q1;have q2:W1.heap[vb]? = w.heap[vb]?:=by rw[hW1];exact(A0h b _ _ w.drew).1 vb hvb
 have hcp2:∀(W:World),W.heap=W1.heap->∀ty dc,(Builtin.copy_ #[59,59] ty #[.slice (some ⟨b,o+i*3,none⟩) (n+1-i) dc,.slice (some ⟨vb,vo,none⟩) 1 vc]).run Tryz.prog W=.ok (goInt (Nat.min 1 (n+1-i))) (W.setCells b (o+i*3) vs):=fun W hW ty dc=>
  a5t W _ _ ty 111 3 b (o+i*3) _ dc ⟨vb,vo,none⟩ 1 vc vs Tryz.underlying59 hsz (by rw[hvl];simp only[Nat.min_def];split<;>omega)
   (fun j v hj=>by
     obtain⟨hj',rfl⟩:=q0Z.1 hj;rw[A0x,World.cell?_of_block (w:=w) (by rw[hW,q2])];exact hvs j hj')
   (fun j hj=>by rw[q3L];exact hcell W _ (by rw[hW];exact q1) (by simp only[q0W,W5,V9,q1O,q1N];omega) _ (by omega)) (fun j hj=>hfz W _ (by rw[hW];exact q1) _) h1v
 rw[<-hW1]at hcp1
 go_enter Tryz.func303,Tryz.ntmps303
 go_wp2_with (simp only[hov])
 go_region_law_o (refine b4G rfl _ _ 59 59 rfl _ _ (by simp[Act.eval,Act.put]) (by simp[Act.eval,Act.put]) (hcp1 _ _ _) ?_)
 go_wp2_with (at_builtin;refine b4I _ rfl _ _ 59 59 rfl _ _ rfl rfl (hcp2 _ rfl _ _) ?_)
 go_ret
 exact⟨rfl,w.drew,⟨rfl,rfl,⟨rfl,q4S _⟩,rfl⟩,rfl⟩
def b9j(b o n c i vb vo vc:Nat)(cs vs:List Value)(w:World)(hi:i<n)(hnc:n<=c)(hroom:c<n+1)(hcm:n<=1000000)(hvw:vb<w.heap.size)(hbw:b<w.heap.size)(hcl:cs.length=n*3)(hvl:vs.length=3)(hcs:CellsAt w b o cs)(hvs:CellsAt w vb vo vs)(h1c:∀v∈cs,v.oneCell'=true)(h1v:∀v∈vs,v.oneCell'=true):
  Calls Tryz.prog 303 #[.slice (some ⟨b,o,none⟩) n c,.int .i64 i,.slice (some ⟨vb,vo,none⟩) 1 vc] w fun x w'=>x=.returned (.slice (some ⟨w.heap.size,0,none⟩) (n+1) (grownCap w (n+1) c 111))/\
   ∃u,Drew (w.alloc (.cells ((cs.take (i*3)).toArray++Builtin.zeroCells a9S.cells (n+1-i)++Builtin.zeroCells a9S.cells (grownCap w (n+1) c 111-(n+1))) 111)) u/\w'=(u.setCells w.heap.size (i*3) vs).setCells w.heap.size ((i+1)*3) (cs.drop (i*3)):=by
 have u0:=run_underlying Tryz.underlying59;have hz1:¬(((1:Nat):Int)=0):=by omega
 have hz2:¬((i:Int)=(n:Int)):=by omega
 have hz3:(c:Int)<(n:Int)+1:=by omega
 have mixed:Tryz.prog.follows Departure.mixedOrders=true:=by kernel_rfl
 have hsz:(Tryz.prog.info? 111).map (·.size)=some 3:=by kernel_rfl
 obtain⟨i0,hi0,hz0⟩:=W8.1 a9p;simp only[W3]at hz0;obtain⟨hz0,hzs,hzb⟩:=hz0;have hkk:(n:Int)+1-(i:Int)=((n+1-i:Nat):Int):=by omega
 have hik:i+(n+1-i)=n+1:=by omega
 have hdl:(cs.drop (i*3)).length=(n-i)*3:=by rw[q1O,hcl,Nat.sub_mul]
 have hold:(Builtin.firstCells i0.size i (.slice (some ⟨b,o,none⟩) i c)).run Tryz.prog w.drew=.ok (cs.take (i*3)).toArray w.drew:=by
  rw[hzs];exact run_firstCells_some w.drew 3 i ⟨b,o,none⟩ i c (cs.take (i*3)) (by rw[V9];omega) (fun j v hj=>by
   rw[A0x];rw[List.getElem?_take]at hj;split at hj
   ·obtain⟨hj',rfl⟩:=q0Z.1 hj;exact hcs j hj'
   ·cases hj)
 have hrz:∀ty,(Builtin.append_ #[59,3] ty #[.slice (some ⟨b,o,none⟩) i c,.int .i64 ((n:Int)+1-(i:Int))]).run Tryz.prog w =
   .ok (.slice (some ⟨w.heap.size,0,none⟩) (n+1) (grownCap w (n+1) c 111)) (w.drew.alloc (.cells ((cs.take (i*3)).toArray++Builtin.zeroCells a9S.cells (n+1-i)++Builtin.zeroCells a9S.cells (grownCap w (n+1) c 111-(n+1))) 111)):=fun ty=>by
  have h:=Lib.run_append_grow_zeros w 59 3 ty 111 i0 _ .i64 .i64 Tryz.underlying59 Tryz.underlying3 hi0 hz0 (some ⟨b,o,none⟩) i c (cs.take (i*3)) hold (n+1-i) (by omega) (by omega) (by omega) (by omega) (by rw[hzb];omega) (by rw[hzb,hik];exact growslice_fits hroom (by omega));rw[hik]at h;rw[hkk];exact h
 obtain⟨G,hG⟩:∃G,G=grownCap w (n+1) c 111:=⟨_,rfl⟩
 obtain⟨ROW,hROW⟩:∃ROW:Array Value,ROW=(cs.take (i*3)).toArray++Builtin.zeroCells a9S.cells (n+1-i)++Builtin.zeroCells a9S.cells (G-(n+1)):=⟨_,rfl⟩
 have hge:=grownCap_ge w (n+1) c 111;rw[<-hG]at hrz hge ⊢;rw[<-hROW]at hrz ⊢;have hRl:(n+1)*3<=ROW.size:=by
  rw[hROW];simp only[q3O,q0W,V9,size_zeroCells,show a9S.cells.size=3 from rfl];omega
 obtain⟨W1,hW1⟩:∃W1,W1=w.drew.alloc (.cells ROW 111):=⟨_,rfl⟩
 rw[<-hW1]at hrz;have hN:W1.heap[w.heap.size]? = some (.cells ROW 111 (0,0)):=by rw[hW1];exact heap_alloc_new w.drew _
 have hcA:∀(W:World) (R:Array Value),W.heap[w.heap.size]? = some (.cells R 111 (0,0))->(n+1)*3<=R.size->∀j,j<(n+1)*3->(W.cell? ⟨w.heap.size,j,none⟩).isSome=true:=fun W R h h2 j hj=>by
  simp only[World.cell?,h];rw[q1D (by omega)];rfl
 have hfz:∀(W:World) (R:Array Value),W.heap[w.heap.size]? = some (.cells R 111 (0,0))->∀x,W.frozen? ⟨w.heap.size,x,none⟩=false:=fun W R h x=>by simp[World.frozen?,h]
 have hvW:W1.heap[vb]? = w.heap[vb]?:=by rw[hW1];exact E7 (w:=w.drew) hvw
 have hbW:W1.heap[b]? = w.heap[b]?:=by rw[hW1];exact E7 (w:=w.drew) hbw
 have hcp2:∀(W:World),W.heap=W1.heap->∀ty dc,(Builtin.copy_ #[59,59] ty #[.slice (some ⟨w.heap.size,i*3,none⟩) (n+1-i) dc,.slice (some ⟨vb,vo,none⟩) 1 vc]).run Tryz.prog W=.ok (goInt (Nat.min 1 (n+1-i))) (W.setCells w.heap.size (i*3) vs):=fun W hW ty dc=>
  a5t W _ _ ty 111 3 w.heap.size (i*3) _ dc ⟨vb,vo,none⟩ 1 vc vs Tryz.underlying59 hsz (by rw[hvl];simp only[Nat.min_def];split<;>omega)
   (fun j v hj=>by
     obtain⟨hj',rfl⟩:=q0Z.1 hj;rw[A0x,World.cell?_of_block (w:=w) (by rw[hW,hvW])];exact hvs j hj')
   (fun j hj=>hcA W ROW (by rw[hW];exact hN) hRl _ (by omega)) (fun j hj=>hfz W ROW (by rw[hW];exact hN) _) h1v
 have q1:=A0w w.heap.size vs (i*3) W1 ROW hN (by omega);have q2:(W1.setCells w.heap.size (i*3) vs).heap[b]? = w.heap[b]?:=by rw[(A0h w.heap.size vs (i*3) W1).1 b (by omega),hbW]
 have hcp3:∀(W:World),W.heap=(W1.setCells w.heap.size (i*3) vs).heap->∀ty dc sc,(Builtin.copy_ #[59,59] ty #[.slice (some ⟨w.heap.size,(i+1)*3,none⟩) (n-i) dc,.slice (some ⟨b,o+i*3,none⟩) (n-i) sc]).run Tryz.prog W=.ok (goInt (Nat.min (n-i) (n-i))) (W.setCells w.heap.size ((i+1)*3) (cs.drop (i*3))):=fun W hW ty dc sc=>
  a5t W _ _ ty 111 3 w.heap.size ((i+1)*3) _ dc ⟨b,o+i*3,none⟩ _ sc (cs.drop (i*3)) Tryz.underlying59 hsz (by rw[hdl];congr 1;simp only[Nat.min_def];split<;>omega)
   (fun j v hj=>by
     rw[List.getElem?_drop]at hj;obtain⟨hj',rfl⟩:=q0Z.1 hj;rw[A0x,q3L,World.cell?_of_block (w:=w) (by rw[hW,q2])];exact hcs (i*3+j) hj')
   (fun j hj=>hcA W _ (by rw[hW];exact q1) (by simp only[q0W,W5,V9,q1O,q1N];omega) _ (by omega)) (fun j hj=>hfz W _ (by rw[hW];exact q1) _) (fun v hv=>h1c v (q2Q hv))
 have hw1:IntKind.i64.wrap ((i:Int)+1)=(i:Int)+1:=by rw[IntKind.wrap_i64];omega
 have hb1:(0:Int)<=(i:Int)+1:=by omega
 have hin:i<=n:=by omega
 have htn:((i:Int)+1).toNat=i+1:=by omega
 have hb3:(i:Int)<=(n:Int):=by omega
 have hGn:n+1<=G:=hge;have hG63:G<=9223372036854775807:=by
  have:=grownCap_le_maxLen w (n+1) c 111 (by unfold maxLen;omega);rw[<-hG]at this;unfold maxLen at this;omega
 have hGi:¬(G=i):=by omega
 have hGim:¬(G=i+1):=by omega
 have hci:¬(c=i):=by omega
 subst hW1;have hcA2:=hcp2 ((w.alloc (.cells ROW 111)).drew) rfl;have hcB2:=hcp3 (((w.alloc (.cells ROW 111)).drew.setCells w.heap.size (i*3) vs).drew) (by
  show((w.alloc (.cells ROW 111)).drew.setCells w.heap.size (i*3) vs).heap=_;rfl)
 clear hkk hik hold hROW hG hRl q1 q2 hcA hfz hN hvW hbW
 go_enter Tryz.func303,Tryz.ntmps303
 go_wp2_with (first
  | (at_builtin;refine b4H _ rfl _ _ 59 3 rfl _ _ rfl rfl (hrz _) ?_)
  | (at_builtin;refine b4I _ rfl _ _ 59 59 rfl _ _ rfl rfl (hcA2 _ _) ?_)
  | (at_builtin;refine b4I _ rfl _ _ 59 59 rfl _ _ rfl rfl (hcB2 _ _ _) ?_))
 go_region_law_o (refine b4G rfl _ _ 59 59 rfl (.slice (some ⟨w.heap.size,(i+1)*3,none⟩) (n-i) (G-(i+1))) (.slice (some ⟨b,o+i*3,none⟩) (n-i) (c-i)) (by simp[Act.eval,Act.put]) (by simp[Act.eval,Act.put]) (hcB2 3 (G-(i+1)) (c-i)) ?_)
 go_wp2
 go_ret
 exact⟨rfl,(w.alloc (.cells ROW 111)).drew.drew,⟨rfl,rfl,⟨rfl,q4J _ 2⟩,rfl⟩,by rw[idrew]⟩
def b9k:InsRuns Tryz.prog 303 59 111 3 a9S:=⟨c1m,b6L,b9j⟩
def c7E(a:List c4)(k:Int)(x:c4)(hpre:0<=k/\k<=a.length/\a.length<=1000000):spZ 303 [(false,[.sl true [.s [],.i .i64 0,.s []] (a.map c4.cells)]),(false,[.i .i64 k]),(false,[.sl true [.s [],.i .i64 0,.s []] [[.s x.Var,.i .i64 x.Val.N,.s x.Val.S]]])] [] (.one (false,[.sl true [.s [],.i .i64 0,.s []] ((insL a k x).map c4.cells)])):=by
 obtain⟨h0,h1,h2⟩:=hpre;obtain⟨n,rfl⟩:=Int.eq_ofNat_of_zero_le h0;rw[show(insL a n x).map c4.cells=(a.map c4.cells).take n++c4.cells x::(a.map c4.cells).drop n by simp[insL,List.map_take,List.map_drop]];obtain⟨i0,hi0,hz0⟩:=W8.1 a9p;simp only[W3]at hz0;obtain⟨hz0,hzs,hzb⟩:=hz0;exact c3Q (d:=[.s [],.i .i64 0,.s []]) b9k (by kernel_rfl) Tryz.underlying59 hi0 hz0 (by rw[hzs];rfl) hzs (by omega) (a.map c4.cells) (c4.cells x) n (by rw[q0H];omega) (by rw[hzb,q0H];omega) (by rw[q0H];exact h2)
noncomputable def b7L:CT:=p6 (fun(x:(List c4)×Int×c4) h=>c7E x.1 x.2.1 x.2.2 h)
@[go_sem] def d1k:=fun a k x0 x1 x2=>nm' (fP' b7L rfl (a,k,⟨x0,⟨x1,x2⟩⟩))
end Go.Aw
namespace Go.Aw
open Go.Proofs
attribute [local irreducible] aft blk lpK retK AW A0p
set_option linter.all false
set_option maxRecDepth 100000
set_option maxHeartbeats 4000000
attribute [local irreducible] RM
def gtB(v:List UInt8)(b:c4):Bool:=Op.bytesLess v b.Var
def a0S(l:List c4)(v:List UInt8)(x:d5):List c4:=l.takeWhile (fun b=>!gtB v b)++⟨v,x⟩::l.dropWhile (fun b=>!gtB v b)
def b9T{α:Type}{p:α->Bool}:∀{l:List α},l.any p=false->l.takeWhile (fun b=>!p b)=l/\l.dropWhile (fun b=>!p b)=[]
 | [],_=>⟨rfl,rfl⟩
 | x::l,h=>by
   rw[q2H,q1A]at h;have:=b9T h.2;rw[q2C,q2V,h.1];simp[this.1,this.2]
def b9S{α:Type}{p:α->Bool}{b:α}{r:List α}(hb:p b=true):∀{l:List α},l.any p=false->(l++b::r).takeWhile (fun b=>!p b)=l/\(l++b::r).dropWhile (fun b=>!p b)=b::r
 | [],_=>by rw[q1T,q2C,q2V,hb];exact⟨rfl,rfl⟩
 | x::l,h=>by
   rw[q2H,q1A]at h;have:=b9S (r:=r) hb h.2;rw[q2M,q2C,q2V,h.1];simp[this.1,this.2]
def b9R{α:Type}{p:α->Bool}{r:List α}:∀{l:List α},l.any p=true->(l++r).takeWhile (fun b=>!p b)=l.takeWhile (fun b=>!p b)/\(l++r).dropWhile (fun b=>!p b)=l.dropWhile (fun b=>!p b)++r
 | [],h=>by simp at h
 | x::l,h=>by
   rw[q2M,q2C,q2V,q2C,q2V];cases hx:p x with
   | true=>simp
   | false=>
     rw[q2H,hx,q3E]at h;have:=b9R (r:=r) h;simp[this.1,this.2]
def b1c{l:List c4}{v:List UInt8}(x:d5)(h:l.any (gtB v)=false):a0S l v x=l++[⟨v,x⟩]:=by rw[a0S,(b9T h).1,(b9T h).2]
def d0D{l:List c4}{v:List UInt8}{b:c4}(x:d5)(h:l.any (gtB v)=false)(hb:gtB v b=true):a0S (l++[b]) v x=l++[⟨v,x⟩]++[b]:=by rw[a0S,(b9S hb h).1,(b9S hb h).2];simp
def c7R{l:List c4}{v:List UInt8}{b:c4}(x:d5)(h:l.any (gtB v)=true):a0S (l++[b]) v x=a0S l v x++[b]:=by rw[a0S,a0S,(b9R h).1,(b9R h).2];simp
def a2O(l:List c4)(v:List UInt8)(x:d5):(a0S l v x).length=l.length+1:=by
 have h:=congrArg List.length (q1V (p:=fun b=>!gtB v b) (l:=l));rw[W5]at h;rw[a0S,W5,V5];omega
def c1M(l:List c4)(v:List UInt8):Int:=bif decide (a5U (gtB v) l<0)then(l.length:Int)else a5U (gtB v) l
def c9P(l:List c4)(v:List UInt8)(x:d5):0<=c1M l v/\c1M l v<=l.length/\insL l (c1M l v) ⟨v,x⟩=a0S l v x:=by
 cases h:l.any (gtB v)with
 | false=>
   rw[c1M,a1O h];refine⟨by simp,by simp, ?_⟩;rw[b1c x h];simp[insL]
 | true=>
   obtain⟨i,hi,ha,hp⟩:∃i,i<l.length/\(l.take i).any (gtB v)=false/\gtB v (l.getD i default)=true:=by
    have gen:∀l:List c4,l.any (gtB v)=true->∃i,i<l.length/\(l.take i).any (gtB v)=false/\gtB v (l.getD i default)=true:=by
     intro l
     induction l with
     | nil=>intro h;simp at h
     | cons y l ih=>
       intro h;cases hy:gtB v y with
       | true=>exact⟨0,by simp,by simp,by simpa using hy⟩
       | false=>
         rw[q2H,hy,q3E]at h;obtain⟨i,h1,h2,h3⟩:=ih h;exact⟨i+1,by simpa using h1,by simp[hy,h2],by simpa using h3⟩
    exact gen l h
   have e:=a2w (p:=gtB v) (d:=default) hi ha hp;rw[c1M,e,V3 (by omega)];refine⟨by simp,by simp;omega, ?_⟩;have hs:l=l.take i++l.getD i default::l.drop (i+1):=by
    rw[n8 default hi];simp
   rw[W6,insL,Int.toNat_natCast,a0S];generalize l.getD i default=b at hp hs;generalize l.drop (i+1)=r at hs;have h1:=b9S (r:=r) hp ha;rw[<-hs]at h1;rw[h1.1,h1.2];have h2:l.drop i=b::r:=by
    conv=>lhs;rw[hs]
    rw[List.drop_append_of_le_length (by rw[V9];omega),List.drop_eq_nil_of_le (by rw[V9];omega)];rfl
   rw[h2]
def gt_not(b v:List UInt8):(!(Op.bytesLess b v||b==v))=Op.bytesLess v b:=by
 cases h1:Op.bytesLess b v with
 | true=>
   cases h2:Op.bytesLess v b with
   | false=>rfl
   | true=>have h3:=a5a _ _ _ h1 h2;rw[a1o]at h3;cases h3
 | false=>
   cases h2:Op.bytesLess v b with
   | false=>rw[a5b _ _ h1 h2];simp
   | true=>
     have:(b==v)=false:=beq_eq_false_iff_ne.2 fun e=>by subst e;have h3:=a1o b;rw[h3]at h2;cases h2
     rw[this];rfl
def a5W(l:List c4)(v:List UInt8)(x:d5):List c4:=bif l.any (gtB v)then a0S l v x else l
def c1G{l:List c4}{v:List UInt8}{x:d5}{b:c4}(h:l.any (gtB v)=false)(hb:gtB v b=true):a5W (l++[b]) v x=a5W l v x++[⟨v,x⟩]++[b]/\(l++[b]).any (gtB v)=true:=by
 have h2:(l++[b]).any (gtB v)=true:=by rw[q1J,q2H,hb];simp
 exact⟨by rw[a5W,a5W,h2,h,W4,W6,d0D x h hb],h2⟩
def c5E{l:List c4}{v:List UInt8}{x:d5}{b:c4}(h:(!l.any (gtB v)&&gtB v b)=false):a5W (l++[b]) v x=a5W l v x++[b]/\(l++[b]).any (gtB v)=l.any (gtB v):=by
 cases ha:l.any (gtB v)with
 | true=>
   have h2:(l++[b]).any (gtB v)=true:=by rw[q1J,ha];rfl
   exact⟨by rw[a5W,a5W,h2,ha,W4,W4,c7R x ha],h2⟩
 | false=>
   rw[ha]at h;have h2:(l++[b]).any (gtB v)=false:=by rw[q1J,ha,q2H,show gtB v b=false from h];rfl
   exact⟨by rw[a5W,a5W,h2,ha,W6,W6],h2⟩
def c1H(l:List c4)(v:List UInt8)(x:d5):(a5W l v x).length<=l.length+1:=by
 rw[a5W];cases l.any (gtB v)with
 | true=>rw[W4,a2O];exact q0A _
 | false=>exact q4S _
def c1r(l:List c4)(hpre:l.length<1000000):spZ 72 [(false,[.sl false [.s [],.i .i64 0,.s []] (l.map c4.cells)])] [] (.one (false,[.sl true [.s [],.i .i64 0,.s []] (l.map c4.cells)])):=by
 exact b0q (d:=[.s [],.i .i64 0,.s []]) Tryz.cloneBind (by kernel_rfl) (hi:=rfl) (hz0:=rfl) (hz1:=rfl) (bytes:=40) (hz2:=rfl) (hzs:=rfl) (by decide) (fun w=>rfl) _ (by rw[q0H];omega)
noncomputable def a6m:CT:=p6 (fun(x:(List c4)) h=>c1r x h)
@[go_sem] def c9n:=fun l=>nm' (fP' a6m rfl l)
def b6R(b:c4)(v:List UInt8):spZ 302 [(true,[.s b.Var,.i .i64 b.Val.N,.s b.Val.S]),(false,[.p [.s v]])] [] (.one (false,[.b (gtB v b)])):=by
 refine sy' Tryz.func302 (q' 2 [aX 3 0,aU false] (q' 4 [aG 0 2,al 1,aD .gtr 5 6,aV 3] .ret)) [.t 3] [] ?_;intro hb hE;simp only[go_sem];repeat' first|apply cj'|intro hc|exact om'|fail
 exact gt_not _ _
noncomputable def a7H:CT:=o9 (fun(x:c4×(List UInt8))=>b6R x.1 x.2)
@[go_sem] def c6I:=fun x0 x1 x2 v=>nm' (fQ' a7H rfl (⟨x0,⟨x1,x2⟩⟩,v))
def c1t(l:List c4)(v:List UInt8):spZ 301 [(false,[u9 l]),(false,[.f 302 [.p [.s v]]])] [] (.one (false,[.i .i64 (a5U (gtB v) l)])):=by
 refine sy' Tryz.func301 (q' 4 [aK 0] (.seq (q' 6 [am 0,aN,aK 0] (fO 0 9 [ar 8 7] 9 1 (q' 10 [am 8,aV 5] (q' 11 [aM [1,0,5],aI 3,aE 3,ao (.callv (.t 11) [.t 15])] (ci 16 (q' 17 [am 5,aV 4] .ret)))) (g' 18 [aA 8]))) (q' 4 [ao (.mov (.k (.v false [.c (.i .i64 (-1))])))] .ret))) [.t 4] [(302,[],a7H)] ?_;intro hb hE;simp only[go_sem];repeat' first|apply cj'|intro hc|exact om'|fail
 refine lq' false [0,1,7] [] [] (fun i:{i:Nat // i<=l.length/\(l.take i).any (gtB v)=false}=>[(8,slV (.i .i64 i.1))]) nl' nl' (fun i=>l.length-i.1) (⟨0,by simp⟩) ?_;intro S0 hS0 i;obtain⟨i,hi,ha⟩:=i;simp only[go_sem,hS0];repeat' first|apply cj'|intro hc|exact om'|fail
 ·exact(a2w (p:=gtB v) (d:=default) (by omega) ha (by simpa[-List.getD_eq_getElem?_getD]using hc)).symm
 ·exact nx0 ⟨i+1,by omega,a1W (p:=gtB v) default (by omega) ha (by simpa[-List.getD_eq_getElem?_getD]using hc)⟩
 ·exact(a1O (by rwa [k6 (by omega)]at ha)).symm
noncomputable def b1l:CT:=o9 (fun(x:(List c4)×(List UInt8))=>c1t x.1 x.2)
@[go_sem] def c9q:=fun l v=>nm' (fQ' b1l rfl (l,v))
@[go_sem] def a6h:ACode:=q' 5 [ax (o' 3 (.box 1 (.t 0))),aX 2 2,aw [.sl j3]] (q' 7 [ax (o' 11 (.bld [.sl j3] [])),aw [.sl j3],aS 1 7 11] (q' 8 [aU false] (.seq (q' 12 [aG 0 3,aN,aK 0] (fO 0 16 [ar 15 14] 16 1 (q' 17 [ai 3 13 15,aE 3,ax (w' 10 [.s,.i .i64,.s]),aS 3 10 18]
 (.seq (q' 19 [am 8,aO 19,am 20,aH 21 true [bm 1,bf 0 10,bL,bD .lss 22 24],aP 21 25] (ci 26 (q' 27 [aG 0 7,am 1,ae 2 5,ao (.bld [.s,.i .i64,.s] [(0,1,.t
 29),(1,2,.t 30)]),ao (.bsl 3 1 [.s,.i .i64,.s] [(0,.t 31)]),ao (.app 3 40 [.s,.i .i64,.s] (.t 28) (.t 32)),af 0 7,aS 1 34 33] (g' 8 [aU true])))) (g'
 35 [aG 0 7,ae 3 10,ao (.bsl 3 1 [.s,.i .i64,.s] [(0,.t 37)]),ao (.app 3 40 [.s,.i .i64,.s] (.t 36) (.t 38)),af 0 7,aS 1 40 39]))) (g' 41 [aA 15]))) (.seq
 (q' 42 [am 8,aO 42] (ci 43 (g' 44 [aG 0 7,am 1,ae 2 5,ao (.bld [.s,.i .i64,.s] [(0,1,.t 46),(1,2,.t 47)]),ao (.bsl 3 1 [.s,.i .i64,.s] [(0,.t
 48)]),ao (.app 3 40 [.s,.i .i64,.s] (.t 45) (.t 49)),af 0 7,aS 1 51 50]))) (q' 52 [ae 1 7,aS 1 6 52] .ret)))))
def b7t(e:c9)(v:List UInt8)(x:d5)(hpre:e.Binds.length<=1000):spZ 255 [(true,[u9 e.Binds]),(false,[.s v]),(true,[.i .i64 x.N,.s x.S])] [] (.one (true,[kTBind ((⟨a0S e.Binds v x⟩:c9).Binds)])):=by
 refine sy' Tryz.func255 a6h [.c 6 true 1] [] ?_;intro hb hE;simp only[go_sem];repeat' first|apply cj'|intro hc|exact om'|fail
 refine lk' false [(true,14,0,200028)] [1,5,6,7,13,14] [10,12] [] (fun i:{i:Nat // i<=e.Binds.length}=>[(8,slV (.b ((e.Binds.take i.1).any (gtB v)))),(15,slV (.i .i64 i.1))]) (fun i=>[(14,[.ow 200028])]) (fun i=>[(200028,j3,(a5W (e.Binds.take i.1) v x).map c4.cells)]) (fun i=>e.Binds.length-i.1) (⟨0,by simp⟩) ?_;intro S0 hS0 i;obtain⟨i,hi⟩:=i;have hol:=c1H (e.Binds.take i) v x;rw[V9]at hol;have hsn:i<e.Binds.length->e.Binds.take (i+1)=e.Binds.take i++[e.Binds.getD i default]:=fun h=>l6 default h
 simp only[go_sem,hS0];repeat' first|apply cj'|intro hc|exact om'|fail
 ·have h1:=c1G (x:=x) hc.1 hc.2;rw[<-hsn (by omega)]at h1
  (refine lpK_n2 (⟨i+1,by omega⟩) _ (by simp only[go_sem];try rfl) ?_;simp only[go_sem,hS0]<;>repeat' first|apply V1|exact on'|fail)
  all_goals(first|exact congrArg (List.map c4.cells) h1.1.symm|(rw[h1.2];done)|(rw[h1.2];exact congrArg _ hc.1.symm))
 ·have h1:=c5E (x:=x) hc;rw[<-hsn (by omega)]at h1
  (refine lpK_n2 (⟨i+1,by omega⟩) _ (by simp only[go_sem];try rfl) ?_;simp only[go_sem,hS0]<;>repeat' first|apply V1|exact on'|fail)
  all_goals(first|exact congrArg (List.map c4.cells) h1.1.symm|(rw[h1.2];done)|(rw[h1.2];exact congrArg _ hc.1.symm))
 ·rw[k6 (by omega)]at hc ⊢;rw[a5W,hc,W6,b1c x hc]
 ·rw[k6 (by omega)]at hc ⊢;rw[a5W,hc,W4]
noncomputable def a7X:CT:=p6 (fun(x:c9×(List UInt8)×d5) h=>b7t x.1 x.2.1 x.2.2 h)
@[go_sem] def c7l:=fun x0 v x1 x2=>nm' (fP' a7X rfl (⟨x0⟩,v,⟨x1,x2⟩))
def a8f(a b:d5):Bool:=a.N==b.N&&a.S==b.S
def b6K(b:List c4)(t:d4)(v:d5):Option (List c4):=bif (k8 ⟨b⟩ t).2 then(bif a8f (k8 ⟨b⟩ t).1 v then some b else none)else some (a0S b t.Var v)
def a2g(b:List c4)(args:List d4)(vs:List d5):Nat->Option (List c4)
 | 0=>some b
 | n+1=>(a2g b args vs n).bind fun c=>b6K c (args.getD n default) (vs.getD n default)
def a4Q(e:c9)(args:List d4)(row:d3):c9×Bool:=bif decide (args.length=row.V.length)then(match a2g e.Binds args row.V args.length with|some c=>(⟨c⟩,true)|none=>(default,false))else(default,false)
def b7P{b:List c4}{args:List d4}{vs:List d5}{i:Nat}(h:a2g b args vs i=none):∀{n:Nat},i<=n->a2g b args vs n=none
 | 0,hn=>by
   obtain rfl:i=0:=by omega
   exact h
 | n+1,hn=>by
   rcases q2X i (n+1)with h1|h1
   ·rw[a2g,b7P h (show i<=n by omega)];rfl
   ·obtain rfl:i=n+1:=by omega
    exact h
def a9k{b:List c4}{args:List d4}{vs:List d5}:∀{n:Nat} {c:List c4},a2g b args vs n=some c->c.length<=b.length+n
 | 0,c,h=>by simp only[a2g,W0]at h;subst h;exact q0A _
 | n+1,c,h=>by
   rw[a2g]at h;obtain⟨d,h1,h2⟩:=q1W.1 h;have:=a9k h1;rw[b6K]at h2;cases hv:(k8 ⟨d⟩ (args.getD n default)).2 with
   | true=>
     rw[hv,W4]at h2;cases hs:a8f (k8 ⟨d⟩ (args.getD n default)).1 (vs.getD n default)with
     | true=>rw[hs,W4,W0]at h2;subst h2;omega
     | false=>rw[hs]at h2;cases h2
   | false=>
     rw[hv,W6,W0]at h2;subst h2;rw[a2O];omega
def c5r{b c:List c4}{args:List d4}{vs:List d5}{i:Nat}(h:a2g b args vs i=some c)(hv:(k8 ⟨c⟩ (args.getD i default)).2=false):a2g b args vs (i+1)=some (a0S c (args.getD i default).Var (vs.getD i default)):=by
 rw[a2g,h,q3J,b6K,hv,W6]
def b4v{b c:List c4}{args:List d4}{vs:List d5}{i:Nat}(h:a2g b args vs i=some c)(hv:(k8 ⟨c⟩ (args.getD i default)).2=true)(hs:a8f (k8 ⟨c⟩ (args.getD i default)).1 (vs.getD i default)=true):a2g b args vs (i+1)=some c:=by
 rw[a2g,h,q3J,b6K,hv,hs];rfl
def b9h{b c:List c4}{args:List d4}{vs:List d5}{i n:Nat}(h:a2g b args vs i=some c)(hn:i<n)(hv:(k8 ⟨c⟩ (args.getD i default)).2=true)(hs:a8f (k8 ⟨c⟩ (args.getD i default)).1 (vs.getD i default)=false):a2g b args vs n=none:=by
 refine b7P (i:=i+1) ?_ hn;rw[a2g,h,q3J,b6K,hv,hs];rfl
def a9P{e:c9}{t:d4}(h:(t.Var==[])=false):k8 e t=y4 e t.Var:=by rw[k8,h];rfl
def a7v{e:c9}{t:d4}(h:(t.Var==[])=true):k8 e t=(t.Val,true):=by rw[k8,h];rfl
end Go.Aw
namespace Go.Aw
set_option maxHeartbeats 4000000
open Go.Proofs
set_option linter.all false
set_option maxRecDepth 100000
def a2v(l:List c4)(v:List UInt8):y4 ⟨l⟩ v=match l.find? (fun b=>b.Var==v)with|some b=>(b.Val,true)|none=>(default,false):=by
 cases h:l.find? (fun b=>b.Var==v)with
 | none=>
   refine a6R fun j hj=>?_
   have:=List.find?_eq_none.1 h (l.getD j default) (by rw[n8 default hj];exact q0T hj);simpa using this
 | some b=>
   obtain⟨hp,l1,l2,rfl,hno⟩:=List.find?_eq_some_iff_append.1 h;have e:(l1++b::l2).getD l1.length default=b:=by simp
   rw[a6S (e:=⟨l1++b::l2⟩) (i:=l1.length) (by simp) (fun j hj=>?_) (by simp only[e];exact hp)]
   ·simp only[e]
   ·have hm:(l1++b::l2).getD j default=l1[j]:=by
     rw[q0E,q3Y hj,V4 hj];rfl
    simp only[hm];have:=hno l1[j] (q0T hj);simpa using this
def b4q{l:List c4}{v:List UInt8}(h:(y4 ⟨l⟩ v).2=false):l.find? (fun b=>b.Var==v)=none:=by
 rw[a2v]at h;cases hf:l.find? (fun b=>b.Var==v)with
 | none=>rfl
 | some b=>rw[hf]at h;cases h
def a3Y{l:List c4}{v:List UInt8}(h:(y4 ⟨l⟩ v).2=false):¬v∈l.map c4.Var:=by
 intro hm;obtain⟨b,hb,rfl⟩:=q1E.1 hm;have:=List.find?_eq_none.1 (b4q h) b hb;simp at this
def off_of{l:List c4}{v:List UInt8}(h:¬v∈l.map c4.Var):(y4 ⟨l⟩ v).2=false:=by
 rw[a2v,List.find?_eq_none.2 (fun b hb hv=>h (q1E.2 ⟨b,hb,by simpa using hv⟩))]
def d0n{l:List c4}{v:List UInt8}:(y4 ⟨l⟩ v).2=true↔v∈l.map c4.Var:=by
 constructor
 ·intro h;refine Classical.byContradiction fun hn=>?_
  rw[off_of hn]at h;cases h
 ·intro h;cases hv:(y4 ⟨l⟩ v).2 with
  | true=>rfl
  | false=>exact absurd h (a3Y hv)
def b5Q(l:List c4)(v:List UInt8):l.takeWhile (fun b=>!gtB v b)++l.dropWhile (fun b=>!gtB v b)=l:=q1V
def c7r{l:List c4}{v w:List UInt8}{x:d5}(hw:w≠v):y4 ⟨a0S l v x⟩ w=y4 ⟨l⟩ w:=by
 rw[a2v,a2v]
 conv=>rhs;rw[<-b5Q l v]
 rw[a0S,q5G,q5G,q3Q,show((v==w)=false)from beq_eq_false_iff_ne.2 (Ne.symm hw)]
def c1e{l:List c4}{v:List UInt8}{x:d5}(h:(y4 ⟨l⟩ v).2=false):y4 ⟨a0S l v x⟩ v=(x,true):=by
 have h1:=b4q h;rw[<-b5Q l v,q5G]at h1;rw[a2v,a0S,q5G];cases h2:(l.takeWhile fun b=>!gtB v b).find? (fun b=>b.Var==v)with
 | some b=>rw[h2]at h1;cases h1
 | none=>simp
def d0R{a b:d5}(h:a8f a b=true):a=b:=by
 obtain⟨n,s⟩:=a;obtain⟨m,t⟩:=b;simp only[a8f,W7,beq_iff_eq]at h;obtain⟨rfl,rfl⟩:=h;rfl
def Back(c:List c4)(t:d4)(x:d5):Prop:=k8 ⟨c⟩ t=(x,true)
def Back.set{c:List c4}{t:d4}{x y:d5}{v:List UInt8}(h:Back c t x)(hv:(y4 ⟨c⟩ v).2=false):Back (a0S c v y) t x:=by
 unfold Back at*;rw[k8]at h ⊢;cases ht:t.Var==[]with
 | true=>rw[ht]at h;exact h
 | false=>
   rw[ht,W6]at h;have hn:t.Var≠v:=by intro e;rw[<-e,h]at hv;cases hv
   rw[W6,c7r hn];exact h
def a0n{c:List c4}{t:d4}(h:(k8 ⟨c⟩ t).2=false):(t.Var==[])=false/\(y4 ⟨c⟩ t.Var).2=false:=by
 rw[k8]at h;cases ht:t.Var==[]with
 | true=>rw[ht]at h;cases h
 | false=>rw[ht]at h;exact⟨rfl,h⟩
def a8s{b c:List c4}{t:d4}{v:d5}(h:b6K b t v=some c):(c=b/\Back b t v)\/(c=a0S b t.Var v/\(t.Var==[])=false/\(y4 ⟨b⟩ t.Var).2=false):=by
 rw[b6K]at h;cases hv:(k8 ⟨b⟩ t).2 with
 | true=>
   rw[hv,W4]at h;cases hs:a8f (k8 ⟨b⟩ t).1 v with
   | true=>
     rw[hs,W4,W0]at h;refine .inl ⟨h.symm, ?_⟩;unfold Back;rw[<-d0R hs,<-hv]
   | false=>rw[hs]at h;cases h
 | false=>
   rw[hv,W6,W0]at h;exact .inr ⟨h.symm,a0n hv⟩
def c7w{b c:List c4}{t:d4}{v:d5}(h:b6K b t v=some c):Back c t v/\∀s x,Back b s x->Back c s x:=by
 rcases a8s h with⟨rfl,h1⟩|⟨rfl,h1,h2⟩
 ·exact⟨h1,fun _ _ h=>h⟩
 ·refine⟨?_,fun s x h=>h.set h2⟩;unfold Back;rw[k8,h1,W6,c1e h2]
def b0y{b:List c4}{args:List d4}{vs:List d5}:∀{n:Nat} {c:List c4},a2g b args vs n=some c->(∀i,i<n->Back c (args.getD i default) (vs.getD i default))/\∀s x,Back b s x->Back c s x
 | 0,c,h=>by
   simp only[a2g,W0]at h;subst h;exact⟨fun i hi=>by omega,fun _ _ h=>h⟩
 | n+1,c,h=>by
   rw[a2g]at h;obtain⟨d,h1,h2⟩:=q1W.1 h;obtain⟨i1,i2⟩:=b0y h1;obtain⟨j1,j2⟩:=c7w h2;refine⟨fun i hi=>?_,fun s x h=>j2 s x (i2 s x h)⟩;rcases q2X i n with h3|h3
   ·exact j2 _ _ (i1 i h3)
   ·obtain rfl:i=n:=by omega
    exact j1
def EnvS(l:List c4):Prop:=(∀b∈l,a4e b.Var=true/\k9 b.Val=true)/\SS Op.bytesLess (l.map c4.Var)
def c0v{n:Nat}{p:Nat->Bool}:a3n n p=false↔∀i,i<n->p i=false:=by
 constructor
 ·intro h i hi;cases hp:p i with
  | false=>rfl
  | true=>rw[a3k hi hp]at h;cases h
 ·intro h
  induction n with
  | zero=>rfl
  | succ n ih=>exact a1L (ih fun i hi=>h i (by omega)) (h n (by omega))
def c2W{l:List (List UInt8)}(h:∀i,0<i->i<l.length->Op.bytesLess (l.getD (i-1) []) (l.getD i [])=true):SS Op.bytesLess l:=by
 refine q3I.2 fun i j hi hj hij=>?_
 have key:∀d,i+d+1<l.length->Op.bytesLess (l.getD i []) (l.getD (i+d+1) [])=true:=by
  intro d
  induction d with
  | zero=>intro hd;exact h (i+1) (by omega) hd
  | succ d ih=>intro hd;exact a5a _ _ _ (ih (by omega)) (h (i+(d+1)+1) (by omega) hd)
 have:=key (j-i-1) (by omega);rw[show i+(j-i-1)+1=j by omega,n8 [] hi,n8 [] hj]at this;exact this
def a9l(l:List c4)(i:Nat):(l.map c4.Var).getD i []=(l.getD i default).Var:=by
 rw[q0E,q0E,q4B];cases l[i]? with
 | none=>rfl
 | some b=>rfl
def b0u{e:c9}:b1q e=true↔EnvS e.Binds/\e.Binds.length<=60:=by
 rw[b1q,W7,q0U,c0v,q0B];have hl:((e.Binds.length:Int)<=60)↔e.Binds.length<=60:=by omega
 rw[hl];refine and_congr_left fun _=>⟨fun h=>⟨fun b hb=>?_,c2W fun i h0 hi=>?_⟩,fun h i hi=>?_⟩
 ·obtain⟨i,hi,rfl⟩:=q2Y hb;have:=h i hi;rw[a3e,n8 default hi]at this;simp only[q1A,q1K]at this;exact this.1
 ·rw[q0H]at hi;rw[a9l,a9l];have:=h i hi;rw[a3e,V0 (p:=(0:Int)<i) (by omega)]at this;simp only[q1A,q1K,q0N]at this;exact this.2
 ·have h1:=h.1 (e.Binds.getD i default) (by rw[n8 default hi];exact q0T hi);rw[a3e,h1.1,h1.2];rcases q5A i with h0|h0
  ·subst h0;simp
  ·have h2:=q3I.1 h.2 (i-1) i (by rw[q0H];omega) (by rw[q0H];omega) (by omega);rw[<-n8 [] (by rw[q0H];omega),<-n8 [] (by rw[q0H];omega),a9l,a9l]at h2;rw[h2];simp
def a1S{l:List c4}{v:List UInt8}(x:d5)(h:¬v∈l.map c4.Var):(a0S l v x).map c4.Var=a0f Op.bytesLess (l.map c4.Var) v:=by
 rw[a0f,if_neg h,List.takeWhile_map,List.dropWhile_map,a0S,q1U,V8];rfl
def d0E{l:List c4}{v:List UInt8}{x:d5}{b:c4}:b∈a0S l v x↔b=⟨v,x⟩\/b∈l:=by
 conv=>rhs;rw[<-b5Q l v]
 rw[a0S,W9,q0C,W9];constructor
 ·rintro(h|h|h)
  ·exact .inr (.inl h)
  ·exact .inl h
  ·exact .inr (.inr h)
 ·rintro(h|h|h)
  ·exact .inr (.inl h)
  ·exact .inl h
  ·exact .inr (.inr h)
def EnvS.set{l:List c4}{v:List UInt8}{x:d5}(h:EnvS l)(hv:a4e v=true)(hx:k9 x=true)(hn:(y4 ⟨l⟩ v).2=false):EnvS (a0S l v x):=by
 refine⟨fun b hb=>?_,by rw[a1S x (a3Y hn)];exact SS.put a0e h.2 v⟩;rcases d0E.1 hb with rfl|hb
 ·exact⟨hv,hx⟩
 ·exact h.1 b hb
def b5V{t:d4}(h:s6 t=true)(hv:(t.Var==[])=false):a4e t.Var=true:=by
 rw[s6,hv]at h;simp only[q3B,W4,W7]at h;exact h.1
def EnvS.fit{b c:List c4}{t:d4}{v:d5}(h:EnvS b)(ht:s6 t=true)(hv:k9 v=true)(hf:b6K b t v=some c):EnvS c:=by
 rcases a8s hf with⟨rfl,_⟩|⟨rfl,h1,h2⟩
 ·exact h
 ·exact h.set (b5V ht h1) hv h2
def EnvS.fits{b:List c4}{args:List d4}{vs:List d5}(h:EnvS b)(ha:args.all s6=true)(hv:vs.all k9=true):∀{n:Nat} {c:List c4},n<=args.length->n<=vs.length->a2g b args vs n=some c->EnvS c
 | 0,c,_,_,hf=>by
   simp only[a2g,W0]at hf;subst hf;exact h
 | n+1,c,hn,hm,hf=>by
   rw[a2g]at hf;obtain⟨d,h1,h2⟩:=q1W.1 hf;refine(EnvS.fits h ha hv (by omega) (by omega) h1).fit (q0S.1 ha _ ?_) (q0S.1 hv _ ?_) h2
   ·rw[n8 default (by omega)];exact q0T _
   ·rw[n8 default (by omega)];exact q0T _
def fitR_on{e:c9}{args:List d4}{row:d3}(h:(a4Q e args row).2=true):args.length=row.V.length/\a2g e.Binds args row.V args.length=some (a4Q e args row).1.Binds:=by
 rw[a4Q]at h ⊢;by_cases hl:args.length=row.V.length
 ·rw[V0 hl,W4]at h ⊢;split at h
  ·rename_i c hc;exact⟨hl,hc⟩
  ·cases h
 ·rw[V3 hl]at h;cases h
def b0w{c:List c4}{args:List d4}{row:d3}(hl:args.length=row.V.length)(h:∀i,i<args.length->Back c (args.getD i default) (row.V.getD i default)):v8 ⟨c⟩ args=(row,true):=by
 have h1:args.all (fun t=>(k8 ⟨c⟩ t).2)=true:=by
  rw[q0S];intro t ht;obtain⟨i,hi,rfl⟩:=q2Y ht;have:=h i hi;unfold Back at this;rw[n8 default hi]at this;rw[this]
 have h2:args.map (fun t=>(k8 ⟨c⟩ t).1)=row.V:=by
  refine q4U (by rw[q0H];exact hl) fun i hi hj=>?_
  rw[q0H]at hi;have:=h i hi;unfold Back at this;rw[n8 default hi,n8 default hj]at this;rw[q5M,this]
 rw[v8,h1,W4,h2]
def c4g(a:d5):w8 a a=false:=by
 rw[w8,a1o,V3 (by omega)];cases a.S==[]&&a.S==[]<;>rfl
def b8g:∀a:List d5,a1a a a=0
 | []=>rfl
 | x::a=>by rw[a1a,c4g];exact b8g a
def b8n{r:d3}(h:a0M r=true):r.V.length<=6/\r.V.all k9=true:=by
 simp only[a0M,W7,q0B]at h;exact⟨by omega,h.2⟩
def STO.two{α β γ:Type}{lb:β->β->Bool}{lg:γ->γ->Bool}(ob:STO lb)(og:STO lg)(f:α->β)(g:α->γ)(inj:∀x y,f x=f y->g x=g y->x=y):STO fun x y=>lb (f x) (f y)||(!lb (f y) (f x)&&lg (g x) (g y)) where
 irr x:=by rw[ob.irr,og.irr];rfl
 tr x y z h1 h2:=by
  simp only[q2B,W7,q0U]at h1 h2 ⊢;rcases h1 with h1|⟨h1,h1'⟩
  ·rcases h2 with h2|⟨h2,h2'⟩
   ·exact .inl (ob.tr _ _ _ h1 h2)
   ·cases h:lb (f y) (f z)with
    | true=>exact .inl (ob.tr _ _ _ h1 h)
    | false=>rw[<-ob.tri _ _ h h2];exact .inl h1
  ·cases h:lb (f x) (f y)with
   | true=>
     rcases h2 with h2|⟨h2,h2'⟩
     ·exact .inl (ob.tr _ _ _ h h2)
     ·cases h3:lb (f y) (f z)with
      | true=>exact .inl (ob.tr _ _ _ h h3)
      | false=>rw[<-ob.tri _ _ h3 h2];exact .inl h
   | false=>
     rw[ob.tri _ _ h h1];rcases h2 with h2|⟨h2,h2'⟩
     ·exact .inl h2
     ·exact .inr ⟨h2,og.tr _ _ _ h1' h2'⟩
 tri x y h1 h2:=by
  simp only[q1A,q3W,q1K]at h1 h2;obtain⟨a1,a2⟩:=h1;obtain⟨b1,b2⟩:=h2;rcases a2 with a2|a2
  ·rw[b1]at a2;cases a2
  rcases b2 with b2|b2
  ·rw[a1]at b2;cases b2
  exact inj _ _ (ob.tri _ _ a1 b1) (og.tri _ _ a2 b2)
def a3I{α:Type}(lt:α->α->Bool):List α->List α->Bool
 | _,[]=>false
 | [],_::_=>true
 | x::a,y::b=>lt x y||(!lt y x&&a3I lt a b)
def STO.lex{α:Type}{lt:α->α->Bool}(o:STO lt):STO (a3I lt) where
 irr x:=by
  induction x with
  | nil=>rfl
  | cons x a ih=>rw[a3I,o.irr,ih];rfl
 tr x:=by
  induction x with
  | nil=>
    intro y z h1 h2;cases z with
    | nil=>cases y<;>simp[a3I]at h2
    | cons z c=>rfl
  | cons x a ih=>
    intro y z h1 h2;cases y with
    | nil=>simp[a3I]at h1
    | cons y b=>
      cases z with
      | nil=>simp[a3I]at h2
      | cons z c=>
        simp only[a3I,q2B,W7,q0U]at h1 h2 ⊢;rcases h1 with h1|⟨h1,h1'⟩
        ·rcases h2 with h2|⟨h2,h2'⟩
         ·exact .inl (o.tr _ _ _ h1 h2)
         ·cases h:lt y z with
          | true=>exact .inl (o.tr _ _ _ h1 h)
          | false=>rw[<-o.tri _ _ h h2];exact .inl h1
        ·cases h:lt x y with
         | true=>
           rcases h2 with h2|⟨h2,h2'⟩
           ·exact .inl (o.tr _ _ _ h h2)
           ·cases h3:lt y z with
            | true=>exact .inl (o.tr _ _ _ h h3)
            | false=>rw[<-o.tri _ _ h3 h2];exact .inl h
         | false=>
           rw[o.tri _ _ h h1];rcases h2 with h2|⟨h2,h2'⟩
           ·exact .inl h2
           ·exact .inr ⟨h2,ih _ _ h1' h2'⟩
 tri x:=by
  induction x with
  | nil=>
    intro y h1 h2;cases y with
    | nil=>rfl
    | cons y b=>simp[a3I]at h1
  | cons x a ih=>
    intro y h1 h2;cases y with
    | nil=>simp[a3I]at h2
    | cons y b=>
      simp only[a3I,q1A,q3W,q1K]at h1 h2;obtain⟨a1,a2⟩:=h1;obtain⟨b1,b2⟩:=h2;rcases a2 with a2|a2
      ·rw[b1]at a2;cases a2
      rcases b2 with b2|b2
      ·rw[a1]at b2;cases b2
      rw[o.tri _ _ a1 b1,ih _ a2 b2]
def vLt(a b:d5):Bool:=Op.bytesLess a.S b.S||(!Op.bytesLess b.S a.S&&iLt a.N b.N)
def a9O:STO vLt:=STO.two a0e c5v d5.S d5.N fun x y h1 h2=>by cases x;cases y;simp_all
def bLt(a b:c4):Bool:=Op.bytesLess a.Var b.Var||(!Op.bytesLess b.Var a.Var&&vLt a.Val b.Val)
def b8Q:STO bLt:=STO.two a0e a9O c4.Var c4.Val fun x y h1 h2=>by cases x;cases y;simp_all
def z9(a b:c9):Bool:=a3I bLt a.Binds b.Binds
def a2u:STO z9 where
 irr x:=b8Q.lex.irr _
 tr x y z:=b8Q.lex.tr _ _ _
 tri x y h1 h2:=by
  have:=b8Q.lex.tri _ _ h1 h2;cases x;cases y;simp_all
def b9U{a b:d5}(ha:k9 a=true)(hb:k9 b=true):vLt a b=w8 a b:=by
 have hn:∀v:d5,k9 v=true->(v.S==[])=false->v.N=0:=by
  intro v hv hs;rw[k9,hs,W6,W7]at hv;simpa using hv.1
 rw[vLt,w8];cases h1:a.S==[]with
 | true=>
   rw[beq_iff_eq]at h1;cases h2:b.S==[]with
   | true=>
     rw[beq_iff_eq]at h2;rw[h1,h2];rfl
   | false=>
     rw[h1];cases hbs:b.S with
     | nil=>rw[hbs]at h2;cases h2
     | cons x y=>rfl
 | false=>
   rw[Bool.false_and,W6,hn a ha h1];cases h2:b.S==[]with
   | true=>
     rw[beq_iff_eq]at h2;rw[h2];cases has:a.S with
     | nil=>rw[has]at h1;cases h1
     | cons x y=>rfl
   | false=>
     rw[hn b hb h2,c5v.irr,q2T,Bool.or_false]
def c7q(n:Nat)(f:Nat->Int):a2V (n+1) f=if f 0=0 then a2V n (fun i=>f (i+1))else f 0:=by
 induction n with
 | zero=>simp[a2V]
 | succ n ih=>
   rw[a2V,ih];by_cases h:f 0=0
   ·rw[if_pos h,if_pos h,a2V]
   ·rw[if_neg h,if_neg h,if_neg h]
def okB(l:List c4):Prop:=∀b∈l,k9 b.Val=true
def b4p:∀{a b:List c4},okB a->okB b->a.map c4.Var=b.map c4.Var->a3C a b=bif a3I bLt a b then-1 else bif a3I bLt b a then 1 else 0
 | [],[],_,_,_=>rfl
 | [],y::b,_,_,h=>by cases h
 | x::a,[],_,_,h=>by cases h
 | x::a,y::b,ha,hb,h=>by
   simp only[V8,V2]at h;have ih:=b4p (a:=a) (b:=b) (fun z hz=>ha z (by simp[hz])) (fun z hz=>hb z (by simp[hz])) h.2;have hx:=ha x (by simp);have hy:=hb y (by simp);rw[a3C]at ih;have e1:bLt x y=w8 x.Val y.Val:=by rw[bLt,h.1,a1o,b9U hx hy];simp
   have e2:bLt y x=w8 y.Val x.Val:=by rw[bLt,h.1,a1o,b9U hy hx];simp
   rw[a3C,V5,c7q];simp only[q2L,q3G,a3I,e1,e2,ih];rw[a7y];cases h1:w8 x.Val y.Val with
   | true=>rfl
   | false=>
     cases h2:w8 y.Val x.Val with
     | true=>rfl
     | false=>rfl
def b4t(args:List d4)(e:c9)(row:d3):Option c9:=bif (a4Q e args row).2 then some (a4Q e args row).1 else none
def a3Z(args:List d4)(rows:List d3)(e:c9):List c9:=rows.filterMap (b4t args e)
def w5(args:List d4)(rows:List d3)(now:List c9):List c9:=now.flatMap (a3Z args rows)
def a0z(r:c6)(s:d6):Nat->Option (List c9)
 | 0=>some [⟨[]⟩]
 | n+1=>(a0z r s n).bind fun now=>bif (r.Body.getD n default).Kind==1 then(bif decide ((w5 (r.Body.getD n default).Atom.Args (a0u s (r.Body.getD n default).Atom.Name).1.Rows now).length<=2000)then some (w5 (r.Body.getD n default).Atom.Args (a0u s (r.Body.getD n default).Atom.Name).1.Rows now)else none)else some now
def a0H(r:c6)(s:d6):List c9×Bool:=match a0z r s r.Body.length with|some l=>(l,true)|none=>([],false)
def b4J{r:c6}{s:d6}{i:Nat}(h:a0z r s i=none):∀{n:Nat},i<=n->a0z r s n=none
 | 0,hn=>by
   obtain rfl:i=0:=by omega
   exact h
 | n+1,hn=>by
   rcases q2X i (n+1)with h1|h1
   ·rw[a0z,b4J h (show i<=n by omega)];rfl
   ·obtain rfl:i=n+1:=by omega
    exact h
def b7v(args:List d4)(rows:List d3)(now:List c9)(j:Nat):(w5 args rows (now.take j)).length<=(w5 args rows now).length:=by
 conv=>rhs;rw[<-q1P j now]
 rw[w5,w5,q4G,W5];omega
def c4d{args:List d4}{rows:List d3}{now:List c9}{j:Nat}(h:j<now.length):w5 args rows (now.take (j+1))=w5 args rows (now.take j)++a3Z args rows (now.getD j default):=by
 rw[l6 default h,w5,w5,q4G];simp
def d0C{args:List d4}{rows:List d3}{e c:c9}{k:Nat}(h:k<rows.length)(hf:b4t args e (rows.getD k default)=some c):a3Z args (rows.take (k+1)) e=a3Z args (rows.take k) e++[c]:=by
 rw[l6 default h,a3Z,a3Z,List.filterMap_append,List.filterMap_cons,hf];rfl
def rows_no{args:List d4}{rows:List d3}{e:c9}{k:Nat}(h:k<rows.length)(hf:b4t args e (rows.getD k default)=none):a3Z args (rows.take (k+1)) e=a3Z args (rows.take k) e:=by
 rw[l6 default h,a3Z,a3Z,List.filterMap_append,List.filterMap_cons,hf];simp
def c7P(args:List d4)(rows:List d3)(e:c9):(a3Z args rows e).length<=rows.length:=List.length_filterMap_le _ _
def b4u{args:List d4}{e:c9}{row:d3}(h:(a4Q e args row).2=true):b4t args e row=some (a4Q e args row).1:=by rw[b4t,h];rfl
def b9g{args:List d4}{e:c9}{row:d3}(h:(a4Q e args row).2=false):b4t args e row=none:=by rw[b4t,h];rfl
def b7U{r:c6}{s:d6}{i j:Nat}{now:List c9}(hj:a0z r s i=some now)(hi:i<r.Body.length)(hk:((r.Body.getD i default).Kind==1)=true)(hl:2000<(w5 (r.Body.getD i default).Atom.Args (a0u s (r.Body.getD i default).Atom.Name).1.Rows (now.take j)).length):a0H r s=([],false):=by
 have h1:=b7v (r.Body.getD i default).Atom.Args (a0u s (r.Body.getD i default).Atom.Name).1.Rows now j;have h2:a0z r s (i+1)=none:=by rw[a0z,hj,q3J,hk,W4,V3 (by omega)];rfl
 rw[a0H,b4J h2 (show i+1<=r.Body.length by omega)]
def c1n{r:c6}{s:d6}{i:Nat}{now:List c9}(hj:a0z r s i=some now)(hk:((r.Body.getD i default).Kind==1)=true)(hl:(w5 (r.Body.getD i default).Atom.Args (a0u s (r.Body.getD i default).Atom.Name).1.Rows now).length<=2000):a0z r s (i+1)=some (w5 (r.Body.getD i default).Atom.Args (a0u s (r.Body.getD i default).Atom.Name).1.Rows now):=by
 rw[a0z,hj,q3J,hk,W4,V0 hl];rfl
def b4K{r:c6}{s:d6}{i:Nat}{now:List c9}(hj:a0z r s i=some now)(hk:((r.Body.getD i default).Kind==1)=false):a0z r s (i+1)=some now:=by
 rw[a0z,hj,q3J,hk];rfl
def c1o{r:c6}{s:d6}{now:List c9}(hj:a0z r s r.Body.length=some now):a0H r s=(now,true):=by rw[a0H,hj]
def b0B{r:c6}{s:d6}{n:Nat}{now:List c9}(h:a0z r s n=some now):now.length<=2000:=by
 induction n generalizing now with
 | zero=>simp only[a0z,W0]at h;subst h;simp
 | succ n ih=>
   rw[a0z]at h;obtain⟨d,h1,h2⟩:=q1W.1 h;cases hk:(r.Body.getD n default).Kind==1 with
   | false=>rw[hk,W6,W0]at h2;subst h2;exact ih h1
   | true=>
     rw[hk,W4]at h2;by_cases hl:(w5 (r.Body.getD n default).Atom.Args (a0u s (r.Body.getD n default).Atom.Name).1.Rows d).length<=2000
     ·rw[V0 hl,W4,W0]at h2;subst h2;exact hl
     ·rw[V3 hl]at h2;cases h2
def ExtB(b c:List c4):Prop:=∀s x,Back b s x->Back c s x
def ExtB.refl(b:List c4):ExtB b b:=fun _ _ h=>h
def ExtB.trans{b c d:List c4}(h1:ExtB b c)(h2:ExtB c d):ExtB b d:=fun s x h=>h2 s x (h1 s x h)
def c0X(vs:List (List UInt8))(t:d4):List (List UInt8):=bif t.Var==[]then vs else a0f Op.bytesLess vs t.Var
def c9J{b c:List c4}{t:d4}{v:d5}(h:b6K b t v=some c):c.map c4.Var=c0X (b.map c4.Var) t:=by
 rcases a8s h with⟨rfl,h1⟩|⟨rfl,h1,h2⟩
 ·rw[c0X];cases ht:t.Var==[]with
  | true=>rfl
  | false=>
    unfold Back at h1;rw[k8,ht,W6]at h1;rw[W6,a0f,if_pos (d0n.1 (by rw[h1]))]
 ·rw[c0X,h1,W6,a1S v (a3Y h2)]
def c1j{b:List c4}{args:List d4}{vs:List d5}:∀{n:Nat} {c:List c4},n<=args.length->a2g b args vs n=some c->c.map c4.Var=(args.take n).foldl c0X (b.map c4.Var)
 | 0,c,_,h=>by
   simp only[a2g,W0]at h;subst h;rfl
 | n+1,c,hn,h=>by
   rw[a2g]at h;obtain⟨d,h1,h2⟩:=q1W.1 h;rw[l6 default (by omega),q3P,<-c1j (by omega) h1,c9J h2];rfl
structure FitFact(args:List d4)(e:c9)(row:d3)(c:c9):Prop where
 len:args.length=row.V.length
 back:∀i,i<args.length->Back c.Binds (args.getD i default) (row.V.getD i default)
 ext:ExtB e.Binds c.Binds
 dom:c.Binds.map c4.Var=args.foldl c0X (e.Binds.map c4.Var)
 ok:EnvS e.Binds->args.all s6=true->row.V.all k9=true->EnvS c.Binds
 lenB:c.Binds.length<=e.Binds.length+args.length
def a2h{args:List d4}{e:c9}{row:d3}{c:c9}(h:b4t args e row=some c):FitFact args e row c:=by
 cases h2:(a4Q e args row).2 with
 | false=>rw[b9g h2]at h;cases h
 | true=>
   rw[b4u h2,W0]at h;subst h;obtain⟨hl,hf⟩:=fitR_on h2;refine⟨hl,(b0y hf).1,(b0y hf).2, ?_,fun hE ha hv=>hE.fits ha hv (q0A _) (by omega) hf,a9k hf⟩;rw[c1j (q0A _) hf,List.take_length]
def c7u{l:List c4}(hn:(l.map c4.Var).Nodup){b:c4}(hb:b∈l):l.find? (fun x=>x.Var==b.Var)=some b:=by
 induction l with
 | nil=>cases hb
 | cons a l ih=>
   rw[V8,q1B]at hn;rw[q3Q];rcases q0C.1 hb with rfl|hb
   ·rw[beq_self_eq_true]
   ·have:(a.Var==b.Var)=false:=beq_eq_false_iff_ne.2 fun e=>hn.1 (e▸q1E.2 ⟨b,hb,rfl⟩)
    rw[this];exact ih hn.2 hb
def c2h{v:List UInt8}(h:a4e v=true):(v==[])=false:=by
 cases v with
 | nil=>revert h;decide
 | cons a v=>rfl
def EnvS.nodup{l:List c4}(h:EnvS l):(l.map c4.Var).Nodup:=SS.nodup a0e h.2
def EnvS.at{l:List c4}(h:EnvS l){b:c4}(hb:b∈l):y4 ⟨l⟩ b.Var=(b.Val,true):=by
 rw[a2v,c7u h.nodup hb]
def c5p{a b c:List c4}(ha:EnvS a)(hb:EnvS b)(hv:a.map c4.Var=b.map c4.Var)(h1:ExtB a c)(h2:ExtB b c):a=b:=by
 have key:∀{l:List c4},EnvS l->ExtB l c->l=(l.map c4.Var).map fun v=>⟨v,(y4 ⟨c⟩ v).1⟩:=by
  intro l hl he;rw[q5E];refine(List.map_id _).symm.trans (q3H fun b hb=>?_);have h3:=he ⟨b.Var,default⟩ b.Val (by
   unfold Back;rw[k8];simp only[c2h (hl.1 b hb).1,W6];exact hl.at hb)
  unfold Back at h3;rw[k8]at h3;simp only[c2h (hl.1 b hb).1,W6]at h3;simp only[Function.comp,h3,id]
 rw[key ha h1,key hb h2,hv]
structure Alk(vs:List (List UInt8))(l:List c9):Prop where
 nd:l.Nodup
 ok:∀e∈l,EnvS e.Binds
 dom:∀e∈l,e.Binds.map c4.Var=vs
def c9d{c:List c4}{args:List d4}{row row':d3}(hl:args.length=row.V.length)(hl':args.length=row'.V.length)(h:∀i,i<args.length->Back c (args.getD i default) (row.V.getD i default))(h':∀i,i<args.length->Back c (args.getD i default) (row'.V.getD i default)):row=row':=by
 have:=(b0w hl h).symm.trans (b0w hl' h');exact(Prod.mk.inj this).1
def Alk.stage{vs:List (List UInt8)}{l:List c9}{args:List d4}{rows:List d3}(h:Alk vs l)(ha:args.all s6=true)(hr:rows.Nodup)(hv:∀x∈rows,x.V.all k9=true):Alk (args.foldl c0X vs) (w5 args rows l):=by
 have mem:∀{c:c9},c∈w5 args rows l->∃e∈l,∃row∈rows,b4t args e row=some c:=by
  intro c hc;obtain⟨e,he,hc⟩:=q2I.1 hc;obtain⟨row,hrow,hf⟩:=q3V.1 hc;exact⟨e,he,row,hrow,hf⟩
 refine⟨?_,fun c hc=>?_,fun c hc=>?_⟩
 ·unfold List.Nodup;rw[w5,List.pairwise_flatMap];refine⟨fun e he=>?_, ?_⟩
  ·rw[a3Z,List.pairwise_filterMap];refine List.Pairwise.imp ?_ hr;intro x y hxy c hc d hd hcd;subst hcd;have f1:=a2h hc;have f2:=a2h hd;exact hxy (c9d f1.len f2.len f1.back f2.back)
  ·refine List.Pairwise.imp_of_mem ?_ h.nd;intro e e' he he' hne c hc d hd hcd;subst hcd;obtain⟨_,_,hf⟩:=q3V.1 hc;obtain⟨_,_,hf'⟩:=q3V.1 hd;have f1:=a2h hf;have f2:=a2h hf';have:=c5p (h.ok e he) (h.ok e' he') ((h.dom e he).trans (h.dom e' he').symm) f1.ext f2.ext;exact hne (by cases e;cases e';simp_all)
 ·obtain⟨e,he,row,hrow,hf⟩:=mem hc;exact(a2h hf).ok (h.ok e he) ha (hv row hrow)
 ·obtain⟨e,he,row,hrow,hf⟩:=mem hc;rw[(a2h hf).dom,h.dom e he]
end Go.Aw
