/- A round of the views of a level. No condition. -/
import Derived.Test.YtmcaephohoicnaaGreatvcT45
namespace Go.Aw
open Go.Proofs
attribute [local irreducible] aft blk lpK retK AW A0c
set_option linter.all false
set_option maxRecDepth 100000
set_option maxHeartbeats 4000000
attribute [local irreducible] RM
def isV (p:c4) (v:List UInt8) (r:c7):Bool:=(r.Kind==1&&a0m p r.Head.Name==3)&&r.Head.Name==v
noncomputable def a0x (p:c4) (s:c8) (v:List UInt8) (L:List c7):List d3:=L.flatMap fun r=>bif isV p v r then (z6 r s).1.Rows else []
noncomputable def hdOk (p:c4) (s:c8) (v:List UInt8) (L:List c7):Bool:=L.all fun r=>!isV p v r || (z6 r s).2
noncomputable def a2U (p:c4) (s:c8) (v:List UInt8):List d3:=(t7 s v).1.Rows++a0x p s v p.Rules
noncomputable def b3Q (p:c4) (s:c8) (v:List UInt8):Bool:=hdOk p s v p.Rules&&(a8d (u5 p v) (a2U p s v)).2
noncomputable def b9A (p:c4) (s:c8) (v:List UInt8):e7:=(a8d (u5 p v) (a2U p s v)).1
noncomputable def a3P (p:c4) (s:c8) (n:Int) (o:List c9) (l:d8):List c9:=bif l.N==n then a1H o l.Name ⟨l.Name,b9A p s l.Name⟩ else o
noncomputable def a8b (p:c4) (s:c8) (n:Int) (L:List d8):List c9:=L.foldl (a3P p s n) s.Rels
noncomputable def a7b (p:c4) (s:c8) (n:Int) (L:List d8):Bool:=L.all fun l=>!(l.N==n) || b3Q p s l.Name
noncomputable def o5 (p:c4) (L:List d8) (s:c8) (n:Int):c8×Bool:=bif a7b p s n L&&decide (((a8b p s n L).length:Int)<=24) then (⟨a8b p s n L⟩,true) else (default,false)
def b9U {p:c4} {s:c8} {n:Int} {o:List c9} {l:d8} (h:(l.N != n)=true):a3P p s n o l=o:=by
 rw [a3P,show (l.N==n)=false by simpa [bne] using h];rfl
def c2N {p:c4} {s:c8} {n:Int} {o:List c9} {l:d8} (h:(l.N != n)=false):a3P p s n o l=a1H o l.Name ⟨l.Name,b9A p s l.Name⟩:=by
 rw [a3P,show (l.N==n)=true by simpa [bne] using h];rfl
def a8u {p:c4} {s:c8} {n:Int} {L:List d8} {i:Nat} (h:i < L.length):a8b p s n (L.take (i+1))=a3P p s n (a8b p s n (L.take i)) (L.getD i default):=by
 rw [i3 default h,a8b,q2X];rfl
def d3R {l:List c9} (hs:SS sLt (l.map c9.Name)) (n:List UInt8) (r:e7):SS sLt ((a1H l n ⟨n,r⟩).map c9.Name)/\(a1H l n ⟨n,r⟩).length<=l.length+1:=by
 have h:=b9R hs n r;refine ⟨by rw [h];exact hs.put l9 n, ?_⟩;have h2:=congrArg List.length h;rw [q0E] at h2;rw [h2];have:=d1z sLt (l.map c9.Name) n;rw [q0E] at this;omega
def a9Y (p:c4) {s:c8} (n:Int) (hs:SS sLt (s.Rels.map c9.Name)):∀ L:List d8,SS sLt ((a8b p s n L).map c9.Name)/\(a8b p s n L).length<=s.Rels.length+L.length:=by
 intro L;rw [a8b]
 suffices h:∀ (L:List d8) (o:List c9),SS sLt (o.map c9.Name)->SS sLt ((L.foldl (a3P p s n) o).map c9.Name)/\(L.foldl (a3P p s n) o).length<=o.length+L.length from h L _ hs
 intro L
 induction L with
 | nil=>intro o ho;exact ⟨ho,q0C _⟩
 | cons l L ih=>
   intro o ho;rw [q2A];have h1:SS sLt ((a3P p s n o l).map c9.Name)/\(a3P p s n o l).length<=o.length+1:=by
    rw [a3P];cases l.N==n with
    | true=>exact d3R ho _ _
    | false=>exact ⟨ho,by simp only [V2];omega⟩
   obtain ⟨h2,h3⟩:=ih _ h1.1;exact ⟨h2,by simp only [V8];omega⟩
def a3Q {s:c8} (h:j4 s=true):SS sLt (s.Rels.map c9.Name):=by
 refine c8i fun i h0 hi=>?_
 rw [q0E] at hi;simp only [j4,W3,q0R] at h;have h2:=a4X.1 h.2 i hi;simp only [a0A,q0Y,q3T,q0Q,q1J] at h2;have e:∀ j,j < s.Rels.length->(s.Rels.map c9.Name).getD j []=(s.Rels.getD j default).Name:=fun j hj=>by
  rw [W7,q3P,V6 hj,W7,V6 hj];rfl
 rw [e _ hi,e _ (by omega)];exact h2.2.resolve_left (by omega)
def a2H {r:e7} (h:a0c r=true):r.Rows.length<=300/\∀ x∈r.Rows,okL x.V/\x.V.length < 1000:=by
 refine ⟨a5C h,fun x hx=>?_⟩;obtain ⟨i,hi,rfl⟩:=q1P hx;have h1:=a1v h hi;have h2:=b9L h hi;rw [i8 default hi] at h1 h2;exact ⟨h1,by omega⟩
def a5E (a:Int) (rows:List d3):(a8d a rows).1.Rows.length<=300/\∀ x∈(a8d a rows).1.Rows,x∈rows:=by
 rw [a8d];cases h:decide (300 < ((Lib.compact (a1m p7 rows)).length:Int)) with
 | true=>exact ⟨q3A _,fun x hx=>by cases hx⟩
 | false=>
   have h1:=of_decide_eq_false h;exact ⟨by show (Lib.compact (a1m p7 rows)).length<=300;omega,fun x hx=>b3T.1 (b4v.1 hx)⟩
def b4t {r:c7} {s:c8} (hr:j6 r=true) (hs:j4 s=true):(z6 r s).1.Rows.length<=300/\∀ x∈(z6 r s).1.Rows,okL x.V/\x.V.length < 1000:=by
 rw [z6];cases (l7 r s).2 with
 | false=>exact ⟨q3A _,fun x hx=>by cases hx⟩
 | true=>exact ⟨(a5E _ _).1,fun x hx=>(b1W hr hs).2 x ((a5E _ _).2 x hx)⟩
@[go_sem] def hdRows_nil (p:c4) (s:c8) (v:List UInt8):a0x p s v []=[]:=rfl
def b4s (p:c4) (s:c8) (v:List UInt8) {L:List c7} {j:Nat} (h:j < L.length):a0x p s v (L.take (j+1))=a0x p s v (L.take j)++(bif isV p v (L.getD j default) then (z6 (L.getD j default) s).1.Rows else []):=by
 rw [i3 default h,a0x,a0x,q4B];simp
def a3f (p:c4) {s:c8} (hs:j4 s=true) (v:List UInt8):∀ {L:List c7},(∀ r∈L,j6 r=true)->(a0x p s v L).length<=300 * L.length/\∀ x∈a0x p s v L,okL x.V/\x.V.length < 1000
 | [],_=>⟨q0C _,fun x hx=>by cases hx⟩
 | r::L,h=>by
   have h1:=a3f p hs v (L:=L) fun r hr=>h r (by simp [hr])
   have h2:=b4t (h r (by simp)) hs;have e:a0x p s v (r::L)=(bif isV p v r then (z6 r s).1.Rows else [])++a0x p s v L:=by simp [a0x]
   rw [e];cases isV p v r with
   | true=>
     rw [W9];refine ⟨by rw [V3,V8];omega,fun x hx=>?_⟩;rcases W8.1 hx with hx | hx
     ·exact h2.2 x hx
     ·exact h1.2 x hx
   | false=>exact ⟨by simp only [V2,q1K,V8];omega,fun x hx=>h1.2 x (by simpa using hx)⟩
def d5Y {p:c4} {v:List UInt8} {r:c7} (h:(r.Kind==1&&a0m p r.Head.Name==3)=false\/(r.Head.Name==v)=false):isV p v r=false:=by
 rw [isV];rcases h with h | h<;>rw [h]<;>simp
def c3L {p:c4} {v:List UInt8} {r:c7} (h:((r.Kind==1)=true/\(a0m p r.Head.Name==3)=true)/\(r.Head.Name==v)=true):isV p v r=true:=by
 rw [isV,h.1.1,h.1.2,h.2];rfl
def a8v {p:c4} {L:List d8} {s:c8} {n:Int} {m:Nat} (hm:m < L.length) (hc:((L.getD m default).N != n)=false) (h:b3Q p s (L.getD m default).Name=false):o5 p L s n=(default,false):=by
 rw [o5,a7b,all_false (d:=default) hm (by rw [show ((L.getD m default).N==n)=true by simpa [bne] using hc,h];rfl)];rfl
def d1r {p:c4} {s:c8} {v:List UInt8} {j:Nat} (hj:j < p.Rules.length) (h1:isV p v (p.Rules.getD j default)=true) (h2:(z6 (p.Rules.getD j default) s).2=false):b3Q p s v=false:=by
 rw [b3Q,hdOk,all_false (d:=default) hj (by rw [h1,h2];rfl)];rfl
def c9T {p:c4} {s:c8} {n:Int} {L:List d8} {i:Nat} (h:i < L.length) (ha:a7b p s n (L.take i)=true) (hc:((L.getD i default).N != n)=true):a7b p s n (L.take (i+1))=true:=
 z8 (p:=fun l:d8=>!(l.N==n) || b3Q p s l.Name) default h ha (by rw [show ((L.getD i default).N==n)=false by simpa [bne] using hc];rfl)
def b8L (r:c7) (s:c8) (hpre:j6 r=true/\j4 s=true):A0c Tryz.prog 48 [(true,[.i .i64 r.Kind,.s r.Head.Name,j8 r.Head.Args,y4 r.Body]),(true,[i5 s.Rels])] [] (.tup [(true,[.i .i64 (((z6 r s).1).Arity),w4 (((z6 r s).1).Rows)]),(false,[.b ((z6 r s).2)])]):=by
 exact a5H (b1A r s hpre) (by simp only [go_sem,R.free,List.map])
noncomputable def a7s:CT:=k9 (fun (x:c7×c8) h=>b8L x.1 x.2 h)
@[go_sem] def d0l:=fun x0 x1 x2 x3 x4=>nm' (fP' a7s rfl (⟨x0,⟨x1,x2⟩,x3⟩,⟨x4⟩))
def c4d (p:c4) (levels:List d8) (s:c8) (n:Int) (hpre:y9 p=true/\j4 s=true/\levels.length<=100):A0c Tryz.prog 204 [(true,[l4 p.Decls,l3 p.Rules]),(false,[a8n levels]),(true,[i5 s.Rels]),(false,[.i .i64 n])] [] (.tup [(true,[i5 (((o5 p levels s n).1).Rels)]),(false,[.b ((o5 p levels s n).2)])]):=by
 refine sx' false true none Tryz.func204 (q' 4 [ao (.box 2 (.t 0)),ax (o' 6 (.box 1 (.t 2))),ax (w' 8 [.sl i6]),ab 9 false] (q' 10 [ax (e' 22 1 6),aw [.sl i6],aS 1 10 22] (.seq (q' 23 [am 1,aN,aK 0] (.block 0 (.loop (q' 26 [ar 25 24] (.seq (.cond (.t 26) .skip (.exit 0)) (.seq (.block 1 (q' 27 [ai 2 23 25,aE 2,ax (w' 12 [.s,.i .i64]),aS 2 12 28] (.seq (q' 29 [aG 1 12,am 3,ao (.bin .neq (.t 30) (.t 31))] (.cond (.t 32) (.exit 1) .skip)) (q' 34 [ae 1 6,aG 0 12,ac 235 [34,36],aV 33,ao (.ext (.t 33) 0),ao (.ext (.t 33) 1),ax (w' 13 [.i .i64,.sl l6]),aS 2 13 38,aV 14] (q' 40 [aG 1 13,aV 15] (.seq (q' 42 [aG 1 4,aN,aK 0] (.block 2 (.loop (q' 46 [ar 45 44] (.seq (.cond (.t 46) .skip (.exit 2)) (.seq (.block 3 (q' 47 [ai 4 43 45,aE 4,ax (w' 17 [.i .i64,.s,.sl i7,.sl b2g]),aS 4 17 48] (.seq (q' 49 [ae 2 4,ae 4 17,ac 252 [49,50],ao (.not (.t 51)),am 52,au (.fa 1 (.t 17)) 53 false,au (.fa 0 (.t 54)) 53 false,au (.ld false 1 (.t 55)) 53 false,au (.fa 0 (.t 12)) 53 false,au (.ld false 1 (.t 57)) 53 false,au (.bin .neq (.t 56) (.t 58)) 53 false,ao (.pick (.t 53) (bb true) (.t 59))] (.cond (.t 60) (.exit 3) .skip)) (q' 62 [ae 4 17,ae 1 6,ac 48 [62,63],aV 61,ao (.ext (.t 61) 0),ao (.ext (.t 61) 1),ax (w' 18 [.i .i64,.sl l6]),aS 2 18 65,aV 19] (.seq (q' 67 [am 19,ao (.not (.t 67))] (.cond (.t 68) (q' 69 [ao (.bld [.sl i6] []),aS 1 8 69,ab 9 false] .ret) .skip)) (.rego [(true,0,m' 70 15),(true,1,m' 71 15),(true,2,n' 72 71),(true,3,m' 73 15),(true,4,n' 74 73),(true,6,f' 76 1 18),(true,7,l' 77 76),(false, 5,o' 75 (.slc 1 (.t 70) none (some (.t 72)) (some (.t 74)))),(false,8,o' 78 (.app 1 24 [.sl l5] (.t 75) (.t 77))),(false,9,m' 15 78)] [36,37])))))) (g' 79 [aA 45]))))))) (q' 81 [ae 2 4,aG 0 12,ac 264 [81,83],am 15,ac 108 [84,85],aV 80,ao (.ext (.t 80) 0),ao (.ext (.t 80) 1),ax (w' 20 [.i .i64,.sl l6]),aS 2 20 87,aV 21] (.seq (q' 89 [am 21,ao (.not (.t 89))] (.cond (.t 90) (q' 91 [ao (.bld [.sl i6] []),aS 1 8 91,ab 9 false] .ret) .skip)) (g' 92 [ae 1 10,aG 0 12,ae 2 20,ac 203 [92,94,95],aS 1 10 96]))))))))) (g' 97 [aA 25]))))))) (.seq (q' 98 [aG 0 10,aN,ao (.bin .gtr (.t 100) (k' 24))] (.cond (.t 101) (q' 102 [ao (.bld [.sl i6] []),aS 1 8 102,ab 9 false] .ret) .skip)) (q' 103 [ae 1 10,aS 1 8 103,ab 9 true] .ret))))) [.c 8 true 1,.t 9] [(235,[],a3d),(252,[],a1N),(48,[],a7s),(264,[],a1L),(108,[],a7v),(203,[],a8T)] ?_;intro hb hE;obtain ⟨hg,hs,hL⟩:=hpre;have hSS:=a3Q hs;have hsl:s.Rels.length<=24:=by
  have:=hs;simp only [j4,W3,q0B] at this;omega
 have hP:=a5X (a0y (z5 hg));simp only [go_sem];repeat' first | apply cj' | intro hc | exact om' | fail
 refine lq' false [3,4,6,8,10,23,24] [8,12,37] [] (fun i:{i:Nat // i<=levels.length/\a7b p s n (levels.take i)=true}=>[(25,slV (.i .i64 i.1))]) (fun i=>[(20,[.c (i5 (a8b p s n (levels.take i.1)))]),(16,[.nl i6])]) nl' (fun i=>levels.length - i.1) (⟨0,by simp [a7b]⟩) ?_;intro S0 hS0 i;obtain ⟨m,hi,ha⟩:=i;have hO:=a9Y p n hSS (levels.take m);rw [V1] at hO;simp only [go_sem,hS0];repeat' first | apply cj' | intro hc | exact om' | fail
 ·(refine lpK_n2 (⟨m+1,by omega,c9T (by omega) ha hc⟩) _ rfl ?_;simp only [go_sem,hS0]<;>repeat' first | apply V0 | exact on' | fail)
  all_goals rw [a8u (by omega),b9U hc]
 ·skip
  generalize hv:levels.getD m default=lv at hc ⊢;refine lq' false [3,4,6,8,10,12,23,24,25,43,44] [8,12,20,24,37] [] (fun i:{j:Nat // j<=p.Rules.length/\hdOk p s lv.Name (p.Rules.take j)=true}=>[(15,.v false [.c (w4 ((t7 s lv.Name).1.Rows++a0x p s lv.Name (p.Rules.take i.1)))]),(45,slV (.i .i64 i.1))]) (fun i=>[(16,[.nl i6])]) nl' (fun i=>p.Rules.length - i.1) (⟨0,by simp [hdOk]⟩) ?_;intro S1 hS1 i;obtain ⟨j,hj,hb2⟩:=i;have hv2:=a2H (a0o hs lv.Name);have hR:=fun (h:j < p.Rules.length)=>hP.1 _ (t8 (l:=p.Rules) default h)
  have hH:=a3f p hs lv.Name (L:=p.Rules.take j) fun r hr=>hP.1 r (q1Y hr)
  rw [V1] at hH;have hHI:=fun (h:j < p.Rules.length)=>(b4t (hR h) hs).1
  have hsn:=fun (h:j < p.Rules.length)=>b4s p s lv.Name h
  simp only [go_sem,hS0,hS1];repeat' first | apply cj' | intro hc | exact om' | fail
  ·(refine lpK_n2 (⟨j+1,by omega,z8 (p:=fun r:c7=>!isV p lv.Name r || (z6 r s).2) default (by omega) hb2 (by rw [d5Y hc];rfl)⟩) _ rfl ?_;simp only [go_sem,hS0,hS1]<;>repeat' first | apply V0 | exact on' | fail)
   all_goals (rw [hsn (by omega),d5Y hc,V2,q0D])
  ·exact ⟨hR (by omega),hs⟩
  ·rename_i h1 h2 h3;rw [a8v (m:=m) (by omega) (by rw [hv];exact h1) (by rw [hv];exact d1r (j:=j) (by omega) (c3L h3) hc)];exact ⟨rfl,rfl⟩
  ·rename_i h3
   (refine lpK_n2 (⟨j+1,by omega,z8 (p:=fun r:c7=>!isV p lv.Name r || (z6 r s).2) default (by omega) hb2 (by rw [c3L h3,hc];rfl)⟩) _ rfl ?_;simp only [go_sem,hS0,hS1]<;>repeat' first | apply V0 | exact on' | fail)
   all_goals (rw [hsn (by omega),c3L h3,W9,q0P])
  ·refine ⟨by omega,fun x hx=>?_⟩;rcases W8.1 hx with hx | hx
   ·exact hv2.2 x hx
   ·exact hH.2 x hx
  ·rename_i h1 h2 h3;rw [f8 (by omega)] at hc hb2;rw [a8v (m:=m) (by omega) (by rw [hv];exact h2) (by rw [hv,b3Q,hb2,a2U,hc];rfl)];exact ⟨rfl,rfl⟩
  ·exact ⟨hO.1,by omega⟩
  ·rename_i h1 h2 h3;rw [f8 (by omega)] at hc hb2
   (refine lpK_n2 (⟨m+1,by omega,z8 (p:=fun l:d8=>!(l.N==n) || b3Q p s l.Name) default (by omega) ha (by rw [hv,b3Q,hb2,a2U,hc];simp)⟩) _ rfl ?_;simp only [go_sem,hS0,hS1]<;>repeat' first | apply V0 | exact on' | fail)
   all_goals (rw [a8u (by omega),hv,c2N h2,b9A,a2U,show p.Rules.take j=p.Rules from f8 (by omega)])
 ·have h2:a7b p s n levels=true:=by rwa [f8 (by omega)] at ha
  rw [f8 (by omega)] at hc;rw [o5,h2,V7 (by omega)];exact ⟨rfl,rfl⟩
 ·have h2:a7b p s n levels=true:=by rwa [f8 (by omega)] at ha
  rw [f8 (by omega)] at hc ⊢;rw [o5,h2,V5 (by omega)];exact ⟨rfl,rfl⟩
noncomputable def b0W:CT:=k9 (fun (x:c4×(List d8)×c8×Int) h=>c4d x.1 x.2.1 x.2.2.1 x.2.2.2 h)
@[go_sem] def d4w:=fun x0 x1 x2 x3 n=>nm' (fP' b0W rfl (⟨x0,x1⟩,x2,⟨x3⟩,n))
def nilR:List d3:=[]
@[go_sem] def l10Copy_nil (a:Int):a0W [(true,[.i .i64 a,.sl false l6 []])]=some (True,[],.one (true,[.i .i64 a,w4 nilR])):=by
 have h:=b1k a [];simpa [nilR] using h
def c4B {r:e7} (h:a0c r=true):SS p7 r.Rows:=by
 refine q2L.2 fun i j hi hj hij=>?_
 have h1:=c4C h hij hj;have h2:=a1v h hi;have h3:=a1v h hj;rw [i8 default hi] at h1 h2;rw [i8 default hj] at h1 h3;rw [<- b6B h2 h3,h1];rfl
def a5D {a:Int} {l r:List d3} (h:SS p7 l):a8d a (l++r)=bif decide (300 < ((k7 p7 l r).length:Int)) then (default,false) else (⟨a,k7 p7 l r⟩,true):=by
 have e:Lib.compact (a1m p7 (l++r))=k7 p7 l r:=a3e a3j (h.puts a3j) fun x=>by rw [m8,W8]
 rw [a8d,e]
def b3h (r:c7) (s:c8):(z6 r s).2=((l7 r s).2&&!decide (300 < ((a1W r s).Rows.length:Int)))/\((z6 r s).2=true->(z6 r s).1.Rows=(a1W r s).Rows):=by
 rw [z6,a1W];cases (l7 r s).2 with
 | false=>exact ⟨rfl,fun h=>by cases h⟩
 | true=>
   rw [W9,a8d,c3t];cases decide (300 < ((k7 p7 [] (a2Y r s)).length:Int)) with
   | true=>exact ⟨rfl,fun h=>by cases h⟩
   | false=>exact ⟨rfl,fun _=>rfl⟩
def arOk (p:c4) (s:c8):Prop:=∀ x∈s.Rels,a0f p x.Name=true->x.Rel.Arity=u5 p x.Name
def c6U {s:c8} {v:List UInt8} (h:(t7 s v).2=false):(t7 s v).1.Rows=[]:=by
 unfold t7 at h ⊢;split
 ·rename_i e;rw [if_pos e] at h;cases h
 ·rfl
def c6T {s:c8} {v:List UInt8} (h:(t7 s v).2=true):∃ x∈s.Rels,x.Name=v/\(t7 s v).1=x.Rel:=by
 unfold t7 at h ⊢;split
 ·rename_i e;have ha:s.Rels.any (fun x:c9=>x.Name==v)=true:=by rw [<- a0K];exact V5 e
  have e2:=d5V ha;have hlt:s.Rels.findIdx (fun x:c9=>x.Name==v) < s.Rels.length:=by
   have:=d1j (p:=fun x:c9=>x.Name==v) (l:=s.Rels);omega
  have hp:=List.findIdx_getElem (p:=fun x:c9=>x.Name==v) (xs:=s.Rels) (w:=hlt);rw [e2,q4H,i8 default hlt];exact ⟨_,q1A hlt,by simpa using hp,rfl⟩
 ·rename_i e;rw [if_neg e] at h;cases h
def d5T {p:c4} {s:c8} {v:List UInt8} (l:List d3) {L:List c7} {j:Nat} (h:j < L.length):k7 p7 l (a0x p s v (L.take (j+1)))=k7 p7 (k7 p7 l (a0x p s v (L.take j))) (bif isV p v (L.getD j default) then (z6 (L.getD j default) s).1.Rows else []):=by
 rw [b4s p s v h,k7,k7,k7,q2X]
def c9K (l:List d3) {r:List d3} {k:Nat} (h:k < r.length):k7 p7 l (r.take (k+1))=a0F p7 (k7 p7 l (r.take k)) (r.getD k default):=by
 rw [i3 default h,k7,k7,q2X];rfl
def d3J {p:c4} {s:c8} (hP:∀ r∈p.Rules,j6 r=true) (hs:j4 s=true) (n:Int):∀ L:List d8,∀ x∈a8b p s n L,x.Rel.Rows.length<=300/\∀ y∈x.Rel.Rows,okL y.V/\y.V.length < 1000:=by
 intro L;rw [a8b]
 suffices h:∀ (L:List d8) (o:List c9),(∀ x∈o,x.Rel.Rows.length<=300/\∀ y∈x.Rel.Rows,okL y.V/\y.V.length < 1000)->∀ x∈L.foldl (a3P p s n) o,x.Rel.Rows.length<=300/\∀ y∈x.Rel.Rows,okL y.V/\y.V.length < 1000 from h L _ fun x hx=>a2H (a1G hs x hx)
 intro L
 induction L with
 | nil=>intro o ho;exact ho
 | cons l L ih=>
   intro o ho;rw [q2A];refine ih _ fun x hx=>?_
   rw [a3P] at hx;cases hc:l.N==n with
   | false=>rw [hc] at hx;exact ho x hx
   | true=>
     rw [hc,W9] at hx;rcases b1T hx with rfl | hx
     ·refine ⟨(a5E _ _).1,fun y hy=>?_⟩;rcases W8.1 ((a5E _ _).2 y hy) with h | h
      ·exact (a2H (a0o hs l.Name)).2 y h
      ·exact (a3f p hs l.Name hP).2 y h
     ·exact ho x hx
def c6j {r:c7} {s:c8} (hr:j6 r=true) (hs:j4 s=true):∀ x∈(a1W r s).Rows,okL x.V/\x.V.length < 1000:=fun x hx=>
 (b1W hr hs).2 x ((m8.1 hx).resolve_left (by intro h;cases h))
def a8B {p:c4} (hg:y9 p=true) {v:List UInt8} (hv:v∈vwS p):a0f p v=true/\u5 p v=(a0l p v).Arity:=by
 have hd:=(a3N (by simpa using z5 hg)).2.1;obtain ⟨d,hm,hk,rfl⟩:=d1v.1 hv;have h1:a0f p d.Name=true:=by
  rw [a0f,q3C];exact ⟨d,hm,by simp⟩
 refine ⟨h1, ?_⟩;obtain ⟨i,hi,rfl⟩:=q1P hm;have h2:=hd i hi;rw [s8,i8 default hi] at h2;simp only [q0Y] at h2;rw [u5,h2.1.1,h2.1.2,h1];rfl
def d5X {p:c4} (hg:y9 p=true) {v:List UInt8} (hv:v∈vwS p) {j:Nat} (hj:j < p.Rules.length):isV p v (p.Rules.getD j default)=((p.Rules.getD j default).Head.Name==v):=by
 have hN:=a3N (by simpa using z5 hg);rw [isV];cases h:((p.Rules.getD j default).Head.Name==v) with
 | false=>rw [q3G]
 | true=>
   have e:(p.Rules.getD j default).Head.Name=v:=by simpa using h
   have hk:a0m p (p.Rules.getD j default).Head.Name=3:=by rw [e];exact (a1C hN.2.1).2 hv
   rw [hk,b8q hN.2.2 hj hk];rfl
def b6o (p:c4) (levels:List d8) (s:c8) (n:Int) (hpre:y9 p=true/\j4 s=true/\arOk p s/\(∀ l∈levels,l.Name∈vwS p)/\levels.length<=100):A0c Tryz.prog 130 [(true,[l4 p.Decls,l3 p.Rules]),(false,[a8n levels]),(true,[i5 s.Rels]),(false,[.i .i64 n])] [] (.tup [(true,[i5 (((o5 p levels s n).1).Rels)]),(false,[.b ((o5 p levels s n).2)])]):=by
 refine sx' false true none Tryz.func130 (q' 4 [ao (.box 2 (.t 0)),ax (o' 6 (.box 1 (.t 2))),ax (w' 8 [.sl i6]),ab 9 false] (q' 19 [ae 1 6,ac 128 [19],ax (w' 10 [.sl i6]),aS 1 10 20] (.seq (q' 21 [am 1,aN,aK 0] (.block 0 (.loop (q' 24 [ar 23 22] (.seq (.cond (.t 24) .skip (.exit 0)) (.seq (.block 1 (q' 25 [ai 2 21 23,aE 2,ax (w' 12 [.s,.i .i64]),aS 2 12 26] (.seq (q' 27 [aG 1 12,am 3,ao (.bin .neq (.t 28) (.t 29))] (.cond (.t 30) (.exit 1) .skip)) (q' 32 [ae 1 6,aG 0 12,ac 154 [32,34],aV 31,ao (.ext (.t 31) 0),ao (.ext (.t 31) 1),ax (w' 13 [.i .i64,.sl l6]),aS 2 13 36,aV 14] (.seq (q' 38 [am 14,ao (.not (.t 38))] (.cond (.t 39) (g' 40 [ae 2 4,aG 0 12,ac 137 [40,42],ao (.fl false 2 1 (.t 43)),ao (.bld [.i .i64,.sl l6] [(0,1,.t 44)]),aS 2 13 45]) .skip)) (q' 46 [ae 2 13,ac 199 [46],aS 2 13 47] (.seq (q' 48 [aG 1 4,aN,aK 0] (.block 2 (.loop (q' 52 [ar 51 50] (.seq (.cond (.t 52) .skip (.exit 2)) (.seq (.block 3 (q' 53 [am 51,aV 15] (.seq (.seq (G' 54 [aG 1 4,am 15,aI 4,aF 1,aG 0 58,aG 0 12,ao (.bin .neq (.t 60) (.t 62))]) (.cond (.t 63) (.exit 3) .skip)) (.seq (rm' [(true,0,f' 65 1 4), (true,1,l' 66 65),(true,2,m' 67 15),(true,3,i' 68 4 66 67),(true,4,e' 69 4 68),(true,5,e' 70 1 6),(false,6,c' 71 41 [69,70]),(false,7,m' 64 71),(false,8,o' 72 (.ext (.t 64) 0)),(false,9,o' 73 (.ext (.t 64) 1)),(false,10,w' 16 [.i .i64,.sl l6]),(false, 11,s' 2 16 72),(false,12,m' 17 73)] [[0,1,2,3,4,5,6,7,8,10,9,11,12],[0,1,2,3,4,5,6,7,8,10,11,9,12],[0,1,2,3,4,5,6,7,9, 8,10,11,12],[0,1,2,3,4,5,6,7,9,10,8,11,12],[0,1,2,3,4,5,6,7,10,8,9,11,12],[0,1,2,3,4,5,6,7,10,8,11,9,12],[0,1,2, 3,4,5,6,7,10,9,8,11,12],[0,1,2,3,4,5,6,10,7,8,9,11,12],[0,1,2,3,4,5,6,10,7,8,11,9,12],[0,1,2,3,4,5,6,10,7,9,8, 11,12],[0,1,2,3,4,5,10,6,7,8,9,11,12],[0,1,2,3,4,5,10,6,7,8,11,9,12],[0,1,2,3,4,5,10,6,7,9,8,11,12]] [8,9,12,13]) (.seq (q' 74 [am 17,ao (.not (.t 74)),am 75,au (.fa 1 (.t 16)) 76 false,au (.ld false 1 (.t 77)) 76 false,au (.len (.t 78)) 76 false,au (.bin .gtr (.t 79) (k' 300)) 76 false,ao (.pick (.t 76) (bb true) (.t 80))] (.cond (.t 81) (q' 82 [ao (.bld [.sl i6] []),aS 1 8 82,ab 9 false] .ret) .skip)) (q' 83 [aG 1 16,aN,aK 0] (.block 4 (.loop (q' 87 [ar 86 85] (.seq (.cond (.t 87) .skip (.exit 4)) (.seq (.block 5 (q' 88 [am 86,aV 18] (.rego [(true,2,f' 91 1 16),(true,3,l' 92 91),(true,4,m' 93 18),(true,5,i' 94 1 92 93),(true,6,e' 95 1 94),(false,0,f' 89 1 13),(false,1,l' 90 89),(false,7,c' 96 91 [90,95]),(false,8,f' 97 1 13),(false,9,s' 1 97 96)] [32,33]))) (g' 98 [aA 86])))))))))))) (g' 99 [aA 51]))))))) (.seq (q' 100 [aG 1 13,aN,ao (.bin .gtr (.t 102) (k' 300))] (.cond (.t 103) (q' 104 [ao (.bld [.sl i6] []),aS 1 8 104,ab 9 false] .ret) .skip)) (g' 105 [ae 1 10,aG 0 12,ae 2 13,ac 138 [105,107,108],aS 1 10 109]))))))))) (g' 110 [aA 23]))))))) (.seq (q' 111 [aG 0 10,aN,ao (.bin .gtr (.t 113) (k' 24))] (.cond (.t 114) (q' 115 [ao (.bld [.sl i6] []),aS 1 8 115,ab 9 false] .ret) .skip)) (q' 116 [ae 1 10,aS 1 8 116,ab 9 true] .ret))))) [.c 8 true 1,.t 9] [(128,[],a3A),(154,[],a2t),(137,[],a0C),(199,[],a0W),(41,[],a6F),(91,[],a4K),(138,[],a2P)] ?_;intro hb hE;obtain ⟨hg,hs,hA,hV,hL⟩:=hpre;have hSS:=a3Q hs;have hsl:=a1e hs;have hP:=a5X (a0y (z5 hg));have hcp:s.Rels.length<=1000/\∀ x∈s.Rels,x.Rel.Rows.length<=100000/\∀ y∈x.Rel.Rows,y.V.length < 1000:=
  ⟨by omega,fun x hx=>by
   have h:=a2H (a1G hs x hx);exact ⟨by omega,fun y hy=>(h.2 y hy).2⟩⟩
 simp only [go_sem];(repeat' first | apply cj' | intro hc | apply a0B);(all_goals (try (refine (show A3E _ _ _ _ _ _ from ?_);simp only [go_sem] at hc ⊢;simp only [go_sem,A7d,A7h,A6v,A6u,A7c,A6t,nf_put_sub,A7f,A7e,nf_put_susK,nf_put_dip,nf_put_put,A7g,A7b,A6w,n9,n7,m9,n0,n8,nf_sub_sub] at hc ⊢;simp only [hc,q2E,q0W];done)));all_goals try exact om'
 ·exact hcp
 refine lq' false [3,4,6,8,10,21,22] [8,12,9,13,33] [] (fun i:{i:Nat // i<=levels.length/\a7b p s n (levels.take i)=true}=>[(23,slV (.i .i64 i.1))]) (fun i=>[(20,[.c (i5 (a8b p s n (levels.take i.1)))]),(16,[.nl i6])]) nl' (fun i=>levels.length - i.1) (⟨0,by simp [a7b]⟩) ?_;intro S0 hS0 i;obtain ⟨m,hi,ha⟩:=i;have hO:=a9Y p n hSS (levels.take m);rw [V1] at hO;simp only [go_sem,hS0];(repeat' first | apply cj' | intro hc | apply a0B);(all_goals (try (refine (show A3E _ _ _ _ _ _ from ?_);simp only [go_sem,hS0] at hc ⊢;simp only [go_sem,hS0,A7d,A7h,A6v,A6u,A7c,A6t,nf_put_sub,A7f,A7e,nf_put_susK,nf_put_dip,nf_put_put,A7g,A7b,A6w,n9,n7,m9,n0,n8,nf_sub_sub] at hc ⊢;simp only [hc,q2E,q0W];done)));all_goals try exact om'
 ·(refine lpK_n2 (⟨m+1,by omega,c9T (by omega) ha hc⟩) _ rfl ?_;simp only [go_sem,hS0]<;>repeat' first | apply V0 | exact on' | fail)
  all_goals rw [a8u (by omega),b9U hc]
 rotate_left
 ·have h:=a2H (a0o hs (levels.getD m default).Name);exact ⟨by omega,fun x hx=>(h.2 x hx).2⟩
 rotate_left
 ·have h2:a7b p s n levels=true:=by rwa [f8 (by omega)] at ha
  rw [f8 (by omega)] at hc;rw [o5,h2,V7 (by omega)];exact ⟨rfl,rfl⟩
 ·have h2:a7b p s n levels=true:=by rwa [f8 (by omega)] at ha
  rw [f8 (by omega)] at hc ⊢;rw [o5,h2,V5 (by omega)];exact ⟨rfl,rfl⟩
 all_goals have hvw:=hV _ (t8 (l:=levels) (i:=m) default (by omega))
 all_goals have hAr:=a8B hg hvw
 all_goals first
  | rw [show nilR=(t7 s (levels.getD m default).Name).1.Rows from (c6U hc).symm,<- hAr.2]
  | (obtain ⟨y,hy1,hy2,hy3⟩:=c6T hc
     rw [show (t7 s (levels.getD m default).Name).1.Arity=u5 p (levels.getD m default).Name by rw [hy3,hA y hy1 (by rw [hy2];exact hAr.1),hy2]])
 all_goals clear hc
 all_goals rename_i hc
 all_goals have hmlt:m < levels.length:=by omega
 all_goals generalize hv:levels.getD m default=lv at hc hvw hAr ⊢
 all_goals (
  skip
  refine lq' false [3,4,6,8,10,12,13,21,22,23,50] [8,12,20,24,9,13,33] [] (fun i:{j:Nat // j<=p.Rules.length/\hdOk p s lv.Name (p.Rules.take j)=true}=>[(51,slV (.i .i64 i.1))]) (fun i=>[(26,[.c (.i .i64 (u5 p lv.Name)),.c (w4 (k7 p7 (t7 s lv.Name).1.Rows (a0x p s lv.Name (p.Rules.take i.1))))]),(16,[.nl i6])]) nl' (fun i=>p.Rules.length - i.1) (⟨0,by simp [hdOk]⟩) ?_;intro S1 hS1 i;obtain ⟨j,hj,hb2⟩:=i;have hv2:=a2H (a0o hs lv.Name);have hR:=fun (h:j < p.Rules.length)=>hP.1 _ (t8 (l:=p.Rules) default h)
  have hH:=a3f p hs lv.Name (L:=p.Rules.take j) fun r hr=>hP.1 r (q1Y hr)
  rw [V1] at hH;have hsn:=fun (h:j < p.Rules.length)=>d5T (p:=p) (s:=s) (v:=lv.Name) (t7 s lv.Name).1.Rows h
  have hNm:=fun (h:j < p.Rules.length)=>d5X hg hvw h
  have hpl:=a0t p7 (a0x p s lv.Name (p.Rules.take j)) (t7 s lv.Name).1.Rows;have hpm:∀ x∈k7 p7 (t7 s lv.Name).1.Rows (a0x p s lv.Name (p.Rules.take j)),okL x.V/\x.V.length < 1000:=fun x hx=>(m8.1 hx).elim (hv2.2 x) (hH.2 x)
  simp only [go_sem,hS0,hS1];(repeat' first | apply cj' | intro hc | apply a0B);(all_goals (try ((first | refine c5d (i4 0 9 (W5 rfl) rfl ?_ (i4 0 10 (W5 rfl) rfl ?_ (i4 2 8 (W5 rfl) rfl ?_ (i4 0 9 (W5 rfl) rfl ?_ (i4 3 8 (W5 rfl) rfl ?_ (i4 0 10 (W5 rfl) rfl ?_ (i4 1 9 (W5 rfl) rfl ?_ (i4 2 7 (W5 rfl) rfl ?_ (i4 0 10 (W5 rfl) rfl ?_ (i4 1 9 (W5 rfl) rfl ?_ (i4 2 6 (W5 rfl) rfl ?_ (i4 0 10 (W5 rfl) rfl ?_ (i4 1 9 (W5 rfl) rfl ?_ b6J))))))))))))))<;>(intro S hS B0 hB;simp only [go_sem,hS0,hS1,q1G,q1X,q0G,q1B,q0I,q0T,q1I,q1K] at hS hB;(repeat (first | replace hS:=And.right hS | replace hS:=CJ.r hS));have Rr69:=congrArg (fun s:St=>s.sl 69) hS;have Rr70:=congrArg (fun s:St=>s.sl 70) hS;have Rr71:=congrArg (fun s:St=>s.sl 71) hS;have Rr64:=congrArg (fun s:St=>s.sl 64) hS;have Rr72:=congrArg (fun s:St=>s.sl 72) hS;have Rr73:=congrArg (fun s:St=>s.sl 73) hS;have Rr16:=congrArg (fun s:St=>s.sl 16) hS;have Rr17:=congrArg (fun s:St=>s.sl 17) hS;have Rb8:=congrArg (fun s:St=>s.bx 8) hS;have Rb9:=congrArg (fun s:St=>s.bx 9) hS;have Rb12:=congrArg (fun s:St=>s.bx 12) hS;have Rb13:=congrArg (fun s:St=>s.bx 13) hS;have Rb32:=congrArg (fun s:St=>s.bx 32) hS;clear hS;simp only [go_sem,hS0,hS1] at Rr69 Rr70 Rr71 Rr64 Rr72 Rr73 Rr16 Rr17 Rb8 Rb9 Rb12 Rb13 Rb32;(try clear hc);intro K hc;simp only [go_sem,hS0,hS1,Rr69,Rr70,Rr71,Rr64,Rr72,Rr73,Rr16,Rr17,Rb8,Rb9,Rb12,Rb13,Rb32,hB,q1G,q1X,q0G,q1B,q0I,q0T,q1I,q1K] at hc ⊢;simp only [go_sem,hS0,hS1,Rr69,Rr70,Rr71,Rr64,Rr72,Rr73,Rr16,Rr17,Rb8,Rb9,Rb12,Rb13,Rb32,hB,A7d,A7h,A6v,A6u,A7c,A6t,nf_put_sub,A7f,A7e,nf_put_susK,nf_put_dip,nf_put_put,A7g,A7b,A6w,n9,n7,m9,n0,n8,nf_sub_sub] at hc ⊢;simp only [hc,q2E,q0W];done))));all_goals try exact om'
  ·(refine lpK_n2 (⟨j+1,by omega,z8 (p:=fun r:c7=>!isV p lv.Name r || (z6 r s).2) default (by omega) hb2 (by rw [hNm (by omega),hc];rfl)⟩) _ rfl ?_;simp only [go_sem,hS0,hS1]<;>repeat' first | apply V0 | exact on' | fail)
   all_goals (rw [hsn (by omega),hNm (by omega),hc];rfl)
  ·exact ⟨hR (by omega),hs⟩
  ·rename_i h1 h2 h3;have hf:(z6 (p.Rules.getD j default) s).2=false:=by
    rw [(b3h _ s).1];rcases hc with h | h
    ·rw [h];rfl
    ·rw [V5 h];simp
   rw [a8v (m:=m) hmlt (by rw [hv];exact h1) (by rw [hv];exact d1r (j:=j) (by omega) (by rw [hNm (by omega)];exact h3) hf)];exact ⟨rfl,rfl⟩
  ·rename_i h1 h2 h3;obtain ⟨hb,hl3⟩:=hc;have hjl:j < p.Rules.length:=by omega
   have hf:(z6 (p.Rules.getD j default) s).2=true:=by rw [(b3h _ s).1,hb,V7 hl3];rfl
   have hrow:=(b3h (p.Rules.getD j default) s).2 hf;have hHL:=c6j (hR hjl) hs;have hsn2:=hsn hjl;have hN2:isV p lv.Name (p.Rules.getD j default)=true:=by rw [hNm hjl];exact h3
   rw [hN2,W9,hrow] at hsn2;generalize hrr:p.Rules.getD j default=r at hf hrow hHL hsn2 hN2 hl3 ⊢;refine lq' false [3,4,6,8,10,12,13,16,21,22,23,50,51,85] [8,12,16,20,24,32,9,13,33] [] (fun i:{k:Nat // k<=(a1W r s).Rows.length}=>[(86,slV (.i .i64 i.1))]) (fun i=>[(26,[.c (.i .i64 (u5 p lv.Name)),.c (w4 (k7 p7 (k7 p7 (t7 s lv.Name).1.Rows (a0x p s lv.Name (p.Rules.take j))) ((a1W r s).Rows.take i.1)))])]) nl' (fun i=>(a1W r s).Rows.length - i.1) (⟨0,by simp⟩) ?_;intro S2 hS2 i;obtain ⟨k,hk⟩:=i;have hp2:=a0t p7 ((a1W r s).Rows.take k) (k7 p7 (t7 s lv.Name).1.Rows (a0x p s lv.Name (p.Rules.take j)));rw [V1] at hp2;have hgk:=fun (h:k < (a1W r s).Rows.length)=>hHL _ (t8 (l:=(a1W r s).Rows) default h)
   simp only [go_sem,hS0,hS1,hS2];(repeat' first | apply cj' | intro hc | apply a0B);(all_goals (try ((first | refine c5d (i4 0 9 (W5 rfl) rfl ?_ (i4 0 10 (W5 rfl) rfl ?_ (i4 2 8 (W5 rfl) rfl ?_ (i4 0 9 (W5 rfl) rfl ?_ (i4 3 8 (W5 rfl) rfl ?_ (i4 0 10 (W5 rfl) rfl ?_ (i4 1 9 (W5 rfl) rfl ?_ (i4 2 7 (W5 rfl) rfl ?_ (i4 0 10 (W5 rfl) rfl ?_ (i4 1 9 (W5 rfl) rfl ?_ (i4 2 6 (W5 rfl) rfl ?_ (i4 0 10 (W5 rfl) rfl ?_ (i4 1 9 (W5 rfl) rfl ?_ b6J))))))))))))))<;>(intro S hS B0 hB;simp only [go_sem,hS0,hS1,hS2,q1G,q1X,q0G,q1B,q0I,q0T,q1I,q1K] at hS hB;(repeat (first | replace hS:=And.right hS | replace hS:=CJ.r hS));have Rr69:=congrArg (fun s:St=>s.sl 69) hS;have Rr70:=congrArg (fun s:St=>s.sl 70) hS;have Rr71:=congrArg (fun s:St=>s.sl 71) hS;have Rr64:=congrArg (fun s:St=>s.sl 64) hS;have Rr72:=congrArg (fun s:St=>s.sl 72) hS;have Rr73:=congrArg (fun s:St=>s.sl 73) hS;have Rr16:=congrArg (fun s:St=>s.sl 16) hS;have Rr17:=congrArg (fun s:St=>s.sl 17) hS;have Rb8:=congrArg (fun s:St=>s.bx 8) hS;have Rb9:=congrArg (fun s:St=>s.bx 9) hS;have Rb12:=congrArg (fun s:St=>s.bx 12) hS;have Rb13:=congrArg (fun s:St=>s.bx 13) hS;have Rb32:=congrArg (fun s:St=>s.bx 32) hS;clear hS;simp only [go_sem,hS0,hS1,hS2] at Rr69 Rr70 Rr71 Rr64 Rr72 Rr73 Rr16 Rr17 Rb8 Rb9 Rb12 Rb13 Rb32;(try clear hc);intro K hc;simp only [go_sem,hS0,hS1,hS2,Rr69,Rr70,Rr71,Rr64,Rr72,Rr73,Rr16,Rr17,Rb8,Rb9,Rb12,Rb13,Rb32,hB,q1G,q1X,q0G,q1B,q0I,q0T,q1I,q1K] at hc ⊢;simp only [go_sem,hS0,hS1,hS2,Rr69,Rr70,Rr71,Rr64,Rr72,Rr73,Rr16,Rr17,Rb8,Rb9,Rb12,Rb13,Rb32,hB,A7d,A7h,A6v,A6u,A7c,A6t,nf_put_sub,A7f,A7e,nf_put_susK,nf_put_dip,nf_put_put,A7g,A7b,A6w,n9,n7,m9,n0,n8,nf_sub_sub] at hc ⊢;simp only [hc,q2E,q0W];done))));all_goals try exact om'
   ·exact ⟨⟨⟨by omega,(hgk (by omega)).1⟩,(hgk (by omega)).2⟩,fun x hx=>((m8.1 hx).elim (hpm x) (fun h=>hHL x (q1Y h))).1⟩
   ·(refine lpK_n2 (⟨k+1,by omega⟩) _ rfl ?_;simp only [go_sem,hS0,hS1,hS2]<;>repeat' first | apply V0 | exact on' | fail)
    all_goals rw [c9K _ (by omega)]
   ·(refine lpK_n2 (⟨j+1,by omega,z8 (p:=fun r:c7=>!isV p lv.Name r || (z6 r s).2) default (by omega) hb2 (by rw [hrr,hN2,hf];rfl)⟩) _ rfl ?_;simp only [go_sem,hS0,hS1,hS2]<;>repeat' first | apply V0 | exact on' | fail)
    all_goals (rw [hsn2,f8 (l:=(a1W r s).Rows) (i:=k) (by omega)])
  ·rename_i h1 h2 h3;rw [f8 (l:=p.Rules) (i:=j) (by omega)] at hc hb2;rw [a8v (m:=m) hmlt (by rw [hv];exact h2) (by rw [hv,b3Q,hb2,a2U,a5D (c4B (a0o hs lv.Name)),V5 hc];rfl)];exact ⟨rfl,rfl⟩
  ·exact ⟨⟨⟨by omega,fun x hx=>by
    have h:=d3J hP.1 hs n (levels.take m) x hx;exact ⟨by omega,fun y hy=>(h.2 y hy).2⟩⟩,by omega⟩,fun y hy=>(hpm y hy).2⟩
  ·rename_i h1 h2 h3;rw [f8 (l:=p.Rules) (i:=j) (by omega)] at hc hb2
   (refine lpK_n2 (⟨m+1,by omega,z8 (p:=fun l:d8=>!(l.N==n) || b3Q p s l.Name) default (by omega) ha (by rw [hv,b3Q,hb2,a2U,a5D (c4B (a0o hs lv.Name)),V7 hc];simp)⟩) _ rfl ?_;simp only [go_sem,hS0,hS1]<;>repeat' first | apply V0 | exact on' | fail)
   all_goals (rw [a8u (by omega),hv,c2N h2,b9A,a2U,a5D (c4B (a0o hs lv.Name)),V7 hc,f8 (l:=p.Rules) (i:=j) (by omega)];rfl))
noncomputable def a6I:CT:=k9 (fun (x:c4×(List d8)×c8×Int) h=>b6o x.1 x.2.1 x.2.2.1 x.2.2.2 h)
@[go_sem] def c9g:=fun x0 x1 x2 x3 n=>nm' (fP' a6I rfl (⟨x0,x1⟩,x2,⟨x3⟩,n))
end Go.Aw
namespace Go.Aw
open Go.Proofs
set_option linter.all false
set_option maxRecDepth 100000
def EqStep.le {l:d7} {b c:List c6} (h:EqStep l b c):b.length<=c.length:=by
 rcases h.len with rfl | h<;>omega
def c6d (r:c7) (b:List c6):∀ {n m:Nat},n<=m->(eqP r b n).length<=(eqP r b m).length
 | n,0,h=>by cases Nat.le_zero.1 h;exact q0C _
 | n,m+1,h=>by
   by_cases hn:n=m+1
   ·subst hn;exact q0C _
   ·have h1:=c6d r b (n:=n) (m:=m) (by omega);have h2:=(a3G (r.Body.getD m default) (eqP r b m)).le;rw [eqP];omega
def d1g {r:c7} {c:List c6} (h:a4S r c=c) {n:Nat} (hn:n<=r.Body.length):eqP r c n=c:=by
 rcases c3y r c n with h1 | h1
 ·exact h1
 ·have h2:=c6d r c hn;rw [show eqP r c r.Body.length=c from h] at h2;omega
def d5R {r:c7} {c:List c6} (h:a4S r c=c) {l:d7} (hl:l∈r.Body):eqS l c=c:=by
 obtain ⟨n,hn,rfl⟩:=q1P hl;have h1:=d1g h (n:=n+1) (by omega);rw [eqP,d1g h (n:=n) (by omega),i8 default hn] at h1;exact h1
def c9t (r:c7) (b:List c6):∀ l∈r.Body,a0j ((eqR r b).map c6.Var) l:=by
 obtain ⟨k,_,hp⟩:=b8g r b;intro l hl he hk x hx;have h1:=congrArg (List.map c6.Var) (d5R hp hl);rw [c3A,domE,he,W9] at h1;have key:∀ v,a0F Op.bytesLess ((eqR r b).map c6.Var) v=(eqR r b).map c6.Var->v∈(eqR r b).map c6.Var:=fun v hv=>c6S (congrArg List.length hv)
 have both:o9 ((eqR r b).map c6.Var) l.A=true/\o9 ((eqR r b).map c6.Var) l.B=true:=by
  cases h2:o9 ((eqR r b).map c6.Var) l.A with
  | true=>
    cases h3:o9 ((eqR r b).map c6.Var) l.B with
    | true=>exact ⟨rfl,rfl⟩
    | false=>
      rw [h2,h3] at h1;have h4:=key _ h1;rw [o9,q0Y] at h3;rw [q2C.2 h4] at h3;exact absurd h3.2 (by decide)
  | false=>
    rw [h2,q3O] at hk;rw [h2,hk] at h1;have h4:=key _ h1;rw [o9,q0Y] at h2;rw [q2C.2 h4] at h2;exact absurd h2.2 (by decide)
 obtain ⟨t,ht,hv,rfl⟩:=a0b.1 hx;have h5:o9 ((eqR r b).map c6.Var) t=true:=by
  simp only [V9,q4M,or_false] at ht;rcases ht with rfl | rfl
  ·exact both.1
  ·exact both.2
 rw [o9,show (t.Var==[])=false by simpa [a0g] using hv,q3O] at h5;exact q2C.1 h5
def c6V {r:c7} {s:c8} {c:List c6} (h:∀ l∈r.Body,Rooted s ⟨c⟩ l):a2L r (c.map c6.Var):=by
 intro l hl hk x hx;obtain ⟨t,ht,hv,rfl⟩:=a0b.1 hx;obtain ⟨row,_,_,hb⟩:=h l hl hk;obtain ⟨i,hi,rfl⟩:=q1P ht;have h1:=hb i hi;rw [i8 default hi] at h1;have h2:=a4o c (l.Atom.Args[i]);rw [show j7 ⟨c⟩ (l.Atom.Args[i])=_ from h1] at h2;rw [o9,show ((l.Atom.Args[i]).Var==[])=false by simpa [a0g] using hv,q3O] at h2;exact q2C.1 h2.symm
def body_bd {r:c7} {s:c8} (hr:j6 r=true) (hs:j4 s=true) {e:d6} (he:e∈(l7 r s).1) {v:List UInt8} (hv:Bd r v):v∈e.Binds.map c6.Var:=by
 obtain ⟨_,hf,_⟩:=a2m hr hs;rw [l7] at he;cases hj:(a0I r s).2 with
 | false=>rw [hj] at he;cases he
 | true=>
   rw [hj,W9] at he;have h1:=(m8.1 he).resolve_left (by intro h;cases h);rw [a4R,q1E,q0V] at h1;obtain ⟨⟨e',he',rfl⟩,_⟩:=h1;exact hv.mem (c6V fun l hl=>((hf e' he').2.2 l hl).ext (c:=eqE r e') (b6s r e'.Binds)) (c9t r e'.Binds)
def c9x {p:c4} (hg:y9 p=true) {j:Nat} (hj:j < p.Rules.length):a4k (p.Rules.getD j default)=[]:=by
 have hB:=a0y (z5 hg);rw [y9,W3,a1j,hB,W9] at hg;have h1:a0P a2T p.Rules=-1:=by simpa using hg.2
 have h2:=a0K a2T p.Rules;rw [h1] at h2;have h3:=q2N.1 h2.symm _ (t8 (l:=p.Rules) default hj);rw [a2T,q0B] at h3;exact List.eq_nil_of_length_eq_zero (by omega)
def c9y {r:c7} {s:c8} (hr:j6 r=true) (hs:j4 s=true) (hl:a4k r=[]) {e:d6} (he:e∈(l7 r s).1):v8 e r.Head.Args=(⟨r.Head.Args.map fun t=>(j7 e t).1⟩,true):=by
 rw [v8,show r.Head.Args.all (fun t=>(j7 e t).2)=true from q0L.2 fun t ht=>?_]
 ·rfl
 ·rw [show (j7 e t).2=o9 (e.Binds.map c6.Var) t from a4o e.Binds t,o9];cases h0:t.Var==[] with
  | true=>rfl
  | false=>
    rw [q3O];refine q2C.2 (body_bd hr hs he ?_);have h1:t.Var∈a2Z r:=by
     rw [a2Z,m8];exact .inr (W8.2 (.inl (a0b.2 ⟨t,ht,by rw [a0g,h0];rfl,rfl⟩)))
    rw [a4k,hr,W9,d6m,List.filter_eq_nil_iff] at hl;have h2:=hl _ h1;exact a3K.1 (q2C.1 (by simpa using h2))
def head_ar {p:c4} (hg:y9 p=true) {j:Nat} (hj:j < p.Rules.length):u5 p (p.Rules.getD j default).Head.Name=(p.Rules.getD j default).Head.Args.length:=by
 have h:=(a3N (by simpa using z5 hg)).2.2 j hj;rw [z7,w5] at h;cases h1:(s6 (p.Rules.getD j default)).any (a3V p) with
 | true=>rw [h1] at h;simp at h
 | false=>
   cases h2:(s6 (p.Rules.getD j default)).any (a3n p) with
   | true=>rw [h1,h2] at h;simp at h
   | false=>
     have h3:=q2N.1 h2 _ (show (p.Rules.getD j default).Head∈s6 (p.Rules.getD j default) from q2K);rw [a3n] at h3;simpa using h3
def c9M {p:c4} {s:c8} (hg:y9 p=true) (hs:j4 s=true) {j:Nat} (hj:j < p.Rules.length):∀ x∈a2Y (p.Rules.getD j default) s,a0R x=true/\(x.V.length:Int)=u5 p (p.Rules.getD j default).Head.Name:=by
 have hr:=(a5X (a0y (z5 hg))).1 _ (t8 (l:=p.Rules) default hj);intro x hx;obtain ⟨e,he,rfl⟩:=q0V.1 hx;obtain ⟨_,_,vs,hv⟩:=a2m hr hs;have h1:EnvS e.Binds:=by
  have he:=he;rw [l7] at he;cases hj:(a0I (p.Rules.getD j default) s).2 with
  | false=>rw [hj] at he;cases he
  | true=>
    rw [hj,W9] at he;exact (hv e ((m8.1 he).resolve_left (by intro h;cases h))).1
 refine ⟨b8h h1 (a2l hr).1 (a2l hr).2, ?_⟩;rw [c9y hr hs (c9x hg hj) he,head_ar hg hj];simp
def c6J {p:c4} {s:c8} (hg:y9 p=true) (hs:j4 s=true) (hA:arOk p s) {v:List UInt8} (hv:v∈vwS p):∀ x∈a2U p s v,a0R x=true/\(x.V.length:Int)=u5 p v:=by
 intro x hx;rcases W8.1 hx with hx | hx
 ·cases h0:(t7 s v).2 with
  | false=>rw [c6U h0] at hx;cases hx
  | true=>
    obtain ⟨y,hy1,hy2,hy3⟩:=c6T h0;have hk:=a0o hs v;have ha:(t7 s v).1.Arity=u5 p v:=by rw [hy3,hA y hy1 (by rw [hy2];exact (a8B hg hv).1),hy2]
    obtain ⟨i,hi,rfl⟩:=q1P hx;simp only [a0c,W3,q0R] at hk;have h1:=a4X.1 hk.2 i hi;rw [a0z,i8 default hi] at h1;simp only [q0Y,q0Q,beq_iff_eq] at h1;exact ⟨h1.1.2,by rw [h1.1.1,ha]⟩
 ·rw [a0x,q2S] at hx;obtain ⟨r,hr,hx⟩:=hx;obtain ⟨j,hj,rfl⟩:=q1P hr;cases h0:isV p v (p.Rules[j]) with
  | false=>rw [h0] at hx;cases hx
  | true=>
    rw [h0,W9] at hx;have hn:(p.Rules[j]).Head.Name=v:=by
     rw [isV,W3] at h0;simpa using h0.2
    have h1:=c9M hg hs hj;rw [i8 default hj] at h1;rw [<- hn];refine h1 x ?_;rw [z6] at hx;cases hb:(l7 (p.Rules[j]) s).2 with
    | false=>rw [hb] at hx;cases hx
    | true=>rw [hb,W9] at hx;exact (a5E _ _).2 x hx
def d6y {a:Int} {l:List d3} (h0:0<=a) (h6:a<=6) (hl:l.length<=300) (hr:∀ x∈l,a0R x=true/\(x.V.length:Int)=a) (hs:SS p7 l):a0c ⟨a,l⟩=true:=by
 simp only [a0c,W3,q0R,q0B];refine ⟨⟨⟨h0,h6⟩,by omega⟩,a4X.2 fun i hi=>?_⟩;have h1:=hr _ (t8 (l:=l) default hi);simp only [a0z,q0Y,q0Q];refine ⟨⟨by simpa using h1.2,h1.1⟩, ?_⟩;cases hd:decide (0 < i) with
 | false=>rfl
 | true=>
   have hp:0 < i:=of_decide_eq_true hd;have h2:=hr _ (t8 (l:=l) default (show i - 1 < l.length by omega));have h3:=q2L.1 hs (i - 1) i (by omega) hi (by omega);rw [q0U,q0Q,b6B (y7 h2.1) (y7 h1.1),i8 default hi,i8 default (show i - 1 < l.length by omega)];exact h3
def c2R {p:c4} (hg:y9 p=true) {v:List UInt8} (hv:v∈vwS p):a2b (a0l p v)=true:=by
 have hB:=a0y (z5 hg);obtain ⟨x,hx,hp,e⟩:=b1o (a8B hg hv).1;rw [a0l,e];simp only [v6,W3,q0L] at hB;exact hB.1.1.1 x hx
def d6n {p:c4} {s:c8} (hg:y9 p=true) (hs:j4 s=true) (hA:arOk p s) {v:List UInt8} (hv:v∈vwS p) (h:b3Q p s v=true):a0c (b9A p s v)=true/\(b9A p s v).Arity=u5 p v:=by
 have hS:=c4B (a0o hs v);have hR:=c6J hg hs hA hv;have hd:=c2R hg hv;simp only [a2b,W3,q0B] at hd;rw [b3Q,W3,a2U,a5D hS] at h;rw [b9A,a2U,a5D hS];cases hc:decide (300 < ((k7 p7 (t7 s v).1.Rows (a0x p s v p.Rules)).length:Int)) with
 | true=>rw [hc] at h;simp at h
 | false=>
   have h1:=of_decide_eq_false hc;refine ⟨d6y (by rw [(a8B hg hv).2];omega) (by rw [(a8B hg hv).2];omega) (by omega) (fun x hx=>hR x ?_) (hS.puts a3j),rfl⟩;rw [a2U,W8];exact m8.1 hx
def b9V {l:List c9} (hl:l.length<=24) (hs:SS sLt (l.map c9.Name)) (h:∀ x∈l,a0Q x.Name=true/\a0c x.Rel=true):j4 ⟨l⟩=true:=by
 simp only [j4,W3,q0R,q0B];refine ⟨by omega,a4X.2 fun i hi=>?_⟩;have h1:=h _ (t8 (l:=l) default hi);simp only [a0A,q0Y,q0Q];refine ⟨⟨h1.1,h1.2⟩, ?_⟩;cases hd:decide (0 < i) with
 | false=>rfl
 | true=>
   have hp:0 < i:=of_decide_eq_true hd;have h3:=q2L.1 hs (i - 1) i (by rw [q0E];omega) (by rw [q0E];exact hi) (by omega);rw [q4N,q4N] at h3;rw [q0U,q0Q,i8 default hi,i8 default (show i - 1 < l.length by omega)];exact h3
def b9X {s:c8} (h:j4 s=true):∀ x∈s.Rels,a0Q x.Name=true/\a0c x.Rel=true:=by
 intro x hx;obtain ⟨i,hi,rfl⟩:=q1P hx;simp only [j4,W3,q0R] at h;have h2:=a4X.1 h.2 i hi;rw [a0A,i8 default hi] at h2;simp only [q0Y,q0Q] at h2;exact h2.1
def d3Y {p:c4} (hg:y9 p=true) {v:List UInt8} (hv:v∈vwS p):a0Q v=true:=by
 have hd:=c2R hg hv;obtain ⟨x,hx,hp,e⟩:=b1o (a8B hg hv).1;simp only [a2b,W3] at hd;have h1:=hd.1.2;rw [a0l,e] at h1;have h2:x.Name=v:=by simpa using hp
 rw [show (some x).getD default=x from rfl,h2] at h1;rw [c6N,W3] at h1;exact h1.1
def d3I {p:c4} {s:c8} (hg:y9 p=true) (hs:j4 s=true) (hA:arOk p s) (n:Int):∀ L:List d8,(∀ l∈L,l.Name∈vwS p)->a7b p s n L=true->∀ x∈a8b p s n L,(a0Q x.Name=true/\a0c x.Rel=true)/\(a0f p x.Name=true->x.Rel.Arity=u5 p x.Name):=by
 intro L;rw [a8b]
 suffices h:∀ (L:List d8) (o:List c9),(∀ l∈L,l.Name∈vwS p)->a7b p s n L=true->(∀ x∈o,(a0Q x.Name=true/\a0c x.Rel=true)/\(a0f p x.Name=true->x.Rel.Arity=u5 p x.Name))->∀ x∈L.foldl (a3P p s n) o,(a0Q x.Name=true/\a0c x.Rel=true)/\(a0f p x.Name=true->x.Rel.Arity=u5 p x.Name) from fun h1 h2=>h L _ h1 h2 fun x hx=>⟨b9X hs x hx,hA x hx⟩
 intro L
 induction L with
 | nil=>intro o _ _ ho;exact ho
 | cons l L ih=>
   intro o hV ha ho;rw [a7b,q2Q,W3] at ha;rw [q2A];refine ih _ (fun y hy=>hV y (q1U _ hy)) ha.2 fun x hx=>?_
   rw [a3P] at hx;cases hc:l.N==n with
   | false=>rw [hc] at hx;exact ho x hx
   | true=>
     rw [hc,W9] at hx;have hv:=hV l q2K;have hk:=d6n hg hs hA hv (by rw [hc] at ha;simpa using ha.1);rcases b1T hx with rfl | hx
     ·exact ⟨⟨d3Y hg hv,hk.1⟩,fun _=>hk.2⟩
     ·exact ho x hx
def a3i {p:c4} {L:List d8} {s:c8} {n:Int} (hg:y9 p=true) (hs:j4 s=true) (hA:arOk p s) (hV:∀ l∈L,l.Name∈vwS p) (h:(o5 p L s n).2=true):j4 (o5 p L s n).1=true/\arOk p (o5 p L s n).1:=by
 rw [o5] at h ⊢;cases h1:a7b p s n L&&decide (((a8b p s n L).length:Int)<=24) with
 | false=>rw [h1] at h;cases h
 | true=>
   rw [W3,q0B] at h1;have h2:=d3I hg hs hA n L hV h1.1;exact ⟨b9V (by omega) (a9Y p n (a3Q hs) L).1 fun x hx=>(h2 x hx).1,fun x hx=>(h2 x hx).2⟩
attribute [local irreducible] aft blk lpK retK AW A0c
set_option maxHeartbeats 4000000
attribute [local irreducible] RM
def a1I (p:c4) (s:c8):Prop:=j4 s=true/\arOk p s
noncomputable def b9x (p:c4) (L:List d8) (n:Int):Nat->c8->c8×Bool
 | 0,s=>(s,true)
 | k+1,s=>bif (o5 p L s n).2 then (bif decide (v9 s < v9 (o5 p L s n).1) then b9x p L n k (o5 p L s n).1 else ((o5 p L s n).1,true)) else (default,false)
noncomputable def a4P (p:c4) (L:List d8) (n:Int) (s:c8):c8×Bool:=b9x p L n (7201 - v9 s) s
def a1q {s:c8} (h:j4 s=true):v9 s<=7200:=by
 rw [<- b3U (s:=s) (i:=s.Rels.length) (by omega)];exact b9M h (q0C _)
def c2x {p:c4} {L:List d8} {n:Int} (hg:y9 p=true) (hV:∀ l∈L,l.Name∈vwS p):∀ (k k':Nat) {s:c8},a1I p s->7200 - v9 s < k->7200 - v9 s < k'->b9x p L n k s=b9x p L n k' s
 | 0,_,s,_,h,_=>by omega
 | _+1,0,s,_,_,h=>by omega
 | k+1,k' + 1,s,hs,h1,h2=>by
   rw [b9x,b9x];cases hr:(o5 p L s n).2 with
   | false=>rfl
   | true=>
     rw [W9,W9];cases hc:decide (v9 s < v9 (o5 p L s n).1) with
     | false=>rfl
     | true=>
       have h3:=a3i hg hs.1 hs.2 hV hr;have h4:=a1q h3.1;have h5:=of_decide_eq_true hc;exact c2x hg hV k k' h3 (by omega) (by omega)
def c2y {p:c4} {L:List d8} {n:Int} (hg:y9 p=true) (hV:∀ l∈L,l.Name∈vwS p) {s:c8} (hs:a1I p s):a4P p L n s=bif (o5 p L s n).2 then (bif decide (v9 s < v9 (o5 p L s n).1) then a4P p L n (o5 p L s n).1 else ((o5 p L s n).1,true)) else (default,false):=by
 have h0:=a1q hs.1;rw [a4P,show 7201 - v9 s=(7200 - v9 s)+1 by omega,b9x];cases hr:(o5 p L s n).2 with
 | false=>rfl
 | true=>
   rw [W9,W9];cases hc:decide (v9 s < v9 (o5 p L s n).1) with
   | false=>rfl
   | true=>
     have h3:=a3i hg hs.1 hs.2 hV hr;have h4:=a1q h3.1;have h5:=of_decide_eq_true hc;rw [W9,W9,a4P];exact c2x hg hV _ _ h3 (by omega) (by omega)
def d1q {p:c4} {L:List d8} {n:Int} (hg:y9 p=true) (hV:∀ l∈L,l.Name∈vwS p):∀ (k:Nat) {s:c8},a1I p s->(b9x p L n k s).2=true->a1I p (b9x p L n k s).1
 | 0,s,hs,_=>hs
 | k+1,s,hs,h=>by
   rw [b9x] at h ⊢;cases hr:(o5 p L s n).2 with
   | false=>rw [hr] at h;cases h
   | true=>
     rw [hr] at h;rw [W9] at h ⊢;have h3:=a3i hg hs.1 hs.2 hV hr;cases hc:decide (v9 s < v9 (o5 p L s n).1) with
     | false=>exact h3
     | true=>rw [hc] at h;exact d1q hg hV k h3 h
noncomputable def upR (p:c4) (L:List d8) (s:c8):Nat->c8×Bool
 | 0=>(s,true)
 | n+1=>bif (upR p L s n).2 then a4P p L n (upR p L s n).1 else (default,false)
def c0a {p:c4} {L:List d8} (hg:y9 p=true) (hV:∀ l∈L,l.Name∈vwS p) {s:c8} (hs:a1I p s):∀ {n:Nat},(upR p L s n).2=true->a1I p (upR p L s n).1
 | 0,_=>hs
 | n+1,h=>by
   rw [upR] at h ⊢;cases hu:(upR p L s n).2 with
   | false=>rw [hu] at h;cases h
   | true=>
     rw [hu] at h;rw [W9] at h ⊢;exact d1q hg hV _ (c0a hg hV hs hu) h
def c4I {p:c4} {L:List d8} {s:c8} {n:Nat} (h:(upR p L s n).2=false):∀ {m:Nat},n<=m->(upR p L s m).2=false/\(n < m->upR p L s m=(default,false))
 | 0,hm=>by cases Nat.le_zero.1 hm;exact ⟨h,fun h=>by omega⟩
 | m+1,hm=>by
   by_cases hn:n=m+1
   ·subst hn;exact ⟨h,fun h=>by omega⟩
   ·have h1:=(c4I h (m:=m) (by omega)).1;have h2:upR p L s (m+1)=(default,false):=by rw [upR,h1];rfl
    exact ⟨by rw [h2],fun _=>h2⟩
def c9L {p:c4} {L:List d8} {s:c8} {n:Int} (hs:j4 s=true) (h:∀ l∈L,¬ l.N=n):o5 p L s n=(s,true):=by
 have h1:a8b p s n L=s.Rels:=by
  rw [a8b];generalize s.Rels=o
  induction L generalizing o with
  | nil=>rfl
  | cons l L ih=>
    rw [q2A,b9U (by simpa [bne] using h l q2K)];exact ih (fun y hy=>h y (q1U _ hy)) o
 have h2:a7b p s n L=true:=q0L.2 fun l hl=>by
  rw [show (l.N==n)=false by simpa using h l hl];rfl
 rw [o5,h1,h2,V5 (by have:=a1e hs;omega)];rfl
def d6k {p:c4} {L:List d8} {s:c8} {n:Int} (hs:j4 s=true) (h:∀ l∈L,¬ l.N=n):a4P p L n s=(s,true):=by
 have h0:=a1q hs;rw [a4P,show 7201 - v9 s=(7200 - v9 s)+1 by omega,b9x,c9L hs h,W9,V7 (Nat.lt_irrefl _)];rfl
def c7f {p:c4} {L:List d8} (hg:y9 p=true) (hV:∀ l∈L,l.Name∈vwS p) {s:c8} (hs:a1I p s) {n:Nat} (hn:∀ l∈L,l.N < n):∀ {m:Nat},n<=m->(upR p L s n).2=true->upR p L s m=upR p L s n
 | 0,hm,_=>by cases Nat.le_zero.1 hm;rfl
 | m+1,hm,h=>by
   by_cases he:n=m+1
   ·subst he;rfl
   ·have h1:=c7f hg hV hs hn (m:=m) (by omega) h;rw [upR,h1,h,W9,d6k (c0a hg hV hs h).1 (fun l hl=>by have:=hn l hl;omega)];rw [<- h]
def b1z (b:c8) (a:c8):A0c Tryz.prog 135 [(true,[i5 b.Rels]),(true,[i5 a.Rels])] [] (.tup []):=by
 refine sx' false false none Tryz.func135 (g' 2 [ao (.box 1 (.t 0)),ao (.box 1 (.t 1))]) [] [] ?_;intro hb hE;simp only [go_sem];repeat' first | apply cj' | intro hc | exact om' | fail
noncomputable def a3Y:CT:=i9 (fun (x:c8×c8)=>b1z x.1 x.2)
@[go_sem] def c5w:=fun x0 x1=>nm' (fQ' a3Y rfl (⟨x0⟩,⟨x1⟩))
def b8n {p:c4} (hg:y9 p=true):∃ g,(f9 p).1=lvl p g/\Least p g:=by
 have h1:(f9 p).2=true:=by
  rw [y9,W3] at hg;exact hg.1
 by_cases h:∃ g,Least p g
 ·refine ⟨h.choose, ?_,h.choose_spec⟩;rw [f9,a3h h1,W9,dif_pos h]
 ·rw [f9,a3h h1,W9,dif_neg h] at h1;cases h1
def b3g {p:c4} (hg:y9 p=true):(∀ l∈(f9 p).1,l.Name∈vwS p)/\(∀ l∈(f9 p).1,0<=l.N/\l.N<=((f9 p).1.length:Int)):=by
 obtain ⟨g,h1,h2⟩:=b8n hg;rw [h1];refine ⟨fun l hl=>?_,fun l hl=>?_⟩
 ·obtain ⟨v,hv,rfl⟩:=q0V.1 hl;exact hv
 ·obtain ⟨v,hv,rfl⟩:=q0V.1 hl;have:=h2.le v hv;have:=h2.low.ge v;rw [a5V];exact ⟨this,by assumption⟩
def c6G {p:c4} (hg:y9 p=true):(f9 p).1.length<=64:=by
 obtain ⟨g,h1,_⟩:=b8n hg;have h2:=c4K (a0y (z5 hg));rw [h1,a5V];omega
noncomputable def c0P (p:c4) (s:c8):c8×Bool:=upR p (f9 p).1 s ((f9 p).1.length+1)
def b9W {s:c8} (hs:j4 s=true):s.Rels.length<=1000/\∀ x∈s.Rels,x.Rel.Rows.length<=100000/\∀ y∈x.Rel.Rows,y.V.length < 1000:=by
 have hsl:=a1e hs;exact ⟨by omega,fun x hx=>by
   have h:=a2H (a1G hs x hx);exact ⟨by omega,fun y hy=>(h.2 y hy).2⟩⟩
def c1U (p:c4) (s:c8) (hpre:y9 p=true/\a1I p s):A0c Tryz.prog 67 [(true,[l4 p.Decls,l3 p.Rules]),(true,[i5 s.Rels])] [] (.tup [(true,[i5 (((c0P p s).1).Rels)]),(false,[.b ((c0P p s).2)])]):=by
 refine sx' false true none Tryz.func67 (q' 2 [ao (.box 2 (.t 0)),ao (.box 1 (.t 1)),aw [.sl i6],ao (.mov (bb false))] (q' 14 [ae 2 2,ac 127 [14],aV 13,ao (.ext (.t 13) 0),ao (.ext (.t 13) 1),av 6 16,aV 7] (q' 18 [ae 1 3,ac 128 [18],ax (w' 8 [.sl i6]),aS 1 8 19] (.seq (q' 9 [aK 0] (.block 0 (.loop (.seq (q' 20 [aM [9,6],aN,ao (.bin .leq (.t 20) (.t 22))] (.cond (.t 23) .skip (.exit 0))) (.seq (.block 1 (q' 10 [ao (.mov (.k (.v false [.c (.i .i64 (-1))])))] (.block 2 (.loop (.seq (q' 26 [am 10,ae 1 8,ac 129 [27],ar 26 28] (.cond (.t 29) .skip (.exit 2))) (.block 3 (q' 30 [ae 1 8,ac 129 [30],aV 10] (q' 33 [ae 2 2,am 6,ae 1 8,am 9,ac 130 [33,34,35,36],aV 32,ao (.ext (.t 32) 0),ao (.ext (.t 32) 1),ax (w' 11 [.sl i6]),aS 1 11 38,aV 12] (.seq (q' 40 [am 12,ao (.not (.t 40))] (.cond (.t 41) (q' 42 [ao (.bld [.sl i6] []),aS 1 4 42,ab 5 false] .ret) .skip)) (g' 43 [ae 1 11,aS 1 8 43])))))))))) (g' 24 [aB 9])))))) (q' 44 [ae 1 8,aS 1 4 44,ab 5 true] .ret))))) [.c 4 true 1,.t 5] [(127,[],a4I),(128,[],a3A),(129,[],a7T),(130,[],a6I)] ?_;intro hb hE;obtain ⟨hg,hs⟩:=hpre;have hL:=c6G hg;have hV:=b3g hg;have hcp:=b9W hs.1;simp only [go_sem];repeat' first | apply cj' | intro hc | exact om' | fail
 ·exact hcp
 refine lq' false [2,4,6,8] [4] [] (fun i:{i:Nat // i<=(f9 p).1.length+1/\(upR p (f9 p).1 s i).2=true}=>[(9,slV (.i .i64 i.1))]) (fun i=>[(16,[.c (i5 (upR p (f9 p).1 s i.1).1.Rels)]),(8,[.nl i6])]) nl' (fun i=>(f9 p).1.length+1 - i.1) (⟨0,by omega,rfl⟩) ?_;intro S0 hS0 i;obtain ⟨m,hm,hu⟩:=i;have hst:=c0a hg hV.1 hs hu;have hr0:=a1q hst.1;have hup:upR p (f9 p).1 s (m+1)=a4P p (f9 p).1 m (upR p (f9 p).1 s m).1:=by rw [upR,hu];rfl
 have hms:(m:Int)=m:=rfl;simp only [go_sem,hS0];repeat' first | apply cj' | intro hc | exact om' | fail
 rotate_left
 ·rw [c0P,show (f9 p).1.length+1=m by omega,hu];exact ⟨rfl,rfl⟩
 generalize hst0:(upR p (f9 p).1 s m).1=st at *;refine lq' false [2,4,6,8,9] [4] [] (fun i:{q:Int×c8 // a1I p q.2/\-1<=q.1/\q.1<=7200/\(q.1 < v9 q.2->a4P p (f9 p).1 m q.2=a4P p (f9 p).1 m st)/\(¬ q.1 < v9 q.2->a4P p (f9 p).1 m st=(q.2,true))}=>[(10,slV (.i .i64 i.1.1))]) (fun i=>[(16,[.c (i5 i.1.2.Rels)]),(8,[.nl i6])]) nl' (fun i=>(7201 - i.1.1).toNat) (⟨(-1,st),hst,by omega,by omega,fun _=>rfl,fun h=>absurd h (by show ¬¬(-1:Int) < _;omega)⟩) ?_;intro S1 hS1 i;obtain ⟨⟨r,o⟩,ho,hr1,hr2,hrl,hrx⟩:=i;simp only at ho hr1 hr2 hrl hrx;have ho0:=a1q ho.1;have hstep:=c2y hg hV.1 (n:=m) ho;simp only [go_sem,hS0,hS1];repeat' first | apply cj' | intro hc | exact om' | fail
 ·exact ho.1
 ·exact ho.1
 ·exact ⟨⟨⟨⟨hg,ho.1⟩,ho.2⟩,hV.1⟩,by omega⟩
 ·have hlt:=‹r < (v9 o:Int)›;have e:=(hrl hlt).symm.trans hstep;rw [hc,V2] at e;have h1:(upR p (f9 p).1 s (m+1)).2=false:=by rw [hup,e]
  have h3:upR p (f9 p).1 s ((f9 p).1.length+1)=(default,false):=by
   by_cases he:m+1=(f9 p).1.length+1
   ·rw [<- he,hup,e]
   ·exact (c4I h1 (by omega)).2 (by omega)
  rw [c0P,h3];exact ⟨rfl,rfl⟩
 ·have hlt:=‹r < (v9 o:Int)›;have e:=(hrl hlt).symm.trans hstep;rw [hc,W9] at e;have h3:=a3i hg ho.1 ho.2 hV.1 hc;have h4:=a1q h3.1;have e1:(v9 o:Int) < v9 (o5 p (f9 p).1 o m).1->a4P p (f9 p).1 m (o5 p (f9 p).1 o m).1=a4P p (f9 p).1 m st:=fun h=>by rw [e,V5 (by omega),W9]
  have e2:¬ (v9 o:Int) < v9 (o5 p (f9 p).1 o m).1->a4P p (f9 p).1 m st=((o5 p (f9 p).1 o m).1,true):=fun h=>by rw [e,V7 (by omega),V2]
  exact nx1 ⟨((v9 o:Int),(o5 p (f9 p).1 o m).1),h3,by omega,by omega,e1,e2⟩
 ·have e3:upR p (f9 p).1 s (m+1)=(o,true):=by rw [hup,hrx hc]
  (refine lpK_n2 (⟨m+1,by omega,by rw [e3]⟩) _ rfl ?_;simp only [go_sem,hS0,hS1]<;>repeat' first | apply V0 | exact on' | fail)
  all_goals rw [e3]
noncomputable def a9l:CT:=k9 (fun (x:c4×c8) h=>c1U x.1 x.2 h)
@[go_sem] def d3i:=fun x0 x1 x2=>nm' (fP' a9l rfl (⟨x0,x1⟩,⟨x2⟩))
def mxN (L:List d8):Int:=L.foldl (fun a l=>max a l.N) 0
def d6p {L:List d8} {i:Nat} (h:i < L.length):mxN (L.take (i+1))=max (mxN (L.take i)) (L.getD i default).N:=by
 rw [mxN,i3 default h,q2X];rfl
def mxF (L:List d8):∀ a:Int,a<=L.foldl (fun a l=>max a l.N) a/\(∀ l∈L,l.N<=L.foldl (fun a l=>max a l.N) a)/\∀ b,a<=b->(∀ l∈L,l.N<=b)->L.foldl (fun a l=>max a l.N) a<=b:=by
 induction L with
 | nil=>intro a;exact ⟨Int.le_refl _,by simp,fun b h _=>h⟩
 | cons x L ih=>
   intro a;rw [q2A];have h:=ih (max a x.N);refine ⟨by omega,fun l hl=>?_,fun b hb hl=>h.2.2 b ?_ fun l h=>hl l (q1U _ h)⟩
   ·rcases V9.1 hl with rfl | hl
    ·omega
    ·exact h.2.1 l hl
   ·have:=hl x q2K;omega
noncomputable def a1R (p:c4) (s:c8):c8×Int:=bif (c0P p s).2 then ((c0P p s).1,0) else (default,2)
def b8I (p:c4) (s:c8) (hpre:y9 p=true/\a1I p s):A0c Tryz.prog 134 [(true,[l4 p.Decls,l3 p.Rules]),(true,[i5 s.Rels]),(false,[.f 135 []])] [] (.tup [(true,[i5 (((a1R p s).1).Rels)]),(false,[.i .i64 ((a1R p s).2)])]):=by
 refine sx' false true none Tryz.func134 (q' 3 [ao (.box 2 (.t 0)),ao (.box 1 (.t 1)),ax (w' 6 [.sl i6]),az 7 0] (q' 18 [ae 2 3,ac 200 [18],aV 17,ao (.ext (.t 17) 0),ao (.ext (.t 17) 1),av 8 20,aV 9] (q' 10 [aK 0] (.seq (q' 22 [am 8,aN,aK 0] (.block 0 (.loop (q' 25 [ar 24 23] (.seq (.cond (.t 25) .skip (.exit 0)) (.seq (.block 1 (q' 26 [ai 2 22 24,aE 2,ax (w' 12 [.s,.i .i64]),aS 2 12 27] (g' 28 [am 10,aG 1 12,ao (.max2 (.t 28) (.t 30)),aV 10]))) (g' 32 [aA 24]))))))) (.seq (q' 13 [aK 0] (.block 2 (.loop (.seq (q' 33 [aM [13,10],ao (.bin .leq (.t 33) (.t 34))] (.cond (.t 35) .skip (.exit 2))) (.seq (.block 3 (q' 0 [ab 14 true] (.block 4 (.loop (.seq (q' 38 [am 14] (.cond (.t 38) .skip (.exit 4))) (.block 5 (q' 40 [ae 2 3,am 8,ae 1 4,am 13,ac 204 [40,41,42,43],aV 39,ao (.ext (.t 39) 0),ao (.ext (.t 39) 1),ax (w' 15 [.sl i6]),aS 1 15 45,aV 16] (.seq (q' 47 [am 16,ao (.not (.t 47))] (.cond (.t 48) (q' 49 [ao (.bld [.sl i6] []),aS 1 6 49,az 7 2] .ret) .skip)) (q' 50 [am 2,ae 1 4,ae 1 15,ao (.callv (.t 50) [.t 51,.t 52])] (.seq (G' 54 [ae 1 15,ac 205 [54],ae 1 4,ac 205 [56],ao (.bin .gtr (.t 55) (.t 57)),aV 14]) (g' 59 [ae 1 15,aS 1 4 59]))))))))))) (g' 36 [aB 13])))))) (q' 60 [ae 1 4,aS 1 6 60,az 7 0] .ret)))))) [.c 6 true 1,.t 7] [(200,[],a4t),(205,[],a5b),(204,[],b0W),(135,[],a3Y)] ?_;intro hb hE;obtain ⟨hg,hs⟩:=hpre;have hL:=c6G hg;have hV:=b3g hg;simp only [go_sem];repeat' first | apply cj' | intro hc | exact om' | fail
 refine a5L 2432 ?_;refine lq' false [2,3,4,6,8,22,23] [6] [] (fun i:{i:Nat // i<=(f9 p).1.length}=>[(10,slV (.i .i64 (mxN ((f9 p).1.take i.1)))),(24,slV (.i .i64 i.1))]) (fun i=>[(8,[.c (i5 s.Rels)]),(12,[.nl i6])]) nl' (fun i=>(f9 p).1.length - i.1) (⟨0,by omega⟩) ?_;intro S0 hS0 i;obtain ⟨i,hi⟩:=i;simp only [go_sem,hS0];repeat' first | apply cj' | intro hc | exact om' | fail
 ·(refine lpK_n2 (⟨i+1,by omega⟩) _ rfl ?_;simp only [go_sem,hS0]<;>repeat' first | apply V0 | exact on' | fail)
  all_goals rw [d6p (by omega)]
  all_goals (split<;>omega)
 rw [f8 (by omega)];have hM:=mxF (f9 p).1 0;have hM2:=hM.2.2 ((f9 p).1.length:Int) (by omega) fun l hl=>(hV.2 l hl).2
 change 0<=mxN (f9 p).1/\(∀ l∈(f9 p).1,l.N<=mxN (f9 p).1)/\_ at hM;change mxN (f9 p).1<=_ at hM2;generalize mxN (f9 p).1=M at *;refine lq' false [2,3,4,6,8,10] [6] [] (fun i:{q:Nat×c8 // (q.1:Int)<=M+1/\upR p (f9 p).1 s q.1=(q.2,true)}=>[(13,slV (.i .i64 i.1.1))]) (fun i=>[(8,[.c (i5 i.1.2.Rels)]),(12,[.nl i6])]) nl' (fun i=>(M+1 - i.1.1).toNat) (⟨(0,s),by show ((0:Nat):Int)<=M+1;omega,rfl⟩) ?_;intro S1 hS1 i;obtain ⟨⟨m,st⟩,hm,hu0⟩:=i;simp only at hm hu0;have hu:(upR p (f9 p).1 s m).2=true:=by rw [hu0]
 have hst:=c0a hg hV.1 hs hu;rw [hu0] at hst;simp only at hst;have hr0:=a1q hst.1;have hup:upR p (f9 p).1 s (m+1)=a4P p (f9 p).1 m st:=by rw [upR,hu0];rfl
 simp only [go_sem,hS0,hS1];repeat' first | apply cj' | intro hc | exact om' | fail
 rotate_left
 ·have h1:=c7f hg hV.1 hs (n:=m) (m:=(f9 p).1.length+1) (fun l hl=>by have:=hM.2.1 l hl;omega) (by omega) hu;rw [a1R,c0P,h1,hu0];exact ⟨rfl,rfl⟩
 refine lq' false [2,3,4,6,8,10,13] [6] [] (fun i:{q:Bool×c8 // a1I p q.2/\(q.1=true->a4P p (f9 p).1 m q.2=a4P p (f9 p).1 m st)/\(q.1=false->a4P p (f9 p).1 m st=(q.2,true))}=>[(14,slV (.b i.1.1))]) (fun i=>[(8,[.c (i5 i.1.2.Rels)]),(12,[.nl i6])]) nl' (fun i=>(bif i.1.1 then 7202 - v9 i.1.2 else 0)) (⟨(true,st),hst,fun _=>rfl,fun h=>by cases h⟩) ?_;intro S2 hS2 i;obtain ⟨⟨r,o⟩,ho,hrl,hrx⟩:=i;simp only at ho hrl hrx;have ho0:=a1q ho.1;have hstep:=c2y hg hV.1 (n:=m) ho;simp only [go_sem,hS0,hS1,hS2];repeat' first | apply cj' | intro hc | exact om' | fail
 ·exact ⟨⟨hg,ho.1⟩,by omega⟩
 ·have e:=(hrl ‹r=true›).symm.trans hstep;rw [hc,V2] at e;have h1:(upR p (f9 p).1 s (m+1)).2=false:=by rw [hup,e]
  have h3:upR p (f9 p).1 s ((f9 p).1.length+1)=(default,false):=by
   by_cases he:m+1=(f9 p).1.length+1
   ·rw [<- he,hup,e]
   ·exact (c4I h1 (by omega)).2 (by omega)
  rw [a1R,c0P,h3];exact ⟨rfl,rfl⟩
 ·exact (a3i hg ho.1 ho.2 hV.1 hc).1
 ·exact ho.1
 ·have e:=(hrl ‹r=true›).symm.trans hstep;rw [hc,W9] at e;have h3:=a3i hg ho.1 ho.2 hV.1 hc;have h4:=a1q h3.1;have e1:decide ((v9 o:Int) < v9 (o5 p (f9 p).1 o m).1)=true->a4P p (f9 p).1 m (o5 p (f9 p).1 o m).1=a4P p (f9 p).1 m st:=fun h=>by
   have:=of_decide_eq_true h;rw [e,V5 (by omega),W9]
  have e2:decide ((v9 o:Int) < v9 (o5 p (f9 p).1 o m).1)=false->a4P p (f9 p).1 m st=((o5 p (f9 p).1 o m).1,true):=fun h=>by
   have:=of_decide_eq_false h;rw [e,V7 (by omega),V2]
  have e4:(bif decide ((v9 o:Int) < v9 (o5 p (f9 p).1 o m).1) then 7202 - v9 (o5 p (f9 p).1 o m).1 else 0) < (bif r then 7202 - v9 o else 0):=by
   rw [‹r=true›,W9];cases h:decide ((v9 o:Int) < v9 (o5 p (f9 p).1 o m).1) with
   | false=>rw [V2];omega
   | true=>have:=of_decide_eq_true h;rw [W9];omega
  (refine lpK_n2 (⟨(decide ((v9 o:Int) < v9 (o5 p (f9 p).1 o m).1),(o5 p (f9 p).1 o m).1),h3,e1,e2⟩) _ rfl ?_;simp only [go_sem,hS0,hS1,hS2]<;>repeat' first | apply V0 | exact on' | fail)
 ·have e3:upR p (f9 p).1 s (m+1)=(o,true):=by rw [hup,hrx hc]
  (refine lpK_n2 (⟨(m+1,o),by show ((m+1:Nat):Int)<=M+1;omega,e3⟩) _ rfl ?_;simp only [go_sem,hS0,hS1,hS2]<;>repeat' first | apply V0 | exact on' | fail)
noncomputable def a7p:CT:=k9 (fun (x:c4×c8) h=>b8I x.1 x.2 h)
@[go_sem] def d0i:=fun x0 x1 x2=>nm' (fP' a7p rfl (⟨x0,x1⟩,⟨x2⟩))
def d3p {p:c4} (hg:y9 p=true) {d:d9} (hm:d∈p.Decls):a0l p d.Name=d/\u5 p d.Name=d.Arity:=by
 have hd:=(a3N (by simpa using z5 hg)).2.1;obtain ⟨i,hi,rfl⟩:=q1P hm;rw [<- i8 default hi];have ha:((p.Decls.take i).any fun d=>d.Name==(p.Decls.getD i default).Name)=false:=by
  rw [q2N];intro x hx;obtain ⟨j,hj,rfl⟩:=q2R.1 hx;have:=a5W hd hi (j:=j) (by omega);rw [i8 default (by omega)] at this;simpa using this
 have h1:=a8i hi ha (by simp);have h2:=hd i hi;rw [s8] at h2;simp only [q0Y] at h2;refine ⟨h1.1, ?_⟩;rw [u5,h2.1.1,h2.1.2,h1.2,h1.1];rfl
def d3q:∀ l:List d9,∀ x∈y6 l,∃ d∈l,d.Name=x.Name/\d.Arity=x.Rel.Arity:=by
 intro l;have gen:∀ (l:List d9) (s:List c9) (L:List d9),(∀ d∈l,d∈L)->(∀ x∈s,∃ d∈L,d.Name=x.Name/\d.Arity=x.Rel.Arity)->∀ x∈l.foldl (fun s d=>a1H s d.Name ⟨d.Name,⟨d.Arity,[]⟩⟩) s,∃ d∈L,d.Name=x.Name/\d.Arity=x.Rel.Arity:=by
  intro l
  induction l with
  | nil=>intro s L _ h;exact h
  | cons d l ih=>
    intro s L hl h;rw [q2A];refine ih _ L (fun y hy=>hl y (q1U _ hy)) fun x hx=>?_
    rcases b1T hx with rfl | hx
    ·exact ⟨d,hl d q2K,rfl,rfl⟩
    ·exact h x hx
 exact gen l [] l (fun d h=>h) (by simp)
def a8w {p:c4} {s:c8} (h:a3O p s=true):y9 p=true/\a1I p s:=by
 simp only [a3O,W3] at h;refine ⟨h.1.1,h.1.2,fun x hx _=>?_⟩;obtain ⟨i,hi,rfl⟩:=q1P hx;have h2:=h.2;simp only [a1s,W3,q0B,q0R] at h2;have h3:=a4X.1 h2.2 i hi;simp only [b4x,q0Y,q0Q,beq_iff_eq] at h3;obtain ⟨d,hd,hn,ha⟩:=d3q (a1p p 1) _ (t8 (l:=y6 (a1p p 1)) (i:=i) default (by omega));rw [i8 default hi] at h3;rw [h3.1,h3.2,<- hn,<- ha];exact ((d3p h.1.1 (q1E.1 hd).1).2).symm
def c5L {p:c4} {s:c8} (hg:y9 p=true) (hs:a1I p s):j4 (a1R p s).1=true:=by
 rw [a1R];cases h:(c0P p s).2 with
 | false=>rfl
 | true=>exact (c0a hg (b3g hg).1 hs h).1
noncomputable def a4p (p:c4) (s:c8):c8×Int:=bif a3O p s then a1R p s else (default,1)
def d1D (p:c4) (s:c8):j4 (a4p p s).1=true:=by
 rw [a4p];cases h:a3O p s with
 | false=>rfl
 | true=>exact c5L (a8w h).1 (a8w h).2
def c7j {p:c4} {s:c8} (h:a3O p s=false):a4p p s=(default,1):=by rw [a4p,h];rfl
def b3Z {p:c4} {s:c8} (h:a3O p s=true):a4p p s=a1R p s:=by rw [a4p,h];rfl
def b5F (p:c4) (s:c8) (hpre:y9 p=true/\a1I p s):A0c Tryz.prog 69 [(true,[l4 p.Decls,l3 p.Rules]),(true,[i5 s.Rels])] [] (.tup [(true,[i5 (((a1R p s).1).Rels)]),(false,[.i .i64 ((a1R p s).2)])]):=by
 refine sx' false true none Tryz.func69 (q' 2 [ao (.box 2 (.t 0)),ao (.box 1 (.t 1)),aw [.sl i6],aK 0] (q' 6 [ae 2 2,ae 1 3,ao (.call 134 [.t 6,.t 7,.k (.v false [.c (.f 135 [])])]),ao (.ext (.t 8) 0),ao (.ext (.t 8) 1),aS 1 4 9,aV 5] .ret)) [.c 4 true 1,.t 5] [(134,[],a7p)] ?_;intro hb hE;simp only [go_sem];repeat' first | apply cj' | intro hc | exact om' | fail
 ·exact hpre
noncomputable def a6g:CT:=k9 (fun (x:c4×c8) h=>b5F x.1 x.2 h)
@[go_sem] def c8y:=fun x0 x1 x2=>nm' (fP' a6g rfl (⟨x0,x1⟩,⟨x2⟩))
def b3G (p:c4) (s:c8):A0c Tryz.prog 26 [(true,[l4 p.Decls,l3 p.Rules]),(true,[i5 s.Rels])] [] (.tup [(true,[i5 (((a4p p s).1).Rels)]),(false,[.i .i64 ((a4p p s).2)])]):=by
 refine sx' false true none Tryz.func26 (q' 2 [ao (.box 2 (.t 0)),ao (.box 1 (.t 1)),aw [.sl i6],aK 0] (.seq (q' 8 [ae 2 2,ae 1 3,ac 66 [8,9],ao (.not (.t 10))] (.cond (.t 11) (q' 12 [ao (.bld [.sl i6] []),aS 1 4 12,az 5 1] .ret) .skip)) (q' 14 [ae 2 2,ae 1 3,ac 67 [14,15],aV 13,ao (.ext (.t 13) 0),ao (.ext (.t 13) 1),ax (w' 6 [.sl i6]),aS 1 6 17,aV 7] (.seq (q' 19 [am 7,ao (.not (.t 19))] (.cond (.t 20) (q' 21 [ao (.bld [.sl i6] []),aS 1 4 21,az 5 2] .ret) .skip)) (q' 22 [ae 1 6,aS 1 4 22,az 5 0] .ret))))) [.c 4 true 1,.t 5] [(66,[],a7O),(67,[],a9l)] ?_;intro hb hE;simp only [go_sem];repeat' first | apply cj' | intro hc | exact om' | fail
 ·rw [c7j hc];exact ⟨rfl,rfl⟩
 ·exact a8w hc
 ·rename_i h;rw [b3Z h,a1R,hc];exact ⟨rfl,rfl⟩
 ·rename_i h;rw [b3Z h,a1R,hc];exact ⟨rfl,rfl⟩
noncomputable def a5p:CT:=i9 (fun (x:c4×c8)=>b3G x.1 x.2)
@[go_sem] def c7F:=fun x0 x1 x2=>nm' (fQ' a5p rfl (⟨x0,x1⟩,⟨x2⟩))
def a8I (p:c4) (x:c9):Bool:=a0m p x.Name==3
def c9S (p:c4) (s:c8):c8:=⟨s.Rels.filter (a8I p)⟩
noncomputable def a4T (p:c4) (s:c8):c8×Int:=(c9S p (a4p p s).1,(a4p p s).2)
def d3Q {l:List c9} {x:c9} (h:∀ y∈l,sLt y.Name x.Name=true):a1H l x.Name x=l++[x]:=by
 have e:l.takeWhile (fun y=>sLt y.Name x.Name)=l/\l.dropWhile (fun y=>sLt y.Name x.Name)=[]:=by
  induction l with
  | nil=>exact ⟨rfl,rfl⟩
  | cons y l ih=>
    have h1:=h y q2K;obtain ⟨a,b⟩:=ih fun z hz=>h z (q1U _ hz)
    exact ⟨by rw [q2G,if_pos h1,a],by rw [q3B,if_pos h1,b]⟩
 obtain ⟨e1,e2⟩:=e;rw [a5Z,e1,e2];rfl
def d3s {p:c4} {s:c8} (hs:SS sLt (s.Rels.map c9.Name)) {i:Nat} (hi:i < s.Rels.length):∀ y∈(s.Rels.take i).filter (a8I p),sLt y.Name (s.Rels.getD i default).Name=true:=by
 intro y hy;obtain ⟨j,hj,rfl⟩:=q2R.1 (q1E.1 hy).1;have h:=q2L.1 (q3Q.1 hs) j i (by omega) hi (by omega);rw [i8 default hi];exact h
def a8l {p:c4} {s:c8} {i:Nat} (h:i < s.Rels.length):(s.Rels.take (i+1)).filter (a8I p)=(s.Rels.take i).filter (a8I p)++(bif a8I p (s.Rels.getD i default) then [s.Rels.getD i default] else []):=by
 rw [i3 default h,q5N,q5G];cases a8I p (s.Rels.getD i default)<;>rfl
def d1e {p:c4} {s:c8} (h:s.Rels.length<=1000/\∀ x∈s.Rels,x.Rel.Rows.length<=100000/\∀ y∈x.Rel.Rows,y.V.length < 1000) (i:Nat):((s.Rels.take i).filter (a8I p)).length<=1000/\∀ x∈(s.Rels.take i).filter (a8I p),x.Rel.Rows.length<=100000/\∀ y∈x.Rel.Rows,y.V.length < 1000:=
 ⟨q2O (q1V _ _) (by rw [V1];omega),fun x hx=>h.2 x (q1Y (q1E.1 hx).1)⟩
def b3r (p:c4) (s:c8) (hpre:s.Rels.length<=1000/\∀ x∈s.Rels,x.Rel.Rows.length<=100000/\∀ y∈x.Rel.Rows,y.V.length < 1000):A0c Tryz.prog 75 [(true,[l4 p.Decls,l3 p.Rules]),(true,[i5 s.Rels])] [] (.one (true,[a3g ((c9S p s).Rels)])):=by
 refine sx' true false none Tryz.func75 (q' 2 [ao (.box 2 (.t 0)),ao (.box 1 (.t 1)),aw [.sl i6]] (q' 5 [ax (o' 8 (.bld [.sl i6] [])),aw [.sl i6],aS 1 5 8] (.seq (q' 9 [aG 0 3,aN,aK 0] (.block 0 (.loop (q' 13 [ar 12 11] (.seq (.cond (.t 13) .skip (.exit 0)) (.seq (.block 1 (q' 14 [ai 3 10 12,aE 3,ax (w' 7 [.s,.i .i64,.sl l6]),aS 3 7 15] (q' 16 [ae 2 2,aG 0 7,ac 139 [16,18],ao (.bin .eql (.t 19) (k' 3))] (.cond (.t 20) (g' 21 [aG 0 5,ae 3 7,ao (.bsl 3 1 [.s,.i .i64,.sl l6] [(0,.t 23)]),ao (.app 3 48 [.s,.i .i64,.sl l6] (.t 22) (.t 24)),af 0 5,aS 1 26 25]) .skip)))) (g' 27 [aA 12]))))))) (q' 28 [ae 1 5,ac 70 [28],aS 1 4 29] .ret)))) [.c 4 true 1] [(139,[],a0w),(70,[],a5a)] ?_;intro hb hE;obtain ⟨hl,hv⟩:=hpre;simp only [go_sem];repeat' first | apply cj' | intro hc | exact om' | fail
 refine b6r false [(true,10,0,200020)] ?_;refine lk' true [(true,10,0,200020)] [2,4,5,10,11] [4,8] [] (fun i:{i:Nat // i<=s.Rels.length}=>[(12,slV (.i .i64 i.1))]) (fun i=>[(10,[.ow 200020])]) (fun i=>[(200020,i6,((s.Rels.take i.1).filter (a8I p)).map (c9.cells false false))]) (fun i=>s.Rels.length - i.1) (⟨0,by simp⟩) ?_;intro S0 hS0 i;obtain ⟨i,hi⟩:=i;have hol:((s.Rels.take i).filter (a8I p)).length<=i:=q2O (q1V _ _) (by rw [V1];omega);simp only [go_sem,hS0];repeat' first | apply cj' | intro hc | exact om' | fail
 ·skip
  (refine lpK_n2 (⟨i+1,by omega⟩) _ (by simp only [go_sem];try rfl) ?_;simp only [go_sem,hS0]<;>repeat' first | apply V0 | exact on' | fail)
  all_goals (rw [a8l (by omega),a8I,hc];rfl)
 ·skip
  (refine lpK_n2 (⟨i+1,by omega⟩) _ (by simp only [go_sem];try rfl) ?_;simp only [go_sem,hS0]<;>repeat' first | apply V0 | exact on' | fail)
  all_goals (rw [a8l (by omega),a8I,hc,V2,q0D])
 ·exact d1e ⟨hl,hv⟩ i
 ·rw [f8 (by omega)];rfl
noncomputable def a5c:CT:=k9 (fun (x:c4×c8) h=>b3r x.1 x.2 h)
@[go_sem] def c7q:=fun x0 x1 x2=>nm' (fP' a5c rfl (⟨x0,x1⟩,⟨x2⟩))
def b6q (p:c4) (s:c8) (hpre:j4 s=true):A0c Tryz.prog 74 [(true,[l4 p.Decls,l3 p.Rules]),(true,[i5 s.Rels])] [] (.one (true,[i5 ((c9S p s).Rels)])):=by
 refine sx' false true none Tryz.func74 (q' 2 [ao (.box 2 (.t 0)),ao (.box 1 (.t 1)),aw [.sl i6]] (q' 5 [ax (o' 8 (.bld [.sl i6] [])),aw [.sl i6],aS 1 5 8] (.seq (q' 9 [aG 0 3,aN,aK 0] (.block 0 (.loop (q' 13 [ar 12 11] (.seq (.cond (.t 13) .skip (.exit 0)) (.seq (.block 1 (q' 14 [ai 3 10 12,aE 3,ax (w' 7 [.s,.i .i64,.sl l6]),aS 3 7 15] (q' 16 [ae 2 2,aG 0 7,ac 137 [16,18],ao (.fl false 0 1 (.t 19)),ao (.bin .eql (.t 20) (k' 3))] (.cond (.t 21) (g' 22 [ae 1 5,aG 0 7,af 1 7,aE 2,ac 138 [22,24,26],aS 1 5 27]) .skip)))) (g' 28 [aA 12]))))))) (q' 29 [ae 1 5,aS 1 4 29] .ret)))) [.c 4 true 1] [(137,[],a0C),(138,[],a2P)] ?_;intro hb hE;have hSS:=a3Q hpre;have hcp:=b9W hpre;have hsl:=a1e hpre;simp only [go_sem];repeat' first | apply cj' | intro hc | exact om' | fail
 refine b6r false [(true,10,0,200020)] ?_;refine a5L 200020 ?_;refine lq' false [2,4,5,10,11] [4,8] [] (fun i:{i:Nat // i<=s.Rels.length}=>[(12,slV (.i .i64 i.1))]) (fun i=>[(10,[.c (i5 ((s.Rels.take i.1).filter (a8I p)))])]) nl' (fun i=>s.Rels.length - i.1) (⟨0,by simp⟩) ?_;intro S0 hS0 i;obtain ⟨i,hi⟩:=i;have hol:((s.Rels.take i).filter (a8I p)).length<=i:=q2O (q1V _ _) (by rw [V1];omega);simp only [go_sem,hS0];repeat' first | apply cj' | intro hc | exact om' | fail
 ·have h:=hcp.2 _ (A3v (l:=s.Rels) (d:=default) (i:=i) (by omega));exact ⟨⟨d1e hcp i,h.1⟩,h.2⟩
 ·skip
  (refine lpK_n2 (⟨i+1,by omega⟩) _ rfl ?_;simp only [go_sem,hS0]<;>repeat' first | apply V0 | exact on' | fail)
  all_goals (rw [a8l (by omega),a8I,a0m,hc,W9,d3Q (d3s hSS (by omega))])
 ·skip
  (refine lpK_n2 (⟨i+1,by omega⟩) _ rfl ?_;simp only [go_sem,hS0]<;>repeat' first | apply V0 | exact on' | fail)
  all_goals (rw [a8l (by omega),a8I,a0m,hc,V2,q0D])
 ·rw [f8 (by omega)];rfl
noncomputable def a6K:CT:=k9 (fun (x:c4×c8) h=>b6q x.1 x.2 h)
@[go_sem] def c9i:=fun x0 x1 x2=>nm' (fP' a6K rfl (⟨x0,x1⟩,⟨x2⟩))
def d6N {p:c4} {s:c8} (h:a3O p s=false):a4T p s=(default,1):=by rw [a4T,c7j h];rfl
def d3Z {p:c4} {s:c8} (h:¬ (a4p p s).2=0):(a4T p s).1=default:=by
 rw [a4T];have e:(a4p p s).1=default:=by
  rw [a4p] at h ⊢;cases h1:a3O p s with
  | false=>rfl
  | true=>
    rw [h1,W9,a1R] at h;rw [W9,a1R];cases h2:(c0P p s).2 with
    | false=>rfl
    | true=>rw [h2] at h;exact absurd rfl h
 rw [e];rfl
def c3X (p:c4) (s:c8):A0c Tryz.prog 31 [(true,[l4 p.Decls,l3 p.Rules]),(true,[i5 s.Rels])] [] (.tup [(true,[a3g (((a4T p s).1).Rels)]),(false,[.i .i64 ((a4T p s).2)])]):=by
 refine sx' true false none Tryz.func31 (q' 2 [ao (.box 2 (.t 0)),ao (.box 1 (.t 1)),aw [.sl i6],aK 0] (.seq (q' 8 [ae 2 2,ae 1 3,ac 68 [8,9],ao (.not (.t 10))] (.cond (.t 11) (q' 12 [ao (.bld [.sl i6] []),aS 1 4 12,az 5 1] .ret) .skip)) (q' 14 [ae 2 2,ae 1 3,ac 69 [14,15],aV 13,ao (.ext (.t 13) 0),ao (.ext (.t 13) 1),ax (w' 6 [.sl i6]),aS 1 6 17,aV 7] (q' 19 [ae 2 2,ae 1 6,ac 75 [19,20],am 7,aS 1 4 21,aV 5] .ret)))) [.c 4 true 1,.t 5] [(68,[],a7m),(69,[],a6g),(75,[],a5c)] ?_;intro hb hE;simp only [go_sem];repeat' first | apply cj' | intro hc | exact om' | fail
 ·rw [d6N hc];exact ⟨rfl,rfl⟩
 ·exact a8w hc
 ·exact b9W (c5L (a8w hc).1 (a8w hc).2)
 ·rw [a4T,b3Z hc];exact ⟨rfl,rfl⟩
noncomputable def b0P:CT:=i9 (fun (x:c4×c8)=>c3X x.1 x.2)
@[go_sem] def d4m:=fun x0 x1 x2=>nm' (fQ' b0P rfl (⟨x0,x1⟩,⟨x2⟩))
def c4r (p:c4) (s:c8):A0c Tryz.prog 30 [(true,[l4 p.Decls,l3 p.Rules]),(true,[i5 s.Rels])] [] (.tup [(true,[i5 (((a4T p s).1).Rels)]),(false,[.i .i64 ((a4T p s).2)])]):=by
 refine sx' false true none Tryz.func30 (q' 2 [ao (.box 2 (.t 0)),ao (.box 1 (.t 1)),aw [.sl i6],aK 0] (q' 9 [ae 2 2,ae 1 3,ac 26 [9,10],aV 8,ao (.ext (.t 8) 0),ao (.ext (.t 8) 1),ax (w' 6 [.sl i6]),aS 1 6 12,aV 7] (.seq (q' 14 [am 7,ao (.bin .neq (.t 14) (k' 0))] (.cond (.t 15) (q' 16 [ao (.bld [.sl i6] []),am 7,aS 1 4 16,aV 5] .ret) .skip)) (q' 18 [ae 2 2,ae 1 6,ac 74 [18,19],aS 1 4 20,az 5 0] .ret)))) [.c 4 true 1,.t 5] [(26,[],a5p),(74,[],a6K)] ?_;intro hb hE;simp only [go_sem];repeat' first | apply cj' | intro hc | exact om' | fail
 ·rw [d3Z (by simpa using hc)];exact ⟨rfl,rfl⟩
 ·exact d1D p s
 ·exact ⟨rfl,(show (a4p p s).2=0 by simpa using hc).symm⟩
noncomputable def b1j:CT:=i9 (fun (x:c4×c8)=>c4r x.1 x.2)
@[go_sem] def d4K:=fun x0 x1 x2=>nm' (fQ' b1j rfl (⟨x0,x1⟩,⟨x2⟩))
end Go.Aw
namespace Go.Aw
open Go.Proofs
attribute [local irreducible] aft blk lpK retK AW A0c
set_option linter.all false
set_option maxRecDepth 100000
set_option maxHeartbeats 4000000
def d6O (p:c4) (s:c8):j4 (a4T p s).1=true:=by
 have h:=d1D p s;have hw:=b9X h;refine b9V (q2O (q1V _ _) (a1e h)) ?_ fun x hx=>hw x (q1E.1 hx).1
 exact List.Pairwise.sublist (List.Sublist.map _ List.filter_sublist) (a3Q h)
def a0N (x:d4):Nat:=x.S.length
def b9e (a:d4) (left:Int) (hpre:0<=left/\left<=1048576):A0c Tryz.prog 210 [(true,[.i .i64 a.N,.s a.S]),(false,[.i .i64 left])] [] (.one (false,[.i .i64 (szR left (a0N a:Nat))])):=by
 refine sx' false false none Tryz.func210 (q' 2 [ao (.box 2 (.t 0)),az 4 0] (q' 5 [am 1,aG 1 2,ao (.lens (.t 7)),ao (.bin .sub (.t 5) (.t 8)),aV 1] (.seq (q' 10 [am 1,ao (.bin .lss (.t 10) (k' 0))] (.cond (.t 11) (q' 4 [ao (.mov (.k (.v false [.c (.i .i64 (-1))])))] .ret) .skip)) (q' 12 [am 1,aV 4] .ret)))) [.t 4] [] ?_;intro hb hE;simp only [go_sem];repeat' first | apply cj' | intro hc | exact om' | fail
 all_goals ((repeat (simp (disch:=omega) only [a0q] at *))<;>(try simp only [szR,a0N] at *)<;>(first | omega | (split<;>omega)))
noncomputable def a3x:CT:=k9 (fun (x:d4×Int) h=>b9e x.1 x.2 h)
@[go_sem] def d0F:=fun x0 x1 x2=>nm' (fP' a3x rfl (⟨x0,x1⟩,x2))
def b9k (a:d4):A0c Tryz.prog 224 [(true,[.i .i64 a.N,.s a.S])] [] (.one (true,[.i .i64 a.N,.s a.S])):=by
 refine sx' true false none Tryz.func224 (q' 1 [ao (.box 2 (.t 0)),aw [.i .i64,.s]] (q' 3 [aw [.i .i64,.s]] (q' 4 [aG 0 1,af 0 3,aS 1 6 5] (q' 7 [aG 1 1,af 1 3,aS 1 9 8] (q' 10 [ae 2 3,aS 2 2 10] .ret))))) [.c 2 true 2] [] ?_;intro hb hE;simp only [go_sem];repeat' first | apply cj' | intro hc | exact om' | fail
noncomputable def a3y:CT:=i9 (fun (x:d4)=>b9k x)
@[go_sem] def d0L:=fun x0 x1=>nm' (fQ' a3y rfl ⟨x0,x1⟩)
def b8Y (a:d4) (b:d4):A0c Tryz.prog 246 [(true,[.i .i64 a.N,.s a.S]),(true,[.i .i64 b.N,.s b.S])] [] (.one (false,[.b (decide (a=b))])):=by
 refine sx' false false none Tryz.func246 (q' 2 [ao (.box 2 (.t 0)),ao (.box 2 (.t 1)),ao (.mov (bb false))] (.seq (q' 5 [aG 0 2,aG 0 3,ao (.bin .neq (.t 6) (.t 8))] (.cond (.t 9) (q' 0 [ab 4 false] .ret) .skip)) (.seq (q' 10 [aG 1 2,aG 1 3,ao (.bin .neq (.t 11) (.t 13))] (.cond (.t 14) (q' 0 [ab 4 false] .ret) .skip)) (q' 0 [ab 4 true] .ret)))) [.t 4] [] ?_;intro hb hE;simp only [go_sem];repeat' first | apply cj' | intro hc | exact om' | fail
 all_goals (cases a;cases b;simp_all)
noncomputable def a3v:CT:=i9 (fun (x:d4×d4)=>b8Y x.1 x.2)
@[go_sem] def d0z:=fun x0 x1 x2 x3=>nm' (fQ' a3v rfl (⟨x0,x1⟩,⟨x2,x3⟩))
def a1l (x:d5):Nat:=x.Var.length+a0N x.Val
def c1A (a:d5) (left:Int) (hpre:0<=left/\left<=1048576):A0c Tryz.prog 145 [(true,[.s a.Var,.i .i64 a.Val.N,.s a.Val.S]),(false,[.i .i64 left])] [] (.one (false,[.i .i64 (szR left (a1l a:Nat))])):=by
 refine sx' false false none Tryz.func145 (q' 2 [ao (.box 3 (.t 0)),az 4 0] (q' 5 [am 1,aG 0 2,ao (.lens (.t 7)),ao (.bin .sub (.t 5) (.t 8)),aV 1] (.seq (q' 10 [am 1,ao (.bin .lss (.t 10) (k' 0))] (.cond (.t 11) (q' 4 [ao (.mov (.k (.v false [.c (.i .i64 (-1))])))] .ret) .skip)) (q' 12 [af 1 2,aE 2,am 1,ac 210 [13,14],aV 1] (.seq (q' 16 [am 1,ao (.bin .lss (.t 16) (k' 0))] (.cond (.t 17) (q' 4 [ao (.mov (.k (.v false [.c (.i .i64 (-1))])))] .ret) .skip)) (q' 18 [am 1,aV 4] .ret)))))) [.t 4] [(210,[],a3x)] ?_;intro hb hE;simp only [go_sem];repeat' first | apply cj' | intro hc | exact om' | fail
 all_goals ((repeat (simp (disch:=omega) only [a0q] at *))<;>(try simp only [szR,a1l] at *)<;>(first | omega | (split<;>omega)))
noncomputable def a4F:CT:=k9 (fun (x:d5×Int) h=>c1A x.1 x.2 h)
@[go_sem] def d2O:=fun x0 x1 x2 x3=>nm' (fP' a4F rfl (⟨x0,⟨x1,x2⟩⟩,x3))
def b9d (a:List d5) (left:Int) (hpre:0<=left/\left<=1048576):A0c Tryz.prog 83 [(false,[j8 a]),(false,[.i .i64 left])] [] (.one (false,[.i .i64 (szR left ((a.length+j5 a1l a):Nat))])):=by
 refine sx' false false none Tryz.func83 (q' 4 [aK 0] (q' 6 [aM [1,0],aN,ao (.bin .sub (.t 6) (.t 8)),aV 1] (.seq (q' 10 [am 1,ao (.bin .lss (.t 10) (k' 0))] (.cond (.t 11) (q' 4 [ao (.mov (.k (.v false [.c (.i .i64 (-1))])))] .ret) .skip)) (.seq (q' 5 [aK 0] (.block 0 (.loop (.seq (q' 12 [aM [5,0],aN,ar 12 14] (.cond (.t 15) .skip (.exit 0))) (.seq (.block 1 (q' 18 [aM [0,5],aI 3,aE 3,am 1,ac 145 [21,22],aV 1] (q' 24 [am 1,ao (.bin .lss (.t 24) (k' 0))] (.cond (.t 25) (q' 4 [ao (.mov (.k (.v false [.c (.i .i64 (-1))])))] .ret) .skip)))) (g' 16 [aB 5])))))) (q' 26 [am 1,aV 4] .ret))))) [.t 4] [(145,[],a4F)] ?_;intro hb hE;simp only [go_sem];repeat' first | apply cj' | intro hc | exact om' | fail
 ·all_goals ((repeat (simp (disch:=omega) only [a0q] at *))<;>(try simp only [szR,szR] at *)<;>(first | omega | (split<;>omega)))
 have hw:=a0q (l:=left) (n:=a.length) (by omega) (by omega) (by omega) (by omega);rw [hw] at hc;refine lq' false [0] [] [] (fun i:{i:Nat // i<=a.length/\(a.length:Int)+(j5 a1l (a.take i):Nat)<=left}=>[(5,slV (.i .i64 i.1)),(1,slV (.i .i64 (left - a.length - (j5 a1l (a.take i.1):Nat))))]) nl' nl' (fun i=>a.length - i.1) (⟨0,by simp only [q1B,a2J];omega⟩) ?_;intro S0 hS0 i;obtain ⟨i,hi,ht⟩:=i;simp only [go_sem,hw,hS0];repeat' first | apply cj' | intro hc | exact om' | fail
 ·have h1:=j9 a1l (default:d5) (show i < a.length by omega);have h2:=s9 a1l a (i+1);all_goals ((repeat (simp (disch:=omega) only [a0q] at *))<;>(try simp only [szR,szR] at *)<;>(first | omega | (split<;>omega)))
 ·have h1:=j9 a1l (default:d5) (show i < a.length by omega)
  (refine lpK_n2 (⟨i+1,by omega,by unfold szR at hc;split at hc<;>omega⟩) _ rfl ?_;simp only [go_sem,hw,hS0]<;>repeat' first | apply V0 | exact on' | fail)
  rw [h1];unfold szR at hc ⊢;split at hc<;>omega
 ·have h1:=a0G a1l (show ¬ i < a.length by omega);all_goals ((repeat (simp (disch:=omega) only [a0q] at *))<;>(try simp only [szR,szR] at *)<;>(first | omega | (split<;>omega)))
 all_goals all_goals ((repeat (simp (disch:=omega) only [a0q] at *))<;>(try simp only [szR,szR] at *)<;>(first | omega | (split<;>omega)))
noncomputable def a7H:CT:=k9 (fun (x:(List d5)×Int) h=>b9d x.1 x.2 h)
@[go_sem] def d0E:=fun a x0=>nm' (fP' a7H rfl (a,x0))
def c1G (a:d5):A0c Tryz.prog 163 [(true,[.s a.Var,.i .i64 a.Val.N,.s a.Val.S])] [] (.one (true,[.s a.Var,.i .i64 a.Val.N,.s a.Val.S])):=by
 refine sx' true false none Tryz.func163 (q' 1 [ao (.box 3 (.t 0)),aw [.s,.i .i64,.s]] (q' 3 [aw [.s,.i .i64,.s]] (q' 4 [aG 0 1,af 0 3,aS 1 6 5] (q' 7 [af 1 1,aE 2,ac 224 [8],af 1 3,aS 2 10 9] (q' 11 [ae 3 3,aS 3 2 11] .ret))))) [.c 2 true 3] [(224,[],a3y)] ?_;intro hb hE;simp only [go_sem];repeat' first | apply cj' | intro hc | exact om' | fail
noncomputable def a4H:CT:=i9 (fun (x:d5)=>c1G x)
@[go_sem] def d2U:=fun x0 x1 x2=>nm' (fQ' a4H rfl ⟨x0,⟨x1,x2⟩⟩)
def b9j (a:List d5) (hpre:(((a.length+j5 a1l a):Nat):Int)<=1048576):A0c Tryz.prog 92 [(false,[j8 a])] [] (.one (false,[b3l a])):=by
 refine sx' true false none Tryz.func92 (q' 2 [ao (.mov (.k (.v false [.nl i7])))] (q' 5 [am 0,aN,ao (.mks 3 40 [.s,.i .i64,.s] (.t 6) (.t 6)),aV 3] (.seq (q' 4 [aK 0] (.block 0 (.loop (.seq (q' 8 [aM [4,0],aN,ar 8 10] (.cond (.t 11) .skip (.exit 0))) (.seq (.block 1 (g' 14 [aM [3,4,0,4],aI 3,aE 3,ac 163 [19],ai 3 14 15,aS 3 21 20])) (g' 12 [aB 4])))))) (q' 22 [am 3,aV 2] .ret)))) [.t 2] [(163,[],a4H)] ?_;intro hb hE;simp only [go_sem,b2j];repeat' first | apply cj' | intro hc | exact om' | fail
 refine lq' true [0,3] [] [] (fun i:{p:Nat×(List d5) // p.1<=a.length/\p.2.length=a.length/\p.2.take p.1=a.take p.1}=>[(4,slV (.i .i64 i.1.1))]) nl' (fun i=>[(896,i7,i.1.2.map d5.cells)]) (fun i=>a.length - i.1.1) (⟨(0,List.replicate a.length default),by simp⟩) ?_;intro S0 hS0 i;obtain ⟨⟨i,L⟩,hi,hl,ht⟩:=i;simp only at hi hl ht;simp only [go_sem,b2j,hS0];repeat' first | apply cj' | intro hc | exact om' | fail
 ·(refine lpK_n2 (⟨(i+1,L.set i (a.getD i default)),by simp only;omega,by simp [hl],y5 hl ht (by omega)⟩) _ rfl ?_;simp only [go_sem,b2j,hS0]<;>repeat' first | apply V0 | exact on' | fail)
 ·obtain rfl:=u3 hl ht (by omega);rfl
noncomputable def a7M:CT:=k9 (fun (x:(List d5)) h=>b9j x h)
@[go_sem] def d0K:=fun a=>nm' (fP' a7M rfl a)
def c1u (a:d5) (b:d5):A0c Tryz.prog 192 [(true,[.s a.Var,.i .i64 a.Val.N,.s a.Val.S]),(true,[.s b.Var,.i .i64 b.Val.N,.s b.Val.S])] [] (.one (false,[.b (decide (a=b))])):=by
 refine sx' false false none Tryz.func192 (q' 2 [ao (.box 3 (.t 0)),ao (.box 3 (.t 1)),ao (.mov (bb false))] (.seq (q' 5 [aG 0 2,aG 0 3,ao (.bin .neq (.t 6) (.t 8))] (.cond (.t 9) (q' 0 [ab 4 false] .ret) .skip)) (.seq (q' 10 [af 1 2,aE 2,af 1 3,aE 2,ac 246 [11,13],ao (.not (.t 14))] (.cond (.t 15) (q' 0 [ab 4 false] .ret) .skip)) (q' 0 [ab 4 true] .ret)))) [.t 4] [(246,[],a3v)] ?_;intro hb hE;simp only [go_sem];repeat' first | apply cj' | intro hc | exact om' | fail
 all_goals (cases a;cases b;simp_all)
noncomputable def a4D:CT:=i9 (fun (x:d5×d5)=>c1u x.1 x.2)
@[go_sem] def d2I:=fun x0 x1 x2 x3 x4 x5=>nm' (fQ' a4D rfl (⟨x0,⟨x1,x2⟩⟩,⟨x3,⟨x4,x5⟩⟩))
def b8X (a:List d5) (b:List d5):A0c Tryz.prog 110 [(false,[j8 a]),(false,[j8 b])] [] (.one (false,[.b (decide (a=b))])):=by
 refine sx' false false none Tryz.func110 (q' 0 [ab 4 false] (.seq (q' 6 [am 0,aN,am 1,aN,ao (.bin .neq (.t 7) (.t 9))] (.cond (.t 10) (q' 0 [ab 4 false] .ret) .skip)) (.seq (q' 5 [aK 0] (.block 0 (.loop (.seq (q' 11 [aM [5,0],aN,ar 11 13] (.cond (.t 14) .skip (.exit 0))) (.seq (.block 1 (.seq (G' 17 [aM [0,5],aI 3,aE 3,aM [1,5],aI 3,aE 3,ac 192 [20,24],ao (.not (.t 25))]) (.cond (.t 26) (q' 0 [ab 4 false] .ret) .skip))) (g' 15 [aB 5])))))) (q' 0 [ab 4 true] .ret)))) [.t 4] [(192,[],a4D)] ?_;intro hb hE;simp only [go_sem];repeat' first | apply cj' | intro hc | exact om' | fail
 ·symm;rw [q1J];rintro rfl;simp at hc
 have hl:a.length=b.length:=by simpa [q3I] using hc
 refine lq' false [0,1] [] [] (fun i:{i:Nat // i<=a.length/\a.take i=b.take i}=>[(5,slV (.i .i64 i.1))]) nl' nl' (fun i=>a.length - i.1) (⟨0,by simp⟩) ?_;intro S0 hS0 i;obtain ⟨i,hi,ht⟩:=i;simp only [go_sem,hS0];repeat' first | apply cj' | intro hc | exact om' | fail
 ·exact (V7 (a1x default (i:=i) (by simpa using hc))).symm
 ·exact nx0 ⟨i+1,by omega,a0J ht (by omega) (by omega) (d:=default) (by simpa using hc)⟩
 ·exact (V5 (u3 hl ht (by omega))).symm
noncomputable def a7C:CT:=i9 (fun (x:(List d5)×(List d5))=>b8X x.1 x.2)
@[go_sem] def d0y:=fun a b=>nm' (fQ' a7C rfl (a,b))
def b5M (a:List d4) (b:List d4):A0c Tryz.prog 191 [(false,[l8 a]),(false,[l8 b])] [] (.one (false,[.b (decide (a=b))])):=by
 refine sx' false false none Tryz.func191 (q' 0 [ab 4 false] (.seq (q' 6 [am 0,aN,am 1,aN,ao (.bin .neq (.t 7) (.t 9))] (.cond (.t 10) (q' 0 [ab 4 false] .ret) .skip)) (.seq (q' 5 [aK 0] (.block 0 (.loop (.seq (q' 11 [aM [5,0],aN,ar 11 13] (.cond (.t 14) .skip (.exit 0))) (.seq (.block 1 (.seq (G' 17 [aM [0,5],aI 2,aE 2,aM [1,5],aI 2,aE 2,ac 246 [20,24],ao (.not (.t 25))]) (.cond (.t 26) (q' 0 [ab 4 false] .ret) .skip))) (g' 15 [aB 5])))))) (q' 0 [ab 4 true] .ret)))) [.t 4] [(246,[],a3v)] ?_;intro hb hE;simp only [go_sem];repeat' first | apply cj' | intro hc | exact om' | fail
 ·symm;rw [q1J];rintro rfl;simp at hc
 have hl:a.length=b.length:=by simpa [q3I] using hc
 refine lq' false [0,1] [] [] (fun i:{i:Nat // i<=a.length/\a.take i=b.take i}=>[(5,slV (.i .i64 i.1))]) nl' nl' (fun i=>a.length - i.1) (⟨0,by simp⟩) ?_;intro S0 hS0 i;obtain ⟨i,hi,ht⟩:=i;simp only [go_sem,hS0];repeat' first | apply cj' | intro hc | exact om' | fail
 ·exact (V7 (a1x default (i:=i) (by simpa using hc))).symm
 ·exact nx0 ⟨i+1,by omega,a0J ht (by omega) (by omega) (d:=default) (by simpa using hc)⟩
 ·exact (V5 (u3 hl ht (by omega))).symm
noncomputable def a6m:CT:=i9 (fun (x:(List d4)×(List d4))=>b5M x.1 x.2)
@[go_sem] def c8F:=fun a b=>nm' (fQ' a6m rfl (a,b))
def c4h (a:d3) (b:d3):A0c Tryz.prog 109 [(true,[l8 a.V]),(true,[l8 b.V])] [] (.one (false,[.b (decide (a=b))])):=by
 refine sx' false false none Tryz.func109 (q' 2 [ao (.box 1 (.t 0)),ao (.box 1 (.t 1)),ao (.mov (bb false))] (.seq (q' 5 [aG 0 2,aG 0 3,ac 191 [6,8],ao (.not (.t 9))] (.cond (.t 10) (q' 0 [ab 4 false] .ret) .skip)) (q' 0 [ab 4 true] .ret))) [.t 4] [(191,[],a6m)] ?_;intro hb hE;simp only [go_sem];repeat' first | apply cj' | intro hc | exact om' | fail
 all_goals (cases a;cases b;simp_all)
noncomputable def b1a:CT:=i9 (fun (x:d3×d3)=>c4h x.1 x.2)
@[go_sem] def d4A:=fun x0 x1=>nm' (fQ' b1a rfl (⟨x0⟩,⟨x1⟩))
end Go.Aw
