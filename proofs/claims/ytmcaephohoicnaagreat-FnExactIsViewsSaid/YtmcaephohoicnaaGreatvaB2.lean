/- A round of the views of a level. No condition. -/
import Derived.Test.YtmcaephohoicnaaGreatvaT45
namespace Go.Aw
open Go.Proofs
attribute [local irreducible] aft blk lpK retK AW A0c
set_option linter.all false
set_option maxRecDepth 100000
set_option maxHeartbeats 4000000
attribute [local irreducible] RM
def isV (p:c4) (v:List UInt8) (r:c8):Bool:=(r.Kind==1&&a0b p r.Head.Name==3)&&r.Head.Name==v
noncomputable def a0o (p:c4) (s:c7) (v:List UInt8) (L:List c8):List d3:=L.flatMap fun r=>bif isV p v r then (y3 r s).1.Rows else []
noncomputable def hdOk (p:c4) (s:c7) (v:List UInt8) (L:List c8):Bool:=L.all fun r=>!isV p v r || (y3 r s).2
noncomputable def a2D (p:c4) (s:c7) (v:List UInt8):List d3:=(q0 s v).1.Rows++a0o p s v p.Rules
noncomputable def b2U (p:c4) (s:c7) (v:List UInt8):Bool:=hdOk p s v p.Rules&&(a7C (t5 p v) (a2D p s v)).2
noncomputable def b8A (p:c4) (s:c7) (v:List UInt8):e7:=(a7C (t5 p v) (a2D p s v)).1
noncomputable def a3x (p:c4) (s:c7) (n:Int) (o:List c9) (l:d8):List c9:=bif l.N==n then a1r o l.Name ⟨l.Name,b8A p s l.Name⟩ else o
noncomputable def a7A (p:c4) (s:c7) (n:Int) (L:List d8):List c9:=L.foldl (a3x p s n) s.Rels
noncomputable def a6w (p:c4) (s:c7) (n:Int) (L:List d8):Bool:=L.all fun l=>!(l.N==n) || b2U p s l.Name
noncomputable def n7 (p:c4) (L:List d8) (s:c7) (n:Int):c7×Bool:=bif a6w p s n L&&decide (((a7A p s n L).length:Int)<=24) then (⟨a7A p s n L⟩,true) else (default,false)
def b8R {p:c4} {s:c7} {n:Int} {o:List c9} {l:d8} (h:(l.N != n)=true):a3x p s n o l=o:=by
 rw [a3x,show (l.N==n)=false by simpa [bne] using h];rfl
def c1N {p:c4} {s:c7} {n:Int} {o:List c9} {l:d8} (h:(l.N != n)=false):a3x p s n o l=a1r o l.Name ⟨l.Name,b8A p s l.Name⟩:=by
 rw [a3x,show (l.N==n)=true by simpa [bne] using h];rfl
def a7T {p:c4} {s:c7} {n:Int} {L:List d8} {i:Nat} (h:i < L.length):a7A p s n (L.take (i+1))=a3x p s n (a7A p s n (L.take i)) (L.getD i default):=by
 rw [i3 default h,a7A,q2V];rfl
def d2F {l:List c9} (hs:SS sLt (l.map c9.Name)) (n:List UInt8) (r:e7):SS sLt ((a1r l n ⟨n,r⟩).map c9.Name)/\(a1r l n ⟨n,r⟩).length<=l.length+1:=by
 have h:=b8O hs n r;refine ⟨by rw [h];exact hs.put l3 n, ?_⟩;have h2:=congrArg List.length h;rw [q0G] at h2;rw [h2];have:=d0n sLt (l.map c9.Name) n;rw [q0G] at this;omega
def a9t (p:c4) {s:c7} (n:Int) (hs:SS sLt (s.Rels.map c9.Name)):∀ L:List d8,SS sLt ((a7A p s n L).map c9.Name)/\(a7A p s n L).length<=s.Rels.length+L.length:=by
 intro L;rw [a7A]
 suffices h:∀ (L:List d8) (o:List c9),SS sLt (o.map c9.Name)->SS sLt ((L.foldl (a3x p s n) o).map c9.Name)/\(L.foldl (a3x p s n) o).length<=o.length+L.length from h L _ hs
 intro L
 induction L with
 | nil=>intro o ho;exact ⟨ho,q0C _⟩
 | cons l L ih=>
   intro o ho;rw [q1X];have h1:SS sLt ((a3x p s n o l).map c9.Name)/\(a3x p s n o l).length<=o.length+1:=by
    rw [a3x];cases l.N==n with
    | true=>exact d2F ho _ _
    | false=>exact ⟨ho,by simp only [W9];omega⟩
   obtain ⟨h2,h3⟩:=ih _ h1.1;exact ⟨h2,by simp only [V9];omega⟩
def a3y {s:c7} (h:i8 s=true):SS sLt (s.Rels.map c9.Name):=by
 refine c6W fun i h0 hi=>?_
 rw [q0G] at hi;simp only [i8,W3,q0R] at h;have h2:=a4x.1 h.2 i hi;simp only [a0s,q0V,q3P,q0P,q1A] at h2;have e:∀ j,j < s.Rels.length->(s.Rels.map c9.Name).getD j []=(s.Rels.getD j default).Name:=fun j hj=>by
  rw [V8,q4T,V5 hj,V8,V5 hj];rfl
 rw [e _ hi,e _ (by omega)];exact h2.2.resolve_left (by omega)
def a3v {r:e7} (h:v9 r=true):r.Rows.length<=300/\∀ x∈r.Rows,okL x.V/\x.V.length < 1000:=by
 refine ⟨a5a h,fun x hx=>?_⟩;obtain ⟨i,hi,rfl⟩:=q1L hx;have h1:=a1h h hi;have h2:=b8H h hi;rw [i7 default hi] at h1 h2;exact ⟨h1,by omega⟩
def a5c (a:Int) (rows:List d3):(a7C a rows).1.Rows.length<=300/\∀ x∈(a7C a rows).1.Rows,x∈rows:=by
 rw [a7C];cases h:decide (300 < ((Lib.compact (a0Y o5 rows)).length:Int)) with
 | true=>exact ⟨q2Z _,fun x hx=>by cases hx⟩
 | false=>
   have h1:=of_decide_eq_false h;exact ⟨by show (Lib.compact (a0Y o5 rows)).length<=300;omega,fun x hx=>b2V.1 (b3u.1 hx)⟩
def b3t {r:c8} {s:c7} (hr:i9 r=true) (hs:i8 s=true):(y3 r s).1.Rows.length<=300/\∀ x∈(y3 r s).1.Rows,okL x.V/\x.V.length < 1000:=by
 rw [y3];cases (k9 r s).2 with
 | false=>exact ⟨q2Z _,fun x hx=>by cases hx⟩
 | true=>exact ⟨(a5c _ _).1,fun x hx=>(b1j hr hs).2 x ((a5c _ _).2 x hx)⟩
@[go_sem] def hdRows_nil (p:c4) (s:c7) (v:List UInt8):a0o p s v []=[]:=rfl
def b3s (p:c4) (s:c7) (v:List UInt8) {L:List c8} {j:Nat} (h:j < L.length):a0o p s v (L.take (j+1))=a0o p s v (L.take j)++(bif isV p v (L.getD j default) then (y3 (L.getD j default) s).1.Rows else []):=by
 rw [i3 default h,a0o,a0o,q3W];simp
def a2N (p:c4) {s:c7} (hs:i8 s=true) (v:List UInt8):∀ {L:List c8},(∀ r∈L,i9 r=true)->(a0o p s v L).length<=300 * L.length/\∀ x∈a0o p s v L,okL x.V/\x.V.length < 1000
 | [],_=>⟨q0C _,fun x hx=>by cases hx⟩
 | r::L,h=>by
   have h1:=a2N p hs v (L:=L) fun r hr=>h r (by simp [hr])
   have h2:=b3t (h r (by simp)) hs;have e:a0o p s v (r::L)=(bif isV p v r then (y3 r s).1.Rows else [])++a0o p s v L:=by simp [a0o]
   rw [e];cases isV p v r with
   | true=>
     rw [W7];refine ⟨by rw [V3,V9];omega,fun x hx=>?_⟩;rcases W6.1 hx with hx | hx
     ·exact h2.2 x hx
     ·exact h1.2 x hx
   | false=>exact ⟨by simp only [W9,q1N,V9];omega,fun x hx=>h1.2 x (by simpa using hx)⟩
def d4K {p:c4} {v:List UInt8} {r:c8} (h:(r.Kind==1&&a0b p r.Head.Name==3)=false\/(r.Head.Name==v)=false):isV p v r=false:=by
 rw [isV];rcases h with h | h<;>rw [h]<;>simp
def c2L {p:c4} {v:List UInt8} {r:c8} (h:((r.Kind==1)=true/\(a0b p r.Head.Name==3)=true)/\(r.Head.Name==v)=true):isV p v r=true:=by
 rw [isV,h.1.1,h.1.2,h.2];rfl
def a7U {p:c4} {L:List d8} {s:c7} {n:Int} {m:Nat} (hm:m < L.length) (hc:((L.getD m default).N != n)=false) (h:b2U p s (L.getD m default).Name=false):n7 p L s n=(default,false):=by
 rw [n7,a6w,all_false (d:=default) hm (by rw [show ((L.getD m default).N==n)=true by simpa [bne] using hc,h];rfl)];rfl
def d0f {p:c4} {s:c7} {v:List UInt8} {j:Nat} (hj:j < p.Rules.length) (h1:isV p v (p.Rules.getD j default)=true) (h2:(y3 (p.Rules.getD j default) s).2=false):b2U p s v=false:=by
 rw [b2U,hdOk,all_false (d:=default) hj (by rw [h1,h2];rfl)];rfl
def c8D {p:c4} {s:c7} {n:Int} {L:List d8} {i:Nat} (h:i < L.length) (ha:a6w p s n (L.take i)=true) (hc:((L.getD i default).N != n)=true):a6w p s n (L.take (i+1))=true:=
 y6 (p:=fun l:d8=>!(l.N==n) || b2U p s l.Name) default h ha (by rw [show ((L.getD i default).N==n)=false by simpa [bne] using hc];rfl)
def b7I (r:c8) (s:c7) (hpre:i9 r=true/\i8 s=true):A0c Tryz.prog 48 [(true,[.i .i64 r.Kind,.s r.Head.Name,j4 r.Head.Args,v7 r.Body]),(true,[f8 s.Rels])] [] (.tup [(true,[.i .i64 (((y3 r s).1).Arity),o8 (((y3 r s).1).Rows)]),(false,[.b ((y3 r s).2)])]):=by
 exact a2S (b0S r s hpre) (by simp only [go_sem,R.free,List.map])
noncomputable def a6O:CT:=k8 (fun (x:c8×c7) h=>b7I x.1 x.2 h)
@[go_sem] def c8X:=fun x0 x1 x2 x3 x4=>nm' (fP' a6O rfl (⟨x0,⟨x1,x2⟩,x3⟩,⟨x4⟩))
def c3d (p:c4) (levels:List d8) (s:c7) (n:Int) (hpre:w8 p=true/\i8 s=true/\levels.length<=100):A0c Tryz.prog 204 [(true,[j9 p.Decls,j6 p.Rules]),(false,[a7L levels]),(true,[f8 s.Rels]),(false,[.i .i64 n])] [] (.tup [(true,[f8 (((n7 p levels s n).1).Rels)]),(false,[.b ((n7 p levels s n).2)])]):=by
 refine sx' false true none Tryz.func204 (q' 4 [ao (.box 2 (.t 0)),ax (o' 6 (.box 1 (.t 2))),ax (w' 8 [.sl i4]),ab 9 false] (q' 10 [ax (e' 22 1 6),aw [.sl i4],aS 1 10 22] (.seq (q' 23 [am 1,aN,aK 0] (.block 0 (.loop (q' 26 [ar 25 24] (.seq (.cond (.t 26) .skip (.exit 0)) (.seq (.block 1 (q' 27 [ai 2 23 25,aE 2,ax (w' 12 [.s,.i .i64]),aS 2 12 28] (.seq (q' 29 [aG 1 12,am 3,ao (.bin .neq (.t 30) (.t 31))] (.cond (.t 32) (.exit 1) .skip)) (q' 34 [ae 1 6,aG 0 12,ac 235 [34,36],aV 33,ao (.ext (.t 33) 0),ao (.ext (.t 33) 1),ax (w' 13 [.i .i64,.sl k7]),aS 2 13 38,aV 14] (q' 40 [aG 1 13,aV 15] (.seq (q' 42 [aG 1 4,aN,aK 0] (.block 2 (.loop (q' 46 [ar 45 44] (.seq (.cond (.t 46) .skip (.exit 2)) (.seq (.block 3 (q' 47 [ai 4 43 45,aE 4,ax (w' 17 [.i .i64,.s,.sl i5,.sl b1t]),aS 4 17 48] (.seq (q' 49 [ae 2 4,ae 4 17,ac 252 [49,50],ao (.not (.t 51)),am 52,au (.fa 1 (.t 17)) 53 false,au (.fa 0 (.t 54)) 53 false,au (.ld false 1 (.t 55)) 53 false,au (.fa 0 (.t 12)) 53 false,au (.ld false 1 (.t 57)) 53 false,au (.bin .neq (.t 56) (.t 58)) 53 false,ao (.pick (.t 53) (bb true) (.t 59))] (.cond (.t 60) (.exit 3) .skip)) (q' 62 [ae 4 17,ae 1 6,ac 48 [62,63],aV 61,ao (.ext (.t 61) 0),ao (.ext (.t 61) 1),ax (w' 18 [.i .i64,.sl k7]),aS 2 18 65,aV 19] (.seq (q' 67 [am 19,ao (.not (.t 67))] (.cond (.t 68) (q' 69 [ao (.bld [.sl i4] []),aS 1 8 69,ab 9 false] .ret) .skip)) (.rego [(true,0,m' 70 15),(true,1,m' 71 15),(true,2,n' 72 71),(true,3,m' 73 15),(true,4,n' 74 73),(true,6,f' 76 1 18),(true,7,l' 77 76),(false, 5,o' 75 (.slc 1 (.t 70) none (some (.t 72)) (some (.t 74)))),(false,8,o' 78 (.app 1 24 [.sl k6] (.t 75) (.t 77))),(false,9,m' 15 78)] [36,37])))))) (g' 79 [aA 45]))))))) (q' 81 [ae 2 4,aG 0 12,ac 264 [81,83],am 15,ac 108 [84,85],aV 80,ao (.ext (.t 80) 0),ao (.ext (.t 80) 1),ax (w' 20 [.i .i64,.sl k7]),aS 2 20 87,aV 21] (.seq (q' 89 [am 21,ao (.not (.t 89))] (.cond (.t 90) (q' 91 [ao (.bld [.sl i4] []),aS 1 8 91,ab 9 false] .ret) .skip)) (g' 92 [ae 1 10,aG 0 12,ae 2 20,ac 203 [92,94,95],aS 1 10 96]))))))))) (g' 97 [aA 25]))))))) (.seq (q' 98 [aG 0 10,aN,ao (.bin .gtr (.t 100) (k' 24))] (.cond (.t 101) (q' 102 [ao (.bld [.sl i4] []),aS 1 8 102,ab 9 false] .ret) .skip)) (q' 103 [ae 1 10,aS 1 8 103,ab 9 true] .ret))))) [.c 8 true 1,.t 9] [(235,[],a2L),(252,[],a1x),(48,[],a6O),(264,[],a1v),(108,[],a6R),(203,[],a8r)] ?_;intro hb hE;obtain ⟨hg,hs,hL⟩:=hpre;have hSS:=a3y hs;have hsl:s.Rels.length<=24:=by
  have:=hs;simp only [i8,W3,V7] at this;omega
 have hP:=a5v (a0p (w9 hg));simp only [go_sem];repeat' first | apply cj' | intro hc | exact om' | fail
 refine lq' false [3,4,6,8,10,23,24] [8,12,37] [] (fun i:{i:Nat // i<=levels.length/\a6w p s n (levels.take i)=true}=>[(25,slV (.i .i64 i.1))]) (fun i=>[(20,[.c (f8 (a7A p s n (levels.take i.1)))]),(16,[.nl i4])]) nl' (fun i=>levels.length - i.1) (⟨0,by simp [a6w]⟩) ?_;intro S0 hS0 i;obtain ⟨m,hi,ha⟩:=i;have hO:=a9t p n hSS (levels.take m);rw [V0] at hO;simp only [go_sem,hS0];repeat' first | apply cj' | intro hc | exact om' | fail
 ·(refine lpK_n2 (⟨m+1,by omega,c8D (by omega) ha hc⟩) _ rfl ?_;simp only [go_sem,hS0]<;>repeat' first | apply W8 | exact on' | fail)
  all_goals rw [a7T (by omega),b8R hc]
 ·skip
  generalize hv:levels.getD m default=lv at hc ⊢;refine lq' false [3,4,6,8,10,12,23,24,25,43,44] [8,12,20,24,37] [] (fun i:{j:Nat // j<=p.Rules.length/\hdOk p s lv.Name (p.Rules.take j)=true}=>[(15,.v false [.c (o8 ((q0 s lv.Name).1.Rows++a0o p s lv.Name (p.Rules.take i.1)))]),(45,slV (.i .i64 i.1))]) (fun i=>[(16,[.nl i4])]) nl' (fun i=>p.Rules.length - i.1) (⟨0,by simp [hdOk]⟩) ?_;intro S1 hS1 i;obtain ⟨j,hj,hb2⟩:=i;have hv2:=a3v (a0c hs lv.Name);have hR:=fun (h:j < p.Rules.length)=>hP.1 _ (s6 (l:=p.Rules) default h)
  have hH:=a2N p hs lv.Name (L:=p.Rules.take j) fun r hr=>hP.1 r (q1V hr)
  rw [V0] at hH;have hHI:=fun (h:j < p.Rules.length)=>(b3t (hR h) hs).1
  have hsn:=fun (h:j < p.Rules.length)=>b3s p s lv.Name h
  simp only [go_sem,hS0,hS1];repeat' first | apply cj' | intro hc | exact om' | fail
  ·(refine lpK_n2 (⟨j+1,by omega,y6 (p:=fun r:c8=>!isV p lv.Name r || (y3 r s).2) default (by omega) hb2 (by rw [d4K hc];rfl)⟩) _ rfl ?_;simp only [go_sem,hS0,hS1]<;>repeat' first | apply W8 | exact on' | fail)
   all_goals (rw [hsn (by omega),d4K hc,W9,q0E])
  ·exact ⟨hR (by omega),hs⟩
  ·rename_i h1 h2 h3;rw [a7U (m:=m) (by omega) (by rw [hv];exact h1) (by rw [hv];exact d0f (j:=j) (by omega) (c2L h3) hc)];exact ⟨rfl,rfl⟩
  ·rename_i h3
   (refine lpK_n2 (⟨j+1,by omega,y6 (p:=fun r:c8=>!isV p lv.Name r || (y3 r s).2) default (by omega) hb2 (by rw [c2L h3,hc];rfl)⟩) _ rfl ?_;simp only [go_sem,hS0,hS1]<;>repeat' first | apply W8 | exact on' | fail)
   all_goals (rw [hsn (by omega),c2L h3,W7,q0Q])
  ·refine ⟨by omega,fun x hx=>?_⟩;rcases W6.1 hx with hx | hx
   ·exact hv2.2 x hx
   ·exact hH.2 x hx
  ·rename_i h1 h2 h3;rw [f7 (by omega)] at hc hb2;rw [a7U (m:=m) (by omega) (by rw [hv];exact h2) (by rw [hv,b2U,hb2,a2D,hc];rfl)];exact ⟨rfl,rfl⟩
  ·exact ⟨hO.1,by omega⟩
  ·rename_i h1 h2 h3;rw [f7 (by omega)] at hc hb2
   (refine lpK_n2 (⟨m+1,by omega,y6 (p:=fun l:d8=>!(l.N==n) || b2U p s l.Name) default (by omega) ha (by rw [hv,b2U,hb2,a2D,hc];simp)⟩) _ rfl ?_;simp only [go_sem,hS0,hS1]<;>repeat' first | apply W8 | exact on' | fail)
   all_goals (rw [a7T (by omega),hv,c1N h2,b8A,a2D,show p.Rules.take j=p.Rules from f7 (by omega)])
 ·have h2:a6w p s n levels=true:=by rwa [f7 (by omega)] at ha
  rw [f7 (by omega)] at hc;rw [n7,h2,V4 (by omega)];exact ⟨rfl,rfl⟩
 ·have h2:a6w p s n levels=true:=by rwa [f7 (by omega)] at ha
  rw [f7 (by omega)] at hc ⊢;rw [n7,h2,V1 (by omega)];exact ⟨rfl,rfl⟩
noncomputable def b0o:CT:=k8 (fun (x:c4×(List d8)×c7×Int) h=>c3d x.1 x.2.1 x.2.2.1 x.2.2.2 h)
@[go_sem] def d3l:=fun x0 x1 x2 x3 n=>nm' (fP' b0o rfl (⟨x0,x1⟩,x2,⟨x3⟩,n))
def nilR:List d3:=[]
@[go_sem] def l10Copy_nil (a:Int):a0M [(true,[.i .i64 a,.sl false k7 []])]=some (True,[],.one (true,[.i .i64 a,o8 nilR])):=by
 have h:=b0B a [];simpa [nilR] using h
def c3z {r:e7} (h:v9 r=true):SS o5 r.Rows:=by
 refine q2J.2 fun i j hi hj hij=>?_
 have h1:=c3A h hij hj;have h2:=a1h h hi;have h3:=a1h h hj;rw [i7 default hi] at h1 h2;rw [i7 default hj] at h1 h3;rw [<- b5x h2 h3,h1];rfl
def a5b {a:Int} {l r:List d3} (h:SS o5 l):a7C a (l++r)=bif decide (300 < ((j7 o5 l r).length:Int)) then (default,false) else (⟨a,j7 o5 l r⟩,true):=by
 have e:Lib.compact (a0Y o5 (l++r))=j7 o5 l r:=a2M a2Q (h.puts a2Q) fun x=>by rw [l7,W6]
 rw [a7C,e]
def b2r (r:c8) (s:c7):(y3 r s).2=((k9 r s).2&&!decide (300 < ((a1H r s).Rows.length:Int)))/\((y3 r s).2=true->(y3 r s).1.Rows=(a1H r s).Rows):=by
 rw [y3,a1H];cases (k9 r s).2 with
 | false=>exact ⟨rfl,fun h=>by cases h⟩
 | true=>
   rw [W7,a7C,c2t];cases decide (300 < ((j7 o5 [] (a2G r s)).length:Int)) with
   | true=>exact ⟨rfl,fun h=>by cases h⟩
   | false=>exact ⟨rfl,fun _=>rfl⟩
def arOk (p:c4) (s:c7):Prop:=∀ x∈s.Rels,z5 p x.Name=true->x.Rel.Arity=t5 p x.Name
def c5M {s:c7} {v:List UInt8} (h:(q0 s v).2=false):(q0 s v).1.Rows=[]:=by
 unfold q0 at h ⊢;split
 ·rename_i e;rw [if_pos e] at h;cases h
 ·rfl
def c5L {s:c7} {v:List UInt8} (h:(q0 s v).2=true):∃ x∈s.Rels,x.Name=v/\(q0 s v).1=x.Rel:=by
 unfold q0 at h ⊢;split
 ·rename_i e;have ha:s.Rels.any (fun x:c9=>x.Name==v)=true:=by rw [<- a0z];exact V1 e
  have e2:=d4H ha;have hlt:s.Rels.findIdx (fun x:c9=>x.Name==v) < s.Rels.length:=by
   have:=c9Y (p:=fun x:c9=>x.Name==v) (l:=s.Rels);omega
  have hp:=List.findIdx_getElem (p:=fun x:c9=>x.Name==v) (xs:=s.Rels) (w:=hlt);rw [e2,q4C,i7 default hlt];exact ⟨_,q0Z hlt,by simpa using hp,rfl⟩
 ·rename_i e;rw [if_neg e] at h;cases h
def d4F {p:c4} {s:c7} {v:List UInt8} (l:List d3) {L:List c8} {j:Nat} (h:j < L.length):j7 o5 l (a0o p s v (L.take (j+1)))=j7 o5 (j7 o5 l (a0o p s v (L.take j))) (bif isV p v (L.getD j default) then (y3 (L.getD j default) s).1.Rows else []):=by
 rw [b3s p s v h,j7,j7,j7,q2V]
def c8u (l:List d3) {r:List d3} {k:Nat} (h:k < r.length):j7 o5 l (r.take (k+1))=a0v o5 (j7 o5 l (r.take k)) (r.getD k default):=by
 rw [i3 default h,j7,j7,q2V];rfl
def d2x {p:c4} {s:c7} (hP:∀ r∈p.Rules,i9 r=true) (hs:i8 s=true) (n:Int):∀ L:List d8,∀ x∈a7A p s n L,x.Rel.Rows.length<=300/\∀ y∈x.Rel.Rows,okL y.V/\y.V.length < 1000:=by
 intro L;rw [a7A]
 suffices h:∀ (L:List d8) (o:List c9),(∀ x∈o,x.Rel.Rows.length<=300/\∀ y∈x.Rel.Rows,okL y.V/\y.V.length < 1000)->∀ x∈L.foldl (a3x p s n) o,x.Rel.Rows.length<=300/\∀ y∈x.Rel.Rows,okL y.V/\y.V.length < 1000 from h L _ fun x hx=>a3v (a1q hs x hx)
 intro L
 induction L with
 | nil=>intro o ho;exact ho
 | cons l L ih=>
   intro o ho;rw [q1X];refine ih _ fun x hx=>?_
   rw [a3x] at hx;cases hc:l.N==n with
   | false=>rw [hc] at hx;exact ho x hx
   | true=>
     rw [hc,W7] at hx;rcases b1h hx with rfl | hx
     ·refine ⟨(a5c _ _).1,fun y hy=>?_⟩;rcases W6.1 ((a5c _ _).2 y hy) with h | h
      ·exact (a3v (a0c hs l.Name)).2 y h
      ·exact (a2N p hs l.Name hP).2 y h
     ·exact ho x hx
def c5c {r:c8} {s:c7} (hr:i9 r=true) (hs:i8 s=true):∀ x∈(a1H r s).Rows,okL x.V/\x.V.length < 1000:=fun x hx=>
 (b1j hr hs).2 x ((l7.1 hx).resolve_left (by intro h;cases h))
def a8b {p:c4} (hg:w8 p=true) {v:List UInt8} (hv:v∈vwS p):z5 p v=true/\t5 p v=(a0a p v).Arity:=by
 have hd:=(a3u (by simpa using w9 hg)).2.1;obtain ⟨d,hm,hk,rfl⟩:=d0j.1 hv;have h1:z5 p d.Name=true:=by
  rw [z5,q3C];exact ⟨d,hm,by simp⟩
 refine ⟨h1, ?_⟩;obtain ⟨i,hi,rfl⟩:=q1L hm;have h2:=hd i hi;rw [p9,i7 default hi] at h2;simp only [q0V] at h2;rw [t5,h2.1.1,h2.1.2,h1];rfl
def d4J {p:c4} (hg:w8 p=true) {v:List UInt8} (hv:v∈vwS p) {j:Nat} (hj:j < p.Rules.length):isV p v (p.Rules.getD j default)=((p.Rules.getD j default).Head.Name==v):=by
 have hN:=a3u (by simpa using w9 hg);rw [isV];cases h:((p.Rules.getD j default).Head.Name==v) with
 | false=>rw [q3F]
 | true=>
   have e:(p.Rules.getD j default).Head.Name=v:=by simpa using h
   have hk:a0b p (p.Rules.getD j default).Head.Name=3:=by rw [e];exact (a1o hN.2.1).2 hv
   rw [hk,b7l hN.2.2 hj hk];rfl
def b5n (p:c4) (levels:List d8) (s:c7) (n:Int) (hpre:w8 p=true/\i8 s=true/\arOk p s/\(∀ l∈levels,l.Name∈vwS p)/\levels.length<=100):A0c Tryz.prog 130 [(true,[j9 p.Decls,j6 p.Rules]),(false,[a7L levels]),(true,[f8 s.Rels]),(false,[.i .i64 n])] [] (.tup [(true,[f8 (((n7 p levels s n).1).Rels)]),(false,[.b ((n7 p levels s n).2)])]):=by
 refine sx' false true none Tryz.func130 (q' 4 [ao (.box 2 (.t 0)),ax (o' 6 (.box 1 (.t 2))),ax (w' 8 [.sl i4]),ab 9 false] (q' 19 [ae 1 6,ac 128 [19],ax (w' 10 [.sl i4]),aS 1 10 20] (.seq (q' 21 [am 1,aN,aK 0] (.block 0 (.loop (q' 24 [ar 23 22] (.seq (.cond (.t 24) .skip (.exit 0)) (.seq (.block 1 (q' 25 [ai 2 21 23,aE 2,ax (w' 12 [.s,.i .i64]),aS 2 12 26] (.seq (q' 27 [aG 1 12,am 3,ao (.bin .neq (.t 28) (.t 29))] (.cond (.t 30) (.exit 1) .skip)) (q' 32 [ae 1 6,aG 0 12,ac 154 [32,34],aV 31,ao (.ext (.t 31) 0),ao (.ext (.t 31) 1),ax (w' 13 [.i .i64,.sl k7]),aS 2 13 36,aV 14] (.seq (q' 38 [am 14,ao (.not (.t 38))] (.cond (.t 39) (g' 40 [ae 2 4,aG 0 12,ac 137 [40,42],ao (.fl false 2 1 (.t 43)),ao (.bld [.i .i64,.sl k7] [(0,1,.t 44)]),aS 2 13 45]) .skip)) (q' 46 [ae 2 13,ac 199 [46],aS 2 13 47] (.seq (q' 48 [aG 1 4,aN,aK 0] (.block 2 (.loop (q' 52 [ar 51 50] (.seq (.cond (.t 52) .skip (.exit 2)) (.seq (.block 3 (q' 53 [am 51,aV 15] (.seq (.seq (G' 54 [aG 1 4,am 15,aI 4,aF 1,aG 0 58,aG 0 12,ao (.bin .neq (.t 60) (.t 62))]) (.cond (.t 63) (.exit 3) .skip)) (.seq (rm' [(true,0,f' 65 1 4), (true,1,l' 66 65),(true,2,m' 67 15),(true,3,i' 68 4 66 67),(true,4,e' 69 4 68),(true,5,e' 70 1 6),(false,6,c' 71 41 [69,70]),(false,7,m' 64 71),(false,8,o' 72 (.ext (.t 64) 0)),(false,9,o' 73 (.ext (.t 64) 1)),(false,10,w' 16 [.i .i64,.sl k7]),(false, 11,s' 2 16 72),(false,12,m' 17 73)] [[0,1,2,3,4,5,6,7,8,10,9,11,12],[0,1,2,3,4,5,6,7,8,10,11,9,12],[0,1,2,3,4,5,6,7,9, 8,10,11,12],[0,1,2,3,4,5,6,7,9,10,8,11,12],[0,1,2,3,4,5,6,7,10,8,9,11,12],[0,1,2,3,4,5,6,7,10,8,11,9,12],[0,1,2, 3,4,5,6,7,10,9,8,11,12],[0,1,2,3,4,5,6,10,7,8,9,11,12],[0,1,2,3,4,5,6,10,7,8,11,9,12],[0,1,2,3,4,5,6,10,7,9,8, 11,12],[0,1,2,3,4,5,10,6,7,8,9,11,12],[0,1,2,3,4,5,10,6,7,8,11,9,12],[0,1,2,3,4,5,10,6,7,9,8,11,12]] [8,9,12,13]) (.seq (q' 74 [am 17,ao (.not (.t 74)),am 75,au (.fa 1 (.t 16)) 76 false,au (.ld false 1 (.t 77)) 76 false,au (.len (.t 78)) 76 false,au (.bin .gtr (.t 79) (k' 300)) 76 false,ao (.pick (.t 76) (bb true) (.t 80))] (.cond (.t 81) (q' 82 [ao (.bld [.sl i4] []),aS 1 8 82,ab 9 false] .ret) .skip)) (q' 83 [aG 1 16,aN,aK 0] (.block 4 (.loop (q' 87 [ar 86 85] (.seq (.cond (.t 87) .skip (.exit 4)) (.seq (.block 5 (q' 88 [am 86,aV 18] (.rego [(true,2,f' 91 1 16),(true,3,l' 92 91),(true,4,m' 93 18),(true,5,i' 94 1 92 93),(true,6,e' 95 1 94),(false,0,f' 89 1 13),(false,1,l' 90 89),(false,7,c' 96 91 [90,95]),(false,8,f' 97 1 13),(false,9,s' 1 97 96)] [32,33]))) (g' 98 [aA 86])))))))))))) (g' 99 [aA 51]))))))) (.seq (q' 100 [aG 1 13,aN,ao (.bin .gtr (.t 102) (k' 300))] (.cond (.t 103) (q' 104 [ao (.bld [.sl i4] []),aS 1 8 104,ab 9 false] .ret) .skip)) (g' 105 [ae 1 10,aG 0 12,ae 2 13,ac 138 [105,107,108],aS 1 10 109]))))))))) (g' 110 [aA 23]))))))) (.seq (q' 111 [aG 0 10,aN,ao (.bin .gtr (.t 113) (k' 24))] (.cond (.t 114) (q' 115 [ao (.bld [.sl i4] []),aS 1 8 115,ab 9 false] .ret) .skip)) (q' 116 [ae 1 10,aS 1 8 116,ab 9 true] .ret))))) [.c 8 true 1,.t 9] [(128,[],a3k),(154,[],a2f),(137,[],a0t),(199,[],a0M),(41,[],a6b),(91,[],a4m),(138,[],a2y)] ?_;intro hb hE;obtain ⟨hg,hs,hA,hV,hL⟩:=hpre;have hSS:=a3y hs;have hsl:=a1p hs;have hP:=a5v (a0p (w9 hg));have hcp:s.Rels.length<=1000/\∀ x∈s.Rels,x.Rel.Rows.length<=100000/\∀ y∈x.Rel.Rows,y.V.length < 1000:=
  ⟨by omega,fun x hx=>by
   have h:=a3v (a1q hs x hx);exact ⟨by omega,fun y hy=>(h.2 y hy).2⟩⟩
 simp only [go_sem];(repeat' first | apply cj' | intro hc | apply a0x);(all_goals (try (refine (show A3E _ _ _ _ _ _ from ?_);simp only [go_sem] at hc ⊢;simp only [go_sem,A7d,A7h,A6v,A6u,A7c,A6t,nf_put_sub,A7f,A7e,nf_put_susK,nf_put_dip,nf_put_put,A7g,A7b,A6w,n0,m8,l9,m7,m9,nf_sub_sub] at hc ⊢;simp only [hc,q2C,q0X];done)));all_goals try exact om'
 ·exact hcp
 refine lq' false [3,4,6,8,10,21,22] [8,12,9,13,33] [] (fun i:{i:Nat // i<=levels.length/\a6w p s n (levels.take i)=true}=>[(23,slV (.i .i64 i.1))]) (fun i=>[(20,[.c (f8 (a7A p s n (levels.take i.1)))]),(16,[.nl i4])]) nl' (fun i=>levels.length - i.1) (⟨0,by simp [a6w]⟩) ?_;intro S0 hS0 i;obtain ⟨m,hi,ha⟩:=i;have hO:=a9t p n hSS (levels.take m);rw [V0] at hO;simp only [go_sem,hS0];(repeat' first | apply cj' | intro hc | apply a0x);(all_goals (try (refine (show A3E _ _ _ _ _ _ from ?_);simp only [go_sem,hS0] at hc ⊢;simp only [go_sem,hS0,A7d,A7h,A6v,A6u,A7c,A6t,nf_put_sub,A7f,A7e,nf_put_susK,nf_put_dip,nf_put_put,A7g,A7b,A6w,n0,m8,l9,m7,m9,nf_sub_sub] at hc ⊢;simp only [hc,q2C,q0X];done)));all_goals try exact om'
 ·(refine lpK_n2 (⟨m+1,by omega,c8D (by omega) ha hc⟩) _ rfl ?_;simp only [go_sem,hS0]<;>repeat' first | apply W8 | exact on' | fail)
  all_goals rw [a7T (by omega),b8R hc]
 rotate_left
 ·have h:=a3v (a0c hs (levels.getD m default).Name);exact ⟨by omega,fun x hx=>(h.2 x hx).2⟩
 rotate_left
 ·have h2:a6w p s n levels=true:=by rwa [f7 (by omega)] at ha
  rw [f7 (by omega)] at hc;rw [n7,h2,V4 (by omega)];exact ⟨rfl,rfl⟩
 ·have h2:a6w p s n levels=true:=by rwa [f7 (by omega)] at ha
  rw [f7 (by omega)] at hc ⊢;rw [n7,h2,V1 (by omega)];exact ⟨rfl,rfl⟩
 all_goals have hvw:=hV _ (s6 (l:=levels) (i:=m) default (by omega))
 all_goals have hAr:=a8b hg hvw
 all_goals first
  | rw [show nilR=(q0 s (levels.getD m default).Name).1.Rows from (c5M hc).symm,<- hAr.2]
  | (obtain ⟨y,hy1,hy2,hy3⟩:=c5L hc
     rw [show (q0 s (levels.getD m default).Name).1.Arity=t5 p (levels.getD m default).Name by rw [hy3,hA y hy1 (by rw [hy2];exact hAr.1),hy2]])
 all_goals clear hc
 all_goals rename_i hc
 all_goals have hmlt:m < levels.length:=by omega
 all_goals generalize hv:levels.getD m default=lv at hc hvw hAr ⊢
 all_goals (
  skip
  refine lq' false [3,4,6,8,10,12,13,21,22,23,50] [8,12,20,24,9,13,33] [] (fun i:{j:Nat // j<=p.Rules.length/\hdOk p s lv.Name (p.Rules.take j)=true}=>[(51,slV (.i .i64 i.1))]) (fun i=>[(26,[.c (.i .i64 (t5 p lv.Name)),.c (o8 (j7 o5 (q0 s lv.Name).1.Rows (a0o p s lv.Name (p.Rules.take i.1))))]),(16,[.nl i4])]) nl' (fun i=>p.Rules.length - i.1) (⟨0,by simp [hdOk]⟩) ?_;intro S1 hS1 i;obtain ⟨j,hj,hb2⟩:=i;have hv2:=a3v (a0c hs lv.Name);have hR:=fun (h:j < p.Rules.length)=>hP.1 _ (s6 (l:=p.Rules) default h)
  have hH:=a2N p hs lv.Name (L:=p.Rules.take j) fun r hr=>hP.1 r (q1V hr)
  rw [V0] at hH;have hsn:=fun (h:j < p.Rules.length)=>d4F (p:=p) (s:=s) (v:=lv.Name) (q0 s lv.Name).1.Rows h
  have hNm:=fun (h:j < p.Rules.length)=>d4J hg hvw h
  have hpl:=a0j o5 (a0o p s lv.Name (p.Rules.take j)) (q0 s lv.Name).1.Rows;have hpm:∀ x∈j7 o5 (q0 s lv.Name).1.Rows (a0o p s lv.Name (p.Rules.take j)),okL x.V/\x.V.length < 1000:=fun x hx=>(l7.1 hx).elim (hv2.2 x) (hH.2 x)
  simp only [go_sem,hS0,hS1];(repeat' first | apply cj' | intro hc | apply a0x);(all_goals (try ((first | refine RM_RS (l4 0 9 (q0A rfl) rfl ?_ (l4 0 10 (q0A rfl) rfl ?_ (l4 2 8 (q0A rfl) rfl ?_ (l4 0 9 (q0A rfl) rfl ?_ (l4 3 8 (q0A rfl) rfl ?_ (l4 0 10 (q0A rfl) rfl ?_ (l4 1 9 (q0A rfl) rfl ?_ (l4 2 7 (q0A rfl) rfl ?_ (l4 0 10 (q0A rfl) rfl ?_ (l4 1 9 (q0A rfl) rfl ?_ (l4 2 6 (q0A rfl) rfl ?_ (l4 0 10 (q0A rfl) rfl ?_ (l4 1 9 (q0A rfl) rfl ?_ c6V))))))))))))))<;>(intro S hS B0 hB;simp only [go_sem,hS0,hS1,q1K,q2G,q0H,q1E,q0K,q0W,q1P,q1N] at hS hB;(repeat (first | replace hS:=And.right hS | replace hS:=CJ.r hS));have Rr69:=congrArg (fun s:St=>s.sl 69) hS;have Rr70:=congrArg (fun s:St=>s.sl 70) hS;have Rr71:=congrArg (fun s:St=>s.sl 71) hS;have Rr64:=congrArg (fun s:St=>s.sl 64) hS;have Rr72:=congrArg (fun s:St=>s.sl 72) hS;have Rr73:=congrArg (fun s:St=>s.sl 73) hS;have Rr16:=congrArg (fun s:St=>s.sl 16) hS;have Rr17:=congrArg (fun s:St=>s.sl 17) hS;have Rb8:=congrArg (fun s:St=>s.bx 8) hS;have Rb9:=congrArg (fun s:St=>s.bx 9) hS;have Rb12:=congrArg (fun s:St=>s.bx 12) hS;have Rb13:=congrArg (fun s:St=>s.bx 13) hS;have Rb32:=congrArg (fun s:St=>s.bx 32) hS;clear hS;simp only [go_sem,hS0,hS1] at Rr69 Rr70 Rr71 Rr64 Rr72 Rr73 Rr16 Rr17 Rb8 Rb9 Rb12 Rb13 Rb32;(try clear hc);intro K hc;simp only [go_sem,hS0,hS1,Rr69,Rr70,Rr71,Rr64,Rr72,Rr73,Rr16,Rr17,Rb8,Rb9,Rb12,Rb13,Rb32,hB,q1K,q2G,q0H,q1E,q0K,q0W,q1P,q1N] at hc ⊢;simp only [go_sem,hS0,hS1,Rr69,Rr70,Rr71,Rr64,Rr72,Rr73,Rr16,Rr17,Rb8,Rb9,Rb12,Rb13,Rb32,hB,A7d,A7h,A6v,A6u,A7c,A6t,nf_put_sub,A7f,A7e,nf_put_susK,nf_put_dip,nf_put_put,A7g,A7b,A6w,n0,m8,l9,m7,m9,nf_sub_sub] at hc ⊢;simp only [hc,q2C,q0X];done))));all_goals try exact om'
  ·(refine lpK_n2 (⟨j+1,by omega,y6 (p:=fun r:c8=>!isV p lv.Name r || (y3 r s).2) default (by omega) hb2 (by rw [hNm (by omega),hc];rfl)⟩) _ rfl ?_;simp only [go_sem,hS0,hS1]<;>repeat' first | apply W8 | exact on' | fail)
   all_goals (rw [hsn (by omega),hNm (by omega),hc];rfl)
  ·exact ⟨hR (by omega),hs⟩
  ·rename_i h1 h2 h3;have hf:(y3 (p.Rules.getD j default) s).2=false:=by
    rw [(b2r _ s).1];rcases hc with h | h
    ·rw [h];rfl
    ·rw [V1 h];simp
   rw [a7U (m:=m) hmlt (by rw [hv];exact h1) (by rw [hv];exact d0f (j:=j) (by omega) (by rw [hNm (by omega)];exact h3) hf)];exact ⟨rfl,rfl⟩
  ·rename_i h1 h2 h3;obtain ⟨hb,hl3⟩:=hc;have hjl:j < p.Rules.length:=by omega
   have hf:(y3 (p.Rules.getD j default) s).2=true:=by rw [(b2r _ s).1,hb,V4 hl3];rfl
   have hrow:=(b2r (p.Rules.getD j default) s).2 hf;have hHL:=c5c (hR hjl) hs;have hsn2:=hsn hjl;have hN2:isV p lv.Name (p.Rules.getD j default)=true:=by rw [hNm hjl];exact h3
   rw [hN2,W7,hrow] at hsn2;generalize hrr:p.Rules.getD j default=r at hf hrow hHL hsn2 hN2 hl3 ⊢;refine lq' false [3,4,6,8,10,12,13,16,21,22,23,50,51,85] [8,12,16,20,24,32,9,13,33] [] (fun i:{k:Nat // k<=(a1H r s).Rows.length}=>[(86,slV (.i .i64 i.1))]) (fun i=>[(26,[.c (.i .i64 (t5 p lv.Name)),.c (o8 (j7 o5 (j7 o5 (q0 s lv.Name).1.Rows (a0o p s lv.Name (p.Rules.take j))) ((a1H r s).Rows.take i.1)))])]) nl' (fun i=>(a1H r s).Rows.length - i.1) (⟨0,by simp⟩) ?_;intro S2 hS2 i;obtain ⟨k,hk⟩:=i;have hp2:=a0j o5 ((a1H r s).Rows.take k) (j7 o5 (q0 s lv.Name).1.Rows (a0o p s lv.Name (p.Rules.take j)));rw [V0] at hp2;have hgk:=fun (h:k < (a1H r s).Rows.length)=>hHL _ (s6 (l:=(a1H r s).Rows) default h)
   simp only [go_sem,hS0,hS1,hS2];(repeat' first | apply cj' | intro hc | apply a0x);(all_goals (try ((first | refine RM_RS (l4 0 9 (q0A rfl) rfl ?_ (l4 0 10 (q0A rfl) rfl ?_ (l4 2 8 (q0A rfl) rfl ?_ (l4 0 9 (q0A rfl) rfl ?_ (l4 3 8 (q0A rfl) rfl ?_ (l4 0 10 (q0A rfl) rfl ?_ (l4 1 9 (q0A rfl) rfl ?_ (l4 2 7 (q0A rfl) rfl ?_ (l4 0 10 (q0A rfl) rfl ?_ (l4 1 9 (q0A rfl) rfl ?_ (l4 2 6 (q0A rfl) rfl ?_ (l4 0 10 (q0A rfl) rfl ?_ (l4 1 9 (q0A rfl) rfl ?_ c6V))))))))))))))<;>(intro S hS B0 hB;simp only [go_sem,hS0,hS1,hS2,q1K,q2G,q0H,q1E,q0K,q0W,q1P,q1N] at hS hB;(repeat (first | replace hS:=And.right hS | replace hS:=CJ.r hS));have Rr69:=congrArg (fun s:St=>s.sl 69) hS;have Rr70:=congrArg (fun s:St=>s.sl 70) hS;have Rr71:=congrArg (fun s:St=>s.sl 71) hS;have Rr64:=congrArg (fun s:St=>s.sl 64) hS;have Rr72:=congrArg (fun s:St=>s.sl 72) hS;have Rr73:=congrArg (fun s:St=>s.sl 73) hS;have Rr16:=congrArg (fun s:St=>s.sl 16) hS;have Rr17:=congrArg (fun s:St=>s.sl 17) hS;have Rb8:=congrArg (fun s:St=>s.bx 8) hS;have Rb9:=congrArg (fun s:St=>s.bx 9) hS;have Rb12:=congrArg (fun s:St=>s.bx 12) hS;have Rb13:=congrArg (fun s:St=>s.bx 13) hS;have Rb32:=congrArg (fun s:St=>s.bx 32) hS;clear hS;simp only [go_sem,hS0,hS1,hS2] at Rr69 Rr70 Rr71 Rr64 Rr72 Rr73 Rr16 Rr17 Rb8 Rb9 Rb12 Rb13 Rb32;(try clear hc);intro K hc;simp only [go_sem,hS0,hS1,hS2,Rr69,Rr70,Rr71,Rr64,Rr72,Rr73,Rr16,Rr17,Rb8,Rb9,Rb12,Rb13,Rb32,hB,q1K,q2G,q0H,q1E,q0K,q0W,q1P,q1N] at hc ⊢;simp only [go_sem,hS0,hS1,hS2,Rr69,Rr70,Rr71,Rr64,Rr72,Rr73,Rr16,Rr17,Rb8,Rb9,Rb12,Rb13,Rb32,hB,A7d,A7h,A6v,A6u,A7c,A6t,nf_put_sub,A7f,A7e,nf_put_susK,nf_put_dip,nf_put_put,A7g,A7b,A6w,n0,m8,l9,m7,m9,nf_sub_sub] at hc ⊢;simp only [hc,q2C,q0X];done))));all_goals try exact om'
   ·exact ⟨⟨⟨by omega,(hgk (by omega)).1⟩,(hgk (by omega)).2⟩,fun x hx=>((l7.1 hx).elim (hpm x) (fun h=>hHL x (q1V h))).1⟩
   ·(refine lpK_n2 (⟨k+1,by omega⟩) _ rfl ?_;simp only [go_sem,hS0,hS1,hS2]<;>repeat' first | apply W8 | exact on' | fail)
    all_goals rw [c8u _ (by omega)]
   ·(refine lpK_n2 (⟨j+1,by omega,y6 (p:=fun r:c8=>!isV p lv.Name r || (y3 r s).2) default (by omega) hb2 (by rw [hrr,hN2,hf];rfl)⟩) _ rfl ?_;simp only [go_sem,hS0,hS1,hS2]<;>repeat' first | apply W8 | exact on' | fail)
    all_goals (rw [hsn2,f7 (l:=(a1H r s).Rows) (i:=k) (by omega)])
  ·rename_i h1 h2 h3;rw [f7 (l:=p.Rules) (i:=j) (by omega)] at hc hb2;rw [a7U (m:=m) hmlt (by rw [hv];exact h2) (by rw [hv,b2U,hb2,a2D,a5b (c3z (a0c hs lv.Name)),V1 hc];rfl)];exact ⟨rfl,rfl⟩
  ·exact ⟨⟨⟨by omega,fun x hx=>by
    have h:=d2x hP.1 hs n (levels.take m) x hx;exact ⟨by omega,fun y hy=>(h.2 y hy).2⟩⟩,by omega⟩,fun y hy=>(hpm y hy).2⟩
  ·rename_i h1 h2 h3;rw [f7 (l:=p.Rules) (i:=j) (by omega)] at hc hb2
   (refine lpK_n2 (⟨m+1,by omega,y6 (p:=fun l:d8=>!(l.N==n) || b2U p s l.Name) default (by omega) ha (by rw [hv,b2U,hb2,a2D,a5b (c3z (a0c hs lv.Name)),V4 hc];simp)⟩) _ rfl ?_;simp only [go_sem,hS0,hS1]<;>repeat' first | apply W8 | exact on' | fail)
   all_goals (rw [a7T (by omega),hv,c1N h2,b8A,a2D,a5b (c3z (a0c hs lv.Name)),V4 hc,f7 (l:=p.Rules) (i:=j) (by omega)];rfl))
noncomputable def a6e:CT:=k8 (fun (x:c4×(List d8)×c7×Int) h=>b5n x.1 x.2.1 x.2.2.1 x.2.2.2 h)
@[go_sem] def c7Q:=fun x0 x1 x2 x3 n=>nm' (fP' a6e rfl (⟨x0,x1⟩,x2,⟨x3⟩,n))
end Go.Aw
namespace Go.Aw
open Go.Proofs
set_option linter.all false
set_option maxRecDepth 100000
def EqStep.le {l:d7} {b c:List c6} (h:EqStep l b c):b.length<=c.length:=by
 rcases h.len with rfl | h<;>omega
def c4W (r:c8) (b:List c6):∀ {n m:Nat},n<=m->(eqP r b n).length<=(eqP r b m).length
 | n,0,h=>by cases Nat.le_zero.1 h;exact q0C _
 | n,m+1,h=>by
   by_cases hn:n=m+1
   ·subst hn;exact q0C _
   ·have h1:=c4W r b (n:=n) (m:=m) (by omega);have h2:=(a3q (r.Body.getD m default) (eqP r b m)).le;rw [eqP];omega
def c9V {r:c8} {c:List c6} (h:a4t r c=c) {n:Nat} (hn:n<=r.Body.length):eqP r c n=c:=by
 rcases c2y r c n with h1 | h1
 ·exact h1
 ·have h2:=c4W r c hn;rw [show eqP r c r.Body.length=c from h] at h2;omega
def d4D {r:c8} {c:List c6} (h:a4t r c=c) {l:d7} (hl:l∈r.Body):eqS l c=c:=by
 obtain ⟨n,hn,rfl⟩:=q1L hl;have h1:=c9V h (n:=n+1) (by omega);rw [eqP,c9V h (n:=n) (by omega),i7 default hn] at h1;exact h1
def c8c (r:c8) (b:List c6):∀ l∈r.Body,z9 ((eqR r b).map c6.Var) l:=by
 obtain ⟨k,_,hp⟩:=b7b r b;intro l hl he hk x hx;have h1:=congrArg (List.map c6.Var) (d4D hp hl);rw [c2A,domE,he,W7] at h1;have key:∀ v,a0v Op.bytesLess ((eqR r b).map c6.Var) v=(eqR r b).map c6.Var->v∈(eqR r b).map c6.Var:=fun v hv=>c5K (congrArg List.length hv)
 have both:o0 ((eqR r b).map c6.Var) l.A=true/\o0 ((eqR r b).map c6.Var) l.B=true:=by
  cases h2:o0 ((eqR r b).map c6.Var) l.A with
  | true=>
    cases h3:o0 ((eqR r b).map c6.Var) l.B with
    | true=>exact ⟨rfl,rfl⟩
    | false=>
      rw [h2,h3] at h1;have h4:=key _ h1;rw [o0,q0V] at h3;rw [q1Z.2 h4] at h3;exact absurd h3.2 (by decide)
  | false=>
    rw [h2,q3M] at hk;rw [h2,hk] at h1;have h4:=key _ h1;rw [o0,q0V] at h2;rw [q1Z.2 h4] at h2;exact absurd h2.2 (by decide)
 obtain ⟨t,ht,hv,rfl⟩:=y8.1 hx;have h5:o0 ((eqR r b).map c6.Var) t=true:=by
  simp only [V6,q4H,or_false] at ht;rcases ht with rfl | rfl
  ·exact both.1
  ·exact both.2
 rw [o0,show (t.Var==[])=false by simpa [z6] using hv,q3M] at h5;exact q1Z.1 h5
def c5N {r:c8} {s:c7} {c:List c6} (h:∀ l∈r.Body,Rooted s ⟨c⟩ l):a2u r (c.map c6.Var):=by
 intro l hl hk x hx;obtain ⟨t,ht,hv,rfl⟩:=y8.1 hx;obtain ⟨row,_,_,hb⟩:=h l hl hk;obtain ⟨i,hi,rfl⟩:=q1L ht;have h1:=hb i hi;rw [i7 default hi] at h1;have h2:=a3Q c (l.Atom.Args[i]);rw [show j3 ⟨c⟩ (l.Atom.Args[i])=_ from h1] at h2;rw [o0,show ((l.Atom.Args[i]).Var==[])=false by simpa [z6] using hv,q3M] at h2;exact q1Z.1 h2.symm
def body_bd {r:c8} {s:c7} (hr:i9 r=true) (hs:i8 s=true) {e:d6} (he:e∈(k9 r s).1) {v:List UInt8} (hv:Bd r v):v∈e.Binds.map c6.Var:=by
 obtain ⟨_,hf,_⟩:=a2a hr hs;rw [k9] at he;cases hj:(a0y r s).2 with
 | false=>rw [hj] at he;cases he
 | true=>
   rw [hj,W7] at he;have h1:=(l7.1 he).resolve_left (by intro h;cases h);rw [a4s,q1C,q0T] at h1;obtain ⟨⟨e',he',rfl⟩,_⟩:=h1;exact hv.mem (c5N fun l hl=>((hf e' he').2.2 l hl).ext (c:=eqE r e') (b5r r e'.Binds)) (c8c r e'.Binds)
def c8g {p:c4} (hg:w8 p=true) {j:Nat} (hj:j < p.Rules.length):a3N (p.Rules.getD j default)=[]:=by
 have hB:=a0p (w9 hg);rw [w8,W3,a0V,hB,W7] at hg;have h1:a0E a2C p.Rules=-1:=by simpa using hg.2
 have h2:=a0z a2C p.Rules;rw [h1] at h2;have h3:=q2L.1 h2.symm _ (s6 (l:=p.Rules) default hj);rw [a2C,V7] at h3;exact List.eq_nil_of_length_eq_zero (by omega)
def c8h {r:c8} {s:c7} (hr:i9 r=true) (hs:i8 s=true) (hl:a3N r=[]) {e:d6} (he:e∈(k9 r s).1):u5 e r.Head.Args=(⟨r.Head.Args.map fun t=>(j3 e t).1⟩,true):=by
 rw [u5,show r.Head.Args.all (fun t=>(j3 e t).2)=true from q0L.2 fun t ht=>?_]
 ·rfl
 ·rw [show (j3 e t).2=o0 (e.Binds.map c6.Var) t from a3Q e.Binds t,o0];cases h0:t.Var==[] with
  | true=>rfl
  | false=>
    rw [q3M];refine q1Z.2 (body_bd hr hs he ?_);have h1:t.Var∈a2H r:=by
     rw [a2H,l7];exact .inr (W6.2 (.inl (y8.2 ⟨t,ht,by rw [z6,h0];rfl,rfl⟩)))
    rw [a3N,hr,W7,d5b,List.filter_eq_nil_iff] at hl;have h2:=hl _ h1;exact a3t.1 (q1Z.1 (by simpa using h2))
def head_ar {p:c4} (hg:w8 p=true) {j:Nat} (hj:j < p.Rules.length):t5 p (p.Rules.getD j default).Head.Name=(p.Rules.getD j default).Head.Args.length:=by
 have h:=(a3u (by simpa using w9 hg)).2.2 j hj;rw [y5,u9] at h;cases h1:(p8 (p.Rules.getD j default)).any (a3E p) with
 | true=>rw [h1] at h;simp at h
 | false=>
   cases h2:(p8 (p.Rules.getD j default)).any (a2V p) with
   | true=>rw [h1,h2] at h;simp at h
   | false=>
     have h3:=q2L.1 h2 _ (show (p.Rules.getD j default).Head∈p8 (p.Rules.getD j default) from q2X);rw [a2V] at h3;simpa using h3
def c8w {p:c4} {s:c7} (hg:w8 p=true) (hs:i8 s=true) {j:Nat} (hj:j < p.Rules.length):∀ x∈a2G (p.Rules.getD j default) s,a0G x=true/\(x.V.length:Int)=t5 p (p.Rules.getD j default).Head.Name:=by
 have hr:=(a5v (a0p (w9 hg))).1 _ (s6 (l:=p.Rules) default hj);intro x hx;obtain ⟨e,he,rfl⟩:=q0T.1 hx;obtain ⟨_,_,vs,hv⟩:=a2a hr hs;have h1:EnvS e.Binds:=by
  have he:=he;rw [k9] at he;cases hj:(a0y (p.Rules.getD j default) s).2 with
  | false=>rw [hj] at he;cases he
  | true=>
    rw [hj,W7] at he;exact (hv e ((l7.1 he).resolve_left (by intro h;cases h))).1
 refine ⟨b7c h1 (a1Z hr).1 (a1Z hr).2, ?_⟩;rw [c8h hr hs (c8g hg hj) he,head_ar hg hj];simp
def c5C {p:c4} {s:c7} (hg:w8 p=true) (hs:i8 s=true) (hA:arOk p s) {v:List UInt8} (hv:v∈vwS p):∀ x∈a2D p s v,a0G x=true/\(x.V.length:Int)=t5 p v:=by
 intro x hx;rcases W6.1 hx with hx | hx
 ·cases h0:(q0 s v).2 with
  | false=>rw [c5M h0] at hx;cases hx
  | true=>
    obtain ⟨y,hy1,hy2,hy3⟩:=c5L h0;have hk:=a0c hs v;have ha:(q0 s v).1.Arity=t5 p v:=by rw [hy3,hA y hy1 (by rw [hy2];exact (a8b hg hv).1),hy2]
    obtain ⟨i,hi,rfl⟩:=q1L hx;simp only [v9,W3,q0R] at hk;have h1:=a4x.1 hk.2 i hi;rw [a0q,i7 default hi] at h1;simp only [q0V,q0P,beq_iff_eq] at h1;exact ⟨h1.1.2,by rw [h1.1.1,ha]⟩
 ·rw [a0o,q2R] at hx;obtain ⟨r,hr,hx⟩:=hx;obtain ⟨j,hj,rfl⟩:=q1L hr;cases h0:isV p v (p.Rules[j]) with
  | false=>rw [h0] at hx;cases hx
  | true=>
    rw [h0,W7] at hx;have hn:(p.Rules[j]).Head.Name=v:=by
     rw [isV,W3] at h0;simpa using h0.2
    have h1:=c8w hg hs hj;rw [i7 default hj] at h1;rw [<- hn];refine h1 x ?_;rw [y3] at hx;cases hb:(k9 (p.Rules[j]) s).2 with
    | false=>rw [hb] at hx;cases hx
    | true=>rw [hb,W7] at hx;exact (a5c _ _).2 x hx
def d5n {a:Int} {l:List d3} (h0:0<=a) (h6:a<=6) (hl:l.length<=300) (hr:∀ x∈l,a0G x=true/\(x.V.length:Int)=a) (hs:SS o5 l):v9 ⟨a,l⟩=true:=by
 simp only [v9,W3,q0R,V7];refine ⟨⟨⟨h0,h6⟩,by omega⟩,a4x.2 fun i hi=>?_⟩;have h1:=hr _ (s6 (l:=l) default hi);simp only [a0q,q0V,q0P];refine ⟨⟨by simpa using h1.2,h1.1⟩, ?_⟩;cases hd:decide (0 < i) with
 | false=>rfl
 | true=>
   have hp:0 < i:=of_decide_eq_true hd;have h2:=hr _ (s6 (l:=l) default (show i - 1 < l.length by omega));have h3:=q2J.1 hs (i - 1) i (by omega) hi (by omega);rw [q0S,q0P,b5x (w4 h2.1) (w4 h1.1),i7 default hi,i7 default (show i - 1 < l.length by omega)];exact h3
def c1R {p:c4} (hg:w8 p=true) {v:List UInt8} (hv:v∈vwS p):a1P (a0a p v)=true:=by
 have hB:=a0p (w9 hg);obtain ⟨x,hx,hp,e⟩:=b0E (a8b hg hv).1;rw [a0a,e];simp only [t9,W3,q0L] at hB;exact hB.1.1.1 x hx
def d5c {p:c4} {s:c7} (hg:w8 p=true) (hs:i8 s=true) (hA:arOk p s) {v:List UInt8} (hv:v∈vwS p) (h:b2U p s v=true):v9 (b8A p s v)=true/\(b8A p s v).Arity=t5 p v:=by
 have hS:=c3z (a0c hs v);have hR:=c5C hg hs hA hv;have hd:=c1R hg hv;simp only [a1P,W3,V7] at hd;rw [b2U,W3,a2D,a5b hS] at h;rw [b8A,a2D,a5b hS];cases hc:decide (300 < ((j7 o5 (q0 s v).1.Rows (a0o p s v p.Rules)).length:Int)) with
 | true=>rw [hc] at h;simp at h
 | false=>
   have h1:=of_decide_eq_false hc;refine ⟨d5n (by rw [(a8b hg hv).2];omega) (by rw [(a8b hg hv).2];omega) (by omega) (fun x hx=>hR x ?_) (hS.puts a2Q),rfl⟩;rw [a2D,W6];exact l7.1 hx
def b8S {l:List c9} (hl:l.length<=24) (hs:SS sLt (l.map c9.Name)) (h:∀ x∈l,a0F x.Name=true/\v9 x.Rel=true):i8 ⟨l⟩=true:=by
 simp only [i8,W3,q0R,V7];refine ⟨by omega,a4x.2 fun i hi=>?_⟩;have h1:=h _ (s6 (l:=l) default hi);simp only [a0s,q0V,q0P];refine ⟨⟨h1.1,h1.2⟩, ?_⟩;cases hd:decide (0 < i) with
 | false=>rfl
 | true=>
   have hp:0 < i:=of_decide_eq_true hd;have h3:=q2J.1 hs (i - 1) i (by rw [q0G];omega) (by rw [q0G];exact hi) (by omega);rw [q4I,q4I] at h3;rw [q0S,q0P,i7 default hi,i7 default (show i - 1 < l.length by omega)];exact h3
def b8U {s:c7} (h:i8 s=true):∀ x∈s.Rels,a0F x.Name=true/\v9 x.Rel=true:=by
 intro x hx;obtain ⟨i,hi,rfl⟩:=q1L hx;simp only [i8,W3,q0R] at h;have h2:=a4x.1 h.2 i hi;rw [a0s,i7 default hi] at h2;simp only [q0V,q0P] at h2;exact h2.1
def d2N {p:c4} (hg:w8 p=true) {v:List UInt8} (hv:v∈vwS p):a0F v=true:=by
 have hd:=c1R hg hv;obtain ⟨x,hx,hp,e⟩:=b0E (a8b hg hv).1;simp only [a1P,W3] at hd;have h1:=hd.1.2;rw [a0a,e] at h1;have h2:x.Name=v:=by simpa using hp
 rw [show (some x).getD default=x from rfl,h2] at h1;rw [c5F,W3] at h1;exact h1.1
def d2w {p:c4} {s:c7} (hg:w8 p=true) (hs:i8 s=true) (hA:arOk p s) (n:Int):∀ L:List d8,(∀ l∈L,l.Name∈vwS p)->a6w p s n L=true->∀ x∈a7A p s n L,(a0F x.Name=true/\v9 x.Rel=true)/\(z5 p x.Name=true->x.Rel.Arity=t5 p x.Name):=by
 intro L;rw [a7A]
 suffices h:∀ (L:List d8) (o:List c9),(∀ l∈L,l.Name∈vwS p)->a6w p s n L=true->(∀ x∈o,(a0F x.Name=true/\v9 x.Rel=true)/\(z5 p x.Name=true->x.Rel.Arity=t5 p x.Name))->∀ x∈L.foldl (a3x p s n) o,(a0F x.Name=true/\v9 x.Rel=true)/\(z5 p x.Name=true->x.Rel.Arity=t5 p x.Name) from fun h1 h2=>h L _ h1 h2 fun x hx=>⟨b8U hs x hx,hA x hx⟩
 intro L
 induction L with
 | nil=>intro o _ _ ho;exact ho
 | cons l L ih=>
   intro o hV ha ho;rw [a6w,q2O,W3] at ha;rw [q1X];refine ih _ (fun y hy=>hV y (q2D _ hy)) ha.2 fun x hx=>?_
   rw [a3x] at hx;cases hc:l.N==n with
   | false=>rw [hc] at hx;exact ho x hx
   | true=>
     rw [hc,W7] at hx;have hv:=hV l q2X;have hk:=d5c hg hs hA hv (by rw [hc] at ha;simpa using ha.1);rcases b1h hx with rfl | hx
     ·exact ⟨⟨d2N hg hv,hk.1⟩,fun _=>hk.2⟩
     ·exact ho x hx
def a2P {p:c4} {L:List d8} {s:c7} {n:Int} (hg:w8 p=true) (hs:i8 s=true) (hA:arOk p s) (hV:∀ l∈L,l.Name∈vwS p) (h:(n7 p L s n).2=true):i8 (n7 p L s n).1=true/\arOk p (n7 p L s n).1:=by
 rw [n7] at h ⊢;cases h1:a6w p s n L&&decide (((a7A p s n L).length:Int)<=24) with
 | false=>rw [h1] at h;cases h
 | true=>
   rw [W3,V7] at h1;have h2:=d2w hg hs hA n L hV h1.1;exact ⟨b8S (by omega) (a9t p n (a3y hs) L).1 fun x hx=>(h2 x hx).1,fun x hx=>(h2 x hx).2⟩
attribute [local irreducible] aft blk lpK retK AW A0c
set_option maxHeartbeats 4000000
attribute [local irreducible] RM
def a1s (p:c4) (s:c7):Prop:=i8 s=true/\arOk p s
noncomputable def b8x (p:c4) (L:List d8) (n:Int):Nat->c7->c7×Bool
 | 0,s=>(s,true)
 | k+1,s=>bif (n7 p L s n).2 then (bif decide (u6 s < u6 (n7 p L s n).1) then b8x p L n k (n7 p L s n).1 else ((n7 p L s n).1,true)) else (default,false)
noncomputable def a4q (p:c4) (L:List d8) (n:Int) (s:c7):c7×Bool:=b8x p L n (7201 - u6 s) s
def a1c {s:c7} (h:i8 s=true):u6 s<=7200:=by
 rw [<- b2W (s:=s) (i:=s.Rels.length) (by omega)];exact b8I h (q0C _)
def c1x {p:c4} {L:List d8} {n:Int} (hg:w8 p=true) (hV:∀ l∈L,l.Name∈vwS p):∀ (k k':Nat) {s:c7},a1s p s->7200 - u6 s < k->7200 - u6 s < k'->b8x p L n k s=b8x p L n k' s
 | 0,_,s,_,h,_=>by omega
 | _+1,0,s,_,_,h=>by omega
 | k+1,k' + 1,s,hs,h1,h2=>by
   rw [b8x,b8x];cases hr:(n7 p L s n).2 with
   | false=>rfl
   | true=>
     rw [W7,W7];cases hc:decide (u6 s < u6 (n7 p L s n).1) with
     | false=>rfl
     | true=>
       have h3:=a2P hg hs.1 hs.2 hV hr;have h4:=a1c h3.1;have h5:=of_decide_eq_true hc;exact c1x hg hV k k' h3 (by omega) (by omega)
def c1y {p:c4} {L:List d8} {n:Int} (hg:w8 p=true) (hV:∀ l∈L,l.Name∈vwS p) {s:c7} (hs:a1s p s):a4q p L n s=bif (n7 p L s n).2 then (bif decide (u6 s < u6 (n7 p L s n).1) then a4q p L n (n7 p L s n).1 else ((n7 p L s n).1,true)) else (default,false):=by
 have h0:=a1c hs.1;rw [a4q,show 7201 - u6 s=(7200 - u6 s)+1 by omega,b8x];cases hr:(n7 p L s n).2 with
 | false=>rfl
 | true=>
   rw [W7,W7];cases hc:decide (u6 s < u6 (n7 p L s n).1) with
   | false=>rfl
   | true=>
     have h3:=a2P hg hs.1 hs.2 hV hr;have h4:=a1c h3.1;have h5:=of_decide_eq_true hc;rw [W7,W7,a4q];exact c1x hg hV _ _ h3 (by omega) (by omega)
def d0e {p:c4} {L:List d8} {n:Int} (hg:w8 p=true) (hV:∀ l∈L,l.Name∈vwS p):∀ (k:Nat) {s:c7},a1s p s->(b8x p L n k s).2=true->a1s p (b8x p L n k s).1
 | 0,s,hs,_=>hs
 | k+1,s,hs,h=>by
   rw [b8x] at h ⊢;cases hr:(n7 p L s n).2 with
   | false=>rw [hr] at h;cases h
   | true=>
     rw [hr] at h;rw [W7] at h ⊢;have h3:=a2P hg hs.1 hs.2 hV hr;cases hc:decide (u6 s < u6 (n7 p L s n).1) with
     | false=>exact h3
     | true=>rw [hc] at h;exact d0e hg hV k h3 h
noncomputable def upR (p:c4) (L:List d8) (s:c7):Nat->c7×Bool
 | 0=>(s,true)
 | n+1=>bif (upR p L s n).2 then a4q p L n (upR p L s n).1 else (default,false)
def b8Y {p:c4} {L:List d8} (hg:w8 p=true) (hV:∀ l∈L,l.Name∈vwS p) {s:c7} (hs:a1s p s):∀ {n:Nat},(upR p L s n).2=true->a1s p (upR p L s n).1
 | 0,_=>hs
 | n+1,h=>by
   rw [upR] at h ⊢;cases hu:(upR p L s n).2 with
   | false=>rw [hu] at h;cases h
   | true=>
     rw [hu] at h;rw [W7] at h ⊢;exact d0e hg hV _ (b8Y hg hV hs hu) h
def c3G {p:c4} {L:List d8} {s:c7} {n:Nat} (h:(upR p L s n).2=false):∀ {m:Nat},n<=m->(upR p L s m).2=false/\(n < m->upR p L s m=(default,false))
 | 0,hm=>by cases Nat.le_zero.1 hm;exact ⟨h,fun h=>by omega⟩
 | m+1,hm=>by
   by_cases hn:n=m+1
   ·subst hn;exact ⟨h,fun h=>by omega⟩
   ·have h1:=(c3G h (m:=m) (by omega)).1;have h2:upR p L s (m+1)=(default,false):=by rw [upR,h1];rfl
    exact ⟨by rw [h2],fun _=>h2⟩
def c8v {p:c4} {L:List d8} {s:c7} {n:Int} (hs:i8 s=true) (h:∀ l∈L,¬ l.N=n):n7 p L s n=(s,true):=by
 have h1:a7A p s n L=s.Rels:=by
  rw [a7A];generalize s.Rels=o
  induction L generalizing o with
  | nil=>rfl
  | cons l L ih=>
    rw [q1X,b8R (by simpa [bne] using h l q2X)];exact ih (fun y hy=>h y (q2D _ hy)) o
 have h2:a6w p s n L=true:=q0L.2 fun l hl=>by
  rw [show (l.N==n)=false by simpa using h l hl];rfl
 rw [n7,h1,h2,V1 (by have:=a1p hs;omega)];rfl
def d4Z {p:c4} {L:List d8} {s:c7} {n:Int} (hs:i8 s=true) (h:∀ l∈L,¬ l.N=n):a4q p L n s=(s,true):=by
 have h0:=a1c hs;rw [a4q,show 7201 - u6 s=(7200 - u6 s)+1 by omega,b8x,c8v hs h,W7,V4 (Nat.lt_irrefl _)];rfl
def c5X {p:c4} {L:List d8} (hg:w8 p=true) (hV:∀ l∈L,l.Name∈vwS p) {s:c7} (hs:a1s p s) {n:Nat} (hn:∀ l∈L,l.N < n):∀ {m:Nat},n<=m->(upR p L s n).2=true->upR p L s m=upR p L s n
 | 0,hm,_=>by cases Nat.le_zero.1 hm;rfl
 | m+1,hm,h=>by
   by_cases he:n=m+1
   ·subst he;rfl
   ·have h1:=c5X hg hV hs hn (m:=m) (by omega) h;rw [upR,h1,h,W7,d4Z (b8Y hg hV hs h).1 (fun l hl=>by have:=hn l hl;omega)];rw [<- h]
def b0R (b:c7) (a:c7):A0c Tryz.prog 135 [(true,[f8 b.Rels]),(true,[f8 a.Rels])] [] (.tup []):=by
 refine sx' false false none Tryz.func135 (g' 2 [ao (.box 1 (.t 0)),ao (.box 1 (.t 1))]) [] [] ?_;intro hb hE;simp only [go_sem];repeat' first | apply cj' | intro hc | exact om' | fail
noncomputable def a3H:CT:=i6 (fun (x:c7×c7)=>b0R x.1 x.2)
@[go_sem] def c4v:=fun x0 x1=>nm' (fQ' a3H rfl (⟨x0⟩,⟨x1⟩))
def b7i {p:c4} (hg:w8 p=true):∃ g,(f9 p).1=lvl p g/\Least p g:=by
 have h1:(f9 p).2=true:=by
  rw [w8,W3] at hg;exact hg.1
 by_cases h:∃ g,Least p g
 ·refine ⟨h.choose, ?_,h.choose_spec⟩;rw [f9,a2O h1,W7,dif_pos h]
 ·rw [f9,a2O h1,W7,dif_neg h] at h1;cases h1
def b2q {p:c4} (hg:w8 p=true):(∀ l∈(f9 p).1,l.Name∈vwS p)/\(∀ l∈(f9 p).1,0<=l.N/\l.N<=((f9 p).1.length:Int)):=by
 obtain ⟨g,h1,h2⟩:=b7i hg;rw [h1];refine ⟨fun l hl=>?_,fun l hl=>?_⟩
 ·obtain ⟨v,hv,rfl⟩:=q0T.1 hl;exact hv
 ·obtain ⟨v,hv,rfl⟩:=q0T.1 hl;have:=h2.le v hv;have:=h2.low.ge v;rw [a5t];exact ⟨this,by assumption⟩
def c5z {p:c4} (hg:w8 p=true):(f9 p).1.length<=64:=by
 obtain ⟨g,h1,_⟩:=b7i hg;have h2:=c3I (a0p (w9 hg));rw [h1,a5t];omega
noncomputable def b9L (p:c4) (s:c7):c7×Bool:=upR p (f9 p).1 s ((f9 p).1.length+1)
def b8T {s:c7} (hs:i8 s=true):s.Rels.length<=1000/\∀ x∈s.Rels,x.Rel.Rows.length<=100000/\∀ y∈x.Rel.Rows,y.V.length < 1000:=by
 have hsl:=a1p hs;exact ⟨by omega,fun x hx=>by
   have h:=a3v (a1q hs x hx);exact ⟨by omega,fun y hy=>(h.2 y hy).2⟩⟩
def c0S (p:c4) (s:c7) (hpre:w8 p=true/\a1s p s):A0c Tryz.prog 67 [(true,[j9 p.Decls,j6 p.Rules]),(true,[f8 s.Rels])] [] (.tup [(true,[f8 (((b9L p s).1).Rels)]),(false,[.b ((b9L p s).2)])]):=by
 refine sx' false true none Tryz.func67 (q' 2 [ao (.box 2 (.t 0)),ao (.box 1 (.t 1)),aw [.sl i4],ao (.mov (bb false))] (q' 14 [ae 2 2,ac 127 [14],aV 13,ao (.ext (.t 13) 0),ao (.ext (.t 13) 1),av 6 16,aV 7] (q' 18 [ae 1 3,ac 128 [18],ax (w' 8 [.sl i4]),aS 1 8 19] (.seq (q' 9 [aK 0] (.block 0 (.loop (.seq (q' 20 [aM [9,6],aN,ao (.bin .leq (.t 20) (.t 22))] (.cond (.t 23) .skip (.exit 0))) (.seq (.block 1 (q' 10 [ao (.mov (.k (.v false [.c (.i .i64 (-1))])))] (.block 2 (.loop (.seq (q' 26 [am 10,ae 1 8,ac 129 [27],ar 26 28] (.cond (.t 29) .skip (.exit 2))) (.block 3 (q' 30 [ae 1 8,ac 129 [30],aV 10] (q' 33 [ae 2 2,am 6,ae 1 8,am 9,ac 130 [33,34,35,36],aV 32,ao (.ext (.t 32) 0),ao (.ext (.t 32) 1),ax (w' 11 [.sl i4]),aS 1 11 38,aV 12] (.seq (q' 40 [am 12,ao (.not (.t 40))] (.cond (.t 41) (q' 42 [ao (.bld [.sl i4] []),aS 1 4 42,ab 5 false] .ret) .skip)) (g' 43 [ae 1 11,aS 1 8 43])))))))))) (g' 24 [aB 9])))))) (q' 44 [ae 1 8,aS 1 4 44,ab 5 true] .ret))))) [.c 4 true 1,.t 5] [(127,[],a4k),(128,[],a3k),(129,[],a7s),(130,[],a6e)] ?_;intro hb hE;obtain ⟨hg,hs⟩:=hpre;have hL:=c5z hg;have hV:=b2q hg;have hcp:=b8T hs.1;simp only [go_sem];repeat' first | apply cj' | intro hc | exact om' | fail
 ·exact hcp
 refine lq' false [2,4,6,8] [4] [] (fun i:{i:Nat // i<=(f9 p).1.length+1/\(upR p (f9 p).1 s i).2=true}=>[(9,slV (.i .i64 i.1))]) (fun i=>[(16,[.c (f8 (upR p (f9 p).1 s i.1).1.Rels)]),(8,[.nl i4])]) nl' (fun i=>(f9 p).1.length+1 - i.1) (⟨0,by omega,rfl⟩) ?_;intro S0 hS0 i;obtain ⟨m,hm,hu⟩:=i;have hst:=b8Y hg hV.1 hs hu;have hr0:=a1c hst.1;have hup:upR p (f9 p).1 s (m+1)=a4q p (f9 p).1 m (upR p (f9 p).1 s m).1:=by rw [upR,hu];rfl
 have hms:(m:Int)=m:=rfl;simp only [go_sem,hS0];repeat' first | apply cj' | intro hc | exact om' | fail
 rotate_left
 ·rw [b9L,show (f9 p).1.length+1=m by omega,hu];exact ⟨rfl,rfl⟩
 generalize hst0:(upR p (f9 p).1 s m).1=st at *;refine lq' false [2,4,6,8,9] [4] [] (fun i:{q:Int×c7 // a1s p q.2/\-1<=q.1/\q.1<=7200/\(q.1 < u6 q.2->a4q p (f9 p).1 m q.2=a4q p (f9 p).1 m st)/\(¬ q.1 < u6 q.2->a4q p (f9 p).1 m st=(q.2,true))}=>[(10,slV (.i .i64 i.1.1))]) (fun i=>[(16,[.c (f8 i.1.2.Rels)]),(8,[.nl i4])]) nl' (fun i=>(7201 - i.1.1).toNat) (⟨(-1,st),hst,by omega,by omega,fun _=>rfl,fun h=>absurd h (by show ¬¬(-1:Int) < _;omega)⟩) ?_;intro S1 hS1 i;obtain ⟨⟨r,o⟩,ho,hr1,hr2,hrl,hrx⟩:=i;simp only at ho hr1 hr2 hrl hrx;have ho0:=a1c ho.1;have hstep:=c1y hg hV.1 (n:=m) ho;simp only [go_sem,hS0,hS1];repeat' first | apply cj' | intro hc | exact om' | fail
 ·exact ho.1
 ·exact ho.1
 ·exact ⟨⟨⟨⟨hg,ho.1⟩,ho.2⟩,hV.1⟩,by omega⟩
 ·have hlt:=‹r < (u6 o:Int)›;have e:=(hrl hlt).symm.trans hstep;rw [hc,W9] at e;have h1:(upR p (f9 p).1 s (m+1)).2=false:=by rw [hup,e]
  have h3:upR p (f9 p).1 s ((f9 p).1.length+1)=(default,false):=by
   by_cases he:m+1=(f9 p).1.length+1
   ·rw [<- he,hup,e]
   ·exact (c3G h1 (by omega)).2 (by omega)
  rw [b9L,h3];exact ⟨rfl,rfl⟩
 ·have hlt:=‹r < (u6 o:Int)›;have e:=(hrl hlt).symm.trans hstep;rw [hc,W7] at e;have h3:=a2P hg ho.1 ho.2 hV.1 hc;have h4:=a1c h3.1;have e1:(u6 o:Int) < u6 (n7 p (f9 p).1 o m).1->a4q p (f9 p).1 m (n7 p (f9 p).1 o m).1=a4q p (f9 p).1 m st:=fun h=>by rw [e,V1 (by omega),W7]
  have e2:¬ (u6 o:Int) < u6 (n7 p (f9 p).1 o m).1->a4q p (f9 p).1 m st=((n7 p (f9 p).1 o m).1,true):=fun h=>by rw [e,V4 (by omega),W9]
  exact nx1 ⟨((u6 o:Int),(n7 p (f9 p).1 o m).1),h3,by omega,by omega,e1,e2⟩
 ·have e3:upR p (f9 p).1 s (m+1)=(o,true):=by rw [hup,hrx hc]
  (refine lpK_n2 (⟨m+1,by omega,by rw [e3]⟩) _ rfl ?_;simp only [go_sem,hS0,hS1]<;>repeat' first | apply W8 | exact on' | fail)
  all_goals rw [e3]
noncomputable def a8K:CT:=k8 (fun (x:c4×c7) h=>c0S x.1 x.2 h)
@[go_sem] def d1Y:=fun x0 x1 x2=>nm' (fP' a8K rfl (⟨x0,x1⟩,⟨x2⟩))
def mxN (L:List d8):Int:=L.foldl (fun a l=>max a l.N) 0
def d5e {L:List d8} {i:Nat} (h:i < L.length):mxN (L.take (i+1))=max (mxN (L.take i)) (L.getD i default).N:=by
 rw [mxN,i3 default h,q2V];rfl
def mxF (L:List d8):∀ a:Int,a<=L.foldl (fun a l=>max a l.N) a/\(∀ l∈L,l.N<=L.foldl (fun a l=>max a l.N) a)/\∀ b,a<=b->(∀ l∈L,l.N<=b)->L.foldl (fun a l=>max a l.N) a<=b:=by
 induction L with
 | nil=>intro a;exact ⟨Int.le_refl _,by simp,fun b h _=>h⟩
 | cons x L ih=>
   intro a;rw [q1X];have h:=ih (max a x.N);refine ⟨by omega,fun l hl=>?_,fun b hb hl=>h.2.2 b ?_ fun l h=>hl l (q2D _ h)⟩
   ·rcases V6.1 hl with rfl | hl
    ·omega
    ·exact h.2.1 l hl
   ·have:=hl x q2X;omega
noncomputable def a1C (p:c4) (s:c7):c7×Int:=bif (b9L p s).2 then ((b9L p s).1,0) else (default,2)
def b7F (p:c4) (s:c7) (hpre:w8 p=true/\a1s p s):A0c Tryz.prog 134 [(true,[j9 p.Decls,j6 p.Rules]),(true,[f8 s.Rels]),(false,[.f 135 []])] [] (.tup [(true,[f8 (((a1C p s).1).Rels)]),(false,[.i .i64 ((a1C p s).2)])]):=by
 refine sx' false true none Tryz.func134 (q' 3 [ao (.box 2 (.t 0)),ao (.box 1 (.t 1)),ax (w' 6 [.sl i4]),az 7 0] (q' 18 [ae 2 3,ac 200 [18],aV 17,ao (.ext (.t 17) 0),ao (.ext (.t 17) 1),av 8 20,aV 9] (q' 10 [aK 0] (.seq (q' 22 [am 8,aN,aK 0] (.block 0 (.loop (q' 25 [ar 24 23] (.seq (.cond (.t 25) .skip (.exit 0)) (.seq (.block 1 (q' 26 [ai 2 22 24,aE 2,ax (w' 12 [.s,.i .i64]),aS 2 12 27] (g' 28 [am 10,aG 1 12,ao (.max2 (.t 28) (.t 30)),aV 10]))) (g' 32 [aA 24]))))))) (.seq (q' 13 [aK 0] (.block 2 (.loop (.seq (q' 33 [aM [13,10],ao (.bin .leq (.t 33) (.t 34))] (.cond (.t 35) .skip (.exit 2))) (.seq (.block 3 (q' 0 [ab 14 true] (.block 4 (.loop (.seq (q' 38 [am 14] (.cond (.t 38) .skip (.exit 4))) (.block 5 (q' 40 [ae 2 3,am 8,ae 1 4,am 13,ac 204 [40,41,42,43],aV 39,ao (.ext (.t 39) 0),ao (.ext (.t 39) 1),ax (w' 15 [.sl i4]),aS 1 15 45,aV 16] (.seq (q' 47 [am 16,ao (.not (.t 47))] (.cond (.t 48) (q' 49 [ao (.bld [.sl i4] []),aS 1 6 49,az 7 2] .ret) .skip)) (q' 50 [am 2,ae 1 4,ae 1 15,ao (.callv (.t 50) [.t 51,.t 52])] (.seq (G' 54 [ae 1 15,ac 205 [54],ae 1 4,ac 205 [56],ao (.bin .gtr (.t 55) (.t 57)),aV 14]) (g' 59 [ae 1 15,aS 1 4 59]))))))))))) (g' 36 [aB 13])))))) (q' 60 [ae 1 4,aS 1 6 60,az 7 0] .ret)))))) [.c 6 true 1,.t 7] [(200,[],a3V),(205,[],a4B),(204,[],b0o),(135,[],a3H)] ?_;intro hb hE;obtain ⟨hg,hs⟩:=hpre;have hL:=c5z hg;have hV:=b2q hg;simp only [go_sem];repeat' first | apply cj' | intro hc | exact om' | fail
 refine a5i 2432 ?_;refine lq' false [2,3,4,6,8,22,23] [6] [] (fun i:{i:Nat // i<=(f9 p).1.length}=>[(10,slV (.i .i64 (mxN ((f9 p).1.take i.1)))),(24,slV (.i .i64 i.1))]) (fun i=>[(8,[.c (f8 s.Rels)]),(12,[.nl i4])]) nl' (fun i=>(f9 p).1.length - i.1) (⟨0,by omega⟩) ?_;intro S0 hS0 i;obtain ⟨i,hi⟩:=i;simp only [go_sem,hS0];repeat' first | apply cj' | intro hc | exact om' | fail
 ·(refine lpK_n2 (⟨i+1,by omega⟩) _ rfl ?_;simp only [go_sem,hS0]<;>repeat' first | apply W8 | exact on' | fail)
  all_goals rw [d5e (by omega)]
  all_goals (split<;>omega)
 rw [f7 (by omega)];have hM:=mxF (f9 p).1 0;have hM2:=hM.2.2 ((f9 p).1.length:Int) (by omega) fun l hl=>(hV.2 l hl).2
 change 0<=mxN (f9 p).1/\(∀ l∈(f9 p).1,l.N<=mxN (f9 p).1)/\_ at hM;change mxN (f9 p).1<=_ at hM2;generalize mxN (f9 p).1=M at *;refine lq' false [2,3,4,6,8,10] [6] [] (fun i:{q:Nat×c7 // (q.1:Int)<=M+1/\upR p (f9 p).1 s q.1=(q.2,true)}=>[(13,slV (.i .i64 i.1.1))]) (fun i=>[(8,[.c (f8 i.1.2.Rels)]),(12,[.nl i4])]) nl' (fun i=>(M+1 - i.1.1).toNat) (⟨(0,s),by show ((0:Nat):Int)<=M+1;omega,rfl⟩) ?_;intro S1 hS1 i;obtain ⟨⟨m,st⟩,hm,hu0⟩:=i;simp only at hm hu0;have hu:(upR p (f9 p).1 s m).2=true:=by rw [hu0]
 have hst:=b8Y hg hV.1 hs hu;rw [hu0] at hst;simp only at hst;have hr0:=a1c hst.1;have hup:upR p (f9 p).1 s (m+1)=a4q p (f9 p).1 m st:=by rw [upR,hu0];rfl
 simp only [go_sem,hS0,hS1];repeat' first | apply cj' | intro hc | exact om' | fail
 rotate_left
 ·have h1:=c5X hg hV.1 hs (n:=m) (m:=(f9 p).1.length+1) (fun l hl=>by have:=hM.2.1 l hl;omega) (by omega) hu;rw [a1C,b9L,h1,hu0];exact ⟨rfl,rfl⟩
 refine lq' false [2,3,4,6,8,10,13] [6] [] (fun i:{q:Bool×c7 // a1s p q.2/\(q.1=true->a4q p (f9 p).1 m q.2=a4q p (f9 p).1 m st)/\(q.1=false->a4q p (f9 p).1 m st=(q.2,true))}=>[(14,slV (.b i.1.1))]) (fun i=>[(8,[.c (f8 i.1.2.Rels)]),(12,[.nl i4])]) nl' (fun i=>(bif i.1.1 then 7202 - u6 i.1.2 else 0)) (⟨(true,st),hst,fun _=>rfl,fun h=>by cases h⟩) ?_;intro S2 hS2 i;obtain ⟨⟨r,o⟩,ho,hrl,hrx⟩:=i;simp only at ho hrl hrx;have ho0:=a1c ho.1;have hstep:=c1y hg hV.1 (n:=m) ho;simp only [go_sem,hS0,hS1,hS2];repeat' first | apply cj' | intro hc | exact om' | fail
 ·exact ⟨⟨hg,ho.1⟩,by omega⟩
 ·have e:=(hrl ‹r=true›).symm.trans hstep;rw [hc,W9] at e;have h1:(upR p (f9 p).1 s (m+1)).2=false:=by rw [hup,e]
  have h3:upR p (f9 p).1 s ((f9 p).1.length+1)=(default,false):=by
   by_cases he:m+1=(f9 p).1.length+1
   ·rw [<- he,hup,e]
   ·exact (c3G h1 (by omega)).2 (by omega)
  rw [a1C,b9L,h3];exact ⟨rfl,rfl⟩
 ·exact (a2P hg ho.1 ho.2 hV.1 hc).1
 ·exact ho.1
 ·have e:=(hrl ‹r=true›).symm.trans hstep;rw [hc,W7] at e;have h3:=a2P hg ho.1 ho.2 hV.1 hc;have h4:=a1c h3.1;have e1:decide ((u6 o:Int) < u6 (n7 p (f9 p).1 o m).1)=true->a4q p (f9 p).1 m (n7 p (f9 p).1 o m).1=a4q p (f9 p).1 m st:=fun h=>by
   have:=of_decide_eq_true h;rw [e,V1 (by omega),W7]
  have e2:decide ((u6 o:Int) < u6 (n7 p (f9 p).1 o m).1)=false->a4q p (f9 p).1 m st=((n7 p (f9 p).1 o m).1,true):=fun h=>by
   have:=of_decide_eq_false h;rw [e,V4 (by omega),W9]
  have e4:(bif decide ((u6 o:Int) < u6 (n7 p (f9 p).1 o m).1) then 7202 - u6 (n7 p (f9 p).1 o m).1 else 0) < (bif r then 7202 - u6 o else 0):=by
   rw [‹r=true›,W7];cases h:decide ((u6 o:Int) < u6 (n7 p (f9 p).1 o m).1) with
   | false=>rw [W9];omega
   | true=>have:=of_decide_eq_true h;rw [W7];omega
  (refine lpK_n2 (⟨(decide ((u6 o:Int) < u6 (n7 p (f9 p).1 o m).1),(n7 p (f9 p).1 o m).1),h3,e1,e2⟩) _ rfl ?_;simp only [go_sem,hS0,hS1,hS2]<;>repeat' first | apply W8 | exact on' | fail)
 ·have e3:upR p (f9 p).1 s (m+1)=(o,true):=by rw [hup,hrx hc]
  (refine lpK_n2 (⟨(m+1,o),by show ((m+1:Nat):Int)<=M+1;omega,e3⟩) _ rfl ?_;simp only [go_sem,hS0,hS1,hS2]<;>repeat' first | apply W8 | exact on' | fail)
noncomputable def a6L:CT:=k8 (fun (x:c4×c7) h=>b7F x.1 x.2 h)
@[go_sem] def c8U:=fun x0 x1 x2=>nm' (fP' a6L rfl (⟨x0,x1⟩,⟨x2⟩))
def d2d {p:c4} (hg:w8 p=true) {d:d9} (hm:d∈p.Decls):a0a p d.Name=d/\t5 p d.Name=d.Arity:=by
 have hd:=(a3u (by simpa using w9 hg)).2.1;obtain ⟨i,hi,rfl⟩:=q1L hm;rw [<- i7 default hi];have ha:((p.Decls.take i).any fun d=>d.Name==(p.Decls.getD i default).Name)=false:=by
  rw [q2L];intro x hx;obtain ⟨j,hj,rfl⟩:=q2Q.1 hx;have:=a5u hd hi (j:=j) (by omega);rw [i7 default (by omega)] at this;simpa using this
 have h1:=a7G hi ha (by simp);have h2:=hd i hi;rw [p9] at h2;simp only [q0V] at h2;refine ⟨h1.1, ?_⟩;rw [t5,h2.1.1,h2.1.2,h1.2,h1.1];rfl
def d2e:∀ l:List d9,∀ x∈v8 l,∃ d∈l,d.Name=x.Name/\d.Arity=x.Rel.Arity:=by
 intro l;have gen:∀ (l:List d9) (s:List c9) (L:List d9),(∀ d∈l,d∈L)->(∀ x∈s,∃ d∈L,d.Name=x.Name/\d.Arity=x.Rel.Arity)->∀ x∈l.foldl (fun s d=>a1r s d.Name ⟨d.Name,⟨d.Arity,[]⟩⟩) s,∃ d∈L,d.Name=x.Name/\d.Arity=x.Rel.Arity:=by
  intro l
  induction l with
  | nil=>intro s L _ h;exact h
  | cons d l ih=>
    intro s L hl h;rw [q1X];refine ih _ L (fun y hy=>hl y (q2D _ hy)) fun x hx=>?_
    rcases b1h hx with rfl | hx
    ·exact ⟨d,hl d q2X,rfl,rfl⟩
    ·exact h x hx
 exact gen l [] l (fun d h=>h) (by simp)
def a7V {p:c4} {s:c7} (h:a3w p s=true):w8 p=true/\a1s p s:=by
 simp only [a3w,W3] at h;refine ⟨h.1.1,h.1.2,fun x hx _=>?_⟩;obtain ⟨i,hi,rfl⟩:=q1L hx;have h2:=h.2;simp only [a1e,W3,V7,q0R] at h2;have h3:=a4x.1 h2.2 i hi;simp only [b3w,q0V,q0P,beq_iff_eq] at h3;obtain ⟨d,hd,hn,ha⟩:=d2e (a1b p 1) _ (s6 (l:=v8 (a1b p 1)) (i:=i) default (by omega));rw [i7 default hi] at h3;rw [h3.1,h3.2,<- hn,<- ha];exact ((d2d h.1.1 (q1C.1 hd).1).2).symm
def c4G {p:c4} {s:c7} (hg:w8 p=true) (hs:a1s p s):i8 (a1C p s).1=true:=by
 rw [a1C];cases h:(b9L p s).2 with
 | false=>rfl
 | true=>exact (b8Y hg (b2q hg).1 hs h).1
noncomputable def a3R (p:c4) (s:c7):c7×Int:=bif a3w p s then a1C p s else (default,1)
def d0s (p:c4) (s:c7):i8 (a3R p s).1=true:=by
 rw [a3R];cases h:a3w p s with
 | false=>rfl
 | true=>exact c4G (a7V h).1 (a7V h).2
def c6b {p:c4} {s:c7} (h:a3w p s=false):a3R p s=(default,1):=by rw [a3R,h];rfl
def b3a {p:c4} {s:c7} (h:a3w p s=true):a3R p s=a1C p s:=by rw [a3R,h];rfl
def b4I (p:c4) (s:c7) (hpre:w8 p=true/\a1s p s):A0c Tryz.prog 69 [(true,[j9 p.Decls,j6 p.Rules]),(true,[f8 s.Rels])] [] (.tup [(true,[f8 (((a1C p s).1).Rels)]),(false,[.i .i64 ((a1C p s).2)])]):=by
 refine sx' false true none Tryz.func69 (q' 2 [ao (.box 2 (.t 0)),ao (.box 1 (.t 1)),aw [.sl i4],aK 0] (q' 6 [ae 2 2,ae 1 3,ao (.call 134 [.t 6,.t 7,.k (.v false [.c (.f 135 [])])]),ao (.ext (.t 8) 0),ao (.ext (.t 8) 1),aS 1 4 9,aV 5] .ret)) [.c 4 true 1,.t 5] [(134,[],a6L)] ?_;intro hb hE;simp only [go_sem];repeat' first | apply cj' | intro hc | exact om' | fail
 ·exact hpre
noncomputable def a5F:CT:=k8 (fun (x:c4×c7) h=>b4I x.1 x.2 h)
@[go_sem] def c7m:=fun x0 x1 x2=>nm' (fP' a5F rfl (⟨x0,x1⟩,⟨x2⟩))
def b2K (p:c4) (s:c7):A0c Tryz.prog 26 [(true,[j9 p.Decls,j6 p.Rules]),(true,[f8 s.Rels])] [] (.tup [(true,[f8 (((a3R p s).1).Rels)]),(false,[.i .i64 ((a3R p s).2)])]):=by
 refine sx' false true none Tryz.func26 (q' 2 [ao (.box 2 (.t 0)),ao (.box 1 (.t 1)),aw [.sl i4],aK 0] (.seq (q' 8 [ae 2 2,ae 1 3,ac 66 [8,9],ao (.not (.t 10))] (.cond (.t 11) (q' 12 [ao (.bld [.sl i4] []),aS 1 4 12,az 5 1] .ret) .skip)) (q' 14 [ae 2 2,ae 1 3,ac 67 [14,15],aV 13,ao (.ext (.t 13) 0),ao (.ext (.t 13) 1),ax (w' 6 [.sl i4]),aS 1 6 17,aV 7] (.seq (q' 19 [am 7,ao (.not (.t 19))] (.cond (.t 20) (q' 21 [ao (.bld [.sl i4] []),aS 1 4 21,az 5 2] .ret) .skip)) (q' 22 [ae 1 6,aS 1 4 22,az 5 0] .ret))))) [.c 4 true 1,.t 5] [(66,[],a7o),(67,[],a8K)] ?_;intro hb hE;simp only [go_sem];repeat' first | apply cj' | intro hc | exact om' | fail
 ·rw [c6b hc];exact ⟨rfl,rfl⟩
 ·exact a7V hc
 ·rename_i h;rw [b3a h,a1C,hc];exact ⟨rfl,rfl⟩
 ·rename_i h;rw [b3a h,a1C,hc];exact ⟨rfl,rfl⟩
noncomputable def a4N:CT:=i6 (fun (x:c4×c7)=>b2K x.1 x.2)
@[go_sem] def c6t:=fun x0 x1 x2=>nm' (fQ' a4N rfl (⟨x0,x1⟩,⟨x2⟩))
def a8g (p:c4) (x:c9):Bool:=a0b p x.Name==3
def c8C (p:c4) (s:c7):c7:=⟨s.Rels.filter (a8g p)⟩
noncomputable def a1N (p:c4) (s:c7):c7×Int:=(c8C p (a3R p s).1,(a3R p s).2)
def d2E {l:List c9} {x:c9} (h:∀ y∈l,sLt y.Name x.Name=true):a1r l x.Name x=l++[x]:=by
 have e:l.takeWhile (fun y=>sLt y.Name x.Name)=l/\l.dropWhile (fun y=>sLt y.Name x.Name)=[]:=by
  induction l with
  | nil=>exact ⟨rfl,rfl⟩
  | cons y l ih=>
    have h1:=h y q2X;obtain ⟨a,b⟩:=ih fun z hz=>h z (q2D _ hz)
    exact ⟨by rw [q2B,if_pos h1,a],by rw [q3A,if_pos h1,b]⟩
 obtain ⟨e1,e2⟩:=e;rw [a5x,e1,e2];rfl
def d2g {p:c4} {s:c7} (hs:SS sLt (s.Rels.map c9.Name)) {i:Nat} (hi:i < s.Rels.length):∀ y∈(s.Rels.take i).filter (a8g p),sLt y.Name (s.Rels.getD i default).Name=true:=by
 intro y hy;obtain ⟨j,hj,rfl⟩:=q2Q.1 (q1C.1 hy).1;have h:=q2J.1 (q3N.1 hs) j i (by omega) hi (by omega);rw [i7 default hi];exact h
def a7J {p:c4} {s:c7} {i:Nat} (h:i < s.Rels.length):(s.Rels.take (i+1)).filter (a8g p)=(s.Rels.take i).filter (a8g p)++(bif a8g p (s.Rels.getD i default) then [s.Rels.getD i default] else []):=by
 rw [i3 default h,q5I,q5B];cases a8g p (s.Rels.getD i default)<;>rfl
def c9T {p:c4} {s:c7} (h:s.Rels.length<=1000/\∀ x∈s.Rels,x.Rel.Rows.length<=100000/\∀ y∈x.Rel.Rows,y.V.length < 1000) (i:Nat):((s.Rels.take i).filter (a8g p)).length<=1000/\∀ x∈(s.Rels.take i).filter (a8g p),x.Rel.Rows.length<=100000/\∀ y∈x.Rel.Rows,y.V.length < 1000:=
 ⟨q2M (q1T _ _) (by rw [V0];omega),fun x hx=>h.2 x (q1V (q1C.1 hx).1)⟩
def b2y (p:c4) (s:c7) (hpre:s.Rels.length<=1000/\∀ x∈s.Rels,x.Rel.Rows.length<=100000/\∀ y∈x.Rel.Rows,y.V.length < 1000):A0c Tryz.prog 75 [(true,[j9 p.Decls,j6 p.Rules]),(true,[f8 s.Rels])] [] (.one (true,[b0L ((c8C p s).Rels)])):=by
 refine sx' true false none Tryz.func75 (q' 2 [ao (.box 2 (.t 0)),ao (.box 1 (.t 1)),aw [.sl i4]] (q' 5 [ax (o' 8 (.bld [.sl i4] [])),aw [.sl i4],aS 1 5 8] (.seq (q' 9 [aG 0 3,aN,aK 0] (.block 0 (.loop (q' 13 [ar 12 11] (.seq (.cond (.t 13) .skip (.exit 0)) (.seq (.block 1 (q' 14 [ai 3 10 12,aE 3,ax (w' 7 [.s,.i .i64,.sl k7]),aS 3 7 15] (q' 16 [ae 2 2,aG 0 7,ac 139 [16,18],ao (.bin .eql (.t 19) (k' 3))] (.cond (.t 20) (g' 21 [aG 0 5,ae 3 7,ao (.bsl 3 1 [.s,.i .i64,.sl k7] [(0,.t 23)]),ao (.app 3 48 [.s,.i .i64,.sl k7] (.t 22) (.t 24)),af 0 5,aS 1 26 25]) .skip)))) (g' 27 [aA 12]))))))) (q' 28 [ae 1 5,ac 70 [28],aS 1 4 29] .ret)))) [.c 4 true 1] [(139,[],a0n),(70,[],a4A)] ?_;intro hb hE;obtain ⟨hl,hv⟩:=hpre;simp only [go_sem];repeat' first | apply cj' | intro hc | exact om' | fail
 refine b5q false [(true,10,0,200020)] ?_;refine lk' true [(true,10,0,200020)] [2,4,5,10,11] [4,8] [] (fun i:{i:Nat // i<=s.Rels.length}=>[(12,slV (.i .i64 i.1))]) (fun i=>[(10,[.ow 200020])]) (fun i=>[(200020,i4,((s.Rels.take i.1).filter (a8g p)).map (c9.cells false false))]) (fun i=>s.Rels.length - i.1) (⟨0,by simp⟩) ?_;intro S0 hS0 i;obtain ⟨i,hi⟩:=i;have hol:((s.Rels.take i).filter (a8g p)).length<=i:=q2M (q1T _ _) (by rw [V0];omega);simp only [go_sem,hS0];repeat' first | apply cj' | intro hc | exact om' | fail
 ·skip
  (refine lpK_n2 (⟨i+1,by omega⟩) _ (by simp only [go_sem];try rfl) ?_;simp only [go_sem,hS0]<;>repeat' first | apply W8 | exact on' | fail)
  all_goals (rw [a7J (by omega),a8g,hc];rfl)
 ·skip
  (refine lpK_n2 (⟨i+1,by omega⟩) _ (by simp only [go_sem];try rfl) ?_;simp only [go_sem,hS0]<;>repeat' first | apply W8 | exact on' | fail)
  all_goals (rw [a7J (by omega),a8g,hc,W9,q0E])
 ·exact c9T ⟨hl,hv⟩ i
 ·rw [f7 (by omega)];rfl
noncomputable def a4C:CT:=k8 (fun (x:c4×c7) h=>b2y x.1 x.2 h)
@[go_sem] def c6h:=fun x0 x1 x2=>nm' (fP' a4C rfl (⟨x0,x1⟩,⟨x2⟩))
def b5p (p:c4) (s:c7) (hpre:i8 s=true):A0c Tryz.prog 74 [(true,[j9 p.Decls,j6 p.Rules]),(true,[f8 s.Rels])] [] (.one (true,[f8 ((c8C p s).Rels)])):=by
 refine sx' false true none Tryz.func74 (q' 2 [ao (.box 2 (.t 0)),ao (.box 1 (.t 1)),aw [.sl i4]] (q' 5 [ax (o' 8 (.bld [.sl i4] [])),aw [.sl i4],aS 1 5 8] (.seq (q' 9 [aG 0 3,aN,aK 0] (.block 0 (.loop (q' 13 [ar 12 11] (.seq (.cond (.t 13) .skip (.exit 0)) (.seq (.block 1 (q' 14 [ai 3 10 12,aE 3,ax (w' 7 [.s,.i .i64,.sl k7]),aS 3 7 15] (q' 16 [ae 2 2,aG 0 7,ac 137 [16,18],ao (.fl false 0 1 (.t 19)),ao (.bin .eql (.t 20) (k' 3))] (.cond (.t 21) (g' 22 [ae 1 5,aG 0 7,af 1 7,aE 2,ac 138 [22,24,26],aS 1 5 27]) .skip)))) (g' 28 [aA 12]))))))) (q' 29 [ae 1 5,aS 1 4 29] .ret)))) [.c 4 true 1] [(137,[],a0t),(138,[],a2y)] ?_;intro hb hE;have hSS:=a3y hpre;have hcp:=b8T hpre;have hsl:=a1p hpre;simp only [go_sem];repeat' first | apply cj' | intro hc | exact om' | fail
 refine b5q false [(true,10,0,200020)] ?_;refine a5i 200020 ?_;refine lq' false [2,4,5,10,11] [4,8] [] (fun i:{i:Nat // i<=s.Rels.length}=>[(12,slV (.i .i64 i.1))]) (fun i=>[(10,[.c (f8 ((s.Rels.take i.1).filter (a8g p)))])]) nl' (fun i=>s.Rels.length - i.1) (⟨0,by simp⟩) ?_;intro S0 hS0 i;obtain ⟨i,hi⟩:=i;have hol:((s.Rels.take i).filter (a8g p)).length<=i:=q2M (q1T _ _) (by rw [V0];omega);simp only [go_sem,hS0];repeat' first | apply cj' | intro hc | exact om' | fail
 ·have h:=hcp.2 _ (A3v (l:=s.Rels) (d:=default) (i:=i) (by omega));exact ⟨⟨c9T hcp i,h.1⟩,h.2⟩
 ·skip
  (refine lpK_n2 (⟨i+1,by omega⟩) _ rfl ?_;simp only [go_sem,hS0]<;>repeat' first | apply W8 | exact on' | fail)
  all_goals (rw [a7J (by omega),a8g,a0b,hc,W7,d2E (d2g hSS (by omega))])
 ·skip
  (refine lpK_n2 (⟨i+1,by omega⟩) _ rfl ?_;simp only [go_sem,hS0]<;>repeat' first | apply W8 | exact on' | fail)
  all_goals (rw [a7J (by omega),a8g,a0b,hc,W9,q0E])
 ·rw [f7 (by omega)];rfl
noncomputable def a6g:CT:=k8 (fun (x:c4×c7) h=>b5p x.1 x.2 h)
@[go_sem] def c7S:=fun x0 x1 x2=>nm' (fP' a6g rfl (⟨x0,x1⟩,⟨x2⟩))
def d5C {p:c4} {s:c7} (h:a3w p s=false):a1N p s=(default,1):=by rw [a1N,c6b h];rfl
def d2O {p:c4} {s:c7} (h:¬ (a3R p s).2=0):(a1N p s).1=default:=by
 rw [a1N];have e:(a3R p s).1=default:=by
  rw [a3R] at h ⊢;cases h1:a3w p s with
  | false=>rfl
  | true=>
    rw [h1,W7,a1C] at h;rw [W7,a1C];cases h2:(b9L p s).2 with
    | false=>rfl
    | true=>rw [h2] at h;exact absurd rfl h
 rw [e];rfl
def b0O (p:c4) (s:c7):A0c Tryz.prog 31 [(true,[j9 p.Decls,j6 p.Rules]),(true,[f8 s.Rels])] [] (.tup [(true,[b0L (((a1N p s).1).Rels)]),(false,[.i .i64 ((a1N p s).2)])]):=by
 refine sx' true false none Tryz.func31 (q' 2 [ao (.box 2 (.t 0)),ao (.box 1 (.t 1)),aw [.sl i4],aK 0] (.seq (q' 8 [ae 2 2,ae 1 3,ac 68 [8,9],ao (.not (.t 10))] (.cond (.t 11) (q' 12 [ao (.bld [.sl i4] []),aS 1 4 12,az 5 1] .ret) .skip)) (q' 14 [ae 2 2,ae 1 3,ac 69 [14,15],aV 13,ao (.ext (.t 13) 0),ao (.ext (.t 13) 1),ax (w' 6 [.sl i4]),aS 1 6 17,aV 7] (q' 19 [ae 2 2,ae 1 6,ac 75 [19,20],am 7,aS 1 4 21,aV 5] .ret)))) [.c 4 true 1,.t 5] [(68,[],a6I),(69,[],a5F),(75,[],a4C)] ?_;intro hb hE;simp only [go_sem];repeat' first | apply cj' | intro hc | exact om' | fail
 ·rw [d5C hc];exact ⟨rfl,rfl⟩
 ·exact a7V hc
 ·exact b8T (c4G (a7V hc).1 (a7V hc).2)
 ·rw [a1N,b3a hc];exact ⟨rfl,rfl⟩
noncomputable def c2p:CT:=i6 (fun (x:c4×c7)=>b0O x.1 x.2)
@[go_sem] def d3b:=fun x0 x1 x2=>nm' (fQ' c2p rfl (⟨x0,x1⟩,⟨x2⟩))
def b7A (p:c4) (s:c7):A0c Tryz.prog 31 [(true,[j9 p.Decls,j6 p.Rules]),(true,[f8 s.Rels])] [] (.tup [(true,[f8 (((a1N p s).1).Rels)]),(false,[.i .i64 ((a1N p s).2)])]):=by
 exact a2S (b0O p s) (by simp only [go_sem,R.free,List.map])
noncomputable def a6J:CT:=i6 (fun (x:c4×c7)=>b7A x.1 x.2)
@[go_sem] def c8P:=fun x0 x1 x2=>nm' (fQ' a6J rfl (⟨x0,x1⟩,⟨x2⟩))
def c3r (p:c4) (s:c7):A0c Tryz.prog 30 [(true,[j9 p.Decls,j6 p.Rules]),(true,[f8 s.Rels])] [] (.tup [(true,[f8 (((a1N p s).1).Rels)]),(false,[.i .i64 ((a1N p s).2)])]):=by
 refine sx' false true none Tryz.func30 (q' 2 [ao (.box 2 (.t 0)),ao (.box 1 (.t 1)),aw [.sl i4],aK 0] (q' 9 [ae 2 2,ae 1 3,ac 26 [9,10],aV 8,ao (.ext (.t 8) 0),ao (.ext (.t 8) 1),ax (w' 6 [.sl i4]),aS 1 6 12,aV 7] (.seq (q' 14 [am 7,ao (.bin .neq (.t 14) (k' 0))] (.cond (.t 15) (q' 16 [ao (.bld [.sl i4] []),am 7,aS 1 4 16,aV 5] .ret) .skip)) (q' 18 [ae 2 2,ae 1 6,ac 74 [18,19],aS 1 4 20,az 5 0] .ret)))) [.c 4 true 1,.t 5] [(26,[],a4N),(74,[],a6g)] ?_;intro hb hE;simp only [go_sem];repeat' first | apply cj' | intro hc | exact om' | fail
 ·rw [d2O (by simpa using hc)];exact ⟨rfl,rfl⟩
 ·exact d0s p s
 ·exact ⟨rfl,(show (a3R p s).2=0 by simpa using hc).symm⟩
noncomputable def b0A:CT:=i6 (fun (x:c4×c7)=>c3r x.1 x.2)
@[go_sem] def d3z:=fun x0 x1 x2=>nm' (fQ' b0A rfl (⟨x0,x1⟩,⟨x2⟩))
end Go.Aw
namespace Go.Aw
open Go.Proofs
attribute [local irreducible] aft blk lpK retK AW A0c
set_option linter.all false
set_option maxRecDepth 100000
set_option maxHeartbeats 4000000
def d0p {a b:d3} (h:a.V=b.V):a=b:=by cases a;cases b;simp_all
def rel_ext {a b:e7} (h:a.Arity=b.Arity) (h2:a.Rows=b.Rows):a=b:=by cases a;cases b;simp_all
def nam_ext {a b:c9} (h:a.Name=b.Name) (h2:a.Rel=b.Rel):a=b:=by cases a;cases b;simp_all
def d2K {a b:c7} (h:a.Rels=b.Rels):a=b:=by cases a;cases b;simp_all
def b2p {α:Type} {a b:List α} (h:a=b) (i:Nat) (d:α):a.getD i d=b.getD i d:=by rw [h]
def d4S (a:List d3) (b:List d3):A0c Tryz.prog 195 [(false,[o8 a]),(false,[o8 b]),(false,[.f 190 []])] [] (.one (false,[.b (decide (a=b))])):=by
 refine sx' false false none Tryz.func195 (q' 0 [ab 6 false] (.seq (q' 10 [am 0,aN,am 1,aN,ao (.bin .neq (.t 11) (.t 13))] (.cond (.t 14) (q' 0 [ab 6 false] .ret) .skip)) (.seq (q' 15 [am 0,aN,aK 0] (.block 0 (.loop (q' 18 [ar 17 16] (.seq (.cond (.t 18) .skip (.exit 0)) (.seq (.block 1 (q' 19 [am 17,ai 1 15 17,aE 1,ax (w' 8 [.sl k6]),av 7 19,aS 1 8 21] (q' 22 [aM [1,7],aI 1,aE 1,ax (w' 9 [.sl k6]),aS 1 9 25] (q' 26 [am 2,ae 1 8,ae 1 9,ao (.callv (.t 26) [.t 27,.t 28]),ao (.not (.t 29))] (.cond (.t 30) (q' 0 [ab 6 false] .ret) .skip))))) (g' 31 [aA 17]))))))) (q' 0 [ab 6 true] .ret)))) [.t 6] [(190,[],a6T)] ?_;intro hb hE;simp only [go_sem];repeat' first | apply cj' | intro hc | exact om' | fail
 ·symm;rw [q1A];rintro rfl;simp at hc
 have hl:a.length=b.length:=by simpa [q2P] using hc
 refine lq' false [1,2,15,16] [] [] (fun i:{i:Nat // i<=a.length/\a.take i=b.take i}=>[(17,slV (.i .i64 i.1))]) nl' nl' (fun i=>a.length - i.1) (⟨0,by simp⟩) ?_;intro S0 hS0 i;obtain ⟨i,hi,ht⟩:=i;simp only [go_sem,hS0];repeat' first | apply cj' | intro hc | exact om' | fail
 ·exact (V4 fun e=>hc (congrArg d3.V (b2p e i default))).symm
 ·exact nx0 ⟨i+1,by omega,w5 ht (by omega) (by omega) (d:=default) (d0p hc)⟩
 ·exact (V1 (p7 hl ht (by omega))).symm
noncomputable def c4r:CT:=i6 (fun (x:(List d3)×(List d3))=>d4S x.1 x.2)
@[go_sem] def c_eqfRow_eq:=fun a b=>nm' (fQ' c4r rfl (a,b))
def b7O (a:e7) (b:e7):A0c Tryz.prog 122 [(true,[.i .i64 a.Arity,o8 a.Rows]),(true,[.i .i64 b.Arity,o8 b.Rows])] [] (.one (false,[.b (decide (a=b))])):=by
 refine sx' false false none Tryz.func122 (q' 2 [ao (.box 2 (.t 0)),ao (.box 2 (.t 1)),ao (.mov (bb false))] (q' 5 [aG 0 2,aG 0 3,ao (.bin .eql (.t 6) (.t 8)),am 9,au (.fa 1 (.t 2)) 10 true,au (.ld false 1 (.t 11)) 10 true,au (.fa 1 (.t 3)) 10 true,au (.ld false 1 (.t 13)) 10 true,au (.call 195 [.t 12,.t 14,.k (.v false [.c (.f 190 [])])]) 10 true,ao (.pick (.t 10) (.t 15) (bb false)),aV 4] .ret)) [.t 4] [(195,[],c4r)] ?_;intro hb hE;simp only [go_sem];repeat' first | apply cj' | intro hc | exact om' | fail
 all_goals (cases a;cases b;rw [q3H];simp)
noncomputable def a6S:CT:=i6 (fun (x:e7×e7)=>b7O x.1 x.2)
@[go_sem] def c9d:=fun x0 x1 x2 x3=>nm' (fQ' a6S rfl (⟨x0,x1⟩,⟨x2,x3⟩))
def a9r (a:c9) (b:c9):A0c Tryz.prog 121 [(true,[.s a.Name,.i .i64 a.Rel.Arity,o8 a.Rel.Rows]),(true,[.s b.Name,.i .i64 b.Rel.Arity,o8 b.Rel.Rows])] [] (.one (false,[.b (decide (a=b))])):=by
 refine sx' false false none Tryz.func121 (q' 2 [ao (.box 3 (.t 0)),ao (.box 3 (.t 1)),ao (.mov (bb false))] (q' 5 [aG 0 2,aG 0 3,ao (.bin .eql (.t 6) (.t 8)),am 9,au (.fa 1 (.t 2)) 10 true,au (.ld true 2 (.t 11)) 10 true,au (.fa 1 (.t 3)) 10 true,au (.ld true 2 (.t 13)) 10 true,au (.call 122 [.t 12,.t 14]) 10 true,ao (.pick (.t 10) (.t 15) (bb false)),aV 4] .ret)) [.t 4] [(122,[],a6S)] ?_;intro hb hE;simp only [go_sem];repeat' first | apply cj' | intro hc | exact om' | fail
 all_goals (cases a;cases b;rw [q3H];simp)
noncomputable def a3e:CT:=i6 (fun (x:c9×c9)=>a9r x.1 x.2)
@[go_sem] def c3Q:=fun x0 x1 x2 x3 x4 x5=>nm' (fQ' a3e rfl (⟨x0,⟨x1,x2⟩⟩,⟨x3,⟨x4,x5⟩⟩))
def c8m (a:List c9) (b:List c9):A0c Tryz.prog 120 [(false,[f8 a]),(false,[f8 b]),(false,[.f 121 []])] [] (.one (false,[.b (decide (a=b))])):=by
 refine sx' false false none Tryz.func120 (q' 0 [ab 6 false] (.seq (q' 10 [am 0,aN,am 1,aN,ao (.bin .neq (.t 11) (.t 13))] (.cond (.t 14) (q' 0 [ab 6 false] .ret) .skip)) (.seq (q' 15 [am 0,aN,aK 0] (.block 0 (.loop (q' 18 [ar 17 16] (.seq (.cond (.t 18) .skip (.exit 0)) (.seq (.block 1 (q' 19 [am 17,ai 3 15 17,aE 3,ax (w' 8 [.s,.i .i64,.sl k7]),av 7 19,aS 3 8 21] (q' 22 [aM [1,7],aI 3,aE 3,ax (w' 9 [.s,.i .i64,.sl k7]),aS 3 9 25] (q' 26 [am 2,ae 3 8,ae 3 9,ao (.callv (.t 26) [.t 27,.t 28]),ao (.not (.t 29))] (.cond (.t 30) (q' 0 [ab 6 false] .ret) .skip))))) (g' 31 [aA 17]))))))) (q' 0 [ab 6 true] .ret)))) [.t 6] [(121,[],a3e)] ?_;intro hb hE;simp only [go_sem];repeat' first | apply cj' | intro hc | exact om' | fail
 ·symm;rw [q1A];rintro rfl;simp at hc
 have hl:a.length=b.length:=by simpa [q2P] using hc
 refine lq' false [1,2,15,16] [] [] (fun i:{i:Nat // i<=a.length/\a.take i=b.take i}=>[(17,slV (.i .i64 i.1))]) nl' nl' (fun i=>a.length - i.1) (⟨0,by simp⟩) ?_;intro S0 hS0 i;obtain ⟨i,hi,ht⟩:=i;simp only [go_sem,hS0];repeat' first | apply cj' | intro hc | exact om' | fail
 ·exact (V4 fun e=>hc (b2p e i default)).symm
 ·exact nx0 ⟨i+1,by omega,w5 ht (by omega) (by omega) (d:=default) hc⟩
 ·exact (V1 (p7 hl ht (by omega))).symm
noncomputable def b6S:CT:=i6 (fun (x:(List c9)×(List c9))=>c8m x.1 x.2)
@[go_sem] def d5L:=fun a b=>nm' (fQ' b6S rfl (a,b))
def b2A (a:c7) (b:c7):A0c Tryz.prog 63 [(true,[f8 a.Rels]),(true,[f8 b.Rels])] [] (.one (false,[.b (decide (a=b))])):=by
 refine sx' false false none Tryz.func63 (q' 2 [ao (.box 1 (.t 0)),ao (.box 1 (.t 1)),ao (.mov (bb false))] (q' 5 [aG 0 2,aG 0 3,ao (.call 120 [.t 6,.t 8,.k (.v false [.c (.f 121 [])])]),aV 4] .ret)) [.t 4] [(120,[],b6S)] ?_;intro hb hE;simp only [go_sem];repeat' first | apply cj' | intro hc | exact om' | fail
 all_goals (cases a;cases b;rw [q3H];simp)
noncomputable def a4E:CT:=i6 (fun (x:c7×c7)=>b2A x.1 x.2)
@[go_sem] def c6j:=fun x0 x1=>nm' (fQ' a4E rfl (⟨x0⟩,⟨x1⟩))
def c0K (a:e7) (b:e7):A0c Tryz.prog 193 [(true,[.i .i64 a.Arity,o8 a.Rows]),(true,[.i .i64 b.Arity,o8 b.Rows])] [] (.one (false,[.b (v9 a&&v9 b&&(a.Arity==b.Arity))])):=by
 refine sx' false false none Tryz.func193 (q' 2 [ao (.box 2 (.t 0)),ao (.box 2 (.t 1)),ao (.mov (bb false))] (q' 5 [ae 2 2,ac 153 [5],am 6,au (.ld true 2 (.t 3)) 7 true,au (.call 153 [.t 8]) 7 true,ao (.pick (.t 7) (.t 9) (bb false)),am 10,au (.fa 0 (.t 2)) 11 true,au (.ld false 1 (.t 12)) 11 true,au (.fa 0 (.t 3)) 11 true,au (.ld false 1 (.t 14)) 11 true,au (.bin .eql (.t 13) (.t 15)) 11 true,ao (.pick (.t 11) (.t 16) (bb false)),aV 4] .ret)) [.t 4] [(153,[],a5m)] ?_;intro hb hE;simp only [go_sem];repeat' first | apply cj' | intro hc | exact om' | fail
noncomputable def a8G:CT:=i6 (fun (x:e7×e7)=>c0K x.1 x.2)
@[go_sem] def d1R:=fun x0 x1 x2 x3=>nm' (fQ' a8G rfl (⟨x0,x1⟩,⟨x2,x3⟩))
def b8M (a b:e7):Bool:=v9 a&&v9 b&&decide (a=b)
def b8k (a:e7) (b:e7):A0c Tryz.prog 118 [(true,[.i .i64 a.Arity,o8 a.Rows]),(true,[.i .i64 b.Arity,o8 b.Rows])] [] (.one (false,[.b (b8M a b)])):=by
 refine sx' false false none Tryz.func118 (q' 2 [ao (.box 2 (.t 0)),ao (.box 2 (.t 1)),ao (.mov (bb false))] (.seq (q' 6 [ae 2 2,ae 2 3,ac 193 [6,7],ao (.not (.t 8)),am 9,au (.fa 1 (.t 2)) 10 false,au (.ld false 1 (.t 11)) 10 false,au (.len (.t 12)) 10 false,au (.fa 1 (.t 3)) 10 false,au (.ld false 1 (.t 14)) 10 false,au (.len (.t 15)) 10 false,au (.bin .neq (.t 13) (.t 16)) 10 false,ao (.pick (.t 10) (bb true) (.t 17))] (.cond (.t 18) (q' 0 [ab 4 false] .ret) .skip)) (.seq (q' 19 [aG 1 2,aN,aK 0] (.block 0 (.loop (q' 23 [ar 22 21] (.seq (.cond (.t 23) .skip (.exit 0)) (.seq (.block 1 (q' 24 [am 22,aV 5] (.seq (G' 25 [aG 1 2,am 5,aI 1,aE 1,aG 1 3,am 5,aI 1,aE 1,ac 194 [29,34],ao (.not (.t 35))]) (.cond (.t 36) (q' 0 [ab 4 false] .ret) .skip)))) (g' 37 [aA 22]))))))) (q' 0 [ab 4 true] .ret)))) [.t 4] [(193,[],a8G),(194,[],a1A)] ?_;intro hb hE;simp only [go_sem];repeat' first | apply cj' | intro hc | exact om' | fail
 ·cases h:b8M a b with
  | false=>rfl
  | true=>
    exfalso;simp only [b8M,W3,V7] at h;obtain ⟨⟨h1,h2⟩,rfl⟩:=h;simp [h1] at hc
 obtain ⟨⟨⟨hoa,hob⟩,har⟩,hl⟩:=hc;have hl:a.Rows.length=b.Rows.length:=by simpa [q2P] using hl
 refine lq' false [2,3,21] [4,6] [] (fun i:{i:Nat // i<=a.Rows.length/\a.Rows.take i=b.Rows.take i}=>[(22,slV (.i .i64 i.1))]) nl' nl' (fun i=>a.Rows.length - i.1) (⟨0,by simp⟩) ?_;intro S0 hS0 i;obtain ⟨i,hi,ht⟩:=i;simp only [go_sem,hS0];repeat' first | apply cj' | intro hc | exact om' | fail
 ·rw [b8M,V4 fun e=>hc (congrArg d3.V (b2p (congrArg e7.Rows e) i default))];simp
 ·exact nx0 ⟨i+1,by omega,w5 ht (by omega) (by omega) (d:=default) (d0p hc)⟩
 ·rw [b8M,hoa,hob,V1 (rel_ext (by simpa using har) (p7 hl ht (by omega)))];rfl
noncomputable def a7n:CT:=i6 (fun (x:e7×e7)=>b8k x.1 x.2)
@[go_sem] def c9A:=fun x0 x1 x2 x3=>nm' (fQ' a7n rfl (⟨x0,x1⟩,⟨x2,x3⟩))
def b2I (a:c7) (b:c7):A0c Tryz.prog 60 [(true,[f8 a.Rels]),(true,[f8 b.Rels])] [] (.one (false,[.b (i8 a&&i8 b&&decide (a=b))])):=by
 refine sx' false false none Tryz.func60 (q' 2 [ao (.box 1 (.t 0)),ao (.box 1 (.t 1)),ao (.mov (bb false))] (.seq (q' 6 [ae 1 2,ac 88 [6],ao (.not (.t 7)),am 8,au (.ld true 1 (.t 3)) 9 false,au (.call 88 [.t 10]) 9 false,au (.not (.t 11)) 9 false,ao (.pick (.t 9) (bb true) (.t 12)),am 13,au (.fa 0 (.t 2)) 14 false,au (.ld false 1 (.t 15)) 14 false,au (.len (.t 16)) 14 false,au (.fa 0 (.t 3)) 14 false,au (.ld false 1 (.t 18)) 14 false,au (.len (.t 19)) 14 false,au (.bin .neq (.t 17) (.t 20)) 14 false,ao (.pick (.t 14) (bb true) (.t 21))] (.cond (.t 22) (q' 0 [ab 4 false] .ret) .skip)) (.seq (q' 23 [aG 0 2,aN,aK 0] (.block 0 (.loop (q' 27 [ar 26 25] (.seq (.cond (.t 27) .skip (.exit 0)) (.seq (.block 1 (q' 28 [am 26,aV 5] (.seq (G' 29 [aG 0 2,am 5,aI 3,aG 0 32,aG 0 3,am 5,aI 3,aG 0 38,ao (.bin .neq (.t 34) (.t 40)),am 41,au (.fa 0 (.t 2)) 42 false,au (.ld false 1 (.t 43)) 42 false,au (.mov (.t 5)) 42 false,au (.ia 3 (.t 44) (.t 45)) 42 false,au (.fa 1 (.t 46)) 42 false,au (.ld true 2 (.t 47)) 42 false,au (.fa 0 (.t 3)) 42 false,au (.ld false 1 (.t 49)) 42 false,au (.mov (.t 5)) 42 false,au (.ia 3 (.t 50) (.t 51)) 42 false,au (.fa 1 (.t 52)) 42 false,au (.ld true 2 (.t 53)) 42 false,au (.call 118 [.t 48,.t 54]) 42 false,au (.not (.t 55)) 42 false,ao (.pick (.t 42) (bb true) (.t 56))]) (.cond (.t 57) (q' 0 [ab 4 false] .ret) .skip)))) (g' 58 [aA 26]))))))) (q' 0 [ab 4 true] .ret)))) [.t 4] [(88,[],a3i),(118,[],a7n)] ?_;intro hb hE;simp only [go_sem];repeat' first | apply cj' | intro hc | exact om' | fail
 ·cases h:i8 a&&i8 b&&decide (a=b) with
  | false=>rfl
  | true=>
    exfalso;simp only [W3,V7] at h;obtain ⟨⟨h1,h2⟩,rfl⟩:=h;simp [h1] at hc
 obtain ⟨⟨hoa,hob⟩,hl⟩:=hc;have hl:a.Rels.length=b.Rels.length:=by simpa [q2P] using hl
 refine lq' false [2,3,25] [4,6] [] (fun i:{i:Nat // i<=a.Rels.length/\a.Rels.take i=b.Rels.take i}=>[(26,slV (.i .i64 i.1))]) nl' nl' (fun i=>a.Rels.length - i.1) (⟨0,by simp⟩) ?_;intro S0 hS0 i;obtain ⟨i,hi,ht⟩:=i;simp only [go_sem,hS0];repeat' first | apply cj' | intro hc | exact om' | fail
 ·cases h:i8 a&&i8 b&&decide (a=b) with
  | false=>rfl
  | true=>
    exfalso;simp only [W3,V7] at h;obtain ⟨⟨h1,h2⟩,rfl⟩:=h;have h3:=a1q h1 _ (A3v (l:=a.Rels) (d:=default) (i:=i) (by omega));simp [b8M,h3,-List.getD_eq_getElem?_getD] at hc
 ·have h3:=hc.2;simp only [b8M,W3,V7] at h3;exact nx0 ⟨i+1,by omega,w5 ht (by omega) (by omega) (d:=default) (nam_ext (by simpa using hc.1) h3.2)⟩
 ·rw [hoa,hob,V1 (d2K (p7 hl ht (by omega)))];rfl
noncomputable def a4L:CT:=i6 (fun (x:c7×c7)=>b2I x.1 x.2)
@[go_sem] def c6r:=fun x0 x1=>nm' (fQ' a4L rfl (⟨x0⟩,⟨x1⟩))
noncomputable def isvR (p:c4) (s v:c7):Bool:=(a1N p s).2==0&&i8 v&&decide ((a1N p s).1=v)
def d5D (p:c4) (s:c7):i8 (a1N p s).1=true:=by
 have h:=d0s p s;have hw:=b8U h;refine b8S (q2M (q1T _ _) (a1p h)) ?_ fun x hx=>hw x (q1C.1 hx).1
 exact List.Pairwise.sublist (List.Sublist.map _ List.filter_sublist) (a3y h)
def b7v (p:c4) (s:c7) (v:c7):A0c Tryz.prog 24 [(true,[j9 p.Decls,j6 p.Rules]),(true,[f8 s.Rels]),(true,[f8 v.Rels])] [] (.one (false,[.b (isvR p s v)])):=by
 refine sx' false false none Tryz.func24 (q' 3 [ao (.box 2 (.t 0)),ao (.box 1 (.t 1)),ao (.box 1 (.t 2)),ao (.mov (bb false))] (q' 10 [ae 2 3,ae 1 4,ac 31 [10,11],aV 9,ao (.ext (.t 9) 0),ao (.ext (.t 9) 1),ax (w' 7 [.sl i4]),aS 1 7 13,aV 8] (q' 15 [am 8,ao (.bin .eql (.t 15) (k' 0)),am 16,au (.ld true 1 (.t 5)) 17 true,au (.call 47 [.t 18]) 17 true,ao (.pick (.t 17) (.t 19) (bb false)),am 20,au (.ld true 1 (.t 7)) 21 true,au (.ld true 1 (.t 5)) 21 true,au (.call 63 [.t 22,.t 23]) 21 true,ao (.pick (.t 21) (.t 24) (bb false)),aV 6] .ret))) [.t 6] [(31,[],a6J),(47,[],a2Z),(63,[],a4E)] ?_;intro hb hE;simp only [go_sem];repeat' first | apply cj' | intro hc | exact om' | fail
 rfl
noncomputable def a6F:CT:=i6 (fun (x:c4×c7×c7)=>b7v x.1 x.2.1 x.2.2)
@[go_sem] def c8K:=fun x0 x1 x2 x3=>nm' (fQ' a6F rfl (⟨x0,x1⟩,⟨x2⟩,⟨x3⟩))
def b8j (p:c4) (s:c7) (v:c7):A0c Tryz.prog 22 [(true,[j9 p.Decls,j6 p.Rules]),(true,[f8 s.Rels]),(true,[f8 v.Rels])] [] (.one (false,[.b (isvR p s v)])):=by
 refine sx' false false none Tryz.func22 (q' 3 [ao (.box 2 (.t 0)),ao (.box 1 (.t 1)),ao (.box 1 (.t 2)),ao (.mov (bb false))] (q' 10 [ae 2 3,ae 1 4,ac 30 [10,11],aV 9,ao (.ext (.t 9) 0),ao (.ext (.t 9) 1),ax (w' 7 [.sl i4]),aS 1 7 13,aV 8] (q' 15 [am 8,ao (.bin .eql (.t 15) (k' 0)),am 16,au (.ld true 1 (.t 7)) 17 true,au (.ld true 1 (.t 5)) 17 true,au (.call 60 [.t 18,.t 19]) 17 true,ao (.pick (.t 17) (.t 20) (bb false)),aV 6] .ret))) [.t 6] [(30,[],b0A),(60,[],a4L)] ?_;intro hb hE;simp only [go_sem];repeat' first | apply cj' | intro hc | exact om' | fail
 rw [d5D,q0S,<- Bool.and_assoc];rfl
noncomputable def a7l:CT:=i6 (fun (x:c4×c7×c7)=>b8j x.1 x.2.1 x.2.2)
@[go_sem] def c9z:=fun x0 x1 x2 x3=>nm' (fQ' a7l rfl (⟨x0,x1⟩,⟨x2⟩,⟨x3⟩))
def a0C (x:d4):Nat:=x.S.length
def b8c (a:d4) (left:Int) (hpre:0<=left/\left<=1048576):A0c Tryz.prog 210 [(true,[.i .i64 a.N,.s a.S]),(false,[.i .i64 left])] [] (.one (false,[.i .i64 (szR left (a0C a:Nat))])):=by
 refine sx' false false none Tryz.func210 (q' 2 [ao (.box 2 (.t 0)),az 4 0] (q' 5 [am 1,aG 1 2,ao (.lens (.t 7)),ao (.bin .sub (.t 5) (.t 8)),aV 1] (.seq (q' 10 [am 1,ao (.bin .lss (.t 10) (k' 0))] (.cond (.t 11) (q' 4 [ao (.mov (.k (.v false [.c (.i .i64 (-1))])))] .ret) .skip)) (q' 12 [am 1,aV 4] .ret)))) [.t 4] [] ?_;intro hb hE;simp only [go_sem];repeat' first | apply cj' | intro hc | exact om' | fail
 all_goals ((repeat (simp (disch:=omega) only [a0g] at *))<;>(try simp only [szR,a0C] at *)<;>(first | omega | (split<;>omega)))
noncomputable def a3g:CT:=k8 (fun (x:d4×Int) h=>b8c x.1 x.2 h)
@[go_sem] def c9s:=fun x0 x1 x2=>nm' (fP' a3g rfl (⟨x0,x1⟩,x2))
def b8i (a:d4):A0c Tryz.prog 224 [(true,[.i .i64 a.N,.s a.S])] [] (.one (true,[.i .i64 a.N,.s a.S])):=by
 refine sx' true false none Tryz.func224 (q' 1 [ao (.box 2 (.t 0)),aw [.i .i64,.s]] (q' 3 [aw [.i .i64,.s]] (q' 4 [aG 0 1,af 0 3,aS 1 6 5] (q' 7 [aG 1 1,af 1 3,aS 1 9 8] (q' 10 [ae 2 3,aS 2 2 10] .ret))))) [.c 2 true 2] [] ?_;intro hb hE;simp only [go_sem];repeat' first | apply cj' | intro hc | exact om' | fail
noncomputable def a3h:CT:=i6 (fun (x:d4)=>b8i x)
@[go_sem] def c9y:=fun x0 x1=>nm' (fQ' a3h rfl ⟨x0,x1⟩)
def b7W (a:d4) (b:d4):A0c Tryz.prog 246 [(true,[.i .i64 a.N,.s a.S]),(true,[.i .i64 b.N,.s b.S])] [] (.one (false,[.b (decide (a=b))])):=by
 refine sx' false false none Tryz.func246 (q' 2 [ao (.box 2 (.t 0)),ao (.box 2 (.t 1)),ao (.mov (bb false))] (.seq (q' 5 [aG 0 2,aG 0 3,ao (.bin .neq (.t 6) (.t 8))] (.cond (.t 9) (q' 0 [ab 4 false] .ret) .skip)) (.seq (q' 10 [aG 1 2,aG 1 3,ao (.bin .neq (.t 11) (.t 13))] (.cond (.t 14) (q' 0 [ab 4 false] .ret) .skip)) (q' 0 [ab 4 true] .ret)))) [.t 4] [] ?_;intro hb hE;simp only [go_sem];repeat' first | apply cj' | intro hc | exact om' | fail
 all_goals (cases a;cases b;simp_all)
noncomputable def a3f:CT:=i6 (fun (x:d4×d4)=>b7W x.1 x.2)
@[go_sem] def c9m:=fun x0 x1 x2 x3=>nm' (fQ' a3f rfl (⟨x0,x1⟩,⟨x2,x3⟩))
def a0X (x:d5):Nat:=x.Var.length+a0C x.Val
def c0x (a:d5) (left:Int) (hpre:0<=left/\left<=1048576):A0c Tryz.prog 145 [(true,[.s a.Var,.i .i64 a.Val.N,.s a.Val.S]),(false,[.i .i64 left])] [] (.one (false,[.i .i64 (szR left (a0X a:Nat))])):=by
 refine sx' false false none Tryz.func145 (q' 2 [ao (.box 3 (.t 0)),az 4 0] (q' 5 [am 1,aG 0 2,ao (.lens (.t 7)),ao (.bin .sub (.t 5) (.t 8)),aV 1] (.seq (q' 10 [am 1,ao (.bin .lss (.t 10) (k' 0))] (.cond (.t 11) (q' 4 [ao (.mov (.k (.v false [.c (.i .i64 (-1))])))] .ret) .skip)) (q' 12 [af 1 2,aE 2,am 1,ac 210 [13,14],aV 1] (.seq (q' 16 [am 1,ao (.bin .lss (.t 16) (k' 0))] (.cond (.t 17) (q' 4 [ao (.mov (.k (.v false [.c (.i .i64 (-1))])))] .ret) .skip)) (q' 18 [am 1,aV 4] .ret)))))) [.t 4] [(210,[],a3g)] ?_;intro hb hE;simp only [go_sem];repeat' first | apply cj' | intro hc | exact om' | fail
 all_goals ((repeat (simp (disch:=omega) only [a0g] at *))<;>(try simp only [szR,a0X] at *)<;>(first | omega | (split<;>omega)))
noncomputable def a4h:CT:=k8 (fun (x:d5×Int) h=>c0x x.1 x.2 h)
@[go_sem] def d1D:=fun x0 x1 x2 x3=>nm' (fP' a4h rfl (⟨x0,⟨x1,x2⟩⟩,x3))
def b8b (a:List d5) (left:Int) (hpre:0<=left/\left<=1048576):A0c Tryz.prog 83 [(false,[j4 a]),(false,[.i .i64 left])] [] (.one (false,[.i .i64 (szR left ((a.length+y4 a0X a):Nat))])):=by
 refine sx' false false none Tryz.func83 (q' 4 [aK 0] (q' 6 [aM [1,0],aN,ao (.bin .sub (.t 6) (.t 8)),aV 1] (.seq (q' 10 [am 1,ao (.bin .lss (.t 10) (k' 0))] (.cond (.t 11) (q' 4 [ao (.mov (.k (.v false [.c (.i .i64 (-1))])))] .ret) .skip)) (.seq (q' 5 [aK 0] (.block 0 (.loop (.seq (q' 12 [aM [5,0],aN,ar 12 14] (.cond (.t 15) .skip (.exit 0))) (.seq (.block 1 (q' 18 [aM [0,5],aI 3,aE 3,am 1,ac 145 [21,22],aV 1] (q' 24 [am 1,ao (.bin .lss (.t 24) (k' 0))] (.cond (.t 25) (q' 4 [ao (.mov (.k (.v false [.c (.i .i64 (-1))])))] .ret) .skip)))) (g' 16 [aB 5])))))) (q' 26 [am 1,aV 4] .ret))))) [.t 4] [(145,[],a4h)] ?_;intro hb hE;simp only [go_sem];repeat' first | apply cj' | intro hc | exact om' | fail
 ·all_goals ((repeat (simp (disch:=omega) only [a0g] at *))<;>(try simp only [szR,szR] at *)<;>(first | omega | (split<;>omega)))
 have hw:=a0g (l:=left) (n:=a.length) (by omega) (by omega) (by omega) (by omega);rw [hw] at hc;refine lq' false [0] [] [] (fun i:{i:Nat // i<=a.length/\(a.length:Int)+(y4 a0X (a.take i):Nat)<=left}=>[(5,slV (.i .i64 i.1)),(1,slV (.i .i64 (left - a.length - (y4 a0X (a.take i.1):Nat))))]) nl' nl' (fun i=>a.length - i.1) (⟨0,by simp only [q1E,a2s];omega⟩) ?_;intro S0 hS0 i;obtain ⟨i,hi,ht⟩:=i;simp only [go_sem,hw,hS0];repeat' first | apply cj' | intro hc | exact om' | fail
 ·have h1:=l8 a0X (default:d5) (show i < a.length by omega);have h2:=a0l a0X a (i+1);all_goals ((repeat (simp (disch:=omega) only [a0g] at *))<;>(try simp only [szR,szR] at *)<;>(first | omega | (split<;>omega)))
 ·have h1:=l8 a0X (default:d5) (show i < a.length by omega)
  (refine lpK_n2 (⟨i+1,by omega,by unfold szR at hc;split at hc<;>omega⟩) _ rfl ?_;simp only [go_sem,hw,hS0]<;>repeat' first | apply W8 | exact on' | fail)
  rw [h1];unfold szR at hc ⊢;split at hc<;>omega
 ·have h1:=a3A a0X (show ¬ i < a.length by omega);all_goals ((repeat (simp (disch:=omega) only [a0g] at *))<;>(try simp only [szR,szR] at *)<;>(first | omega | (split<;>omega)))
 all_goals all_goals ((repeat (simp (disch:=omega) only [a0g] at *))<;>(try simp only [szR,szR] at *)<;>(first | omega | (split<;>omega)))
noncomputable def a7f:CT:=k8 (fun (x:(List d5)×Int) h=>b8b x.1 x.2 h)
@[go_sem] def c9r:=fun a x0=>nm' (fP' a7f rfl (a,x0))
def c0D (a:d5):A0c Tryz.prog 163 [(true,[.s a.Var,.i .i64 a.Val.N,.s a.Val.S])] [] (.one (true,[.s a.Var,.i .i64 a.Val.N,.s a.Val.S])):=by
 refine sx' true false none Tryz.func163 (q' 1 [ao (.box 3 (.t 0)),aw [.s,.i .i64,.s]] (q' 3 [aw [.s,.i .i64,.s]] (q' 4 [aG 0 1,af 0 3,aS 1 6 5] (q' 7 [af 1 1,aE 2,ac 224 [8],af 1 3,aS 2 10 9] (q' 11 [ae 3 3,aS 3 2 11] .ret))))) [.c 2 true 3] [(224,[],a3h)] ?_;intro hb hE;simp only [go_sem];repeat' first | apply cj' | intro hc | exact om' | fail
noncomputable def a4j:CT:=i6 (fun (x:d5)=>c0D x)
@[go_sem] def d1J:=fun x0 x1 x2=>nm' (fQ' a4j rfl ⟨x0,⟨x1,x2⟩⟩)
def b8h (a:List d5) (hpre:(((a.length+y4 a0X a):Nat):Int)<=1048576):A0c Tryz.prog 92 [(false,[j4 a])] [] (.one (false,[c2M a])):=by
 refine sx' true false none Tryz.func92 (q' 2 [ao (.mov (.k (.v false [.nl i5])))] (q' 5 [am 0,aN,ao (.mks 3 40 [.s,.i .i64,.s] (.t 6) (.t 6)),aV 3] (.seq (q' 4 [aK 0] (.block 0 (.loop (.seq (q' 8 [aM [4,0],aN,ar 8 10] (.cond (.t 11) .skip (.exit 0))) (.seq (.block 1 (g' 14 [aM [3,4,0,4],aI 3,aE 3,ac 163 [19],ai 3 14 15,aS 3 21 20])) (g' 12 [aB 4])))))) (q' 22 [am 3,aV 2] .ret)))) [.t 2] [(163,[],a4j)] ?_;intro hb hE;simp only [go_sem,b1w];repeat' first | apply cj' | intro hc | exact om' | fail
 refine lq' true [0,3] [] [] (fun i:{p:Nat×(List d5) // p.1<=a.length/\p.2.length=a.length/\p.2.take p.1=a.take p.1}=>[(4,slV (.i .i64 i.1.1))]) nl' (fun i=>[(896,i5,i.1.2.map d5.cells)]) (fun i=>a.length - i.1.1) (⟨(0,List.replicate a.length default),by simp⟩) ?_;intro S0 hS0 i;obtain ⟨⟨i,L⟩,hi,hl,ht⟩:=i;simp only at hi hl ht;simp only [go_sem,b1w,hS0];repeat' first | apply cj' | intro hc | exact om' | fail
 ·(refine lpK_n2 (⟨(i+1,L.set i (a.getD i default)),by simp only;omega,by simp [hl],a0r hl ht (by omega)⟩) _ rfl ?_;simp only [go_sem,b1w,hS0]<;>repeat' first | apply W8 | exact on' | fail)
 ·obtain rfl:=p7 hl ht (by omega);rfl
noncomputable def a7k:CT:=k8 (fun (x:(List d5)) h=>b8h x h)
@[go_sem] def c9x:=fun a=>nm' (fP' a7k rfl a)
def c0r (a:d5) (b:d5):A0c Tryz.prog 192 [(true,[.s a.Var,.i .i64 a.Val.N,.s a.Val.S]),(true,[.s b.Var,.i .i64 b.Val.N,.s b.Val.S])] [] (.one (false,[.b (decide (a=b))])):=by
 refine sx' false false none Tryz.func192 (q' 2 [ao (.box 3 (.t 0)),ao (.box 3 (.t 1)),ao (.mov (bb false))] (.seq (q' 5 [aG 0 2,aG 0 3,ao (.bin .neq (.t 6) (.t 8))] (.cond (.t 9) (q' 0 [ab 4 false] .ret) .skip)) (.seq (q' 10 [af 1 2,aE 2,af 1 3,aE 2,ac 246 [11,13],ao (.not (.t 14))] (.cond (.t 15) (q' 0 [ab 4 false] .ret) .skip)) (q' 0 [ab 4 true] .ret)))) [.t 4] [(246,[],a3f)] ?_;intro hb hE;simp only [go_sem];repeat' first | apply cj' | intro hc | exact om' | fail
 all_goals (cases a;cases b;simp_all)
noncomputable def a4f:CT:=i6 (fun (x:d5×d5)=>c0r x.1 x.2)
@[go_sem] def d1x:=fun x0 x1 x2 x3 x4 x5=>nm' (fQ' a4f rfl (⟨x0,⟨x1,x2⟩⟩,⟨x3,⟨x4,x5⟩⟩))
def b7V (a:List d5) (b:List d5):A0c Tryz.prog 110 [(false,[j4 a]),(false,[j4 b])] [] (.one (false,[.b (decide (a=b))])):=by
 refine sx' false false none Tryz.func110 (q' 0 [ab 4 false] (.seq (q' 6 [am 0,aN,am 1,aN,ao (.bin .neq (.t 7) (.t 9))] (.cond (.t 10) (q' 0 [ab 4 false] .ret) .skip)) (.seq (q' 5 [aK 0] (.block 0 (.loop (.seq (q' 11 [aM [5,0],aN,ar 11 13] (.cond (.t 14) .skip (.exit 0))) (.seq (.block 1 (.seq (G' 17 [aM [0,5],aI 3,aE 3,aM [1,5],aI 3,aE 3,ac 192 [20,24],ao (.not (.t 25))]) (.cond (.t 26) (q' 0 [ab 4 false] .ret) .skip))) (g' 15 [aB 5])))))) (q' 0 [ab 4 true] .ret)))) [.t 4] [(192,[],a4f)] ?_;intro hb hE;simp only [go_sem];repeat' first | apply cj' | intro hc | exact om' | fail
 ·symm;rw [q1A];rintro rfl;simp at hc
 have hl:a.length=b.length:=by simpa [q2P] using hc
 refine lq' false [0,1] [] [] (fun i:{i:Nat // i<=a.length/\a.take i=b.take i}=>[(5,slV (.i .i64 i.1))]) nl' nl' (fun i=>a.length - i.1) (⟨0,by simp⟩) ?_;intro S0 hS0 i;obtain ⟨i,hi,ht⟩:=i;simp only [go_sem,hS0];repeat' first | apply cj' | intro hc | exact om' | fail
 ·exact (V4 (a1j default (i:=i) (by simpa using hc))).symm
 ·exact nx0 ⟨i+1,by omega,w5 ht (by omega) (by omega) (d:=default) (by simpa using hc)⟩
 ·exact (V1 (p7 hl ht (by omega))).symm
noncomputable def a7a:CT:=i6 (fun (x:(List d5)×(List d5))=>b7V x.1 x.2)
@[go_sem] def c9l:=fun a b=>nm' (fQ' a7a rfl (a,b))
def b4P (a:List d4) (b:List d4):A0c Tryz.prog 191 [(false,[l5 a]),(false,[l5 b])] [] (.one (false,[.b (decide (a=b))])):=by
 refine sx' false false none Tryz.func191 (q' 0 [ab 4 false] (.seq (q' 6 [am 0,aN,am 1,aN,ao (.bin .neq (.t 7) (.t 9))] (.cond (.t 10) (q' 0 [ab 4 false] .ret) .skip)) (.seq (q' 5 [aK 0] (.block 0 (.loop (.seq (q' 11 [aM [5,0],aN,ar 11 13] (.cond (.t 14) .skip (.exit 0))) (.seq (.block 1 (.seq (G' 17 [aM [0,5],aI 2,aE 2,aM [1,5],aI 2,aE 2,ac 246 [20,24],ao (.not (.t 25))]) (.cond (.t 26) (q' 0 [ab 4 false] .ret) .skip))) (g' 15 [aB 5])))))) (q' 0 [ab 4 true] .ret)))) [.t 4] [(246,[],a3f)] ?_;intro hb hE;simp only [go_sem];repeat' first | apply cj' | intro hc | exact om' | fail
 ·symm;rw [q1A];rintro rfl;simp at hc
 have hl:a.length=b.length:=by simpa [q2P] using hc
 refine lq' false [0,1] [] [] (fun i:{i:Nat // i<=a.length/\a.take i=b.take i}=>[(5,slV (.i .i64 i.1))]) nl' nl' (fun i=>a.length - i.1) (⟨0,by simp⟩) ?_;intro S0 hS0 i;obtain ⟨i,hi,ht⟩:=i;simp only [go_sem,hS0];repeat' first | apply cj' | intro hc | exact om' | fail
 ·exact (V4 (a1j default (i:=i) (by simpa using hc))).symm
 ·exact nx0 ⟨i+1,by omega,w5 ht (by omega) (by omega) (d:=default) (by simpa using hc)⟩
 ·exact (V1 (p7 hl ht (by omega))).symm
noncomputable def a5L:CT:=i6 (fun (x:(List d4)×(List d4))=>b4P x.1 x.2)
@[go_sem] def c7t:=fun a b=>nm' (fQ' a5L rfl (a,b))
def c3h (a:d3) (b:d3):A0c Tryz.prog 109 [(true,[l5 a.V]),(true,[l5 b.V])] [] (.one (false,[.b (decide (a=b))])):=by
 refine sx' false false none Tryz.func109 (q' 2 [ao (.box 1 (.t 0)),ao (.box 1 (.t 1)),ao (.mov (bb false))] (.seq (q' 5 [aG 0 2,aG 0 3,ac 191 [6,8],ao (.not (.t 9))] (.cond (.t 10) (q' 0 [ab 4 false] .ret) .skip)) (q' 0 [ab 4 true] .ret))) [.t 4] [(191,[],a5L)] ?_;intro hb hE;simp only [go_sem];repeat' first | apply cj' | intro hc | exact om' | fail
 all_goals (cases a;cases b;simp_all)
noncomputable def b0s:CT:=i6 (fun (x:d3×d3)=>c3h x.1 x.2)
@[go_sem] def d3p:=fun x0 x1=>nm' (fQ' b0s rfl (⟨x0⟩,⟨x1⟩))
end Go.Aw
