/- Levels: the program's. No condition. -/
import Derived.Test.YtokefohpgeajaaaGreatwbT13
namespace Go.Aw
noncomputable section
open Go.Proofs
attribute [local irreducible] aft blk lpK retK AW A0d
set_option linter.all false
set_option maxRecDepth 100000
def a2k (l:List d3) (v:List UInt8):Int:=((l.find? fun x=>x.Name==v).map d3.N).getD 0
def a0N (l:List d3) (v:List UInt8):Int:=((l.find? fun x=>x.Name==v).map d3.N).getD (-1)
def a9C {p:c5} (g:Lev) {v:List UInt8}:(v∈vwS p->(lvl p g).find? (fun x=>x.Name==v)=some ⟨v,g v⟩)/\(¬ v∈vwS p->(lvl p g).find? (fun x=>x.Name==v)=none):=by
 unfold lvl;generalize vwS p=V
 induction V with
 | nil=>exact ⟨fun h=>by simp at h,fun _=>rfl⟩
 | cons x V ih=>
   refine ⟨fun h=>?_,fun h=>?_⟩
   ·by_cases e:x=v
    ·subst e;simp
    ·have hv:v∈V:=by
      rcases V7.1 h with h|h
      ·exact absurd h.symm e
      ·exact h
     rw [q0F,List.find?_cons_of_neg (by simpa using e)];exact ih.1 hv
   ·simp only [V7,not_or] at h;rw [q0F,List.find?_cons_of_neg (by simpa using fun e=>h.1 e.symm)];exact ih.2 h.2
def a4B {p:c5} (g:Lev) {v:List UInt8} (h:v∈vwS p):a2k (lvl p g) v=g v:=by rw [a2k,(a9C g).1 h];rfl
def b5U {p:c5} (g:Lev) {v:List UInt8} (h:v∈vwS p):a0N (lvl p g) v=g v:=by rw [a0N,(a9C g).1 h];rfl
def b8R {p:c5} (g:Lev) {v:List UInt8} (h:¬ v∈vwS p):a0N (lvl p g) v=-1:=by rw [a0N,(a9C g).2 h];rfl
def c5M {p:c5} (g:Lev) {v:List UInt8} (h:¬ v∈vwS p):a2k (lvl p g) v=0:=by rw [a2k,(a9C g).2 h];rfl
def lvl_idx {p:c5} {h:List UInt8} (hv:h∈vwS p):∃ m,m < (vwS p).length/\(vwS p).getD m []=h/\(∀ g,a3T (fun y:d3=>y.Name==h) (lvl p g)=(m:Int))/\(∀ g,(lvl p g).getD m default=⟨h,g h⟩)/\∀ g x,(lvl p g).set m ⟨h,x⟩=lvl p (upd g h x):=by
 obtain ⟨m,hm,e⟩:=List.getElem_of_mem hv;have e0:(vwS p).getD m []=h:=by rw [t7 [] hm,e]
 have hg:∀ g,(lvl p g).getD m default=⟨h,g h⟩:=fun g=>by rw [b8W p g hm,e0]
 refine ⟨m,hm,e0,fun g=>?_,hg,fun g x=>?_⟩
 ·refine y8 (d:=default) (by rw [a9D];exact hm) ?_ (by rw [hg];simp);rw [q2L];intro y hy;obtain ⟨j,hj,rfl⟩:=q3D.1 hy;have hj2:j < (vwS p).length:=by rw [a9D] at hj;omega
  have hne:(vwS p)[j]≠h:=fun e2=>by
   have:=(List.getElem_inj (b0W p)).1 (e2.trans e.symm);omega
  simpa [lvl] using hne
 ·have:=c2p p g hm x;rw [e0] at this;exact this
def c4r {p:c5} (hd:∀ j,j < p.Decls.length->p8 p j=false):(vwN p).Nodup:=by
 have h1:(p.Decls.map c9.Name).Nodup:=by
  rw [List.nodup_iff_pairwise_ne,q4J,List.pairwise_iff_getElem];intro i j hi hj hij;have:=b4p hd hj (j:=i) hij;rw [t7 default hi,t7 default hj] at this;exact this
 exact h1.sublist (List.filter_sublist.map _)
def c2H {p:c5} (h:u0 p=true):(vwS p).length<=16:=by
 have h1:=a1D sLt (vwN p) [];have h2:=b0r (fun d:c9=>d.Kind==3) c9.Name p.Decls;simp only [u0,W3,V5] at h;simp only [q0T] at h1;rw [vwS];show _<=16;have h3:(vwN p).length<=p.Decls.length:=h2;omega
def b3R (l:List d3) (v:List UInt8):spZ 47 [(false,[b2o l]),(false,[.s v])] [] (.one (false,[.i .i64 (a2k l v)])):=by
 refine sy' Tryz.func47 (q' 4 [aK 0] (.seq (q' 7 [am 0,aN,aK 0] (.block 0 (.loop (q' 10 [ar 9 8] (.seq (.cond (.t 10) .skip (.exit 0)) (.seq (.block 1 (q' 11 [ai 2 7 9,aE 2,ax (w' 6 [.s,.i .i64]),aS 2 6 12] (q' 13 [aG 0 6,am 1,ao (.bin .eql (.t 14) (.t 15))] (.cond (.t 16) (q' 17 [aG 1 6,aV 4] .ret) .skip)))) (g' 19 [aA 9]))))))) (q' 4 [aK 0] .ret))) [.t 4] [] ?_;intro hb hE;simp only [go_sem];repeat' first|apply cj'|intro hc|exact om'|fail
 refine lq' false [1,7,8] [] [] (fun i:{i:Nat // i<=l.length/\(l.take i).any (fun d=>d.Name==v)=false}=>[(9,slV (.i .i64 i.1))]) nl' nl' (fun i=>l.length - i.1) (⟨0,by simp⟩) ?_;intro S0 hS0 i;obtain ⟨i,hi,ha⟩:=i;simp only [go_sem,hS0];repeat' first|apply cj'|intro hc|exact om'|fail
 ·rw [a2k,b6F (d:=default) (i:=i) (by omega) ha hc];rfl
 ·exact nx0 ⟨i+1,by omega,p9 (p:=fun d:d3=>d.Name==v) default (by omega) ha hc⟩
 ·rw [a2k,a6E (by rwa [i4 (by omega)] at ha)];rfl
def a5X:CT:=j6 (fun (x:(List d3)×(List UInt8))=>b3R x.1 x.2)
@[go_sem] def c1I:=fun l v=>nm' (fQ' a5X rfl (l,v))
def b1U (x:d3) (r:c6):spZ 45 [(true,[.s x.Name,.i .i64 x.N]),(false,[.p [.i .i64 r.Kind,.s r.Head.Name,k6 r.Head.Args,a0k r.Body]])] [] (.one (false,[.b (x.Name==r.Head.Name)])):=by
 refine sy' Tryz.func45 (q' 0 [ax (o' 2 (.box 2 (.t 0))),ab 3 false] (q' 4 [aG 0 2,af 1 1,aG 0 6,ao (.bin .eql (.t 5) (.t 8)),aV 3] .ret)) [.t 3] [] ?_;intro hb hE;simp only [go_sem];repeat' first|apply cj'|intro hc|exact om'|fail
 all_goals (first|rfl)
def a5b:CT:=j6 (fun (x:d3×c6)=>b1U x.1 x.2)
@[go_sem] def c0C:=fun x0 x1 x2 x3 x4 x5=>nm' (fQ' a5b rfl (⟨x0,x1⟩,⟨x2,⟨x3,x4⟩,x5⟩))
def b6P (l:List d3) (r:c6):spZ 44 [(false,[b2o l]),(false,[.f 45 [.p [.i .i64 r.Kind,.s r.Head.Name,k6 r.Head.Args,a0k r.Body]]])] [] (.one (false,[.i .i64 (a3T (fun y:d3=>y.Name==r.Head.Name) l)])):=by
 refine sy' Tryz.func44 (q' 4 [aK 0] (.seq (q' 6 [am 0,aN,aK 0] (.block 0 (.loop (q' 9 [ar 8 7] (.seq (.cond (.t 9) .skip (.exit 0)) (.seq (.block 1 (q' 10 [am 8,aV 5] (q' 11 [aM [1,0,5],aI 2,aE 2,ao (.callv (.t 11) [.t 15])] (.cond (.t 16) (q' 17 [am 5,aV 4] .ret) .skip)))) (g' 18 [aA 8]))))))) (q' 4 [ao (.mov (.k (.v false [.c (.i .i64 (-1))])))] .ret))) [.t 4] [(45,[],a5b)] ?_;intro hb hE;simp only [go_sem];repeat' first|apply cj'|intro hc|exact om'|fail
 refine lq' false [0,1,7] [] [] (fun i:{i:Nat // i<=l.length/\(l.take i).any (fun y:d3=>y.Name==r.Head.Name)=false}=>[(8,slV (.i .i64 i.1))]) nl' nl' (fun i=>l.length - i.1) (⟨0,by simp⟩) ?_;intro S0 hS0 i;obtain ⟨i,hi,ha⟩:=i;simp only [go_sem,hS0];repeat' first|apply cj'|intro hc|exact om'|fail
 ·exact (y8 (p:=fun y:d3=>y.Name==r.Head.Name) (d:=default) (by omega) ha (by simpa [-List.getD_eq_getElem?_getD] using hc)).symm
 ·exact nx0 ⟨i+1,by omega,p9 (p:=fun y:d3=>y.Name==r.Head.Name) default (by omega) ha (by simpa [-List.getD_eq_getElem?_getD] using hc)⟩
 ·exact (v5 (by rwa [i4 (by omega)] at ha)).symm
def a8Y:CT:=j6 (fun (x:(List d3)×c6)=>b6P x.1 x.2)
@[go_sem] def c4v:=fun l x0 x1 x2 x3=>nm' (fQ' a8Y rfl (l,⟨x0,⟨x1,x2⟩,x3⟩))
def b8u (l:List c9):List d3:=(l.filter fun d=>d.Kind==3).map fun d=>⟨d.Name,0⟩
def c5w (l:List c9):(b8u l).length<=l.length:=b0r _ _ _
def c3T {p:c5} (hd:∀ j,j < p.Decls.length->p8 p j=false):b7o (b8u p.Decls)=lvl p fun _=>0:=by
 have e:b8u p.Decls=(vwN p).map fun v=>(⟨v,0⟩:d3):=by rw [vwN,q3V];rfl
 rw [e,b9j (c4r hd)];rfl
def a6J {p:c5} {g g3:Lev} {r:c6} {l:c7} {j:Nat} (hr:r∈p.Rules) (hv:r.Head.Name∈vwS p) (hl:l∈r.Body) (hk:l.Kind≠3) (hb:l.Atom.Name∈vwS p) (hL:Low p g3) (ho:∀ v∈vwS p,v≠r.Head.Name->g3 v<=(vwS p).length) (hh:g3 r.Head.Name<=(vwS p).length+j) (hj:j<=300) {x:Int} (hx:x=g3 l.Atom.Name+a6y l) (hlt:g3 r.Head.Name < x) (hM:a2m p g3<=a2m p g):
  Low p (upd g3 r.Head.Name x)/\(∀ v∈vwS p,v≠r.Head.Name->upd g3 r.Head.Name x v<=(vwS p).length)/\upd g3 r.Head.Name x r.Head.Name<=(vwS p).length+(j+1:Nat)/\a2m p (upd g3 r.Head.Name x) < a2m p g:=by
 have hn:a6y l<=1:=by unfold a6y;split<;>omega
 have hb2:g3 l.Atom.Name<=(vwS p).length+j:=by
  by_cases e:l.Atom.Name=r.Head.Name
  ·rw [e];exact hh
  ·have:=ho _ hb e;omega
 refine ⟨by rw [hx];exact hL.up hr hv hl hk hb,fun v hv2 hne=>?_, ?_, ?_⟩
 ·rw [upd,if_neg hne];exact ho v hv2 hne
 ·rw [upd,if_pos rfl];omega
 ·have:=lsum_lt (g:=g3) (n:=x) hv hlt (by omega);omega
def b5W {p:c5} {g:Lev} {h:List UInt8} {l:c7} (hk:(l.Kind==3)=true):a2l p g h l:=fun h=>absurd (by simpa using hk) h
def b5X {p:c5} {g:Lev} {h:List UInt8} {l:c7} (hk:¬ l.Atom.Name∈vwS p):a2l p g h l:=fun _ h=>absurd h hk
def c1j {p:c5} {g:Lev} {h:List UInt8} {l:c7} {x:Int} (hx:x=g l.Atom.Name+a6y l) (hn:¬ g h < x):a2l p g h l:=fun _ _=>by omega
def b4q {l:c7} (h:(l.Kind==2)=true):a6y l=1:=by rw [a6y,if_pos (by simpa using h)]
def b7g {l:c7} (h:(l.Kind==2)=false):a6y l=0:=by rw [a6y,if_neg (by simpa using h)]
def b4S (p:c5):spZ 11 [(true,[l7 p.Decls,l6 p.Rules])] [] (.tup [(false,[kTLevel ((a0I p).1)]),(false,[.b ((a0I p).2)])]):=by
 refine sy' Tryz.func11 (q' 1 [ao (.box 2 (.t 0)),ao (.mov (.k (.v false [.nl a0j]))),ao (.mov (bb false))] (.seq (q' 14 [ae 2 1,ac 39 [14],ao (.not (.t 15))] (.cond (.t 16) (q' 0 [ax (o' 2 (.mov (.k (.v false [.nl a0j])))),ab 3 false] .ret) .skip)) (q' 17 [ao (.bsl 2 0 [.s,.i .i64] []),aV 4] (.seq (q' 18 [aG 0 1,aN,aK 0] (.block 0 (.loop (q' 22 [ar 21 20] (.seq (.cond (.t 22) .skip (.exit 0)) (.seq (.block 1 (q' 23 [ai 3 19 21,aE 3,ax (w' 6 [.i .i64,.s,.i .i64]),aS 3 6 24] (q' 25 [aG 0 6,ao (.bin .eql (.t 26) (k' 3))] (.cond (.t 27) (g' 28 [am 4,aG 1 6,ao (.bld [.s,.i .i64] [(0,1,.t 30)]),ao (.bsl 2 1 [.s, .i .i64] [(0,.t 31)]),ao (.app 2 24 [.s,.i .i64] (.t 28) (.t 32)),aV 4]) .skip)))) (g' 34 [aA 21]))))))) (q' 35 [am 4,ao (.call 40 [.t 35,.k (.v false [.c (.f 41 [])])])] (.seq (q' 0 [ab 7 true] (.block 2 (.loop (.seq (q' 37 [am 7] (.cond (.t 37) .skip (.exit 2))) (.block 3 (q' 0 [ab 7 false] (q' 38 [aG 1 1,aN,aK 0] (.block 4 (.loop (q' 42 [ar 41 40] (.seq (.cond (.t 42) .skip (.exit 4)) (.seq (.block 5 (q' 43 [ai 4 39 41,aE 4,ax (w' 9 [.i .i64,.s,.sl j3,.sl a2q]),aS 4 9 44] (.seq (q' 45 [ae 2 1,ae 4 9,ac 43 [45,46],ao (.not (.t 47))] (.cond (.t 48) (.exit 5) .skip)) (q' 49 [am 4,ao (.mf 45 [.t 9]),ac 44 [49,50],aV 10] (.seq (q' 52 [aG 3 9,aN,aK 0] (.block 6 (.loop (q' 56 [ar 55 54] (.seq (.cond (.t 56) .skip (.exit 6)) (.seq (.block 7 (q' 57 [ai 10 53 55,aE 10,ax (w' 12 [.i .i64,.s, .sl j3,.i .i64,.s,.i .i64,.s,.s,.i .i64,.s]),aS 10 12 58] (.seq (q' 59 [aG 0 12,ao (.bin .eql (.t 60) (k' 3)),am 61,au (.ld true 2 (.t 1)) 62 false,au (.fa 1 (.t 12)) 62 false,au (.fa 0 (.t 64)) 62 false,au (.ld false 1 (.t 65)) 62 false,au (.call 46 [.t 63,.t 66]) 62 false,au (.bin .neq (.t 67) (k' 3)) 62 false,ao (.pick (.t 62) (bb true) (.t 68))] (.cond (.t 69) (.exit 7) .skip)) (q' 70 [am 4,af 1 12,aG 0 71,ac 47 [70,73],aV 13] (.seq (q' 75 [aG 0 12,ao (.bin .eql (.t 76) (k' 2))] (.cond (.t 77) (g' 78 [aB 13]) .skip)) (q' 80 [aM [4,10],aI 2,aG 1 82,am 13,ar 84 85] (.cond (.t 86) (q' 87 [aM [4,10,13],ai 2 87 88,aF 1,aS 1 91 89] (g' 0 [ab 7 true])) .skip))))))) (g' 92 [aA 55]))))))) (q' 93 [aM [4,10],aI 2,aG 1 95,am 4,aN,ao (.bin .gtr (.t 97) (.t 99))] (.cond (.t 100) (q' 0 [ax (o' 2 (.mov (.k (.v false [.nl a0j])))),ab 3 false] .ret) .skip))))))) (g' 101 [aA 41]))))))))))))) (q' 102 [am 4,aV 2,ab 3 true] .ret))))))) [.t 2,.t 3] [(39,[],a3q),(40,[0],b5L),(43,[],a3p),(44,[],a8Y),(46,[],a0C),(47,[],a5X)] ?_;intro hb hE;simp only [go_sem];repeat' first|apply cj'|intro hc|exact om'|fail
 ·rw [a0I,hc];exact ⟨rfl,rfl⟩
 have hN:((i8 p).1==0)=true:=hc;have hok:=b9a (by simpa using hN);obtain ⟨hB,hD,hRb⟩:=hok;have hdl:p.Decls.length<=16:=by
  have:=hB;simp only [u0,W3,V5] at this;omega
 have hvl:=c2H hB;clear hc;refine lk' false [(false,4,0,100008)] [1,19,20] [2] [] (fun i:{i:Nat // i<=p.Decls.length}=>[(4,.v false [.ow 100008]),(21,slV (.i .i64 i.1))]) nl' (fun i=>[(100008,a0j,(b8u (p.Decls.take i.1)).map d3.cells)]) (fun i=>p.Decls.length - i.1) (⟨0,by simp⟩) ?_;intro S0 hS0 i;obtain ⟨i,hi⟩:=i;have hl:=c5w (p.Decls.take i);rw [q0H] at hl;simp only [go_sem,hS0];repeat' first|apply cj'|intro hc|exact om'|fail
 ·(refine lpK_n2 (⟨i+1,by omega⟩) _ (by simp only [go_sem];try rfl) ?_;simp only [go_sem,hS0]<;>repeat' first|apply V2|exact on'|fail)
  rw [show b8u (p.Decls.take (i+1))=b8u (p.Decls.take i)++[⟨(p.Decls.getD i default).Name,0⟩] from a7U (p:=fun d:c9=>d.Kind==3) (fun d:c9=>(⟨d.Name,0⟩:d3)) default (by omega) hc];first|done|(rw [q1A];rfl)|trace_state
 ·(refine lpK_n2 (⟨i+1,by omega⟩) _ (by simp only [go_sem];try rfl) ?_;simp only [go_sem,hS0]<;>repeat' first|apply V2|exact on'|fail)
  rw [show b8u (p.Decls.take (i+1))=b8u (p.Decls.take i) from b3C (p:=fun d:c9=>d.Kind==3) (fun d:c9=>(⟨d.Name,0⟩:d3)) default (by omega) hc]
 rw [i4 (by omega),c3T hD];clear hc hl hi;refine lq' false [1,4] [2] [] (fun i:{q:Bool×Lev // Low p q.2/\(∀ v∈vwS p,q.2 v<=(vwS p).length)/\(q.1=false->Fx p q.2)}=>[(7,slV (.b i.1.1))]) nl' (fun i=>[(100008,a0j,(lvl p i.1.2).map d3.cells)]) (fun i=>2 * a2m p i.1.2+(bif i.1.1 then 1 else 0)) (⟨(true,fun _=>0),Low.zero p,fun v _=>by simp only;omega,by intro h;cases h⟩) ?_;intro S1 hS1 i;obtain ⟨⟨ag,g⟩,hL,hle,hF⟩:=i;simp only at hL hle hF;simp only [go_sem,hS0,hS1];repeat' first|apply cj'|intro hc|exact om'|fail
 ·have hag:=hc;clear hc;refine lq' false [1,4,39,40] [2] [] (fun i:{q:Nat×Bool×Lev // q.1<=p.Rules.length/\Low p q.2.2/\(∀ v∈vwS p,q.2.2 v<=(vwS p).length)/\(q.2.1=false->q.2.2=g/\∀ r∈p.Rules.take q.1,z8 p g r)/\(q.2.1=true->a2m p q.2.2 < a2m p g)}=>[(7,slV (.b i.1.2.1)),(41,slV (.i .i64 i.1.1))]) nl' (fun i=>[(100008,a0j,(lvl p i.1.2.2).map d3.cells)]) (fun i=>p.Rules.length - i.1.1) (⟨(0,false,g),by simp,hL,hle,fun _=>⟨rfl,by simp⟩,by intro h;cases h⟩) ?_;intro S2 hS2 i;obtain ⟨⟨n,ag2,g2⟩,hn,hL2,hle2,hF2,hM2⟩:=i;simp only at hn hL2 hle2 hF2 hM2;simp only [go_sem,hS0,hS1,hS2];repeat' first|apply cj'|intro hc|exact om'|fail
  ·have h3:ag2=false->g2=g/\∀ r∈p.Rules.take (n+1),z8 p g r:=fun h=>by
    refine ⟨(hF2 h).1,fun r hr=>?_⟩;rw [j7 default (by omega),W6,V6] at hr;rcases hr with hr|rfl
    ·exact (hF2 h).2 r hr
    ·intro hv;have hk3:=(a1Z hD).2 hv;have hk1:=c1f hRb (by omega) hk3;rw [hk1,hk3] at hc;exact absurd hc (by decide)
   (refine lpK_n2 (⟨(n+1,ag2,g2),by simp only;omega,hL2,hle2,h3,hM2⟩) _ rfl ?_;simp only [go_sem,hS0,hS1,hS2]<;>repeat' first|apply V2|exact on'|fail)
  ·have hk:=hc;have hnl:n < p.Rules.length:=by omega
   clear hc;have hb8:=b8d hB hnl;have hv:(p.Rules.getD n default).Head.Name∈vwS p:=(a1Z hD).1 (by simpa using hk.2);obtain ⟨m,hm,hme,hix,hgm,hsm⟩:=lvl_idx hv;have hll:=a9D p;refine lq' false [1,4,10,39,40,41,53,54] [2] [] (fun i:{q:Nat×Bool×Lev // q.1<=(p.Rules.getD n default).Body.length/\Low p q.2.2/\(∀ v∈vwS p,v≠(p.Rules.getD n default).Head.Name->q.2.2 v<=(vwS p).length)/\q.2.2 (p.Rules.getD n default).Head.Name<=(vwS p).length+(q.1:Nat)/\(q.2.1=false->q.2.2=g/\(∀ r∈p.Rules.take n,z8 p g r)/\∀ l∈(p.Rules.getD n default).Body.take q.1,a2l p g (p.Rules.getD n default).Head.Name l)/\(q.2.1=true->a2m p q.2.2 < a2m p g)}=>[(7,slV (.b i.1.2.1)),(55,slV (.i .i64 i.1.1))]) nl' (fun i=>[(100008,a0j,(lvl p i.1.2.2).map d3.cells)]) (fun i=>(p.Rules.getD n default).Body.length - i.1.1) (⟨(0,ag2,g2),by simp,hL2,fun v hv2 _=>hle2 v hv2,by simp only;have:=hle2 _ hv;omega,fun h=>⟨(hF2 h).1,(hF2 h).2,by simp⟩,hM2⟩) ?_;intro S3 hS3 i;obtain ⟨⟨j,ag3,g3⟩,hj,hL3,ho3,hh3,hF3,hM3⟩:=i;simp only at hj hL3 ho3 hh3 hF3 hM3;have hLb:∀ v,0<=a2k (lvl p g3) v/\a2k (lvl p g3) v<=40:=fun v=>by
    by_cases e:v∈vwS p
    ·rw [a4B g3 e];refine ⟨hL3.ge v, ?_⟩;by_cases e2:v=(p.Rules.getD n default).Head.Name
     ·rw [e2];omega
     ·have:=ho3 v e e2;omega
    ·rw [c5M g3 e];omega
   have hw:∀ v,IntKind.i64.wrap (a2k (lvl p g3) v+1)=a2k (lvl p g3) v+1:=fun v=>by have:=hLb v;exact w64 (by omega) (by omega) (by omega)
   simp only [go_sem,hS0,hS1,hS2,hix,hgm,hsm,hll,hS3,hw];repeat' first|apply cj'|intro hc|exact om'|fail
   ·have h3:ag3=false->g3=g/\(∀ r∈p.Rules.take n,z8 p g r)/\∀ l∈(p.Rules.getD n default).Body.take (j+1),a2l p g (p.Rules.getD n default).Head.Name l:=fun h=>by
     refine ⟨(hF3 h).1,(hF3 h).2.1,fun l hl=>?_⟩;rw [j7 default (by omega),W6,V6] at hl;rcases hl with hl|rfl
     ·exact (hF3 h).2.2 l hl
     ·rcases hc with hc|hc
      ·exact b5W hc
      ·refine b5X fun hv3=>?_
       rw [(a1Z hD).2 hv3] at hc;exact absurd hc (by decide)
    (refine lpK_n2 (⟨(j+1,ag3,g3),by simp only;omega,hL3,ho3,by simp only;omega,h3,hM3⟩) _ rfl ?_;simp only [go_sem,hS0,hS1,hS2,hix,hgm,hsm,hll,hS3,hw]<;>repeat' first|apply V2|exact on'|fail)
   ·have hq:(((p.Rules.getD n default).Body.getD j default).Kind==3)=false/\(a0M p ((p.Rules.getD n default).Body.getD j default).Atom.Name != 3)=false:=by assumption
    have hq2:(((p.Rules.getD n default).Body.getD j default).Kind==2)=true:=by assumption
    have hvv:((p.Rules.getD n default).Body.getD j default).Atom.Name∈vwS p:=(a1Z hD).1 (by simpa [bne] using hq.2);have hjl:j < (p.Rules.getD n default).Body.length:=by omega
    have hrm:p.Rules.getD n default∈p.Rules:=A3w hnl;have hlm:((p.Rules.getD n default).Body.getD j default)∈(p.Rules.getD n default).Body:=A3w hjl;have hkk:((p.Rules.getD n default).Body.getD j default).Kind≠3:=fun e=>by have:=hq.1;rw [e] at this;exact absurd this (by decide)
    have e:a2k (lvl p g3) ((p.Rules.getD n default).Body.getD j default).Atom.Name+1=g3 ((p.Rules.getD n default).Body.getD j default).Atom.Name+a6y ((p.Rules.getD n default).Body.getD j default):=by rw [a4B g3 hvv,b4q hq2]
    have hMM:a2m p g3<=a2m p g:=by
     cases hag3:ag3 with
     | true=>exact Nat.le_of_lt (hM3 hag3)
     | false=>rw [(hF3 hag3).1];exact q0A _
    have R:=a6J hrm hv hlm hkk hvv hL3 ho3 hh3 (by omega) e hc hMM
    (refine lpK_n2 (⟨(j+1,true,upd g3 (p.Rules.getD n default).Head.Name (a2k (lvl p g3) ((p.Rules.getD n default).Body.getD j default).Atom.Name+1)),by simp only;omega,R.1,R.2.1,R.2.2.1,fun h=>(by cases h),fun _=>R.2.2.2⟩) _ rfl ?_;simp only [go_sem,hS0,hS1,hS2,hix,hgm,hsm,hll,hS3,hw]<;>repeat' first|apply V2|exact on'|fail)
   ·have hq:(((p.Rules.getD n default).Body.getD j default).Kind==3)=false/\(a0M p ((p.Rules.getD n default).Body.getD j default).Atom.Name != 3)=false:=by assumption
    have hq2:(((p.Rules.getD n default).Body.getD j default).Kind==2)=true:=by assumption
    have hvv:((p.Rules.getD n default).Body.getD j default).Atom.Name∈vwS p:=(a1Z hD).1 (by simpa [bne] using hq.2);have hjl:j < (p.Rules.getD n default).Body.length:=by omega
    have hrm:p.Rules.getD n default∈p.Rules:=A3w hnl;have hlm:((p.Rules.getD n default).Body.getD j default)∈(p.Rules.getD n default).Body:=A3w hjl;have e:a2k (lvl p g3) ((p.Rules.getD n default).Body.getD j default).Atom.Name+1=g3 ((p.Rules.getD n default).Body.getD j default).Atom.Name+a6y ((p.Rules.getD n default).Body.getD j default):=by rw [a4B g3 hvv,b4q hq2]
    have h3:ag3=false->g3=g/\(∀ r∈p.Rules.take n,z8 p g r)/\∀ l∈(p.Rules.getD n default).Body.take (j+1),a2l p g (p.Rules.getD n default).Head.Name l:=fun h=>by
     refine ⟨(hF3 h).1,(hF3 h).2.1,fun l hl=>?_⟩;rw [j7 default (by omega),W6,V6] at hl;rcases hl with hl|rfl
     ·exact (hF3 h).2.2 l hl
     ·have:=(hF3 h).1;rw [<- this];exact c1j e hc
    (refine lpK_n2 (⟨(j+1,ag3,g3),by simp only;omega,hL3,ho3,by simp only;omega,h3,hM3⟩) _ rfl ?_;simp only [go_sem,hS0,hS1,hS2,hix,hgm,hsm,hll,hS3,hw]<;>repeat' first|apply V2|exact on'|fail)
   ·have hq:(((p.Rules.getD n default).Body.getD j default).Kind==3)=false/\(a0M p ((p.Rules.getD n default).Body.getD j default).Atom.Name != 3)=false:=by assumption
    have hq2:(((p.Rules.getD n default).Body.getD j default).Kind==2)=false:=by assumption
    have hvv:((p.Rules.getD n default).Body.getD j default).Atom.Name∈vwS p:=(a1Z hD).1 (by simpa [bne] using hq.2);have hjl:j < (p.Rules.getD n default).Body.length:=by omega
    have hrm:p.Rules.getD n default∈p.Rules:=A3w hnl;have hlm:((p.Rules.getD n default).Body.getD j default)∈(p.Rules.getD n default).Body:=A3w hjl;have hkk:((p.Rules.getD n default).Body.getD j default).Kind≠3:=fun e=>by have:=hq.1;rw [e] at this;exact absurd this (by decide)
    have e:a2k (lvl p g3) ((p.Rules.getD n default).Body.getD j default).Atom.Name=g3 ((p.Rules.getD n default).Body.getD j default).Atom.Name+a6y ((p.Rules.getD n default).Body.getD j default):=by rw [a4B g3 hvv,b7g hq2];omega
    have hMM:a2m p g3<=a2m p g:=by
     cases hag3:ag3 with
     | true=>exact Nat.le_of_lt (hM3 hag3)
     | false=>rw [(hF3 hag3).1];exact q0A _
    have R:=a6J hrm hv hlm hkk hvv hL3 ho3 hh3 (by omega) e hc hMM
    (refine lpK_n2 (⟨(j+1,true,upd g3 (p.Rules.getD n default).Head.Name (a2k (lvl p g3) ((p.Rules.getD n default).Body.getD j default).Atom.Name)),by simp only;omega,R.1,R.2.1,R.2.2.1,fun h=>(by cases h),fun _=>R.2.2.2⟩) _ rfl ?_;simp only [go_sem,hS0,hS1,hS2,hix,hgm,hsm,hll,hS3,hw]<;>repeat' first|apply V2|exact on'|fail)
   ·have hq:(((p.Rules.getD n default).Body.getD j default).Kind==3)=false/\(a0M p ((p.Rules.getD n default).Body.getD j default).Atom.Name != 3)=false:=by assumption
    have hq2:(((p.Rules.getD n default).Body.getD j default).Kind==2)=false:=by assumption
    have hvv:((p.Rules.getD n default).Body.getD j default).Atom.Name∈vwS p:=(a1Z hD).1 (by simpa [bne] using hq.2);have hjl:j < (p.Rules.getD n default).Body.length:=by omega
    have hrm:p.Rules.getD n default∈p.Rules:=A3w hnl;have hlm:((p.Rules.getD n default).Body.getD j default)∈(p.Rules.getD n default).Body:=A3w hjl;have e:a2k (lvl p g3) ((p.Rules.getD n default).Body.getD j default).Atom.Name=g3 ((p.Rules.getD n default).Body.getD j default).Atom.Name+a6y ((p.Rules.getD n default).Body.getD j default):=by rw [a4B g3 hvv,b7g hq2];omega
    have h3:ag3=false->g3=g/\(∀ r∈p.Rules.take n,z8 p g r)/\∀ l∈(p.Rules.getD n default).Body.take (j+1),a2l p g (p.Rules.getD n default).Head.Name l:=fun h=>by
     refine ⟨(hF3 h).1,(hF3 h).2.1,fun l hl=>?_⟩;rw [j7 default (by omega),W6,V6] at hl;rcases hl with hl|rfl
     ·exact (hF3 h).2.2 l hl
     ·have:=(hF3 h).1;rw [<- this];exact c1j e hc
    (refine lpK_n2 (⟨(j+1,ag3,g3),by simp only;omega,hL3,ho3,by simp only;omega,h3,hM3⟩) _ rfl ?_;simp only [go_sem,hS0,hS1,hS2,hix,hgm,hsm,hll,hS3,hw]<;>repeat' first|apply V2|exact on'|fail)
   ·rw [b5V hL3 hv hc];exact ⟨rfl,rfl⟩
   ·have h1:∀ v∈vwS p,g3 v<=(vwS p).length:=fun v hv2=>by
     by_cases e:v=(p.Rules.getD n default).Head.Name
     ·rw [e];omega
     ·exact ho3 v hv2 e
    have h3:ag3=false->g3=g/\∀ r∈p.Rules.take (n+1),z8 p g r:=fun h=>by
     refine ⟨(hF3 h).1,fun r hr=>?_⟩;rw [j7 default (by omega),W6,V6] at hr;rcases hr with hr|rfl
     ·exact (hF3 h).2.1 r hr
     ·intro _ l hl;refine (hF3 h).2.2 l ?_;rw [i4 (by omega)];exact hl
    (refine lpK_n2 (⟨(n+1,ag3,g3),by simp only;omega,hL3,h1,h3,hM3⟩) _ rfl ?_;simp only [go_sem,hS0,hS1,hS2,hix,hgm,hsm,hll,hS3,hw]<;>repeat' first|apply V2|exact on'|fail)
  ·have h3:ag2=false->Fx p g2:=fun h=>by
    have h5:=hF2 h;rw [i4 (by omega)] at h5;rw [h5.1];exact h5.2
   have hmm:ag2=false->g2=g:=fun h=>(hF2 h).1
   (refine lpK_n2 (⟨(ag2,g2),hL2,hle2,h3⟩) _ rfl ?_;simp only [go_sem,hS0,hS1,hS2]<;>repeat' first|apply V2|exact on'|fail)
   cases hag2:ag2 with
   | false=>rw [hmm hag2,hag];simp only [W5,W4];omega
   | true=>have:=hM2 hag2;rw [hag];simp only [W5];omega
 ·rw [b4m hN ⟨hF hc,hL,hle⟩];exact ⟨rfl,rfl⟩
def a7r:CT:=j6 (fun (x:c5)=>b4S x)
@[go_sem] def c3r:=fun x0 x1=>nm' (fQ' a7r rfl ⟨x0,x1⟩)
def a3z (p:c5) (k:Int):List c9:=p.Decls.filter fun d=>d.Kind==k
@[go_sem] def l12Set_nil (l:List d4) (n:List UInt8) (a:Int):a3R [(true,[a6G l]),(false,[.s n]),(true,[.i .i64 a,.sl false a1J []])]=some (((∀ x∈l,x.Rel.Rows=[])/\True)/\l.length<=1000,[],.one (true,[a6G (b0T l n ⟨n,⟨a,[]⟩⟩)])):=by
 have h:=b0n l n a [];simpa using h
def b8z (l:List c9) (d:c9):a0o (l++[d])=b0T (a0o l) d.Name ⟨d.Name,⟨d.Arity,[]⟩⟩:=by rw [a0o,q3Q];rfl
@[go_sem] def emptyN_nil:a0o []=[]:=rfl
def b2l (p:c5) (k:Int) (hpre:p.Decls.length<=16):spZ 48 [(true,[l7 p.Decls,l6 p.Rules]),(false,[.i .i64 k])] [] (.one (true,[a6G ((⟨a0o (a3z p k)⟩:f5).Rels)])):=by
 refine sx' false true none Tryz.func48 (q' 2 [ao (.box 2 (.t 0)),ax (w' 4 [.sl a3E])] (q' 5 [ax (o' 8 (.bld [.sl a3E] [])),aw [.sl a3E],aS 1 5 8] (.seq (q' 9 [aG 0 2,aN,aK 0] (.block 0 (.loop (q' 13 [ar 12 11] (.seq (.cond (.t 13) .skip (.exit 0)) (.seq (.block 1 (q' 14 [ai 3 10 12,aE 3,ax (w' 7 [.i .i64,.s,.i .i64]),aS 3 7 15] (q' 16 [aG 0 7,am 1,ao (.bin .eql (.t 17) (.t 18))] (.cond (.t 19) (g' 20 [ae 1 5,aG 1 7,aG 2 7,ao (.bld [.i .i64,.sl a1J] [(0,1,.t 24)]),ac 105 [20,22,25],aS 1 5 26]) .skip)))) (g' 27 [aA 12]))))))) (q' 28 [ae 1 5,aS 1 4 28] .ret)))) [.c 4 true 1] [(105,[],a3R)] ?_;intro hb hE;simp only [go_sem];repeat' first|apply cj'|intro hc|exact om'|fail
 refine aw_keys false [(true,10,0,200020)] ?_;refine b3g 200020 ?_;refine lq' false [1,4,5,10,11] [8] [] (fun i:{i:Nat // i<=p.Decls.length}=>[(12,slV (.i .i64 i.1))]) (fun i=>[(10,[.c (a6G (a0o ((p.Decls.take i.1).filter fun d=>d.Kind==k)))])]) nl' (fun i=>p.Decls.length - i.1) (⟨0,by simp⟩) ?_;intro S0 hS0 i;obtain ⟨i,hi⟩:=i;have h1:=b3y ((p.Decls.take i).filter fun d=>d.Kind==k);have h2:=q2A (fun d:c9=>d.Kind==k) (p.Decls.take i);have h3:=b8y ((p.Decls.take i).filter fun d=>d.Kind==k);rw [q0H] at h2;simp only [go_sem,hS0];repeat' first|apply cj'|intro hc|exact om'|fail
 all_goals first
  | omega
  | exact h3
  | exact ⟨h3,by omega⟩
  | ((refine lpK_n2 (⟨i+1,by omega⟩) _ rfl ?_;simp only [go_sem,hS0]<;>repeat' first|apply V2|exact on'|fail);rw [f_yes (p:=fun d:c9=>d.Kind==k) default (by omega) hc,b8z];done)
  | ((refine lpK_n2 (⟨i+1,by omega⟩) _ rfl ?_;simp only [go_sem,hS0]<;>repeat' first|apply V2|exact on'|fail);rw [f_no (p:=fun d:c9=>d.Kind==k) default (by omega) hc];done)
  | (rw [i4 (by omega)];rfl)
  | trace_state
def a5m:CT:=s3 (fun (x:c5×Int) h=>b2l x.1 x.2 h)
@[go_sem] def c0S:=fun x0 x1 k=>nm' (fP' a5m rfl (⟨x0,x1⟩,k))
def b7b (l:List d3) (v:List UInt8):spZ 100 [(false,[b2o l]),(false,[.s v])] [] (.one (false,[.i .i64 (a0N l v)])):=by
 refine sy' Tryz.func100 (q' 4 [aK 0] (.seq (q' 6 [am 0,aN,aK 0] (.block 0 (.loop (q' 9 [ar 8 7] (.seq (.cond (.t 9) .skip (.exit 0)) (.seq (.block 1 (q' 10 [am 8,aV 5] (q' 11 [aM [0,5],aI 2,aG 0 13,am 1,ao (.bin .eql (.t 15) (.t 16))] (.cond (.t 17) (q' 18 [aM [0,5],aI 2,aG 1 20,aV 4] .ret) .skip)))) (g' 23 [aA 8]))))))) (q' 4 [ao (.mov (.k (.v false [.c (.i .i64 (-1))])))] .ret))) [.t 4] [] ?_;intro hb hE;simp only [go_sem];repeat' first|apply cj'|intro hc|exact om'|fail
 refine lq' false [0,1,7] [] [] (fun i:{i:Nat // i<=l.length/\(l.take i).any (fun d=>d.Name==v)=false}=>[(8,slV (.i .i64 i.1))]) nl' nl' (fun i=>l.length - i.1) (⟨0,by simp⟩) ?_;intro S0 hS0 i;obtain ⟨i,hi,ha⟩:=i;simp only [go_sem,hS0];repeat' first|apply cj'|intro hc|exact om'|fail
 ·rw [a0N,b6F (d:=default) (i:=i) (by omega) ha hc];rfl
 ·exact nx0 ⟨i+1,by omega,p9 (p:=fun d:d3=>d.Name==v) default (by omega) ha hc⟩
 ·rw [a0N,a6E (by rwa [i4 (by omega)] at ha)];rfl
def a9j:CT:=j6 (fun (x:(List d3)×(List UInt8))=>b7b x.1 x.2)
@[go_sem] def c4H:=fun l v=>nm' (fQ' a9j rfl (l,v))
def relL (l:List d4):List d3:=l.map fun x=>⟨x.Name,0⟩
def c5U (p:c5):relL (a0o (a3z p 3))=lvl p fun _=>0:=by
 have h:=a9l (a3z p 3);have e:relL (a0o (a3z p 3))=((a0o (a3z p 3)).map d4.Name).map fun v=>(⟨v,0⟩:d3):=by rw [q3V];rfl
 rw [e,h];rfl
def c4d (p:c5) (k:Int):(a0o (a3z p k)).length<=p.Decls.length:=by
 have h1:=b3y (a3z p k);have h2:=q2A (fun d:c9=>d.Kind==k) p.Decls;exact q2G h1 h2
def vw_at {p:c5} {n:Nat} (hn:n < (vwS p).length):(vwS p).getD n []∈vwS p/\(∀ g,(lvl p g).getD n default=⟨(vwS p).getD n [],g ((vwS p).getD n [])⟩)/\∀ g x,(lvl p g).set n ⟨(vwS p).getD n [],x⟩=lvl p (upd g ((vwS p).getD n []) x):=
 ⟨A3w hn,fun g=>b8W p g hn,fun g x=>c2p p g hn x⟩
def b7c {p:c5} {g:Lev} {l:c7} {x:Int} (h0:∀ v,0<=g v) (hx:((l.Kind==2&&decide (0<=a0N (lvl p g) l.Atom.Name))=true/\x=a0N (lvl p g) l.Atom.Name+1)\/((l.Kind==2&&decide (0<=a0N (lvl p g) l.Atom.Name))=false/\x=a0N (lvl p g) l.Atom.Name)):(l.Atom.Name∈vwS p/\x=g l.Atom.Name+a6y l)\/(¬ l.Atom.Name∈vwS p/\x=-1):=by
 by_cases e:l.Atom.Name∈vwS p
 ·refine .inl ⟨e, ?_⟩;rw [b5U g e,W9 (h0 l.Atom.Name),q0X] at hx;rcases hx with ⟨h1,h2⟩|⟨h1,h2⟩
  ·rw [b4q h1];exact h2
  ·rw [b7g h1];omega
 ·refine .inr ⟨e, ?_⟩;rw [b8R g e,show decide ((0:Int)<=-1)=false from rfl,q2P] at hx;rcases hx with ⟨h1,h2⟩|⟨h1,h2⟩
  ·cases h1
  ·exact h2
def b8S {p:c5} {g:Lev} {h:List UInt8} {l:c7} {x:Int} (h0:∀ v,0<=g v) (hx:((l.Kind==2&&decide (0<=a0N (lvl p g) l.Atom.Name))=true/\x=a0N (lvl p g) l.Atom.Name+1)\/((l.Kind==2&&decide (0<=a0N (lvl p g) l.Atom.Name))=false/\x=a0N (lvl p g) l.Atom.Name)) (hc:(l.Kind != 3&&decide (g h < x))=false):a2l p g h l:=by
 by_cases hk:(l.Kind==3)=true
 ·exact b5W hk
 ·have hn:¬ g h < x:=by
   rw [bne,(by simpa using hk:(l.Kind==3)=false),q3S,q0D] at hc;exact of_decide_eq_false hc
  rcases b7c h0 hx with ⟨h1,h2⟩|⟨h1,h2⟩
  ·exact c1j h2 hn
  ·exact b5X h1
def b8U {p:c5} {g:Lev} {h:List UInt8} {b:List c7} {j:Nat} (hj:j < b.length) (h1:∀ l∈b.take j,a2l p g h l) (h2:a2l p g h (b.getD j default)):∀ l∈b.take (j+1),a2l p g h l:=fun l hl=>by
 rw [j7 default hj,W6,V6] at hl;rcases hl with hl|rfl
 ·exact h1 l hl
 ·exact h2
def b5j (p:c5):spZ 38 [(true,[l7 p.Decls,l6 p.Rules])] [] (.tup [(false,[b2o ((a0I p).1)]),(false,[.b ((a0I p).2)])]):=by
 refine sx' false true none Tryz.func38 (q' 1 [ao (.box 2 (.t 0)),ao (.mov (.k (.v false [.nl a0j]))),ao (.mov (bb false))] (q' 16 [ae 2 1,ac 36 [16],aV 15,ao (.ext (.t 15) 0),ao (.ext (.t 15) 1),av 4 18,aV 5] (.seq (q' 20 [am 4,ao (.bin .neq (.t 20) (k' 0))] (.cond (.t 21) (q' 0 [ax (o' 2 (.mov (.k (.v false [.nl a0j])))),ab 3 false] .ret) .skip)) (q' 22 [ao (.bsl 2 0 [.s,.i .i64] []),aV 6] (.seq (q' 23 [ae 2 1,ao (.call 48 [.t 23,.k (.v false [.c (.i .i64 3)])]),ao (.fl false 0 1 (.t 24)),aN,aK 0] (.block 0 (.loop (q' 28 [ar 27 26] (.seq (.cond (.t 28) .skip (.exit 0)) (.seq (.block 1 (q' 29 [ai 3 25 27,aE 3,ax (w' 8 [.s,.i .i64, .sl a1J]),aS 3 8 30] (g' 31 [am 6,aG 0 8,ao (.bld [.s,.i .i64] [(0,1,.t 33)]),ao (.bsl 2 1 [.s,.i .i64] [(0,.t 34)]),ao (.app 2 24 [.s,.i .i64] (.t 31) (.t 35)),aV 6]))) (g' 37 [aA 27]))))))) (.seq (q' 0 [ab 9 true] (.block 2 (.loop (.seq (q' 38 [am 9] (.cond (.t 38) .skip (.exit 2))) (.block 3 (q' 0 [ab 9 false] (q' 39 [am 6,aN,aK 0] (.block 4 (.loop (q' 42 [ar 41 40] (.seq (.cond (.t 42) .skip (.exit 4)) (.seq (.block 5 (q' 43 [am 41,aV 10] (.seq (q' 44 [aG 1 1,aN,aK 0] (.block 6 (.loop (q' 48 [ar 47 46] (.seq (.cond (.t 48) .skip (.exit 6)) (.seq (.block 7 (q' 49 [am 47,aV 11] (q' 50 [aG 1 1,am 11,aI 4,aE 4,ax (w' 12 [.i .i64,.s,.sl j3,.sl a2q]),aS 4 12 54] (.seq (.seq (G' 55 [af 1 12,aG 0 55,aM [6,10],aI 2,aG 0 60,ao (.bin .neq (.t 57) (.t 62))]) (.cond (.t 63) (.exit 7) .skip)) (q' 64 [aG 3 12,aN,aK 0] (.block 8 (.loop (q' 68 [ar 67 66] (.seq (.cond (.t 68) .skip (.exit 8)) (.seq (.block 9 (q' 69 [am 67,aV 13] (q' 70 [am 6,aG 3 12,am 13,aI 10,aF 1,aG 0 75,ac 100 [70,77],aV 14] (.seq (q' 79 [aG 3 12,am 13,aI 10,aG 0 82,ao (.bin .eql (.t 84) (k' 2)),am 85,au (.mov (.t 14)) 86 true,au (.bin .geq (.t 87) (k' 0)) 86 true,ao (.pick (.t 86) (.t 88) (bb false))] (.cond (.t 89) (g' 90 [aB 14]) .skip)) (q' 92 [aG 3 12,am 13,aI 10,aG 0 95,ao (.bin .neq (.t 97) (k' 3)),am 98,au (.mov (.t 14)) 99 true,au (.mov (.t 6)) 99 true,au (.mov (.t 10)) 99 true,au (.ia 2 (.t 101) (.t 102)) 99 true,au (.fa 1 (.t 103)) 99 true,au (.ld false 1 (.t 104)) 99 true,au (.bin .gtr (.t 100) (.t 105)) 99 true,ao (.pick (.t 99) (.t 106) (bb false))] (.cond (.t 107) (q' 108 [aM [6,10,14],ai 2 108 109,aF 1,aS 1 112 110] (g' 0 [ab 9 true])) .skip)))))) (g' 113 [aA 67]))))))))))) (g' 114 [aA 47]))))))) (q' 115 [aM [6,10],aI 2,aG 1 117,am 6,aN,ao (.bin .gtr (.t 119) (.t 121))] (.cond (.t 122) (q' 0 [ax (o' 2 (.mov (.k (.v false [.nl a0j])))),ab 3 false] .ret) .skip))))) (g' 123 [aA 41]))))))))))))) (q' 124 [am 6,aV 2,ab 3 true] .ret))))))) [.t 2,.t 3] [(36,[],a1v),(48,[],a5m),(100,[],a9j)] ?_;intro hb hE;simp only [go_sem];repeat' first|apply cj'|intro hc|exact om'|fail
 ·rw [a0I,show ((i8 p).1==0)=false by simpa [bne] using hc];exact ⟨rfl,rfl⟩
 ·have hB:=b4o (p:=p) (by simpa [bne] using hc);simp only [u0,W3,V5] at hB;omega
 have hN:((i8 p).1==0)=true:=by simpa [bne] using hc
 obtain ⟨hB,hD,hRb⟩:=b9a (by simpa using hN);have hdl:p.Decls.length<=16:=by
  have:=hB;simp only [u0,W3,V5] at this;omega
 have hrl:p.Rules.length<=24:=by
  have:=hB;simp only [u0,W3,V5] at this;omega
 have hvl:=c2H hB;have hel:=c4d p 3;clear hc;refine lk' false [(false,6,0,100012)] [1,25,26] [2] [] (fun i:{i:Nat // i<=(a0o (a3z p 3)).length}=>[(6,.v false [.ow 100012]),(27,slV (.i .i64 i.1))]) nl' (fun i=>[(100012,a0j,(relL ((a0o (a3z p 3)).take i.1)).map d3.cells)]) (fun i=>(a0o (a3z p 3)).length - i.1) (⟨0,by simp⟩) ?_;intro S0 hS0 i;obtain ⟨i,hi⟩:=i;have hl:(relL ((a0o (a3z p 3)).take i)).length<=16:=by rw [relL,q1Y,q0H];omega
 simp only [go_sem,hS0];repeat' first|apply cj'|intro hc|exact om'|fail
 ·(refine lpK_n2 (⟨i+1,by omega⟩) _ (by simp only [go_sem];try rfl) ?_;simp only [go_sem,hS0]<;>repeat' first|apply V2|exact on'|fail)
  rw [show relL ((a0o (a3z p 3)).take (i+1))=relL ((a0o (a3z p 3)).take i)++[⟨((a0o (a3z p 3)).getD i default).Name,0⟩] from m_snoc (fun x:d4=>(⟨x.Name,0⟩:d3)) default (by omega)];first|done|(rw [q1A];rfl)|trace_state
 rw [i4 (by omega),c5U];clear hc hl hi;refine lq' false [1,6] [2] [] (fun i:{q:Bool×Lev // Low p q.2/\(∀ v∈vwS p,q.2 v<=(vwS p).length)/\(q.1=false->Fx p q.2)}=>[(9,slV (.b i.1.1))]) nl' (fun i=>[(100012,a0j,(lvl p i.1.2).map d3.cells)]) (fun i=>2 * a2m p i.1.2+(bif i.1.1 then 1 else 0)) (⟨(true,fun _=>0),Low.zero p,fun v _=>by simp only;omega,by intro h;cases h⟩) ?_;intro S1 hS1 i;obtain ⟨⟨ag,g⟩,hL,hle,hF⟩:=i;simp only at hL hle hF;have hll:=a9D p;simp only [go_sem,hS0,hS1,hll];repeat' first|apply cj'|intro hc|exact om'|fail
 ·have hag:=hc;clear hc;refine lq' false [1,6,40] [2] [] (fun i:{q:Nat×Bool×Lev // q.1<=(vwS p).length/\Low p q.2.2/\(∀ v∈vwS p,q.2.2 v<=(vwS p).length)/\(q.2.1=false->q.2.2=g/\∀ r∈p.Rules,r.Head.Name∈(vwS p).take q.1->z8 p g r)/\(q.2.1=true->a2m p q.2.2 < a2m p g)}=>[(9,slV (.b i.1.2.1)),(41,slV (.i .i64 i.1.1))]) nl' (fun i=>[(100012,a0j,(lvl p i.1.2.2).map d3.cells)]) (fun i=>(vwS p).length - i.1.1) (⟨(0,false,g),by simp,hL,hle,fun _=>⟨rfl,by simp⟩,by intro h;cases h⟩) ?_;intro S2 hS2 i;obtain ⟨⟨n,ag2,g2⟩,hn,hL2,hle2,hF2,hM2⟩:=i;simp only at hn hL2 hle2 hF2 hM2;simp only [go_sem,hS0,hS1,hll,hS2];repeat' first|apply cj'|intro hc|exact om'|fail
  ·have hnl:n < (vwS p).length:=by omega
   clear hc;obtain ⟨hv,hgm,hsm⟩:=vw_at hnl;refine lq' false [1,6,10,40,41,46] [2] [] (fun i:{q:Nat×Bool×Lev // q.1<=p.Rules.length/\Low p q.2.2/\(∀ v∈vwS p,v≠(vwS p).getD n []->q.2.2 v<=(vwS p).length)/\q.2.2 ((vwS p).getD n [])<=(vwS p).length+(8 * q.1:Nat)/\(q.2.1=false->q.2.2=g/\(∀ r∈p.Rules,r.Head.Name∈(vwS p).take n->z8 p g r)/\∀ r∈p.Rules.take q.1,r.Head.Name=(vwS p).getD n []->z8 p g r)/\(q.2.1=true->a2m p q.2.2 < a2m p g)}=>[(9,slV (.b i.1.2.1)),(47,slV (.i .i64 i.1.1))]) nl' (fun i=>[(100012,a0j,(lvl p i.1.2.2).map d3.cells)]) (fun i=>p.Rules.length - i.1.1) (⟨(0,ag2,g2),by simp,hL2,fun v hv2 _=>hle2 v hv2,by simp only;have:=hle2 _ hv;omega,fun h=>⟨(hF2 h).1,(hF2 h).2,by simp⟩,hM2⟩) ?_;intro S3 hS3 i;obtain ⟨⟨k,ag3,g3⟩,hk,hL3,ho3,hh3,hF3,hM3⟩:=i;simp only at hk hL3 ho3 hh3 hF3 hM3;simp only [go_sem,hS0,hS1,hll,hS2,hgm,hsm,hS3];repeat' first|apply cj'|intro hc|exact om'|fail
   ·have h3:ag3=false->g3=g/\(∀ r∈p.Rules,r.Head.Name∈(vwS p).take n->z8 p g r)/\∀ r∈p.Rules.take (k+1),r.Head.Name=(vwS p).getD n []->z8 p g r:=fun h=>by
     refine ⟨(hF3 h).1,(hF3 h).2.1,fun r hr he=>?_⟩;rw [j7 default (by omega),W6,V6] at hr;rcases hr with hr|rfl
     ·exact (hF3 h).2.2 r hr he
     ·rw [he] at hc;simp at hc
    (refine lpK_n2 (⟨(k+1,ag3,g3),by simp only;omega,hL3,ho3,by simp only;omega,h3,hM3⟩) _ rfl ?_;simp only [go_sem,hS0,hS1,hll,hS2,hgm,hsm,hS3]<;>repeat' first|apply V2|exact on'|fail)
   ·have hkl:k < p.Rules.length:=by omega
    have hrh:(p.Rules.getD k default).Head.Name=(vwS p).getD n []:=by simpa using hc
    clear hc;have hb8:=b8d hB hkl;have hrm:p.Rules.getD k default∈p.Rules:=A3w hkl;refine lq' false [1,6,10,12,40,41,46,47,66] [2,24] [] (fun i:{q:Nat×Bool×Lev // q.1<=(p.Rules.getD k default).Body.length/\Low p q.2.2/\(∀ v∈vwS p,v≠(vwS p).getD n []->q.2.2 v<=(vwS p).length)/\q.2.2 ((vwS p).getD n [])<=(vwS p).length+(8 * k+q.1:Nat)/\(q.2.1=false->q.2.2=g/\(∀ r∈p.Rules,r.Head.Name∈(vwS p).take n->z8 p g r)/\(∀ r∈p.Rules.take k,r.Head.Name=(vwS p).getD n []->z8 p g r)/\∀ l∈(p.Rules.getD k default).Body.take q.1,a2l p g ((vwS p).getD n []) l)/\(q.2.1=true->a2m p q.2.2 < a2m p g)}=>[(9,slV (.b i.1.2.1)),(67,slV (.i .i64 i.1.1))]) nl' (fun i=>[(100012,a0j,(lvl p i.1.2.2).map d3.cells)]) (fun i=>(p.Rules.getD k default).Body.length - i.1.1) (⟨(0,ag3,g3),by simp,hL3,ho3,by simp only;omega,fun h=>⟨(hF3 h).1,(hF3 h).2.1,(hF3 h).2.2,by simp⟩,hM3⟩) ?_;intro S4 hS4 i;obtain ⟨⟨j,ag4,g4⟩,hj,hL4,ho4,hh4,hF4,hM4⟩:=i;simp only at hj hL4 ho4 hh4 hF4 hM4;have hLb:∀ v,-1<=a0N (lvl p g4) v/\a0N (lvl p g4) v<=400:=fun v=>by
     by_cases e:v∈vwS p
     ·rw [b5U g4 e];have:=hL4.ge v;by_cases e2:v=(vwS p).getD n []
      ·rw [e2] at this ⊢;omega
      ·have:=ho4 v e e2;omega
     ·rw [b8R g4 e];omega
    have hw:∀ v,IntKind.i64.wrap (a0N (lvl p g4) v+1)=a0N (lvl p g4) v+1:=fun v=>by have:=hLb v;rw [IntWalk.i64_in _ (by omega)]
    simp only [go_sem,hS0,hS1,hll,hS2,hgm,hsm,hS3,hS4,hw];repeat' first|apply cj'|intro hc|exact om'|fail
    ·rename_i hq;have hjl:j < (p.Rules.getD k default).Body.length:=by omega
     have hlm:((p.Rules.getD k default).Body.getD j default)∈(p.Rules.getD k default).Body:=A3w hjl;have hkk:((p.Rules.getD k default).Body.getD j default).Kind≠3:=by simpa using hc.1
     have hx0:=b7c (x:=a0N (lvl p g4) ((p.Rules.getD k default).Body.getD j default).Atom.Name+1) hL4.ge (.inl ⟨by simpa using hq,rfl⟩);have hh0:=hL4.ge ((vwS p).getD n []);have hc2:=hc.2;rcases hx0 with ⟨hvv,e⟩|⟨hvv,e⟩
     ·have hMM:a2m p g4<=a2m p g:=by
       cases hag4:ag4 with
       | true=>exact Nat.le_of_lt (hM4 hag4)
       | false=>rw [(hF4 hag4).1];exact q0A _
      have R:=a6J (j:=8 * k+j) hrm (by rw [hrh];exact hv) hlm hkk hvv hL4 (by rw [hrh];exact ho4) (by rw [hrh];exact hh4) (by omega) e (by rw [hrh];exact hc2) hMM;rw [hrh] at R
      (refine lpK_n2 (⟨(j+1,true,upd g4 ((vwS p).getD n []) (a0N (lvl p g4) ((p.Rules.getD k default).Body.getD j default).Atom.Name+1)),by simp only;omega,R.1,R.2.1,R.2.2.1,fun h=>(by cases h),fun _=>R.2.2.2⟩) _ rfl ?_;simp only [go_sem,hS0,hS1,hll,hS2,hgm,hsm,hS3,hS4,hw]<;>repeat' first|apply V2|exact on'|fail)
     ·exfalso;omega
    ·rename_i hq;have hjl:j < (p.Rules.getD k default).Body.length:=by omega
     have hst:a2l p g4 ((vwS p).getD n []) ((p.Rules.getD k default).Body.getD j default):=b8S hL4.ge (.inl ⟨by simpa using hq,rfl⟩) hc;have h3:ag4=false->g4=g/\(∀ r∈p.Rules,r.Head.Name∈(vwS p).take n->z8 p g r)/\(∀ r∈p.Rules.take k,r.Head.Name=((vwS p).getD n [])->z8 p g r)/\∀ l∈(p.Rules.getD k default).Body.take (j+1),a2l p g ((vwS p).getD n []) l:=fun h=>by
      have h5:=hF4 h;refine ⟨h5.1,h5.2.1,h5.2.2.1,b8U hjl h5.2.2.2 ?_⟩;rw [<- h5.1];exact hst
     (refine lpK_n2 (⟨(j+1,ag4,g4),by simp only;omega,hL4,ho4,by simp only;omega,h3,hM4⟩) _ rfl ?_;simp only [go_sem,hS0,hS1,hll,hS2,hgm,hsm,hS3,hS4,hw]<;>repeat' first|apply V2|exact on'|fail)
    ·rename_i hq;have hjl:j < (p.Rules.getD k default).Body.length:=by omega
     have hlm:((p.Rules.getD k default).Body.getD j default)∈(p.Rules.getD k default).Body:=A3w hjl;have hkk:((p.Rules.getD k default).Body.getD j default).Kind≠3:=by simpa using hc.1
     have hx0:=b7c (x:=a0N (lvl p g4) ((p.Rules.getD k default).Body.getD j default).Atom.Name) hL4.ge (.inr ⟨hq,rfl⟩);have hh0:=hL4.ge ((vwS p).getD n []);have hc2:=hc.2;rcases hx0 with ⟨hvv,e⟩|⟨hvv,e⟩
     ·have hMM:a2m p g4<=a2m p g:=by
       cases hag4:ag4 with
       | true=>exact Nat.le_of_lt (hM4 hag4)
       | false=>rw [(hF4 hag4).1];exact q0A _
      have R:=a6J (j:=8 * k+j) hrm (by rw [hrh];exact hv) hlm hkk hvv hL4 (by rw [hrh];exact ho4) (by rw [hrh];exact hh4) (by omega) e (by rw [hrh];exact hc2) hMM;rw [hrh] at R
      (refine lpK_n2 (⟨(j+1,true,upd g4 ((vwS p).getD n []) (a0N (lvl p g4) ((p.Rules.getD k default).Body.getD j default).Atom.Name)),by simp only;omega,R.1,R.2.1,R.2.2.1,fun h=>(by cases h),fun _=>R.2.2.2⟩) _ rfl ?_;simp only [go_sem,hS0,hS1,hll,hS2,hgm,hsm,hS3,hS4,hw]<;>repeat' first|apply V2|exact on'|fail)
     ·exfalso;omega
    ·rename_i hq;have hjl:j < (p.Rules.getD k default).Body.length:=by omega
     have hst:a2l p g4 ((vwS p).getD n []) ((p.Rules.getD k default).Body.getD j default):=b8S hL4.ge (.inr ⟨hq,rfl⟩) hc;have h3:ag4=false->g4=g/\(∀ r∈p.Rules,r.Head.Name∈(vwS p).take n->z8 p g r)/\(∀ r∈p.Rules.take k,r.Head.Name=((vwS p).getD n [])->z8 p g r)/\∀ l∈(p.Rules.getD k default).Body.take (j+1),a2l p g ((vwS p).getD n []) l:=fun h=>by
      have h5:=hF4 h;refine ⟨h5.1,h5.2.1,h5.2.2.1,b8U hjl h5.2.2.2 ?_⟩;rw [<- h5.1];exact hst
     (refine lpK_n2 (⟨(j+1,ag4,g4),by simp only;omega,hL4,ho4,by simp only;omega,h3,hM4⟩) _ rfl ?_;simp only [go_sem,hS0,hS1,hll,hS2,hgm,hsm,hS3,hS4,hw]<;>repeat' first|apply V2|exact on'|fail)
    ·have h3:ag4=false->g4=g/\(∀ r∈p.Rules,r.Head.Name∈(vwS p).take n->z8 p g r)/\∀ r∈p.Rules.take (k+1),r.Head.Name=((vwS p).getD n [])->z8 p g r:=fun h=>by
      have h5:=hF4 h;refine ⟨h5.1,h5.2.1,fun r hr he=>?_⟩;rw [j7 default (by omega),W6,V6] at hr;rcases hr with hr|rfl
      ·exact h5.2.2.1 r hr he
      ·intro _ l hl;rw [he];refine h5.2.2.2 l ?_;rw [i4 (by omega)];exact hl
     (refine lpK_n2 (⟨(k+1,ag4,g4),by simp only;omega,hL4,ho4,by simp only;omega,h3,hM4⟩) _ rfl ?_;simp only [go_sem,hS0,hS1,hll,hS2,hgm,hsm,hS3,hS4,hw]<;>repeat' first|apply V2|exact on'|fail)
   ·rw [b5V hL3 hv hc];exact ⟨rfl,rfl⟩
   ·have h1:∀ v∈vwS p,g3 v<=(vwS p).length:=fun v hv2=>by
     by_cases e:v=((vwS p).getD n [])
     ·rw [e];omega
     ·exact ho3 v hv2 e
    have h3:ag3=false->g3=g/\∀ r∈p.Rules,r.Head.Name∈(vwS p).take (n+1)->z8 p g r:=fun h=>by
     have h5:=hF3 h;refine ⟨h5.1,fun r hr he=>?_⟩;rw [j7 [] (by omega),W6,V6] at he;rcases he with he|he
     ·exact h5.2.1 r hr he
     ·exact h5.2.2 r (by rw [i4 (by omega)];exact hr) he
    (refine lpK_n2 (⟨(n+1,ag3,g3),by simp only;omega,hL3,h1,h3,hM3⟩) _ rfl ?_;simp only [go_sem,hS0,hS1,hll,hS2,hgm,hsm,hS3]<;>repeat' first|apply V2|exact on'|fail)
  ·have h3:ag2=false->Fx p g2:=fun h=>by
    have h5:=hF2 h;rw [i4 (by omega)] at h5;rw [h5.1];intro r hr hv2;exact h5.2 r hr hv2 hv2
   have hmm:ag2=false->g2=g:=fun h=>(hF2 h).1
   (refine lpK_n2 (⟨(ag2,g2),hL2,hle2,h3⟩) _ rfl ?_;simp only [go_sem,hS0,hS1,hll,hS2]<;>repeat' first|apply V2|exact on'|fail)
   cases hag2:ag2 with
   | false=>rw [hmm hag2,hag];simp only [W5,W4];omega
   | true=>have:=hM2 hag2;rw [hag];simp only [W5];omega
 ·rw [b4m hN ⟨hF hc,hL,hle⟩];exact ⟨rfl,rfl⟩
def a7y:CT:=j6 (fun (x:c5)=>b5j x)
@[go_sem] def c3I:=fun x0 x1=>nm' (fQ' a7y rfl ⟨x0,x1⟩)
def a0P (q:c5×Int×Int):c5×Int×Int:=
 bif q.2.1 != 0 then (default,q.2.1,q.2.2)
 else bif (i8 q.1).1 != 0 then (default,IntKind.i64.wrap (10+(i8 q.1).1),(i8 q.1).2)
 else bif decide (0<=y7 q.1) then (default,20,y7 q.1)
 else bif (a0I q.1).2 then (q.1,0,0) else (default,21,0)
def w5 (s:List UInt8):c5×Int×Int:=a0P (a0O s)
def acc_1 {q:c5×Int×Int} (h:(q.2.1 != 0)=true):a0P q=(default,q.2.1,q.2.2):=by rw [a0P,h];rfl
def acc_2 {q:c5×Int×Int} (h:(q.2.1 != 0)=false) (h2:((i8 q.1).1 != 0)=true):a0P q=(default,IntKind.i64.wrap (10+(i8 q.1).1),(i8 q.1).2):=by rw [a0P,h,h2];rfl
def acc_3 {q:c5×Int×Int} (h:(q.2.1 != 0)=false) (h2:((i8 q.1).1 != 0)=false) (h3:0<=y7 q.1):a0P q=(default,20,y7 q.1):=by rw [a0P,h,h2,W9 h3];rfl
def acc_4 {q:c5×Int×Int} (h:(q.2.1 != 0)=false) (h2:((i8 q.1).1 != 0)=false) (h3:¬ 0<=y7 q.1) (h4:(a0I q.1).2=false):a0P q=(default,21,0):=by rw [a0P,h,h2,V4 h3,h4];rfl
def acc_5 {q:c5×Int×Int} (h:(q.2.1 != 0)=false) (h2:((i8 q.1).1 != 0)=false) (h3:¬ 0<=y7 q.1) (h4:(a0I q.1).2=true):a0P q=(q.1,0,0):=by rw [a0P,h,h2,V4 h3,h4];rfl
def b5i (s:List UInt8):spZ 10 [(false,[.s s])] [] (.tup [(true,[l7 (((w5 s).1).Decls),l6 (((w5 s).1).Rules)]),(false,[.i .i64 ((w5 s).2.1)]),(false,[.i .i64 ((w5 s).2.2)])]):=by
 refine sx' false true none Tryz.func10 (q' 2 [aw [.sl t8,.sl v6],aK 0,aK 0] (q' 12 [am 0,ac 35 [12],aV 11,ao (.ext (.t 11) 0),ao (.ext (.t 11) 1),ao (.ext (.t 11) 2),ax (w' 5 [.sl t8,.sl v6]),aS 2 5 14,av 6 15,aV 7] (.seq (q' 17 [am 6,ao (.bin .neq (.t 17) (k' 0))] (.cond (.t 18) (q' 19 [ao (.bld [.sl t8,.sl v6] []),aM [6,7],aS 2 2 19,av 3 20,aV 4] .ret) .skip)) (q' 23 [ae 2 5,ac 36 [23],aV 22,ao (.ext (.t 22) 0),ao (.ext (.t 22) 1),av 6 25,aV 7] (.seq (q' 27 [am 6,ao (.bin .neq (.t 27) (k' 0))] (.cond (.t 28) (q' 29 [ao (.bld [.sl t8,.sl v6] []),am 6,ao (.bin .add (k' 10) (.t 30)),am 7,aS 2 2 29,av 3 31,aV 4] .ret) .skip)) (q' 33 [ae 2 5,ac 37 [33],aV 8] (.seq (q' 35 [am 8,ao (.bin .geq (.t 35) (k' 0))] (.cond (.t 36) (q' 37 [ao (.bld [.sl t8,.sl v6] []),am 8,aS 2 2 37,az 3 20,aV 4] .ret) .skip)) (q' 40 [ae 2 5,ac 38 [40],aV 39,ao (.ext (.t 39) 0),ao (.ext (.t 39) 1),av 9 42,aV 10] (.seq (q' 44 [am 10,ao (.not (.t 44))] (.cond (.t 45) (q' 46 [ao (.bld [.sl t8,.sl v6] []),aS 2 2 46,az 3 21,az 4 0] .ret) .skip)) (q' 47 [ae 2 5,aS 2 2 47,az 3 0,az 4 0] .ret)))))))))) [.c 2 true 2,.t 3,.t 4] [(35,[],a9h),(36,[],a1v),(37,[],a4n),(38,[],a7y)] ?_;intro hb hE;simp only [go_sem];repeat' first|apply cj'|intro hc|exact om'|fail
 all_goals first
  | (rw [w5,acc_1 hc];exact ⟨⟨⟨rfl,rfl⟩,rfl⟩,rfl⟩)
  | (rename_i h1;rw [w5,acc_2 h1 hc];exact ⟨⟨⟨rfl,rfl⟩,rfl⟩,rfl⟩)
  | (rename_i h1 h2;rw [w5,acc_3 h1 h2 hc];exact ⟨⟨⟨rfl,rfl⟩,rfl⟩,rfl⟩)
  | (rename_i h1 h2 h3;rw [w5,acc_4 h1 h2 h3 hc];exact ⟨⟨⟨rfl,rfl⟩,rfl⟩,rfl⟩)
  | (rename_i h1 h2 h3;rw [w5,acc_5 h1 h2 h3 hc];exact ⟨⟨⟨rfl,rfl⟩,rfl⟩,rfl⟩)
  | trace_state
def a7x:CT:=j6 (fun (x:(List UInt8))=>b5i x)
@[go_sem] def c3H:=fun s=>nm' (fQ' a7x rfl s)
attribute [local irreducible] RM
set_option maxHeartbeats 4000000
def a5q (t:d6):Bool:=(t.Kind==1&&t.N==0) || t.Kind==2 || (t.Kind==3&&t.S==[]) || t.Kind==4
def a0r (r:c4):Prop:=j2 r/\∀ t∈r.toks,a5q t=true
def m9 (r:c4):d6:=bif m0 r then ⟨0,0,[],r.e⟩ else g9 r r.i
def a2h {r:c4} (h:m0 r=true):m9 r=⟨0,0,[],r.e⟩:=by rw [m9,h];rfl
def a1e {r:c4} (h:m0 r=false):m9 r=g9 r r.i:=by rw [m9,h];rfl
def a9o (r:c4) (s:List UInt8):((m9 r).Kind==4&&(m9 r).S==s)=isS r r.i s:=by
 cases h:m0 r with
 | true=>
   rw [a2h h,isS];simp only [m0,q1I,q0Y,V5] at h;rcases h with h|h
   ·rw [h];rfl
   ·rw [V4 (by omega),q2P];rfl
 | false=>
   rw [a1e h,isS];simp only [m0,q0M,q2D,q1N] at h;rw [h.1,W9 (by omega)];rfl
def c3W (r:c4):((m9 r).Kind==1&&!a1K (m9 r).S)=a0t r:=by
 cases h:m0 r with
 | true=>rw [a2h h,a0t,h];rfl
 | false=>
   rw [a1e h,a0t,h,q3L,Bool.not_or,q3G]
def b3D {r:c4} (h:a0r r) (hn:m0 r=false):a5q (g9 r r.i)=true:=by
 have h1:=a2n hn;have h0:=h.1.1.1;refine h.2 _ ?_;rw [g9,t7 default (by omega)];exact q0R _
def a3k (r:c4):Bool:=!p6 r
def c3V {r:c4} (h:a0r r):((m9 r).Kind==2 || (m9 r).Kind==3 || a0t r)=a3k r:=by
 cases hn:m0 r with
 | true=>rw [a2h hn,a3k,p6,a0t,hn];rfl
 | false=>
   have ht:=b3D h hn;rw [a1e hn,a3k,p6,a0t,hn];simp only [a5q] at ht;generalize g9 r r.i=t at *;simp only [q1I,W3,beq_iff_eq] at ht;rcases ht with ((⟨ht,_⟩|ht)|⟨ht,_⟩)|ht<;>rw [ht]<;>simp
def b1R:Nat->c4->List c8->c4×List c8
 | 0,r,a=>(r,a)
 | n+1,r,a=>bif r.code==0 then
    (bif a3k r&&(a.length:Int)==6 then (f9 r 7,a)
     else bif isS (g8 r false) (g8 r false).i n7 then b1R n (i5 (g8 r false)) (a++[u5 r false])
     else (g8 r false,a++[u5 r false]))
   else (r,a)
def a0H {r:c4} {i:Int} {s:List UInt8} (h:r.code≠0):isS r i s=false:=by
 rw [isS,show (r.code==0)=false by simpa using h];rfl
def b6x:∀ (n:Nat) (r:c4) (a:List c8),(b1R n r a).1=(a5y n r a).1/\((a5y n r a).1.code=0->(b1R n r a).2=(a5y n r a).2)
 | 0,r,a=>⟨rfl,fun _=>rfl⟩
 | n+1,r,a=>by
   rw [b1R,a5y];cases hc:r.code==0 with
   | false=>exact ⟨rfl,fun _=>rfl⟩
   | true=>
     rw [W5,W5];cases hf:((a.length:Int)==6) with
     | false=>
       rw [q2P,W4];cases hs:isS (g8 r false) (g8 r false).i n7 with
       | false=>exact ⟨rfl,fun _=>rfl⟩
       | true=>exact b6x n _ _
     | true=>
       rw [q0X];cases hb:p6 r with
       | true=>
         have e:g8 r true=g8 r false/\u5 r true=u5 r false:=by rw [(a1a hb).1,(a1a hb).2,(a1a hb).1,(a1a hb).2];exact ⟨rfl,rfl⟩
         rw [a3k,hb,e.1,e.2];simp only [q3Z,W4];rw [a0H (by rw [(a1a hb).2];exact o6 (by decide))];exact ⟨rfl,fun _=>rfl⟩
       | false=>
         rw [a3k,hb,(b0V hb).1,(b0V hb).2];simp only [q3S,W5];rw [a0H (o6 (by decide))];exact ⟨rfl,fun h=>absurd h (o6 (by decide))⟩
def a1q (r:c4):d5:=
 bif isS (i6 (j1 r) u1) (i6 (j1 r) u1).i a3W then ⟨a0s r,[]⟩
 else ⟨a0s r,(b1R (p5 (i6 (j1 r) u1)) (i6 (j1 r) u1) []).2⟩
def b9n {r:c4} {s:List UInt8} (h:(i6 r s).code=0):r.code=0:=(a2L r s).c h
def b3e {r:c4} (h:(j8 r).1.code=0):a1q r=(j8 r).2:=by
 rw [j8] at h ⊢;rw [a1q];cases hs:isS (i6 (j1 r) u1) (i6 (j1 r) u1).i a3W with
 | true=>rfl
 | false=>
   rw [hs] at h;have h1:=(b6x (p5 (i6 (j1 r) u1)) (i6 (j1 r) u1) []).2 (b9n h);rw [W4,W4,h1]
def opI (s:List UInt8):Int:=a3T (fun y=>s==y) [[],[61],[33,61],[60],[60,61]]
def opJ (r:c4):Int:=bif (m9 r).Kind==4 then opI (m9 r).S else 0
def c1l (r:c4):opR r=bif decide (opJ r < 1) then 0 else opJ r:=by
 rw [opR,<- a9o,<- a9o,<- a9o,<- a9o,opJ];cases (m9 r).Kind==4 with
 | false=>rfl
 | true=>
   generalize (m9 r).S=s;simp only [q0D,W5];by_cases h1:s=[61]
   ·subst h1;rfl
   ·by_cases h2:s=[33,61]
    ·subst h2;rfl
    ·by_cases h3:s=[60]
     ·subst h3;rfl
     ·by_cases h4:s=[60,61]
      ·subst h4;rfl
      ·rw [beq_eq_false_iff_ne.2 h1,beq_eq_false_iff_ne.2 h2,beq_eq_false_iff_ne.2 h3,beq_eq_false_iff_ne.2 h4];have h:opI s < 1:=by
        by_cases h0:s=[]
        ·subst h0;decide
        ·rw [opI,v5]
         ·decide
         ·simp only [q2T,q4R,q3M,q0M,beq_eq_false_iff_ne];exact ⟨h0,h1,h2,h3,h4⟩
       rw [W9 h];rfl
def a1M (r:c4):c7:=
 bif !m0 r&&((g9 r r.i).Kind==1&&(g9 r r.i).S==a5p) then ⟨2,a1q (i5 r),0,default,default⟩
 else bif !m0 r&&((g9 r r.i).Kind==1&&(!a1K (g9 r r.i).S&&isS r (r.i+1) u1)) then ⟨1,a1q r,0,default,default⟩
 else bif decide (opJ (g8 r false) < 1) then ⟨3,default,opJ (g8 r false),u5 r false,default⟩
 else ⟨3,default,opJ (g8 r false),u5 r false,u5 (i5 (g8 r false)) false⟩
def c2m {r:c4} (h:(j4 r).1.code=0):a1M r=(j4 r).2:=by
 rw [j4] at h ⊢;rw [a1M];cases h1:(!m0 r&&((g9 r r.i).Kind==1&&(g9 r r.i).S==a5p)) with
 | true=>rw [h1] at h;rw [W5,W5,b3e h]
 | false=>
   rw [h1] at h;cases h2:(!m0 r&&((g9 r r.i).Kind==1&&(!a1K (g9 r r.i).S&&isS r (r.i+1) u1))) with
   | true=>rw [h2] at h;rw [W4,W5,W4,W5,b3e h]
   | false=>
     rw [h2] at h;have ho:=c1l (g8 r false);simp only [W4] at h ⊢;by_cases h3:opJ (g8 r false) < 1
     ·rw [W9 h3,W5] at ho;rw [ho] at h;exact absurd ((a0L _ false).c h) (o6 (by decide))
     ·rw [V4 h3,W4] at ho;rw [V4 h3,ho,show (opJ (g8 r false)==0)=false from beq_eq_false_iff_ne.2 (by omega)];rfl
def a5a:Nat->c4->List c7->c4×List c7
 | 0,r,a=>(r,a)
 | n+1,r,a=>bif r.code==0 then
    (bif a9y r&&(a.length:Int)==8 then (f9 r 7,a)
     else bif isS (j4 r).1 (j4 r).1.i n7 then a5a n (i5 (j4 r).1) (a++[a1M r])
     else ((j4 r).1,a++[a1M r]))
   else (r,a)
def a6L {r:c4} (h:r.code≠0):m0 r=true:=by rw [m0,show (r.code==0)=false by simpa using h];rfl
def a3f {r:c4} {c:Int} (h:r.code≠0):f9 r c=r:=b0q (by simpa [bne] using h)
def a1F {r:c4} {s:List UInt8} (h:r.code≠0):i6 r s=r:=by rw [a6Q (a0H h),a3f h]
def b9t {r:c4} (h:r.code≠0):j1 r=r:=by rw [j1,a0t,a6L h];exact a3f h
def b9p {r:c4} {f:Bool} (h:r.code≠0):g8 r f=r:=by rw [(a1a (show p6 r=true by rw [p6,a6L h];rfl)).2,a3f h]
def op_off {r:c4} (h:r.code≠0):opR r=0:=by rw [opR,a0H h,a0H h,a0H h,a0H h];rfl
def lit_off {r:c4} (h:r.code≠0):(j4 r).1=r:=by
 rw [j4,a6L h];simp only [q3Z,Bool.false_and,W4,b9p h,op_off h,a3f h,beq_self_eq_true,W5]
def b8b {n:Nat} {r:c4} {a:List c8} (h:r.code≠0):(a5y n r a)=(r,a):=by
 cases n with
 | zero=>rfl
 | succ n=>rw [a5y,show (r.code==0)=false by simpa using h];rfl
def c5c {r:c4} (h:r.code≠0):(j8 r).1=r:=by
 rw [j8,b9t h,a1F h,a0H h,W4];simp only [b8b h,a1F h]
def c5W {r:c4} (h:r.code≠0):(u3 r).1=r:=by
 rw [a1E,u4,a0H h,a0H h];simp only [q4T,W4,c5c h,a3A,a0H h,a1F h]
def c5y {r:c4} {k:Int} (h:r.code≠0):(l5 r k).1=r:=by
 rw [l5,b9t h,a1F h];simp only [a1n,a6L h,q4S,q3Z,W4,a3f h]
def a8T:∀ (n:Nat) (r:c4) (a:List c7),(a5a n r a).1=(a2P n r a).1/\((a2P n r a).1.code=0->(a5a n r a).2=(a2P n r a).2)
 | 0,r,a=>⟨rfl,fun _=>rfl⟩
 | n+1,r,a=>by
   rw [a5a,a2P];cases hc:r.code==0 with
   | false=>exact ⟨rfl,fun _=>rfl⟩
   | true=>
     rw [W5,W5];cases hf:(a9y r&&(a.length:Int)==8) with
     | true=>
       have e:t9 r a.length=f9 r 7:=by rw [t9,Bool.and_comm,hf];rfl
       have h7:(f9 r 7).code≠0:=o6 (by decide);rw [e,lit_off h7,a0H h7];exact ⟨rfl,fun h=>absurd h h7⟩
     | false=>
       have e:t9 r a.length=r:=by rw [t9,Bool.and_comm,hf];rfl
       rw [e,W4];cases hs:isS (j4 r).1 (j4 r).1.i n7 with
       | false=>exact ⟨rfl,fun h=>by show a++[a1M r]=a++[(j4 r).2];rw [c2m h]⟩
       | true=>
         rw [c2m (u6 hs).1];exact a8T n _ _
def a0Y {r q:c4} (h:Adv r q) (hr:a0r r):a0r q:=⟨h.ok hr.1,by rw [h.t];exact hr.2⟩
def b5z:∀ (n m:Nat) {r:c4} {a:List c8},j2 r->r.toks.length < n+r.i.toNat->r.toks.length < m+r.i.toNat->b1R n r a=b1R m r a
 | 0,_,r,a,h,h1,_=>by obtain ⟨⟨h0,h2⟩,_⟩:=h;omega
 | _,0,r,a,h,_,h1=>by obtain ⟨⟨h0,h2⟩,_⟩:=h;omega
 | n+1,m+1,r,a,h,h1,h2=>by
   rw [b1R,b1R];cases hs:isS (g8 r false) (g8 r false).i n7 with
   | false=>rfl
   | true=>
     have ha:=a0L r false;have hk:=ha.ok h;have hlt:=(u6 hs).2;have h0:=h.1.1;have h3:=hk.1.1;have h4:=ha.i;have e:=b5z n m (a:=a++[u5 r false]) (s9 hk hlt) (by show (g8 r false).toks.length < n+((g8 r false).i+1).toNat;rw [ha.t];omega) (by show (g8 r false).toks.length < m+((g8 r false).i+1).toNat;rw [ha.t];omega);rw [W5,e];rfl
def a5K (r:c4) (a:List c8):c4×List c8:=b1R (p5 r) r a
def c3l {r:c4} {a:List c8} (h:¬ r.code=0):a5K r a=(r,a):=by
 rw [a5K];cases p5 r with
 | zero=>rfl
 | succ n=>rw [b1R,show (r.code==0)=false by simpa using h];rfl
def b3d {r:c4} {a:List c8} (h:j2 r) (hc:r.code=0):a5K r a=bif a3k r&&(a.length:Int)==6 then (f9 r 7,a) else bif isS (g8 r false) (g8 r false).i n7 then a5K (i5 (g8 r false)) (a++[u5 r false]) else (g8 r false,a++[u5 r false]):=by
 have h0:=h.1;have hf:p5 r=(p5 r - 1)+1:=by rw [p5];omega
 rw [a5K,hf,b1R,show (r.code==0)=true by simpa using hc,W5];cases hs:isS (g8 r false) (g8 r false).i n7 with
 | false=>rfl
 | true=>
   have ha:=a0L r false;have hk:=ha.ok h;have hlt:=(u6 hs).2;have h3:=hk.1.1;have h4:=ha.i;have e:=b5z (p5 r - 1) (p5 (i5 (g8 r false))) (a:=a++[u5 r false]) (s9 hk hlt) (by show (g8 r false).toks.length < p5 r - 1+((g8 r false).i+1).toNat;rw [ha.t,p5];omega) (by rw [p5];show _ < (g8 r false).toks.length+2 - ((g8 r false).i+1).toNat+_;show (g8 r false).toks.length < (g8 r false).toks.length+2 - ((g8 r false).i+1).toNat+((g8 r false).i+1).toNat;omega);rw [W5,W5,e,a5K]
def b3i:∀ (n m:Nat) {r:c4} {a:List c7},j2 r->r.toks.length < n+r.i.toNat->r.toks.length < m+r.i.toNat->a5a n r a=a5a m r a
 | 0,_,r,a,h,h1,_=>by obtain ⟨⟨h0,h2⟩,_⟩:=h;omega
 | _,0,r,a,h,_,h1=>by obtain ⟨⟨h0,h2⟩,_⟩:=h;omega
 | n+1,m+1,r,a,h,h1,h2=>by
   rw [a5a,a5a];cases hs:isS (j4 r).1 (j4 r).1.i n7 with
   | false=>rfl
   | true=>
     have ha:=a0u r;have hk:=ha.ok h;have hlt:=(u6 hs).2;have h0:=h.1.1;have h3:=hk.1.1;have h4:=ha.i;have e:=b3i n m (a:=a++[a1M r]) (s9 hk hlt) (by show (j4 r).1.toks.length < n+((j4 r).1.i+1).toNat;rw [ha.t];omega) (by show (j4 r).1.toks.length < m+((j4 r).1.i+1).toNat;rw [ha.t];omega);rw [W5,e];rfl
def a1r (r:c4) (a:List c7):c4×List c7:=a5a (p5 r) r a
def c3n {r:c4} {a:List c7} (h:¬ r.code=0):a1r r a=(r,a):=by
 rw [a1r];cases p5 r with
 | zero=>rfl
 | succ n=>rw [a5a,show (r.code==0)=false by simpa using h];rfl
def b3j {r:c4} {a:List c7} (h:j2 r) (hc:r.code=0):a1r r a=bif a9y r&&(a.length:Int)==8 then (f9 r 7,a) else bif isS (j4 r).1 (j4 r).1.i n7 then a1r (i5 (j4 r).1) (a++[a1M r]) else ((j4 r).1,a++[a1M r]):=by
 have h0:=h.1;have hf:p5 r=(p5 r - 1)+1:=by rw [p5];omega
 rw [a1r,hf,a5a,show (r.code==0)=true by simpa using hc,W5];cases hs:isS (j4 r).1 (j4 r).1.i n7 with
 | false=>rfl
 | true=>
   have ha:=a0u r;have hk:=ha.ok h;have hlt:=(u6 hs).2;have h3:=hk.1.1;have h4:=ha.i;have e:=b3i (p5 r - 1) (p5 (i5 (j4 r).1)) (a:=a++[a1M r]) (s9 hk hlt) (by show (j4 r).1.toks.length < p5 r - 1+((j4 r).1.i+1).toNat;rw [ha.t,p5];omega) (by rw [p5];show (j4 r).1.toks.length < (j4 r).1.toks.length+2 - ((j4 r).1.i+1).toNat+((j4 r).1.i+1).toNat;omega);rw [W5,W5,e,a1r]
def a4G (r:c4):c6:=⟨a1p r,a1q (u4 r),bif isS (j8 (u4 r)).1 (j8 (u4 r)).1.i b7l then (a5a (p5 (i5 (j8 (u4 r)).1)) (i5 (j8 (u4 r)).1) []).2 else []⟩
def c5V {r:c4} (h:(u3 r).1.code=0):a4G r=(u3 r).2:=by
 rw [a1E] at h ⊢;have h1:=b9n h;have h2:=(b0d _).c h1;rw [a4G,b3e h2];rw [a3A] at h1 ⊢;cases hs:isS (j8 (u4 r)).1 (j8 (u4 r)).1.i b7l with
 | false=>rfl
 | true=>
   rw [hs] at h1;have h3:=(a8T (p5 (i5 (j8 (u4 r)).1)) (i5 (j8 (u4 r)).1) []).2 h1;rw [W5,W5,h3];rfl
def here_e {r:c4} (h:(r.code != 0)=true\/(r.toks.length:Int)<=r.i):m9 r=⟨0,0,[],r.e⟩:=a2h (a6M h)
def here_t {r:c4} (h:(r.code != 0)=false/\¬ (r.toks.length:Int)<=r.i):m9 r=r.toks.getD r.i.toNat default:=by rw [a1e (a4D h),g9]
def a8c (r:c4) (hpre:j2 r):spZ 109 [(false,[.p [i9 r.toks,.i .i64 r.i,.i .i64 r.e,.i .i64 r.code,.i .i64 r.p]])] [] (.one (true,[.i .i64 ((m9 r).Kind),.i .i64 ((m9 r).N),.s ((m9 r).S),.i .i64 ((m9 r).At)])):=by
 refine sx' false true none Tryz.func109 (q' 2 [aw [.i .i64,.i .i64,.s,.i .i64]] (.seq (.seq (G' 3 [am 0,ao (.nck (.t 3)),aG 3 4,ao (.bin .neq (.t 6) (k' 0)),am 7,au (.mov (.t 0)) 8 false,au (.nck (.t 9)) 8 false,au (.fa 1 (.t 10)) 8 false,au (.ld false 1 (.t 11)) 8 false,au (.mov (.t 0)) 8 false,au (.nck (.t 13)) 8 false,au (.fa 0 (.t 14)) 8 false,au (.ld false 1 (.t 15)) 8 false,au (.len (.t 16)) 8 false,au (.bin .geq (.t 12) (.t 17)) 8 false,ao (.pick (.t 8) (bb true) (.t 18))]) (.cond (.t 19) (q' 20 [am 0,ao (.nck (.t 20)),aG 2 21,ao (.bld [.i .i64,.i .i64,.s,.i .i64] [(3,1,.t 23)]),aS 4 2 24] .ret) .skip)) (.seq (.rego [(true,0,m' 25 0),(true,1,o' 26 (.nck (.t 25))),(true,2,f' 27 0 26),(true,3,l' 28 27),(false,4,m' 29 0),(false,5,o' 30 (.nck (.t 29))),(false,6,f' 31 1 30),(false,7,l' 32 31),(false,8,i' 33 4 28 32),(false,9,e' 34 4 33),(false,10,s' 4 2 34)] [0,1,1000000]) .ret))) [.c 2 true 4] [] ?_;intro hb hE;obtain ⟨⟨h0,h1⟩,h2⟩:=hpre;simp only [go_sem];repeat' first|apply cj'|intro hc|exact om'|fail
 ·rw [here_e hc];exact ⟨⟨⟨rfl,rfl⟩,rfl⟩,rfl⟩
 ·rw [here_t hc];exact ⟨⟨⟨rfl,rfl⟩,rfl⟩,rfl⟩
def k7:CT:=s3 (fun (x:c4) h=>a8c x h)
@[go_sem] def b7z:=fun x0 x1 x2 x3 x4=>nm' (fP' k7 rfl ⟨x0,x1,x2,x3,x4⟩)
def c1b {r:c4} {c:Int} (h:(r.code==0)=true):f9 r c=⟨r.toks,r.i,r.e,c,(m9 r).At⟩:=by
 rw [f9,h,m9,m0,h];by_cases hl:r.i < r.toks.length
 ·rw [W9 hl,V4 (by omega)];rfl
 ·rw [V4 hl,W9 (by omega)];rfl
def a6q (r:c4) (hpre:j2 r):spZ 110 [(false,[.p [i9 r.toks,.i .i64 r.i,.i .i64 r.e,.i .i64 r.code,.i .i64 r.p]])] [] (.one (false,[.b (a0t r)])):=by
 refine sy' Tryz.func110 (q' 0 [ab 2 false] (q' 4 [am 0,ac 109 [4],ax (w' 3 [.i .i64,.i .i64,.s,.i .i64]),aS 4 3 5] (q' 6 [aG 0 3,ao (.bin .eql (.t 7) (k' 1)),am 8,au (.fa 2 (.t 3)) 9 true,au (.ld false 1 (.t 10)) 9 true,au (.call 170 [.t 11]) 9 true,au (.not (.t 12)) 9 true,ao (.pick (.t 9) (.t 13) (bb false)),aV 2] .ret))) [.t 2] [(109,[],k7),(170,[],a3o)] ?_;intro hb hE;simp only [go_sem];repeat' first|apply cj'|intro hc|exact om'|fail
 ·exact hpre
 ·exact c3W r
def v9:CT:=s3 (fun (x:c4) h=>a6q x h)
@[go_sem] def b5H:=fun x0 x1 x2 x3 x4=>nm' (fP' v9 rfl ⟨x0,x1,x2,x3,x4⟩)
def a6r (r:c4) (s:List UInt8) (hpre:j2 r):spZ 111 [(false,[.p [i9 r.toks,.i .i64 r.i,.i .i64 r.e,.i .i64 r.code,.i .i64 r.p]]),(false,[.s s])] [] (.one (false,[.b (isS r r.i s)])):=by
 refine sy' Tryz.func111 (q' 0 [ab 4 false] (q' 6 [am 0,ac 109 [6],ax (w' 5 [.i .i64,.i .i64,.s,.i .i64]),aS 4 5 7] (q' 8 [aG 0 5,ao (.bin .eql (.t 9) (k' 4)),am 10,au (.fa 2 (.t 5)) 11 true,au (.ld false 1 (.t 12)) 11 true,au (.mov (.t 1)) 11 true,au (.bin .eql (.t 13) (.t 14)) 11 true,ao (.pick (.t 11) (.t 15) (bb false)),aV 4] .ret))) [.t 4] [(109,[],k7)] ?_;intro hb hE;simp only [go_sem];repeat' first|apply cj'|intro hc|exact om'|fail
 ·exact hpre
 ·exact a9o r s
def t2:CT:=s3 (fun (x:c4×(List UInt8)) h=>a6r x.1 x.2 h)
@[go_sem] def b5I:=fun x0 x1 x2 x3 x4 s=>nm' (fP' t2 rfl (⟨x0,x1,x2,x3,x4⟩,s))
def a8b (r:c4) (c:Int) (hpre:j2 r):spZ 112 [(false,[.mp [i9 r.toks,.i .i64 r.i,.i .i64 r.e,.i .i64 r.code,.i .i64 r.p]]),(false,[.i .i64 c])] [(0,(false,[.mp [i9 ((f9 r c).toks),.i .i64 ((f9 r c).i),.i .i64 ((f9 r c).e),.i .i64 ((f9 r c).code),.i .i64 ((f9 r c).p)]]))] (.tup []):=by
 refine sx' false false (some 0) Tryz.func112 (q' 5 [am 0,ao (.nck (.t 5)),aG 3 6,ao (.bin .eql (.t 8) (k' 0))] (.cond (.t 9) (q' 10 [am 0,ac 109 [10],ax (w' 4 [.i .i64,.i .i64,.s,.i .i64]),aS 4 4 11] (q' 12 [aM [0,1],ao (.nck (.t 12)),aF 3,aS 1 15 13] (g' 16 [am 0,aG 3 4,ao (.nck (.t 16)),aF 4,aS 1 20 18]))) .skip)) [] [(109,[],k7)] ?_;intro hb hE;simp only [go_sem];repeat' first|apply cj'|intro hc|exact om'|fail
 ·exact hpre
 ·rw [c1b hc]
 ·rw [b0q (by rw [bne,hc];rfl)]
def m8:CT:=s3 (fun (x:c4×Int) h=>a8b x.1 x.2 h)
@[go_sem] def b7y:=fun x0 x1 x2 x3 x4 c=>nm' (fP' m8 rfl (⟨x0,x1,x2,x3,x4⟩,c))
def a6s (r:c4) (hpre:a0r r):spZ 281 [(false,[.p [i9 r.toks,.i .i64 r.i,.i .i64 r.e,.i .i64 r.code,.i .i64 r.p]])] [] (.one (false,[.b (a3k r)])):=by
 refine sy' Tryz.func281 (q' 0 [ab 2 false] (q' 4 [am 0,ac 109 [4],ax (w' 3 [.i .i64,.i .i64,.s,.i .i64]),aS 4 3 5] (q' 6 [aG 0 3,ao (.bin .eql (.t 7) (k' 2)),am 8,au (.fa 0 (.t 3)) 9 false,au (.ld false 1 (.t 10)) 9 false,au (.bin .eql (.t 11) (k' 3)) 9 false,ao (.pick (.t 9) (bb true) (.t 12)),am 13,au (.mov (.t 0)) 14 false,au (.call 110 [.t 15]) 14 false,ao (.pick (.t 14) (bb true) (.t 16)),aV 2] .ret))) [.t 2] [(109,[],k7),(110,[],v9)] ?_;intro hb hE;have hk:=hpre.1;simp only [go_sem];repeat' first|apply cj'|intro hc|exact om'|fail
 ·exact hk
 ·exact hk
 ·exact c3V hpre
def a0f:CT:=s3 (fun (x:c4) h=>a6s x h)
@[go_sem] def b5J:=fun x0 x1 x2 x3 x4=>nm' (fP' a0f rfl ⟨x0,x1,x2,x3,x4⟩)
def a8e (r:c4) (s:List UInt8) (hpre:j2 r):spZ 212 [(false,[.mp [i9 r.toks,.i .i64 r.i,.i .i64 r.e,.i .i64 r.code,.i .i64 r.p]]),(false,[.s s])] [(0,(false,[.mp [i9 ((i6 r s).toks),.i .i64 ((i6 r s).i),.i .i64 ((i6 r s).e),.i .i64 ((i6 r s).code),.i .i64 ((i6 r s).p)]]))] (.tup []):=by
 refine sx' false false (some 0) Tryz.func212 (.seq (q' 4 [aM [0,1],ac 111 [4,5],ao (.not (.t 6))] (.cond (.t 7) (q' 8 [am 0,ao (.call 112 [.t 8,.k (.v false [.c (.i .i64 6)])])] .ret) .skip)) (g' 10 [am 0,ao (.nck (.t 10)),aG 1 11,ao (.bin .add (.t 13) (k' 1)),ao (.nck (.t 10)),aF 1,aS 1 16 14])) [] [(111,[],t2),(112,[0],m8)] ?_;intro hb hE;have hw1:=a2p hpre;simp only [go_sem];repeat' first|apply cj'|intro hc|exact om'|fail
 ·exact hpre
 ·exact hpre
 ·rw [a6Q hc]
 ·rw [a6B hc,hw1];rfl
def a0v:CT:=s3 (fun (x:c4×(List UInt8)) h=>a8e x.1 x.2 h)
@[go_sem] def b7B:=fun x0 x1 x2 x3 x4 s=>nm' (fP' a0v rfl (⟨x0,x1,x2,x3,x4⟩,s))
def c6g {r:c4} (h:a0t r=true):m0 r=false:=by
 simp only [a0t,q0Y,q0M] at h;exact h.1
def c4h {r:c4} (h:a0t r=true):m9 r=g9 r r.i:=a1e (c6g h)
def term_n {r:c4} (h:a3k r=false):g8 r false=f9 r 6/\u5 r false=default:=by
 have hb:p6 r=true:=by rw [a3k] at h;simpa using h
 exact ⟨(a1a hb).2,(a1a hb).1⟩
def c1p {r:c4} (h:a0r r) (hy:a3k r=true):g8 r false=i5 r/\u5 r false=bif (m9 r).Kind==2 then ⟨(m9 r).S,default⟩ else bif (m9 r).Kind==3 then ⟨[],⟨(m9 r).N,[]⟩⟩ else ⟨[],⟨0,(m9 r).S⟩⟩:=by
 have hb:p6 r=false:=by rw [a3k] at hy;simpa using hy
 have hn:m0 r=false:=by simp only [p6,q0M] at hb;exact hb.1
 have ht:=b3D h hn;obtain ⟨e1,e2⟩:=b7p hb;refine ⟨e2, ?_⟩;rw [e1,a1e hn];simp only [p6,q0M,beq_eq_false_iff_ne] at hb;have h4:=hb.2.1;simp only [a5q,q1I,W3,beq_iff_eq] at ht;rcases ht with ((⟨ht,h5⟩|ht)|⟨ht,h5⟩)|ht
 ·rw [ht,h5];rfl
 ·rw [ht];rfl
 ·rw [ht,h5];rfl
 ·exact absurd ht h4
def a8d (r:c4) (hpre:j2 r):spZ 211 [(false,[.mp [i9 r.toks,.i .i64 r.i,.i .i64 r.e,.i .i64 r.code,.i .i64 r.p]])] [(0,(false,[.mp [i9 ((j1 r).toks),.i .i64 ((j1 r).i),.i .i64 ((j1 r).e),.i .i64 ((j1 r).code),.i .i64 ((j1 r).p)]]))] (.one (false,[.s (a0s r)])):=by
 refine sx' false false (some 0) Tryz.func211 (q' 2 [ao (.mov (.k (.v false [.c (.s [])])))] (.seq (q' 4 [am 0,ac 110 [4],ao (.not (.t 5))] (.cond (.t 6) (q' 7 [am 0,ao (.call 112 [.t 7,.k (.v false [.c (.i .i64 6)])])] (q' 2 [ao (.mov (.k (.v false [.c (.s [])])))] .ret)) .skip)) (q' 9 [am 0,ac 109 [9],ax (w' 3 [.i .i64,.i .i64,.s,.i .i64]),aS 4 3 10] (q' 11 [am 0,ao (.nck (.t 11)),aG 1 12,ao (.bin .add (.t 14) (k' 1)),ao (.nck (.t 11)),aF 1,aS 1 17 15] (q' 18 [aG 2 3,aV 2] .ret))))) [.t 2] [(110,[],v9),(112,[0],m8),(109,[],k7)] ?_;intro hb hE;have hw1:=a2p hpre;simp only [go_sem,hw1];repeat' first|apply cj'|intro hc|exact om'|fail
 ·exact hpre
 ·exact hpre
 ·rw [a0s,j1,hc];exact ⟨rfl,rfl⟩
 ·exact hpre
 ·rw [c4h hc,a0s,j1,hc];exact ⟨rfl,rfl⟩
def a1h:CT:=s3 (fun (x:c4) h=>a8d x h)
@[go_sem] def b7A:=fun x0 x1 x2 x3 x4=>nm' (fP' a1h rfl ⟨x0,x1,x2,x3,x4⟩)
def a8g (r:c4) (hpre:a0r r):spZ 282 [(false,[.mp [i9 r.toks,.i .i64 r.i,.i .i64 r.e,.i .i64 r.code,.i .i64 r.p]])] [(0,(false,[.mp [i9 ((g8 r false).toks),.i .i64 ((g8 r false).i),.i .i64 ((g8 r false).e),.i .i64 ((g8 r false).code),.i .i64 ((g8 r false).p)]]))] (.one (true,[.s ((u5 r false).Var),.i .i64 (((u5 r false).Val).N),.s (((u5 r false).Val).S)])):=by
 refine sx' false true (some 0) Tryz.func282 (q' 2 [aw [.s,.i .i64,.s]] (.seq (q' 4 [am 0,ac 281 [4],ao (.not (.t 5))] (.cond (.t 6) (q' 7 [am 0,ao (.call 112 [.t 7,.k (.v false [.c (.i .i64 6)])])] (q' 9 [ao (.bld [.s,.i .i64,.s] []),aS 3 2 9] .ret)) .skip)) (q' 10 [am 0,ac 109 [10],ax (w' 3 [.i .i64,.i .i64,.s,.i .i64]),aS 4 3 11] (q' 12 [am 0,ao (.nck (.t 12)),aG 1 13,ao (.bin .add (.t 15) (k' 1)),ao (.nck (.t 12)),aF 1,aS 1 18 16] (.seq (q' 19 [aG 0 3] (.block 0 (q' 22 [ao (.bin .eql (.t 20) (k' 2)),aV 21] (.cond (.t 21) (q' 23 [aG 2 3,ao (.bld [.s,.i .i64,.s] [(0,1,.t 24)]),aS 3 2 25] .ret) (q' 27 [ao (.bin .eql (.t 20) (k' 3)),aV 26] (.cond (.t 26) (q' 28 [aG 1 3,ao (.bld [.i .i64,.s] [(0,1,.t 29)]),ao (.bld [.s,.i .i64,.s] [(1,2,.t 30)]),aS 3 2 31] .ret) .skip)))))) (q' 32 [aG 2 3,ao (.bld [.i .i64,.s] [(1,1,.t 33)]),ao (.bld [.s,.i .i64,.s] [(1,2,.t 34)]),aS 3 2 35] .ret)))))) [.c 2 true 3] [(281,[],a0f),(112,[0],m8),(109,[],k7)] ?_;intro hb hE;have hk:=hpre.1;have hw1:=a2p hk;simp only [go_sem,hw1];repeat' first|apply cj'|intro hc|exact om'|fail
 ·exact hpre
 ·exact hk
 ·obtain ⟨e1,e2⟩:=term_n hc;rw [e1,e2];exact ⟨⟨⟨rfl,rfl⟩,rfl⟩,rfl⟩
 ·exact hk
 ·rename_i hy;obtain ⟨e1,e2⟩:=c1p hpre hy;rw [e1,e2,hc];exact ⟨⟨⟨rfl,rfl⟩,rfl⟩,rfl⟩
 ·rename_i hy h2;obtain ⟨e1,e2⟩:=c1p hpre hy;rw [e1,e2,h2,hc];exact ⟨⟨⟨rfl,rfl⟩,rfl⟩,rfl⟩
 ·rename_i hy h2;obtain ⟨e1,e2⟩:=c1p hpre hy;rw [e1,e2,h2,hc];exact ⟨⟨⟨rfl,rfl⟩,rfl⟩,rfl⟩
def a1i:CT:=s3 (fun (x:c4) h=>a8g x h)
@[go_sem] def b7D:=fun x0 x1 x2 x3 x4=>nm' (fP' a1i rfl ⟨x0,x1,x2,x3,x4⟩)
def c5A {r:c4} (h:a0r r):(a3k r || (m9 r).Kind==1&&(m9 r).S==a5p)=a9y r:=by
 cases hn:m0 r with
 | true=>rw [a2h hn,a3k,p6,a9y,hn];rfl
 | false=>
   have ht:=b3D h hn;rw [a1e hn,a3k,p6,a9y,hn];simp only [a5q] at ht;generalize g9 r r.i=t at *;simp only [q1I,W3,beq_iff_eq] at ht;rcases ht with ((⟨ht,_⟩|ht)|⟨ht,_⟩)|ht<;>rw [ht]
   ·cases h1:a1K t.S<;>cases h2:t.S==a5p<;>rfl
   all_goals simp
def a4x (r:c4) (hpre:a0r r):spZ 283 [(false,[.p [i9 r.toks,.i .i64 r.i,.i .i64 r.e,.i .i64 r.code,.i .i64 r.p]])] [] (.one (false,[.b (a9y r)])):=by
 refine sy' Tryz.func283 (q' 0 [ab 2 false] (q' 4 [am 0,ac 109 [4],ax (w' 3 [.i .i64,.i .i64,.s,.i .i64]),aS 4 3 5] (q' 6 [am 0,ac 281 [6],am 7,au (.fa 0 (.t 3)) 8 false,au (.ld false 1 (.t 9)) 8 false,au (.bin .eql (.t 10) (k' 1)) 8 false,au (.mov (.t 11)) 8 false,au (.fa 2 (.t 3)) 12 true,au (.ld false 1 (.t 13)) 12 true,au (.bin .eql (.t 14) (.k (.v false [.c (.s [110,111,116])]))) 12 true,au (.pick (.t 12) (.t 15) (bb false)) 8 false,ao (.pick (.t 8) (bb true) (.t 16)),aV 2] .ret))) [.t 2] [(109,[],k7),(281,[],a0f)] ?_;intro hb hE;have hk:=hpre.1;simp only [go_sem];repeat' first|apply cj'|intro hc|exact om'|fail
 ·exact hk
 ·exact hpre
 ·exact c5A hpre
def a1k:CT:=s3 (fun (x:c4) h=>a4x x h)
@[go_sem] def b3t:=fun x0 x1 x2 x3 x4=>nm' (fP' a1k rfl ⟨x0,x1,x2,x3,x4⟩)
def at_e {r r1:c4} (e:i6 (j1 r) [40]=r1) (h:isS r1 r1.i [41]=true):(j8 r).1=i5 r1/\a1q r=⟨a0s r,[]⟩:=by
 have e':i6 (j1 r) u1=r1:=e;rw [j8,a1q,e',show isS r1 r1.i a3W=true from h];exact ⟨rfl,rfl⟩
def at_a {r r1:c4} (e:i6 (j1 r) [40]=r1) (h:isS r1 r1.i [41]=false):(j8 r).1=i6 (a5K r1 []).1 [41]/\a1q r=⟨a0s r,(a5K r1 []).2⟩:=by
 have e':i6 (j1 r) u1=r1:=e;rw [j8,a1q,e',show isS r1 r1.i a3W=false from h,a5K,(b6x (p5 r1) r1 []).1];exact ⟨rfl,rfl⟩
def a7Y (r:c4) (hpre:a0r r):spZ 213 [(false,[.mp [i9 r.toks,.i .i64 r.i,.i .i64 r.e,.i .i64 r.code,.i .i64 r.p]])] [(0,(false,[.mp [i9 (((j8 r).1).toks),.i .i64 (((j8 r).1).i),.i .i64 (((j8 r).1).e),.i .i64 (((j8 r).1).code),.i .i64 (((j8 r).1).p)]]))] (.one (true,[.s ((a1q r).Name),b3F ((a1q r).Args)])):=by
 refine sx' true false (some 0) Tryz.func213 (q' 2 [aw [.s,.sl j3]] (q' 3 [ax (o' 5 (.bld [.s,.sl j3] [])),aw [.s,.sl j3],aS 2 3 5] (q' 6 [am 0,ac 211 [6],af 0 3,aS 1 8 7] (q' 9 [am 0,ao (.call 212 [.t 9,.k (.v false [.c (.s [40])])])] (.seq (q' 11 [am 0,ao (.call 111 [.t 11,.k (.v false [.c (.s [41])])])] (.cond (.t 12) (q' 13 [am 0,ao (.nck (.t 13)),aG 1 14,ao (.bin .add (.t 16) (k' 1)),ao (.nck (.t 13)),aF 1,aS 1 19 17] (q' 20 [ae 2 3,aS 2 2 20] .ret)) .skip)) (.seq (.block 0 (.loop (.seq (q' 21 [am 0,ao (.nck (.t 21)),aG 3 22,ao (.bin .eql (.t 24) (k' 0))] (.cond (.t 25) .skip (.exit 0))) (.block 1 (.seq (q' 26 [am 0,ac 281 [26],am 27,au (.fa 1 (.t 3)) 28 true,au (.ld false 1 (.t 29)) 28 true,au (.len (.t 30)) 28 true,au (.bin .eql (.t 31) (k' 6)) 28 true,ao (.pick (.t 28) (.t 32) (bb false))] (.cond (.t 33) (q' 34 [am 0,ao (.call 112 [.t 34,.k (.v false [.c (.i .i64 7)])])] (.exit 0)) .skip)) (q' 36 [am 0,ac 282 [36],ax (w' 4 [.s,.i .i64,.s]),aS 3 4 37] (q' 38 [aG 1 3,ae 3 4,ao (.bsl 3 1 [.s,.i .i64,.s] [(0,.t 40)]),ao (.app 3 40 [.s,.i .i64,.s] (.t 39) (.t 41)),af 1 3,aS 1 43 42] (.seq (q' 44 [am 0,ao (.call 111 [.t 44,.k (.v false [.c (.s [44])])]),ao (.not (.t 45))] (.cond (.t 46) (.exit 0) .skip)) (g' 47 [am 0,ao (.nck (.t 47)),aG 1 48,ao (.bin .add (.t 50) (k' 1)),ao (.nck (.t 47)),aF 1,aS 1 53 51]))))))))) (q' 54 [am 0,ao (.call 212 [.t 54,.k (.v false [.c (.s [41])])])] (q' 56 [ae 2 3,aS 2 2 56] .ret)))))))) [.c 2 true 2] [(211,[0],a1h),(212,[0],a0v),(111,[],t2),(281,[],a0f),(112,[0],m8),(282,[0],a1i)] ?_;intro hb hE;have hk:=hpre.1;have hwo:=b2q hk;have hto:=b2p hwo [40];have hti:a0r (i6 (j1 r) [40]):=a0Y ((b3b r).trans (a2L _ _)) hpre;have hw1:=a2p hto;simp only [go_sem,hw1];repeat' first|apply cj'|intro hc|exact om'|fail
 ·exact hk
 ·exact hwo
 all_goals (try generalize hr1:i6 (j1 r) [40]=r1 at *)
 ·exact hto
 ·obtain ⟨e1,e2⟩:=at_e hr1 hc;rw [e1,e2];exact ⟨⟨rfl,rfl⟩,rfl⟩
 refine lk' true [(true,6,1,200012)] [0,2,3] [4] [] (fun i:{q:c4×List c8 // a0r q.1/\q.1.toks=r1.toks/\(q.2.length:Int)<=q.1.i/\a5K q.1 q.2=a5K r1 []}=>[]) (fun i=>[(6,[.c (.s (a0s r)),.ow 200012]),(1,[.c (i9 i.1.1.toks),.c (.i .i64 i.1.1.i),.c (.i .i64 i.1.1.e),.c (.i .i64 i.1.1.code),.c (.i .i64 i.1.1.p)])]) (fun i=>[(200012,j3,i.1.2.map c8.cells)]) (fun i=>r1.toks.length - i.1.1.i.toNat) (⟨(r1,[]),hti,rfl,hto.1.1,rfl⟩) ?_;intro S0 hS0 i;have hsh:=hc;obtain ⟨⟨q,a⟩,hq,hqt,hal,hqe⟩:=i;simp only at hq hqt hal hqe;have hqo:=hq.1;have hln:a.length<=6000:=by have:=hqo.1.2;have:=hqo.2;omega
 have htk:=a4K hqo false;simp only [go_sem,hw1,hS0];repeat' first|apply cj'|intro hc|exact om'|fail
 ·exact hq
 ·exact hqo
 ·exact a0g hqo 7
 ·rename_i hcd;have hon:=b3d hqo (a:=a) (by simpa using hcd);rw [hc.1,hc.2,q1C,W5] at hon;obtain ⟨e1,e2⟩:=at_a hr1 hsh;rw [e1,e2,<- hqe,hon];exact ⟨⟨rfl,rfl⟩,rfl⟩
 ·exact hq
 ·exact htk
 ·exact htk
 ·rename_i hcd hcf;have hon:=b3d hqo (a:=a) (by simpa using hcd);rw [hcf,W4,show isS (g8 q false) (g8 q false).i n7=false from hc,W4] at hon;obtain ⟨e1,e2⟩:=at_a hr1 hsh;rw [e1,e2,<- hqe,hon];exact ⟨⟨rfl,rfl⟩,rfl⟩
 ·rename_i hcd hcf;have hlt:=(u6 hc).2;have hon:=b3d hqo (a:=a) (by simpa using hcd);rw [hcf,W4,show isS (g8 q false) (g8 q false).i n7=true from hc,W5] at hon;have ht:=a0L q false;have hst:=a0Y (ht.trans (u7 hlt)) hq;have h00:=hqo.1.1;have hw3:=a2p htk
  (refine lpK_n2 (⟨(i5 (g8 q false),a++[u5 q false]),hst,ht.t.trans hqt,by show ((a++[_]).length:Int)<=(g8 q false).i+1;rw [W7];have:=ht.i;simp only [V3,q0T];omega,hon.symm.trans hqe⟩) _ (by simp only [go_sem,hw1];try rfl) ?_;simp only [go_sem,hw1,hS0]<;>repeat' first|apply V2|exact on'|fail)
  ·show r1.toks.length - ((g8 q false).i+1).toNat < r1.toks.length - q.i.toNat
   have h1:=ht.i;rw [ht.t,hqt] at hlt;omega
  ·exact hw3
 ·exact hqo
 ·obtain ⟨e1,e2⟩:=at_a hr1 hsh;rw [e1,e2,<- hqe,c3l (by simpa using hc)];exact ⟨⟨rfl,rfl⟩,rfl⟩
def a1g:CT:=s3 (fun (x:c4) h=>a7Y x h)
@[go_sem] def b7v:=fun x0 x1 x2 x3 x4=>nm' (fP' a1g rfl ⟨x0,x1,x2,x3,x4⟩)
def opI_arg (s:List UInt8):b0g [(false,[.sl false [.s []] [[.s []],[.s [61]],[.s [33,61]],[.s [60]],[.s [60,61]]]]),(false,[.s s])]=some (True,[],.one (false,[.i .i64 (opI s)])):=b5F [[],[61],[33,61],[60],[60,61]] s
def b8O (s:List UInt8):spZ 322 [(false,[.s s])] [] (.one (false,[.i .i64 (opI s)])):=by
 refine sy' Tryz.func322 (q' 2 [aK 0] (q' 3 [ao (.bsl 1 5 [.s] [(0,.k (.v false [.c (.s [])])),(1,.k (.v false [.c (.s [61])])),(2,.k (.v false [.c (.s [33,61])])),(3,.k (.v false [.c (.s [60])])),(4,.k (.v false [.c (.s [60,61])]))]),am 0,ac 106 [3,4],aV 2] .ret)) [.t 2] [(106,[],b0g)] ?_;intro hb hE;simp only [go_sem,opI_arg];repeat' first|apply cj'|intro hc|exact om'|fail
def b1h:CT:=j6 (fun (x:(List UInt8))=>b8O x)
@[go_sem] def c5r:=fun s=>nm' (fQ' b1h rfl s)
def c5B (r:c4):((m9 r).Kind==1&&(m9 r).S==[110,111,116])=a8j r:=by
 cases h:m0 r with
 | true=>
   have e:=a1C r;rw [h] at e;rw [a2h h,a8j,<- e];rfl
 | false=>
   have e:=a1C r;rw [h] at e;rw [a1e h,a8j,<- e,g9];rfl
def here_q (r:c4):(a0t r&&decide (r.i+1 < r.toks.length)&&(r.toks.getD (r.i+1).toNat default).Kind==4&&(r.toks.getD (r.i+1).toNat default).S==[40])=b7d r:=by
 have e:a0t r=(!m0 r&&(g9 r r.i).Kind==1&&!a1K (g9 r r.i).S):=by
  rw [a0t];cases m0 r<;>cases (g9 r r.i).Kind==1<;>cases a1K (g9 r r.i).S<;>rfl
 rw [e,a1C,b7d,isS,g9,g9];cases r.code==0 with
 | false=>rfl
 | true=>simp only [q0D,q1S]
def lit_b1 {r:c4} (h:a8j r=true):(!m0 r&&((g9 r r.i).Kind==1&&(g9 r r.i).S==a5p))=true:=by rw [a1C,<- q1S];exact h
def c1i {r:c4} (h:a8j r=false):(!m0 r&&((g9 r r.i).Kind==1&&(g9 r r.i).S==a5p))=false:=by rw [a1C,<- q1S];exact h
def lit_c {r:c4} {b:Bool} (h:b7d r=b):(!m0 r&&((g9 r r.i).Kind==1&&(!a1K (g9 r r.i).S&&isS r (r.i+1) u1)))=b:=by rw [a1C,<- q1S,<- q1S];exact h
def lit_i1 {r:c4} (h:a8j r=true):(j4 r).1=(j8 (i5 r)).1/\a1M r=⟨2,a1q (i5 r),0,default,default⟩:=by
 refine ⟨by rw [lit_1 h], ?_⟩;rw [a1M,lit_b1 h];rfl
def lit_i2 {r:c4} (g:a8j r=false) (h:b7d r=true):(j4 r).1=(j8 r).1/\a1M r=⟨1,a1q r,0,default,default⟩:=by
 refine ⟨by rw [lit_2 g h], ?_⟩;rw [a1M,c1i g,lit_c h];rfl
def c5O {r:c4} (g:a8j r=false) (h:b7d r=false) (ho:opJ (g8 r false) < 1):(j4 r).1=f9 (g8 r false) 6/\a1M r=⟨3,default,opJ (g8 r false),u5 r false,default⟩:=by
 have e:=c1l (g8 r false);rw [W9 ho,W5] at e;refine ⟨?_,by rw [a1M,c1i g,lit_c h,W9 ho];rfl⟩;rw [c2n g h (q:=f9 (g8 r false) 6) (by rw [e];rfl)];exact b9p (o6 (by decide))
def lit_i4 {r:c4} (g:a8j r=false) (h:b7d r=false) (ho:¬ opJ (g8 r false) < 1):(j4 r).1=g8 (i5 (g8 r false)) false/\a1M r=⟨3,default,opJ (g8 r false),u5 r false,u5 (i5 (g8 r false)) false⟩:=by
 have e:=c1l (g8 r false);rw [V4 ho,W4] at e;refine ⟨?_,by rw [a1M,c1i g,lit_c h,V4 ho];rfl⟩;rw [c2n g h (q:=i5 (g8 r false)) (by rw [e,show (opJ (g8 r false)==0)=false from beq_eq_false_iff_ne.2 (by omega)];rfl)]
def c2w {r:c4} (h:((m9 r).Kind==4)=true):opJ r=opI (m9 r).S:=by rw [opJ,h];rfl
def opJ_n {r:c4} (h:((m9 r).Kind==4)=false):opJ r=0:=by rw [opJ,h];rfl
def sign_lt {r:c4} (h:((m9 r).Kind==4)=true):r.i < r.toks.length:=by
 refine a2n ?_;cases hn:m0 r with
 | false=>rfl
 | true=>rw [a2h hn] at h;cases h
def litP_lt {r:c4} (h:a8j r=true):r.i < r.toks.length:=by
 simp only [a8j,W3,V5] at h;exact h.1.1.2
def a9s (r:c4) (hpre:a0r r):spZ 284 [(false,[.mp [i9 r.toks,.i .i64 r.i,.i .i64 r.e,.i .i64 r.code,.i .i64 r.p]])] [(0,(false,[.mp [i9 (((j4 r).1).toks),.i .i64 (((j4 r).1).i),.i .i64 (((j4 r).1).e),.i .i64 (((j4 r).1).code),.i .i64 (((j4 r).1).p)]]))] (.one (true,[.i .i64 ((a1M r).Kind),.s (((a1M r).Atom).Name),b3F (((a1M r).Atom).Args),.i .i64 ((a1M r).Op),.s (((a1M r).A).Var),.i .i64 ((((a1M r).A).Val).N),.s ((((a1M r).A).Val).S),.s (((a1M r).B).Var),.i .i64 ((((a1M r).B).Val).N),.s ((((a1M r).B).Val).S)])):=by
 refine sx' true false (some 0) Tryz.func284 (q' 2 [aw [.i .i64,.s,.sl j3,.i .i64,.s,.i .i64,.s,.s,.i .i64,.s]] (q' 5 [am 0,ac 109 [5],ax (w' 3 [.i .i64,.i .i64,.s,.i .i64]),aS 4 3 6] (.seq (q' 7 [aG 0 3,ao (.bin .eql (.t 8) (k' 1)),am 9,au (.fa 2 (.t 3)) 10 true,au (.ld false 1 (.t 11)) 10 true,au (.bin .eql (.t 12) (.k (.v false [.c (.s [110,111,116])]))) 10 true,ao (.pick (.t 10) (.t 13) (bb false))] (.cond (.t 14) (q' 15 [am 0,ao (.nck (.t 15)),aG 1 16,ao (.bin .add (.t 18) (k' 1)),ao (.nck (.t 15)),aF 1,aS 1 21 19] (q' 22 [am 0,ac 213 [22],ao (.bld [.i .i64,.s,.sl j3,.i .i64,.s,.i .i64,.s,.s,.i .i64,.s] [(0,1,.k (.v false [.c (.i .i64 2)])),(1,2,.t 23)]),aS 10 2 24] .ret)) .skip)) (.seq (.seq (G' 25 [am 0,ac 110 [25],am 26,au (.mov (.t 0)) 27 true,au (.nck (.t 28)) 27 true,au (.fa 1 (.t 29)) 27 true,au (.ld false 1 (.t 30)) 27 true,au (.bin .add (.t 31) (k' 1)) 27 true,au (.mov (.t 0)) 27 true,au (.nck (.t 33)) 27 true,au (.fa 0 (.t 34)) 27 true,au (.ld false 1 (.t 35)) 27 true,au (.len (.t 36)) 27 true,au (.bin .lss (.t 32) (.t 37)) 27 true,ao (.pick (.t 27) (.t 38) (bb false)),am 39,au (.mov (.t 0)) 40 true,au (.nck (.t 41)) 40 true,au (.fa 0 (.t 42)) 40 true,au (.ld false 1 (.t 43)) 40 true,au (.mov (.t 0)) 40 true,au (.nck (.t 45)) 40 true,au (.fa 1 (.t 46)) 40 true,au (.ld false 1 (.t 47)) 40 true,au (.bin .add (.t 48) (k' 1)) 40 true,au (.ia 4 (.t 44) (.t 49)) 40 true,au (.fa 0 (.t 50)) 40 true,au (.ld false 1 (.t 51)) 40 true,au (.bin .eql (.t 52) (k' 4)) 40 true,ao (.pick (.t 40) (.t 53) (bb false)),am 54,au (.mov (.t 0)) 55 true,au (.nck (.t 56)) 55 true,au (.fa 0 (.t 57)) 55 true,au (.ld false 1 (.t 58)) 55 true,au (.mov (.t 0)) 55 true,au (.nck (.t 60)) 55 true,au (.fa 1 (.t 61)) 55 true,au (.ld false 1 (.t 62)) 55 true,au (.bin .add (.t 63) (k' 1)) 55 true,au (.ia 4 (.t 59) (.t 64)) 55 true,au (.fa 2 (.t 65)) 55 true,au (.ld false 1 (.t 66)) 55 true,au (.bin .eql (.t 67) (.k (.v false [.c (.s [40])]))) 55 true,ao (.pick (.t 55) (.t 68) (bb false))]) (.cond (.t 69) (q' 70 [am 0,ac 213 [70],ao (.bld [.i .i64,.s,.sl j3,.i .i64,.s,.i .i64,.s,.s,.i .i64,.s] [(0,1,.k (.v false [.c (.i .i64 1)])),(1,2,.t 71)]),aS 10 2 72] .ret) .skip)) (q' 4 [ax (o' 73 (.bld [.i .i64,.s,.sl j3,.i .i64,.s,.i .i64,.s,.s,.i .i64, .s] [(0,1,.k (.v false [.c (.i .i64 3)]))])),aw [.i .i64,.s,.sl j3,.i .i64,.s,.i .i64,.s,.s,.i .i64,.s],aS 10 4 73] (q' 74 [am 0,ac 282 [74],af 4 4,aS 3 76 75] (q' 77 [am 0,ac 109 [77],aS 4 3 78] (.seq (q' 79 [aG 0 3,ao (.bin .eql (.t 80) (k' 4))] (.cond (.t 81) (g' 82 [aG 2 3,ac 322 [83],af 3 4,aS 1 85 84]) .skip)) (.seq (q' 86 [aG 3 4,ao (.bin .lss (.t 87) (k' 1))] (.cond (.t 88) (q' 89 [am 0,ao (.call 112 [.t 89,.k (.v false [.c (.i .i64 6)])])] (q' 91 [ae 10 4,aS 10 2 91] .ret)) .skip)) (q' 92 [am 0,ao (.nck (.t 92)),aG 1 93,ao (.bin .add (.t 95) (k' 1)),ao (.nck (.t 92)),aF 1,aS 1 98 96] (q' 99 [am 0,ac 282 [99],af 7 4,aS 3 101 100] (q' 102 [ae 10 4,aS 10 2 102] .ret)))))))))))) [.c 2 true 10] [(109,[],k7),(213,[0],a1g),(110,[],v9),(282,[0],a1i),(322,[],b1h),(112,[0],m8)] ?_;intro hb hE;have hk:=hpre.1;have hw1:=a2p hk;have ht:=a4K hk false;have hw2:=a2p ht;have hti:a0r (g8 r false):=a0Y (a0L r false) hpre;have hp:=c5B r;have hq:=here_q r;simp only [go_sem,hw1,hw2];repeat' first|apply cj'|intro hc|exact om'|fail
 ·exact hk
 ·exact a0Y (u7 (litP_lt (by rw [<- hp,hc.1,hc.2];rfl))) hpre
 ·obtain ⟨e1,e2⟩:=lit_i1 (r:=r) (by rw [<- hp,hc.1,hc.2];rfl);rw [e1,e2];exact ⟨⟨⟨⟨⟨⟨⟨⟨⟨⟨rfl,rfl⟩,rfl⟩,rfl⟩,rfl⟩,rfl⟩,rfl⟩,rfl⟩,rfl⟩,rfl⟩,rfl⟩
 ·exact hk
 ·have:=hk.1.1;exact ⟨by omega,hc.2⟩
 ·have:=hk.1.1;exact ⟨by omega,hc.1.2⟩
 ·exact hpre
 ·rename_i g;obtain ⟨e1,e2⟩:=lit_i2 (r:=r) (hp.symm.trans g) (by rw [<- hq,hc.1.1.1,W9 hc.1.1.2,hc.1.2,hc.2];rfl);rw [e1,e2];exact ⟨⟨⟨⟨⟨⟨⟨⟨⟨⟨rfl,rfl⟩,rfl⟩,rfl⟩,rfl⟩,rfl⟩,rfl⟩,rfl⟩,rfl⟩,rfl⟩,rfl⟩
 ·exact hpre
 ·exact ht
 ·exact ht
 ·rename_i g g2 h4;obtain ⟨e1,e2⟩:=c5O (r:=r) (hp.symm.trans g) (hq.symm.trans g2) (by rw [c2w h4];exact hc);rw [e1,e2,c2w h4];exact ⟨⟨⟨⟨⟨⟨⟨⟨⟨⟨rfl,rfl⟩,rfl⟩,rfl⟩,rfl⟩,rfl⟩,rfl⟩,rfl⟩,rfl⟩,rfl⟩,rfl⟩
 ·rename_i g g2 h4;exact a0Y (u7 (sign_lt h4)) hti
 ·rename_i g g2 h4;obtain ⟨e1,e2⟩:=lit_i4 (r:=r) (hp.symm.trans g) (hq.symm.trans g2) (by rw [c2w h4];exact hc);rw [e1,e2,c2w h4];exact ⟨⟨⟨⟨⟨⟨⟨⟨⟨⟨rfl,rfl⟩,rfl⟩,rfl⟩,rfl⟩,rfl⟩,rfl⟩,rfl⟩,rfl⟩,rfl⟩,rfl⟩
 ·exact ht
 ·rename_i g g2 h4;obtain ⟨e1,e2⟩:=c5O (r:=r) (hp.symm.trans g) (hq.symm.trans g2) (by rw [opJ_n h4];decide);rw [e1,e2,opJ_n h4];exact ⟨⟨⟨⟨⟨⟨⟨⟨⟨⟨rfl,rfl⟩,rfl⟩,rfl⟩,rfl⟩,rfl⟩,rfl⟩,rfl⟩,rfl⟩,rfl⟩,rfl⟩
def a3r:CT:=s3 (fun (x:c4) h=>a9s x h)
@[go_sem] def b8j:=fun x0 x1 x2 x3 x4=>nm' (fP' a3r rfl ⟨x0,x1,x2,x3,x4⟩)
def a3w (r:c4) (k:Int):c9:=
 ⟨k,a0s r,bif a1n (i6 (j1 r) [47])&&!decide (6 < (g9 (i6 (j1 r) [47]) (i6 (j1 r) [47]).i).N) then (g9 (i6 (j1 r) [47]) (i6 (j1 r) [47]).i).N else 0⟩
def c5x {r:c4} {k:Int} (h:(l5 r k).1.code=0):a3w r k=(l5 r k).2:=by
 rw [l5] at h ⊢;have e:i6 (j1 r) a0i=i6 (j1 r) [47]:=rfl;simp only [e] at h ⊢;rw [a3w];cases hy:a1n (i6 (j1 r) [47]) with
 | false=>rw [hy] at h;exact absurd h (o6 (by decide))
 | true=>
   rw [hy,W5] at h;rw [W5,q0D];cases hd:decide (6 < (g9 (i6 (j1 r) [47]) (i6 (j1 r) [47]).i).N) with
   | true=>rw [hd] at h;exact absurd h (o6 (by decide))
   | false=>rfl
def c5C (r:c4):((m9 r).Kind != 3)=!a1n r:=by
 cases h:m0 r with
 | true=>rw [a2h h,a1n,h];rfl
 | false=>rw [a1e h,a1n,h,q3L,q3G];rfl
def decl_i1 {r r1:c4} {k:Int} (e:i6 (j1 r) [47]=r1) (h:a1n r1=false):(l5 r k).1=f9 r1 6/\a3w r k=⟨k,a0s r,0⟩:=by
 have e':i6 (j1 r) a0i=r1:=e;rw [a3w,e,h,l5];simp only [e',h,W4,Bool.false_and,q1U]
def decl_i2 {r r1:c4} {k:Int} (e:i6 (j1 r) [47]=r1) (h:a1n r1=true) (h2:6 < (m9 r1).N):(l5 r k).1=f9 r1 7/\a3w r k=⟨k,a0s r,0⟩:=by
 have e':i6 (j1 r) a0i=r1:=e;have hn:m0 r1=false:=by simp only [a1n,q0Y,q0M] at h;exact h.1
 rw [a1e hn] at h2;rw [a3w,e,h,l5];simp only [e',h,W5,q0D,W9 h2,q3Z,W4,q1U]
def decl_i3 {r r1:c4} {k:Int} (e:i6 (j1 r) [47]=r1) (h:a1n r1=true) (h2:¬ 6 < (m9 r1).N):(l5 r k).1=i6 (i5 r1) [46]/\a3w r k=⟨k,a0s r,(m9 r1).N⟩:=by
 have e':i6 (j1 r) a0i=r1:=e;have hn:m0 r1=false:=by simp only [a1n,q0Y,q0M] at h;exact h.1
 rw [a1e hn] at h2 ⊢;rw [a3w,e,h,l5];simp only [e',h,W5,q0D,V4 h2,q3S,W4];exact ⟨rfl,trivial⟩
def a8a (r:c4) (k:Int) (hpre:j2 r/\r.i < r.toks.length):spZ 113 [(false,[.mp [i9 r.toks,.i .i64 r.i,.i .i64 r.e,.i .i64 r.code,.i .i64 r.p]]),(false,[.i .i64 k])] [(0,(false,[.mp [i9 (((l5 (i5 r) k).1).toks),.i .i64 (((l5 (i5 r) k).1).i),.i .i64 (((l5 (i5 r) k).1).e),.i .i64 (((l5 (i5 r) k).1).code),.i .i64 (((l5 (i5 r) k).1).p)]]))] (.one (true,[.i .i64 ((a3w (i5 r) k).Kind),.s ((a3w (i5 r) k).Name),.i .i64 ((a3w (i5 r) k).Arity)])):=by
 refine sx' false true (some 0) Tryz.func113 (q' 4 [aw [.i .i64,.s,.i .i64]] (q' 7 [am 1,ao (.bld [.i .i64,.s,.i .i64] [(0,1,.t 7)]),ax (w' 5 [.i .i64,.s,.i .i64]),aS 3 5 8] (q' 9 [am 0,ao (.nck (.t 9)),aG 1 10,ao (.bin .add (.t 12) (k' 1)),ao (.nck (.t 9)),aF 1,aS 1 15 13] (q' 16 [am 0,ac 211 [16],af 1 5,aS 1 18 17] (q' 19 [am 0,ao (.call 212 [.t 19,.k (.v false [.c (.s [47])])])] (q' 21 [am 0,ac 109 [21],ax (w' 6 [.i .i64,.i .i64,.s,.i .i64]),aS 4 6 22] (.seq (.block 0 (q' 34 [aG 0 6,ao (.bin .neq (.t 35) (k' 3)),aV 33] (.cond (.t 33) (g' 37 [am 0,ao (.call 112 [.t 37,.k (.v false [.c (.i .i64 6)])])]) (q' 40 [aG 1 6,ao (.bin .gtr (.t 41) (k' 6)),aV 39] (.cond (.t 39) (g' 43 [am 0,ao (.call 112 [.t 43,.k (.v false [.c (.i .i64 7)])])]) (q' 23 [aG 1 6,af 2 5,aS 1 25 24] (g' 26 [am 0,ao (.nck (.t 26)),aG 1 27,ao (.bin .add (.t 29) (k' 1)),ao (.nck (.t 26)),aF 1,aS 1 32 30]))))))) (q' 45 [am 0,ao (.call 212 [.t 45,.k (.v false [.c (.s [46])])])] (q' 47 [ae 3 5,aS 3 4 47] .ret))))))))) [.c 4 true 3] [(211,[0],a1h),(212,[0],a0v),(109,[],k7),(112,[0],m8)] ?_;intro hb hE;obtain ⟨hk,hlt⟩:=hpre;have hw1:=a2p hk;have hs:=s9 hk hlt;have hwo:=b2q hs;have hto:=b2p hwo [47];have hw2:=a2p hto;have hst:(⟨r.toks,r.i+1,r.e,r.code,r.p⟩:c4)=i5 r:=rfl;simp only [go_sem,hw1,hw2,hst];repeat' first|apply cj'|intro hc|exact om'|fail
 ·exact hs
 ·exact hwo
 ·exact hto
 all_goals have hn:=c5C (i6 (j1 (i5 r)) [47])
 ·exact hto
 ·exact a0g hto 6
 ·obtain ⟨e1,e2⟩:=decl_i1 (k:=k) rfl (by rw [hc] at hn;simpa using hn.symm);rw [e1,e2,a1F (o6 (by decide))];exact ⟨⟨⟨rfl,rfl⟩,rfl⟩,rfl⟩
 ·exact hto
 ·exact a0g hto 7
 ·rename_i h3;obtain ⟨e1,e2⟩:=decl_i2 (k:=k) rfl (by rw [h3] at hn;simpa using hn.symm) hc;rw [e1,e2,a1F (o6 (by decide))];exact ⟨⟨⟨rfl,rfl⟩,rfl⟩,rfl⟩
 ·rename_i h3;exact s9 hto (b8v (by rw [h3] at hn;simpa using hn.symm))
 ·rename_i h3;obtain ⟨e1,e2⟩:=decl_i3 (k:=k) rfl (by rw [h3] at hn;simpa using hn.symm) hc;rw [e1,e2];exact ⟨⟨⟨rfl,rfl⟩,rfl⟩,rfl⟩
def a2W:CT:=s3 (fun (x:c4×Int) h=>a8a x.1 x.2 h)
@[go_sem] def b7x:=fun x0 x1 x2 x3 x4 k=>nm' (fP' a2W rfl (⟨x0,x1,x2,x3,x4⟩,k))
def a7Z (r:c4) (hpre:a0r r):spZ 214 [(false,[.mp [i9 r.toks,.i .i64 r.i,.i .i64 r.e,.i .i64 r.code,.i .i64 r.p]])] [(0,(false,[.mp [i9 (((a1r r []).1).toks),.i .i64 (((a1r r []).1).i),.i .i64 (((a1r r []).1).e),.i .i64 (((a1r r []).1).code),.i .i64 (((a1r r []).1).p)]]))] (.one (false,[c2l ((a1r r []).2)])):=by
 refine sx' true false (some 0) Tryz.func214 (q' 2 [ao (.mov (.k (.v false [.nl a2q])))] (q' 5 [ao (.bsl 10 0 [.i .i64,.s,.sl j3,.i .i64,.s,.i .i64,.s,.s,.i .i64,.s] []),aV 3] (.seq (.block 0 (.loop (.seq (q' 6 [am 0,ao (.nck (.t 6)),aG 3 7,ao (.bin .eql (.t 9) (k' 0))] (.cond (.t 10) .skip (.exit 0))) (.block 1 (.seq (q' 11 [am 0,ac 283 [11],am 12,au (.mov (.t 3)) 13 true,au (.len (.t 14)) 13 true,au (.bin .eql (.t 15) (k' 8)) 13 true,ao (.pick (.t 13) (.t 16) (bb false))] (.cond (.t 17) (q' 18 [am 0,ao (.call 112 [.t 18, .k (.v false [.c (.i .i64 7)])])] (.exit 0)) .skip)) (q' 20 [am 0,ac 284 [20],ax (w' 4 [.i .i64,.s,.sl j3,.i .i64,.s,.i .i64,.s, .s,.i .i64,.s]),aS 10 4 21] (q' 22 [am 3,ae 10 4,ao (.bsl 10 1 [.i .i64,.s,.sl j3,.i .i64,.s,.i .i64,.s,.s,.i .i64,.s] [(0, .t 23)]),ao (.app 10 136 [.i .i64,.s,.sl j3,.i .i64,.s,.i .i64,.s,.s,.i .i64,.s] (.t 22) (.t 24)),aV 3] (.seq (q' 26 [am 0,ao (.call 111 [.t 26,.k (.v false [.c (.s [44])])]),ao (.not (.t 27))] (.cond (.t 28) (.exit 0) .skip)) (g' 29 [am 0,ao (.nck (.t 29)),aG 1 30,ao (.bin .add (.t 32) (k' 1)),ao (.nck (.t 29)),aF 1,aS 1 35 33]))))))))) (q' 36 [am 3,aV 2] .ret)))) [.t 2] [(283,[],a1k),(112,[0],m8),(284,[0],a3r),(111,[],t2)] ?_;intro hb hE;simp only [go_sem];repeat' first|apply cj'|intro hc|exact om'|fail
 refine lk' true [(false,3,0,100006)] [0] [] [] (fun i:{q:c4×List c7 // a0r q.1/\q.1.toks=r.toks/\(q.2.length:Int)<=q.1.i/\a1r q.1 q.2=a1r r []}=>[(3,.v false [.ow 100006])]) (fun i=>[(1,[.c (i9 i.1.1.toks),.c (.i .i64 i.1.1.i),.c (.i .i64 i.1.1.e),.c (.i .i64 i.1.1.code),.c (.i .i64 i.1.1.p)])]) (fun i=>[(100006,b9u,i.1.2.map (c7.cells true true))]) (fun i=>r.toks.length - i.1.1.i.toNat) (⟨(r,[]),hpre,rfl,hpre.1.1.1,rfl⟩) ?_;intro S0 hS0 i;obtain ⟨⟨q,a⟩,hq,hqt,hal,hqe⟩:=i;simp only at hq hqt hal hqe;have hqo:=hq.1;have hln:a.length<=6000:=by have:=hqo.1.2;have:=hqo.2;omega
 have hlk:=(a0u q).ok hqo;simp only [go_sem,hS0];repeat' first|apply cj'|intro hc|exact om'|fail
 ·exact hq
 ·exact hqo
 ·rename_i hcd;have hon:=b3j hqo (a:=a) (by simpa using hcd);rw [hc.1,hc.2,q1C,W5] at hon;rw [<- hqe,hon];exact ⟨rfl,rfl⟩
 ·exact hq
 ·exact hlk
 ·rename_i hcd hcf;have hon:=b3j hqo (a:=a) (by simpa using hcd);rw [hcf,W4,show isS (j4 q).1 (j4 q).1.i n7=false from hc,W4] at hon;rw [<- hqe,hon];exact ⟨rfl,rfl⟩
 ·rename_i hcd hcf;have hlt:=(u6 hc).2;have hon:=b3j hqo (a:=a) (by simpa using hcd);rw [hcf,W4,show isS (j4 q).1 (j4 q).1.i n7=true from hc,W5] at hon;have ht:=a0u q;have hst:=a0Y (ht.trans (u7 hlt)) hq;have h00:=hqo.1.1;have hw3:=a2p hlk
  (refine lpK_n2 (⟨(i5 (j4 q).1,a++[a1M q]),hst,ht.t.trans hqt,by show ((a++[_]).length:Int)<=(j4 q).1.i+1;rw [W7];have:=ht.i;simp only [V3,q0T];omega,hon.symm.trans hqe⟩) _ (by simp only [go_sem];try rfl) ?_;simp only [go_sem,hS0]<;>repeat' first|apply V2|exact on'|fail)
  ·show r.toks.length - ((j4 q).1.i+1).toNat < r.toks.length - q.i.toNat
   have h1:=ht.i;rw [ht.t,hqt] at hlt;omega
  ·exact hw3
 ·rw [<- hqe,c3n (by simpa using hc)];exact ⟨rfl,rfl⟩
def a2V:CT:=s3 (fun (x:c4) h=>a7Z x h)
@[go_sem] def b7w:=fun x0 x1 x2 x3 x4=>nm' (fP' a2V rfl ⟨x0,x1,x2,x3,x4⟩)
def rule_i1 {r:c4} {h:c4} (e:(j8 (u4 r)).1=h) (g:isS h h.i [58,45]=true):(u3 r).1=i6 (a1r (i5 h) []).1 [46]/\a4G r=⟨a1p r,a1q (u4 r),(a1r (i5 h) []).2⟩:=by
 rw [a1E,a3A,a4G,e,show isS h h.i b7l=true from g,a1r,(a8T (p5 (i5 h)) (i5 h) []).1];exact ⟨rfl,rfl⟩
def rule_i2 {r:c4} {h:c4} (e:(j8 (u4 r)).1=h) (g:isS h h.i [58,45]=false):(u3 r).1=i6 h [46]/\a4G r=⟨a1p r,a1q (u4 r),[]⟩:=by
 rw [a1E,a3A,a4G,e,show isS h h.i b7l=false from g];exact ⟨rfl,rfl⟩
def c5d {r:c4} (h:j2 r) (a:List c7):j2 (a1r r a).1:=by
 rw [a1r,(a8T (p5 r) r a).1];exact (b2Y _ _ _).ok h
def a8f (r:c4) (hpre:a0r r):spZ 114 [(false,[.mp [i9 r.toks,.i .i64 r.i,.i .i64 r.e,.i .i64 r.code,.i .i64 r.p]])] [(0,(false,[.mp [i9 (((u3 r).1).toks),.i .i64 (((u3 r).1).i),.i .i64 (((u3 r).1).e),.i .i64 (((u3 r).1).code),.i .i64 (((u3 r).1).p)]]))] (.one (true,[.i .i64 ((a4G r).Kind),.s (((a4G r).Head).Name),b3F (((a4G r).Head).Args),c2l ((a4G r).Body)])):=by
 refine sx' true false (some 0) Tryz.func114 (q' 2 [aw [.i .i64,.s,.sl j3,.sl a2q]] (q' 3 [ax (o' 4 (.bld [.i .i64,.s,.sl j3,.sl a2q] [(0,1,.k (.v false [.c (.i .i64 1)]))])),aw [.i .i64,.s,.sl j3,.sl a2q],aS 4 3 4] (.seq (.block 0 (q' 6 [am 0,ao (.call 111 [.t 6,.k (.v false [.c (.s [43])])]),aV 5] (.cond (.t 5) (q' 8 [af 0 3,ax (⟨none,.st 1 (.t 8) (k' 2),none⟩)] (g' 9 [am 0,ao (.nck (.t 9)),aG 1 10,ao (.bin .add (.t 12) (k' 1)),ao (.nck (.t 9)),aF 1,aS 1 15 13])) (q' 17 [am 0,ao (.call 111 [.t 17,.k (.v false [.c (.s [45])])]),aV 16] (.cond (.t 16) (q' 19 [af 0 3,ax (⟨none,.st 1 (.t 19) (k' 3),none⟩)] (g' 20 [am 0,ao (.nck (.t 20)),aG 1 21,ao (.bin .add (.t 23) (k' 1)),ao (.nck (.t 20)),aF 1,aS 1 26 24])) .skip))))) (q' 27 [am 0,ac 213 [27],af 1 3,aS 2 29 28] (.seq (q' 30 [am 0,ao (.call 111 [.t 30,.k (.v false [.c (.s [58,45])])])] (.cond (.t 31) (q' 32 [am 0,ao (.nck (.t 32)),aG 1 33,ao (.bin .add (.t 35) (k' 1)),ao (.nck (.t 32)),aF 1,aS 1 38 36] (g' 39 [am 0,ac 214 [39],af 3 3,aS 1 41 40])) .skip)) (q' 42 [am 0,ao (.call 212 [.t 42,.k (.v false [.c (.s [46])])])] (q' 44 [ae 4 3,aS 4 2 44] .ret))))))) [.c 2 true 4] [(111,[],t2),(213,[0],a1g),(214,[0],a2V),(212,[0],a0v)] ?_;intro hb hE;have hk:=hpre.1;have hw1:=a2p hk;obtain ⟨h,hg⟩:∃ h,(j8 (u4 r)).1=h:=⟨_,rfl⟩
 have hti:a0r h:=by rw [<- hg];exact a0Y ((a2G r).trans (a4a _)) hpre
 have hsi:a0r (u4 r):=a0Y (a2G r) hpre;have hw2:=a2p hti.1;obtain ⟨p,c1⟩:∃ p,isS r r.i [43]=p:=⟨_,rfl⟩
 obtain ⟨m,c2⟩:∃ p,isS r r.i [45]=p:=⟨_,rfl⟩
 obtain ⟨v,hv⟩:∃ v,a1q (u4 r)=v:=⟨_,rfl⟩
 have h3:(p=true/\a1p r=2/\(j8 ⟨r.toks,r.i+1,r.e,r.code,r.p⟩).1=h/\a1q ⟨r.toks,r.i+1,r.e,r.code,r.p⟩=v/\a0r ⟨r.toks,r.i+1,r.e,r.code,r.p⟩)\/((p=false/\m=true)/\a1p r=3/\(j8 ⟨r.toks,r.i+1,r.e,r.code,r.p⟩).1=h/\a1q ⟨r.toks,r.i+1,r.e,r.code,r.p⟩=v/\a0r ⟨r.toks,r.i+1,r.e,r.code,r.p⟩)\/((p=false/\m=false)/\a1p r=1/\(j8 r).1=h/\a1q r=v/\a0r r):=by
  cases p with
  | true=>have e:=c2B c1;rw [e.1] at hg hsi hv;exact .inl ⟨rfl,e.2,hg,hv,hsi⟩
  | false=>
    cases m with
    | true=>have e:=c2C c1 c2;rw [e.1] at hg hsi hv;exact .inr (.inl ⟨⟨rfl,rfl⟩,e.2,hg,hv,hsi⟩)
    | false=>have e:=c2D c1 c2;rw [e.1] at hg hsi hv;exact .inr (.inr ⟨⟨rfl,rfl⟩,e.2,hg,hv,hsi⟩)
 rcases h3 with ⟨rfl,ek,e0,e1,es⟩|⟨⟨rfl,rfl⟩,ek,e0,e1,es⟩|⟨⟨rfl,rfl⟩,ek,e0,e1,es⟩
 all_goals (
  simp only [go_sem,hw1,hw2,c1,c2,e0,e1];repeat' first|apply cj'|intro hc|exact om'|fail)
 all_goals first
  | exact hk
  | exact es
  | exact hti.1
  | exact a0Y (u7 (u6 hc).2) hti
  | exact c5d (s9 hti.1 (u6 hc).2) []
  | (obtain ⟨f1,f2⟩:=rule_i1 hg hc;rw [f1,f2,hv,ek];exact ⟨⟨⟨⟨rfl,rfl⟩,rfl⟩,rfl⟩,rfl⟩)
  | (obtain ⟨f1,f2⟩:=rule_i2 hg hc;rw [f1,f2,hv,ek];exact ⟨⟨⟨⟨rfl,rfl⟩,rfl⟩,rfl⟩,rfl⟩)
  | trace_state
def a2X:CT:=s3 (fun (x:c4) h=>a8f x h)
@[go_sem] def b7C:=fun x0 x1 x2 x3 x4=>nm' (fP' a2X rfl ⟨x0,x1,x2,x3,x4⟩)
def c5u (a:ByteArray) (c:Int) (w:World):Calls Tryz.prog 320 #[.string a,.int .u8 c] w fun e w'=>e=.returned (.int .i64 (Lib.indexByte a.data.toList c.toNat.toUInt8))/\w' = w:=by
 go_enter Tryz.func320,Tryz.ntmps320
 go_wp2
 rw [run_callFunc_extern Tryz.func352 (by kernel_rfl) (by kernel_rfl) (by kernel_rfl) (e:=Extern.BytealgIndexByte.indexByte) (by kernel_rfl),Lib.run_indexByteString];simp only [Result.andThen];rw [Oper.upon_value]
 go_wp2
 go_ret
 exact ⟨rfl,rfl⟩
def ib_lt (l:List UInt8) (c:UInt8):Lib.indexByte l c<=l.length:=by
 induction l with
 | nil=>show (-1:Int)<=0;decide
 | cons b l ih=>
   rw [Lib.indexByte,V3];split
   ·omega
   ·split<;>omega
def a4A (s:List UInt8) (c:Int):spZ 320 [(false,[.s s]),(false,[.i .u8 c])] [] (.one (false,[.i .i64 (Lib.indexByte s c.toNat.toUInt8)])):=by
 unfold spZ A0d;refine ⟨by kernel_rfl, ?_⟩;intro F w vs fpa h _ _ hF;simp only [VsRd,VRd,C.RdVals,C.Rd] at h;obtain ⟨_,_,_,_,rfl,rfl,⟨_,hc,hr⟩,_,_,_,_,rfl,rfl,⟨_,hc',hr'⟩,rfl,rfl⟩:=h;simp only [V1,q0C] at hc hc';subst hc;subst hc';simp only [C.Rd] at hr hr';obtain ⟨rfl,h1,rfl⟩:=hr;obtain ⟨rfl,h2,rfl⟩:=hr';refine (c5u ⟨s.toArray⟩ c w).mono ?_;rintro e w' ⟨rfl,rfl⟩;refine ⟨F,_,[],[],rfl, ?_,rfl,⟨fun _ h=>h,fun _ h=>.inl h,hF,q0K,by simp,fun _ _ _=>rfl,q0A _,rfl,Tp.of rfl rfl,rfl⟩⟩;simp only [RRd,VRd];refine ⟨_,rfl, ?_⟩;unfold C.Rd;have h3:=Lib.indexByte_ge s c.toNat.toUInt8;have h4:=ib_lt s c.toNat.toUInt8;refine ⟨rfl, ?_,rfl⟩;simp only [maxLen] at h1;rw [min_i64,max_i64];omega
def a1m:CT:=j6 (fun (x:(List UInt8)×Int)=>a4A x.1 x.2)
@[go_sem] def b3w:=fun s c=>nm' (fQ' a1m rfl (s,c))
def a7k (s:List UInt8) (c:Int):spZ 278 [(false,[.s s]),(false,[.i .u8 c])] [] (.one (false,[.i .i64 (Lib.indexByte s c.toNat.toUInt8)])):=by
 refine sy' Tryz.func278 (q' 4 [aK 0] (q' 5 [aM [0,1],ac 320 [5,6],aV 4] .ret)) [.t 4] [(320,[],a1m)] ?_;intro hb hE;simp only [go_sem];repeat' first|apply cj'|intro hc|exact om'|fail
def a0V:CT:=j6 (fun (x:(List UInt8)×Int)=>a7k x.1 x.2)
@[go_sem] def b6B:=fun s c=>nm' (fQ' a0V rfl (s,c))
def b9d (s t:List UInt8):Bool:=decide ((t.length:Int)<=s.length)&&cut s 0 t.length==t
def a4z (s:List UInt8) (t:List UInt8):spZ 321 [(false,[.s s]),(false,[.s t])] [] (.one (false,[.b (b9d s t)])):=by
 refine sy' Tryz.func321 (q' 0 [ab 4 false] (q' 5 [am 0,ao (.lens (.t 5)),am 1,ao (.lens (.t 7)),ao (.bin .geq (.t 6) (.t 8)),am 9,au (.mov (.t 0)) 10 true,au (.mov (.t 1)) 10 true,au (.lens (.t 12)) 10 true,au (.slcs (.t 11) none (some (.t 13))) 10 true,au (.mov (.t 1)) 10 true,au (.bin .eql (.t 14) (.t 15)) 10 true,ao (.pick (.t 10) (.t 16) (bb false)),aV 4] .ret)) [.t 4] [] ?_;intro hb hE;simp only [go_sem];repeat' first|apply cj'|intro hc|exact om'|fail
 all_goals rfl
def a1l:CT:=j6 (fun (x:(List UInt8)×(List UInt8))=>a4z x.1 x.2)
@[go_sem] def b3v:=fun s t=>nm' (fQ' a1l rfl (s,t))
def a7j (s:List UInt8) (t:List UInt8):spZ 280 [(false,[.s s]),(false,[.s t])] [] (.one (false,[.b (b9d s t)])):=by
 refine sy' Tryz.func280 (q' 0 [ab 4 false] (q' 5 [aM [0,1],ac 321 [5,6],aV 4] .ret)) [.t 4] [(321,[],a1l)] ?_;intro hb hE;simp only [go_sem];repeat' first|apply cj'|intro hc|exact om'|fail
def a2x:CT:=j6 (fun (x:(List UInt8)×(List UInt8))=>a7j x.1 x.2)
@[go_sem] def b6A:=fun s t=>nm' (fQ' a2x rfl (s,t))
def a4J (s:List UInt8):Nat->Nat->Nat
 | 0,i=>i
 | n+1,i=>bif decide (i < s.length) then (bif y5 (s.getD i 0) then a4J s n (i+1) else bif ((s.getD i 0).toNat:Int)==35 then a4J s n (o7 a0l s i) else i) else i
def a0J (s:List UInt8) (i:Nat):Nat:=a4J s (s.length+1 - i) i
def b7h {s:List UInt8} {i:Nat} (hi:i < s.length) (h:(((s.getD i 0).toNat:Int)==35)=true):o7 a0l s i=o7 a0l s (i+1):=a0U hi (by rw [a0l,beq_iff_eq.1 h];decide)
def a4W (s:List UInt8):∀ (n m i:Nat),s.length < n+i->s.length < m+i->a4J s n i=a4J s m i
 | 0,0,i,_,_=>rfl
 | 0,m+1,i,h,_=>by rw [a4J,a4J,V4 (by omega)];rfl
 | n+1,0,i,_,h=>by rw [a4J,a4J,V4 (by omega)];rfl
 | n+1,m+1,i,h1,h2=>by
   rw [a4J,a4J];by_cases hi:i < s.length
   ·rw [W9 hi,W5,W5];cases y5 (s.getD i 0) with
    | true=>exact a4W s n m _ (by omega) (by omega)
    | false=>
      rw [W4,W4];cases h35:((s.getD i 0).toNat:Int)==35 with
      | true=>
        have hr:=b7h hi h35;have:=a0y (f:=a0l) (s:=s) (i:=i+1) (by omega);exact a4W s n m _ (by omega) (by omega)
      | false=>rfl
   ·rw [V4 hi];rfl
def b9i {s:List UInt8} {i:Nat} (h:i < s.length):a0J s i=bif y5 (s.getD i 0) then a0J s (i+1) else bif ((s.getD i 0).toNat:Int)==35 then a0J s (o7 a0l s i) else i:=by
 have e:s.length+1 - i=(s.length - i)+1:=by omega
 rw [a0J,e,a4J,W9 h,W5];cases y5 (s.getD i 0) with
 | true=>exact a4W s _ _ _ (by omega) (by omega)
 | false=>
   rw [W4,W4];cases h35:((s.getD i 0).toNat:Int)==35 with
   | true=>
     have hr:=b7h h h35;have:=a0y (f:=a0l) (s:=s) (i:=i+1) (by omega);exact a4W s _ _ _ (by omega) (by omega)
   | false=>rfl
def a6O {s:List UInt8} {i:Nat} (h:¬ i < s.length):a0J s i=i:=by
 rw [a0J];cases s.length+1 - i with
 | zero=>rfl
 | succ n=>rw [a4J,V4 h];rfl
structure Skp (s:List UInt8) (i:Nat):Prop where
 ge:i<=a0J s i
 le:a0J s i<=s.length
 lx:∀ out,a3m s i out=a3m s (a0J s i) out
 no:a0J s i < s.length->y5 (s.getD (a0J s i) 0)=false/\(((s.getD (a0J s i) 0).toNat:Int)==35)=false
def b7m (s:List UInt8):∀ (k i:Nat),s.length<=i+k->i<=s.length->Skp s i
 | 0,i,h,h2=>by
   have e:=a6O (s:=s) (i:=i) (by omega);exact ⟨by omega,by omega,fun out=>by rw [e],fun h=>by omega⟩
 | k+1,i,h,h2=>by
   by_cases hi:i < s.length
   ·have e:=b9i hi;have el:=fun out=>a2f (s:=s) out hi
    cases hs:y5 (s.getD i 0) with
    | true=>
      rw [hs,W5] at e;have ih:=b7m s k (i+1) (by omega) (by omega);refine ⟨by have:=ih.ge;omega,by rw [e];exact ih.le,fun out=>?_,by rw [e];exact ih.no⟩;rw [el out,hs,W5,e];exact ih.lx out
    | false=>
      rw [hs,W4] at e;cases h35:((s.getD i 0).toNat:Int)==35 with
      | true=>
        rw [h35,W5] at e;have hr:=b7h hi h35;have h3:=a0y (f:=a0l) (s:=s) (i:=i+1) (by omega);have ih:=b7m s k (o7 a0l s i) (by omega) (by omega);refine ⟨by have:=ih.ge;omega,by rw [e];exact ih.le,fun out=>?_,by rw [e];exact ih.no⟩;rw [el out,hs,W4,h35,W5,e];exact ih.lx out
      | false=>
        rw [h35,W4] at e;exact ⟨by omega,by omega,fun out=>by rw [e],fun _=>by rw [e];exact ⟨hs,h35⟩⟩
   ·have e:=a6O (s:=s) (i:=i) hi;exact ⟨by omega,by omega,fun out=>by rw [e],fun h=>by omega⟩
def skp {s:List UInt8} {i:Nat} (h:i<=s.length):Skp s i:=b7m s s.length i (by omega) h
def c5D:∀ l:List UInt8,(Lib.indexByte l 10 < 0/\l.takeWhile a0l=l)\/Lib.indexByte l 10=(l.takeWhile a0l).length
 | []=>.inl ⟨by decide,rfl⟩
 | b::l=>by
   rw [Lib.indexByte,q2K];by_cases hb:b=10
   ·subst hb;exact .inr rfl
   ·have h1:a0l b=true:=by
     rw [a0l,bne_iff_ne];intro e;exact hb (UInt8.toNat_inj.1 (Int.ofNat.inj e))
    rw [beq_eq_false_iff_ne.2 hb,h1];have h2:=Lib.indexByte_ge l 10;simp only [q1H,if_false,if_true];rcases c5D l with ⟨h3,h4⟩|h3
    ·have h5:Lib.indexByte l 10=-1:=by omega
     rw [h5,h4];exact .inl ⟨by decide,rfl⟩
    ·have h5:(Lib.indexByte l 10==-1)=false:=beq_eq_false_iff_ne.2 (by omega);rw [h5];simp only [q1H,if_false];exact .inr (by rw [h3,V3];omega)
def c2d (s:List UInt8) (i:Nat):cut s i s.length=s.drop i:=by rw [cut,q0E (by rw [q2I];omega)]
def ib_rem {s:List UInt8} {i:Nat} (h:i<=s.length):(Lib.indexByte (cut s i s.length) 10 < 0->o7 a0l s i=s.length)/\(¬ Lib.indexByte (cut s i s.length) 10 < 0->(o7 a0l s i:Int)=i+Lib.indexByte (cut s i s.length) 10):=by
 rw [c2d,o7];rcases c5D (s.drop i) with ⟨h1,h2⟩|h1
 ·refine ⟨fun _=>by rw [h2,q2I];omega,fun h=>absurd h1 h⟩
 ·refine ⟨fun h=>by omega,fun _=>by rw [h1];omega⟩
def b3S (s:List UInt8) (i:Int) (hpre:0<=i/\i<=s.length/\s.length<=1000000):spZ 205 [(false,[.s s]),(false,[.i .i64 i])] [] (.one (false,[.i .i64 (a0J s i.toNat:Int)])):=by
 refine sy' Tryz.func205 (q' 4 [aK 0] (.seq (.block 0 (.loop (.seq (q' 6 [aM [1,0],ao (.lens (.t 7)),ar 6 8] (.cond (.t 9) .skip (.exit 0))) (.block 1 (q' 10 [aM [0,1],ao (.ixs (.t 10) (.t 11))] (.block 2 (.seq (q' 15 [ao (.bin .eql (.t 12) (bu 9)),aV 14] (.cond (.t 14) .skip (q' 16 [ao (.bin .eql (.t 12) (bu 10)),aV 14] (.cond (.t 14) .skip (q' 17 [ao (.bin .eql (.t 12) (bu 13)),aV 14] (.cond (.t 14) .skip (g' 18 [ao (.bin .eql (.t 12) (bu 32)),aV 14]))))))) (.cond (.t 14) (g' 19 [aB 1]) (q' 22 [ao (.bin .eql (.t 12) (bu 35)),aV 21] (.cond (.t 21) (q' 23 [aM [0,1],ao (.slcs (.t 23) (some (.t 24)) none),ao (.call 278 [.t 25,.k (.v false [.c (.i .u8 10)])]),aV 5] (.seq (q' 27 [am 5,ao (.bin .lss (.t 27) (k' 0))] (.cond (.t 28) (q' 29 [am 0,ao (.lens (.t 29)),aV 4] .ret) .skip)) (g' 31 [aM [1,5],ao (.bin .add (.t 31) (.t 32)),aV 1]))) (q' 13 [am 1,aV 4] .ret))))))))))) (q' 34 [am 1,aV 4] .ret))) [.t 4] [(278,[],a0V)] ?_;intro hb hE;obtain ⟨h0,h1,h2⟩:=hpre;simp only [go_sem];repeat' first|apply cj'|intro hc|exact om'|fail
 refine lq' false [0] [] [] (fun i:{j:Nat // j<=s.length/\a0J s j=a0J s i.toNat}=>[(1,slV (.i .i64 i.1))]) nl' nl' (fun i=>s.length - i.1) (⟨i.toNat,by omega,rfl⟩) ?_;intro S0 hS0 i;obtain ⟨j,hj,hje⟩:=i;have hib:(Lib.indexByte (cut s j s.length) (Nat.toUInt8 10) < 0->o7 a0l s j=s.length)/\(¬ Lib.indexByte (cut s j s.length) (Nat.toUInt8 10) < 0->(o7 a0l s j:Int)=j+Lib.indexByte (cut s j s.length) (Nat.toUInt8 10)):=ib_rem hj;rcases q2X j s.length with hlt|hlt
 rotate_left
 ·skip
  simp only [go_sem,hS0];repeat' first|apply cj'|intro hc|exact om'|fail
  rw [<- hje,a6O (by omega)]
 have hn:=b9i hlt;obtain ⟨b,hb0⟩:∃ b:Int,((s.getD j 0).toNat:Int)=b:=⟨_,rfl⟩
 have hk:((b==9)=true/\(b==10)=false/\(b==13)=false/\(b==32)=false)\/((b==9)=false/\(b==10)=true/\(b==13)=false/\(b==32)=false)\/((b==9)=false/\(b==10)=false/\(b==13)=true/\(b==32)=false)\/((b==9)=false/\(b==10)=false/\(b==13)=false/\(b==32)=true)\/((b==9)=false/\(b==10)=false/\(b==13)=false/\(b==32)=false):=by
  simp only [beq_iff_eq,beq_eq_false_iff_ne];omega
 rw [y5,hb0] at hn;have hw1:IntKind.i64.wrap ((j:Int)+1)=((j+1:Nat):Int):=IntWalk.i64_in _ ⟨by omega,by omega⟩;rcases hk with ⟨k0,k1,k2,k3⟩|⟨k0,k1,k2,k3⟩|⟨k0,k1,k2,k3⟩|⟨k0,k1,k2,k3⟩|⟨k0,k1,k2,k3⟩
 all_goals rw [k0,k1,k2,k3] at hn
 all_goals (
  simp only [go_sem,hS0,hb0,k0,k1,k2,k3];repeat' first|apply cj'|intro hc|exact om'|fail)
 all_goals (try (
  have h5:a0J s (j+1)=a0J s i.toNat:=by rw [<- hje,hn];rfl
  (refine lpK_n2 (⟨j+1,by omega,h5⟩) _ rfl ?_;simp only [go_sem,hS0,hb0,k0,k1,k2,k3]<;>repeat' first|apply V2|exact on'|fail)))
 ·rename_i h35;rw [h35] at hn;have hr:=hib.1 hc;rw [<- hje,hn,hr];exact congrArg Nat.cast (a6O (i:=s.length) (by omega)).symm
 ·rename_i h35;have hr:=hib.2 hc;have hr1:=b7h hlt (by rw [hb0];exact h35);have hr2:=a0y (f:=a0l) (s:=s) (i:=j+1) (by omega);rw [h35] at hn;have hw:IntKind.i64.wrap ((j:Int)+Lib.indexByte (cut s j s.length) (Nat.toUInt8 10))=((o7 a0l s j:Nat):Int):=by rw [<- hr];exact IntWalk.i64_in _ ⟨by omega,by omega⟩
  have h5:a0J s (o7 a0l s j)=a0J s i.toNat:=by rw [<- hje,hn];rfl
  (refine lpK_n2 (⟨o7 a0l s j,by omega,h5⟩) _ rfl ?_;simp only [go_sem,hS0,hb0,k0,k1,k2,k3]<;>repeat' first|apply V2|exact on'|fail)
 ·rw [hc] at hn;rw [<- hje,hn];rfl
def a5Y:CT:=s3 (fun (x:(List UInt8)×Int) h=>b3S x.1 x.2 h)
@[go_sem] def c1J:=fun s i=>nm' (fP' a5Y rfl (s,i))
end
end Go.Aw
