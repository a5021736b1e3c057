/- Levels: the program's. No condition. -/
import Derived.Test.YtokefohpgeajaaaGreatwaT13
namespace Go.Aw
open Go.Proofs
attribute [local irreducible] aft blk lpK retK AW A0d
set_option linter.all false
set_option maxRecDepth 100000
def a1h (l:List c9) (v:List UInt8):Int:=((l.find? fun x=>x.Name==v).map c9.N).getD 0
def a0a (l:List c9) (v:List UInt8):Int:=((l.find? fun x=>x.Name==v).map c9.N).getD (-1)
def a7d {p:c4} (g:Lev) {v:List UInt8}:(v∈vwS p->(lvl p g).find? (fun x=>x.Name==v)=some ⟨v,g v⟩)/\(¬ v∈vwS p->(lvl p g).find? (fun x=>x.Name==v)=none):=by
 unfold lvl;generalize vwS p=V
 induction V with
 | nil=>exact ⟨fun h=>by simp at h,fun _=>rfl⟩
 | cons x V ih=>
   refine ⟨fun h=>?_,fun h=>?_⟩
   ·by_cases e:x=v
    ·subst e;simp
    ·have hv:v∈V:=by
      rcases V2.1 h with h|h
      ·exact absurd h.symm e
      ·exact h
     rw [q0E,List.find?_cons_of_neg (by simpa using e)];exact ih.1 hv
   ·simp only [V2,not_or] at h;rw [q0E,List.find?_cons_of_neg (by simpa using fun e=>h.1 e.symm)];exact ih.2 h.2
def a2Z {p:c4} (g:Lev) {v:List UInt8} (h:v∈vwS p):a1h (lvl p g) v=g v:=by rw [a1h,(a7d g).1 h];rfl
def b2F {p:c4} (g:Lev) {v:List UInt8} (h:v∈vwS p):a0a (lvl p g) v=g v:=by rw [a0a,(a7d g).1 h];rfl
def b5l {p:c4} (g:Lev) {v:List UInt8} (h:¬ v∈vwS p):a0a (lvl p g) v=-1:=by rw [a0a,(a7d g).2 h];rfl
def c1q {p:c4} (g:Lev) {v:List UInt8} (h:¬ v∈vwS p):a1h (lvl p g) v=0:=by rw [a1h,(a7d g).2 h];rfl
def lvl_idx {p:c4} {h:List UInt8} (hv:h∈vwS p):∃ m,m < (vwS p).length/\(vwS p).getD m []=h/\(∀ g,a2D (fun y:c9=>y.Name==h) (lvl p g)=(m:Int))/\(∀ g,(lvl p g).getD m default=⟨h,g h⟩)/\∀ g x,(lvl p g).set m ⟨h,x⟩=lvl p (upd g h x):=by
 obtain ⟨m,hm,e⟩:=List.getElem_of_mem hv;have e0:(vwS p).getD m []=h:=by rw [o8 [] hm,e]
 have hg:∀ g,(lvl p g).getD m default=⟨h,g h⟩:=fun g=>by rw [b5p p g hm,e0]
 refine ⟨m,hm,e0,fun g=>?_,hg,fun g x=>?_⟩
 ·refine s5 (d:=default) (by rw [a2k];exact hm) ?_ (by rw [hg];simp);rw [q2D];intro y hy;obtain ⟨j,hj,rfl⟩:=q2X.1 hy;have hj2:j < (vwS p).length:=by rw [a2k] at hj;omega
  have hne:(vwS p)[j]≠h:=fun e2=>by
   have:=(List.getElem_inj (a8q p)).1 (e2.trans e.symm);omega
  simpa [lvl] using hne
 ·have:=b8i p g hm x;rw [e0] at this;exact this
def b9Z {p:c4} (hd:∀ j,j < p.Decls.length->m8 p j=false):(vwN p).Nodup:=by
 have h1:(p.Decls.map d3.Name).Nodup:=by
  rw [List.nodup_iff_pairwise_ne,q4B,List.pairwise_iff_getElem];intro i j hi hj hij;have:=b1n hd hj (j:=i) hij;rw [o8 default hi,o8 default hj] at this;exact this
 exact h1.sublist (List.filter_sublist.map _)
def b3T {p:c4} (h:n8 p=true):(vwS p).length<=16:=by
 have h1:=a0L sLt (vwN p) [];have h2:=a7O (fun d:d3=>d.Kind==3) d3.Name p.Decls;simp only [n8,W3,V4] at h;simp only [q0T] at h1;rw [vwS];show _<=16;have h3:(vwN p).length<=p.Decls.length:=h2;omega
def b0R (l:List c9) (v:List UInt8):spZ 47 [(false,[a9H l]),(false,[.s v])] [] (.one (false,[.i .i64 (a1h l v)])):=by
 refine sy' Tryz.func47 (q' 4 [aK 0] (.seq (q' 7 [am 0,aN,aK 0] (.block 0 (.loop (q' 10 [ar 9 8] (.seq (.cond (.t 10) .skip (.exit 0)) (.seq (.block 1 (q' 11 [ai 2 7 9,aE 2,ax (w' 6 [.s,.i .i64]),aS 2 6 12] (q' 13 [aG 0 6,am 1,ao (.bin .eql (.t 14) (.t 15))] (.cond (.t 16) (q' 17 [aG 1 6,aV 4] .ret) .skip)))) (g' 19 [aA 9]))))))) (q' 4 [aK 0] .ret))) [.t 4] [] ?_;intro hb hE;simp only [go_sem];repeat' first|apply cj'|intro hc|exact om'|fail
 refine lq' false [1,7,8] [] [] (fun i:{i:Nat // i<=l.length/\(l.take i).any (fun d=>d.Name==v)=false}=>[(9,slV (.i .i64 i.1))]) nl' nl' (fun i=>l.length - i.1) (⟨0,by simp⟩) ?_;intro S0 hS0 i;obtain ⟨i,hi,ha⟩:=i;simp only [go_sem,hS0];repeat' first|apply cj'|intro hc|exact om'|fail
 ·rw [a1h,b3m (d:=default) (i:=i) (by omega) ha hc];rfl
 ·exact nx0 ⟨i+1,by omega,m9 (p:=fun d:c9=>d.Name==v) default (by omega) ha hc⟩
 ·rw [a1h,a4Q (by rwa [g9 (by omega)] at ha)];rfl
noncomputable def a4o:CT:=i8 (fun (x:(List c9)×(List UInt8))=>b0R x.1 x.2)
@[go_sem] def b7I:=fun l v=>nm' (fQ' a4o rfl (l,v))
def a9l (x:c9) (r:c6):spZ 45 [(true,[.s x.Name,.i .i64 x.N]),(false,[.p [.i .i64 r.Kind,.s r.Head.Name,l3 r.Head.Args,z9 r.Body]])] [] (.one (false,[.b (x.Name==r.Head.Name)])):=by
 refine sy' Tryz.func45 (q' 0 [ax (o' 2 (.box 2 (.t 0))),ab 3 false] (q' 4 [aG 0 2,af 1 1,aG 0 6,ao (.bin .eql (.t 5) (.t 8)),aV 3] .ret)) [.t 3] [] ?_;intro hb hE;simp only [go_sem];repeat' first|apply cj'|intro hc|exact om'|fail
 all_goals (first|rfl)
noncomputable def a3w:CT:=i8 (fun (x:c9×c6)=>a9l x.1 x.2)
@[go_sem] def b6I:=fun x0 x1 x2 x3 x4 x5=>nm' (fQ' a3w rfl (⟨x0,x1⟩,⟨x2,⟨x3,x4⟩,x5⟩))
def b3v (l:List c9) (r:c6):spZ 44 [(false,[a9H l]),(false,[.f 45 [.p [.i .i64 r.Kind,.s r.Head.Name,l3 r.Head.Args,z9 r.Body]]])] [] (.one (false,[.i .i64 (a2D (fun y:c9=>y.Name==r.Head.Name) l)])):=by
 refine sy' Tryz.func44 (q' 4 [aK 0] (.seq (q' 6 [am 0,aN,aK 0] (.block 0 (.loop (q' 9 [ar 8 7] (.seq (.cond (.t 9) .skip (.exit 0)) (.seq (.block 1 (q' 10 [am 8,aV 5] (q' 11 [aM [1,0,5],aI 2,aE 2,ao (.callv (.t 11) [.t 15])] (.cond (.t 16) (q' 17 [am 5,aV 4] .ret) .skip)))) (g' 18 [aA 8]))))))) (q' 4 [ao (.mov (.k (.v false [.c (.i .i64 (-1))])))] .ret))) [.t 4] [(45,[],a3w)] ?_;intro hb hE;simp only [go_sem];repeat' first|apply cj'|intro hc|exact om'|fail
 refine lq' false [0,1,7] [] [] (fun i:{i:Nat // i<=l.length/\(l.take i).any (fun y:c9=>y.Name==r.Head.Name)=false}=>[(8,slV (.i .i64 i.1))]) nl' nl' (fun i=>l.length - i.1) (⟨0,by simp⟩) ?_;intro S0 hS0 i;obtain ⟨i,hi,ha⟩:=i;simp only [go_sem,hS0];repeat' first|apply cj'|intro hc|exact om'|fail
 ·exact (s5 (p:=fun y:c9=>y.Name==r.Head.Name) (d:=default) (by omega) ha (by simpa [-List.getD_eq_getElem?_getD] using hc)).symm
 ·exact nx0 ⟨i+1,by omega,m9 (p:=fun y:c9=>y.Name==r.Head.Name) default (by omega) ha (by simpa [-List.getD_eq_getElem?_getD] using hc)⟩
 ·exact (s4 (by rwa [g9 (by omega)] at ha)).symm
noncomputable def a6w:CT:=i8 (fun (x:(List c9)×c6)=>b3v x.1 x.2)
@[go_sem] def c0d:=fun l x0 x1 x2 x3=>nm' (fQ' a6w rfl (l,⟨x0,⟨x1,x2⟩,x3⟩))
def b4O (l:List d3):List c9:=(l.filter fun d=>d.Kind==3).map fun d=>⟨d.Name,0⟩
def c1c (l:List d3):(b4O l).length<=l.length:=a7O _ _ _
def b9u {p:c4} (hd:∀ j,j < p.Decls.length->m8 p j=false):b3P (b4O p.Decls)=lvl p fun _=>0:=by
 have e:b4O p.Decls=(vwN p).map fun v=>(⟨v,0⟩:c9):=by rw [vwN,q3O];rfl
 rw [e,b5D (b9Z hd)];rfl
def a4R {p:c4} {g g3:Lev} {r:c6} {l:c7} {j:Nat} (hr:r∈p.Rules) (hv:r.Head.Name∈vwS p) (hl:l∈r.Body) (hk:l.Kind≠3) (hb:l.Atom.Name∈vwS p) (hL:Low p g3) (ho:∀ v∈vwS p,v≠r.Head.Name->g3 v<=(vwS p).length) (hh:g3 r.Head.Name<=(vwS p).length+j) (hj:j<=300) {x:Int} (hx:x=g3 l.Atom.Name+a3r l) (hlt:g3 r.Head.Name < x) (hM:a1j p g3<=a1j p g):
  Low p (upd g3 r.Head.Name x)/\(∀ v∈vwS p,v≠r.Head.Name->upd g3 r.Head.Name x v<=(vwS p).length)/\upd g3 r.Head.Name x r.Head.Name<=(vwS p).length+(j+1:Nat)/\a1j p (upd g3 r.Head.Name x) < a1j p g:=by
 have hn:a3r l<=1:=by unfold a3r;split<;>omega
 have hb2:g3 l.Atom.Name<=(vwS p).length+j:=by
  by_cases e:l.Atom.Name=r.Head.Name
  ·rw [e];exact hh
  ·have:=ho _ hb e;omega
 refine ⟨by rw [hx];exact hL.up hr hv hl hk hb,fun v hv2 hne=>?_, ?_, ?_⟩
 ·rw [upd,if_neg hne];exact ho v hv2 hne
 ·rw [upd,if_pos rfl];omega
 ·have:=lsum_lt (g:=g3) (n:=x) hv hlt (by omega);omega
def b2H {p:c4} {g:Lev} {h:List UInt8} {l:c7} (hk:(l.Kind==3)=true):a1i p g h l:=fun h=>absurd (by simpa using hk) h
def b2I {p:c4} {g:Lev} {h:List UInt8} {l:c7} (hk:¬ l.Atom.Name∈vwS p):a1i p g h l:=fun _ h=>absurd h hk
def b7m {p:c4} {g:Lev} {h:List UInt8} {l:c7} {x:Int} (hx:x=g l.Atom.Name+a3r l) (hn:¬ g h < x):a1i p g h l:=fun _ _=>by omega
def b1o {l:c7} (h:(l.Kind==2)=true):a3r l=1:=by rw [a3r,if_pos (by simpa using h)]
def b3L {l:c7} (h:(l.Kind==2)=false):a3r l=0:=by rw [a3r,if_neg (by simpa using h)]
def b1R (p:c4):spZ 11 [(true,[k6 p.Decls,j9 p.Rules])] [] (.tup [(false,[kTLevel ((o0 p).1)]),(false,[.b ((o0 p).2)])]):=by
 refine sy' Tryz.func11 (q' 1 [ao (.box 2 (.t 0)),ao (.mov (.k (.v false [.nl u3]))),ao (.mov (bb false))] (.seq (q' 14 [ae 2 1,ac 39 [14],ao (.not (.t 15))] (.cond (.t 16) (q' 0 [ax (o' 2 (.mov (.k (.v false [.nl u3])))),ab 3 false] .ret) .skip)) (q' 17 [ao (.bsl 2 0 [.s,.i .i64] []),aV 4] (.seq (q' 18 [aG 0 1,aN,aK 0] (.block 0 (.loop (q' 22 [ar 21 20] (.seq (.cond (.t 22) .skip (.exit 0)) (.seq (.block 1 (q' 23 [ai 3 19 21,aE 3,ax (w' 6 [.i .i64,.s,.i .i64]),aS 3 6 24] (q' 25 [aG 0 6,ao (.bin .eql (.t 26) (k' 3))] (.cond (.t 27) (g' 28 [am 4,aG 1 6,ao (.bld [.s,.i .i64] [(0,1,.t 30)]),ao (.bsl 2 1 [.s, .i .i64] [(0,.t 31)]),ao (.app 2 24 [.s,.i .i64] (.t 28) (.t 32)),aV 4]) .skip)))) (g' 34 [aA 21]))))))) (q' 35 [am 4,ao (.call 40 [.t 35,.k (.v false [.c (.f 41 [])])])] (.seq (q' 0 [ab 7 true] (.block 2 (.loop (.seq (q' 37 [am 7] (.cond (.t 37) .skip (.exit 2))) (.block 3 (q' 0 [ab 7 false] (q' 38 [aG 1 1,aN,aK 0] (.block 4 (.loop (q' 42 [ar 41 40] (.seq (.cond (.t 42) .skip (.exit 4)) (.seq (.block 5 (q' 43 [ai 4 39 41,aE 4,ax (w' 9 [.i .i64,.s,.sl j6,.sl a3h]),aS 4 9 44] (.seq (q' 45 [ae 2 1,ae 4 9,ac 43 [45,46],ao (.not (.t 47))] (.cond (.t 48) (.exit 5) .skip)) (q' 49 [am 4,ao (.mf 45 [.t 9]),ac 44 [49,50],aV 10] (.seq (q' 52 [aG 3 9,aN,aK 0] (.block 6 (.loop (q' 56 [ar 55 54] (.seq (.cond (.t 56) .skip (.exit 6)) (.seq (.block 7 (q' 57 [ai 10 53 55,aE 10,ax (w' 12 [.i .i64,.s, .sl j6,.i .i64,.s,.i .i64,.s,.s,.i .i64,.s]),aS 10 12 58] (.seq (q' 59 [aG 0 12,ao (.bin .eql (.t 60) (k' 3)),am 61,au (.ld true 2 (.t 1)) 62 false,au (.fa 1 (.t 12)) 62 false,au (.fa 0 (.t 64)) 62 false,au (.ld false 1 (.t 65)) 62 false,au (.call 46 [.t 63,.t 66]) 62 false,au (.bin .neq (.t 67) (k' 3)) 62 false,ao (.pick (.t 62) (bb true) (.t 68))] (.cond (.t 69) (.exit 7) .skip)) (q' 70 [am 4,af 1 12,aG 0 71,ac 47 [70,73],aV 13] (.seq (q' 75 [aG 0 12,ao (.bin .eql (.t 76) (k' 2))] (.cond (.t 77) (g' 78 [aB 13]) .skip)) (q' 80 [aM [4,10],aI 2,aG 1 82,am 13,ar 84 85] (.cond (.t 86) (q' 87 [aM [4,10,13],ai 2 87 88,aF 1,aS 1 91 89] (g' 0 [ab 7 true])) .skip))))))) (g' 92 [aA 55]))))))) (q' 93 [aM [4,10],aI 2,aG 1 95,am 4,aN,ao (.bin .gtr (.t 97) (.t 99))] (.cond (.t 100) (q' 0 [ax (o' 2 (.mov (.k (.v false [.nl u3])))),ab 3 false] .ret) .skip))))))) (g' 101 [aA 41]))))))))))))) (q' 102 [am 4,aV 2,ab 3 true] .ret))))))) [.t 2,.t 3] [(39,[],a0D),(40,[0],b2w),(43,[],a0C),(44,[],a6w),(46,[],u4),(47,[],a4o)] ?_;intro hb hE;simp only [go_sem];repeat' first|apply cj'|intro hc|exact om'|fail
 ·rw [o0,hc];exact ⟨rfl,rfl⟩
 have hN:((f9 p).1==0)=true:=hc;have hok:=b1m (by simpa using hN);obtain ⟨hB,hD,hRb⟩:=hok;have hdl:p.Decls.length<=16:=by
  have:=hB;simp only [n8,W3,V4] at this;omega
 have hvl:=b3T hB;clear hc;refine lk' false [(false,4,0,100008)] [1,19,20] [2] [] (fun i:{i:Nat // i<=p.Decls.length}=>[(4,.v false [.ow 100008]),(21,slV (.i .i64 i.1))]) nl' (fun i=>[(100008,u3,(b4O (p.Decls.take i.1)).map c9.cells)]) (fun i=>p.Decls.length - i.1) (⟨0,by simp⟩) ?_;intro S0 hS0 i;obtain ⟨i,hi⟩:=i;have hl:=c1c (p.Decls.take i);rw [q0K] at hl;simp only [go_sem,hS0];repeat' first|apply cj'|intro hc|exact om'|fail
 ·(refine lpK_n2 (⟨i+1,by omega⟩) _ (by simp only [go_sem];try rfl) ?_;simp only [go_sem,hS0]<;>repeat' first|apply V0|exact on'|fail)
  rw [show b4O (p.Decls.take (i+1))=b4O (p.Decls.take i)++[⟨(p.Decls.getD i default).Name,0⟩] from a5J (p:=fun d:d3=>d.Kind==3) (fun d:d3=>(⟨d.Name,0⟩:c9)) default (by omega) hc];first|done|(rw [q0Y];rfl)|trace_state
 ·(refine lpK_n2 (⟨i+1,by omega⟩) _ (by simp only [go_sem];try rfl) ?_;simp only [go_sem,hS0]<;>repeat' first|apply V0|exact on'|fail)
  rw [show b4O (p.Decls.take (i+1))=b4O (p.Decls.take i) from b0F (p:=fun d:d3=>d.Kind==3) (fun d:d3=>(⟨d.Name,0⟩:c9)) default (by omega) hc]
 rw [g9 (by omega),b9u hD];clear hc hl hi;refine lq' false [1,4] [2] [] (fun i:{q:Bool×Lev // Low p q.2/\(∀ v∈vwS p,q.2 v<=(vwS p).length)/\(q.1=false->Fx p q.2)}=>[(7,slV (.b i.1.1))]) nl' (fun i=>[(100008,u3,(lvl p i.1.2).map c9.cells)]) (fun i=>2 * a1j p i.1.2+(bif i.1.1 then 1 else 0)) (⟨(true,fun _=>0),Low.zero p,fun v _=>by simp only;omega,by intro h;cases h⟩) ?_;intro S1 hS1 i;obtain ⟨⟨ag,g⟩,hL,hle,hF⟩:=i;simp only at hL hle hF;simp only [go_sem,hS0,hS1];repeat' first|apply cj'|intro hc|exact om'|fail
 ·have hag:=hc;clear hc;refine lq' false [1,4,39,40] [2] [] (fun i:{q:Nat×Bool×Lev // q.1<=p.Rules.length/\Low p q.2.2/\(∀ v∈vwS p,q.2.2 v<=(vwS p).length)/\(q.2.1=false->q.2.2=g/\∀ r∈p.Rules.take q.1,t7 p g r)/\(q.2.1=true->a1j p q.2.2 < a1j p g)}=>[(7,slV (.b i.1.2.1)),(41,slV (.i .i64 i.1.1))]) nl' (fun i=>[(100008,u3,(lvl p i.1.2.2).map c9.cells)]) (fun i=>p.Rules.length - i.1.1) (⟨(0,false,g),by simp,hL,hle,fun _=>⟨rfl,by simp⟩,by intro h;cases h⟩) ?_;intro S2 hS2 i;obtain ⟨⟨n,ag2,g2⟩,hn,hL2,hle2,hF2,hM2⟩:=i;simp only at hn hL2 hle2 hF2 hM2;simp only [go_sem,hS0,hS1,hS2];repeat' first|apply cj'|intro hc|exact om'|fail
  ·have h3:ag2=false->g2=g/\∀ r∈p.Rules.take (n+1),t7 p g r:=fun h=>by
    refine ⟨(hF2 h).1,fun r hr=>?_⟩;rw [i6 default (by omega),W5,V3] at hr;rcases hr with hr|rfl
    ·exact (hF2 h).2 r hr
    ·intro hv;have hk3:=(a0v hD).2 hv;have hk1:=b7i hRb (by omega) hk3;rw [hk1,hk3] at hc;exact absurd hc (by decide)
   (refine lpK_n2 (⟨(n+1,ag2,g2),by simp only;omega,hL2,hle2,h3,hM2⟩) _ rfl ?_;simp only [go_sem,hS0,hS1,hS2]<;>repeat' first|apply V0|exact on'|fail)
  ·have hk:=hc;have hnl:n < p.Rules.length:=by omega
   clear hc;have hb8:=a6s hB hnl;have hv:(p.Rules.getD n default).Head.Name∈vwS p:=(a0v hD).1 (by simpa using hk.2);obtain ⟨m,hm,hme,hix,hgm,hsm⟩:=lvl_idx hv;have hll:=a2k p;refine lq' false [1,4,10,39,40,41,53,54] [2] [] (fun i:{q:Nat×Bool×Lev // q.1<=(p.Rules.getD n default).Body.length/\Low p q.2.2/\(∀ v∈vwS p,v≠(p.Rules.getD n default).Head.Name->q.2.2 v<=(vwS p).length)/\q.2.2 (p.Rules.getD n default).Head.Name<=(vwS p).length+(q.1:Nat)/\(q.2.1=false->q.2.2=g/\(∀ r∈p.Rules.take n,t7 p g r)/\∀ l∈(p.Rules.getD n default).Body.take q.1,a1i p g (p.Rules.getD n default).Head.Name l)/\(q.2.1=true->a1j p q.2.2 < a1j p g)}=>[(7,slV (.b i.1.2.1)),(55,slV (.i .i64 i.1.1))]) nl' (fun i=>[(100008,u3,(lvl p i.1.2.2).map c9.cells)]) (fun i=>(p.Rules.getD n default).Body.length - i.1.1) (⟨(0,ag2,g2),by simp,hL2,fun v hv2 _=>hle2 v hv2,by simp only;have:=hle2 _ hv;omega,fun h=>⟨(hF2 h).1,(hF2 h).2,by simp⟩,hM2⟩) ?_;intro S3 hS3 i;obtain ⟨⟨j,ag3,g3⟩,hj,hL3,ho3,hh3,hF3,hM3⟩:=i;simp only at hj hL3 ho3 hh3 hF3 hM3;have hLb:∀ v,0<=a1h (lvl p g3) v/\a1h (lvl p g3) v<=40:=fun v=>by
    by_cases e:v∈vwS p
    ·rw [a2Z g3 e];refine ⟨hL3.ge v, ?_⟩;by_cases e2:v=(p.Rules.getD n default).Head.Name
     ·rw [e2];omega
     ·have:=ho3 v e e2;omega
    ·rw [c1q g3 e];omega
   have hw:∀ v,IntKind.i64.wrap (a1h (lvl p g3) v+1)=a1h (lvl p g3) v+1:=fun v=>by have:=hLb v;exact w64 (by omega) (by omega) (by omega)
   simp only [go_sem,hS0,hS1,hS2,hix,hgm,hsm,hll,hS3,hw];repeat' first|apply cj'|intro hc|exact om'|fail
   ·have h3:ag3=false->g3=g/\(∀ r∈p.Rules.take n,t7 p g r)/\∀ l∈(p.Rules.getD n default).Body.take (j+1),a1i p g (p.Rules.getD n default).Head.Name l:=fun h=>by
     refine ⟨(hF3 h).1,(hF3 h).2.1,fun l hl=>?_⟩;rw [i6 default (by omega),W5,V3] at hl;rcases hl with hl|rfl
     ·exact (hF3 h).2.2 l hl
     ·rcases hc with hc|hc
      ·exact b2H hc
      ·refine b2I fun hv3=>?_
       rw [(a0v hD).2 hv3] at hc;exact absurd hc (by decide)
    (refine lpK_n2 (⟨(j+1,ag3,g3),by simp only;omega,hL3,ho3,by simp only;omega,h3,hM3⟩) _ rfl ?_;simp only [go_sem,hS0,hS1,hS2,hix,hgm,hsm,hll,hS3,hw]<;>repeat' first|apply V0|exact on'|fail)
   ·have hq:(((p.Rules.getD n default).Body.getD j default).Kind==3)=false/\(u7 p ((p.Rules.getD n default).Body.getD j default).Atom.Name != 3)=false:=by assumption
    have hq2:(((p.Rules.getD n default).Body.getD j default).Kind==2)=true:=by assumption
    have hvv:((p.Rules.getD n default).Body.getD j default).Atom.Name∈vwS p:=(a0v hD).1 (by simpa [bne] using hq.2);have hjl:j < (p.Rules.getD n default).Body.length:=by omega
    have hrm:p.Rules.getD n default∈p.Rules:=A3w hnl;have hlm:((p.Rules.getD n default).Body.getD j default)∈(p.Rules.getD n default).Body:=A3w hjl;have hkk:((p.Rules.getD n default).Body.getD j default).Kind≠3:=fun e=>by have:=hq.1;rw [e] at this;exact absurd this (by decide)
    have e:a1h (lvl p g3) ((p.Rules.getD n default).Body.getD j default).Atom.Name+1=g3 ((p.Rules.getD n default).Body.getD j default).Atom.Name+a3r ((p.Rules.getD n default).Body.getD j default):=by rw [a2Z g3 hvv,b1o hq2]
    have hMM:a1j p g3<=a1j p g:=by
     cases hag3:ag3 with
     | true=>exact Nat.le_of_lt (hM3 hag3)
     | false=>rw [(hF3 hag3).1];exact q0A _
    have R:=a4R hrm hv hlm hkk hvv hL3 ho3 hh3 (by omega) e hc hMM
    (refine lpK_n2 (⟨(j+1,true,upd g3 (p.Rules.getD n default).Head.Name (a1h (lvl p g3) ((p.Rules.getD n default).Body.getD j default).Atom.Name+1)),by simp only;omega,R.1,R.2.1,R.2.2.1,fun h=>(by cases h),fun _=>R.2.2.2⟩) _ rfl ?_;simp only [go_sem,hS0,hS1,hS2,hix,hgm,hsm,hll,hS3,hw]<;>repeat' first|apply V0|exact on'|fail)
   ·have hq:(((p.Rules.getD n default).Body.getD j default).Kind==3)=false/\(u7 p ((p.Rules.getD n default).Body.getD j default).Atom.Name != 3)=false:=by assumption
    have hq2:(((p.Rules.getD n default).Body.getD j default).Kind==2)=true:=by assumption
    have hvv:((p.Rules.getD n default).Body.getD j default).Atom.Name∈vwS p:=(a0v hD).1 (by simpa [bne] using hq.2);have hjl:j < (p.Rules.getD n default).Body.length:=by omega
    have hrm:p.Rules.getD n default∈p.Rules:=A3w hnl;have hlm:((p.Rules.getD n default).Body.getD j default)∈(p.Rules.getD n default).Body:=A3w hjl;have e:a1h (lvl p g3) ((p.Rules.getD n default).Body.getD j default).Atom.Name+1=g3 ((p.Rules.getD n default).Body.getD j default).Atom.Name+a3r ((p.Rules.getD n default).Body.getD j default):=by rw [a2Z g3 hvv,b1o hq2]
    have h3:ag3=false->g3=g/\(∀ r∈p.Rules.take n,t7 p g r)/\∀ l∈(p.Rules.getD n default).Body.take (j+1),a1i p g (p.Rules.getD n default).Head.Name l:=fun h=>by
     refine ⟨(hF3 h).1,(hF3 h).2.1,fun l hl=>?_⟩;rw [i6 default (by omega),W5,V3] at hl;rcases hl with hl|rfl
     ·exact (hF3 h).2.2 l hl
     ·have:=(hF3 h).1;rw [<- this];exact b7m e hc
    (refine lpK_n2 (⟨(j+1,ag3,g3),by simp only;omega,hL3,ho3,by simp only;omega,h3,hM3⟩) _ rfl ?_;simp only [go_sem,hS0,hS1,hS2,hix,hgm,hsm,hll,hS3,hw]<;>repeat' first|apply V0|exact on'|fail)
   ·have hq:(((p.Rules.getD n default).Body.getD j default).Kind==3)=false/\(u7 p ((p.Rules.getD n default).Body.getD j default).Atom.Name != 3)=false:=by assumption
    have hq2:(((p.Rules.getD n default).Body.getD j default).Kind==2)=false:=by assumption
    have hvv:((p.Rules.getD n default).Body.getD j default).Atom.Name∈vwS p:=(a0v hD).1 (by simpa [bne] using hq.2);have hjl:j < (p.Rules.getD n default).Body.length:=by omega
    have hrm:p.Rules.getD n default∈p.Rules:=A3w hnl;have hlm:((p.Rules.getD n default).Body.getD j default)∈(p.Rules.getD n default).Body:=A3w hjl;have hkk:((p.Rules.getD n default).Body.getD j default).Kind≠3:=fun e=>by have:=hq.1;rw [e] at this;exact absurd this (by decide)
    have e:a1h (lvl p g3) ((p.Rules.getD n default).Body.getD j default).Atom.Name=g3 ((p.Rules.getD n default).Body.getD j default).Atom.Name+a3r ((p.Rules.getD n default).Body.getD j default):=by rw [a2Z g3 hvv,b3L hq2];omega
    have hMM:a1j p g3<=a1j p g:=by
     cases hag3:ag3 with
     | true=>exact Nat.le_of_lt (hM3 hag3)
     | false=>rw [(hF3 hag3).1];exact q0A _
    have R:=a4R hrm hv hlm hkk hvv hL3 ho3 hh3 (by omega) e hc hMM
    (refine lpK_n2 (⟨(j+1,true,upd g3 (p.Rules.getD n default).Head.Name (a1h (lvl p g3) ((p.Rules.getD n default).Body.getD j default).Atom.Name)),by simp only;omega,R.1,R.2.1,R.2.2.1,fun h=>(by cases h),fun _=>R.2.2.2⟩) _ rfl ?_;simp only [go_sem,hS0,hS1,hS2,hix,hgm,hsm,hll,hS3,hw]<;>repeat' first|apply V0|exact on'|fail)
   ·have hq:(((p.Rules.getD n default).Body.getD j default).Kind==3)=false/\(u7 p ((p.Rules.getD n default).Body.getD j default).Atom.Name != 3)=false:=by assumption
    have hq2:(((p.Rules.getD n default).Body.getD j default).Kind==2)=false:=by assumption
    have hvv:((p.Rules.getD n default).Body.getD j default).Atom.Name∈vwS p:=(a0v hD).1 (by simpa [bne] using hq.2);have hjl:j < (p.Rules.getD n default).Body.length:=by omega
    have hrm:p.Rules.getD n default∈p.Rules:=A3w hnl;have hlm:((p.Rules.getD n default).Body.getD j default)∈(p.Rules.getD n default).Body:=A3w hjl;have e:a1h (lvl p g3) ((p.Rules.getD n default).Body.getD j default).Atom.Name=g3 ((p.Rules.getD n default).Body.getD j default).Atom.Name+a3r ((p.Rules.getD n default).Body.getD j default):=by rw [a2Z g3 hvv,b3L hq2];omega
    have h3:ag3=false->g3=g/\(∀ r∈p.Rules.take n,t7 p g r)/\∀ l∈(p.Rules.getD n default).Body.take (j+1),a1i p g (p.Rules.getD n default).Head.Name l:=fun h=>by
     refine ⟨(hF3 h).1,(hF3 h).2.1,fun l hl=>?_⟩;rw [i6 default (by omega),W5,V3] at hl;rcases hl with hl|rfl
     ·exact (hF3 h).2.2 l hl
     ·have:=(hF3 h).1;rw [<- this];exact b7m e hc
    (refine lpK_n2 (⟨(j+1,ag3,g3),by simp only;omega,hL3,ho3,by simp only;omega,h3,hM3⟩) _ rfl ?_;simp only [go_sem,hS0,hS1,hS2,hix,hgm,hsm,hll,hS3,hw]<;>repeat' first|apply V0|exact on'|fail)
   ·rw [b2G hL3 hv hc];exact ⟨rfl,rfl⟩
   ·have h1:∀ v∈vwS p,g3 v<=(vwS p).length:=fun v hv2=>by
     by_cases e:v=(p.Rules.getD n default).Head.Name
     ·rw [e];omega
     ·exact ho3 v hv2 e
    have h3:ag3=false->g3=g/\∀ r∈p.Rules.take (n+1),t7 p g r:=fun h=>by
     refine ⟨(hF3 h).1,fun r hr=>?_⟩;rw [i6 default (by omega),W5,V3] at hr;rcases hr with hr|rfl
     ·exact (hF3 h).2.1 r hr
     ·intro _ l hl;refine (hF3 h).2.2 l ?_;rw [g9 (by omega)];exact hl
    (refine lpK_n2 (⟨(n+1,ag3,g3),by simp only;omega,hL3,h1,h3,hM3⟩) _ rfl ?_;simp only [go_sem,hS0,hS1,hS2,hix,hgm,hsm,hll,hS3,hw]<;>repeat' first|apply V0|exact on'|fail)
  ·have h3:ag2=false->Fx p g2:=fun h=>by
    have h5:=hF2 h;rw [g9 (by omega)] at h5;rw [h5.1];exact h5.2
   have hmm:ag2=false->g2=g:=fun h=>(hF2 h).1
   (refine lpK_n2 (⟨(ag2,g2),hL2,hle2,h3⟩) _ rfl ?_;simp only [go_sem,hS0,hS1,hS2]<;>repeat' first|apply V0|exact on'|fail)
   cases hag2:ag2 with
   | false=>rw [hmm hag2,hag];simp only [W7,W8];omega
   | true=>have:=hM2 hag2;rw [hag];simp only [W7];omega
 ·rw [a5P hN ⟨hF hc,hL,hle⟩];exact ⟨rfl,rfl⟩
noncomputable def a2t:CT:=i8 (fun (x:c4)=>b1R x)
@[go_sem] def b8Y:=fun x0 x1=>nm' (fQ' a2t rfl ⟨x0,x1⟩)
def a1T (p:c4) (k:Int):List d3:=p.Decls.filter fun d=>d.Kind==k
@[go_sem] def l12Set_nil (l:List d5) (n:List UInt8) (a:Int):a2B [(true,[a3p l]),(false,[.s n]),(true,[.i .i64 a,.sl false a0Q []])]=some (((∀ x∈l,x.Rel.Rows=[])/\True)/\l.length<=1000,[],.one (true,[a3p (a8o l n ⟨n,⟨a,[]⟩⟩)])):=by
 have h:=a7K l n a [];simpa using h
def b4S (l:List d3) (d:d3):u5 (l++[d])=a8o (u5 l) d.Name ⟨d.Name,⟨d.Arity,[]⟩⟩:=by rw [u5,q3B];rfl
@[go_sem] def emptyN_nil:u5 []=[]:=rfl
def a9z (p:c4) (k:Int) (hpre:p.Decls.length<=16):spZ 48 [(true,[k6 p.Decls,j9 p.Rules]),(false,[.i .i64 k])] [] (.one (true,[a3p ((⟨u5 (a1T p k)⟩:f5).Rels)])):=by
 refine sx' false true none Tryz.func48 (q' 2 [ao (.box 2 (.t 0)),ax (w' 4 [.sl a1b])] (q' 5 [ax (o' 8 (.bld [.sl a1b] [])),aw [.sl a1b],aS 1 5 8] (.seq (q' 9 [aG 0 2,aN,aK 0] (.block 0 (.loop (q' 13 [ar 12 11] (.seq (.cond (.t 13) .skip (.exit 0)) (.seq (.block 1 (q' 14 [ai 3 10 12,aE 3,ax (w' 7 [.i .i64,.s,.i .i64]),aS 3 7 15] (q' 16 [aG 0 7,am 1,ao (.bin .eql (.t 17) (.t 18))] (.cond (.t 19) (g' 20 [ae 1 5,aG 1 7,aG 2 7,ao (.bld [.i .i64,.sl a0Q] [(0,1,.t 24)]),ac 105 [20,22,25],aS 1 5 26]) .skip)))) (g' 27 [aA 12]))))))) (q' 28 [ae 1 5,aS 1 4 28] .ret)))) [.c 4 true 1] [(105,[],a2B)] ?_;intro hb hE;simp only [go_sem];repeat' first|apply cj'|intro hc|exact om'|fail
 refine aw_keys false [(true,10,0,200020)] ?_;refine a5I 200020 ?_;refine lq' false [1,4,5,10,11] [8] [] (fun i:{i:Nat // i<=p.Decls.length}=>[(12,slV (.i .i64 i.1))]) (fun i=>[(10,[.c (a3p (u5 ((p.Decls.take i.1).filter fun d=>d.Kind==k)))])]) nl' (fun i=>p.Decls.length - i.1) (⟨0,by simp⟩) ?_;intro S0 hS0 i;obtain ⟨i,hi⟩:=i;have h1:=b0B ((p.Decls.take i).filter fun d=>d.Kind==k);have h2:=q1W (fun d:d3=>d.Kind==k) (p.Decls.take i);have h3:=b4R ((p.Decls.take i).filter fun d=>d.Kind==k);rw [q0K] at h2;simp only [go_sem,hS0];repeat' first|apply cj'|intro hc|exact om'|fail
 all_goals first
  | omega
  | exact h3
  | exact ⟨h3,by omega⟩
  | ((refine lpK_n2 (⟨i+1,by omega⟩) _ rfl ?_;simp only [go_sem,hS0]<;>repeat' first|apply V0|exact on'|fail);rw [f_yes (p:=fun d:d3=>d.Kind==k) default (by omega) hc,b4S];done)
  | ((refine lpK_n2 (⟨i+1,by omega⟩) _ rfl ?_;simp only [go_sem,hS0]<;>repeat' first|apply V0|exact on'|fail);rw [f_no (p:=fun d:d3=>d.Kind==k) default (by omega) hc];done)
  | (rw [g9 (by omega)];rfl)
  | trace_state
noncomputable def a1n:CT:=u6 (fun (x:c4×Int) h=>a9z x.1 x.2 h)
@[go_sem] def b6W:=fun x0 x1 k=>nm' (fP' a1n rfl (⟨x0,x1⟩,k))
def b3G (l:List c9) (v:List UInt8):spZ 100 [(false,[a9H l]),(false,[.s v])] [] (.one (false,[.i .i64 (a0a l v)])):=by
 refine sy' Tryz.func100 (q' 4 [aK 0] (.seq (q' 6 [am 0,aN,aK 0] (.block 0 (.loop (q' 9 [ar 8 7] (.seq (.cond (.t 9) .skip (.exit 0)) (.seq (.block 1 (q' 10 [am 8,aV 5] (q' 11 [aM [0,5],aI 2,aG 0 13,am 1,ao (.bin .eql (.t 15) (.t 16))] (.cond (.t 17) (q' 18 [aM [0,5],aI 2,aG 1 20,aV 4] .ret) .skip)))) (g' 23 [aA 8]))))))) (q' 4 [ao (.mov (.k (.v false [.c (.i .i64 (-1))])))] .ret))) [.t 4] [] ?_;intro hb hE;simp only [go_sem];repeat' first|apply cj'|intro hc|exact om'|fail
 refine lq' false [0,1,7] [] [] (fun i:{i:Nat // i<=l.length/\(l.take i).any (fun d=>d.Name==v)=false}=>[(8,slV (.i .i64 i.1))]) nl' nl' (fun i=>l.length - i.1) (⟨0,by simp⟩) ?_;intro S0 hS0 i;obtain ⟨i,hi,ha⟩:=i;simp only [go_sem,hS0];repeat' first|apply cj'|intro hc|exact om'|fail
 ·rw [a0a,b3m (d:=default) (i:=i) (by omega) ha hc];rfl
 ·exact nx0 ⟨i+1,by omega,m9 (p:=fun d:c9=>d.Name==v) default (by omega) ha hc⟩
 ·rw [a0a,a4Q (by rwa [g9 (by omega)] at ha)];rfl
noncomputable def a6G:CT:=i8 (fun (x:(List c9)×(List UInt8))=>b3G x.1 x.2)
@[go_sem] def c0o:=fun l v=>nm' (fQ' a6G rfl (l,v))
def b5w (l:List d5):List c9:=l.map fun x=>⟨x.Name,0⟩
def b5x (p:c4):b5w (u5 (a1T p 3))=lvl p fun _=>0:=by
 have h:=a6K (a1T p 3);have e:b5w (u5 (a1T p 3))=((u5 (a1T p 3)).map d5.Name).map fun v=>(⟨v,0⟩:c9):=by rw [q3O];rfl
 rw [e,h];rfl
def b9F (p:c4) (k:Int):(u5 (a1T p k)).length<=p.Decls.length:=by
 have h1:=b0B (a1T p k);have h2:=q1W (fun d:d3=>d.Kind==k) p.Decls;exact q1F h1 h2
def vw_at {p:c4} {n:Nat} (hn:n < (vwS p).length):(vwS p).getD n []∈vwS p/\(∀ g,(lvl p g).getD n default=⟨(vwS p).getD n [],g ((vwS p).getD n [])⟩)/\∀ g x,(lvl p g).set n ⟨(vwS p).getD n [],x⟩=lvl p (upd g ((vwS p).getD n []) x):=
 ⟨A3w hn,fun g=>b5p p g hn,fun g x=>b8i p g hn x⟩
def b3J {p:c4} {g:Lev} {l:c7} {x:Int} (h0:∀ v,0<=g v) (hx:((l.Kind==2&&decide (0<=a0a (lvl p g) l.Atom.Name))=true/\x=a0a (lvl p g) l.Atom.Name+1)\/((l.Kind==2&&decide (0<=a0a (lvl p g) l.Atom.Name))=false/\x=a0a (lvl p g) l.Atom.Name)):(l.Atom.Name∈vwS p/\x=g l.Atom.Name+a3r l)\/(¬ l.Atom.Name∈vwS p/\x=-1):=by
 by_cases e:l.Atom.Name∈vwS p
 ·refine .inl ⟨e, ?_⟩;rw [b2F g e,V5 (h0 l.Atom.Name),q1A] at hx;rcases hx with ⟨h1,h2⟩|⟨h1,h2⟩
  ·rw [b1o h1];exact h2
  ·rw [b3L h1];omega
 ·refine .inr ⟨e, ?_⟩;rw [b5l g e,show decide ((0:Int)<=-1)=false from rfl,q2V] at hx;rcases hx with ⟨h1,h2⟩|⟨h1,h2⟩
  ·cases h1
  ·exact h2
def b5m {p:c4} {g:Lev} {h:List UInt8} {l:c7} {x:Int} (h0:∀ v,0<=g v) (hx:((l.Kind==2&&decide (0<=a0a (lvl p g) l.Atom.Name))=true/\x=a0a (lvl p g) l.Atom.Name+1)\/((l.Kind==2&&decide (0<=a0a (lvl p g) l.Atom.Name))=false/\x=a0a (lvl p g) l.Atom.Name)) (hc:(l.Kind != 3&&decide (g h < x))=false):a1i p g h l:=by
 by_cases hk:(l.Kind==3)=true
 ·exact b2H hk
 ·have hn:¬ g h < x:=by
   rw [bne,(by simpa using hk:(l.Kind==3)=false),Bool.not_false,q0J] at hc;exact of_decide_eq_false hc
  rcases b3J h0 hx with ⟨h1,h2⟩|⟨h1,h2⟩
  ·exact b7m h2 hn
  ·exact b2I h1
def b5n {p:c4} {g:Lev} {h:List UInt8} {b:List c7} {j:Nat} (hj:j < b.length) (h1:∀ l∈b.take j,a1i p g h l) (h2:a1i p g h (b.getD j default)):∀ l∈b.take (j+1),a1i p g h l:=fun l hl=>by
 rw [i6 default hj,W5,V3] at hl;rcases hl with hl|rfl
 ·exact h1 l hl
 ·exact h2
def b2c (p:c4):spZ 38 [(true,[k6 p.Decls,j9 p.Rules])] [] (.tup [(false,[a9H ((o0 p).1)]),(false,[.b ((o0 p).2)])]):=by
 refine sx' false true none Tryz.func38 (q' 1 [ao (.box 2 (.t 0)),ao (.mov (.k (.v false [.nl u3]))),ao (.mov (bb false))] (q' 16 [ae 2 1,ac 36 [16],aV 15,ao (.ext (.t 15) 0),ao (.ext (.t 15) 1),av 4 18,aV 5] (.seq (q' 20 [am 4,ao (.bin .neq (.t 20) (k' 0))] (.cond (.t 21) (q' 0 [ax (o' 2 (.mov (.k (.v false [.nl u3])))),ab 3 false] .ret) .skip)) (q' 22 [ao (.bsl 2 0 [.s,.i .i64] []),aV 6] (.seq (q' 23 [ae 2 1,ao (.call 48 [.t 23,.k (.v false [.c (.i .i64 3)])]),ao (.fl false 0 1 (.t 24)),aN,aK 0] (.block 0 (.loop (q' 28 [ar 27 26] (.seq (.cond (.t 28) .skip (.exit 0)) (.seq (.block 1 (q' 29 [ai 3 25 27,aE 3,ax (w' 8 [.s,.i .i64, .sl a0Q]),aS 3 8 30] (g' 31 [am 6,aG 0 8,ao (.bld [.s,.i .i64] [(0,1,.t 33)]),ao (.bsl 2 1 [.s,.i .i64] [(0,.t 34)]),ao (.app 2 24 [.s,.i .i64] (.t 31) (.t 35)),aV 6]))) (g' 37 [aA 27]))))))) (.seq (q' 0 [ab 9 true] (.block 2 (.loop (.seq (q' 38 [am 9] (.cond (.t 38) .skip (.exit 2))) (.block 3 (q' 0 [ab 9 false] (q' 39 [am 6,aN,aK 0] (.block 4 (.loop (q' 42 [ar 41 40] (.seq (.cond (.t 42) .skip (.exit 4)) (.seq (.block 5 (q' 43 [am 41,aV 10] (.seq (q' 44 [aG 1 1,aN,aK 0] (.block 6 (.loop (q' 48 [ar 47 46] (.seq (.cond (.t 48) .skip (.exit 6)) (.seq (.block 7 (q' 49 [am 47,aV 11] (q' 50 [aG 1 1,am 11,aI 4,aE 4,ax (w' 12 [.i .i64,.s,.sl j6,.sl a3h]),aS 4 12 54] (.seq (.seq (G' 55 [af 1 12,aG 0 55,aM [6,10],aI 2,aG 0 60,ao (.bin .neq (.t 57) (.t 62))]) (.cond (.t 63) (.exit 7) .skip)) (q' 64 [aG 3 12,aN,aK 0] (.block 8 (.loop (q' 68 [ar 67 66] (.seq (.cond (.t 68) .skip (.exit 8)) (.seq (.block 9 (q' 69 [am 67,aV 13] (q' 70 [am 6,aG 3 12,am 13,aI 10,aF 1,aG 0 75,ac 100 [70,77],aV 14] (.seq (q' 79 [aG 3 12,am 13,aI 10,aG 0 82,ao (.bin .eql (.t 84) (k' 2)),am 85,au (.mov (.t 14)) 86 true,au (.bin .geq (.t 87) (k' 0)) 86 true,ao (.pick (.t 86) (.t 88) (bb false))] (.cond (.t 89) (g' 90 [aB 14]) .skip)) (q' 92 [aG 3 12,am 13,aI 10,aG 0 95,ao (.bin .neq (.t 97) (k' 3)),am 98,au (.mov (.t 14)) 99 true,au (.mov (.t 6)) 99 true,au (.mov (.t 10)) 99 true,au (.ia 2 (.t 101) (.t 102)) 99 true,au (.fa 1 (.t 103)) 99 true,au (.ld false 1 (.t 104)) 99 true,au (.bin .gtr (.t 100) (.t 105)) 99 true,ao (.pick (.t 99) (.t 106) (bb false))] (.cond (.t 107) (q' 108 [aM [6,10,14],ai 2 108 109,aF 1,aS 1 112 110] (g' 0 [ab 9 true])) .skip)))))) (g' 113 [aA 67]))))))))))) (g' 114 [aA 47]))))))) (q' 115 [aM [6,10],aI 2,aG 1 117,am 6,aN,ao (.bin .gtr (.t 119) (.t 121))] (.cond (.t 122) (q' 0 [ax (o' 2 (.mov (.k (.v false [.nl u3])))),ab 3 false] .ret) .skip))))) (g' 123 [aA 41]))))))))))))) (q' 124 [am 6,aV 2,ab 3 true] .ret))))))) [.t 2,.t 3] [(36,[],z6),(48,[],a1n),(100,[],a6G)] ?_;intro hb hE;simp only [go_sem];repeat' first|apply cj'|intro hc|exact om'|fail
 ·rw [o0,show ((f9 p).1==0)=false by simpa [bne] using hc];exact ⟨rfl,rfl⟩
 ·have hB:=a1U (p:=p) (by simpa [bne] using hc);simp only [n8,W3,V4] at hB;omega
 have hN:((f9 p).1==0)=true:=by simpa [bne] using hc
 obtain ⟨hB,hD,hRb⟩:=b1m (by simpa using hN);have hdl:p.Decls.length<=16:=by
  have:=hB;simp only [n8,W3,V4] at this;omega
 have hrl:p.Rules.length<=24:=by
  have:=hB;simp only [n8,W3,V4] at this;omega
 have hvl:=b3T hB;have hel:=b9F p 3;clear hc;refine lk' false [(false,6,0,100012)] [1,25,26] [2] [] (fun i:{i:Nat // i<=(u5 (a1T p 3)).length}=>[(6,.v false [.ow 100012]),(27,slV (.i .i64 i.1))]) nl' (fun i=>[(100012,u3,(b5w ((u5 (a1T p 3)).take i.1)).map c9.cells)]) (fun i=>(u5 (a1T p 3)).length - i.1) (⟨0,by simp⟩) ?_;intro S0 hS0 i;obtain ⟨i,hi⟩:=i;have hl:(b5w ((u5 (a1T p 3)).take i)).length<=16:=by rw [b5w,q1Z,q0K];omega
 simp only [go_sem,hS0];repeat' first|apply cj'|intro hc|exact om'|fail
 ·(refine lpK_n2 (⟨i+1,by omega⟩) _ (by simp only [go_sem];try rfl) ?_;simp only [go_sem,hS0]<;>repeat' first|apply V0|exact on'|fail)
  rw [show b5w ((u5 (a1T p 3)).take (i+1))=b5w ((u5 (a1T p 3)).take i)++[⟨((u5 (a1T p 3)).getD i default).Name,0⟩] from c1u (fun x:d5=>(⟨x.Name,0⟩:c9)) default (by omega)];first|done|(rw [q0Y];rfl)|trace_state
 rw [g9 (by omega),b5x];clear hc hl hi;refine lq' false [1,6] [2] [] (fun i:{q:Bool×Lev // Low p q.2/\(∀ v∈vwS p,q.2 v<=(vwS p).length)/\(q.1=false->Fx p q.2)}=>[(9,slV (.b i.1.1))]) nl' (fun i=>[(100012,u3,(lvl p i.1.2).map c9.cells)]) (fun i=>2 * a1j p i.1.2+(bif i.1.1 then 1 else 0)) (⟨(true,fun _=>0),Low.zero p,fun v _=>by simp only;omega,by intro h;cases h⟩) ?_;intro S1 hS1 i;obtain ⟨⟨ag,g⟩,hL,hle,hF⟩:=i;simp only at hL hle hF;have hll:=a2k p;simp only [go_sem,hS0,hS1,hll];repeat' first|apply cj'|intro hc|exact om'|fail
 ·have hag:=hc;clear hc;refine lq' false [1,6,40] [2] [] (fun i:{q:Nat×Bool×Lev // q.1<=(vwS p).length/\Low p q.2.2/\(∀ v∈vwS p,q.2.2 v<=(vwS p).length)/\(q.2.1=false->q.2.2=g/\∀ r∈p.Rules,r.Head.Name∈(vwS p).take q.1->t7 p g r)/\(q.2.1=true->a1j p q.2.2 < a1j p g)}=>[(9,slV (.b i.1.2.1)),(41,slV (.i .i64 i.1.1))]) nl' (fun i=>[(100012,u3,(lvl p i.1.2.2).map c9.cells)]) (fun i=>(vwS p).length - i.1.1) (⟨(0,false,g),by simp,hL,hle,fun _=>⟨rfl,by simp⟩,by intro h;cases h⟩) ?_;intro S2 hS2 i;obtain ⟨⟨n,ag2,g2⟩,hn,hL2,hle2,hF2,hM2⟩:=i;simp only at hn hL2 hle2 hF2 hM2;simp only [go_sem,hS0,hS1,hll,hS2];repeat' first|apply cj'|intro hc|exact om'|fail
  ·have hnl:n < (vwS p).length:=by omega
   clear hc;obtain ⟨hv,hgm,hsm⟩:=vw_at hnl;refine lq' false [1,6,10,40,41,46] [2] [] (fun i:{q:Nat×Bool×Lev // q.1<=p.Rules.length/\Low p q.2.2/\(∀ v∈vwS p,v≠(vwS p).getD n []->q.2.2 v<=(vwS p).length)/\q.2.2 ((vwS p).getD n [])<=(vwS p).length+(8 * q.1:Nat)/\(q.2.1=false->q.2.2=g/\(∀ r∈p.Rules,r.Head.Name∈(vwS p).take n->t7 p g r)/\∀ r∈p.Rules.take q.1,r.Head.Name=(vwS p).getD n []->t7 p g r)/\(q.2.1=true->a1j p q.2.2 < a1j p g)}=>[(9,slV (.b i.1.2.1)),(47,slV (.i .i64 i.1.1))]) nl' (fun i=>[(100012,u3,(lvl p i.1.2.2).map c9.cells)]) (fun i=>p.Rules.length - i.1.1) (⟨(0,ag2,g2),by simp,hL2,fun v hv2 _=>hle2 v hv2,by simp only;have:=hle2 _ hv;omega,fun h=>⟨(hF2 h).1,(hF2 h).2,by simp⟩,hM2⟩) ?_;intro S3 hS3 i;obtain ⟨⟨k,ag3,g3⟩,hk,hL3,ho3,hh3,hF3,hM3⟩:=i;simp only at hk hL3 ho3 hh3 hF3 hM3;simp only [go_sem,hS0,hS1,hll,hS2,hgm,hsm,hS3];repeat' first|apply cj'|intro hc|exact om'|fail
   ·have h3:ag3=false->g3=g/\(∀ r∈p.Rules,r.Head.Name∈(vwS p).take n->t7 p g r)/\∀ r∈p.Rules.take (k+1),r.Head.Name=(vwS p).getD n []->t7 p g r:=fun h=>by
     refine ⟨(hF3 h).1,(hF3 h).2.1,fun r hr he=>?_⟩;rw [i6 default (by omega),W5,V3] at hr;rcases hr with hr|rfl
     ·exact (hF3 h).2.2 r hr he
     ·rw [he] at hc;simp at hc
    (refine lpK_n2 (⟨(k+1,ag3,g3),by simp only;omega,hL3,ho3,by simp only;omega,h3,hM3⟩) _ rfl ?_;simp only [go_sem,hS0,hS1,hll,hS2,hgm,hsm,hS3]<;>repeat' first|apply V0|exact on'|fail)
   ·have hkl:k < p.Rules.length:=by omega
    have hrh:(p.Rules.getD k default).Head.Name=(vwS p).getD n []:=by simpa using hc
    clear hc;have hb8:=a6s hB hkl;have hrm:p.Rules.getD k default∈p.Rules:=A3w hkl;refine lq' false [1,6,10,12,40,41,46,47,66] [2,24] [] (fun i:{q:Nat×Bool×Lev // q.1<=(p.Rules.getD k default).Body.length/\Low p q.2.2/\(∀ v∈vwS p,v≠(vwS p).getD n []->q.2.2 v<=(vwS p).length)/\q.2.2 ((vwS p).getD n [])<=(vwS p).length+(8 * k+q.1:Nat)/\(q.2.1=false->q.2.2=g/\(∀ r∈p.Rules,r.Head.Name∈(vwS p).take n->t7 p g r)/\(∀ r∈p.Rules.take k,r.Head.Name=(vwS p).getD n []->t7 p g r)/\∀ l∈(p.Rules.getD k default).Body.take q.1,a1i p g ((vwS p).getD n []) l)/\(q.2.1=true->a1j p q.2.2 < a1j p g)}=>[(9,slV (.b i.1.2.1)),(67,slV (.i .i64 i.1.1))]) nl' (fun i=>[(100012,u3,(lvl p i.1.2.2).map c9.cells)]) (fun i=>(p.Rules.getD k default).Body.length - i.1.1) (⟨(0,ag3,g3),by simp,hL3,ho3,by simp only;omega,fun h=>⟨(hF3 h).1,(hF3 h).2.1,(hF3 h).2.2,by simp⟩,hM3⟩) ?_;intro S4 hS4 i;obtain ⟨⟨j,ag4,g4⟩,hj,hL4,ho4,hh4,hF4,hM4⟩:=i;simp only at hj hL4 ho4 hh4 hF4 hM4;have hLb:∀ v,-1<=a0a (lvl p g4) v/\a0a (lvl p g4) v<=400:=fun v=>by
     by_cases e:v∈vwS p
     ·rw [b2F g4 e];have:=hL4.ge v;by_cases e2:v=(vwS p).getD n []
      ·rw [e2] at this ⊢;omega
      ·have:=ho4 v e e2;omega
     ·rw [b5l g4 e];omega
    have hw:∀ v,IntKind.i64.wrap (a0a (lvl p g4) v+1)=a0a (lvl p g4) v+1:=fun v=>by have:=hLb v;rw [IntWalk.i64_in _ (by omega)]
    simp only [go_sem,hS0,hS1,hll,hS2,hgm,hsm,hS3,hS4,hw];repeat' first|apply cj'|intro hc|exact om'|fail
    ·rename_i hq;have hjl:j < (p.Rules.getD k default).Body.length:=by omega
     have hlm:((p.Rules.getD k default).Body.getD j default)∈(p.Rules.getD k default).Body:=A3w hjl;have hkk:((p.Rules.getD k default).Body.getD j default).Kind≠3:=by simpa using hc.1
     have hx0:=b3J (x:=a0a (lvl p g4) ((p.Rules.getD k default).Body.getD j default).Atom.Name+1) hL4.ge (.inl ⟨by simpa using hq,rfl⟩);have hh0:=hL4.ge ((vwS p).getD n []);have hc2:=hc.2;rcases hx0 with ⟨hvv,e⟩|⟨hvv,e⟩
     ·have hMM:a1j p g4<=a1j p g:=by
       cases hag4:ag4 with
       | true=>exact Nat.le_of_lt (hM4 hag4)
       | false=>rw [(hF4 hag4).1];exact q0A _
      have R:=a4R (j:=8 * k+j) hrm (by rw [hrh];exact hv) hlm hkk hvv hL4 (by rw [hrh];exact ho4) (by rw [hrh];exact hh4) (by omega) e (by rw [hrh];exact hc2) hMM;rw [hrh] at R
      (refine lpK_n2 (⟨(j+1,true,upd g4 ((vwS p).getD n []) (a0a (lvl p g4) ((p.Rules.getD k default).Body.getD j default).Atom.Name+1)),by simp only;omega,R.1,R.2.1,R.2.2.1,fun h=>(by cases h),fun _=>R.2.2.2⟩) _ rfl ?_;simp only [go_sem,hS0,hS1,hll,hS2,hgm,hsm,hS3,hS4,hw]<;>repeat' first|apply V0|exact on'|fail)
     ·exfalso;omega
    ·rename_i hq;have hjl:j < (p.Rules.getD k default).Body.length:=by omega
     have hst:a1i p g4 ((vwS p).getD n []) ((p.Rules.getD k default).Body.getD j default):=b5m hL4.ge (.inl ⟨by simpa using hq,rfl⟩) hc;have h3:ag4=false->g4=g/\(∀ r∈p.Rules,r.Head.Name∈(vwS p).take n->t7 p g r)/\(∀ r∈p.Rules.take k,r.Head.Name=((vwS p).getD n [])->t7 p g r)/\∀ l∈(p.Rules.getD k default).Body.take (j+1),a1i p g ((vwS p).getD n []) l:=fun h=>by
      have h5:=hF4 h;refine ⟨h5.1,h5.2.1,h5.2.2.1,b5n hjl h5.2.2.2 ?_⟩;rw [<- h5.1];exact hst
     (refine lpK_n2 (⟨(j+1,ag4,g4),by simp only;omega,hL4,ho4,by simp only;omega,h3,hM4⟩) _ rfl ?_;simp only [go_sem,hS0,hS1,hll,hS2,hgm,hsm,hS3,hS4,hw]<;>repeat' first|apply V0|exact on'|fail)
    ·rename_i hq;have hjl:j < (p.Rules.getD k default).Body.length:=by omega
     have hlm:((p.Rules.getD k default).Body.getD j default)∈(p.Rules.getD k default).Body:=A3w hjl;have hkk:((p.Rules.getD k default).Body.getD j default).Kind≠3:=by simpa using hc.1
     have hx0:=b3J (x:=a0a (lvl p g4) ((p.Rules.getD k default).Body.getD j default).Atom.Name) hL4.ge (.inr ⟨hq,rfl⟩);have hh0:=hL4.ge ((vwS p).getD n []);have hc2:=hc.2;rcases hx0 with ⟨hvv,e⟩|⟨hvv,e⟩
     ·have hMM:a1j p g4<=a1j p g:=by
       cases hag4:ag4 with
       | true=>exact Nat.le_of_lt (hM4 hag4)
       | false=>rw [(hF4 hag4).1];exact q0A _
      have R:=a4R (j:=8 * k+j) hrm (by rw [hrh];exact hv) hlm hkk hvv hL4 (by rw [hrh];exact ho4) (by rw [hrh];exact hh4) (by omega) e (by rw [hrh];exact hc2) hMM;rw [hrh] at R
      (refine lpK_n2 (⟨(j+1,true,upd g4 ((vwS p).getD n []) (a0a (lvl p g4) ((p.Rules.getD k default).Body.getD j default).Atom.Name)),by simp only;omega,R.1,R.2.1,R.2.2.1,fun h=>(by cases h),fun _=>R.2.2.2⟩) _ rfl ?_;simp only [go_sem,hS0,hS1,hll,hS2,hgm,hsm,hS3,hS4,hw]<;>repeat' first|apply V0|exact on'|fail)
     ·exfalso;omega
    ·rename_i hq;have hjl:j < (p.Rules.getD k default).Body.length:=by omega
     have hst:a1i p g4 ((vwS p).getD n []) ((p.Rules.getD k default).Body.getD j default):=b5m hL4.ge (.inr ⟨hq,rfl⟩) hc;have h3:ag4=false->g4=g/\(∀ r∈p.Rules,r.Head.Name∈(vwS p).take n->t7 p g r)/\(∀ r∈p.Rules.take k,r.Head.Name=((vwS p).getD n [])->t7 p g r)/\∀ l∈(p.Rules.getD k default).Body.take (j+1),a1i p g ((vwS p).getD n []) l:=fun h=>by
      have h5:=hF4 h;refine ⟨h5.1,h5.2.1,h5.2.2.1,b5n hjl h5.2.2.2 ?_⟩;rw [<- h5.1];exact hst
     (refine lpK_n2 (⟨(j+1,ag4,g4),by simp only;omega,hL4,ho4,by simp only;omega,h3,hM4⟩) _ rfl ?_;simp only [go_sem,hS0,hS1,hll,hS2,hgm,hsm,hS3,hS4,hw]<;>repeat' first|apply V0|exact on'|fail)
    ·have h3:ag4=false->g4=g/\(∀ r∈p.Rules,r.Head.Name∈(vwS p).take n->t7 p g r)/\∀ r∈p.Rules.take (k+1),r.Head.Name=((vwS p).getD n [])->t7 p g r:=fun h=>by
      have h5:=hF4 h;refine ⟨h5.1,h5.2.1,fun r hr he=>?_⟩;rw [i6 default (by omega),W5,V3] at hr;rcases hr with hr|rfl
      ·exact h5.2.2.1 r hr he
      ·intro _ l hl;rw [he];refine h5.2.2.2 l ?_;rw [g9 (by omega)];exact hl
     (refine lpK_n2 (⟨(k+1,ag4,g4),by simp only;omega,hL4,ho4,by simp only;omega,h3,hM4⟩) _ rfl ?_;simp only [go_sem,hS0,hS1,hll,hS2,hgm,hsm,hS3,hS4,hw]<;>repeat' first|apply V0|exact on'|fail)
   ·rw [b2G hL3 hv hc];exact ⟨rfl,rfl⟩
   ·have h1:∀ v∈vwS p,g3 v<=(vwS p).length:=fun v hv2=>by
     by_cases e:v=((vwS p).getD n [])
     ·rw [e];omega
     ·exact ho3 v hv2 e
    have h3:ag3=false->g3=g/\∀ r∈p.Rules,r.Head.Name∈(vwS p).take (n+1)->t7 p g r:=fun h=>by
     have h5:=hF3 h;refine ⟨h5.1,fun r hr he=>?_⟩;rw [i6 [] (by omega),W5,V3] at he;rcases he with he|he
     ·exact h5.2.1 r hr he
     ·exact h5.2.2 r (by rw [g9 (by omega)];exact hr) he
    (refine lpK_n2 (⟨(n+1,ag3,g3),by simp only;omega,hL3,h1,h3,hM3⟩) _ rfl ?_;simp only [go_sem,hS0,hS1,hll,hS2,hgm,hsm,hS3]<;>repeat' first|apply V0|exact on'|fail)
  ·have h3:ag2=false->Fx p g2:=fun h=>by
    have h5:=hF2 h;rw [g9 (by omega)] at h5;rw [h5.1];intro r hr hv2;exact h5.2 r hr hv2 hv2
   have hmm:ag2=false->g2=g:=fun h=>(hF2 h).1
   (refine lpK_n2 (⟨(ag2,g2),hL2,hle2,h3⟩) _ rfl ?_;simp only [go_sem,hS0,hS1,hll,hS2]<;>repeat' first|apply V0|exact on'|fail)
   cases hag2:ag2 with
   | false=>rw [hmm hag2,hag];simp only [W7,W8];omega
   | true=>have:=hM2 hag2;rw [hag];simp only [W7];omega
 ·rw [a5P hN ⟨hF hc,hL,hle⟩];exact ⟨rfl,rfl⟩
noncomputable def a5j:CT:=i8 (fun (x:c4)=>b2c x)
@[go_sem] def b9j:=fun x0 x1=>nm' (fQ' a5j rfl ⟨x0,x1⟩)
noncomputable def a1R (p:c4):Bool:=(o0 p).2&&p5 p==-1
def b3K {p:c4} (h:(o0 p).2=true):((f9 p).1==0)=true:=by
 cases e:((f9 p).1==0) with
 | true=>rfl
 | false=>rw [o0,e,W8] at h;exact h
def a4E {p:c4} (h:a1R p=true):((f9 p).1==0)=true:=by
 rw [a1R,W3] at h;exact b3K h.1
def b5h (p:c4):spZ 12 [(true,[k6 p.Decls,j9 p.Rules])] [] (.one (false,[.b (a1R p)])):=by
 refine sy' Tryz.func12 (q' 0 [ax (o' 1 (.box 2 (.t 0))),ab 2 false] (q' 6 [ae 2 1,ac 11 [6],aV 5,ao (.ext (.t 5) 0),ao (.ext (.t 5) 1),av 3 8,aV 4] (q' 10 [aM [4,10],au (.ld true 2 (.t 1)) 11 true,au (.call 21 [.t 12]) 11 true,au (.bin .eql (.t 13) (.k (.v false [.c (.i .i64 (-1))]))) 11 true,ao (.pick (.t 11) (.t 14) (bb false)),aV 2] .ret))) [.t 2] [(11,[],a2t),(21,[],a2M)] ?_;intro hb hE;simp only [go_sem];repeat' first|apply cj'|intro hc|exact om'|fail
 all_goals (first|rfl)
noncomputable def a4k:CT:=i8 (fun (x:c4)=>b5h x)
@[go_sem] def b0x:=fun x0 x1=>nm' (fQ' a4k rfl ⟨x0,x1⟩)
def b0C (p:c4) (k:Int):List d5:=bif (f9 p).1==0 then u5 (a1T p k) else []
def a6W (p:c4) (k:Int):spZ 13 [(true,[k6 p.Decls,j9 p.Rules]),(false,[.i .i64 k])] [] (.one (true,[a3p ((⟨b0C p k⟩:f5).Rels)])):=by
 refine sx' false true none Tryz.func13 (q' 2 [ao (.box 2 (.t 0)),ax (w' 4 [.sl a1b])] (q' 8 [ae 2 2,ac 36 [8],aV 7,ao (.ext (.t 7) 0),ao (.ext (.t 7) 1),av 5 10,aV 6] (.seq (q' 12 [am 5,ao (.bin .neq (.t 12) (k' 0))] (.cond (.t 13) (q' 14 [ao (.bld [.sl a1b] []),aS 1 4 14] .ret) .skip)) (q' 15 [ae 2 2,am 1,ac 48 [15,16],aS 1 4 17] .ret)))) [.c 4 true 1] [(36,[],z6),(48,[],a1n)] ?_;intro hb hE;simp only [go_sem];repeat' first|apply cj'|intro hc|exact om'|fail
 ·rw [b0C,show ((f9 p).1==0)=false by simpa [bne] using hc];rfl
 ·have:=a1U (p:=p) (by simpa [bne] using hc);simp only [n8,W3,V4] at this;omega
 ·rw [b0C,show ((f9 p).1==0)=true by simpa [bne] using hc];rfl
noncomputable def a2g:CT:=i8 (fun (x:c4×Int)=>a6W x.1 x.2)
@[go_sem] def b4E:=fun x0 x1 k=>nm' (fQ' a2g rfl (⟨x0,x1⟩,k))
noncomputable def a0e (q:c4×Int×Int):c4×Int×Int:=
 bif q.2.1 != 0 then (default,q.2.1,q.2.2)
 else bif (f9 q.1).1 != 0 then (default,IntKind.i64.wrap (10+(f9 q.1).1),(f9 q.1).2)
 else bif decide (0<=p5 q.1) then (default,20,p5 q.1)
 else bif (o0 q.1).2 then (q.1,0,0) else (default,21,0)
noncomputable def a0f (s:List UInt8):c4×Int×Int:=a0e (a1t s)
def acc_1 {q:c4×Int×Int} (h:(q.2.1 != 0)=true):a0e q=(default,q.2.1,q.2.2):=by rw [a0e,h];rfl
def acc_2 {q:c4×Int×Int} (h:(q.2.1 != 0)=false) (h2:((f9 q.1).1 != 0)=true):a0e q=(default,IntKind.i64.wrap (10+(f9 q.1).1),(f9 q.1).2):=by rw [a0e,h,h2];rfl
def acc_3 {q:c4×Int×Int} (h:(q.2.1 != 0)=false) (h2:((f9 q.1).1 != 0)=false) (h3:0<=p5 q.1):a0e q=(default,20,p5 q.1):=by rw [a0e,h,h2,V5 h3];rfl
def acc_4 {q:c4×Int×Int} (h:(q.2.1 != 0)=false) (h2:((f9 q.1).1 != 0)=false) (h3:¬ 0<=p5 q.1) (h4:(o0 q.1).2=false):a0e q=(default,21,0):=by rw [a0e,h,h2,V7 h3,h4];rfl
def acc_5 {q:c4×Int×Int} (h:(q.2.1 != 0)=false) (h2:((f9 q.1).1 != 0)=false) (h3:¬ 0<=p5 q.1) (h4:(o0 q.1).2=true):a0e q=(q.1,0,0):=by rw [a0e,h,h2,V7 h3,h4];rfl
def b2b (s:List UInt8):spZ 10 [(false,[.s s])] [] (.tup [(true,[k6 (((a0f s).1).Decls),j9 (((a0f s).1).Rules)]),(false,[.i .i64 ((a0f s).2.1)]),(false,[.i .i64 ((a0f s).2.2)])]):=by
 refine sx' false true none Tryz.func10 (q' 2 [aw [.sl a0m,.sl a0d],aK 0,aK 0] (q' 12 [am 0,ac 35 [12],aV 11,ao (.ext (.t 11) 0),ao (.ext (.t 11) 1),ao (.ext (.t 11) 2),ax (w' 5 [.sl a0m,.sl a0d]),aS 2 5 14,av 6 15,aV 7] (.seq (q' 17 [am 6,ao (.bin .neq (.t 17) (k' 0))] (.cond (.t 18) (q' 19 [ao (.bld [.sl a0m,.sl a0d] []),aM [6,7],aS 2 2 19,av 3 20,aV 4] .ret) .skip)) (q' 23 [ae 2 5,ac 36 [23],aV 22,ao (.ext (.t 22) 0),ao (.ext (.t 22) 1),av 6 25,aV 7] (.seq (q' 27 [am 6,ao (.bin .neq (.t 27) (k' 0))] (.cond (.t 28) (q' 29 [ao (.bld [.sl a0m,.sl a0d] []),am 6,ao (.bin .add (k' 10) (.t 30)),am 7,aS 2 2 29,av 3 31,aV 4] .ret) .skip)) (q' 33 [ae 2 5,ac 37 [33],aV 8] (.seq (q' 35 [am 8,ao (.bin .geq (.t 35) (k' 0))] (.cond (.t 36) (q' 37 [ao (.bld [.sl a0m,.sl a0d] []),am 8,aS 2 2 37,az 3 20,aV 4] .ret) .skip)) (q' 40 [ae 2 5,ac 38 [40],aV 39,ao (.ext (.t 39) 0),ao (.ext (.t 39) 1),av 9 42,aV 10] (.seq (q' 44 [am 10,ao (.not (.t 44))] (.cond (.t 45) (q' 46 [ao (.bld [.sl a0m,.sl a0d] []),aS 2 2 46,az 3 21,az 4 0] .ret) .skip)) (q' 47 [ae 2 5,aS 2 2 47,az 3 0,az 4 0] .ret)))))))))) [.c 2 true 2,.t 3,.t 4] [(35,[],a6E),(36,[],z6),(37,[],a2P),(38,[],a5j)] ?_;intro hb hE;simp only [go_sem];repeat' first|apply cj'|intro hc|exact om'|fail
 all_goals first
  | (rw [a0f,acc_1 hc];exact ⟨⟨⟨rfl,rfl⟩,rfl⟩,rfl⟩)
  | (rename_i h1;rw [a0f,acc_2 h1 hc];exact ⟨⟨⟨rfl,rfl⟩,rfl⟩,rfl⟩)
  | (rename_i h1 h2;rw [a0f,acc_3 h1 h2 hc];exact ⟨⟨⟨rfl,rfl⟩,rfl⟩,rfl⟩)
  | (rename_i h1 h2 h3;rw [a0f,acc_4 h1 h2 h3 hc];exact ⟨⟨⟨rfl,rfl⟩,rfl⟩,rfl⟩)
  | (rename_i h1 h2 h3;rw [a0f,acc_5 h1 h2 h3 hc];exact ⟨⟨⟨rfl,rfl⟩,rfl⟩,rfl⟩)
  | trace_state
noncomputable def a5i:CT:=i8 (fun (x:(List UInt8))=>b2b x)
@[go_sem] def b9i:=fun s=>nm' (fQ' a5i rfl s)
end Go.Aw
namespace Go.Aw
open Go.Proofs
set_option linter.all false
set_option maxRecDepth 100000
def b7p (p:c4):0<=(f9 p).1/\(f9 p).1<=7:=by
 unfold f9;cases n8 p with
 | false=>exact ⟨Int.zero_le_ofNat 1,show (1:Int)<=7 by decide⟩
 | true=>
   simp only [Bool.not_true,W8];split
   ·exact ⟨show (0:Int)<=2 by decide,show (2:Int)<=7 by decide⟩
   ·split
    ·unfold n9;simp only;generalize (i4 _).any (a1Z p)=b1;generalize (i4 _).any (a2a p)=b2;generalize a1A p _=b3;generalize ((i4 _).drop 1).any a7R=b4;generalize a7Q p _=b5
     revert b1 b2 b3 b4 b5
     decide
    ·exact ⟨by decide,by decide⟩
def c0G {q:c4×Int×Int} (h:(a0e q).2.1=0):a0e q=(q.1,0,0)/\a1R q.1=true:=by
 cases h1:(q.2.1 != 0) with
 | true=>rw [acc_1 h1] at h;rw [show q.2.1=0 from h] at h1;cases h1
 | false=>
   cases h2:((f9 q.1).1 != 0) with
   | true=>
     rw [acc_2 h1 h2] at h;have h3:=b7p q.1;rw [show IntKind.i64.wrap (10+(f9 q.1).1)=10+(f9 q.1).1 from IntWalk.i64_in _ ⟨by omega,by omega⟩] at h;simp only at h;omega
   | false=>
     by_cases h3:0<=p5 q.1
     ·rw [acc_3 h1 h2 h3] at h;cases h
     ·cases h4:(o0 q.1).2 with
      | false=>rw [acc_4 h1 h2 h3 h4] at h;cases h
      | true=>
        refine ⟨acc_5 h1 h2 h3 h4, ?_⟩;rw [a1R,h4,q0J];have h5:=a1U (by simpa [bne] using h2);have h6:=idxL_ge (p:=a2F) (l:=q.1.Rules);rw [p5,h5,W7] at h3 ⊢;simp only [beq_iff_eq];omega
def a5K {p:c4} (h:a1R p=true):∃ g,Least p g/\o0 p=(lvl p g,true):=by
 have hn:=a4E h;rw [a1R,W3] at h;have h1:=h.1;rw [o0,hn,W7] at h1;split at h1
 ·rename_i hx;exact ⟨hx.choose,hx.choose_spec,a5P hn hx.choose_spec⟩
 ·cases h1
def b8l {p:c4} (hn:((f9 p).1==0)=true) {g:Lev} (hg:Least p g) {a b:List UInt8} (h:b∈v5 p a) (hb:b∈vwS p):a∈vwS p/\g b<=g a:=by
 obtain ⟨r,hr,hbr⟩:=q2F.1 h;obtain ⟨hr,hl⟩:=q0V.1 hr;simp only [a2E,W3,beq_iff_eq] at hl;have hd:=(b1m (by simpa using hn)).2.1;have ha:r.Head.Name∈vwS p:=(a0v hd).1 hl.1.2;obtain ⟨x,hx,rfl⟩:=q0R.1 hbr;rw [i4,q0F,q0P] at hx;obtain ⟨l,hl2,rfl⟩:=q0R.1 hx;obtain ⟨hl3,hl4⟩:=q0V.1 hl2;have:=hg.fx r hr ha l hl3 (by simpa using hl4) hb;have h0:0<=a3r l:=by unfold a3r;split<;>omega
 rw [<- hl.2];exact ⟨ha,by omega⟩
def rch_le {p:c4} (hn:((f9 p).1==0)=true) {g:Lev} (hg:Least p g) {a b:List UInt8} (h:Rch p a b) (hb:b∈vwS p):g b<=g a:=by
 induction h with
 | one h=>exact (b8l hn hg h hb).2
 | step _ h ih=>
   have h1:=b8l hn hg h hb;have:=ih h1.1;omega
def c1o {p:c4} {g:Lev} (hg:Least p g) {a b:List UInt8} (h:a3J p a b=true) (hb:b∈vwS p):g b<=g a:=by
 rw [a3J,W3,q0X,a5Q] at h;exact rch_le h.1 hg h.2 hb
def b9v {p:c4} (h:a1R p=true):(b0C p 3).length=(o0 p).1.length:=by
 obtain ⟨g,hg,e⟩:=a5K h;rw [e,a2k,b0C,a4E h,W7];have h2:=congrArg List.length (b5x p);rw [a2k,b5w,q1Z] at h2;exact h2
def c1r {p:c4} (h:a1R p=true) {a b:c9} (ha:a∈(o0 p).1) (hb:b∈(o0 p).1) (hl:a3J p a.Name b.Name=true):¬ a.N < b.N:=by
 obtain ⟨g,hg,e⟩:=a5K h;rw [e] at ha hb;obtain ⟨v,hv,rfl⟩:=q0R.1 ha;obtain ⟨u,hu,rfl⟩:=q0R.1 hb;have:=c1o hg hl hu;simp only at this ⊢;omega
attribute [local irreducible] aft blk lpK retK AW A0d
set_option maxHeartbeats 4000000
attribute [local irreducible] RM
def a4G:a1R ⟨[],[⟨0,⟨[],[]⟩,[]⟩]⟩=false:=by
 have h:f9 ⟨[],[⟨0,⟨[],[]⟩,[]⟩]⟩=(1,0):=a0n rfl;rw [a1R,o0,h];rfl
def a8w {s:List UInt8} (h:((a0f s).2.1 != 0)=false):a1R (a0f s).1=true:=by
 obtain ⟨h1,h2⟩:=c0G (q:=a1t s) (by rw [bne_eq_false_iff_eq] at h;exact h);rw [a0f,h1];exact h2
def b4V {p:c4} (h:a1R p=true):(o0 p).2=true:=by rw [a1R,W3] at h;exact h.1
def a4F:a4k [(true,[.sl false a0m [],.sl false a0d [a0d]])]=some (True,[],.one (false,[.b (a1R ⟨[],[⟨0,⟨[],[]⟩,[]⟩]⟩)])):=b0x [] [⟨0,⟨[],[]⟩,[]⟩]
def a3I (code:List Int):spZ 3 [(false,[.sl false [.i .u8 0] (code.map cU8)])] [] (.one (false,[.b true])):=by
 refine sy' Tryz.func3 (q' 0 [ab 2 false] (.seq (q' 13 [am 0,aN,ao (.bin .gtr (.t 14) (k' 1048576))] (.cond (.t 15) (q' 0 [ab 2 true] .ret) .skip)) (q' 16 [am 0,ac 9 [16],aV 3] (q' 19 [am 3,ac 10 [19],aV 18,ao (.ext (.t 18) 0),ao (.ext (.t 18) 1),ao (.ext (.t 18) 2),ax (w' 4 [.sl a0m,.sl a0d]),aS 2 4 21,av 5 22,aV 6] (q' 25 [ae 2 4,ac 11 [25],aV 24,ao (.ext (.t 24) 0),ao (.ext (.t 24) 1),av 7 27,aV 8] (.seq (q' 29 [am 5,ao (.bin .neq (.t 29) (k' 0))] (.cond (.t 30) (q' 31 [ao (.bld [.i .i64,.s,.sl j6,.sl a3h] []),ao (.bsl 4 1 [.i .i64,.s,.sl j6,.sl a3h] [(0,.t 31)]),ao (.bld [.sl a0m,.sl a0d] [(1,1,.t 32)]),ac 12 [33],ao (.binb .eql (.t 34) (bb false)),aV 2] .ret) .skip)) (.seq (q' 36 [am 8,ao (.not (.t 36)),am 37,au (.mov (.t 7)) 38 false,au (.len (.t 39)) 38 false,au (.ld true 2 (.t 4)) 38 false,au (.call 13 [.t 41,.k (.v false [.c (.i .i64 3)])]) 38 false,au (.fl false 0 1 (.t 42)) 38 false,au (.len (.t 43)) 38 false,au (.bin .neq (.t 40) (.t 44)) 38 false,ao (.pick (.t 38) (bb true) (.t 45))] (.cond (.t 46) (q' 0 [ab 2 false] .ret) .skip)) (.seq (q' 47 [am 7,aN,aK 0] (.block 0 (.loop (q' 50 [ar 49 48] (.seq (.cond (.t 50) .skip (.exit 0)) (.seq (.block 1 (q' 51 [ai 2 47 49,aE 2,ax (w' 10 [.s,.i .i64]),aS 2 10 52] (q' 53 [am 7,aN,aK 0] (.block 2 (.loop (q' 56 [ar 55 54] (.seq (.cond (.t 56) .skip (.exit 2)) (.seq (.block 3 (q' 57 [ai 2 53 55,aE 2,ax (w' 12 [.s,.i .i64]),aS 2 12 58] (q' 59 [ae 2 4,aG 0 10,aG 0 12,ac 14 [59,61,63],am 64,au (.fa 1 (.t 10)) 65 true,au (.ld false 1 (.t 66)) 65 true,au (.fa 1 (.t 12)) 65 true,au (.ld false 1 (.t 68)) 65 true,au (.bin .lss (.t 67) (.t 69)) 65 true,ao (.pick (.t 65) (.t 70) (bb false))] (.cond (.t 71) (q' 0 [ab 2 false] .ret) .skip)))) (g' 72 [aA 55]))))))))) (g' 73 [aA 49]))))))) (q' 74 [ae 2 4,ac 12 [74],aV 2] .ret))))))))) [.t 2] [(9,[],a2f),(10,[],a5i),(11,[],a2t),(12,[],a4k),(13,[],a2g),(14,[],a6z)] ?_;intro hb hE;simp only [go_sem,a4F,a4G];repeat' first|apply cj'|intro hc|exact om'|fail
 ·rename_i h0;have hg:=a8w h0;rcases hc with hc|hc
  ·rw [b4V hg] at hc;cases hc
  ·rw [b9v hg] at hc;simp at hc
 ·rename_i h0;have hg:=a8w h0;have hgl:∃ p,(a0f (drawA code)).1=p:=⟨_,rfl⟩
  obtain ⟨p,hp⟩:=hgl;rw [hp] at hg;have hL:∃ L,(o0 p).1=L:=⟨_,rfl⟩
  obtain ⟨L,hL⟩:=hL;have hpair:∀ n m,n < L.length->m < L.length->a3J p (L.getD n default).Name (L.getD m default).Name=true->¬ (L.getD n default).N < (L.getD m default).N:=fun n m hn hm h=>c1r hg (by rw [hL];exact A3w hn) (by rw [hL];exact A3w hm) h
  have hll:L.length<=16:=by
   obtain ⟨g,_,e⟩:=a5K hg;have h9:=b3T (a1U (a4E hg));rw [e] at hL;rw [<- hL];show (lvl p g).length<=16;rw [a2k];exact h9
  refine a5I 3328 ?_;refine lq' false [4,7,47,48] [8] [] (fun i:{i:Nat // i<=L.length}=>[(49,slV (.i .i64 i.1))]) nl' nl' (fun i=>L.length - i.1) (⟨0,by omega⟩) ?_;intro S0 hS0 i;obtain ⟨n,hn⟩:=i;simp only [go_sem,a4F,a4G,hp,hL,hS0];repeat' first|apply cj'|intro hc|exact om'|fail
  ·have hnl:n < L.length:=by omega
   refine lq' false [4,7,10,47,48,49,53,54] [8,20] [] (fun i:{i:Nat // i<=L.length}=>[(55,slV (.i .i64 i.1))]) nl' nl' (fun i=>L.length - i.1) (⟨0,by omega⟩) ?_;intro S1 hS1 i;obtain ⟨m,hm⟩:=i;simp only [go_sem,a4F,a4G,hp,hL,hS0,hS1];repeat' first|apply cj'|intro hc|exact om'|fail
   ·exact hpair n m hnl (by omega) hc.1 hc.2
   ·(refine lpK_n2 (⟨m+1,by omega⟩) _ rfl ?_;simp only [go_sem,a4F,a4G,hp,hL,hS0,hS1]<;>repeat' first|apply V0|exact on'|fail)
   ·(refine lpK_n2 (⟨n+1,by omega⟩) _ rfl ?_;simp only [go_sem,a4F,a4G,hp,hL,hS0,hS1]<;>repeat' first|apply V0|exact on'|fail)
noncomputable def a9j:CT:=i8 (fun (x:(List Int))=>a3I x)
@[go_sem] def b6O:=fun x0=>nm' (fQ' a9j rfl x0)
end Go.Aw
