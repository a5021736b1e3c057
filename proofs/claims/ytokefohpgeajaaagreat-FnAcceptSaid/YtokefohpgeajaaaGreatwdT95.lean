/- Levels: the reference's. No condition. -/
import Derived.Test.YtokefohpgeajaaaGreatwdT16
import Derived.Lib.IndexAny
namespace Go.Aw
open Go.Proofs
attribute [local irreducible] aft blk lpK retK AW A0d
set_option linter.all false
set_option maxRecDepth 100000
def b8J (l:List d3) (v:List UInt8):spZ 100 [(false,[b3u l]),(false,[.s v])] [] (.one (false,[.i .i64 (a1c l v)])):=by
 refine sy' Tryz.func100 (q' 4 [aK 0] (.seq (q' 6 [am 0,aN,aK 0] (.block 0 (.loop (q' 9 [ar 8 7] (.seq (.cond (.t 9) .skip (.exit 0)) (.seq (.block 1 (q' 10 [am 8,aV 5] (q' 11 [aM [0,5],aI 2,aG 0 13,am 1,ao (.bin .eql (.t 15) (.t 16))] (.cond (.t 17) (q' 18 [aM [0,5],aI 2,aG 1 20,aV 4] .ret) .skip)))) (g' 23 [aA 8]))))))) (q' 4 [ao (.mov (.k (.v false [.c (.i .i64 (-1))])))] .ret))) [.t 4] [] ?_;intro hb hE;simp only [go_sem];repeat' first|apply cj'|intro hc|exact om'|fail
 refine lq' false [0,1,7] [] [] (fun i:{i:Nat // i<=l.length/\(l.take i).any (fun d=>d.Name==v)=false}=>[(8,slV (.i .i64 i.1))]) nl' nl' (fun i=>l.length - i.1) (⟨0,by simp⟩) ?_;intro S0 hS0 i;obtain ⟨i,hi,ha⟩:=i;simp only [go_sem,hS0];repeat' first|apply cj'|intro hc|exact om'|fail
 ·rw [a1c,b8o (d:=default) (i:=i) (by omega) ha hc];rfl
 ·exact nx0 ⟨i+1,by omega,t2 (p:=fun d:d3=>d.Name==v) default (by omega) ha hc⟩
 ·rw [a1c,a7o (by rwa [i8 (by omega)] at ha)];rfl
noncomputable def a9R:CT:=j6 (fun (x:(List d3)×(List UInt8))=>b8J x.1 x.2)
@[go_sem] def c7c:=fun l v=>nm' (fQ' a9R rfl (l,v))
def relL (l:List d6):List d3:=l.map fun x=>⟨x.Name,0⟩
def c8E (p:c5):relL (a0B (a4m p 3))=lvl p fun _=>0:=by
 have h:=a9U (a4m p 3);have e:relL (a0B (a4m p 3))=((a0B (a4m p 3)).map d6.Name).map fun v=>(⟨v,0⟩:d3):=by rw [q3L];rfl
 rw [e,h];rfl
def c6p (p:c5) (k:Int):(a0B (a4m p k)).length<=p.Decls.length:=by
 have h1:=b4E (a4m p k);have h2:=q2F (fun d:c9=>d.Kind==k) p.Decls;exact q1U h1 h2
def vw_at {p:c5} {n:Nat} (hn:n < (vwS p).length):(vwS p).getD n []∈vwS p/\(∀ g,(lvl p g).getD n default=⟨(vwS p).getD n [],g ((vwS p).getD n [])⟩)/\∀ g x,(lvl p g).set n ⟨(vwS p).getD n [],x⟩=lvl p (upd g ((vwS p).getD n []) x):=
 ⟨A3w hn,fun g=>c0T p g hn,fun g x=>c4A p g hn x⟩
def b8K {p:c5} {g:Lev} {l:c7} {x:Int} (h0:∀ v,0<=g v) (hx:((l.Kind==2&&decide (0<=a1c (lvl p g) l.Atom.Name))=true/\x=a1c (lvl p g) l.Atom.Name+1)\/((l.Kind==2&&decide (0<=a1c (lvl p g) l.Atom.Name))=false/\x=a1c (lvl p g) l.Atom.Name)):(l.Atom.Name∈vwS p/\x=g l.Atom.Name+a7h l)\/(¬ l.Atom.Name∈vwS p/\x=-1):=by
 by_cases e:l.Atom.Name∈vwS p
 ·refine .inl ⟨e, ?_⟩;rw [b7q g e,W8 (h0 l.Atom.Name),q0Z] at hx;rcases hx with ⟨h1,h2⟩|⟨h1,h2⟩
  ·rw [b5G h1];exact h2
  ·rw [b8O h1];omega
 ·refine .inr ⟨e, ?_⟩;rw [c0N g e,show decide ((0:Int)<=-1)=false from rfl,q1J] at hx;rcases hx with ⟨h1,h2⟩|⟨h1,h2⟩
  ·cases h1
  ·exact h2
def c0O {p:c5} {g:Lev} {h:List UInt8} {l:c7} {x:Int} (h0:∀ v,0<=g v) (hx:((l.Kind==2&&decide (0<=a1c (lvl p g) l.Atom.Name))=true/\x=a1c (lvl p g) l.Atom.Name+1)\/((l.Kind==2&&decide (0<=a1c (lvl p g) l.Atom.Name))=false/\x=a1c (lvl p g) l.Atom.Name)) (hc:(l.Kind != 3&&decide (g h < x))=false):a2Q p g h l:=by
 by_cases hk:(l.Kind==3)=true
 ·exact b7s hk
 ·have hn:¬ g h < x:=by
   rw [bne,(by simpa using hk:(l.Kind==3)=false),q2P,q0H] at hc;exact of_decide_eq_false hc
  rcases b8K h0 hx with ⟨h1,h2⟩|⟨h1,h2⟩
  ·exact c3j h2 hn
  ·exact b7t h1
def c0Q {p:c5} {g:Lev} {h:List UInt8} {b:List c7} {j:Nat} (hj:j < b.length) (h1:∀ l∈b.take j,a2Q p g h l) (h2:a2Q p g h (b.getD j default)):∀ l∈b.take (j+1),a2Q p g h l:=fun l hl=>by
 rw [i9 default hj,V0,V6] at hl;rcases hl with hl|rfl
 ·exact h1 l hl
 ·exact h2
def b6w (p:c5):spZ 38 [(true,[o8 p.Decls,n7 p.Rules])] [] (.tup [(false,[b3u ((a0l p).1)]),(false,[.b ((a0l p).2)])]):=by
 refine sx' false true none Tryz.func38 (q' 1 [ao (.box 2 (.t 0)),ao (.mov (.k (.v false [.nl a0s]))),ao (.mov (bb false))] (q' 16 [ae 2 1,ac 36 [16],aV 15,ao (.ext (.t 15) 0),ao (.ext (.t 15) 1),av 4 18,aV 5] (.seq (q' 20 [am 4,ao (.bin .neq (.t 20) (k' 0))] (.cond (.t 21) (q' 0 [ax (o' 2 (.mov (.k (.v false [.nl a0s])))),ab 3 false] .ret) .skip)) (q' 22 [ao (.bsl 2 0 [.s,.i .i64] []),aV 6] (.seq (q' 23 [ae 2 1,ao (.call 48 [.t 23,.k (.v false [.c (.i .i64 3)])]),ao (.fl false 0 1 (.t 24)),aN,aK 0] (.block 0 (.loop (q' 28 [ar 27 26] (.seq (.cond (.t 28) .skip (.exit 0)) (.seq (.block 1 (q' 29 [ai 3 25 27,aE 3,ax (w' 8 [.s,.i .i64, .sl a2n]),aS 3 8 30] (g' 31 [am 6,aG 0 8,ao (.bld [.s,.i .i64] [(0,1,.t 33)]),ao (.bsl 2 1 [.s,.i .i64] [(0,.t 34)]),ao (.app 2 24 [.s,.i .i64] (.t 31) (.t 35)),aV 6]))) (g' 37 [aA 27]))))))) (.seq (q' 0 [ab 9 true] (.block 2 (.loop (.seq (q' 38 [am 9] (.cond (.t 38) .skip (.exit 2))) (.block 3 (q' 0 [ab 9 false] (q' 39 [am 6,aN,aK 0] (.block 4 (.loop (q' 42 [ar 41 40] (.seq (.cond (.t 42) .skip (.exit 4)) (.seq (.block 5 (q' 43 [am 41,aV 10] (.seq (q' 44 [aG 1 1,aN,aK 0] (.block 6 (.loop (q' 48 [ar 47 46] (.seq (.cond (.t 48) .skip (.exit 6)) (.seq (.block 7 (q' 49 [am 47,aV 11] (q' 50 [aG 1 1,am 11,aI 4,aE 4,ax (w' 12 [.i .i64,.s,.sl j4,.sl a2t]),aS 4 12 54] (.seq (.seq (G' 55 [af 1 12,aG 0 55,aM [6,10],aI 2,aG 0 60,ao (.bin .neq (.t 57) (.t 62))]) (.cond (.t 63) (.exit 7) .skip)) (q' 64 [aG 3 12,aN,aK 0] (.block 8 (.loop (q' 68 [ar 67 66] (.seq (.cond (.t 68) .skip (.exit 8)) (.seq (.block 9 (q' 69 [am 67,aV 13] (q' 70 [am 6,aG 3 12,am 13,aI 10,aF 1,aG 0 75,ac 100 [70,77],aV 14] (.seq (q' 79 [aG 3 12,am 13,aI 10,aG 0 82,ao (.bin .eql (.t 84) (k' 2)),am 85,au (.mov (.t 14)) 86 true,au (.bin .geq (.t 87) (k' 0)) 86 true,ao (.pick (.t 86) (.t 88) (bb false))] (.cond (.t 89) (g' 90 [aB 14]) .skip)) (q' 92 [aG 3 12,am 13,aI 10,aG 0 95,ao (.bin .neq (.t 97) (k' 3)),am 98,au (.mov (.t 14)) 99 true,au (.mov (.t 6)) 99 true,au (.mov (.t 10)) 99 true,au (.ia 2 (.t 101) (.t 102)) 99 true,au (.fa 1 (.t 103)) 99 true,au (.ld false 1 (.t 104)) 99 true,au (.bin .gtr (.t 100) (.t 105)) 99 true,ao (.pick (.t 99) (.t 106) (bb false))] (.cond (.t 107) (q' 108 [aM [6,10,14],ai 2 108 109,aF 1,aS 1 112 110] (g' 0 [ab 9 true])) .skip)))))) (g' 113 [aA 67]))))))))))) (g' 114 [aA 47]))))))) (q' 115 [aM [6,10],aI 2,aG 1 117,am 6,aN,ao (.bin .gtr (.t 119) (.t 121))] (.cond (.t 122) (q' 0 [ax (o' 2 (.mov (.k (.v false [.nl a0s])))),ab 3 false] .ret) .skip))))) (g' 123 [aA 41]))))))))))))) (q' 124 [am 6,aV 2,ab 3 true] .ret))))))) [.t 2,.t 3] [(36,[],a2a),(48,[],a5S),(100,[],a9R)] ?_;intro hb hE;simp only [go_sem];repeat' first|apply cj'|intro hc|exact om'|fail
 ·rw [a0l,show ((i6 p).1==0)=false by simpa [bne] using hc];exact ⟨rfl,rfl⟩
 ·have hB:=a8V (p:=p) (by simpa [bne] using hc);simp only [p8,W1,W9] at hB;omega
 have hN:((i6 p).1==0)=true:=by simpa [bne] using hc
 obtain ⟨hB,hD,hRb⟩:=c0W (by simpa using hN);have hdl:p.Decls.length<=16:=by
  have:=hB;simp only [p8,W1,W9] at this;omega
 have hrl:p.Rules.length<=24:=by
  have:=hB;simp only [p8,W1,W9] at this;omega
 have hvl:=c4Q hB;have hel:=c6p p 3;clear hc;refine lk' false [(false,6,0,100012)] [1,25,26] [2] [] (fun i:{i:Nat // i<=(a0B (a4m p 3)).length}=>[(6,.v false [.ow 100012]),(27,slV (.i .i64 i.1))]) nl' (fun i=>[(100012,a0s,(relL ((a0B (a4m p 3)).take i.1)).map d3.cells)]) (fun i=>(a0B (a4m p 3)).length - i.1) (⟨0,by simp⟩) ?_;intro S0 hS0 i;obtain ⟨i,hi⟩:=i;have hl:(relL ((a0B (a4m p 3)).take i)).length<=16:=by rw [relL,q1W,q0L];omega
 simp only [go_sem,hS0];repeat' first|apply cj'|intro hc|exact om'|fail
 ·(refine lpK_n2 (⟨i+1,by omega⟩) _ (by simp only [go_sem];try rfl) ?_;simp only [go_sem,hS0]<;>repeat' first|apply V3|exact on'|fail)
  rw [show relL ((a0B (a4m p 3)).take (i+1))=relL ((a0B (a4m p 3)).take i)++[⟨((a0B (a4m p 3)).getD i default).Name,0⟩] from m_snoc (fun x:d6=>(⟨x.Name,0⟩:d3)) default (by omega)];first|done|(rw [q0Y];rfl)|trace_state
 rw [i8 (by omega),c8E];clear hc hl hi;refine lq' false [1,6] [2] [] (fun i:{q:Bool×Lev // Low p q.2/\(∀ v∈vwS p,q.2 v<=(vwS p).length)/\(q.1=false->Fx p q.2)}=>[(9,slV (.b i.1.1))]) nl' (fun i=>[(100012,a0s,(lvl p i.1.2).map d3.cells)]) (fun i=>2 * a2R p i.1.2+(bif i.1.1 then 1 else 0)) (⟨(true,fun _=>0),Low.zero p,fun v _=>by simp only;omega,by intro h;cases h⟩) ?_;intro S1 hS1 i;obtain ⟨⟨ag,g⟩,hL,hle,hF⟩:=i;simp only at hL hle hF;have hll:=b0p p;simp only [go_sem,hS0,hS1,hll];repeat' first|apply cj'|intro hc|exact om'|fail
 ·have hag:=hc;clear hc;refine lq' false [1,6,40] [2] [] (fun i:{q:Nat×Bool×Lev // q.1<=(vwS p).length/\Low p q.2.2/\(∀ v∈vwS p,q.2.2 v<=(vwS p).length)/\(q.2.1=false->q.2.2=g/\∀ r∈p.Rules,r.Head.Name∈(vwS p).take q.1->a0n p g r)/\(q.2.1=true->a2R p q.2.2 < a2R p g)}=>[(9,slV (.b i.1.2.1)),(41,slV (.i .i64 i.1.1))]) nl' (fun i=>[(100012,a0s,(lvl p i.1.2.2).map d3.cells)]) (fun i=>(vwS p).length - i.1.1) (⟨(0,false,g),by simp,hL,hle,fun _=>⟨rfl,by simp⟩,by intro h;cases h⟩) ?_;intro S2 hS2 i;obtain ⟨⟨n,ag2,g2⟩,hn,hL2,hle2,hF2,hM2⟩:=i;simp only at hn hL2 hle2 hF2 hM2;simp only [go_sem,hS0,hS1,hll,hS2];repeat' first|apply cj'|intro hc|exact om'|fail
  ·have hnl:n < (vwS p).length:=by omega
   clear hc;obtain ⟨hv,hgm,hsm⟩:=vw_at hnl;refine lq' false [1,6,10,40,41,46] [2] [] (fun i:{q:Nat×Bool×Lev // q.1<=p.Rules.length/\Low p q.2.2/\(∀ v∈vwS p,v≠(vwS p).getD n []->q.2.2 v<=(vwS p).length)/\q.2.2 ((vwS p).getD n [])<=(vwS p).length+(8 * q.1:Nat)/\(q.2.1=false->q.2.2=g/\(∀ r∈p.Rules,r.Head.Name∈(vwS p).take n->a0n p g r)/\∀ r∈p.Rules.take q.1,r.Head.Name=(vwS p).getD n []->a0n p g r)/\(q.2.1=true->a2R p q.2.2 < a2R p g)}=>[(9,slV (.b i.1.2.1)),(47,slV (.i .i64 i.1.1))]) nl' (fun i=>[(100012,a0s,(lvl p i.1.2.2).map d3.cells)]) (fun i=>p.Rules.length - i.1.1) (⟨(0,ag2,g2),by simp,hL2,fun v hv2 _=>hle2 v hv2,by simp only;have:=hle2 _ hv;omega,fun h=>⟨(hF2 h).1,(hF2 h).2,by simp⟩,hM2⟩) ?_;intro S3 hS3 i;obtain ⟨⟨k,ag3,g3⟩,hk,hL3,ho3,hh3,hF3,hM3⟩:=i;simp only at hk hL3 ho3 hh3 hF3 hM3;simp only [go_sem,hS0,hS1,hll,hS2,hgm,hsm,hS3];repeat' first|apply cj'|intro hc|exact om'|fail
   ·have h3:ag3=false->g3=g/\(∀ r∈p.Rules,r.Head.Name∈(vwS p).take n->a0n p g r)/\∀ r∈p.Rules.take (k+1),r.Head.Name=(vwS p).getD n []->a0n p g r:=fun h=>by
     refine ⟨(hF3 h).1,(hF3 h).2.1,fun r hr he=>?_⟩;rw [i9 default (by omega),V0,V6] at hr;rcases hr with hr|rfl
     ·exact (hF3 h).2.2 r hr he
     ·rw [he] at hc;simp at hc
    (refine lpK_n2 (⟨(k+1,ag3,g3),by simp only;omega,hL3,ho3,by simp only;omega,h3,hM3⟩) _ rfl ?_;simp only [go_sem,hS0,hS1,hll,hS2,hgm,hsm,hS3]<;>repeat' first|apply V3|exact on'|fail)
   ·have hkl:k < p.Rules.length:=by omega
    have hrh:(p.Rules.getD k default).Head.Name=(vwS p).getD n []:=by simpa using hc
    clear hc;have hb8:=b9R hB hkl;have hrm:p.Rules.getD k default∈p.Rules:=A3w hkl;refine lq' false [1,6,10,12,40,41,46,47,66] [2,24] [] (fun i:{q:Nat×Bool×Lev // q.1<=(p.Rules.getD k default).Body.length/\Low p q.2.2/\(∀ v∈vwS p,v≠(vwS p).getD n []->q.2.2 v<=(vwS p).length)/\q.2.2 ((vwS p).getD n [])<=(vwS p).length+(8 * k+q.1:Nat)/\(q.2.1=false->q.2.2=g/\(∀ r∈p.Rules,r.Head.Name∈(vwS p).take n->a0n p g r)/\(∀ r∈p.Rules.take k,r.Head.Name=(vwS p).getD n []->a0n p g r)/\∀ l∈(p.Rules.getD k default).Body.take q.1,a2Q p g ((vwS p).getD n []) l)/\(q.2.1=true->a2R p q.2.2 < a2R p g)}=>[(9,slV (.b i.1.2.1)),(67,slV (.i .i64 i.1.1))]) nl' (fun i=>[(100012,a0s,(lvl p i.1.2.2).map d3.cells)]) (fun i=>(p.Rules.getD k default).Body.length - i.1.1) (⟨(0,ag3,g3),by simp,hL3,ho3,by simp only;omega,fun h=>⟨(hF3 h).1,(hF3 h).2.1,(hF3 h).2.2,by simp⟩,hM3⟩) ?_;intro S4 hS4 i;obtain ⟨⟨j,ag4,g4⟩,hj,hL4,ho4,hh4,hF4,hM4⟩:=i;simp only at hj hL4 ho4 hh4 hF4 hM4;have hLb:∀ v,-1<=a1c (lvl p g4) v/\a1c (lvl p g4) v<=400:=fun v=>by
     by_cases e:v∈vwS p
     ·rw [b7q g4 e];have:=hL4.ge v;by_cases e2:v=(vwS p).getD n []
      ·rw [e2] at this ⊢;omega
      ·have:=ho4 v e e2;omega
     ·rw [c0N g4 e];omega
    have hw:∀ v,IntKind.i64.wrap (a1c (lvl p g4) v+1)=a1c (lvl p g4) v+1:=fun v=>by have:=hLb v;rw [IntWalk.i64_in _ (by omega)]
    simp only [go_sem,hS0,hS1,hll,hS2,hgm,hsm,hS3,hS4,hw];repeat' first|apply cj'|intro hc|exact om'|fail
    ·rename_i hq;have hjl:j < (p.Rules.getD k default).Body.length:=by omega
     have hlm:((p.Rules.getD k default).Body.getD j default)∈(p.Rules.getD k default).Body:=A3w hjl;have hkk:((p.Rules.getD k default).Body.getD j default).Kind≠3:=by simpa using hc.1
     have hx0:=b8K (x:=a1c (lvl p g4) ((p.Rules.getD k default).Body.getD j default).Atom.Name+1) hL4.ge (.inl ⟨by simpa using hq,rfl⟩);have hh0:=hL4.ge ((vwS p).getD n []);have hc2:=hc.2;rcases hx0 with ⟨hvv,e⟩|⟨hvv,e⟩
     ·have hMM:a2R p g4<=a2R p g:=by
       cases hag4:ag4 with
       | true=>exact Nat.le_of_lt (hM4 hag4)
       | false=>rw [(hF4 hag4).1];exact V7 _
      have R:=a7r (j:=8 * k+j) hrm (by rw [hrh];exact hv) hlm hkk hvv hL4 (by rw [hrh];exact ho4) (by rw [hrh];exact hh4) (by omega) e (by rw [hrh];exact hc2) hMM;rw [hrh] at R
      (refine lpK_n2 (⟨(j+1,true,upd g4 ((vwS p).getD n []) (a1c (lvl p g4) ((p.Rules.getD k default).Body.getD j default).Atom.Name+1)),by simp only;omega,R.1,R.2.1,R.2.2.1,fun h=>(by cases h),fun _=>R.2.2.2⟩) _ rfl ?_;simp only [go_sem,hS0,hS1,hll,hS2,hgm,hsm,hS3,hS4,hw]<;>repeat' first|apply V3|exact on'|fail)
     ·exfalso;omega
    ·rename_i hq;have hjl:j < (p.Rules.getD k default).Body.length:=by omega
     have hst:a2Q p g4 ((vwS p).getD n []) ((p.Rules.getD k default).Body.getD j default):=c0O hL4.ge (.inl ⟨by simpa using hq,rfl⟩) hc;have h3:ag4=false->g4=g/\(∀ r∈p.Rules,r.Head.Name∈(vwS p).take n->a0n p g r)/\(∀ r∈p.Rules.take k,r.Head.Name=((vwS p).getD n [])->a0n p g r)/\∀ l∈(p.Rules.getD k default).Body.take (j+1),a2Q p g ((vwS p).getD n []) l:=fun h=>by
      have h5:=hF4 h;refine ⟨h5.1,h5.2.1,h5.2.2.1,c0Q hjl h5.2.2.2 ?_⟩;rw [<- h5.1];exact hst
     (refine lpK_n2 (⟨(j+1,ag4,g4),by simp only;omega,hL4,ho4,by simp only;omega,h3,hM4⟩) _ rfl ?_;simp only [go_sem,hS0,hS1,hll,hS2,hgm,hsm,hS3,hS4,hw]<;>repeat' first|apply V3|exact on'|fail)
    ·rename_i hq;have hjl:j < (p.Rules.getD k default).Body.length:=by omega
     have hlm:((p.Rules.getD k default).Body.getD j default)∈(p.Rules.getD k default).Body:=A3w hjl;have hkk:((p.Rules.getD k default).Body.getD j default).Kind≠3:=by simpa using hc.1
     have hx0:=b8K (x:=a1c (lvl p g4) ((p.Rules.getD k default).Body.getD j default).Atom.Name) hL4.ge (.inr ⟨hq,rfl⟩);have hh0:=hL4.ge ((vwS p).getD n []);have hc2:=hc.2;rcases hx0 with ⟨hvv,e⟩|⟨hvv,e⟩
     ·have hMM:a2R p g4<=a2R p g:=by
       cases hag4:ag4 with
       | true=>exact Nat.le_of_lt (hM4 hag4)
       | false=>rw [(hF4 hag4).1];exact V7 _
      have R:=a7r (j:=8 * k+j) hrm (by rw [hrh];exact hv) hlm hkk hvv hL4 (by rw [hrh];exact ho4) (by rw [hrh];exact hh4) (by omega) e (by rw [hrh];exact hc2) hMM;rw [hrh] at R
      (refine lpK_n2 (⟨(j+1,true,upd g4 ((vwS p).getD n []) (a1c (lvl p g4) ((p.Rules.getD k default).Body.getD j default).Atom.Name)),by simp only;omega,R.1,R.2.1,R.2.2.1,fun h=>(by cases h),fun _=>R.2.2.2⟩) _ rfl ?_;simp only [go_sem,hS0,hS1,hll,hS2,hgm,hsm,hS3,hS4,hw]<;>repeat' first|apply V3|exact on'|fail)
     ·exfalso;omega
    ·rename_i hq;have hjl:j < (p.Rules.getD k default).Body.length:=by omega
     have hst:a2Q p g4 ((vwS p).getD n []) ((p.Rules.getD k default).Body.getD j default):=c0O hL4.ge (.inr ⟨hq,rfl⟩) hc;have h3:ag4=false->g4=g/\(∀ r∈p.Rules,r.Head.Name∈(vwS p).take n->a0n p g r)/\(∀ r∈p.Rules.take k,r.Head.Name=((vwS p).getD n [])->a0n p g r)/\∀ l∈(p.Rules.getD k default).Body.take (j+1),a2Q p g ((vwS p).getD n []) l:=fun h=>by
      have h5:=hF4 h;refine ⟨h5.1,h5.2.1,h5.2.2.1,c0Q hjl h5.2.2.2 ?_⟩;rw [<- h5.1];exact hst
     (refine lpK_n2 (⟨(j+1,ag4,g4),by simp only;omega,hL4,ho4,by simp only;omega,h3,hM4⟩) _ rfl ?_;simp only [go_sem,hS0,hS1,hll,hS2,hgm,hsm,hS3,hS4,hw]<;>repeat' first|apply V3|exact on'|fail)
    ·have h3:ag4=false->g4=g/\(∀ r∈p.Rules,r.Head.Name∈(vwS p).take n->a0n p g r)/\∀ r∈p.Rules.take (k+1),r.Head.Name=((vwS p).getD n [])->a0n p g r:=fun h=>by
      have h5:=hF4 h;refine ⟨h5.1,h5.2.1,fun r hr he=>?_⟩;rw [i9 default (by omega),V0,V6] at hr;rcases hr with hr|rfl
      ·exact h5.2.2.1 r hr he
      ·intro _ l hl;rw [he];refine h5.2.2.2 l ?_;rw [i8 (by omega)];exact hl
     (refine lpK_n2 (⟨(k+1,ag4,g4),by simp only;omega,hL4,ho4,by simp only;omega,h3,hM4⟩) _ rfl ?_;simp only [go_sem,hS0,hS1,hll,hS2,hgm,hsm,hS3,hS4,hw]<;>repeat' first|apply V3|exact on'|fail)
   ·rw [b7r hL3 hv hc];exact ⟨rfl,rfl⟩
   ·have h1:∀ v∈vwS p,g3 v<=(vwS p).length:=fun v hv2=>by
     by_cases e:v=((vwS p).getD n [])
     ·rw [e];omega
     ·exact ho3 v hv2 e
    have h3:ag3=false->g3=g/\∀ r∈p.Rules,r.Head.Name∈(vwS p).take (n+1)->a0n p g r:=fun h=>by
     have h5:=hF3 h;refine ⟨h5.1,fun r hr he=>?_⟩;rw [i9 [] (by omega),V0,V6] at he;rcases he with he|he
     ·exact h5.2.1 r hr he
     ·exact h5.2.2 r (by rw [i8 (by omega)];exact hr) he
    (refine lpK_n2 (⟨(n+1,ag3,g3),by simp only;omega,hL3,h1,h3,hM3⟩) _ rfl ?_;simp only [go_sem,hS0,hS1,hll,hS2,hgm,hsm,hS3]<;>repeat' first|apply V3|exact on'|fail)
  ·have h3:ag2=false->Fx p g2:=fun h=>by
    have h5:=hF2 h;rw [i8 (by omega)] at h5;rw [h5.1];intro r hr hv2;exact h5.2 r hr hv2 hv2
   have hmm:ag2=false->g2=g:=fun h=>(hF2 h).1
   (refine lpK_n2 (⟨(ag2,g2),hL2,hle2,h3⟩) _ rfl ?_;simp only [go_sem,hS0,hS1,hll,hS2]<;>repeat' first|apply V3|exact on'|fail)
   cases hag2:ag2 with
   | false=>rw [hmm hag2,hag];simp only [W5,W4];omega
   | true=>have:=hM2 hag2;rw [hag];simp only [W5];omega
 ·rw [b5x hN ⟨hF hc,hL,hle⟩];exact ⟨rfl,rfl⟩
noncomputable def a8c:CT:=j6 (fun (x:c5)=>b6w x)
@[go_sem] def c5Q:=fun x0 x1=>nm' (fQ' a8c rfl ⟨x0,x1⟩)
noncomputable def b4K (p:c5):Bool:=(a0l p).2&&w5 p==-1
def b8L {p:c5} (h:(a0l p).2=true):((i6 p).1==0)=true:=by
 cases e:((i6 p).1==0) with
 | true=>rfl
 | false=>rw [a0l,e,W4] at h;exact h
def c0w {p:c5} (h:b4K p=true):((i6 p).1==0)=true:=by
 rw [b4K,W1] at h;exact b8L h.1
def c0I (p:c5):spZ 12 [(true,[o8 p.Decls,n7 p.Rules])] [] (.one (false,[.b (b4K p)])):=by
 refine sy' Tryz.func12 (q' 0 [ax (o' 1 (.box 2 (.t 0))),ab 2 false] (q' 6 [ae 2 1,ac 11 [6],aV 5,ao (.ext (.t 5) 0),ao (.ext (.t 5) 1),av 3 8,aV 4] (q' 10 [aM [4,10],au (.ld true 2 (.t 1)) 11 true,au (.call 21 [.t 12]) 11 true,au (.bin .eql (.t 13) (.k (.v false [.c (.i .i64 (-1))]))) 11 true,ao (.pick (.t 11) (.t 14) (bb false)),aV 2] .ret))) [.t 2] [(11,[],a4v),(21,[],a1e)] ?_;intro hb hE;simp only [go_sem];repeat' first|apply cj'|intro hc|exact om'|fail
 all_goals (first|rfl)
noncomputable def b2h:CT:=j6 (fun (x:c5)=>c0I x)
@[go_sem] def c7L:=fun x0 x1=>nm' (fQ' b2h rfl ⟨x0,x1⟩)
noncomputable def a0b (q:c5×Int×Int):c5×Int×Int:=
 bif q.2.1 != 0 then (default,q.2.1,q.2.2)
 else bif (i6 q.1).1 != 0 then (default,IntKind.i64.wrap (10+(i6 q.1).1),(i6 q.1).2)
 else bif decide (0<=w5 q.1) then (default,20,w5 q.1)
 else bif (a0l q.1).2 then (q.1,0,0) else (default,21,0)
noncomputable def m8 (s:List UInt8):c5×Int×Int:=a0b (z9 s)
def b9E {q:c5×Int×Int} (h:(q.2.1 != 0)=true):a0b q=(default,q.2.1,q.2.2):=by rw [a0b,h];rfl
def c3y {q:c5×Int×Int} (h:(q.2.1 != 0)=false) (h2:((i6 q.1).1 != 0)=true):a0b q=(default,IntKind.i64.wrap (10+(i6 q.1).1),(i6 q.1).2):=by rw [a0b,h,h2];rfl
def c3z {q:c5×Int×Int} (h:(q.2.1 != 0)=false) (h2:((i6 q.1).1 != 0)=false) (h3:0<=w5 q.1):a0b q=(default,20,w5 q.1):=by rw [a0b,h,h2,W8 h3];rfl
def c3A {q:c5×Int×Int} (h:(q.2.1 != 0)=false) (h2:((i6 q.1).1 != 0)=false) (h3:¬ 0<=w5 q.1) (h4:(a0l q.1).2=false):a0b q=(default,21,0):=by rw [a0b,h,h2,V1 h3,h4];rfl
def c3B {q:c5×Int×Int} (h:(q.2.1 != 0)=false) (h2:((i6 q.1).1 != 0)=false) (h3:¬ 0<=w5 q.1) (h4:(a0l q.1).2=true):a0b q=(q.1,0,0):=by rw [a0b,h,h2,V1 h3,h4];rfl
def b6v (s:List UInt8):spZ 10 [(false,[.s s])] [] (.tup [(true,[o8 (((m8 s).1).Decls),n7 (((m8 s).1).Rules)]),(false,[.i .i64 ((m8 s).2.1)]),(false,[.i .i64 ((m8 s).2.2)])]):=by
 refine sx' false true none Tryz.func10 (q' 2 [aw [.sl w4,.sl y7],aK 0,aK 0] (q' 12 [am 0,ac 35 [12],aV 11,ao (.ext (.t 11) 0),ao (.ext (.t 11) 1),ao (.ext (.t 11) 2),ax (w' 5 [.sl w4,.sl y7]),aS 2 5 14,av 6 15,aV 7] (.seq (q' 17 [am 6,ao (.bin .neq (.t 17) (k' 0))] (.cond (.t 18) (q' 19 [ao (.bld [.sl w4,.sl y7] []),aM [6,7],aS 2 2 19,av 3 20,aV 4] .ret) .skip)) (q' 23 [ae 2 5,ac 36 [23],aV 22,ao (.ext (.t 22) 0),ao (.ext (.t 22) 1),av 6 25,aV 7] (.seq (q' 27 [am 6,ao (.bin .neq (.t 27) (k' 0))] (.cond (.t 28) (q' 29 [ao (.bld [.sl w4,.sl y7] []),am 6,ao (.bin .add (k' 10) (.t 30)),am 7,aS 2 2 29,av 3 31,aV 4] .ret) .skip)) (q' 33 [ae 2 5,ac 37 [33],aV 8] (.seq (q' 35 [am 8,ao (.bin .geq (.t 35) (k' 0))] (.cond (.t 36) (q' 37 [ao (.bld [.sl w4,.sl y7] []),am 8,aS 2 2 37,az 3 20,aV 4] .ret) .skip)) (q' 40 [ae 2 5,ac 38 [40],aV 39,ao (.ext (.t 39) 0),ao (.ext (.t 39) 1),av 9 42,aV 10] (.seq (q' 44 [am 10,ao (.not (.t 44))] (.cond (.t 45) (q' 46 [ao (.bld [.sl w4,.sl y7] []),aS 2 2 46,az 3 21,az 4 0] .ret) .skip)) (q' 47 [ae 2 5,aS 2 2 47,az 3 0,az 4 0] .ret)))))))))) [.c 2 true 2,.t 3,.t 4] [(35,[],a9P),(36,[],a2a),(37,[],a4R),(38,[],a8c)] ?_;intro hb hE;simp only [go_sem];repeat' first|apply cj'|intro hc|exact om'|fail
 all_goals first
  | (rw [m8,b9E hc];exact ⟨⟨⟨rfl,rfl⟩,rfl⟩,rfl⟩)
  | (rename_i h1;rw [m8,c3y h1 hc];exact ⟨⟨⟨rfl,rfl⟩,rfl⟩,rfl⟩)
  | (rename_i h1 h2;rw [m8,c3z h1 h2 hc];exact ⟨⟨⟨rfl,rfl⟩,rfl⟩,rfl⟩)
  | (rename_i h1 h2 h3;rw [m8,c3A h1 h2 h3 hc];exact ⟨⟨⟨rfl,rfl⟩,rfl⟩,rfl⟩)
  | (rename_i h1 h2 h3;rw [m8,c3B h1 h2 h3 hc];exact ⟨⟨⟨rfl,rfl⟩,rfl⟩,rfl⟩)
  | trace_state
noncomputable def a8b:CT:=j6 (fun (x:(List UInt8))=>b6v x)
@[go_sem] def c5P:=fun s=>nm' (fQ' a8b rfl s)
end Go.Aw
namespace Go.Aw
open Go.Proofs
set_option linter.all false
set_option maxRecDepth 100000
def c3l (p:c5):0<=(i6 p).1/\(i6 p).1<=7:=by
 unfold i6;cases p8 p with
 | false=>exact ⟨Int.zero_le_ofNat 1,show (1:Int)<=7 by decide⟩
 | true=>
   simp only [q2N,W4];split
   ·exact ⟨show (0:Int)<=2 by decide,show (2:Int)<=7 by decide⟩
   ·split
    ·unfold u4;simp only;generalize (q0 _).any (a3X p)=b1;generalize (q0 _).any (a3Y p)=b2;generalize a3n p _=b3;generalize ((q0 _).drop 1).any b1r=b4;generalize b1q p _=b5
     revert b1 b2 b3 b4 b5
     decide
    ·exact ⟨by decide,by decide⟩
def b9F {q:c5×Int×Int} (h:(a0b q).2.1=0):a0b q=(q.1,0,0)/\b4K q.1=true:=by
 cases h1:(q.2.1 != 0) with
 | true=>rw [b9E h1] at h;rw [show q.2.1=0 from h] at h1;cases h1
 | false=>
   cases h2:((i6 q.1).1 != 0) with
   | true=>
     rw [c3y h1 h2] at h;have h3:=c3l q.1;rw [show IntKind.i64.wrap (10+(i6 q.1).1)=10+(i6 q.1).1 from IntWalk.i64_in _ ⟨by omega,by omega⟩] at h;simp only at h;omega
   | false=>
     by_cases h3:0<=w5 q.1
     ·rw [c3z h1 h2 h3] at h;cases h
     ·cases h4:(a0l q.1).2 with
      | false=>rw [c3A h1 h2 h3 h4] at h;cases h
      | true=>
        refine ⟨c3B h1 h2 h3 h4, ?_⟩;rw [b4K,h4,q0H];have h5:=a8V (by simpa [bne] using h2);have h6:=idxL_ge (p:=a4E) (l:=q.1.Rules);rw [w5,h5,W5] at h3 ⊢;simp only [beq_iff_eq];omega
attribute [local irreducible] aft blk lpK retK AW A0d
attribute [local irreducible] RM
set_option maxHeartbeats 4000000
def a5Z (t:d7):Bool:=(t.Kind==1&&t.N==0) || t.Kind==2 || (t.Kind==3&&t.S==[]) || t.Kind==4
def a0G (r:c4):Prop:=j3 r/\∀ t∈r.toks,a5Z t=true
def p5 (r:c4):d7:=bif l8 r then ⟨0,0,[],r.e⟩ else g9 r r.i
def a2M {r:c4} (h:l8 r=true):p5 r=⟨0,0,[],r.e⟩:=by rw [p5,h];rfl
def a1B {r:c4} (h:l8 r=false):p5 r=g9 r r.i:=by rw [p5,h];rfl
def a9Y (r:c4) (s:List UInt8):((p5 r).Kind==4&&(p5 r).S==s)=isS r r.i s:=by
 cases h:l8 r with
 | true=>
   rw [a2M h,isS];simp only [l8,q1G,q0P,W9] at h;rcases h with h|h
   ·rw [h];rfl
   ·rw [V1 (by omega),q1J];rfl
 | false=>
   rw [a1B h,isS];simp only [l8,q0R,q2I,q2Y] at h;rw [h.1,W8 (by omega)];rfl
def c6h (r:c4):((p5 r).Kind==1&&!a1H (p5 r).S)=a0x r:=by
 cases h:l8 r with
 | true=>rw [a2M h,a0x,h];rfl
 | false=>
   rw [a1B h,a0x,h,q3N,Bool.not_or,q3H]
def b4M {r:c4} (h:a0G r) (hn:l8 r=false):a5Z (g9 r r.i)=true:=by
 have h1:=a2U hn;have h0:=h.1.1.1;refine h.2 _ ?_;rw [g9,v8 default (by omega)];exact q0U _
def a3S (r:c4):Bool:=!l7 r
def c6g {r:c4} (h:a0G r):((p5 r).Kind==2 || (p5 r).Kind==3 || a0x r)=a3S r:=by
 cases hn:l8 r with
 | true=>rw [a2M hn,a3S,l7,a0x,hn];rfl
 | false=>
   have ht:=b4M h hn;rw [a1B hn,a3S,l7,a0x,hn];simp only [a5Z] at ht;generalize g9 r r.i=t at *;simp only [q1G,W1,beq_iff_eq] at ht;rcases ht with ((⟨ht,_⟩|ht)|⟨ht,_⟩)|ht<;>rw [ht]<;>simp
def b2R:Nat->c4->List c8->c4×List c8
 | 0,r,a=>(r,a)
 | n+1,r,a=>bif r.code==0 then
    (bif a3S r&&(a.length:Int)==6 then (i3 r 7,a)
     else bif isS (termC r false) (termC r false).i l9 then b2R n (g8 (termC r false)) (a++[u6 r false])
     else (termC r false,a++[u6 r false]))
   else (r,a)
def a0V {r:c4} {i:Int} {s:List UInt8} (h:r.code≠0):isS r i s=false:=by
 rw [isS,show (r.code==0)=false by simpa using h];rfl
def b8d:∀ (n:Nat) (r:c4) (a:List c8),(b2R n r a).1=(a3U n r a).1/\((a3U n r a).1.code=0->(b2R n r a).2=(a3U n r a).2)
 | 0,r,a=>⟨rfl,fun _=>rfl⟩
 | n+1,r,a=>by
   rw [b2R,a3U];cases hc:r.code==0 with
   | false=>exact ⟨rfl,fun _=>rfl⟩
   | true=>
     rw [W5,W5];cases hf:((a.length:Int)==6) with
     | false=>
       rw [q1J,W4];cases hs:isS (termC r false) (termC r false).i l9 with
       | false=>exact ⟨rfl,fun _=>rfl⟩
       | true=>exact b8d n _ _
     | true=>
       rw [q0Z];cases hb:l7 r with
       | true=>
         have e:termC r true=termC r false/\u6 r true=u6 r false:=by rw [(a1x hb).1,(a1x hb).2,(a1x hb).1,(a1x hb).2];exact ⟨rfl,rfl⟩
         rw [a3S,hb,e.1,e.2];simp only [q2N,W4];rw [a0V (by rw [(a1x hb).2];exact p9 (by decide))];exact ⟨rfl,fun _=>rfl⟩
       | false=>
         rw [a3S,hb,(b1U hb).1,(b1U hb).2];simp only [q2P,W5];rw [a0V (p9 (by decide))];exact ⟨rfl,fun h=>absurd h (p9 (by decide))⟩
def a1S (r:c4):d4:=
 bif isS (i7 (j1 r) s6) (i7 (j1 r) s6).i a3c then ⟨a0w r,[]⟩
 else ⟨a0w r,(b2R (p6 (i7 (j1 r) s6)) (i7 (j1 r) s6) []).2⟩
def c1n {r:c4} {s:List UInt8} (h:(i7 r s).code=0):r.code=0:=(a3u r s).c h
def b4i {r:c4} (h:(j8 r).1.code=0):a1S r=(j8 r).2:=by
 rw [j8] at h ⊢;rw [a1S];cases hs:isS (i7 (j1 r) s6) (i7 (j1 r) s6).i a3c with
 | true=>rfl
 | false=>
   rw [hs] at h;have h1:=(b8d (p6 (i7 (j1 r) s6)) (i7 (j1 r) s6) []).2 (c1n h);rw [W4,W4,h1]
def opI (s:List UInt8):Int:=a3P (fun y=>s==y) [[],[61],[33,61],[60],[60,61]]
def opJ (r:c4):Int:=bif (p5 r).Kind==4 then opI (p5 r).S else 0
def c3m (r:c4):opR r=bif decide (opJ r < 1) then 0 else opJ r:=by
 rw [opR,<- a9Y,<- a9Y,<- a9Y,<- a9Y,opJ];cases (p5 r).Kind==4 with
 | false=>rfl
 | true=>
   generalize (p5 r).S=s;simp only [q0H,W5];by_cases h1:s=[61]
   ·subst h1;rfl
   ·by_cases h2:s=[33,61]
    ·subst h2;rfl
    ·by_cases h3:s=[60]
     ·subst h3;rfl
     ·by_cases h4:s=[60,61]
      ·subst h4;rfl
      ·rw [beq_eq_false_iff_ne.2 h1,beq_eq_false_iff_ne.2 h2,beq_eq_false_iff_ne.2 h3,beq_eq_false_iff_ne.2 h4];have h:opI s < 1:=by
        by_cases h0:s=[]
        ·subst h0;decide
        ·rw [opI,y6]
         ·decide
         ·simp only [q2V,q4W,q3O,q0R,beq_eq_false_iff_ne];exact ⟨h0,h1,h2,h3,h4⟩
       rw [W8 h];rfl
def a2o (r:c4):c7:=
 bif !l8 r&&((g9 r r.i).Kind==1&&(g9 r r.i).S==a2i) then ⟨2,a1S (g8 r),0,default,default⟩
 else bif !l8 r&&((g9 r r.i).Kind==1&&(!a1H (g9 r r.i).S&&isS r (r.i+1) s6)) then ⟨1,a1S r,0,default,default⟩
 else bif decide (opJ (termC r false) < 1) then ⟨3,default,opJ (termC r false),u6 r false,default⟩
 else ⟨3,default,opJ (termC r false),u6 r false,u6 (g8 (termC r false)) false⟩
def c4x {r:c4} (h:(j5 r).1.code=0):a2o r=(j5 r).2:=by
 rw [j5] at h ⊢;rw [a2o];cases h1:(!l8 r&&((g9 r r.i).Kind==1&&(g9 r r.i).S==a2i)) with
 | true=>rw [h1] at h;rw [W5,W5,b4i h]
 | false=>
   rw [h1] at h;cases h2:(!l8 r&&((g9 r r.i).Kind==1&&(!a1H (g9 r r.i).S&&isS r (r.i+1) s6))) with
   | true=>rw [h2] at h;rw [W4,W5,W4,W5,b4i h]
   | false=>
     rw [h2] at h;have ho:=c3m (termC r false);simp only [W4] at h ⊢;by_cases h3:opJ (termC r false) < 1
     ·rw [W8 h3,W5] at ho;rw [ho] at h;exact absurd ((a1a _ false).c h) (p9 (by decide))
     ·rw [V1 h3,W4] at ho;rw [V1 h3,ho,show (opJ (termC r false)==0)=false from beq_eq_false_iff_ne.2 (by omega)];rfl
def a5G:Nat->c4->List c7->c4×List c7
 | 0,r,a=>(r,a)
 | n+1,r,a=>bif r.code==0 then
    (bif b0k r&&(a.length:Int)==8 then (i3 r 7,a)
     else bif isS (j5 r).1 (j5 r).1.i l9 then a5G n (g8 (j5 r).1) (a++[a2o r])
     else ((j5 r).1,a++[a2o r]))
   else (r,a)
def a7t {r:c4} (h:r.code≠0):l8 r=true:=by rw [l8,show (r.code==0)=false by simpa using h];rfl
def a3N {r:c4} {c:Int} (h:r.code≠0):i3 r c=r:=b1n (by simpa [bne] using h)
def a2l {r:c4} {s:List UInt8} (h:r.code≠0):i7 r s=r:=by rw [a7A (a0V h),a3N h]
def c1v {r:c4} (h:r.code≠0):j1 r=r:=by rw [j1,a0x,a7t h];exact a3N h
def c1o {r:c4} {f:Bool} (h:r.code≠0):termC r f=r:=by rw [(a1x (show l7 r=true by rw [l7,a7t h];rfl)).2,a3N h]
def op_off {r:c4} (h:r.code≠0):opR r=0:=by rw [opR,a0V h,a0V h,a0V h,a0V h];rfl
def lit_off {r:c4} (h:r.code≠0):(j5 r).1=r:=by
 rw [j5,a7t h];simp only [q2N,Bool.false_and,W4,c1o h,op_off h,a3N h,beq_self_eq_true,W5]
def b9N {n:Nat} {r:c4} {a:List c8} (h:r.code≠0):(a3U n r a)=(r,a):=by
 cases n with
 | zero=>rfl
 | succ n=>rw [a3U,show (r.code==0)=false by simpa using h];rfl
def c7x {r:c4} (h:r.code≠0):(j8 r).1=r:=by
 rw [j8,c1v h,a2l h,a0V h,W4];simp only [b9N h,a2l h]
def c8H {r:c4} (h:r.code≠0):(v9 r).1=r:=by
 rw [a1v,u9,a0V h,a0V h];simp only [q4Y,W4,c7x h,a2q,a0V h,a2l h]
def c7V {r:c4} {k:Int} (h:r.code≠0):(l3 r k).1=r:=by
 rw [l3,c1v h,a2l h];simp only [a1o,a7t h,q4X,q2N,W4,a3N h]
def a9C:∀ (n:Nat) (r:c4) (a:List c7),(a5G n r a).1=(a1T n r a).1/\((a1T n r a).1.code=0->(a5G n r a).2=(a1T n r a).2)
 | 0,r,a=>⟨rfl,fun _=>rfl⟩
 | n+1,r,a=>by
   rw [a5G,a1T];cases hc:r.code==0 with
   | false=>exact ⟨rfl,fun _=>rfl⟩
   | true=>
     rw [W5,W5];cases hf:(b0k r&&(a.length:Int)==8) with
     | true=>
       have e:u3 r a.length=i3 r 7:=by rw [u3,Bool.and_comm,hf];rfl
       have h7:(i3 r 7).code≠0:=p9 (by decide);rw [e,lit_off h7,a0V h7];exact ⟨rfl,fun h=>absurd h h7⟩
     | false=>
       have e:u3 r a.length=r:=by rw [u3,Bool.and_comm,hf];rfl
       rw [e,W4];cases hs:isS (j5 r).1 (j5 r).1.i l9 with
       | false=>exact ⟨rfl,fun h=>by show a++[a2o r]=a++[(j5 r).2];rw [c4x h]⟩
       | true=>
         rw [c4x (w9 hs).1];exact a9C n _ _
def a1u {r q:c4} (h:Adv r q) (hr:a0G r):a0G q:=⟨h.ok hr.1,by rw [h.t];exact hr.2⟩
def b6N:∀ (n m:Nat) {r:c4} {a:List c8},j3 r->r.toks.length < n+r.i.toNat->r.toks.length < m+r.i.toNat->b2R n r a=b2R m r a
 | 0,_,r,a,h,h1,_=>by obtain ⟨⟨h0,h2⟩,_⟩:=h;omega
 | _,0,r,a,h,_,h1=>by obtain ⟨⟨h0,h2⟩,_⟩:=h;omega
 | n+1,m+1,r,a,h,h1,h2=>by
   rw [b2R,b2R];cases hs:isS (termC r false) (termC r false).i l9 with
   | false=>rfl
   | true=>
     have ha:=a1a r false;have hk:=ha.ok h;have hlt:=(w9 hs).2;have h0:=h.1.1;have h3:=hk.1.1;have h4:=ha.i;have e:=b6N n m (a:=a++[u6 r false]) (u7 hk hlt) (by show (termC r false).toks.length < n+((termC r false).i+1).toNat;rw [ha.t];omega) (by show (termC r false).toks.length < m+((termC r false).i+1).toNat;rw [ha.t];omega);rw [W5,e];rfl
def a6u (r:c4) (a:List c8):c4×List c8:=b2R (p6 r) r a
def c5y {r:c4} {a:List c8} (h:¬ r.code=0):a6u r a=(r,a):=by
 rw [a6u];cases p6 r with
 | zero=>rfl
 | succ n=>rw [b2R,show (r.code==0)=false by simpa using h];rfl
def b4h {r:c4} {a:List c8} (h:j3 r) (hc:r.code=0):a6u r a=bif a3S r&&(a.length:Int)==6 then (i3 r 7,a) else bif isS (termC r false) (termC r false).i l9 then a6u (g8 (termC r false)) (a++[u6 r false]) else (termC r false,a++[u6 r false]):=by
 have h0:=h.1;have hf:p6 r=(p6 r - 1)+1:=by rw [p6];omega
 rw [a6u,hf,b2R,show (r.code==0)=true by simpa using hc,W5];cases hs:isS (termC r false) (termC r false).i l9 with
 | false=>rfl
 | true=>
   have ha:=a1a r false;have hk:=ha.ok h;have hlt:=(w9 hs).2;have h3:=hk.1.1;have h4:=ha.i;have e:=b6N (p6 r - 1) (p6 (g8 (termC r false))) (a:=a++[u6 r false]) (u7 hk hlt) (by show (termC r false).toks.length < p6 r - 1+((termC r false).i+1).toNat;rw [ha.t,p6];omega) (by rw [p6];show _ < (termC r false).toks.length+2 - ((termC r false).i+1).toNat+_;show (termC r false).toks.length < (termC r false).toks.length+2 - ((termC r false).i+1).toNat+((termC r false).i+1).toNat;omega);rw [W5,W5,e,a6u]
def b4l:∀ (n m:Nat) {r:c4} {a:List c7},j3 r->r.toks.length < n+r.i.toNat->r.toks.length < m+r.i.toNat->a5G n r a=a5G m r a
 | 0,_,r,a,h,h1,_=>by obtain ⟨⟨h0,h2⟩,_⟩:=h;omega
 | _,0,r,a,h,_,h1=>by obtain ⟨⟨h0,h2⟩,_⟩:=h;omega
 | n+1,m+1,r,a,h,h1,h2=>by
   rw [a5G,a5G];cases hs:isS (j5 r).1 (j5 r).1.i l9 with
   | false=>rfl
   | true=>
     have ha:=a0H r;have hk:=ha.ok h;have hlt:=(w9 hs).2;have h0:=h.1.1;have h3:=hk.1.1;have h4:=ha.i;have e:=b4l n m (a:=a++[a2o r]) (u7 hk hlt) (by show (j5 r).1.toks.length < n+((j5 r).1.i+1).toNat;rw [ha.t];omega) (by show (j5 r).1.toks.length < m+((j5 r).1.i+1).toNat;rw [ha.t];omega);rw [W5,e];rfl
def a1U (r:c4) (a:List c7):c4×List c7:=a5G (p6 r) r a
def c5A {r:c4} {a:List c7} (h:¬ r.code=0):a1U r a=(r,a):=by
 rw [a1U];cases p6 r with
 | zero=>rfl
 | succ n=>rw [a5G,show (r.code==0)=false by simpa using h];rfl
def b4m {r:c4} {a:List c7} (h:j3 r) (hc:r.code=0):a1U r a=bif b0k r&&(a.length:Int)==8 then (i3 r 7,a) else bif isS (j5 r).1 (j5 r).1.i l9 then a1U (g8 (j5 r).1) (a++[a2o r]) else ((j5 r).1,a++[a2o r]):=by
 have h0:=h.1;have hf:p6 r=(p6 r - 1)+1:=by rw [p6];omega
 rw [a1U,hf,a5G,show (r.code==0)=true by simpa using hc,W5];cases hs:isS (j5 r).1 (j5 r).1.i l9 with
 | false=>rfl
 | true=>
   have ha:=a0H r;have hk:=ha.ok h;have hlt:=(w9 hs).2;have h3:=hk.1.1;have h4:=ha.i;have e:=b4l (p6 r - 1) (p6 (g8 (j5 r).1)) (a:=a++[a2o r]) (u7 hk hlt) (by show (j5 r).1.toks.length < p6 r - 1+((j5 r).1.i+1).toNat;rw [ha.t,p6];omega) (by rw [p6];show (j5 r).1.toks.length < (j5 r).1.toks.length+2 - ((j5 r).1.i+1).toNat+((j5 r).1.i+1).toNat;omega);rw [W5,W5,e,a1U]
def a5h (r:c4):c6:=⟨a0X r,a1S (u9 r),bif isS (j8 (u9 r)).1 (j8 (u9 r)).1.i b0v then (a5G (p6 (g8 (j8 (u9 r)).1)) (g8 (j8 (u9 r)).1) []).2 else []⟩
def c8G {r:c4} (h:(v9 r).1.code=0):a5h r=(v9 r).2:=by
 rw [a1v] at h ⊢;have h1:=c1n h;have h2:=(b0W _).c h1;rw [a5h,b4i h2];rw [a2q] at h1 ⊢;cases hs:isS (j8 (u9 r)).1 (j8 (u9 r)).1.i b0v with
 | false=>rfl
 | true=>
   rw [hs] at h1;have h3:=(a9C (p6 (g8 (j8 (u9 r)).1)) (g8 (j8 (u9 r)).1) []).2 h1;rw [W5,W5,h3];rfl
def here_e {r:c4} (h:(r.code != 0)=true\/(r.toks.length:Int)<=r.i):p5 r=⟨0,0,[],r.e⟩:=a2M (a7u h)
def here_t {r:c4} (h:(r.code != 0)=false/\¬ (r.toks.length:Int)<=r.i):p5 r=r.toks.getD r.i.toNat default:=by rw [a1B (a5g h),g9]
def a8O (r:c4) (hpre:j3 r):spZ 109 [(false,[.p [j2 r.toks,.i .i64 r.i,.i .i64 r.e,.i .i64 r.code,.i .i64 r.p]])] [] (.one (true,[.i .i64 ((p5 r).Kind),.i .i64 ((p5 r).N),.s ((p5 r).S),.i .i64 ((p5 r).At)])):=by
 refine sx' false true none Tryz.func109 (q' 2 [aw [.i .i64,.i .i64,.s,.i .i64]] (.seq (.seq (G' 3 [am 0,ao (.nck (.t 3)),aG 3 4,ao (.bin .neq (.t 6) (k' 0)),am 7,au (.mov (.t 0)) 8 false,au (.nck (.t 9)) 8 false,au (.fa 1 (.t 10)) 8 false,au (.ld false 1 (.t 11)) 8 false,au (.mov (.t 0)) 8 false,au (.nck (.t 13)) 8 false,au (.fa 0 (.t 14)) 8 false,au (.ld false 1 (.t 15)) 8 false,au (.len (.t 16)) 8 false,au (.bin .geq (.t 12) (.t 17)) 8 false,ao (.pick (.t 8) (bb true) (.t 18))]) (.cond (.t 19) (q' 20 [am 0,ao (.nck (.t 20)),aG 2 21,ao (.bld [.i .i64,.i .i64,.s,.i .i64] [(3,1,.t 23)]),aS 4 2 24] .ret) .skip)) (.seq (.rego [(true,0,m' 25 0),(true,1,o' 26 (.nck (.t 25))),(true,2,f' 27 0 26),(true,3,l' 28 27),(false,4,m' 29 0),(false,5,o' 30 (.nck (.t 29))),(false,6,f' 31 1 30),(false,7,l' 32 31),(false,8,i' 33 4 28 32),(false,9,e' 34 4 33),(false,10,s' 4 2 34)] [0,1,1000000]) .ret))) [.c 2 true 4] [] ?_;intro hb hE;obtain ⟨⟨h0,h1⟩,h2⟩:=hpre;simp only [go_sem];repeat' first|apply cj'|intro hc|exact om'|fail
 ·rw [here_e hc];exact ⟨⟨⟨rfl,rfl⟩,rfl⟩,rfl⟩
 ·rw [here_t hc];exact ⟨⟨⟨rfl,rfl⟩,rfl⟩,rfl⟩
noncomputable def k7:CT:=u2 (fun (x:c4) h=>a8O x h)
@[go_sem] def b9h:=fun x0 x1 x2 x3 x4=>nm' (fP' k7 rfl ⟨x0,x1,x2,x3,x4⟩)
def c3a {r:c4} {c:Int} (h:(r.code==0)=true):i3 r c=⟨r.toks,r.i,r.e,c,(p5 r).At⟩:=by
 rw [i3,h,p5,l8,h];by_cases hl:r.i < r.toks.length
 ·rw [W8 hl,V1 (by omega)];rfl
 ·rw [V1 hl,W8 (by omega)];rfl
def a7a (r:c4) (hpre:j3 r):spZ 110 [(false,[.p [j2 r.toks,.i .i64 r.i,.i .i64 r.e,.i .i64 r.code,.i .i64 r.p]])] [] (.one (false,[.b (a0x r)])):=by
 refine sy' Tryz.func110 (q' 0 [ab 2 false] (q' 4 [am 0,ac 109 [4],ax (w' 3 [.i .i64,.i .i64,.s,.i .i64]),aS 4 3 5] (q' 6 [aG 0 3,ao (.bin .eql (.t 7) (k' 1)),am 8,au (.fa 2 (.t 3)) 9 true,au (.ld false 1 (.t 10)) 9 true,au (.call 170 [.t 11]) 9 true,au (.not (.t 12)) 9 true,ao (.pick (.t 9) (.t 13) (bb false)),aV 2] .ret))) [.t 2] [(109,[],k7),(170,[],a4b)] ?_;intro hb hE;simp only [go_sem];repeat' first|apply cj'|intro hc|exact om'|fail
 ·exact hpre
 ·exact c6h r
noncomputable def z6:CT:=u2 (fun (x:c4) h=>a7a x h)
@[go_sem] def b6Z:=fun x0 x1 x2 x3 x4=>nm' (fP' z6 rfl ⟨x0,x1,x2,x3,x4⟩)
def a7b (r:c4) (s:List UInt8) (hpre:j3 r):spZ 111 [(false,[.p [j2 r.toks,.i .i64 r.i,.i .i64 r.e,.i .i64 r.code,.i .i64 r.p]]),(false,[.s s])] [] (.one (false,[.b (isS r r.i s)])):=by
 refine sy' Tryz.func111 (q' 0 [ab 4 false] (q' 6 [am 0,ac 109 [6],ax (w' 5 [.i .i64,.i .i64,.s,.i .i64]),aS 4 5 7] (q' 8 [aG 0 5,ao (.bin .eql (.t 9) (k' 4)),am 10,au (.fa 2 (.t 5)) 11 true,au (.ld false 1 (.t 12)) 11 true,au (.mov (.t 1)) 11 true,au (.bin .eql (.t 13) (.t 14)) 11 true,ao (.pick (.t 11) (.t 15) (bb false)),aV 4] .ret))) [.t 4] [(109,[],k7)] ?_;intro hb hE;simp only [go_sem];repeat' first|apply cj'|intro hc|exact om'|fail
 ·exact hpre
 ·exact a9Y r s
noncomputable def v6:CT:=u2 (fun (x:c4×(List UInt8)) h=>a7b x.1 x.2 h)
@[go_sem] def b7a:=fun x0 x1 x2 x3 x4 s=>nm' (fP' v6 rfl (⟨x0,x1,x2,x3,x4⟩,s))
def a8N (r:c4) (c:Int) (hpre:j3 r):spZ 112 [(false,[.mp [j2 r.toks,.i .i64 r.i,.i .i64 r.e,.i .i64 r.code,.i .i64 r.p]]),(false,[.i .i64 c])] [(0,(false,[.mp [j2 ((i3 r c).toks),.i .i64 ((i3 r c).i),.i .i64 ((i3 r c).e),.i .i64 ((i3 r c).code),.i .i64 ((i3 r c).p)]]))] (.tup []):=by
 refine sx' false false (some 0) Tryz.func112 (q' 5 [am 0,ao (.nck (.t 5)),aG 3 6,ao (.bin .eql (.t 8) (k' 0))] (.cond (.t 9) (q' 10 [am 0,ac 109 [10],ax (w' 4 [.i .i64,.i .i64,.s,.i .i64]),aS 4 4 11] (q' 12 [aM [0,1],ao (.nck (.t 12)),aF 3,aS 1 15 13] (g' 16 [am 0,aG 3 4,ao (.nck (.t 16)),aF 4,aS 1 20 18]))) .skip)) [] [(109,[],k7)] ?_;intro hb hE;simp only [go_sem];repeat' first|apply cj'|intro hc|exact om'|fail
 ·exact hpre
 ·rw [c3a hc]
 ·rw [b1n (by rw [bne,hc];rfl)]
noncomputable def o7:CT:=u2 (fun (x:c4×Int) h=>a8N x.1 x.2 h)
@[go_sem] def b9g:=fun x0 x1 x2 x3 x4 c=>nm' (fP' o7 rfl (⟨x0,x1,x2,x3,x4⟩,c))
def a7c (r:c4) (hpre:a0G r):spZ 281 [(false,[.p [j2 r.toks,.i .i64 r.i,.i .i64 r.e,.i .i64 r.code,.i .i64 r.p]])] [] (.one (false,[.b (a3S r)])):=by
 refine sy' Tryz.func281 (q' 0 [ab 2 false] (q' 4 [am 0,ac 109 [4],ax (w' 3 [.i .i64,.i .i64,.s,.i .i64]),aS 4 3 5] (q' 6 [aG 0 3,ao (.bin .eql (.t 7) (k' 2)),am 8,au (.fa 0 (.t 3)) 9 false,au (.ld false 1 (.t 10)) 9 false,au (.bin .eql (.t 11) (k' 3)) 9 false,ao (.pick (.t 9) (bb true) (.t 12)),am 13,au (.mov (.t 0)) 14 false,au (.call 110 [.t 15]) 14 false,ao (.pick (.t 14) (bb true) (.t 16)),aV 2] .ret))) [.t 2] [(109,[],k7),(110,[],z6)] ?_;intro hb hE;have hk:=hpre.1;simp only [go_sem];repeat' first|apply cj'|intro hc|exact om'|fail
 ·exact hk
 ·exact hk
 ·exact c6g hpre
noncomputable def a0q:CT:=u2 (fun (x:c4) h=>a7c x h)
@[go_sem] def b7b:=fun x0 x1 x2 x3 x4=>nm' (fP' a0q rfl ⟨x0,x1,x2,x3,x4⟩)
def a8Q (r:c4) (s:List UInt8) (hpre:j3 r):spZ 212 [(false,[.mp [j2 r.toks,.i .i64 r.i,.i .i64 r.e,.i .i64 r.code,.i .i64 r.p]]),(false,[.s s])] [(0,(false,[.mp [j2 ((i7 r s).toks),.i .i64 ((i7 r s).i),.i .i64 ((i7 r s).e),.i .i64 ((i7 r s).code),.i .i64 ((i7 r s).p)]]))] (.tup []):=by
 refine sx' false false (some 0) Tryz.func212 (.seq (q' 4 [aM [0,1],ac 111 [4,5],ao (.not (.t 6))] (.cond (.t 7) (q' 8 [am 0,ao (.call 112 [.t 8,.k (.v false [.c (.i .i64 6)])])] .ret) .skip)) (g' 10 [am 0,ao (.nck (.t 10)),aG 1 11,ao (.bin .add (.t 13) (k' 1)),ao (.nck (.t 10)),aF 1,aS 1 16 14])) [] [(111,[],v6),(112,[0],o7)] ?_;intro hb hE;have hw1:=a2W hpre;simp only [go_sem];repeat' first|apply cj'|intro hc|exact om'|fail
 ·exact hpre
 ·exact hpre
 ·rw [a7A hc]
 ·rw [a7l hc,hw1];rfl
noncomputable def a0J:CT:=u2 (fun (x:c4×(List UInt8)) h=>a8Q x.1 x.2 h)
@[go_sem] def b9j:=fun x0 x1 x2 x3 x4 s=>nm' (fP' a0J rfl (⟨x0,x1,x2,x3,x4⟩,s))
def c8W {r:c4} (h:a0x r=true):l8 r=false:=by
 simp only [a0x,q0P,q0R] at h;exact h.1
def c6v {r:c4} (h:a0x r=true):p5 r=g9 r r.i:=a1B (c8W h)
def term_n {r:c4} (h:a3S r=false):termC r false=i3 r 6/\u6 r false=default:=by
 have hb:l7 r=true:=by rw [a3S] at h;simpa using h
 exact ⟨(a1x hb).2,(a1x hb).1⟩
def c3s {r:c4} (h:a0G r) (hy:a3S r=true):termC r false=g8 r/\u6 r false=bif (p5 r).Kind==2 then ⟨(p5 r).S,default⟩ else bif (p5 r).Kind==3 then ⟨[],⟨(p5 r).N,[]⟩⟩ else ⟨[],⟨0,(p5 r).S⟩⟩:=by
 have hb:l7 r=false:=by rw [a3S] at hy;simpa using hy
 have hn:l8 r=false:=by simp only [l7,q0R] at hb;exact hb.1
 have ht:=b4M h hn;obtain ⟨e1,e2⟩:=b8W hb;refine ⟨e2, ?_⟩;rw [e1,a1B hn];simp only [l7,q0R,beq_eq_false_iff_ne] at hb;have h4:=hb.2.1;simp only [a5Z,q1G,W1,beq_iff_eq] at ht;rcases ht with ((⟨ht,h5⟩|ht)|⟨ht,h5⟩)|ht
 ·rw [ht,h5];rfl
 ·rw [ht];rfl
 ·rw [ht,h5];rfl
 ·exact absurd ht h4
def a8P (r:c4) (hpre:j3 r):spZ 211 [(false,[.mp [j2 r.toks,.i .i64 r.i,.i .i64 r.e,.i .i64 r.code,.i .i64 r.p]])] [(0,(false,[.mp [j2 ((j1 r).toks),.i .i64 ((j1 r).i),.i .i64 ((j1 r).e),.i .i64 ((j1 r).code),.i .i64 ((j1 r).p)]]))] (.one (false,[.s (a0w r)])):=by
 refine sx' false false (some 0) Tryz.func211 (q' 2 [ao (.mov (.k (.v false [.c (.s [])])))] (.seq (q' 4 [am 0,ac 110 [4],ao (.not (.t 5))] (.cond (.t 6) (q' 7 [am 0,ao (.call 112 [.t 7,.k (.v false [.c (.i .i64 6)])])] (q' 2 [ao (.mov (.k (.v false [.c (.s [])])))] .ret)) .skip)) (q' 9 [am 0,ac 109 [9],ax (w' 3 [.i .i64,.i .i64,.s,.i .i64]),aS 4 3 10] (q' 11 [am 0,ao (.nck (.t 11)),aG 1 12,ao (.bin .add (.t 14) (k' 1)),ao (.nck (.t 11)),aF 1,aS 1 17 15] (q' 18 [aG 2 3,aV 2] .ret))))) [.t 2] [(110,[],z6),(112,[0],o7),(109,[],k7)] ?_;intro hb hE;have hw1:=a2W hpre;simp only [go_sem,hw1];repeat' first|apply cj'|intro hc|exact om'|fail
 ·exact hpre
 ·exact hpre
 ·rw [a0w,j1,hc];exact ⟨rfl,rfl⟩
 ·exact hpre
 ·rw [c6v hc,a0w,j1,hc];exact ⟨rfl,rfl⟩
noncomputable def a1E:CT:=u2 (fun (x:c4) h=>a8P x h)
@[go_sem] def b9i:=fun x0 x1 x2 x3 x4=>nm' (fP' a1E rfl ⟨x0,x1,x2,x3,x4⟩)
def a8S (r:c4) (hpre:a0G r):spZ 282 [(false,[.mp [j2 r.toks,.i .i64 r.i,.i .i64 r.e,.i .i64 r.code,.i .i64 r.p]])] [(0,(false,[.mp [j2 ((termC r false).toks),.i .i64 ((termC r false).i),.i .i64 ((termC r false).e),.i .i64 ((termC r false).code),.i .i64 ((termC r false).p)]]))] (.one (true,[.s ((u6 r false).Var),.i .i64 (((u6 r false).Val).N),.s (((u6 r false).Val).S)])):=by
 refine sx' false true (some 0) Tryz.func282 (q' 2 [aw [.s,.i .i64,.s]] (.seq (q' 4 [am 0,ac 281 [4],ao (.not (.t 5))] (.cond (.t 6) (q' 7 [am 0,ao (.call 112 [.t 7,.k (.v false [.c (.i .i64 6)])])] (q' 9 [ao (.bld [.s,.i .i64,.s] []),aS 3 2 9] .ret)) .skip)) (q' 10 [am 0,ac 109 [10],ax (w' 3 [.i .i64,.i .i64,.s,.i .i64]),aS 4 3 11] (q' 12 [am 0,ao (.nck (.t 12)),aG 1 13,ao (.bin .add (.t 15) (k' 1)),ao (.nck (.t 12)),aF 1,aS 1 18 16] (.seq (q' 19 [aG 0 3] (.block 0 (q' 22 [ao (.bin .eql (.t 20) (k' 2)),aV 21] (.cond (.t 21) (q' 23 [aG 2 3,ao (.bld [.s,.i .i64,.s] [(0,1,.t 24)]),aS 3 2 25] .ret) (q' 27 [ao (.bin .eql (.t 20) (k' 3)),aV 26] (.cond (.t 26) (q' 28 [aG 1 3,ao (.bld [.i .i64,.s] [(0,1,.t 29)]),ao (.bld [.s,.i .i64,.s] [(1,2,.t 30)]),aS 3 2 31] .ret) .skip)))))) (q' 32 [aG 2 3,ao (.bld [.i .i64,.s] [(1,1,.t 33)]),ao (.bld [.s,.i .i64,.s] [(1,2,.t 34)]),aS 3 2 35] .ret)))))) [.c 2 true 3] [(281,[],a0q),(112,[0],o7),(109,[],k7)] ?_;intro hb hE;have hk:=hpre.1;have hw1:=a2W hk;simp only [go_sem,hw1];repeat' first|apply cj'|intro hc|exact om'|fail
 ·exact hpre
 ·exact hk
 ·obtain ⟨e1,e2⟩:=term_n hc;rw [e1,e2];exact ⟨⟨⟨rfl,rfl⟩,rfl⟩,rfl⟩
 ·exact hk
 ·rename_i hy;obtain ⟨e1,e2⟩:=c3s hpre hy;rw [e1,e2,hc];exact ⟨⟨⟨rfl,rfl⟩,rfl⟩,rfl⟩
 ·rename_i hy h2;obtain ⟨e1,e2⟩:=c3s hpre hy;rw [e1,e2,h2,hc];exact ⟨⟨⟨rfl,rfl⟩,rfl⟩,rfl⟩
 ·rename_i hy h2;obtain ⟨e1,e2⟩:=c3s hpre hy;rw [e1,e2,h2,hc];exact ⟨⟨⟨rfl,rfl⟩,rfl⟩,rfl⟩
noncomputable def a1F:CT:=u2 (fun (x:c4) h=>a8S x h)
@[go_sem] def b9l:=fun x0 x1 x2 x3 x4=>nm' (fP' a1F rfl ⟨x0,x1,x2,x3,x4⟩)
def c7Z {r:c4} (h:a0G r):(a3S r || (p5 r).Kind==1&&(p5 r).S==a2i)=b0k r:=by
 cases hn:l8 r with
 | true=>rw [a2M hn,a3S,l7,b0k,hn];rfl
 | false=>
   have ht:=b4M h hn;rw [a1B hn,a3S,l7,b0k,hn];simp only [a5Z] at ht;generalize g9 r r.i=t at *;simp only [q1G,W1,beq_iff_eq] at ht;rcases ht with ((⟨ht,_⟩|ht)|⟨ht,_⟩)|ht<;>rw [ht]
   ·cases h1:a1H t.S<;>cases h2:t.S==a2i<;>rfl
   all_goals simp
def a5b (r:c4) (hpre:a0G r):spZ 283 [(false,[.p [j2 r.toks,.i .i64 r.i,.i .i64 r.e,.i .i64 r.code,.i .i64 r.p]])] [] (.one (false,[.b (b0k r)])):=by
 refine sy' Tryz.func283 (q' 0 [ab 2 false] (q' 4 [am 0,ac 109 [4],ax (w' 3 [.i .i64,.i .i64,.s,.i .i64]),aS 4 3 5] (q' 6 [am 0,ac 281 [6],am 7,au (.fa 0 (.t 3)) 8 false,au (.ld false 1 (.t 9)) 8 false,au (.bin .eql (.t 10) (k' 1)) 8 false,au (.mov (.t 11)) 8 false,au (.fa 2 (.t 3)) 12 true,au (.ld false 1 (.t 13)) 12 true,au (.bin .eql (.t 14) (.k (.v false [.c (.s [110,111,116])]))) 12 true,au (.pick (.t 12) (.t 15) (bb false)) 8 false,ao (.pick (.t 8) (bb true) (.t 16)),aV 2] .ret))) [.t 2] [(109,[],k7),(281,[],a0q)] ?_;intro hb hE;have hk:=hpre.1;simp only [go_sem];repeat' first|apply cj'|intro hc|exact om'|fail
 ·exact hk
 ·exact hpre
 ·exact c7Z hpre
noncomputable def a1I:CT:=u2 (fun (x:c4) h=>a5b x h)
@[go_sem] def b4w:=fun x0 x1 x2 x3 x4=>nm' (fP' a1I rfl ⟨x0,x1,x2,x3,x4⟩)
def at_e {r r1:c4} (e:i7 (j1 r) [40]=r1) (h:isS r1 r1.i [41]=true):(j8 r).1=g8 r1/\a1S r=⟨a0w r,[]⟩:=by
 have e':i7 (j1 r) s6=r1:=e;rw [j8,a1S,e',show isS r1 r1.i a3c=true from h];exact ⟨rfl,rfl⟩
def at_a {r r1:c4} (e:i7 (j1 r) [40]=r1) (h:isS r1 r1.i [41]=false):(j8 r).1=i7 (a6u r1 []).1 [41]/\a1S r=⟨a0w r,(a6u r1 []).2⟩:=by
 have e':i7 (j1 r) s6=r1:=e;rw [j8,a1S,e',show isS r1 r1.i a3c=false from h,a6u,(b8d (p6 r1) r1 []).1];exact ⟨rfl,rfl⟩
def a8K (r:c4) (hpre:a0G r):spZ 213 [(false,[.mp [j2 r.toks,.i .i64 r.i,.i .i64 r.e,.i .i64 r.code,.i .i64 r.p]])] [(0,(false,[.mp [j2 (((j8 r).1).toks),.i .i64 (((j8 r).1).i),.i .i64 (((j8 r).1).e),.i .i64 (((j8 r).1).code),.i .i64 (((j8 r).1).p)]]))] (.one (true,[.s ((a1S r).Name),c3f ((a1S r).Args)])):=by
 refine sx' true false (some 0) Tryz.func213 (q' 2 [aw [.s,.sl j4]] (q' 3 [ax (o' 5 (.bld [.s,.sl j4] [])),aw [.s,.sl j4],aS 2 3 5] (q' 6 [am 0,ac 211 [6],af 0 3,aS 1 8 7] (q' 9 [am 0,ao (.call 212 [.t 9,.k (.v false [.c (.s [40])])])] (.seq (q' 11 [am 0,ao (.call 111 [.t 11,.k (.v false [.c (.s [41])])])] (.cond (.t 12) (q' 13 [am 0,ao (.nck (.t 13)),aG 1 14,ao (.bin .add (.t 16) (k' 1)),ao (.nck (.t 13)),aF 1,aS 1 19 17] (q' 20 [ae 2 3,aS 2 2 20] .ret)) .skip)) (.seq (.block 0 (.loop (.seq (q' 21 [am 0,ao (.nck (.t 21)),aG 3 22,ao (.bin .eql (.t 24) (k' 0))] (.cond (.t 25) .skip (.exit 0))) (.block 1 (.seq (q' 26 [am 0,ac 281 [26],am 27,au (.fa 1 (.t 3)) 28 true,au (.ld false 1 (.t 29)) 28 true,au (.len (.t 30)) 28 true,au (.bin .eql (.t 31) (k' 6)) 28 true,ao (.pick (.t 28) (.t 32) (bb false))] (.cond (.t 33) (q' 34 [am 0,ao (.call 112 [.t 34,.k (.v false [.c (.i .i64 7)])])] (.exit 0)) .skip)) (q' 36 [am 0,ac 282 [36],ax (w' 4 [.s,.i .i64,.s]),aS 3 4 37] (q' 38 [aG 1 3,ae 3 4,ao (.bsl 3 1 [.s,.i .i64,.s] [(0,.t 40)]),ao (.app 3 40 [.s,.i .i64,.s] (.t 39) (.t 41)),af 1 3,aS 1 43 42] (.seq (q' 44 [am 0,ao (.call 111 [.t 44,.k (.v false [.c (.s [44])])]),ao (.not (.t 45))] (.cond (.t 46) (.exit 0) .skip)) (g' 47 [am 0,ao (.nck (.t 47)),aG 1 48,ao (.bin .add (.t 50) (k' 1)),ao (.nck (.t 47)),aF 1,aS 1 53 51]))))))))) (q' 54 [am 0,ao (.call 212 [.t 54,.k (.v false [.c (.s [41])])])] (q' 56 [ae 2 3,aS 2 2 56] .ret)))))))) [.c 2 true 2] [(211,[0],a1E),(212,[0],a0J),(111,[],v6),(281,[],a0q),(112,[0],o7),(282,[0],a1F)] ?_;intro hb hE;have hk:=hpre.1;have hwo:=b3y hk;have hto:=b3x hwo [40];have hti:a0G (i7 (j1 r) [40]):=a1u ((b4f r).trans (a3u _ _)) hpre;have hw1:=a2W hto;simp only [go_sem,hw1];repeat' first|apply cj'|intro hc|exact om'|fail
 ·exact hk
 ·exact hwo
 all_goals (try generalize hr1:i7 (j1 r) [40]=r1 at *)
 ·exact hto
 ·obtain ⟨e1,e2⟩:=at_e hr1 hc;rw [e1,e2];exact ⟨⟨rfl,rfl⟩,rfl⟩
 refine lk' true [(true,6,1,200012)] [0,2,3] [4] [] (fun i:{q:c4×List c8 // a0G q.1/\q.1.toks=r1.toks/\(q.2.length:Int)<=q.1.i/\a6u q.1 q.2=a6u r1 []}=>[]) (fun i=>[(6,[.c (.s (a0w r)),.ow 200012]),(1,[.c (j2 i.1.1.toks),.c (.i .i64 i.1.1.i),.c (.i .i64 i.1.1.e),.c (.i .i64 i.1.1.code),.c (.i .i64 i.1.1.p)])]) (fun i=>[(200012,j4,i.1.2.map c8.cells)]) (fun i=>r1.toks.length - i.1.1.i.toNat) (⟨(r1,[]),hti,rfl,hto.1.1,rfl⟩) ?_;intro S0 hS0 i;have hsh:=hc;obtain ⟨⟨q,a⟩,hq,hqt,hal,hqe⟩:=i;simp only at hq hqt hal hqe;have hqo:=hq.1;have hln:a.length<=6000:=by have:=hqo.1.2;have:=hqo.2;omega
 have htk:=a5m hqo false;simp only [go_sem,hw1,hS0];repeat' first|apply cj'|intro hc|exact om'|fail
 ·exact hq
 ·exact hqo
 ·exact a0r hqo 7
 ·rename_i hcd;have hon:=b4h hqo (a:=a) (by simpa using hcd);rw [hc.1,hc.2,q1C,W5] at hon;obtain ⟨e1,e2⟩:=at_a hr1 hsh;rw [e1,e2,<- hqe,hon];exact ⟨⟨rfl,rfl⟩,rfl⟩
 ·exact hq
 ·exact htk
 ·exact htk
 ·rename_i hcd hcf;have hon:=b4h hqo (a:=a) (by simpa using hcd);rw [hcf,W4,show isS (termC q false) (termC q false).i l9=false from hc,W4] at hon;obtain ⟨e1,e2⟩:=at_a hr1 hsh;rw [e1,e2,<- hqe,hon];exact ⟨⟨rfl,rfl⟩,rfl⟩
 ·rename_i hcd hcf;have hlt:=(w9 hc).2;have hon:=b4h hqo (a:=a) (by simpa using hcd);rw [hcf,W4,show isS (termC q false) (termC q false).i l9=true from hc,W5] at hon;have ht:=a1a q false;have hst:=a1u (ht.trans (y4 hlt)) hq;have h00:=hqo.1.1;have hw3:=a2W htk
  (refine lpK_n2 (⟨(g8 (termC q false),a++[u6 q false]),hst,ht.t.trans hqt,by show ((a++[_]).length:Int)<=(termC q false).i+1;rw [W2];have:=ht.i;simp only [W7,V8];omega,hon.symm.trans hqe⟩) _ (by simp only [go_sem,hw1];try rfl) ?_;simp only [go_sem,hw1,hS0]<;>repeat' first|apply V3|exact on'|fail)
  ·show r1.toks.length - ((termC q false).i+1).toNat < r1.toks.length - q.i.toNat
   have h1:=ht.i;rw [ht.t,hqt] at hlt;omega
  ·exact hw3
 ·exact hqo
 ·obtain ⟨e1,e2⟩:=at_a hr1 hsh;rw [e1,e2,<- hqe,c5y (by simpa using hc)];exact ⟨⟨rfl,rfl⟩,rfl⟩
noncomputable def a1D:CT:=u2 (fun (x:c4) h=>a8K x h)
@[go_sem] def b9d:=fun x0 x1 x2 x3 x4=>nm' (fP' a1D rfl ⟨x0,x1,x2,x3,x4⟩)
def opI_arg (s:List UInt8):b1b [(false,[.sl false [.s []] [[.s []],[.s [61]],[.s [33,61]],[.s [60]],[.s [60,61]]]]),(false,[.s s])]=some (True,[],.one (false,[.i .i64 (opI s)])):=b6X [[],[61],[33,61],[60],[60,61]] s
def c0K (s:List UInt8):spZ 322 [(false,[.s s])] [] (.one (false,[.i .i64 (opI s)])):=by
 refine sy' Tryz.func322 (q' 2 [aK 0] (q' 3 [ao (.bsl 1 5 [.s] [(0,.k (.v false [.c (.s [])])),(1,.k (.v false [.c (.s [61])])),(2,.k (.v false [.c (.s [33,61])])),(3,.k (.v false [.c (.s [60])])),(4,.k (.v false [.c (.s [60,61])]))]),am 0,ac 106 [3,4],aV 2] .ret)) [.t 2] [(106,[],b1b)] ?_;intro hb hE;simp only [go_sem,opI_arg];repeat' first|apply cj'|intro hc|exact om'|fail
noncomputable def b2i:CT:=j6 (fun (x:(List UInt8))=>c0K x)
@[go_sem] def c7N:=fun s=>nm' (fQ' b2i rfl s)
def c8a (r:c4):((p5 r).Kind==1&&(p5 r).S==[110,111,116])=a8U r:=by
 cases h:l8 r with
 | true=>
   have e:=a2j r;rw [h] at e;rw [a2M h,a8U,<- e];rfl
 | false=>
   have e:=a2j r;rw [h] at e;rw [a1B h,a8U,<- e,g9];rfl
def here_q (r:c4):(a0x r&&decide (r.i+1 < r.toks.length)&&(r.toks.getD (r.i+1).toNat default).Kind==4&&(r.toks.getD (r.i+1).toNat default).S==[40])=b8N r:=by
 have e:a0x r=(!l8 r&&(g9 r r.i).Kind==1&&!a1H (g9 r r.i).S):=by
  rw [a0x];cases l8 r<;>cases (g9 r r.i).Kind==1<;>cases a1H (g9 r r.i).S<;>rfl
 rw [e,a2j,b8N,isS,g9,g9];cases r.code==0 with
 | false=>rfl
 | true=>simp only [q0H,q2A]
def lit_b1 {r:c4} (h:a8U r=true):(!l8 r&&((g9 r r.i).Kind==1&&(g9 r r.i).S==a2i))=true:=by rw [a2j,<- q2A];exact h
def c3i {r:c4} (h:a8U r=false):(!l8 r&&((g9 r r.i).Kind==1&&(g9 r r.i).S==a2i))=false:=by rw [a2j,<- q2A];exact h
def lit_c {r:c4} {b:Bool} (h:b8N r=b):(!l8 r&&((g9 r r.i).Kind==1&&(!a1H (g9 r r.i).S&&isS r (r.i+1) s6)))=b:=by rw [a2j,<- q2A,<- q2A];exact h
def lit_i1 {r:c4} (h:a8U r=true):(j5 r).1=(j8 (g8 r)).1/\a2o r=⟨2,a1S (g8 r),0,default,default⟩:=by
 refine ⟨by rw [lit_1 h], ?_⟩;rw [a2o,lit_b1 h];rfl
def lit_i2 {r:c4} (g:a8U r=false) (h:b8N r=true):(j5 r).1=(j8 r).1/\a2o r=⟨1,a1S r,0,default,default⟩:=by
 refine ⟨by rw [lit_2 g h], ?_⟩;rw [a2o,c3i g,lit_c h];rfl
def c8v {r:c4} (g:a8U r=false) (h:b8N r=false) (ho:opJ (termC r false) < 1):(j5 r).1=i3 (termC r false) 6/\a2o r=⟨3,default,opJ (termC r false),u6 r false,default⟩:=by
 have e:=c3m (termC r false);rw [W8 ho,W5] at e;refine ⟨?_,by rw [a2o,c3i g,lit_c h,W8 ho];rfl⟩;rw [c4y g h (q:=i3 (termC r false) 6) (by rw [e];rfl)];exact c1o (p9 (by decide))
def lit_i4 {r:c4} (g:a8U r=false) (h:b8N r=false) (ho:¬ opJ (termC r false) < 1):(j5 r).1=termC (g8 (termC r false)) false/\a2o r=⟨3,default,opJ (termC r false),u6 r false,u6 (g8 (termC r false)) false⟩:=by
 have e:=c3m (termC r false);rw [V1 ho,W4] at e;refine ⟨?_,by rw [a2o,c3i g,lit_c h,V1 ho];rfl⟩;rw [c4y g h (q:=g8 (termC r false)) (by rw [e,show (opJ (termC r false)==0)=false from beq_eq_false_iff_ne.2 (by omega)];rfl)]
def c4D {r:c4} (h:((p5 r).Kind==4)=true):opJ r=opI (p5 r).S:=by rw [opJ,h];rfl
def opJ_n {r:c4} (h:((p5 r).Kind==4)=false):opJ r=0:=by rw [opJ,h];rfl
def sign_lt {r:c4} (h:((p5 r).Kind==4)=true):r.i < r.toks.length:=by
 refine a2U ?_;cases hn:l8 r with
 | false=>rfl
 | true=>rw [a2M hn] at h;cases h
def litP_lt {r:c4} (h:a8U r=true):r.i < r.toks.length:=by
 simp only [a8U,W1,W9] at h;exact h.1.1.2
def b0c (r:c4) (hpre:a0G r):spZ 284 [(false,[.mp [j2 r.toks,.i .i64 r.i,.i .i64 r.e,.i .i64 r.code,.i .i64 r.p]])] [(0,(false,[.mp [j2 (((j5 r).1).toks),.i .i64 (((j5 r).1).i),.i .i64 (((j5 r).1).e),.i .i64 (((j5 r).1).code),.i .i64 (((j5 r).1).p)]]))] (.one (true,[.i .i64 ((a2o r).Kind),.s (((a2o r).Atom).Name),c3f (((a2o r).Atom).Args),.i .i64 ((a2o r).Op),.s (((a2o r).A).Var),.i .i64 ((((a2o r).A).Val).N),.s ((((a2o r).A).Val).S),.s (((a2o r).B).Var),.i .i64 ((((a2o r).B).Val).N),.s ((((a2o r).B).Val).S)])):=by
 refine sx' true false (some 0) Tryz.func284 (q' 2 [aw [.i .i64,.s,.sl j4,.i .i64,.s,.i .i64,.s,.s,.i .i64,.s]] (q' 5 [am 0,ac 109 [5],ax (w' 3 [.i .i64,.i .i64,.s,.i .i64]),aS 4 3 6] (.seq (q' 7 [aG 0 3,ao (.bin .eql (.t 8) (k' 1)),am 9,au (.fa 2 (.t 3)) 10 true,au (.ld false 1 (.t 11)) 10 true,au (.bin .eql (.t 12) (.k (.v false [.c (.s [110,111,116])]))) 10 true,ao (.pick (.t 10) (.t 13) (bb false))] (.cond (.t 14) (q' 15 [am 0,ao (.nck (.t 15)),aG 1 16,ao (.bin .add (.t 18) (k' 1)),ao (.nck (.t 15)),aF 1,aS 1 21 19] (q' 22 [am 0,ac 213 [22],ao (.bld [.i .i64,.s,.sl j4,.i .i64,.s,.i .i64,.s,.s,.i .i64,.s] [(0,1,.k (.v false [.c (.i .i64 2)])),(1,2,.t 23)]),aS 10 2 24] .ret)) .skip)) (.seq (.seq (G' 25 [am 0,ac 110 [25],am 26,au (.mov (.t 0)) 27 true,au (.nck (.t 28)) 27 true,au (.fa 1 (.t 29)) 27 true,au (.ld false 1 (.t 30)) 27 true,au (.bin .add (.t 31) (k' 1)) 27 true,au (.mov (.t 0)) 27 true,au (.nck (.t 33)) 27 true,au (.fa 0 (.t 34)) 27 true,au (.ld false 1 (.t 35)) 27 true,au (.len (.t 36)) 27 true,au (.bin .lss (.t 32) (.t 37)) 27 true,ao (.pick (.t 27) (.t 38) (bb false)),am 39,au (.mov (.t 0)) 40 true,au (.nck (.t 41)) 40 true,au (.fa 0 (.t 42)) 40 true,au (.ld false 1 (.t 43)) 40 true,au (.mov (.t 0)) 40 true,au (.nck (.t 45)) 40 true,au (.fa 1 (.t 46)) 40 true,au (.ld false 1 (.t 47)) 40 true,au (.bin .add (.t 48) (k' 1)) 40 true,au (.ia 4 (.t 44) (.t 49)) 40 true,au (.fa 0 (.t 50)) 40 true,au (.ld false 1 (.t 51)) 40 true,au (.bin .eql (.t 52) (k' 4)) 40 true,ao (.pick (.t 40) (.t 53) (bb false)),am 54,au (.mov (.t 0)) 55 true,au (.nck (.t 56)) 55 true,au (.fa 0 (.t 57)) 55 true,au (.ld false 1 (.t 58)) 55 true,au (.mov (.t 0)) 55 true,au (.nck (.t 60)) 55 true,au (.fa 1 (.t 61)) 55 true,au (.ld false 1 (.t 62)) 55 true,au (.bin .add (.t 63) (k' 1)) 55 true,au (.ia 4 (.t 59) (.t 64)) 55 true,au (.fa 2 (.t 65)) 55 true,au (.ld false 1 (.t 66)) 55 true,au (.bin .eql (.t 67) (.k (.v false [.c (.s [40])]))) 55 true,ao (.pick (.t 55) (.t 68) (bb false))]) (.cond (.t 69) (q' 70 [am 0,ac 213 [70],ao (.bld [.i .i64,.s,.sl j4,.i .i64,.s,.i .i64,.s,.s,.i .i64,.s] [(0,1,.k (.v false [.c (.i .i64 1)])),(1,2,.t 71)]),aS 10 2 72] .ret) .skip)) (q' 4 [ax (o' 73 (.bld [.i .i64,.s,.sl j4,.i .i64,.s,.i .i64,.s,.s,.i .i64, .s] [(0,1,.k (.v false [.c (.i .i64 3)]))])),aw [.i .i64,.s,.sl j4,.i .i64,.s,.i .i64,.s,.s,.i .i64,.s],aS 10 4 73] (q' 74 [am 0,ac 282 [74],af 4 4,aS 3 76 75] (q' 77 [am 0,ac 109 [77],aS 4 3 78] (.seq (q' 79 [aG 0 3,ao (.bin .eql (.t 80) (k' 4))] (.cond (.t 81) (g' 82 [aG 2 3,ac 322 [83],af 3 4,aS 1 85 84]) .skip)) (.seq (q' 86 [aG 3 4,ao (.bin .lss (.t 87) (k' 1))] (.cond (.t 88) (q' 89 [am 0,ao (.call 112 [.t 89,.k (.v false [.c (.i .i64 6)])])] (q' 91 [ae 10 4,aS 10 2 91] .ret)) .skip)) (q' 92 [am 0,ao (.nck (.t 92)),aG 1 93,ao (.bin .add (.t 95) (k' 1)),ao (.nck (.t 92)),aF 1,aS 1 98 96] (q' 99 [am 0,ac 282 [99],af 7 4,aS 3 101 100] (q' 102 [ae 10 4,aS 10 2 102] .ret)))))))))))) [.c 2 true 10] [(109,[],k7),(213,[0],a1D),(110,[],z6),(282,[0],a1F),(322,[],b2i),(112,[0],o7)] ?_;intro hb hE;have hk:=hpre.1;have hw1:=a2W hk;have ht:=a5m hk false;have hw2:=a2W ht;have hti:a0G (termC r false):=a1u (a1a r false) hpre;have hp:=c8a r;have hq:=here_q r;simp only [go_sem,hw1,hw2];repeat' first|apply cj'|intro hc|exact om'|fail
 ·exact hk
 ·exact a1u (y4 (litP_lt (by rw [<- hp,hc.1,hc.2];rfl))) hpre
 ·obtain ⟨e1,e2⟩:=lit_i1 (r:=r) (by rw [<- hp,hc.1,hc.2];rfl);rw [e1,e2];exact ⟨⟨⟨⟨⟨⟨⟨⟨⟨⟨rfl,rfl⟩,rfl⟩,rfl⟩,rfl⟩,rfl⟩,rfl⟩,rfl⟩,rfl⟩,rfl⟩,rfl⟩
 ·exact hk
 ·have:=hk.1.1;exact ⟨by omega,hc.2⟩
 ·have:=hk.1.1;exact ⟨by omega,hc.1.2⟩
 ·exact hpre
 ·rename_i g;obtain ⟨e1,e2⟩:=lit_i2 (r:=r) (hp.symm.trans g) (by rw [<- hq,hc.1.1.1,W8 hc.1.1.2,hc.1.2,hc.2];rfl);rw [e1,e2];exact ⟨⟨⟨⟨⟨⟨⟨⟨⟨⟨rfl,rfl⟩,rfl⟩,rfl⟩,rfl⟩,rfl⟩,rfl⟩,rfl⟩,rfl⟩,rfl⟩,rfl⟩
 ·exact hpre
 ·exact ht
 ·exact ht
 ·rename_i g g2 h4;obtain ⟨e1,e2⟩:=c8v (r:=r) (hp.symm.trans g) (hq.symm.trans g2) (by rw [c4D h4];exact hc);rw [e1,e2,c4D h4];exact ⟨⟨⟨⟨⟨⟨⟨⟨⟨⟨rfl,rfl⟩,rfl⟩,rfl⟩,rfl⟩,rfl⟩,rfl⟩,rfl⟩,rfl⟩,rfl⟩,rfl⟩
 ·rename_i g g2 h4;exact a1u (y4 (sign_lt h4)) hti
 ·rename_i g g2 h4;obtain ⟨e1,e2⟩:=lit_i4 (r:=r) (hp.symm.trans g) (hq.symm.trans g2) (by rw [c4D h4];exact hc);rw [e1,e2,c4D h4];exact ⟨⟨⟨⟨⟨⟨⟨⟨⟨⟨rfl,rfl⟩,rfl⟩,rfl⟩,rfl⟩,rfl⟩,rfl⟩,rfl⟩,rfl⟩,rfl⟩,rfl⟩
 ·exact ht
 ·rename_i g g2 h4;obtain ⟨e1,e2⟩:=c8v (r:=r) (hp.symm.trans g) (hq.symm.trans g2) (by rw [opJ_n h4];decide);rw [e1,e2,opJ_n h4];exact ⟨⟨⟨⟨⟨⟨⟨⟨⟨⟨rfl,rfl⟩,rfl⟩,rfl⟩,rfl⟩,rfl⟩,rfl⟩,rfl⟩,rfl⟩,rfl⟩,rfl⟩
noncomputable def a4e:CT:=u2 (fun (x:c4) h=>b0c x h)
@[go_sem] def b9X:=fun x0 x1 x2 x3 x4=>nm' (fP' a4e rfl ⟨x0,x1,x2,x3,x4⟩)
def a4j (r:c4) (k:Int):c9:=
 ⟨k,a0w r,bif a1o (i7 (j1 r) [47])&&!decide (6 < (g9 (i7 (j1 r) [47]) (i7 (j1 r) [47]).i).N) then (g9 (i7 (j1 r) [47]) (i7 (j1 r) [47]).i).N else 0⟩
def c7U {r:c4} {k:Int} (h:(l3 r k).1.code=0):a4j r k=(l3 r k).2:=by
 rw [l3] at h ⊢;have e:i7 (j1 r) a0m=i7 (j1 r) [47]:=rfl;simp only [e] at h ⊢;rw [a4j];cases hy:a1o (i7 (j1 r) [47]) with
 | false=>rw [hy] at h;exact absurd h (p9 (by decide))
 | true=>
   rw [hy,W5] at h;rw [W5,q0H];cases hd:decide (6 < (g9 (i7 (j1 r) [47]) (i7 (j1 r) [47]).i).N) with
   | true=>rw [hd] at h;exact absurd h (p9 (by decide))
   | false=>rfl
def c8b (r:c4):((p5 r).Kind != 3)=!a1o r:=by
 cases h:l8 r with
 | true=>rw [a2M h,a1o,h];rfl
 | false=>rw [a1B h,a1o,h,q3N,q3H];rfl
def decl_i1 {r r1:c4} {k:Int} (e:i7 (j1 r) [47]=r1) (h:a1o r1=false):(l3 r k).1=i3 r1 6/\a4j r k=⟨k,a0w r,0⟩:=by
 have e':i7 (j1 r) a0m=r1:=e;rw [a4j,e,h,l3];simp only [e',h,W4,Bool.false_and,q1R]
def decl_i2 {r r1:c4} {k:Int} (e:i7 (j1 r) [47]=r1) (h:a1o r1=true) (h2:6 < (p5 r1).N):(l3 r k).1=i3 r1 7/\a4j r k=⟨k,a0w r,0⟩:=by
 have e':i7 (j1 r) a0m=r1:=e;have hn:l8 r1=false:=by simp only [a1o,q0P,q0R] at h;exact h.1
 rw [a1B hn] at h2;rw [a4j,e,h,l3];simp only [e',h,W5,q0H,W8 h2,q2N,W4,q1R]
def decl_i3 {r r1:c4} {k:Int} (e:i7 (j1 r) [47]=r1) (h:a1o r1=true) (h2:¬ 6 < (p5 r1).N):(l3 r k).1=i7 (g8 r1) [46]/\a4j r k=⟨k,a0w r,(p5 r1).N⟩:=by
 have e':i7 (j1 r) a0m=r1:=e;have hn:l8 r1=false:=by simp only [a1o,q0P,q0R] at h;exact h.1
 rw [a1B hn] at h2 ⊢;rw [a4j,e,h,l3];simp only [e',h,W5,q0H,V1 h2,q2P,W4];exact ⟨rfl,trivial⟩
def a8M (r:c4) (k:Int) (hpre:j3 r/\r.i < r.toks.length):spZ 113 [(false,[.mp [j2 r.toks,.i .i64 r.i,.i .i64 r.e,.i .i64 r.code,.i .i64 r.p]]),(false,[.i .i64 k])] [(0,(false,[.mp [j2 (((l3 (g8 r) k).1).toks),.i .i64 (((l3 (g8 r) k).1).i),.i .i64 (((l3 (g8 r) k).1).e),.i .i64 (((l3 (g8 r) k).1).code),.i .i64 (((l3 (g8 r) k).1).p)]]))] (.one (true,[.i .i64 ((a4j (g8 r) k).Kind),.s ((a4j (g8 r) k).Name),.i .i64 ((a4j (g8 r) k).Arity)])):=by
 refine sx' false true (some 0) Tryz.func113 (q' 4 [aw [.i .i64,.s,.i .i64]] (q' 7 [am 1,ao (.bld [.i .i64,.s,.i .i64] [(0,1,.t 7)]),ax (w' 5 [.i .i64,.s,.i .i64]),aS 3 5 8] (q' 9 [am 0,ao (.nck (.t 9)),aG 1 10,ao (.bin .add (.t 12) (k' 1)),ao (.nck (.t 9)),aF 1,aS 1 15 13] (q' 16 [am 0,ac 211 [16],af 1 5,aS 1 18 17] (q' 19 [am 0,ao (.call 212 [.t 19,.k (.v false [.c (.s [47])])])] (q' 21 [am 0,ac 109 [21],ax (w' 6 [.i .i64,.i .i64,.s,.i .i64]),aS 4 6 22] (.seq (.block 0 (q' 34 [aG 0 6,ao (.bin .neq (.t 35) (k' 3)),aV 33] (.cond (.t 33) (g' 37 [am 0,ao (.call 112 [.t 37,.k (.v false [.c (.i .i64 6)])])]) (q' 40 [aG 1 6,ao (.bin .gtr (.t 41) (k' 6)),aV 39] (.cond (.t 39) (g' 43 [am 0,ao (.call 112 [.t 43,.k (.v false [.c (.i .i64 7)])])]) (q' 23 [aG 1 6,af 2 5,aS 1 25 24] (g' 26 [am 0,ao (.nck (.t 26)),aG 1 27,ao (.bin .add (.t 29) (k' 1)),ao (.nck (.t 26)),aF 1,aS 1 32 30]))))))) (q' 45 [am 0,ao (.call 212 [.t 45,.k (.v false [.c (.s [46])])])] (q' 47 [ae 3 5,aS 3 4 47] .ret))))))))) [.c 4 true 3] [(211,[0],a1E),(212,[0],a0J),(109,[],k7),(112,[0],o7)] ?_;intro hb hE;obtain ⟨hk,hlt⟩:=hpre;have hw1:=a2W hk;have hs:=u7 hk hlt;have hwo:=b3y hs;have hto:=b3x hwo [47];have hw2:=a2W hto;have hst:(⟨r.toks,r.i+1,r.e,r.code,r.p⟩:c4)=g8 r:=rfl;simp only [go_sem,hw1,hw2,hst];repeat' first|apply cj'|intro hc|exact om'|fail
 ·exact hs
 ·exact hwo
 ·exact hto
 all_goals have hn:=c8b (i7 (j1 (g8 r)) [47])
 ·exact hto
 ·exact a0r hto 6
 ·obtain ⟨e1,e2⟩:=decl_i1 (k:=k) rfl (by rw [hc] at hn;simpa using hn.symm);rw [e1,e2,a2l (p9 (by decide))];exact ⟨⟨⟨rfl,rfl⟩,rfl⟩,rfl⟩
 ·exact hto
 ·exact a0r hto 7
 ·rename_i h3;obtain ⟨e1,e2⟩:=decl_i2 (k:=k) rfl (by rw [h3] at hn;simpa using hn.symm) hc;rw [e1,e2,a2l (p9 (by decide))];exact ⟨⟨⟨rfl,rfl⟩,rfl⟩,rfl⟩
 ·rename_i h3;exact u7 hto (c0n (by rw [h3] at hn;simpa using hn.symm))
 ·rename_i h3;obtain ⟨e1,e2⟩:=decl_i3 (k:=k) rfl (by rw [h3] at hn;simpa using hn.symm) hc;rw [e1,e2];exact ⟨⟨⟨rfl,rfl⟩,rfl⟩,rfl⟩
noncomputable def a3E:CT:=u2 (fun (x:c4×Int) h=>a8M x.1 x.2 h)
@[go_sem] def b9f:=fun x0 x1 x2 x3 x4 k=>nm' (fP' a3E rfl (⟨x0,x1,x2,x3,x4⟩,k))
def a8L (r:c4) (hpre:a0G r):spZ 214 [(false,[.mp [j2 r.toks,.i .i64 r.i,.i .i64 r.e,.i .i64 r.code,.i .i64 r.p]])] [(0,(false,[.mp [j2 (((a1U r []).1).toks),.i .i64 (((a1U r []).1).i),.i .i64 (((a1U r []).1).e),.i .i64 (((a1U r []).1).code),.i .i64 (((a1U r []).1).p)]]))] (.one (false,[kDLit ((a1U r []).2)])):=by
 refine sx' true false (some 0) Tryz.func214 (q' 2 [ao (.mov (.k (.v false [.nl a2t])))] (q' 5 [ao (.bsl 10 0 [.i .i64,.s,.sl j4,.i .i64,.s,.i .i64,.s,.s,.i .i64,.s] []),aV 3] (.seq (.block 0 (.loop (.seq (q' 6 [am 0,ao (.nck (.t 6)),aG 3 7,ao (.bin .eql (.t 9) (k' 0))] (.cond (.t 10) .skip (.exit 0))) (.block 1 (.seq (q' 11 [am 0,ac 283 [11],am 12,au (.mov (.t 3)) 13 true,au (.len (.t 14)) 13 true,au (.bin .eql (.t 15) (k' 8)) 13 true,ao (.pick (.t 13) (.t 16) (bb false))] (.cond (.t 17) (q' 18 [am 0,ao (.call 112 [.t 18, .k (.v false [.c (.i .i64 7)])])] (.exit 0)) .skip)) (q' 20 [am 0,ac 284 [20],ax (w' 4 [.i .i64,.s,.sl j4,.i .i64,.s,.i .i64,.s, .s,.i .i64,.s]),aS 10 4 21] (q' 22 [am 3,ae 10 4,ao (.bsl 10 1 [.i .i64,.s,.sl j4,.i .i64,.s,.i .i64,.s,.s,.i .i64,.s] [(0, .t 23)]),ao (.app 10 136 [.i .i64,.s,.sl j4,.i .i64,.s,.i .i64,.s,.s,.i .i64,.s] (.t 22) (.t 24)),aV 3] (.seq (q' 26 [am 0,ao (.call 111 [.t 26,.k (.v false [.c (.s [44])])]),ao (.not (.t 27))] (.cond (.t 28) (.exit 0) .skip)) (g' 29 [am 0,ao (.nck (.t 29)),aG 1 30,ao (.bin .add (.t 32) (k' 1)),ao (.nck (.t 29)),aF 1,aS 1 35 33]))))))))) (q' 36 [am 3,aV 2] .ret)))) [.t 2] [(283,[],a1I),(112,[0],o7),(284,[0],a4e),(111,[],v6)] ?_;intro hb hE;simp only [go_sem];repeat' first|apply cj'|intro hc|exact om'|fail
 refine lk' true [(false,3,0,100006)] [0] [] [] (fun i:{q:c4×List c7 // a0G q.1/\q.1.toks=r.toks/\(q.2.length:Int)<=q.1.i/\a1U q.1 q.2=a1U r []}=>[(3,.v false [.ow 100006])]) (fun i=>[(1,[.c (j2 i.1.1.toks),.c (.i .i64 i.1.1.i),.c (.i .i64 i.1.1.e),.c (.i .i64 i.1.1.code),.c (.i .i64 i.1.1.p)])]) (fun i=>[(100006,zTLit,i.1.2.map (c7.cells true true))]) (fun i=>r.toks.length - i.1.1.i.toNat) (⟨(r,[]),hpre,rfl,hpre.1.1.1,rfl⟩) ?_;intro S0 hS0 i;obtain ⟨⟨q,a⟩,hq,hqt,hal,hqe⟩:=i;simp only at hq hqt hal hqe;have hqo:=hq.1;have hln:a.length<=6000:=by have:=hqo.1.2;have:=hqo.2;omega
 have hlk:=(a0H q).ok hqo;simp only [go_sem,hS0];repeat' first|apply cj'|intro hc|exact om'|fail
 ·exact hq
 ·exact hqo
 ·rename_i hcd;have hon:=b4m hqo (a:=a) (by simpa using hcd);rw [hc.1,hc.2,q1C,W5] at hon;rw [<- hqe,hon];exact ⟨rfl,rfl⟩
 ·exact hq
 ·exact hlk
 ·rename_i hcd hcf;have hon:=b4m hqo (a:=a) (by simpa using hcd);rw [hcf,W4,show isS (j5 q).1 (j5 q).1.i l9=false from hc,W4] at hon;rw [<- hqe,hon];exact ⟨rfl,rfl⟩
 ·rename_i hcd hcf;have hlt:=(w9 hc).2;have hon:=b4m hqo (a:=a) (by simpa using hcd);rw [hcf,W4,show isS (j5 q).1 (j5 q).1.i l9=true from hc,W5] at hon;have ht:=a0H q;have hst:=a1u (ht.trans (y4 hlt)) hq;have h00:=hqo.1.1;have hw3:=a2W hlk
  (refine lpK_n2 (⟨(g8 (j5 q).1,a++[a2o q]),hst,ht.t.trans hqt,by show ((a++[_]).length:Int)<=(j5 q).1.i+1;rw [W2];have:=ht.i;simp only [W7,V8];omega,hon.symm.trans hqe⟩) _ (by simp only [go_sem];try rfl) ?_;simp only [go_sem,hS0]<;>repeat' first|apply V3|exact on'|fail)
  ·show r.toks.length - ((j5 q).1.i+1).toNat < r.toks.length - q.i.toNat
   have h1:=ht.i;rw [ht.t,hqt] at hlt;omega
  ·exact hw3
 ·rw [<- hqe,c5A (by simpa using hc)];exact ⟨rfl,rfl⟩
noncomputable def a3D:CT:=u2 (fun (x:c4) h=>a8L x h)
@[go_sem] def b9e:=fun x0 x1 x2 x3 x4=>nm' (fP' a3D rfl ⟨x0,x1,x2,x3,x4⟩)
def rule_i1 {r:c4} {h:c4} (e:(j8 (u9 r)).1=h) (g:isS h h.i [58,45]=true):(v9 r).1=i7 (a1U (g8 h) []).1 [46]/\a5h r=⟨a0X r,a1S (u9 r),(a1U (g8 h) []).2⟩:=by
 rw [a1v,a2q,a5h,e,show isS h h.i b0v=true from g,a1U,(a9C (p6 (g8 h)) (g8 h) []).1];exact ⟨rfl,rfl⟩
def rule_i2 {r:c4} {h:c4} (e:(j8 (u9 r)).1=h) (g:isS h h.i [58,45]=false):(v9 r).1=i7 h [46]/\a5h r=⟨a0X r,a1S (u9 r),[]⟩:=by
 rw [a1v,a2q,a5h,e,show isS h h.i b0v=false from g];exact ⟨rfl,rfl⟩
def c7y {r:c4} (h:j3 r) (a:List c7):j3 (a1U r a).1:=by
 rw [a1U,(a9C (p6 r) r a).1];exact (b4c _ _ _).ok h
def a8R (r:c4) (hpre:a0G r):spZ 114 [(false,[.mp [j2 r.toks,.i .i64 r.i,.i .i64 r.e,.i .i64 r.code,.i .i64 r.p]])] [(0,(false,[.mp [j2 (((v9 r).1).toks),.i .i64 (((v9 r).1).i),.i .i64 (((v9 r).1).e),.i .i64 (((v9 r).1).code),.i .i64 (((v9 r).1).p)]]))] (.one (true,[.i .i64 ((a5h r).Kind),.s (((a5h r).Head).Name),c3f (((a5h r).Head).Args),kDLit ((a5h r).Body)])):=by
 refine sx' true false (some 0) Tryz.func114 (q' 2 [aw [.i .i64,.s,.sl j4,.sl a2t]] (q' 3 [ax (o' 4 (.bld [.i .i64,.s,.sl j4,.sl a2t] [(0,1,.k (.v false [.c (.i .i64 1)]))])),aw [.i .i64,.s,.sl j4,.sl a2t],aS 4 3 4] (.seq (.block 0 (q' 6 [am 0,ao (.call 111 [.t 6,.k (.v false [.c (.s [43])])]),aV 5] (.cond (.t 5) (q' 8 [af 0 3,ax (⟨none,.st 1 (.t 8) (k' 2),none⟩)] (g' 9 [am 0,ao (.nck (.t 9)),aG 1 10,ao (.bin .add (.t 12) (k' 1)),ao (.nck (.t 9)),aF 1,aS 1 15 13])) (q' 17 [am 0,ao (.call 111 [.t 17,.k (.v false [.c (.s [45])])]),aV 16] (.cond (.t 16) (q' 19 [af 0 3,ax (⟨none,.st 1 (.t 19) (k' 3),none⟩)] (g' 20 [am 0,ao (.nck (.t 20)),aG 1 21,ao (.bin .add (.t 23) (k' 1)),ao (.nck (.t 20)),aF 1,aS 1 26 24])) .skip))))) (q' 27 [am 0,ac 213 [27],af 1 3,aS 2 29 28] (.seq (q' 30 [am 0,ao (.call 111 [.t 30,.k (.v false [.c (.s [58,45])])])] (.cond (.t 31) (q' 32 [am 0,ao (.nck (.t 32)),aG 1 33,ao (.bin .add (.t 35) (k' 1)),ao (.nck (.t 32)),aF 1,aS 1 38 36] (g' 39 [am 0,ac 214 [39],af 3 3,aS 1 41 40])) .skip)) (q' 42 [am 0,ao (.call 212 [.t 42,.k (.v false [.c (.s [46])])])] (q' 44 [ae 4 3,aS 4 2 44] .ret))))))) [.c 2 true 4] [(111,[],v6),(213,[0],a1D),(214,[0],a3D),(212,[0],a0J)] ?_;intro hb hE;have hk:=hpre.1;have hw1:=a2W hk;obtain ⟨h,hg⟩:∃ h,(j8 (u9 r)).1=h:=⟨_,rfl⟩
 have hti:a0G h:=by rw [<- hg];exact a1u ((a3q r).trans (a4K _)) hpre
 have hsi:a0G (u9 r):=a1u (a3q r) hpre;have hw2:=a2W hti.1;obtain ⟨p,c1⟩:∃ p,isS r r.i [43]=p:=⟨_,rfl⟩
 obtain ⟨m,c2⟩:∃ p,isS r r.i [45]=p:=⟨_,rfl⟩
 obtain ⟨v,hv⟩:∃ v,a1S (u9 r)=v:=⟨_,rfl⟩
 have h3:(p=true/\a0X r=2/\(j8 ⟨r.toks,r.i+1,r.e,r.code,r.p⟩).1=h/\a1S ⟨r.toks,r.i+1,r.e,r.code,r.p⟩=v/\a0G ⟨r.toks,r.i+1,r.e,r.code,r.p⟩)\/((p=false/\m=true)/\a0X r=3/\(j8 ⟨r.toks,r.i+1,r.e,r.code,r.p⟩).1=h/\a1S ⟨r.toks,r.i+1,r.e,r.code,r.p⟩=v/\a0G ⟨r.toks,r.i+1,r.e,r.code,r.p⟩)\/((p=false/\m=false)/\a0X r=1/\(j8 r).1=h/\a1S r=v/\a0G r):=by
  cases p with
  | true=>have e:=c4J c1;rw [e.1] at hg hsi hv;exact .inl ⟨rfl,e.2,hg,hv,hsi⟩
  | false=>
    cases m with
    | true=>have e:=c4K c1 c2;rw [e.1] at hg hsi hv;exact .inr (.inl ⟨⟨rfl,rfl⟩,e.2,hg,hv,hsi⟩)
    | false=>have e:=c4L c1 c2;rw [e.1] at hg hsi hv;exact .inr (.inr ⟨⟨rfl,rfl⟩,e.2,hg,hv,hsi⟩)
 rcases h3 with ⟨rfl,ek,e0,e1,es⟩|⟨⟨rfl,rfl⟩,ek,e0,e1,es⟩|⟨⟨rfl,rfl⟩,ek,e0,e1,es⟩
 all_goals (
  simp only [go_sem,hw1,hw2,c1,c2,e0,e1];repeat' first|apply cj'|intro hc|exact om'|fail)
 all_goals first
  | exact hk
  | exact es
  | exact hti.1
  | exact a1u (y4 (w9 hc).2) hti
  | exact c7y (u7 hti.1 (w9 hc).2) []
  | (obtain ⟨f1,f2⟩:=rule_i1 hg hc;rw [f1,f2,hv,ek];exact ⟨⟨⟨⟨rfl,rfl⟩,rfl⟩,rfl⟩,rfl⟩)
  | (obtain ⟨f1,f2⟩:=rule_i2 hg hc;rw [f1,f2,hv,ek];exact ⟨⟨⟨⟨rfl,rfl⟩,rfl⟩,rfl⟩,rfl⟩)
  | trace_state
noncomputable def a3F:CT:=u2 (fun (x:c4) h=>a8R x h)
@[go_sem] def b9k:=fun x0 x1 x2 x3 x4=>nm' (fP' a3F rfl ⟨x0,x1,x2,x3,x4⟩)
def c7Q (a:ByteArray) (c:Int) (w:World):Calls Tryz.prog 320 #[.string a,.int .u8 c] w fun e w'=>e=.returned (.int .i64 (Lib.indexByte a.data.toList c.toNat.toUInt8))/\w' = w:=by
 go_enter Tryz.func320,Tryz.ntmps320
 go_wp2
 rw [run_callFunc_extern Tryz.func352 (by kernel_rfl) (by kernel_rfl) (by kernel_rfl) (e:=Extern.BytealgIndexByte.indexByte) (by kernel_rfl),Lib.run_indexByteString];simp only [Result.andThen];rw [Oper.upon_value]
 go_wp2
 go_ret
 exact ⟨rfl,rfl⟩
def ib_lt (l:List UInt8) (c:UInt8):Lib.indexByte l c<=l.length:=by
 induction l with
 | nil=>show (-1:Int)<=0;decide
 | cons b l ih=>
   rw [Lib.indexByte,W7];split
   ·omega
   ·split<;>omega
def a5e (s:List UInt8) (c:Int):spZ 320 [(false,[.s s]),(false,[.i .u8 c])] [] (.one (false,[.i .i64 (Lib.indexByte s c.toNat.toUInt8)])):=by
 unfold spZ A0d;refine ⟨by kernel_rfl, ?_⟩;intro F w vs fpa h _ _ hF;simp only [VsRd,VRd,C.RdVals,C.Rd] at h;obtain ⟨_,_,_,_,rfl,rfl,⟨_,hc,hr⟩,_,_,_,_,rfl,rfl,⟨_,hc',hr'⟩,rfl,rfl⟩:=h;simp only [V2,q0F] at hc hc';subst hc;subst hc';simp only [C.Rd] at hr hr';obtain ⟨rfl,h1,rfl⟩:=hr;obtain ⟨rfl,h2,rfl⟩:=hr';refine (c7Q ⟨s.toArray⟩ c w).mono ?_;rintro e w' ⟨rfl,rfl⟩;refine ⟨F,_,[],[],rfl, ?_,rfl,⟨fun _ h=>h,fun _ h=>.inl h,hF,q0O,by simp,fun _ _ _=>rfl,V7 _,rfl,Tp.of rfl rfl,rfl⟩⟩;simp only [RRd,VRd];refine ⟨_,rfl, ?_⟩;unfold C.Rd;have h3:=Lib.indexByte_ge s c.toNat.toUInt8;have h4:=ib_lt s c.toNat.toUInt8;refine ⟨rfl, ?_,rfl⟩;simp only [maxLen] at h1;rw [min_i64,max_i64];omega
noncomputable def a1K:CT:=j6 (fun (x:(List UInt8)×Int)=>a5e x.1 x.2)
@[go_sem] def b4z:=fun s c=>nm' (fQ' a1K rfl (s,c))
def a7S (s:List UInt8) (c:Int):spZ 278 [(false,[.s s]),(false,[.i .u8 c])] [] (.one (false,[.i .i64 (Lib.indexByte s c.toNat.toUInt8)])):=by
 refine sy' Tryz.func278 (q' 4 [aK 0] (q' 5 [aM [0,1],ac 320 [5,6],aV 4] .ret)) [.t 4] [(320,[],a1K)] ?_;intro hb hE;simp only [go_sem];repeat' first|apply cj'|intro hc|exact om'|fail
noncomputable def a1s:CT:=j6 (fun (x:(List UInt8)×Int)=>a7S x.1 x.2)
@[go_sem] def b8k:=fun s c=>nm' (fQ' a1s rfl (s,c))
def c1b (s t:List UInt8):Bool:=decide ((t.length:Int)<=s.length)&&cut s 0 t.length==t
def a5d (s:List UInt8) (t:List UInt8):spZ 321 [(false,[.s s]),(false,[.s t])] [] (.one (false,[.b (c1b s t)])):=by
 refine sy' Tryz.func321 (q' 0 [ab 4 false] (q' 5 [am 0,ao (.lens (.t 5)),am 1,ao (.lens (.t 7)),ao (.bin .geq (.t 6) (.t 8)),am 9,au (.mov (.t 0)) 10 true,au (.mov (.t 1)) 10 true,au (.lens (.t 12)) 10 true,au (.slcs (.t 11) none (some (.t 13))) 10 true,au (.mov (.t 1)) 10 true,au (.bin .eql (.t 14) (.t 15)) 10 true,ao (.pick (.t 10) (.t 16) (bb false)),aV 4] .ret)) [.t 4] [] ?_;intro hb hE;simp only [go_sem];repeat' first|apply cj'|intro hc|exact om'|fail
 all_goals rfl
noncomputable def a1J:CT:=j6 (fun (x:(List UInt8)×(List UInt8))=>a5d x.1 x.2)
@[go_sem] def b4y:=fun s t=>nm' (fQ' a1J rfl (s,t))
def a7R (s:List UInt8) (t:List UInt8):spZ 280 [(false,[.s s]),(false,[.s t])] [] (.one (false,[.b (c1b s t)])):=by
 refine sy' Tryz.func280 (q' 0 [ab 4 false] (q' 5 [aM [0,1],ac 321 [5,6],aV 4] .ret)) [.t 4] [(321,[],a1J)] ?_;intro hb hE;simp only [go_sem];repeat' first|apply cj'|intro hc|exact om'|fail
noncomputable def a3g:CT:=j6 (fun (x:(List UInt8)×(List UInt8))=>a7R x.1 x.2)
@[go_sem] def b8j:=fun s t=>nm' (fQ' a3g rfl (s,t))
def a5k (s:List UInt8):Nat->Nat->Nat
 | 0,i=>i
 | n+1,i=>bif decide (i < s.length) then (bif y3 (s.getD i 0) then a5k s n (i+1) else bif ((s.getD i 0).toNat:Int)==35 then a5k s n (o9 a0y s i) else i) else i
def a0Y (s:List UInt8) (i:Nat):Nat:=a5k s (s.length+1 - i) i
def b8P {s:List UInt8} {i:Nat} (hi:i < s.length) (h:(((s.getD i 0).toNat:Int)==35)=true):o9 a0y s i=o9 a0y s (i+1):=a1l hi (by rw [a0y,beq_iff_eq.1 h];decide)
def a5D (s:List UInt8):∀ (n m i:Nat),s.length < n+i->s.length < m+i->a5k s n i=a5k s m i
 | 0,0,i,_,_=>rfl
 | 0,m+1,i,h,_=>by rw [a5k,a5k,V1 (by omega)];rfl
 | n+1,0,i,_,h=>by rw [a5k,a5k,V1 (by omega)];rfl
 | n+1,m+1,i,h1,h2=>by
   rw [a5k,a5k];by_cases hi:i < s.length
   ·rw [W8 hi,W5,W5];cases y3 (s.getD i 0) with
    | true=>exact a5D s n m _ (by omega) (by omega)
    | false=>
      rw [W4,W4];cases h35:((s.getD i 0).toNat:Int)==35 with
      | true=>
        have hr:=b8P hi h35;have:=a0N (f:=a0y) (s:=s) (i:=i+1) (by omega);exact a5D s n m _ (by omega) (by omega)
      | false=>rfl
   ·rw [V1 hi];rfl
def c1i {s:List UInt8} {i:Nat} (h:i < s.length):a0Y s i=bif y3 (s.getD i 0) then a0Y s (i+1) else bif ((s.getD i 0).toNat:Int)==35 then a0Y s (o9 a0y s i) else i:=by
 have e:s.length+1 - i=(s.length - i)+1:=by omega
 rw [a0Y,e,a5k,W8 h,W5];cases y3 (s.getD i 0) with
 | true=>exact a5D s _ _ _ (by omega) (by omega)
 | false=>
   rw [W4,W4];cases h35:((s.getD i 0).toNat:Int)==35 with
   | true=>
     have hr:=b8P h h35;have:=a0N (f:=a0y) (s:=s) (i:=i+1) (by omega);exact a5D s _ _ _ (by omega) (by omega)
   | false=>rfl
def a7y {s:List UInt8} {i:Nat} (h:¬ i < s.length):a0Y s i=i:=by
 rw [a0Y];cases s.length+1 - i with
 | zero=>rfl
 | succ n=>rw [a5k,V1 h];rfl
structure Skp (s:List UInt8) (i:Nat):Prop where
 ge:i<=a0Y s i
 le:a0Y s i<=s.length
 lx:∀ out,a2P s i out=a2P s (a0Y s i) out
 no:a0Y s i < s.length->y3 (s.getD (a0Y s i) 0)=false/\(((s.getD (a0Y s i) 0).toNat:Int)==35)=false
def b8T (s:List UInt8):∀ (k i:Nat),s.length<=i+k->i<=s.length->Skp s i
 | 0,i,h,h2=>by
   have e:=a7y (s:=s) (i:=i) (by omega);exact ⟨by omega,by omega,fun out=>by rw [e],fun h=>by omega⟩
 | k+1,i,h,h2=>by
   by_cases hi:i < s.length
   ·have e:=c1i hi;have el:=fun out=>a1j (s:=s) out hi
    cases hs:y3 (s.getD i 0) with
    | true=>
      rw [hs,W5] at e;have ih:=b8T s k (i+1) (by omega) (by omega);refine ⟨by have:=ih.ge;omega,by rw [e];exact ih.le,fun out=>?_,by rw [e];exact ih.no⟩;rw [el out,hs,W5,e];exact ih.lx out
    | false=>
      rw [hs,W4] at e;cases h35:((s.getD i 0).toNat:Int)==35 with
      | true=>
        rw [h35,W5] at e;have hr:=b8P hi h35;have h3:=a0N (f:=a0y) (s:=s) (i:=i+1) (by omega);have ih:=b8T s k (o9 a0y s i) (by omega) (by omega);refine ⟨by have:=ih.ge;omega,by rw [e];exact ih.le,fun out=>?_,by rw [e];exact ih.no⟩;rw [el out,hs,W4,h35,W5,e];exact ih.lx out
      | false=>
        rw [h35,W4] at e;exact ⟨by omega,by omega,fun out=>by rw [e],fun _=>by rw [e];exact ⟨hs,h35⟩⟩
   ·have e:=a7y (s:=s) (i:=i) hi;exact ⟨by omega,by omega,fun out=>by rw [e],fun h=>by omega⟩
def skp {s:List UInt8} {i:Nat} (h:i<=s.length):Skp s i:=b8T s s.length i (by omega) h
def c8c:∀ l:List UInt8,(Lib.indexByte l 10 < 0/\l.takeWhile a0y=l)\/Lib.indexByte l 10=(l.takeWhile a0y).length
 | []=>.inl ⟨by decide,rfl⟩
 | b::l=>by
   rw [Lib.indexByte,q2E];by_cases hb:b=10
   ·subst hb;exact .inr rfl
   ·have h1:a0y b=true:=by
     rw [a0y,bne_iff_ne];intro e;exact hb (UInt8.toNat_inj.1 (Int.ofNat.inj e))
    rw [beq_eq_false_iff_ne.2 hb,h1];have h2:=Lib.indexByte_ge l 10;simp only [q1N,if_false,if_true];rcases c8c l with ⟨h3,h4⟩|h3
    ·have h5:Lib.indexByte l 10=-1:=by omega
     rw [h5,h4];exact .inl ⟨by decide,rfl⟩
    ·have h5:(Lib.indexByte l 10==-1)=false:=beq_eq_false_iff_ne.2 (by omega);rw [h5];simp only [q1N,if_false];exact .inr (by rw [h3,W7];omega)
def c4n (s:List UInt8) (i:Nat):cut s i s.length=s.drop i:=by rw [cut,q0V (by rw [q1X];omega)]
def ib_rem {s:List UInt8} {i:Nat} (h:i<=s.length):(Lib.indexByte (cut s i s.length) 10 < 0->o9 a0y s i=s.length)/\(¬ Lib.indexByte (cut s i s.length) 10 < 0->(o9 a0y s i:Int)=i+Lib.indexByte (cut s i s.length) 10):=by
 rw [c4n,o9];rcases c8c (s.drop i) with ⟨h1,h2⟩|h1
 ·refine ⟨fun _=>by rw [h2,q1X];omega,fun h=>absurd h1 h⟩
 ·refine ⟨fun h=>by omega,fun _=>by rw [h1];omega⟩
def b5b (s:List UInt8) (i:Int) (hpre:0<=i/\i<=s.length/\s.length<=1000000):spZ 205 [(false,[.s s]),(false,[.i .i64 i])] [] (.one (false,[.i .i64 (a0Y s i.toNat:Int)])):=by
 refine sy' Tryz.func205 (q' 4 [aK 0] (.seq (.block 0 (.loop (.seq (q' 6 [aM [1,0],ao (.lens (.t 7)),ar 6 8] (.cond (.t 9) .skip (.exit 0))) (.block 1 (q' 10 [aM [0,1],ao (.ixs (.t 10) (.t 11))] (.block 2 (.seq (q' 15 [ao (.bin .eql (.t 12) (bu 9)),aV 14] (.cond (.t 14) .skip (q' 16 [ao (.bin .eql (.t 12) (bu 10)),aV 14] (.cond (.t 14) .skip (q' 17 [ao (.bin .eql (.t 12) (bu 13)),aV 14] (.cond (.t 14) .skip (g' 18 [ao (.bin .eql (.t 12) (bu 32)),aV 14]))))))) (.cond (.t 14) (g' 19 [aB 1]) (q' 22 [ao (.bin .eql (.t 12) (bu 35)),aV 21] (.cond (.t 21) (q' 23 [aM [0,1],ao (.slcs (.t 23) (some (.t 24)) none),ao (.call 278 [.t 25,.k (.v false [.c (.i .u8 10)])]),aV 5] (.seq (q' 27 [am 5,ao (.bin .lss (.t 27) (k' 0))] (.cond (.t 28) (q' 29 [am 0,ao (.lens (.t 29)),aV 4] .ret) .skip)) (g' 31 [aM [1,5],ao (.bin .add (.t 31) (.t 32)),aV 1]))) (q' 13 [am 1,aV 4] .ret))))))))))) (q' 34 [am 1,aV 4] .ret))) [.t 4] [(278,[],a1s)] ?_;intro hb hE;obtain ⟨h0,h1,h2⟩:=hpre;simp only [go_sem];repeat' first|apply cj'|intro hc|exact om'|fail
 refine lq' false [0] [] [] (fun i:{j:Nat // j<=s.length/\a0Y s j=a0Y s i.toNat}=>[(1,slV (.i .i64 i.1))]) nl' nl' (fun i=>s.length - i.1) (⟨i.toNat,by omega,rfl⟩) ?_;intro S0 hS0 i;obtain ⟨j,hj,hje⟩:=i;have hib:(Lib.indexByte (cut s j s.length) (Nat.toUInt8 10) < 0->o9 a0y s j=s.length)/\(¬ Lib.indexByte (cut s j s.length) (Nat.toUInt8 10) < 0->(o9 a0y s j:Int)=j+Lib.indexByte (cut s j s.length) (Nat.toUInt8 10)):=ib_rem hj;rcases q2U j s.length with hlt|hlt
 rotate_left
 ·skip
  simp only [go_sem,hS0];repeat' first|apply cj'|intro hc|exact om'|fail
  rw [<- hje,a7y (by omega)]
 have hn:=c1i hlt;obtain ⟨b,hb0⟩:∃ b:Int,((s.getD j 0).toNat:Int)=b:=⟨_,rfl⟩
 have hk:((b==9)=true/\(b==10)=false/\(b==13)=false/\(b==32)=false)\/((b==9)=false/\(b==10)=true/\(b==13)=false/\(b==32)=false)\/((b==9)=false/\(b==10)=false/\(b==13)=true/\(b==32)=false)\/((b==9)=false/\(b==10)=false/\(b==13)=false/\(b==32)=true)\/((b==9)=false/\(b==10)=false/\(b==13)=false/\(b==32)=false):=by
  simp only [beq_iff_eq,beq_eq_false_iff_ne];omega
 rw [y3,hb0] at hn;have hw1:IntKind.i64.wrap ((j:Int)+1)=((j+1:Nat):Int):=IntWalk.i64_in _ ⟨by omega,by omega⟩;rcases hk with ⟨k0,k1,k2,k3⟩|⟨k0,k1,k2,k3⟩|⟨k0,k1,k2,k3⟩|⟨k0,k1,k2,k3⟩|⟨k0,k1,k2,k3⟩
 all_goals rw [k0,k1,k2,k3] at hn
 all_goals (
  simp only [go_sem,hS0,hb0,k0,k1,k2,k3];repeat' first|apply cj'|intro hc|exact om'|fail)
 all_goals (try (
  have h5:a0Y s (j+1)=a0Y s i.toNat:=by rw [<- hje,hn];rfl
  (refine lpK_n2 (⟨j+1,by omega,h5⟩) _ rfl ?_;simp only [go_sem,hS0,hb0,k0,k1,k2,k3]<;>repeat' first|apply V3|exact on'|fail)))
 ·rename_i h35;rw [h35] at hn;have hr:=hib.1 hc;rw [<- hje,hn,hr];exact congrArg Nat.cast (a7y (i:=s.length) (by omega)).symm
 ·rename_i h35;have hr:=hib.2 hc;have hr1:=b8P hlt (by rw [hb0];exact h35);have hr2:=a0N (f:=a0y) (s:=s) (i:=j+1) (by omega);rw [h35] at hn;have hw:IntKind.i64.wrap ((j:Int)+Lib.indexByte (cut s j s.length) (Nat.toUInt8 10))=((o9 a0y s j:Nat):Int):=by rw [<- hr];exact IntWalk.i64_in _ ⟨by omega,by omega⟩
  have h5:a0Y s (o9 a0y s j)=a0Y s i.toNat:=by rw [<- hje,hn];rfl
  (refine lpK_n2 (⟨o9 a0y s j,by omega,h5⟩) _ rfl ?_;simp only [go_sem,hS0,hb0,k0,k1,k2,k3]<;>repeat' first|apply V3|exact on'|fail)
 ·rw [hc] at hn;rw [<- hje,hn];rfl
noncomputable def a6H:CT:=u2 (fun (x:(List UInt8)×Int) h=>b5b x.1 x.2 h)
@[go_sem] def c3S:=fun s i=>nm' (fP' a6H rfl (s,i))
def a4n:List (List UInt8):=[[58,45],[33,61],[60,61]]
def b1S (k:Nat):([[C.s [58,45]],[C.s [33,61]],[C.s [60,61]]]:List (List C)).getD k [C.s []]=[C.s (a4n.getD k [])]:=a3r a4n k
def c4G {s:List UInt8} {i:Nat} (h:i < s.length) {k:Nat} (hk:k < 3):c1b (cut s i s.length) (a4n.getD k [])=(decide (i+1 < s.length)&&cut s i (i+2)==a4n.getD k []):=by
 have hl:(a4n.getD k []).length=2:=by
  have:∀ k,k < 3->(a4n.getD k []).length=2:=by decide
  exact this k hk
 rw [c1b,hl,c4n,q1X];have e:cut (s.drop i) 0 2=cut s i (i+2):=by
  show (s.drop i).take 2=(s.drop i).take (i+2 - i);rw [q4C]
 rw [e];by_cases h2:i+1 < s.length
 ·rw [W8 h2,W8 (by omega)]
 ·rw [V1 h2,V1 (by omega)];try rfl
def c1r (t:List UInt8):b6F t=(t==a4n.getD 0 [] || t==a4n.getD 1 [] || t==a4n.getD 2 []):=by rw [b6F,q4P];rfl
def sym_hit {s:List UInt8} {i:Nat} (h:i < s.length) {k:Nat} (hk:k < 3) (hp:c1b (cut s i s.length) (a4n.getD k [])=true):a4n.getD k []=t5 s i:=by
 rw [c4G h hk,W1,beq_iff_eq] at hp;have hA:a2r s i=true:=by
  rw [a2r,hp.1,c1r,hp.2];rcases (by omega:k=0\/k=1\/k=2) with rfl|rfl|rfl<;>rfl
 rw [t5,hA,hp.2];rfl
def c1m {s:List UInt8} {i:Nat} (h:i < s.length) (hp:∀ k,k < 3->c1b (cut s i s.length) (a4n.getD k [])=false):a2r s i=false:=by
 have h0:=hp 0 (by omega);have h1:=hp 1 (by omega);have h2:=hp 2 (by omega);rw [c4G h (by omega)] at h0 h1 h2;rw [a2r,c1r];cases hd:decide (i+1 < s.length) with
 | false=>rfl
 | true=>
   rw [hd,q0H] at h0 h1 h2;rw [h0,h1,h2];rfl
def c4N (b:UInt8):decide (0<=Lib.indexByte [40,41,44,46,61,60,43,45,47] b)=a0u.any (fun t=>t==[b]):=by
 rw [<- Lib.contains_iff_indexByte];simp only [a0u,q2V,q4W,List.contains_cons,List.contains_nil];have e:∀ x:UInt8,([x]==[b])=(b==x):=fun x=>by
  by_cases h:b=x
  ·subst h;rw [beq_self_eq_true,beq_self_eq_true]
  ·rw [beq_eq_false_iff_ne.2 h,beq_eq_false_iff_ne.2 (fun e=>h (by simpa using e.symm))]
 simp only [e]
def b8Z (b:UInt8):((b.toNat:Int)).toNat.toUInt8=b:=by simp
def b3b (s:List UInt8) (i:Int) (hpre:0<=i/\i < s.length/\s.length<=1000000):spZ 210 [(false,[.s s]),(false,[.i .i64 i])] [] (.one (false,[.s (t5 s i.toNat)])):=by
 refine sy' Tryz.func210 (q' 4 [ao (.mov (.k (.v false [.c (.s [])])))] (.seq (q' 7 [ao (.bsl 1 3 [.s] [(0,.k (.v false [.c (.s [58,45])])),(1,.k (.v false [.c (.s [33,61])])),(2, .k (.v false [.c (.s [60,61])]))]),aN,aK 0] (.block 0 (.loop (q' 10 [ar 9 8] (.seq (.cond (.t 10) .skip (.exit 0)) (.seq (.block 1 (q' 11 [ai 1 7 9,aL,aV 6] (q' 13 [aM [0,1],ao (.slcs (.t 13) (some (.t 14)) none),am 6,ac 280 [15,16]] (.cond (.t 17) (q' 18 [am 6,aV 4] .ret) .skip)))) (g' 19 [aA 9]))))))) (.seq (q' 20 [aM [0,1],ao (.ixs (.t 20) (.t 21)),ao (.call 278 [.k (.v false [.c (.s [40,41,44,46,61,60,43,45,47])]),.t 22]),ao (.bin .geq (.t 23) (k' 0))] (.cond (.t 24) (q' 29 [av 25 0,av 26 1,av 27 1,ax (a' 28 27),ao (.slcs (.t 25) (some (.t 26)) (some (.t 28))),aV 4] .ret) .skip)) (q' 4 [ao (.mov (.k (.v false [.c (.s [])])))] .ret)))) [.t 4] [(280,[],a3g),(278,[],a1s)] ?_;intro hb hE;obtain ⟨h0,h1,h2⟩:=hpre;have w1:IntKind.i64.wrap (i+1)=i+1:=IntWalk.i64_in _ ⟨by omega,by omega⟩;have w3:(i+1).toNat=i.toNat+1:=by omega
 simp only [go_sem,b1S,w1,w3,b8Z];repeat' first|apply cj'|intro hc|exact om'|fail
 refine a8E 896 ?_;refine lq' false [0,1,7,8] [] [] (fun i:{j:Nat // j<=3/\∀ k,k < j->c1b (cut s i.toNat s.length) (a4n.getD k [])=false}=>[(9,slV (.i .i64 i.1))]) nl' nl' (fun i=>3 - i.1) (⟨0,by omega,by omega⟩) ?_;intro S0 hS0 i;obtain ⟨j,hj,hn⟩:=i;simp only [go_sem,b1S,w1,w3,b8Z,hS0];repeat' first|apply cj'|intro hc|exact om'|fail
 ·exact sym_hit (by omega) (by omega) hc
 ·have hn2:∀ k,k < j+1->c1b (cut s i.toNat s.length) (a4n.getD k [])=false:=by
   intro k hk;rcases q3Y.1 hk with h|rfl
   ·exact hn k h
   ·exact hc
  (refine lpK_n2 (⟨j+1,by omega,hn2⟩) _ rfl ?_;simp only [go_sem,b1S,w1,w3,b8Z,hS0]<;>repeat' first|apply V3|exact on'|fail)
 ·have hA:=c1m (s:=s) (i:=i.toNat) (by omega) (fun k hk=>hn k (by omega));have ho:=c4N (s.getD i.toNat 0);have hc':0<=Lib.indexByte [40,41,44,46,61,60,43,45,47] (s.getD i.toNat 0):=by
   have e:(s.getD i.toNat 0).toNat.toUInt8=s.getD i.toNat 0:=by simp
   rw [e] at hc;exact hc
  rw [W8 hc'] at ho;rw [t5,hA,<- ho,cut];have hlt:i.toNat < s.length:=by omega
  rw [q1O hlt,show i.toNat+1 - i.toNat=1 by omega,List.getD,V4 hlt];rfl
 ·have hA:=c1m (s:=s) (i:=i.toNat) (by omega) (fun k hk=>hn k (by omega));have ho:=c4N (s.getD i.toNat 0);have hc':¬ 0<=Lib.indexByte [40,41,44,46,61,60,43,45,47] (s.getD i.toNat 0):=by
   have e:(s.getD i.toNat 0).toNat.toUInt8=s.getD i.toNat 0:=by simp
   rw [e] at hc;exact hc
  rw [V1 hc'] at ho;rw [t5,hA,<- ho];rfl
noncomputable def a5N:CT:=u2 (fun (x:(List UInt8)×Int) h=>b3b x.1 x.2 h)
@[go_sem] def c2I:=fun s i=>nm' (fP' a5N rfl (s,i))
def b3o (n:Int):List UInt8:=bif n9 n then a0Z n else []
def numB_y {n:Int} (h:n9 n=true):b3o n=a0Z n:=by rw [b3o,h];rfl
def numB_n {n:Int} (h:n9 n=false):b3o n=[]:=by rw [b3o,h];rfl
def b7k {n:Int} (h:0<=n/\n < 10):IntKind.i32.wrap (IntKind.i64.wrap (48+n))=48+n/\b4D n=UInt8.ofNat (48+n).toNat:=by
 have e:IntKind.i64.wrap (48+n)=48+n:=IntWalk.i64_in _ ⟨by omega,by omega⟩;rw [b4D,e,IntWalk.u8_in _ ⟨by omega,by omega⟩];exact ⟨IntWalk.i32_in _ ⟨by omega,by omega⟩,rfl⟩
def NumG (n:Int):Prop:=A0d Tryz.prog 63 [(false,[.i .i64 n])] [] (.one (false,[.s (a0Z n)]))
@[go_sem] def a5E:ACode:=q' 2 [ao (.mov (.k (.v false [.c (.s [])])))] (.seq (q' 3 [am 0,ac 133 [3],ao (.not (.t 4))] (.cond (.t 5) (q' 2 [ao (.mov (.k (.v false [.c (.s [])])))] .ret)
 .skip)) (.seq (q' 6 [am 0,ao (.bin .lss (.t 6) (k' 10))] (.cond (.t 7) (q' 8 [am 0,ao (.bin .add (k' 48) (.t 8)),ao (.cv .i32 (.t 9)),ao (.i2s (.t 10)),aV 2]
 .ret) .skip)) (q' 12 [am 0,ao (.bin .quo (.t 12) (k' 10)),ac 63 [13],am 0,ao (.bin .rem (.t 15) (k' 10)),ao (.bin .add (k' 48) (.t 16)),ao (.cv .i32 (.t
 17)),ao (.i2s (.t 18)),ao (.bin .add (.t 14) (.t 19)),aV 2] .ret)))
def b1u (n:Int) (hpre:NumG n):spZ 63 [(false,[.i .i64 n])] [] (.one (false,[.s (a0Z n)])):=by
 exact hpre
noncomputable def a4N:CT:=u2 (fun (x:Int) h=>b1u x h)
@[go_sem] def c1y:=fun n=>nm' (fP' a4N rfl n)
def a4Z (n:Int) (hpre:(0<=n/\n<=281474976710655)/\(10<=n->NumG (a7U n))):spZ 63 [(false,[.i .i64 n])] [] (.one (false,[.s (a0Z n)])):=by
 refine sy' Tryz.func63 a5E [.t 2] [(133,[],a1y),(63,[],a4N)] ?_;intro hb hE;obtain ⟨⟨h0,h1⟩,hr⟩:=hpre;have hy:n9 n=true:=by rw [n9,W8 h0,W8 h1];rfl
 simp only [go_sem];repeat' first|apply cj'|intro hc|exact om'|fail
 ·rw [hy] at hc;cases hc
 ·rw [(b7k ⟨h0,hc⟩).1];omega
 ·rw [(b7k ⟨h0,hc⟩).1,b0r hc,(b7k ⟨h0,hc⟩).2]
 ·exact hr (by omega)
 ·have hm:0<=n.tmod 10/\n.tmod 10 < 10:=by rw [q3T h0];omega
  rw [(b7k hm).1];omega
 ·have:=a7i (a7U n);rw [a7U] at this;omega
 ·have hm:0<=n.tmod 10/\n.tmod 10 < 10:=by rw [q3T h0];omega
  rw [b3w ⟨h0,h1⟩ hc,(b7k hm).1,(b7k hm).2];rfl
noncomputable def b1d:CT:=u2 (fun (x:Int) h=>a4Z x h)
@[go_sem] def c1A:=fun n=>nm' (fP' b1d rfl n)
def a4Y (n:Int) (hpre:0<=n/\n<=281474976710655):spZ 63 [(false,[.i .i64 n])] [] (.one (false,[.s (a0Z n)])):=by
 exact b0q (H:=NumG) (fun n h=>a4Z n h) n.toNat n (V7 _) hpre
noncomputable def b1c:CT:=u2 (fun (x:Int) h=>a4Y x h)
@[go_sem] def c1z:=fun n=>nm' (fP' b1c rfl n)
def a5a (n:Int) (hpre:n9 n=false):spZ 63 [(false,[.i .i64 n])] [] (.one (false,[.s ([])])):=by
 refine sy' Tryz.func63 a5E [.t 2] [(133,[],a1y)] ?_;intro hb hE;simp only [go_sem,hpre];repeat' first|apply cj'|intro hc|exact om'|fail
noncomputable def b1e:CT:=u2 (fun (x:Int) h=>a5a x h)
@[go_sem] def c1B:=fun n=>nm' (fP' b1e rfl n)
def b4R (n:Int):spZ 63 [(false,[.i .i64 n])] [] (.one (false,[.s (b3o n)])):=by
 cases h:n9 n with
 | true=>
   rw [numB_y h];simp only [n9,W1,W9] at h;exact a4Y n h
 | false=>rw [numB_n h];exact a5a n h
noncomputable def a1Y:CT:=j6 (fun (x:Int)=>b4R x)
@[go_sem] def c3I:=fun n=>nm' (fQ' a1Y rfl n)
def dig_i (b:UInt8):z7 b.toNat=a4C b:=by
 rw [z7,a4C]
 congr 1<;>(rw [decide_eq_decide];omega)
def num_s {s:List UInt8} (h:¬ (s.length:Int) < 1):(b3o (a5o s)==s)=(n9 (a5o s)&&a0Z (a5o s)==s):=by
 rw [b3o];cases n9 (a5o s) with
 | true=>rfl
 | false=>
   cases s with
   | nil=>exact absurd h (by decide)
   | cons a s=>rfl
def b4S (s:List UInt8):spZ 279 [(false,[.s s])] [] (.tup [(false,[.i .i64 ((a5n s,a1q s).1)]),(false,[.b ((a5n s,a1q s).2)])]):=by
 refine sy' Tryz.func279 (q' 0 [az 2 0,ab 3 false] (.seq (q' 6 [am 0,ao (.bin .eql (.t 6) (.k (.v false [.c (.s [])]))),am 7,au (.mov (.t 0)) 8 false,au (.lens (.t 9)) 8 false,au (.bin .gtr (.t 10) (k' 15)) 8 false,ao (.pick (.t 8) (bb true) (.t 11))] (.cond (.t 12) (q' 0 [az 2 0,ab 3 false] .ret) .skip)) (q' 4 [aK 0] (.seq (q' 13 [am 0,ao (.lens (.t 13)),aK 0] (.block 0 (.loop (q' 16 [ar 15 14] (.seq (.cond (.t 16) .skip (.exit 0)) (.seq (.block 1 (q' 17 [am 15,aV 5] (.seq (q' 18 [aM [0,5],ao (.ixs (.t 18) (.t 19)),ac 208 [20],ao (.not (.t 21))] (.cond (.t 22) (q' 0 [az 2 0,ab 3 false] .ret) .skip)) (g' 23 [am 4,ao (.bin .mul (k' 10) (.t 23)),aM [0,5],ao (.ixs (.t 25) (.t 26)),ao (.bin .sub (.t 27) (bu 48)),ao (.cv .i64 (.t 28)),ao (.bin .add (.t 24) (.t 29)),aV 4])))) (g' 31 [aA 15]))))))) (.seq (q' 32 [am 4,ac 63 [32],am 0,ao (.bin .neq (.t 33) (.t 34))] (.cond (.t 35) (q' 0 [az 2 0,ab 3 false] .ret) .skip)) (q' 36 [am 4,aV 2,ab 3 true] .ret)))))) [.t 2,.t 3] [(208,[],a0A),(63,[],a1Y)] ?_;intro hb hE;simp only [go_sem];repeat' first|apply cj'|intro hc|exact om'|fail
 ·have h2:(s.length:Int) < 1\/15 < (s.length:Int):=by
   rcases hc with h|h
   ·rw [beq_iff_eq] at h;subst h;exact .inl (by decide)
   ·exact .inr h
  rw [a7B (b0C h2),b0C h2];exact ⟨rfl,rfl⟩
 have hlen:¬ (s.length:Int) < 1/\¬ 15 < (s.length:Int):=by
  refine ⟨fun h=>?_,hc.2⟩;have:s=[]:=q1V (by omega);subst this;exact absurd hc.1 (by decide)
 refine lq' false [0,14] [] [] (fun i:{i:Nat // i<=s.length/\(s.take i).all a4C=true}=>[(4,slV (.i .i64 (a5o (s.take i.1)))),(15,slV (.i .i64 i.1))]) nl' nl' (fun i=>s.length - i.1) (⟨0,by omega,rfl⟩) ?_;intro S0 hS0 i;obtain ⟨i,hi,hd⟩:=i;have hv:=c4P (s.take i) hd;have hp:=c8A (s.take i).length (by rw [q0L];omega);simp only [go_sem,hS0];repeat' first|apply cj'|intro hc|exact om'|fail
 ·have hb:=c1p (s:=s) (i:=i) (by omega) (by rw [<- dig_i];exact hc);rw [a7B hb,hb];exact ⟨rfl,rfl⟩
 ·have hil:i < s.length:=by omega
  have ht:=b7I hil;have hdb:a4C (s.getD i 0)=true:=by rw [<- dig_i];exact hc
  have hdr:48<=(s.getD i 0).toNat/\(s.getD i 0).toNat<=57:=by rw [a4C,W1,W9,W9] at hdb;exact hdb
  (refine lpK_n2 (⟨i+1,by omega,by rw [ht,q4S,hd,q0X,hdb];rfl⟩) _ rfl ?_;simp only [go_sem,hS0]<;>repeat' first|apply V3|exact on'|fail)
  rw [ht,b1V,IntWalk.u8_in _ ⟨by omega,by omega⟩,IntWalk.i64_in (10 * a5o (List.take i s)) ⟨by omega,by omega⟩,IntWalk.i64_in ((s.getD i 0).toNat - 48:Int) ⟨by omega,by omega⟩,IntWalk.i64_in _ ⟨by omega,by omega⟩];omega
 ·have ee:s.take i=s:=q0V (by omega);rw [ee] at hc hd;have hy:a1q s=false:=by rw [b0B hlen hd,<- num_s hlen.1,hc]
  rw [a7B hy,hy];exact ⟨rfl,rfl⟩
 ·have ee:s.take i=s:=q0V (by omega);rw [ee] at hc hd ⊢;have hy:a1q s=true:=by rw [b0B hlen hd,<- num_s hlen.1,hc]
  rw [a5n,hy];exact ⟨rfl,rfl⟩
noncomputable def a6E:CT:=j6 (fun (x:(List UInt8))=>b4S x)
@[go_sem] def c3J:=fun s=>nm' (fQ' a6E rfl s)
def a3m (b:UInt8):(l4 b.toNat || (z8 b.toNat || z7 b.toNat))=m9 b:=by
 unfold m9 y5 z8 l4 z7;repeat' split
 all_goals (simp;try omega)
def a2s (s:List UInt8) (i:Nat):d7×Int×Int:=bif (w8 s i).1==0 then ((w8 s i).2,(o9 m9 s i:Int),0) else (default,0,(w8 s i).1)
def cut_run {s:List UInt8} {i j:Nat} (hk:o9 m9 s i=j):cut s i j=(s.drop i).takeWhile m9:=by
 rw [cut,<- hk,o9,q4C];exact (List.prefix_iff_eq_take.1 (List.takeWhile_prefix _)).symm
def cut_0 {s:List UInt8} {i j:Nat} (h:i < j) (h2:i < s.length):(cut s i j).getD 0 0=s.getD i 0:=by
 rw [cut,q1O h2,show j - i=(j - i - 1)+1 by omega,q0I,q1F,List.getD,V4 h2];rfl
def cut_n {s:List UInt8} {i j:Nat} (h2:j<=s.length):(cut s i j).length=j - i:=by
 rw [cut,q0L,q1X];omega
def c8V {s:List UInt8} {i j:Nat} (hk:o9 m9 s i=j) (hi:i < s.length) (hij:i < j) (hj:j<=s.length) (ha:m9 (s.getD i 0)=true):w8 s i =
  bif z7 (s.getD i 0).toNat then (bif a1q (cut s i j) then (0,⟨3,a5n (cut s i j),[],i⟩) else (3,default))
  else bif l4 (s.getD i 0).toNat then (bif a0e (cut s i j) then (0,⟨1,0,cut s i j,i⟩) else (4,default))
  else (bif decide (12 < ((cut s i j).length:Int)) then (4,default) else (0,⟨2,0,cut s i j,i⟩)):=by
 have h0:=cut_0 hij hi;have hn:=cut_n (i:=i) hj;have hall:(cut s i j).all b5T=true:=by
  rw [cut_run hk,q0M];intro x hx;have:=q0M.1 (List.all_takeWhile (p:=m9) (l:=s.drop i)) x hx;rw [<- a3m] at this;rw [b5T,q4P];exact this
 have hw:a0e (cut s i j)=true->l4 (s.getD i 0).toNat=true:=fun h=>by
  rw [a0e,h0,W1,W1] at h;exact h.2.2
 have hv:a3i (cut s i j)=(decide ((cut s i j).length<=12)&&z8 (s.getD i 0).toNat):=by
  rw [a3i,hall,h0,W8 (show 1<=(cut s i j).length by omega)];rfl
 have hd:∀ n:Int,(y5 n==3)=z7 n:=by
  intro n;unfold y5 z7;repeat' split
  all_goals (simp;try omega)
 rw [w8,hk,hd,hv];rw [<- a3m] at ha;cases hD:z7 (s.getD i 0).toNat with
 | true=>rfl
 | false=>
   cases hL:l4 (s.getD i 0).toNat with
   | true=>
     have hU:z8 (s.getD i 0).toNat=false:=by
      rw [l4,W1,W9,W9] at hL;rw [z8,V1 (show ¬ (((s.getD i 0).toNat:Nat):Int)<=90 by omega),q1J]
     rw [hU,q1J];rfl
   | false=>
     rw [hL,hD,q3N,q3O] at ha;have hW:a0e (cut s i j)=false:=by
      cases h:a0e (cut s i j) with
      | false=>rfl
      | true=>rw [hw h] at hL;cases hL
     rw [hW,ha,q0Z];by_cases h12:(cut s i j).length<=12
     ·rw [W8 h12,V1 (show ¬ 12 < ((cut s i j).length:Int) by omega)];rfl
     ·rw [V1 h12,W8 (show 12 < ((cut s i j).length:Int) by omega)];rfl
def b6u (s:List UInt8) (i:Int) (hpre:(0<=i/\i < s.length/\s.length<=1000000)/\m9 (s.getD i.toNat 0)=true):spZ 209 [(false,[.s s]),(false,[.i .i64 i])] [] (.tup [(true,[.i .i64 (((a2s s i.toNat).1).Kind),.i .i64 (((a2s s i.toNat).1).N),.s (((a2s s i.toNat).1).S),.i .i64 (((a2s s i.toNat).1).At)]),(false,[.i .i64 ((a2s s i.toNat).2.1)]),(false,[.i .i64 ((a2s s i.toNat).2.2)])]):=by
 refine sy' Tryz.func209 (q' 4 [aw [.i .i64,.i .i64,.s,.i .i64],aK 0,aK 0] (q' 11 [am 1,aV 7] (.seq (.block 0 (.loop (.seq (q' 12 [aM [7,0],ao (.lens (.t 13)),ar 12 14,am 15,au (.mov (.t 0)) 16 true,au (.mov (.t 7)) 16 true,au (.ixs (.t 17) (.t 18)) 16 true,au (.call 206 [.t 19]) 16 true,au (.mov (.t 20)) 16 true,au (.mov (.t 0)) 21 false,au (.mov (.t 7)) 21 false,au (.ixs (.t 22) (.t 23)) 21 false,au (.call 207 [.t 24]) 21 false,au (.pick (.t 21) (bb true) (.t 25)) 16 true,au (.mov (.t 26)) 16 true,au (.mov (.t 0)) 27 false,au (.mov (.t 7)) 27 false,au (.ixs (.t 28) (.t 29)) 27 false,au (.call 208 [.t 30]) 27 false,au (.pick (.t 27) (bb true) (.t 31)) 16 true,ao (.pick (.t 16) (.t 32) (bb false))] (.cond (.t 33) .skip (.exit 0))) (.block 1 (g' 34 [aB 7]))))) (q' 36 [aM [0,1,7],ao (.slcs (.t 36) (some (.t 37)) (some (.t 38))),aV 8] (.seq (.block 2 (q' 41 [am 8,ao (.ixs (.t 41) (k' 0)),ac 208 [42],aV 40] (.cond (.t 40) (q' 45 [am 8,ac 279 [45],aV 44,ao (.ext (.t 44) 0),ao (.ext (.t 44) 1),av 9 47,aV 10] (.seq (q' 49 [am 10,ao (.not (.t 49))] (.cond (.t 50) (q' 51 [ao (.bld [.i .i64,.i .i64,.s,.i .i64] []),aS 4 4 51,az 5 0,az 6 3] .ret) .skip)) (q' 52 [aM [9,1],ao (.bld [.i .i64,.i .i64,.s,.i .i64] [(0,1,.k (.v false [.c (.i .i64 3)])),(1,1,.t 52),(3,1,.t 53)]),am 7,aS 4 4 54,aV 5,az 6 0] .ret))) (q' 57 [am 8,ao (.ixs (.t 57) (k' 0)),ac 206 [58],aV 56] (.cond (.t 56) (.seq (q' 60 [am 8,ac 149 [60],ao (.not (.t 61))] (.cond (.t 62) (q' 63 [ao (.bld [.i .i64,.i .i64,.s,.i .i64] []),aS 4 4 63,az 5 0,az 6 4] .ret) .skip)) (q' 64 [aM [8,1],ao (.bld [.i .i64,.i .i64,.s,.i .i64] [(0,1,.k (.v false [.c (.i .i64 1)])),(2,1,.t 64),(3,1,.t 65)]),am 7,aS 4 4 66,aV 5,az 6 0] .ret)) .skip))))) (.seq (q' 68 [am 8,ao (.lens (.t 68)),ao (.bin .gtr (.t 69) (k' 12))] (.cond (.t 70) (q' 71 [ao (.bld [.i .i64,.i .i64,.s,.i .i64] []),aS 4 4 71,az 5 0,az 6 4] .ret) .skip)) (q' 72 [aM [8,1],ao (.bld [.i .i64,.i .i64,.s,.i .i64] [(0,1,.k (.v false [.c (.i .i64 2)])),(2,1,.t 72),(3,1,.t 73)]),am 7,aS 4 4 74,aV 5,az 6 0] .ret))))))) [.c 4 true 4,.t 5,.t 6] [(206,[],a0P),(207,[],a1Z),(208,[],a0A),(279,[],a6E),(149,[],a2D)] ?_;intro hb hE;obtain ⟨⟨h0,h1,h2⟩,ha⟩:=hpre;simp only [go_sem];repeat' first|apply cj'|intro hc|exact om'|fail
 refine lq' false [0,1,4] [8] [] (fun i:{j:Nat // i.toNat<=j/\j<=s.length/\o9 m9 s j=o9 m9 s i.toNat}=>[(7,slV (.i .i64 i.1))]) nl' nl' (fun i=>s.length - i.1) (⟨i.toNat,by omega,by omega,rfl⟩) ?_;intro S0 hS0 i;obtain ⟨j,hij,hj,hje⟩:=i;simp only [go_sem,hS0];repeat' first|apply cj'|intro hc|exact om'|fail
 ·have hjx:o9 m9 s (j+1)=o9 m9 s i.toNat:=(a1l (by omega) (by
   rw [<- a3m];rcases hc.2 with (h|h)|h<;>rw [h]<;>simp)).symm.trans hje
  exact nx0 ⟨j+1,by omega,by omega,hjx⟩
 all_goals (
  have hk:o9 m9 s i.toNat=j:=by
   rw [<- hje];refine a3Q fun h=>?_
   have h5:(decide ((j:Int) < s.length)&&(l4 (s.getD j 0).toNat || z8 (s.getD j 0).toNat || z7 (s.getD j 0).toNat))=false:=by assumption
   rw [W8 (show (j:Int) < s.length by omega),q0H,q4P,a3m] at h5;exact h5
  have hr:=a1l (f:=m9) (s:=s) (i:=i.toNat) (by omega) ha;have hr2:=a0N (f:=m9) (s:=s) (i:=i.toNat+1) (by omega);have hlt:i.toNat < j:=by omega
  have hn:=cut_n (i:=i.toNat) hj;have e:=c8V hk (by omega) hlt hj ha;rw [<- cut_0 hlt (by omega)] at e)
 all_goals first
  | omega
  | (rename_i h1;rw [h1,W5,hc,W5] at e;rw [a2s,e,hk];exact ⟨⟨⟨⟨⟨rfl,rfl⟩,rfl⟩,(show i=((i.toNat:Nat):Int) by omega)⟩,rfl⟩,rfl⟩)
  | (rename_i h1;rw [h1,W5,hc,W4] at e;rw [a2s,e];exact ⟨⟨⟨⟨⟨rfl,rfl⟩,rfl⟩,rfl⟩,rfl⟩,rfl⟩)
  | (rename_i h1 h2;rw [h1,W4,h2,W5,hc,W5] at e;rw [a2s,e,hk];exact ⟨⟨⟨⟨⟨rfl,rfl⟩,rfl⟩,(show i=((i.toNat:Nat):Int) by omega)⟩,rfl⟩,rfl⟩)
  | (rename_i h1 h2;rw [h1,W4,h2,W5,hc,W4] at e;rw [a2s,e];exact ⟨⟨⟨⟨⟨rfl,rfl⟩,rfl⟩,rfl⟩,rfl⟩,rfl⟩)
  | (rename_i h1 h2;rw [h1,W4,h2,W4,W8 hc,W5] at e;rw [a2s,e];exact ⟨⟨⟨⟨⟨rfl,rfl⟩,rfl⟩,rfl⟩,rfl⟩,rfl⟩)
  | (rename_i h1 h2;rw [h1,W4,h2,W4,V1 hc,W4] at e;rw [a2s,e,hk];exact ⟨⟨⟨⟨⟨rfl,rfl⟩,rfl⟩,(show i=((i.toNat:Nat):Int) by omega)⟩,rfl⟩,rfl⟩)
  | trace_state
noncomputable def a8a:CT:=u2 (fun (x:(List UInt8)×Int) h=>b6u x.1 x.2 h)
@[go_sem] def c5O:=fun s i=>nm' (fP' a8a rfl (s,i))
def a9y (b:UInt8):m9 b=!(y5 b.toNat==0):=by
 rw [m9];unfold y5;repeat' split
 all_goals (first|rfl|decide)
def c3x {s:List UInt8} {i:Nat} (h:((w8 s i).1==0)=true):a2s s i=((w8 s i).2,(o9 m9 s i:Int),0):=by rw [a2s,h];rfl
def c3w {s:List UInt8} {i:Nat} (h:((w8 s i).1==0)=false):a2s s i=(default,0,(w8 s i).1):=by rw [a2s,h];rfl
def c3g (s:List UInt8):spZ 108 [(false,[.s s])] [] (.tup [(false,[j2 ((a1k s).1)]),(false,[.i .i64 ((a1k s).2.1)]),(false,[.i .i64 ((a1k s).2.2)])]):=by
 refine sx' false true none Tryz.func108 (q' 2 [ao (.mov (.k (.v false [.nl a0z]))),aK 0,aK 0] (.seq (q' 12 [am 0,ao (.lens (.t 12)),ao (.bin .gtr (.t 13) (k' 6000))] (.cond (.t 14) (q' 2 [ao (.mov (.k (.v false [.nl a0z]))),aK 1,aK 0] .ret) .skip)) (q' 15 [ao (.bsl 4 0 [.i .i64, .i .i64,.s,.i .i64] []),aV 5] (.seq (q' 16 [am 0,ao (.call 205 [.t 16,(k' 0)]),aV 6] (.block 0 (.loop (.seq (q' 18 [aM [6,0],ao (.lens (.t 19)),ar 18 20] (.cond (.t 21) .skip (.exit 0))) (.seq (.block 1 (q' 25 [aM [0,6],ao (.ixs (.t 25) (.t 26)),aV 7] (.seq (q' 28 [am 7,ac 206 [28],am 29,au (.mov (.t 7)) 30 false,au (.call 207 [.t 31]) 30 false,ao (.pick (.t 30) (bb true) (.t 32)),am 33,au (.mov (.t 7)) 34 false,au (.call 208 [.t 35]) 34 false,ao (.pick (.t 34) (bb true) (.t 36))] (.cond (.t 37) (q' 39 [aM [0,6],ac 209 [39,40],aV 38,ao (.ext (.t 38) 0),ao (.ext (.t 38) 1),ao (.ext (.t 38) 2),ax (w' 8 [.i .i64,.i .i64,.s,.i .i64]),aS 4 8 42,av 9 43,aV 10] (.seq (q' 45 [am 10,ao (.bin .neq (.t 45) (k' 0))] (.cond (.t 46) (q' 2 [av 47 10,av 48 6,ao (.mov (.k (.v false [.nl a0z]))),aM [47,48]] .ret) .skip)) (q' 49 [am 5,ae 4 8,ao (.bsl 4 1 [.i .i64,.i .i64,.s,.i .i64] [(0,.t 50)]),ao (.app 4 40 [.i .i64,.i .i64,.s,.i .i64] (.t 49) (.t 51)),aV 5] (q' 53 [am 9,aV 6] (.exit 1))))) .skip)) (q' 54 [aM [0,6],ac 210 [54,55],aV 11] (.seq (q' 57 [am 11,ao (.bin .eql (.t 57) (.k (.v false [.c (.s [])])))] (.cond (.t 58) (q' 2 [av 59 6,ao (.mov (.k (.v false [.nl a0z]))),aK 2,am 59] .ret) .skip)) (q' 60 [aM [5,11,6],ao (.bld [.i .i64,.i .i64,.s,.i .i64] [(0,1,.k (.v false [.c (.i .i64 4)])),(2,1,.t 61),(3,1, .t 62)]),ao (.bsl 4 1 [.i .i64,.i .i64,.s,.i .i64] [(0,.t 63)]),ao (.app 4 40 [.i .i64,.i .i64,.s,.i .i64] (.t 60) (.t 64)),aV 5] (g' 66 [aM [6,11],ao (.lens (.t 67)),ao (.bin .add (.t 66) (.t 68)),aV 6]))))))) (g' 22 [aM [0,6],ac 205 [22,23],aV 6])))))) (q' 2 [av 70 5,am 70,aK 0,aK 0] .ret))))) [.t 2,.t 3,.t 4] [(205,[],a6H),(206,[],a0P),(207,[],a1Z),(208,[],a0A),(209,[],a8a),(210,[],a5N)] ?_;intro hb hE;simp only [go_sem];repeat' first|apply cj'|intro hc|exact om'|fail
 ·rw [a1k,W8 (by omega)];exact ⟨⟨rfl,rfl⟩,rfl⟩
 have hm:¬ 6000 < s.length:=by omega
 have hlx:a1k s=a2P s 0 []:=by rw [a1k,V1 hm];rfl
 have h0:=skp (s:=s) (i:=0) (by omega);refine lk' false [(false,5,0,100010)] [0] [] [] (fun i:{q:Nat×List d7 // (q.1<=s.length/\q.2.length<=q.1/\a2P s q.1 q.2=a2P s 0 [])/\(q.1 < s.length->y3 (s.getD q.1 0)=false/\(((s.getD q.1 0).toNat:Int)==35)=false)}=>[(5,.v false [.ow 100010]),(6,slV (.i .i64 i.1.1))]) nl' (fun i=>[(100010,a0z,i.1.2.map d7.cells)]) (fun i=>s.length - i.1.1) (⟨(a0Y s 0,[]),⟨h0.le,by simp,(h0.lx []).symm⟩,h0.no⟩) ?_;intro S0 hS0 i;obtain ⟨⟨i,a⟩,⟨hi,hal,hle⟩,hno⟩:=i;simp only at hi hal hle hno;simp only [go_sem,hS0];repeat' first|apply cj'|intro hc|exact om'|fail
 ·rename_i hlt;exact ⟨by omega,by
   rw [<- a3m];rcases hc with (h|h)|h<;>rw [h]<;>simp⟩
 ·rename_i hlt hcl;have hi2:i < s.length:=by omega
  have ha:m9 (s.getD i 0)=true:=by
   rw [<- a3m];rcases hcl with (h|h)|h<;>rw [h]<;>simp
  have hn:=a1j a hi2;rw [(hno hi2).1,W4,(hno hi2).2,W4] at hn;rw [a9y] at ha;have hz:(w8 s i).1≠0:=fun e=>by
   rw [c3x (by rw [e];rfl)] at hc;exact absurd hc (show ¬ ((0:Int) != 0)=true by decide)
  have hz2:((w8 s i).1==0)=false:=beq_eq_false_iff_ne.2 hz;rw [show (y5 (s.getD i 0).toNat==0)=false by simpa using ha,W4,hz2,W4] at hn;rw [hlx,<- hle,hn,c3w hz2];exact ⟨⟨rfl,rfl⟩,rfl⟩
 ·rename_i hlt hcl;have hi2:i < s.length:=by omega
  have hr:=a0N (f:=m9) (s:=s) (i:=i) hi;have hz:((w8 s i).1==0)=true:=by
   cases hz:(w8 s i).1==0 with
   | true=>rfl
   | false=>
     rw [c3w hz] at hc;rw [beq_eq_false_iff_ne] at hz;rw [bne_eq_false_iff_eq] at hc;exact absurd hc hz
  rw [c3x hz];exact ⟨⟨Int.natCast_nonneg _,by show (o9 m9 s i:Int)<=s.length;omega⟩,by omega⟩
 ·rename_i hlt hcl;have hi2:i < s.length:=by omega
  have ha:m9 (s.getD i 0)=true:=by
   rw [<- a3m];rcases hcl with (h|h)|h<;>rw [h]<;>simp
  have hr0:=a1l (f:=m9) hi2 ha;have hr:=a0N (f:=m9) (s:=s) (i:=i+1) (by omega);have hz:((w8 s i).1==0)=true:=by
   cases hz:(w8 s i).1==0 with
   | true=>rfl
   | false=>
     rw [c3w hz] at hc;rw [beq_eq_false_iff_ne] at hz;rw [bne_eq_false_iff_eq] at hc;exact absurd hc hz
  have ew:=c3x hz;have hn:=a1j a hi2;rw [(hno hi2).1,W4,(hno hi2).2,W4] at hn;rw [a9y] at ha;rw [show (y5 (s.getD i 0).toNat==0)=false by simpa using ha,W4,hz,W5] at hn;have hsk:=skp (s:=s) (i:=o9 m9 s i) (by omega);have e5:a2P s (a0Y s (o9 m9 s i)) (a++[(w8 s i).2])=a2P s 0 []:=by rw [<- hsk.lx,<- hn];exact hle
  have hg:=hsk.ge;have e6:((a2s s i).2.1).toNat=o9 m9 s i:=by rw [ew];show ((o9 m9 s i:Nat):Int).toNat=_;omega
  have e7:(a2s s i).1=(w8 s i).2:=by rw [ew]
  (refine lpK_n2 (⟨(a0Y s (o9 m9 s i),a++[(w8 s i).2]),⟨hsk.le,by show (a++[_]).length<=_;rw [W2,q0D];omega,e5⟩,hsk.no⟩) _ (by simp only [go_sem];try rfl) ?_;simp only [go_sem,hS0,e6,e7]<;>repeat' first|apply V3|exact on'|fail)
 ·rename_i hlt hcl;have hi2:i < s.length:=by omega
  have ha:m9 (s.getD i 0)=false:=by rw [<- a3m,hcl.1.1,hcl.1.2,hcl.2];rfl
  have hn:=a1j a hi2;rw [(hno hi2).1,W4,(hno hi2).2,W4] at hn;rw [a9y] at ha;rw [show (y5 (s.getD i 0).toNat==0)=true by simpa using ha,W5,hc,W5] at hn;rw [hlx,<- hle,hn];exact ⟨⟨rfl,rfl⟩,rfl⟩
 ·have hl:=a7k (show i < s.length by omega);rw [show IntKind.i64.wrap ((i:Int)+(t5 s i).length)=((i+(t5 s i).length:Nat):Int) from IntWalk.i64_in _ ⟨by omega,by omega⟩];omega
 ·rename_i hlt hcl;have hi2:i < s.length:=by omega
  have ha:m9 (s.getD i 0)=false:=by rw [<- a3m,hcl.1.1,hcl.1.2,hcl.2];rfl
  have hn:=a1j a hi2;rw [(hno hi2).1,W4,(hno hi2).2,W4] at hn;rw [a9y] at ha;rw [show (y5 (s.getD i 0).toNat==0)=true by simpa using ha,W5,hc,W4] at hn;have hl:=a7k hi2;have hz:(t5 s i).length≠0:=fun e=>by rw [q1V e] at hc;exact absurd hc (by decide)
  have hsk:=skp (s:=s) (i:=i+(t5 s i).length) hl;have e5:a2P s (a0Y s (i+(t5 s i).length)) (a++[⟨4,0,t5 s i,i⟩])=a2P s 0 []:=by rw [<- hsk.lx,<- hn];exact hle
  have hg:=hsk.ge;have w:(IntKind.i64.wrap ((i:Int)+(t5 s i).length)).toNat=i+(t5 s i).length:=by rw [IntWalk.i64_in _ ⟨by omega,by omega⟩];omega
  (refine lpK_n2 (⟨(a0Y s (i+(t5 s i).length),a++[⟨4,0,t5 s i,i⟩]),⟨hsk.le,by show (a++[_]).length<=_;rw [W2,q0D];omega,e5⟩,hsk.no⟩) _ (by simp only [go_sem];try rfl) ?_;simp only [go_sem,hS0,w]<;>repeat' first|apply V3|exact on'|fail)
 ·rw [hlx,<- hle,c0P a (by omega)];exact ⟨⟨rfl,rfl⟩,rfl⟩
noncomputable def b4v:CT:=j6 (fun (x:(List UInt8))=>c3g x)
@[go_sem] def c9d:=fun s=>nm' (fQ' b4v rfl s)
end Go.Aw
