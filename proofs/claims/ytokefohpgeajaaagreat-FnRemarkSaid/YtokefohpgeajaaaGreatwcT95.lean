/- Levels: the reference's. No condition. -/
import Derived.Test.YtokefohpgeajaaaGreatwcT16
import Derived.Lib.IndexAny
namespace Go.Aw
open Go.Proofs
attribute [local irreducible] aft blk lpK retK AW A0d
set_option linter.all false
set_option maxRecDepth 100000
def b7C (l:List c9) (v:List UInt8):spZ 100 [(false,[b2F l]),(false,[.s v])] [] (.one (false,[.i .i64 (a0X l v)])):=by
 refine sy' Tryz.func100 (q' 4 [aK 0] (.seq (q' 6 [am 0,aN,aK 0] (.block 0 (.loop (q' 9 [ar 8 7] (.seq (.cond (.t 9) .skip (.exit 0)) (.seq (.block 1 (q' 10 [am 8,aV 5] (q' 11 [aM [0,5],aI 2,aG 0 13,am 1,ao (.bin .eql (.t 15) (.t 16))] (.cond (.t 17) (q' 18 [aM [0,5],aI 2,aG 1 20,aV 4] .ret) .skip)))) (g' 23 [aA 8]))))))) (q' 4 [ao (.mov (.k (.v false [.c (.i .i64 (-1))])))] .ret))) [.t 4] [] ?_;intro hb hE;simp only [go_sem];repeat' first|apply cj'|intro hc|exact om'|fail
 refine lq' false [0,1,7] [] [] (fun i:{i:Nat // i<=l.length/\(l.take i).any (fun d=>d.Name==v)=false}=>[(8,slV (.i .i64 i.1))]) nl' nl' (fun i=>l.length - i.1) (⟨0,by simp⟩) ?_;intro S0 hS0 i;obtain ⟨i,hi,ha⟩:=i;simp only [go_sem,hS0];repeat' first|apply cj'|intro hc|exact om'|fail
 ·rw [a0X,b7h (d:=default) (i:=i) (by omega) ha hc];rfl
 ·exact nx0 ⟨i+1,by omega,t2 (p:=fun d:c9=>d.Name==v) default (by omega) ha hc⟩
 ·rw [a0X,a6U (by rwa [j1 (by omega)] at ha)];rfl
noncomputable def a9w:CT:=j7 (fun (x:(List c9)×(List UInt8))=>b7C x.1 x.2)
@[go_sem] def c5t:=fun l v=>nm' (fQ' a9w rfl (l,v))
def relL (l:List d5):List c9:=l.map fun x=>⟨x.Name,0⟩
def c6O (p:c5):relL (a0A (a3Y p 3))=lvl p fun _=>0:=by
 have h:=a9z (a3Y p 3);have e:relL (a0A (a3Y p 3))=((a0A (a3Y p 3)).map d5.Name).map fun v=>(⟨v,0⟩:c9):=by rw [q3W];rfl
 rw [e,h];rfl
def c4O (p:c5) (k:Int):(a0A (a3Y p k)).length<=p.Decls.length:=by
 have h1:=b3O (a3Y p k);have h2:=q2D (fun d:d3=>d.Kind==k) p.Decls;exact q1S h1 h2
def vw_at {p:c5} {n:Nat} (hn:n < (vwS p).length):(vwS p).getD n []∈vwS p/\(∀ g,(lvl p g).getD n default=⟨(vwS p).getD n [],g ((vwS p).getD n [])⟩)/\∀ g x,(lvl p g).set n ⟨(vwS p).getD n [],x⟩=lvl p (upd g ((vwS p).getD n []) x):=
 ⟨A3w hn,fun g=>b9x p g hn,fun g x=>c3e p g hn x⟩
def b7D {p:c5} {g:Lev} {l:c7} {x:Int} (h0:∀ v,0<=g v) (hx:((l.Kind==2&&decide (0<=a0X (lvl p g) l.Atom.Name))=true/\x=a0X (lvl p g) l.Atom.Name+1)\/((l.Kind==2&&decide (0<=a0X (lvl p g) l.Atom.Name))=false/\x=a0X (lvl p g) l.Atom.Name)):(l.Atom.Name∈vwS p/\x=g l.Atom.Name+a6L l)\/(¬ l.Atom.Name∈vwS p/\x=-1):=by
 by_cases e:l.Atom.Name∈vwS p
 ·refine .inl ⟨e, ?_⟩;rw [b6n g e,W8 (h0 l.Atom.Name),q0Y] at hx;rcases hx with ⟨h1,h2⟩|⟨h1,h2⟩
  ·rw [b4F h1];exact h2
  ·rw [b7F h1];omega
 ·refine .inr ⟨e, ?_⟩;rw [b9s g e,show decide ((0:Int)<=-1)=false from rfl,q2L] at hx;rcases hx with ⟨h1,h2⟩|⟨h1,h2⟩
  ·cases h1
  ·exact h2
def b9t {p:c5} {g:Lev} {h:List UInt8} {l:c7} {x:Int} (h0:∀ v,0<=g v) (hx:((l.Kind==2&&decide (0<=a0X (lvl p g) l.Atom.Name))=true/\x=a0X (lvl p g) l.Atom.Name+1)\/((l.Kind==2&&decide (0<=a0X (lvl p g) l.Atom.Name))=false/\x=a0X (lvl p g) l.Atom.Name)) (hc:(l.Kind != 3&&decide (g h < x))=false):a2F p g h l:=by
 by_cases hk:(l.Kind==3)=true
 ·exact b6p hk
 ·have hn:¬ g h < x:=by
   rw [bne,(by simpa using hk:(l.Kind==3)=false),q3D,q0I] at hc;exact of_decide_eq_false hc
  rcases b7D h0 hx with ⟨h1,h2⟩|⟨h1,h2⟩
  ·exact c1K h2 hn
  ·exact b6q h1
def b9v {p:c5} {g:Lev} {h:List UInt8} {b:List c7} {j:Nat} (hj:j < b.length) (h1:∀ l∈b.take j,a2F p g h l) (h2:a2F p g h (b.getD j default)):∀ l∈b.take (j+1),a2F p g h l:=fun l hl=>by
 rw [j6 default hj,W7,V5] at hl;rcases hl with hl|rfl
 ·exact h1 l hl
 ·exact h2
def b5t (p:c5):spZ 38 [(true,[o8 p.Decls,o0 p.Rules])] [] (.tup [(false,[b2F ((a0S p).1)]),(false,[.b ((a0S p).2)])]):=by
 refine sx' false true none Tryz.func38 (q' 1 [ao (.box 2 (.t 0)),ao (.mov (.k (.v false [.nl a0s]))),ao (.mov (bb false))] (q' 16 [ae 2 1,ac 36 [16],aV 15,ao (.ext (.t 15) 0),ao (.ext (.t 15) 1),av 4 18,aV 5] (.seq (q' 20 [am 4,ao (.bin .neq (.t 20) (k' 0))] (.cond (.t 21) (q' 0 [ax (o' 2 (.mov (.k (.v false [.nl a0s])))),ab 3 false] .ret) .skip)) (q' 22 [ao (.bsl 2 0 [.s,.i .i64] []),aV 6] (.seq (q' 23 [ae 2 1,ao (.call 48 [.t 23,.k (.v false [.c (.i .i64 3)])]),ao (.fl false 0 1 (.t 24)),aN,aK 0] (.block 0 (.loop (q' 28 [ar 27 26] (.seq (.cond (.t 28) .skip (.exit 0)) (.seq (.block 1 (q' 29 [ai 3 25 27,aE 3,ax (w' 8 [.s,.i .i64, .sl a2j]),aS 3 8 30] (g' 31 [am 6,aG 0 8,ao (.bld [.s,.i .i64] [(0,1,.t 33)]),ao (.bsl 2 1 [.s,.i .i64] [(0,.t 34)]),ao (.app 2 24 [.s,.i .i64] (.t 31) (.t 35)),aV 6]))) (g' 37 [aA 27]))))))) (.seq (q' 0 [ab 9 true] (.block 2 (.loop (.seq (q' 38 [am 9] (.cond (.t 38) .skip (.exit 2))) (.block 3 (q' 0 [ab 9 false] (q' 39 [am 6,aN,aK 0] (.block 4 (.loop (q' 42 [ar 41 40] (.seq (.cond (.t 42) .skip (.exit 4)) (.seq (.block 5 (q' 43 [am 41,aV 10] (.seq (q' 44 [aG 1 1,aN,aK 0] (.block 6 (.loop (q' 48 [ar 47 46] (.seq (.cond (.t 48) .skip (.exit 6)) (.seq (.block 7 (q' 49 [am 47,aV 11] (q' 50 [aG 1 1,am 11,aI 4,aE 4,ax (w' 12 [.i .i64,.s,.sl j5,.sl a2J]),aS 4 12 54] (.seq (.seq (G' 55 [af 1 12,aG 0 55,aM [6,10],aI 2,aG 0 60,ao (.bin .neq (.t 57) (.t 62))]) (.cond (.t 63) (.exit 7) .skip)) (q' 64 [aG 3 12,aN,aK 0] (.block 8 (.loop (q' 68 [ar 67 66] (.seq (.cond (.t 68) .skip (.exit 8)) (.seq (.block 9 (q' 69 [am 67,aV 13] (q' 70 [am 6,aG 3 12,am 13,aI 10,aF 1,aG 0 75,ac 100 [70,77],aV 14] (.seq (q' 79 [aG 3 12,am 13,aI 10,aG 0 82,ao (.bin .eql (.t 84) (k' 2)),am 85,au (.mov (.t 14)) 86 true,au (.bin .geq (.t 87) (k' 0)) 86 true,ao (.pick (.t 86) (.t 88) (bb false))] (.cond (.t 89) (g' 90 [aB 14]) .skip)) (q' 92 [aG 3 12,am 13,aI 10,aG 0 95,ao (.bin .neq (.t 97) (k' 3)),am 98,au (.mov (.t 14)) 99 true,au (.mov (.t 6)) 99 true,au (.mov (.t 10)) 99 true,au (.ia 2 (.t 101) (.t 102)) 99 true,au (.fa 1 (.t 103)) 99 true,au (.ld false 1 (.t 104)) 99 true,au (.bin .gtr (.t 100) (.t 105)) 99 true,ao (.pick (.t 99) (.t 106) (bb false))] (.cond (.t 107) (q' 108 [aM [6,10,14],ai 2 108 109,aF 1,aS 1 112 110] (g' 0 [ab 9 true])) .skip)))))) (g' 113 [aA 67]))))))))))) (g' 114 [aA 47]))))))) (q' 115 [aM [6,10],aI 2,aG 1 117,am 6,aN,ao (.bin .gtr (.t 119) (.t 121))] (.cond (.t 122) (q' 0 [ax (o' 2 (.mov (.k (.v false [.nl a0s])))),ab 3 false] .ret) .skip))))) (g' 123 [aA 41]))))))))))))) (q' 124 [am 6,aV 2,ab 3 true] .ret))))))) [.t 2,.t 3] [(36,[],a1S),(48,[],a5B),(100,[],a9w)] ?_;intro hb hE;simp only [go_sem];repeat' first|apply cj'|intro hc|exact om'|fail
 ·rw [a0S,show ((i8 p).1==0)=false by simpa [bne] using hc];exact ⟨rfl,rfl⟩
 ·have hB:=c1N (p:=p) (by simpa [bne] using hc);simp only [t6,W3,V2] at hB;omega
 have hN:((i8 p).1==0)=true:=by simpa [bne] using hc
 obtain ⟨hB,hD,hRb⟩:=b9A (by simpa using hN);have hdl:p.Decls.length<=16:=by
  have:=hB;simp only [t6,W3,V2] at this;omega
 have hrl:p.Rules.length<=24:=by
  have:=hB;simp only [t6,W3,V2] at this;omega
 have hvl:=c3t hB;have hel:=c4O p 3;clear hc;refine lk' false [(false,6,0,100012)] [1,25,26] [2] [] (fun i:{i:Nat // i<=(a0A (a3Y p 3)).length}=>[(6,.v false [.ow 100012]),(27,slV (.i .i64 i.1))]) nl' (fun i=>[(100012,a0s,(relL ((a0A (a3Y p 3)).take i.1)).map c9.cells)]) (fun i=>(a0A (a3Y p 3)).length - i.1) (⟨0,by simp⟩) ?_;intro S0 hS0 i;obtain ⟨i,hi⟩:=i;have hl:(relL ((a0A (a3Y p 3)).take i)).length<=16:=by rw [relL,q2M,q0O];omega
 simp only [go_sem,hS0];repeat' first|apply cj'|intro hc|exact om'|fail
 ·(refine lpK_n2 (⟨i+1,by omega⟩) _ (by simp only [go_sem];try rfl) ?_;simp only [go_sem,hS0]<;>repeat' first|apply V3|exact on'|fail)
  rw [show relL ((a0A (a3Y p 3)).take (i+1))=relL ((a0A (a3Y p 3)).take i)++[⟨((a0A (a3Y p 3)).getD i default).Name,0⟩] from m_snoc (fun x:d5=>(⟨x.Name,0⟩:c9)) default (by omega)];first|done|(rw [q0X];rfl)|trace_state
 rw [j1 (by omega),c6O];clear hc hl hi;refine lq' false [1,6] [2] [] (fun i:{q:Bool×Lev // Low p q.2/\(∀ v∈vwS p,q.2 v<=(vwS p).length)/\(q.1=false->Fx p q.2)}=>[(9,slV (.b i.1.1))]) nl' (fun i=>[(100012,a0s,(lvl p i.1.2).map c9.cells)]) (fun i=>2 * a2G p i.1.2+(bif i.1.1 then 1 else 0)) (⟨(true,fun _=>0),Low.zero p,fun v _=>by simp only;omega,by intro h;cases h⟩) ?_;intro S1 hS1 i;obtain ⟨⟨ag,g⟩,hL,hle,hF⟩:=i;simp only at hL hle hF;have hll:=a9S p;simp only [go_sem,hS0,hS1,hll];repeat' first|apply cj'|intro hc|exact om'|fail
 ·have hag:=hc;clear hc;refine lq' false [1,6,40] [2] [] (fun i:{q:Nat×Bool×Lev // q.1<=(vwS p).length/\Low p q.2.2/\(∀ v∈vwS p,q.2.2 v<=(vwS p).length)/\(q.2.1=false->q.2.2=g/\∀ r∈p.Rules,r.Head.Name∈(vwS p).take q.1->a0m p g r)/\(q.2.1=true->a2G p q.2.2 < a2G p g)}=>[(9,slV (.b i.1.2.1)),(41,slV (.i .i64 i.1.1))]) nl' (fun i=>[(100012,a0s,(lvl p i.1.2.2).map c9.cells)]) (fun i=>(vwS p).length - i.1.1) (⟨(0,false,g),by simp,hL,hle,fun _=>⟨rfl,by simp⟩,by intro h;cases h⟩) ?_;intro S2 hS2 i;obtain ⟨⟨n,ag2,g2⟩,hn,hL2,hle2,hF2,hM2⟩:=i;simp only at hn hL2 hle2 hF2 hM2;simp only [go_sem,hS0,hS1,hll,hS2];repeat' first|apply cj'|intro hc|exact om'|fail
  ·have hnl:n < (vwS p).length:=by omega
   clear hc;obtain ⟨hv,hgm,hsm⟩:=vw_at hnl;refine lq' false [1,6,10,40,41,46] [2] [] (fun i:{q:Nat×Bool×Lev // q.1<=p.Rules.length/\Low p q.2.2/\(∀ v∈vwS p,v≠(vwS p).getD n []->q.2.2 v<=(vwS p).length)/\q.2.2 ((vwS p).getD n [])<=(vwS p).length+(8 * q.1:Nat)/\(q.2.1=false->q.2.2=g/\(∀ r∈p.Rules,r.Head.Name∈(vwS p).take n->a0m p g r)/\∀ r∈p.Rules.take q.1,r.Head.Name=(vwS p).getD n []->a0m p g r)/\(q.2.1=true->a2G p q.2.2 < a2G p g)}=>[(9,slV (.b i.1.2.1)),(47,slV (.i .i64 i.1.1))]) nl' (fun i=>[(100012,a0s,(lvl p i.1.2.2).map c9.cells)]) (fun i=>p.Rules.length - i.1.1) (⟨(0,ag2,g2),by simp,hL2,fun v hv2 _=>hle2 v hv2,by simp only;have:=hle2 _ hv;omega,fun h=>⟨(hF2 h).1,(hF2 h).2,by simp⟩,hM2⟩) ?_;intro S3 hS3 i;obtain ⟨⟨k,ag3,g3⟩,hk,hL3,ho3,hh3,hF3,hM3⟩:=i;simp only at hk hL3 ho3 hh3 hF3 hM3;simp only [go_sem,hS0,hS1,hll,hS2,hgm,hsm,hS3];repeat' first|apply cj'|intro hc|exact om'|fail
   ·have h3:ag3=false->g3=g/\(∀ r∈p.Rules,r.Head.Name∈(vwS p).take n->a0m p g r)/\∀ r∈p.Rules.take (k+1),r.Head.Name=(vwS p).getD n []->a0m p g r:=fun h=>by
     refine ⟨(hF3 h).1,(hF3 h).2.1,fun r hr he=>?_⟩;rw [j6 default (by omega),W7,V5] at hr;rcases hr with hr|rfl
     ·exact (hF3 h).2.2 r hr he
     ·rw [he] at hc;simp at hc
    (refine lpK_n2 (⟨(k+1,ag3,g3),by simp only;omega,hL3,ho3,by simp only;omega,h3,hM3⟩) _ rfl ?_;simp only [go_sem,hS0,hS1,hll,hS2,hgm,hsm,hS3]<;>repeat' first|apply V3|exact on'|fail)
   ·have hkl:k < p.Rules.length:=by omega
    have hrh:(p.Rules.getD k default).Head.Name=(vwS p).getD n []:=by simpa using hc
    clear hc;have hb8:=b8A hB hkl;have hrm:p.Rules.getD k default∈p.Rules:=A3w hkl;refine lq' false [1,6,10,12,40,41,46,47,66] [2,24] [] (fun i:{q:Nat×Bool×Lev // q.1<=(p.Rules.getD k default).Body.length/\Low p q.2.2/\(∀ v∈vwS p,v≠(vwS p).getD n []->q.2.2 v<=(vwS p).length)/\q.2.2 ((vwS p).getD n [])<=(vwS p).length+(8 * k+q.1:Nat)/\(q.2.1=false->q.2.2=g/\(∀ r∈p.Rules,r.Head.Name∈(vwS p).take n->a0m p g r)/\(∀ r∈p.Rules.take k,r.Head.Name=(vwS p).getD n []->a0m p g r)/\∀ l∈(p.Rules.getD k default).Body.take q.1,a2F p g ((vwS p).getD n []) l)/\(q.2.1=true->a2G p q.2.2 < a2G p g)}=>[(9,slV (.b i.1.2.1)),(67,slV (.i .i64 i.1.1))]) nl' (fun i=>[(100012,a0s,(lvl p i.1.2.2).map c9.cells)]) (fun i=>(p.Rules.getD k default).Body.length - i.1.1) (⟨(0,ag3,g3),by simp,hL3,ho3,by simp only;omega,fun h=>⟨(hF3 h).1,(hF3 h).2.1,(hF3 h).2.2,by simp⟩,hM3⟩) ?_;intro S4 hS4 i;obtain ⟨⟨j,ag4,g4⟩,hj,hL4,ho4,hh4,hF4,hM4⟩:=i;simp only at hj hL4 ho4 hh4 hF4 hM4;have hLb:∀ v,-1<=a0X (lvl p g4) v/\a0X (lvl p g4) v<=400:=fun v=>by
     by_cases e:v∈vwS p
     ·rw [b6n g4 e];have:=hL4.ge v;by_cases e2:v=(vwS p).getD n []
      ·rw [e2] at this ⊢;omega
      ·have:=ho4 v e e2;omega
     ·rw [b9s g4 e];omega
    have hw:∀ v,IntKind.i64.wrap (a0X (lvl p g4) v+1)=a0X (lvl p g4) v+1:=fun v=>by have:=hLb v;rw [IntWalk.i64_in _ (by omega)]
    simp only [go_sem,hS0,hS1,hll,hS2,hgm,hsm,hS3,hS4,hw];repeat' first|apply cj'|intro hc|exact om'|fail
    ·rename_i hq;have hjl:j < (p.Rules.getD k default).Body.length:=by omega
     have hlm:((p.Rules.getD k default).Body.getD j default)∈(p.Rules.getD k default).Body:=A3w hjl;have hkk:((p.Rules.getD k default).Body.getD j default).Kind≠3:=by simpa using hc.1
     have hx0:=b7D (x:=a0X (lvl p g4) ((p.Rules.getD k default).Body.getD j default).Atom.Name+1) hL4.ge (.inl ⟨by simpa using hq,rfl⟩);have hh0:=hL4.ge ((vwS p).getD n []);have hc2:=hc.2;rcases hx0 with ⟨hvv,e⟩|⟨hvv,e⟩
     ·have hMM:a2G p g4<=a2G p g:=by
       cases hag4:ag4 with
       | true=>exact Nat.le_of_lt (hM4 hag4)
       | false=>rw [(hF4 hag4).1];exact V9 _
      have R:=a6Y (j:=8 * k+j) hrm (by rw [hrh];exact hv) hlm hkk hvv hL4 (by rw [hrh];exact ho4) (by rw [hrh];exact hh4) (by omega) e (by rw [hrh];exact hc2) hMM;rw [hrh] at R
      (refine lpK_n2 (⟨(j+1,true,upd g4 ((vwS p).getD n []) (a0X (lvl p g4) ((p.Rules.getD k default).Body.getD j default).Atom.Name+1)),by simp only;omega,R.1,R.2.1,R.2.2.1,fun h=>(by cases h),fun _=>R.2.2.2⟩) _ rfl ?_;simp only [go_sem,hS0,hS1,hll,hS2,hgm,hsm,hS3,hS4,hw]<;>repeat' first|apply V3|exact on'|fail)
     ·exfalso;omega
    ·rename_i hq;have hjl:j < (p.Rules.getD k default).Body.length:=by omega
     have hst:a2F p g4 ((vwS p).getD n []) ((p.Rules.getD k default).Body.getD j default):=b9t hL4.ge (.inl ⟨by simpa using hq,rfl⟩) hc;have h3:ag4=false->g4=g/\(∀ r∈p.Rules,r.Head.Name∈(vwS p).take n->a0m p g r)/\(∀ r∈p.Rules.take k,r.Head.Name=((vwS p).getD n [])->a0m p g r)/\∀ l∈(p.Rules.getD k default).Body.take (j+1),a2F p g ((vwS p).getD n []) l:=fun h=>by
      have h5:=hF4 h;refine ⟨h5.1,h5.2.1,h5.2.2.1,b9v hjl h5.2.2.2 ?_⟩;rw [<- h5.1];exact hst
     (refine lpK_n2 (⟨(j+1,ag4,g4),by simp only;omega,hL4,ho4,by simp only;omega,h3,hM4⟩) _ rfl ?_;simp only [go_sem,hS0,hS1,hll,hS2,hgm,hsm,hS3,hS4,hw]<;>repeat' first|apply V3|exact on'|fail)
    ·rename_i hq;have hjl:j < (p.Rules.getD k default).Body.length:=by omega
     have hlm:((p.Rules.getD k default).Body.getD j default)∈(p.Rules.getD k default).Body:=A3w hjl;have hkk:((p.Rules.getD k default).Body.getD j default).Kind≠3:=by simpa using hc.1
     have hx0:=b7D (x:=a0X (lvl p g4) ((p.Rules.getD k default).Body.getD j default).Atom.Name) hL4.ge (.inr ⟨hq,rfl⟩);have hh0:=hL4.ge ((vwS p).getD n []);have hc2:=hc.2;rcases hx0 with ⟨hvv,e⟩|⟨hvv,e⟩
     ·have hMM:a2G p g4<=a2G p g:=by
       cases hag4:ag4 with
       | true=>exact Nat.le_of_lt (hM4 hag4)
       | false=>rw [(hF4 hag4).1];exact V9 _
      have R:=a6Y (j:=8 * k+j) hrm (by rw [hrh];exact hv) hlm hkk hvv hL4 (by rw [hrh];exact ho4) (by rw [hrh];exact hh4) (by omega) e (by rw [hrh];exact hc2) hMM;rw [hrh] at R
      (refine lpK_n2 (⟨(j+1,true,upd g4 ((vwS p).getD n []) (a0X (lvl p g4) ((p.Rules.getD k default).Body.getD j default).Atom.Name)),by simp only;omega,R.1,R.2.1,R.2.2.1,fun h=>(by cases h),fun _=>R.2.2.2⟩) _ rfl ?_;simp only [go_sem,hS0,hS1,hll,hS2,hgm,hsm,hS3,hS4,hw]<;>repeat' first|apply V3|exact on'|fail)
     ·exfalso;omega
    ·rename_i hq;have hjl:j < (p.Rules.getD k default).Body.length:=by omega
     have hst:a2F p g4 ((vwS p).getD n []) ((p.Rules.getD k default).Body.getD j default):=b9t hL4.ge (.inr ⟨hq,rfl⟩) hc;have h3:ag4=false->g4=g/\(∀ r∈p.Rules,r.Head.Name∈(vwS p).take n->a0m p g r)/\(∀ r∈p.Rules.take k,r.Head.Name=((vwS p).getD n [])->a0m p g r)/\∀ l∈(p.Rules.getD k default).Body.take (j+1),a2F p g ((vwS p).getD n []) l:=fun h=>by
      have h5:=hF4 h;refine ⟨h5.1,h5.2.1,h5.2.2.1,b9v hjl h5.2.2.2 ?_⟩;rw [<- h5.1];exact hst
     (refine lpK_n2 (⟨(j+1,ag4,g4),by simp only;omega,hL4,ho4,by simp only;omega,h3,hM4⟩) _ rfl ?_;simp only [go_sem,hS0,hS1,hll,hS2,hgm,hsm,hS3,hS4,hw]<;>repeat' first|apply V3|exact on'|fail)
    ·have h3:ag4=false->g4=g/\(∀ r∈p.Rules,r.Head.Name∈(vwS p).take n->a0m p g r)/\∀ r∈p.Rules.take (k+1),r.Head.Name=((vwS p).getD n [])->a0m p g r:=fun h=>by
      have h5:=hF4 h;refine ⟨h5.1,h5.2.1,fun r hr he=>?_⟩;rw [j6 default (by omega),W7,V5] at hr;rcases hr with hr|rfl
      ·exact h5.2.2.1 r hr he
      ·intro _ l hl;rw [he];refine h5.2.2.2 l ?_;rw [j1 (by omega)];exact hl
     (refine lpK_n2 (⟨(k+1,ag4,g4),by simp only;omega,hL4,ho4,by simp only;omega,h3,hM4⟩) _ rfl ?_;simp only [go_sem,hS0,hS1,hll,hS2,hgm,hsm,hS3,hS4,hw]<;>repeat' first|apply V3|exact on'|fail)
   ·rw [b6o hL3 hv hc];exact ⟨rfl,rfl⟩
   ·have h1:∀ v∈vwS p,g3 v<=(vwS p).length:=fun v hv2=>by
     by_cases e:v=((vwS p).getD n [])
     ·rw [e];omega
     ·exact ho3 v hv2 e
    have h3:ag3=false->g3=g/\∀ r∈p.Rules,r.Head.Name∈(vwS p).take (n+1)->a0m p g r:=fun h=>by
     have h5:=hF3 h;refine ⟨h5.1,fun r hr he=>?_⟩;rw [j6 [] (by omega),W7,V5] at he;rcases he with he|he
     ·exact h5.2.1 r hr he
     ·exact h5.2.2 r (by rw [j1 (by omega)];exact hr) he
    (refine lpK_n2 (⟨(n+1,ag3,g3),by simp only;omega,hL3,h1,h3,hM3⟩) _ rfl ?_;simp only [go_sem,hS0,hS1,hll,hS2,hgm,hsm,hS3]<;>repeat' first|apply V3|exact on'|fail)
  ·have h3:ag2=false->Fx p g2:=fun h=>by
    have h5:=hF2 h;rw [j1 (by omega)] at h5;rw [h5.1];intro r hr hv2;exact h5.2 r hr hv2 hv2
   have hmm:ag2=false->g2=g:=fun h=>(hF2 h).1
   (refine lpK_n2 (⟨(ag2,g2),hL2,hle2,h3⟩) _ rfl ?_;simp only [go_sem,hS0,hS1,hll,hS2]<;>repeat' first|apply V3|exact on'|fail)
   cases hag2:ag2 with
   | false=>rw [hmm hag2,hag];simp only [W4,W2];omega
   | true=>have:=hM2 hag2;rw [hag];simp only [W4];omega
 ·rw [b4D hN ⟨hF hc,hL,hle⟩];exact ⟨rfl,rfl⟩
noncomputable def a7K:CT:=j7 (fun (x:c5)=>b5t x)
@[go_sem] def c4r:=fun x0 x1=>nm' (fQ' a7K rfl ⟨x0,x1⟩)
noncomputable def a1K (q:c5×Int×Int):c5×Int×Int:=
 bif q.2.1 != 0 then (default,q.2.1,q.2.2)
 else bif (i8 q.1).1 != 0 then (default,IntKind.i64.wrap (10+(i8 q.1).1),(i8 q.1).2)
 else bif decide (0<=a0e q.1) then (default,20,a0e q.1)
 else bif (a0S q.1).2 then (q.1,0,0) else (default,21,0)
noncomputable def s5 (s:List UInt8):c5×Int×Int:=a1K (y7 s)
def c2a {q:c5×Int×Int} (h:(q.2.1 != 0)=true):a1K q=(default,q.2.1,q.2.2):=by rw [a1K,h];rfl
def c2b {q:c5×Int×Int} (h:(q.2.1 != 0)=false) (h2:((i8 q.1).1 != 0)=true):a1K q=(default,IntKind.i64.wrap (10+(i8 q.1).1),(i8 q.1).2):=by rw [a1K,h,h2];rfl
def c2c {q:c5×Int×Int} (h:(q.2.1 != 0)=false) (h2:((i8 q.1).1 != 0)=false) (h3:0<=a0e q.1):a1K q=(default,20,a0e q.1):=by rw [a1K,h,h2,W8 h3];rfl
def c2d {q:c5×Int×Int} (h:(q.2.1 != 0)=false) (h2:((i8 q.1).1 != 0)=false) (h3:¬ 0<=a0e q.1) (h4:(a0S q.1).2=false):a1K q=(default,21,0):=by rw [a1K,h,h2,V1 h3,h4];rfl
def c2e {q:c5×Int×Int} (h:(q.2.1 != 0)=false) (h2:((i8 q.1).1 != 0)=false) (h3:¬ 0<=a0e q.1) (h4:(a0S q.1).2=true):a1K q=(q.1,0,0):=by rw [a1K,h,h2,V1 h3,h4];rfl
def b5s (s:List UInt8):spZ 10 [(false,[.s s])] [] (.tup [(true,[o8 (((s5 s).1).Decls),o0 (((s5 s).1).Rules)]),(false,[.i .i64 ((s5 s).2.1)]),(false,[.i .i64 ((s5 s).2.2)])]):=by
 refine sx' false true none Tryz.func10 (q' 2 [aw [.sl w5,.sl y4],aK 0,aK 0] (q' 12 [am 0,ac 35 [12],aV 11,ao (.ext (.t 11) 0),ao (.ext (.t 11) 1),ao (.ext (.t 11) 2),ax (w' 5 [.sl w5,.sl y4]),aS 2 5 14,av 6 15,aV 7] (.seq (q' 17 [am 6,ao (.bin .neq (.t 17) (k' 0))] (.cond (.t 18) (q' 19 [ao (.bld [.sl w5,.sl y4] []),aM [6,7],aS 2 2 19,av 3 20,aV 4] .ret) .skip)) (q' 23 [ae 2 5,ac 36 [23],aV 22,ao (.ext (.t 22) 0),ao (.ext (.t 22) 1),av 6 25,aV 7] (.seq (q' 27 [am 6,ao (.bin .neq (.t 27) (k' 0))] (.cond (.t 28) (q' 29 [ao (.bld [.sl w5,.sl y4] []),am 6,ao (.bin .add (k' 10) (.t 30)),am 7,aS 2 2 29,av 3 31,aV 4] .ret) .skip)) (q' 33 [ae 2 5,ac 37 [33],aV 8] (.seq (q' 35 [am 8,ao (.bin .geq (.t 35) (k' 0))] (.cond (.t 36) (q' 37 [ao (.bld [.sl w5,.sl y4] []),am 8,aS 2 2 37,az 3 20,aV 4] .ret) .skip)) (q' 40 [ae 2 5,ac 38 [40],aV 39,ao (.ext (.t 39) 0),ao (.ext (.t 39) 1),av 9 42,aV 10] (.seq (q' 44 [am 10,ao (.not (.t 44))] (.cond (.t 45) (q' 46 [ao (.bld [.sl w5,.sl y4] []),aS 2 2 46,az 3 21,az 4 0] .ret) .skip)) (q' 47 [ae 2 5,aS 2 2 47,az 3 0,az 4 0] .ret)))))))))) [.c 2 true 2,.t 3,.t 4] [(35,[],a9u),(36,[],a1S),(37,[],a4A),(38,[],a7K)] ?_;intro hb hE;simp only [go_sem];repeat' first|apply cj'|intro hc|exact om'|fail
 all_goals first
  | (rw [s5,c2a hc];exact ⟨⟨⟨rfl,rfl⟩,rfl⟩,rfl⟩)
  | (rename_i h1;rw [s5,c2b h1 hc];exact ⟨⟨⟨rfl,rfl⟩,rfl⟩,rfl⟩)
  | (rename_i h1 h2;rw [s5,c2c h1 h2 hc];exact ⟨⟨⟨rfl,rfl⟩,rfl⟩,rfl⟩)
  | (rename_i h1 h2 h3;rw [s5,c2d h1 h2 h3 hc];exact ⟨⟨⟨rfl,rfl⟩,rfl⟩,rfl⟩)
  | (rename_i h1 h2 h3;rw [s5,c2e h1 h2 h3 hc];exact ⟨⟨⟨rfl,rfl⟩,rfl⟩,rfl⟩)
  | trace_state
noncomputable def a7J:CT:=j7 (fun (x:(List UInt8))=>b5s x)
@[go_sem] def c4q:=fun s=>nm' (fQ' a7J rfl s)
end Go.Aw
namespace Go.Aw
open Go.Proofs
set_option linter.all false
set_option maxRecDepth 100000
def c1M (p:c5):0<=(i8 p).1/\(i8 p).1<=7:=by
 unfold i8;cases t6 p with
 | false=>exact ⟨Int.zero_le_ofNat 1,show (1:Int)<=7 by decide⟩
 | true=>
   simp only [q3N,W2];split
   ·exact ⟨show (0:Int)<=2 by decide,show (2:Int)<=7 by decide⟩
   ·split
    ·unfold u7;simp only;generalize (q0 _).any (a3L p)=b1;generalize (q0 _).any (a3M p)=b2;generalize a2Z p _=b3;generalize ((q0 _).drop 1).any b0I=b4;generalize b0H p _=b5
     revert b1 b2 b3 b4 b5
     decide
    ·exact ⟨by decide,by decide⟩
attribute [local irreducible] aft blk lpK retK AW A0d
attribute [local irreducible] RM
set_option maxHeartbeats 4000000
def a5G (t:d7):Bool:=(t.Kind==1&&t.N==0) || t.Kind==2 || (t.Kind==3&&t.S==[]) || t.Kind==4
def a0E (r:c4):Prop:=j4 r/\∀ t∈r.toks,a5G t=true
def o6 (r:c4):d7:=bif l4 r then ⟨0,0,[],r.e⟩ else i3 r r.i
def a2A {r:c4} (h:l4 r=true):o6 r=⟨0,0,[],r.e⟩:=by rw [o6,h];rfl
def a1u {r:c4} (h:l4 r=false):o6 r=i3 r r.i:=by rw [o6,h];rfl
def a9C (r:c4) (s:List UInt8):((o6 r).Kind==4&&(o6 r).S==s)=isS r r.i s:=by
 cases h:l4 r with
 | true=>
   rw [a2A h,isS];simp only [l4,q1L,q0V,V2] at h;rcases h with h|h
   ·rw [h];rfl
   ·rw [V1 (by omega),q2L];rfl
 | false=>
   rw [a1u h,isS];simp only [l4,q0R,q2E,q2N] at h;rw [h.1,W8 (by omega)];rfl
def c4H (r:c4):((o6 r).Kind==1&&!a2b (o6 r).S)=a0k r:=by
 cases h:l4 r with
 | true=>rw [a2A h,a0k,h];rfl
 | false=>
   rw [a1u h,a0k,h,q3O,Bool.not_or,q3I]
def b3U {r:c4} (h:a0E r) (hn:l4 r=false):a5G (i3 r r.i)=true:=by
 have h1:=a2d hn;have h0:=h.1.1.1;refine h.2 _ ?_;rw [i3,t8 default (by omega)];exact q0S _
def a3E (r:c4):Bool:=!m8 r
def c4G {r:c4} (h:a0E r):((o6 r).Kind==2 || (o6 r).Kind==3 || a0k r)=a3E r:=by
 cases hn:l4 r with
 | true=>rw [a2A hn,a3E,m8,a0k,hn];rfl
 | false=>
   have ht:=b3U h hn;rw [a1u hn,a3E,m8,a0k,hn];simp only [a5G] at ht;generalize i3 r r.i=t at *;simp only [q1L,W3,beq_iff_eq] at ht;rcases ht with ((⟨ht,_⟩|ht)|⟨ht,_⟩)|ht<;>rw [ht]<;>simp
def b2h:Nat->c4->List c8->c4×List c8
 | 0,r,a=>(r,a)
 | n+1,r,a=>bif r.code==0 then
    (bif a3E r&&(a.length:Int)==6 then (g8 r 7,a)
     else bif isS (g9 r false) (g9 r false).i n0 then b2h n (i9 (g9 r false)) (a++[s7 r false])
     else (g9 r false,a++[s7 r false]))
   else (r,a)
def a0Q {r:c4} {i:Int} {s:List UInt8} (h:r.code≠0):isS r i s=false:=by
 rw [isS,show (r.code==0)=false by simpa using h];rfl
def b6Y:∀ (n:Nat) (r:c4) (a:List c8),(b2h n r a).1=(a3e n r a).1/\((a3e n r a).1.code=0->(b2h n r a).2=(a3e n r a).2)
 | 0,r,a=>⟨rfl,fun _=>rfl⟩
 | n+1,r,a=>by
   rw [b2h,a3e];cases hc:r.code==0 with
   | false=>exact ⟨rfl,fun _=>rfl⟩
   | true=>
     rw [W4,W4];cases hf:((a.length:Int)==6) with
     | false=>
       rw [q2L,W2];cases hs:isS (g9 r false) (g9 r false).i n0 with
       | false=>exact ⟨rfl,fun _=>rfl⟩
       | true=>exact b6Y n _ _
     | true=>
       rw [q0Y];cases hb:m8 r with
       | true=>
         have e:g9 r true=g9 r false/\s7 r true=s7 r false:=by rw [(a1p hb).1,(a1p hb).2,(a1p hb).1,(a1p hb).2];exact ⟨rfl,rfl⟩
         rw [a3E,hb,e.1,e.2];simp only [q3N,W2];rw [a0Q (by rw [(a1p hb).2];exact p8 (by decide))];exact ⟨rfl,fun _=>rfl⟩
       | false=>
         rw [a3E,hb,(b1j hb).1,(b1j hb).2];simp only [q3D,W4];rw [a0Q (p8 (by decide))];exact ⟨rfl,fun h=>absurd h (p8 (by decide))⟩
def a1M (r:c4):d6:=
 bif isS (i6 (i7 r) t7) (i6 (i7 r) t7).i a3D then ⟨a0b r,[]⟩
 else ⟨a0b r,(b2h (o5 (i6 (i7 r) t7)) (i6 (i7 r) t7) []).2⟩
def b9P {r:c4} {s:List UInt8} (h:(i6 r s).code=0):r.code=0:=(a1L r s).c h
def b3u {r:c4} (h:(j8 r).1.code=0):a1M r=(j8 r).2:=by
 rw [j8] at h ⊢;rw [a1M];cases hs:isS (i6 (i7 r) t7) (i6 (i7 r) t7).i a3D with
 | true=>rfl
 | false=>
   rw [hs] at h;have h1:=(b6Y (o5 (i6 (i7 r) t7)) (i6 (i7 r) t7) []).2 (b9P h);rw [W2,W2,h1]
def opI (s:List UInt8):Int:=a4o (fun y=>s==y) [[],[61],[33,61],[60],[60,61]]
def opJ (r:c4):Int:=bif (o6 r).Kind==4 then opI (o6 r).S else 0
def c1O (r:c4):opR r=bif decide (opJ r < 1) then 0 else opJ r:=by
 rw [opR,<- a9C,<- a9C,<- a9C,<- a9C,opJ];cases (o6 r).Kind==4 with
 | false=>rfl
 | true=>
   generalize (o6 r).S=s;simp only [q0I,W4];by_cases h1:s=[61]
   ·subst h1;rfl
   ·by_cases h2:s=[33,61]
    ·subst h2;rfl
    ·by_cases h3:s=[60]
     ·subst h3;rfl
     ·by_cases h4:s=[60,61]
      ·subst h4;rfl
      ·rw [beq_eq_false_iff_ne.2 h1,beq_eq_false_iff_ne.2 h2,beq_eq_false_iff_ne.2 h3,beq_eq_false_iff_ne.2 h4];have h:opI s < 1:=by
        by_cases h0:s=[]
        ·subst h0;decide
        ·rw [opI,y3]
         ·decide
         ·simp only [q2X,q4T,q3P,q0R,beq_eq_false_iff_ne];exact ⟨h0,h1,h2,h3,h4⟩
       rw [W8 h];rfl
def a2k (r:c4):c7:=
 bif !l4 r&&((i3 r r.i).Kind==1&&(i3 r r.i).S==a4R) then ⟨2,a1M (i9 r),0,default,default⟩
 else bif !l4 r&&((i3 r r.i).Kind==1&&(!a2b (i3 r r.i).S&&isS r (r.i+1) t7)) then ⟨1,a1M r,0,default,default⟩
 else bif decide (opJ (g9 r false) < 1) then ⟨3,default,opJ (g9 r false),s7 r false,default⟩
 else ⟨3,default,opJ (g9 r false),s7 r false,s7 (i9 (g9 r false)) false⟩
def c3b {r:c4} (h:(j3 r).1.code=0):a2k r=(j3 r).2:=by
 rw [j3] at h ⊢;rw [a2k];cases h1:(!l4 r&&((i3 r r.i).Kind==1&&(i3 r r.i).S==a4R)) with
 | true=>rw [h1] at h;rw [W4,W4,b3u h]
 | false=>
   rw [h1] at h;cases h2:(!l4 r&&((i3 r r.i).Kind==1&&(!a2b (i3 r r.i).S&&isS r (r.i+1) t7))) with
   | true=>rw [h2] at h;rw [W2,W4,W2,W4,b3u h]
   | false=>
     rw [h2] at h;have ho:=c1O (g9 r false);simp only [W2] at h ⊢;by_cases h3:opJ (g9 r false) < 1
     ·rw [W8 h3,W4] at ho;rw [ho] at h;exact absurd ((a0x _ false).c h) (p8 (by decide))
     ·rw [V1 h3,W2] at ho;rw [V1 h3,ho,show (opJ (g9 r false)==0)=false from beq_eq_false_iff_ne.2 (by omega)];rfl
def a5q:Nat->c4->List c7->c4×List c7
 | 0,r,a=>(r,a)
 | n+1,r,a=>bif r.code==0 then
    (bif a5j r&&(a.length:Int)==8 then (g8 r 7,a)
     else bif isS (j3 r).1 (j3 r).1.i n0 then a5q n (i9 (j3 r).1) (a++[a2k r])
     else ((j3 r).1,a++[a2k r]))
   else (r,a)
def a7a {r:c4} (h:r.code≠0):l4 r=true:=by rw [l4,show (r.code==0)=false by simpa using h];rfl
def a3y {r:c4} {c:Int} (h:r.code≠0):g8 r c=r:=a4H (by simpa [bne] using h)
def a2g {r:c4} {s:List UInt8} (h:r.code≠0):i6 r s=r:=by rw [a7g (a0Q h),a3y h]
def b9Y {r:c4} (h:r.code≠0):i7 r=r:=by rw [i7,a0k,a7a h];exact a3y h
def b9R {r:c4} {f:Bool} (h:r.code≠0):g9 r f=r:=by rw [(a1p (show m8 r=true by rw [m8,a7a h];rfl)).2,a3y h]
def op_off {r:c4} (h:r.code≠0):opR r=0:=by rw [opR,a0Q h,a0Q h,a0Q h,a0Q h];rfl
def lit_off {r:c4} (h:r.code≠0):(j3 r).1=r:=by
 rw [j3,a7a h];simp only [q3N,Bool.false_and,W2,b9R h,op_off h,a3y h,beq_self_eq_true,W4]
def b8y {n:Nat} {r:c4} {a:List c8} (h:r.code≠0):(a3e n r a)=(r,a):=by
 cases n with
 | zero=>rfl
 | succ n=>rw [a3e,show (r.code==0)=false by simpa using h];rfl
def c5O {r:c4} (h:r.code≠0):(j8 r).1=r:=by
 rw [j8,b9Y h,a2g h,a0Q h,W2];simp only [b8y h,a2g h]
def c6U {r:c4} (h:r.code≠0):(v9 r).1=r:=by
 rw [a0Z,v6,a0Q h,a0Q h];simp only [q4V,W2,c5O h,a2f,a0Q h,a2g h]
def c6m {r:c4} {k:Int} (h:r.code≠0):(k9 r k).1=r:=by
 rw [k9,b9Y h,a2g h];simp only [a0D,a7a h,q4U,q3N,W2,a3y h]
def a9h:∀ (n:Nat) (r:c4) (a:List c7),(a5q n r a).1=(a1D n r a).1/\((a1D n r a).1.code=0->(a5q n r a).2=(a1D n r a).2)
 | 0,r,a=>⟨rfl,fun _=>rfl⟩
 | n+1,r,a=>by
   rw [a5q,a1D];cases hc:r.code==0 with
   | false=>exact ⟨rfl,fun _=>rfl⟩
   | true=>
     rw [W4,W4];cases hf:(a5j r&&(a.length:Int)==8) with
     | true=>
       have e:t5 r a.length=g8 r 7:=by rw [t5,Bool.and_comm,hf];rfl
       have h7:(g8 r 7).code≠0:=p8 (by decide);rw [e,lit_off h7,a0Q h7];exact ⟨rfl,fun h=>absurd h h7⟩
     | false=>
       have e:t5 r a.length=r:=by rw [t5,Bool.and_comm,hf];rfl
       rw [e,W2];cases hs:isS (j3 r).1 (j3 r).1.i n0 with
       | false=>exact ⟨rfl,fun h=>by show a++[a2k r]=a++[(j3 r).2];rw [c3b h]⟩
       | true=>
         rw [c3b (v7 hs).1];exact a9h n _ _
def a1n {r q:c4} (h:Adv r q) (hr:a0E r):a0E q:=⟨h.ok hr.1,by rw [h.t];exact hr.2⟩
def b5P:∀ (n m:Nat) {r:c4} {a:List c8},j4 r->r.toks.length < n+r.i.toNat->r.toks.length < m+r.i.toNat->b2h n r a=b2h m r a
 | 0,_,r,a,h,h1,_=>by obtain ⟨⟨h0,h2⟩,_⟩:=h;omega
 | _,0,r,a,h,_,h1=>by obtain ⟨⟨h0,h2⟩,_⟩:=h;omega
 | n+1,m+1,r,a,h,h1,h2=>by
   rw [b2h,b2h];cases hs:isS (g9 r false) (g9 r false).i n0 with
   | false=>rfl
   | true=>
     have ha:=a0x r false;have hk:=ha.ok h;have hlt:=(v7 hs).2;have h0:=h.1.1;have h3:=hk.1.1;have h4:=ha.i;have e:=b5P n m (a:=a++[s7 r false]) (v5 hk hlt) (by show (g9 r false).toks.length < n+((g9 r false).i+1).toNat;rw [ha.t];omega) (by show (g9 r false).toks.length < m+((g9 r false).i+1).toNat;rw [ha.t];omega);rw [W4,e];rfl
def a6a (r:c4) (a:List c8):c4×List c8:=b2h (o5 r) r a
def c3Z {r:c4} {a:List c8} (h:¬ r.code=0):a6a r a=(r,a):=by
 rw [a6a];cases o5 r with
 | zero=>rfl
 | succ n=>rw [b2h,show (r.code==0)=false by simpa using h];rfl
def b3t {r:c4} {a:List c8} (h:j4 r) (hc:r.code=0):a6a r a=bif a3E r&&(a.length:Int)==6 then (g8 r 7,a) else bif isS (g9 r false) (g9 r false).i n0 then a6a (i9 (g9 r false)) (a++[s7 r false]) else (g9 r false,a++[s7 r false]):=by
 have h0:=h.1;have hf:o5 r=(o5 r - 1)+1:=by rw [o5];omega
 rw [a6a,hf,b2h,show (r.code==0)=true by simpa using hc,W4];cases hs:isS (g9 r false) (g9 r false).i n0 with
 | false=>rfl
 | true=>
   have ha:=a0x r false;have hk:=ha.ok h;have hlt:=(v7 hs).2;have h3:=hk.1.1;have h4:=ha.i;have e:=b5P (o5 r - 1) (o5 (i9 (g9 r false))) (a:=a++[s7 r false]) (v5 hk hlt) (by show (g9 r false).toks.length < o5 r - 1+((g9 r false).i+1).toNat;rw [ha.t,o5];omega) (by rw [o5];show _ < (g9 r false).toks.length+2 - ((g9 r false).i+1).toNat+_;show (g9 r false).toks.length < (g9 r false).toks.length+2 - ((g9 r false).i+1).toNat+((g9 r false).i+1).toNat;omega);rw [W4,W4,e,a6a]
def b3x:∀ (n m:Nat) {r:c4} {a:List c7},j4 r->r.toks.length < n+r.i.toNat->r.toks.length < m+r.i.toNat->a5q n r a=a5q m r a
 | 0,_,r,a,h,h1,_=>by obtain ⟨⟨h0,h2⟩,_⟩:=h;omega
 | _,0,r,a,h,_,h1=>by obtain ⟨⟨h0,h2⟩,_⟩:=h;omega
 | n+1,m+1,r,a,h,h1,h2=>by
   rw [a5q,a5q];cases hs:isS (j3 r).1 (j3 r).1.i n0 with
   | false=>rfl
   | true=>
     have ha:=a0u r;have hk:=ha.ok h;have hlt:=(v7 hs).2;have h0:=h.1.1;have h3:=hk.1.1;have h4:=ha.i;have e:=b3x n m (a:=a++[a2k r]) (v5 hk hlt) (by show (j3 r).1.toks.length < n+((j3 r).1.i+1).toNat;rw [ha.t];omega) (by show (j3 r).1.toks.length < m+((j3 r).1.i+1).toNat;rw [ha.t];omega);rw [W4,e];rfl
def a1N (r:c4) (a:List c7):c4×List c7:=a5q (o5 r) r a
def c4b {r:c4} {a:List c7} (h:¬ r.code=0):a1N r a=(r,a):=by
 rw [a1N];cases o5 r with
 | zero=>rfl
 | succ n=>rw [a5q,show (r.code==0)=false by simpa using h];rfl
def b3y {r:c4} {a:List c7} (h:j4 r) (hc:r.code=0):a1N r a=bif a5j r&&(a.length:Int)==8 then (g8 r 7,a) else bif isS (j3 r).1 (j3 r).1.i n0 then a1N (i9 (j3 r).1) (a++[a2k r]) else ((j3 r).1,a++[a2k r]):=by
 have h0:=h.1;have hf:o5 r=(o5 r - 1)+1:=by rw [o5];omega
 rw [a1N,hf,a5q,show (r.code==0)=true by simpa using hc,W4];cases hs:isS (j3 r).1 (j3 r).1.i n0 with
 | false=>rfl
 | true=>
   have ha:=a0u r;have hk:=ha.ok h;have hlt:=(v7 hs).2;have h3:=hk.1.1;have h4:=ha.i;have e:=b3x (o5 r - 1) (o5 (i9 (j3 r).1)) (a:=a++[a2k r]) (v5 hk hlt) (by show (j3 r).1.toks.length < o5 r - 1+((j3 r).1.i+1).toNat;rw [ha.t,o5];omega) (by rw [o5];show (j3 r).1.toks.length < (j3 r).1.toks.length+2 - ((j3 r).1.i+1).toNat+((j3 r).1.i+1).toNat;omega);rw [W4,W4,e,a1N]
def a4W (r:c4):c6:=⟨a0T r,a1M (v6 r),bif isS (j8 (v6 r)).1 (j8 (v6 r)).1.i b5D then (a5q (o5 (i9 (j8 (v6 r)).1)) (i9 (j8 (v6 r)).1) []).2 else []⟩
def c6Q {r:c4} (h:(v9 r).1.code=0):a4W r=(v9 r).2:=by
 rw [a0Z] at h ⊢;have h1:=b9P h;have h2:=(a6R _).c h1;rw [a4W,b3u h2];rw [a2f] at h1 ⊢;cases hs:isS (j8 (v6 r)).1 (j8 (v6 r)).1.i b5D with
 | false=>rfl
 | true=>
   rw [hs] at h1;have h3:=(a9h (o5 (i9 (j8 (v6 r)).1)) (i9 (j8 (v6 r)).1) []).2 h1;rw [W4,W4,h3];rfl
def here_e {r:c4} (h:(r.code != 0)=true\/(r.toks.length:Int)<=r.i):o6 r=⟨0,0,[],r.e⟩:=a2A (a7b h)
def here_t {r:c4} (h:(r.code != 0)=false/\¬ (r.toks.length:Int)<=r.i):o6 r=r.toks.getD r.i.toNat default:=by rw [a1u (a4T h),i3]
def a8v (r:c4) (hpre:j4 r):spZ 109 [(false,[.p [j2 r.toks,.i .i64 r.i,.i .i64 r.e,.i .i64 r.code,.i .i64 r.p]])] [] (.one (true,[.i .i64 ((o6 r).Kind),.i .i64 ((o6 r).N),.s ((o6 r).S),.i .i64 ((o6 r).At)])):=by
 refine sx' false true none Tryz.func109 (q' 2 [aw [.i .i64,.i .i64,.s,.i .i64]] (.seq (.seq (G' 3 [am 0,ao (.nck (.t 3)),aG 3 4,ao (.bin .neq (.t 6) (k' 0)),am 7,au (.mov (.t 0)) 8 false,au (.nck (.t 9)) 8 false,au (.fa 1 (.t 10)) 8 false,au (.ld false 1 (.t 11)) 8 false,au (.mov (.t 0)) 8 false,au (.nck (.t 13)) 8 false,au (.fa 0 (.t 14)) 8 false,au (.ld false 1 (.t 15)) 8 false,au (.len (.t 16)) 8 false,au (.bin .geq (.t 12) (.t 17)) 8 false,ao (.pick (.t 8) (bb true) (.t 18))]) (.cond (.t 19) (q' 20 [am 0,ao (.nck (.t 20)),aG 2 21,ao (.bld [.i .i64,.i .i64,.s,.i .i64] [(3,1,.t 23)]),aS 4 2 24] .ret) .skip)) (.seq (.rego [(true,0,m' 25 0),(true,1,o' 26 (.nck (.t 25))),(true,2,f' 27 0 26),(true,3,l' 28 27),(false,4,m' 29 0),(false,5,o' 30 (.nck (.t 29))),(false,6,f' 31 1 30),(false,7,l' 32 31),(false,8,i' 33 4 28 32),(false,9,e' 34 4 33),(false,10,s' 4 2 34)] [0,1,1000000]) .ret))) [.c 2 true 4] [] ?_;intro hb hE;obtain ⟨⟨h0,h1⟩,h2⟩:=hpre;simp only [go_sem];repeat' first|apply cj'|intro hc|exact om'|fail
 ·rw [here_e hc];exact ⟨⟨⟨rfl,rfl⟩,rfl⟩,rfl⟩
 ·rw [here_t hc];exact ⟨⟨⟨rfl,rfl⟩,rfl⟩,rfl⟩
noncomputable def k8:CT:=u9 (fun (x:c4) h=>a8v x h)
@[go_sem] def b7Z:=fun x0 x1 x2 x3 x4=>nm' (fP' k8 rfl ⟨x0,x1,x2,x3,x4⟩)
def c1B {r:c4} {c:Int} (h:(r.code==0)=true):g8 r c=⟨r.toks,r.i,r.e,c,(o6 r).At⟩:=by
 rw [g8,h,o6,l4,h];by_cases hl:r.i < r.toks.length
 ·rw [W8 hl,V1 (by omega)];rfl
 ·rw [V1 hl,W8 (by omega)];rfl
def a6E (r:c4) (hpre:j4 r):spZ 110 [(false,[.p [j2 r.toks,.i .i64 r.i,.i .i64 r.e,.i .i64 r.code,.i .i64 r.p]])] [] (.one (false,[.b (a0k r)])):=by
 refine sy' Tryz.func110 (q' 0 [ab 2 false] (q' 4 [am 0,ac 109 [4],ax (w' 3 [.i .i64,.i .i64,.s,.i .i64]),aS 4 3 5] (q' 6 [aG 0 3,ao (.bin .eql (.t 7) (k' 1)),am 8,au (.fa 2 (.t 3)) 9 true,au (.ld false 1 (.t 10)) 9 true,au (.call 170 [.t 11]) 9 true,au (.not (.t 12)) 9 true,ao (.pick (.t 9) (.t 13) (bb false)),aV 2] .ret))) [.t 2] [(109,[],k8),(170,[],a3N)] ?_;intro hb hE;simp only [go_sem];repeat' first|apply cj'|intro hc|exact om'|fail
 ·exact hpre
 ·exact c4H r
noncomputable def y6:CT:=u9 (fun (x:c4) h=>a6E x h)
@[go_sem] def b5Y:=fun x0 x1 x2 x3 x4=>nm' (fP' y6 rfl ⟨x0,x1,x2,x3,x4⟩)
def a6F (r:c4) (s:List UInt8) (hpre:j4 r):spZ 111 [(false,[.p [j2 r.toks,.i .i64 r.i,.i .i64 r.e,.i .i64 r.code,.i .i64 r.p]]),(false,[.s s])] [] (.one (false,[.b (isS r r.i s)])):=by
 refine sy' Tryz.func111 (q' 0 [ab 4 false] (q' 6 [am 0,ac 109 [6],ax (w' 5 [.i .i64,.i .i64,.s,.i .i64]),aS 4 5 7] (q' 8 [aG 0 5,ao (.bin .eql (.t 9) (k' 4)),am 10,au (.fa 2 (.t 5)) 11 true,au (.ld false 1 (.t 12)) 11 true,au (.mov (.t 1)) 11 true,au (.bin .eql (.t 13) (.t 14)) 11 true,ao (.pick (.t 11) (.t 15) (bb false)),aV 4] .ret))) [.t 4] [(109,[],k8)] ?_;intro hb hE;simp only [go_sem];repeat' first|apply cj'|intro hc|exact om'|fail
 ·exact hpre
 ·exact a9C r s
noncomputable def v8:CT:=u9 (fun (x:c4×(List UInt8)) h=>a6F x.1 x.2 h)
@[go_sem] def b5Z:=fun x0 x1 x2 x3 x4 s=>nm' (fP' v8 rfl (⟨x0,x1,x2,x3,x4⟩,s))
def a8u (r:c4) (c:Int) (hpre:j4 r):spZ 112 [(false,[.mp [j2 r.toks,.i .i64 r.i,.i .i64 r.e,.i .i64 r.code,.i .i64 r.p]]),(false,[.i .i64 c])] [(0,(false,[.mp [j2 ((g8 r c).toks),.i .i64 ((g8 r c).i),.i .i64 ((g8 r c).e),.i .i64 ((g8 r c).code),.i .i64 ((g8 r c).p)]]))] (.tup []):=by
 refine sx' false false (some 0) Tryz.func112 (q' 5 [am 0,ao (.nck (.t 5)),aG 3 6,ao (.bin .eql (.t 8) (k' 0))] (.cond (.t 9) (q' 10 [am 0,ac 109 [10],ax (w' 4 [.i .i64,.i .i64,.s,.i .i64]),aS 4 4 11] (q' 12 [aM [0,1],ao (.nck (.t 12)),aF 3,aS 1 15 13] (g' 16 [am 0,aG 3 4,ao (.nck (.t 16)),aF 4,aS 1 20 18]))) .skip)) [] [(109,[],k8)] ?_;intro hb hE;simp only [go_sem];repeat' first|apply cj'|intro hc|exact om'|fail
 ·exact hpre
 ·rw [c1B hc]
 ·rw [a4H (by rw [bne,hc];rfl)]
noncomputable def n9:CT:=u9 (fun (x:c4×Int) h=>a8u x.1 x.2 h)
@[go_sem] def b7Y:=fun x0 x1 x2 x3 x4 c=>nm' (fP' n9 rfl (⟨x0,x1,x2,x3,x4⟩,c))
def a6G (r:c4) (hpre:a0E r):spZ 281 [(false,[.p [j2 r.toks,.i .i64 r.i,.i .i64 r.e,.i .i64 r.code,.i .i64 r.p]])] [] (.one (false,[.b (a3E r)])):=by
 refine sy' Tryz.func281 (q' 0 [ab 2 false] (q' 4 [am 0,ac 109 [4],ax (w' 3 [.i .i64,.i .i64,.s,.i .i64]),aS 4 3 5] (q' 6 [aG 0 3,ao (.bin .eql (.t 7) (k' 2)),am 8,au (.fa 0 (.t 3)) 9 false,au (.ld false 1 (.t 10)) 9 false,au (.bin .eql (.t 11) (k' 3)) 9 false,ao (.pick (.t 9) (bb true) (.t 12)),am 13,au (.mov (.t 0)) 14 false,au (.call 110 [.t 15]) 14 false,ao (.pick (.t 14) (bb true) (.t 16)),aV 2] .ret))) [.t 2] [(109,[],k8),(110,[],y6)] ?_;intro hb hE;have hk:=hpre.1;simp only [go_sem];repeat' first|apply cj'|intro hc|exact om'|fail
 ·exact hk
 ·exact hk
 ·exact c4G hpre
noncomputable def a0q:CT:=u9 (fun (x:c4) h=>a6G x h)
@[go_sem] def b6a:=fun x0 x1 x2 x3 x4=>nm' (fP' a0q rfl ⟨x0,x1,x2,x3,x4⟩)
def a8x (r:c4) (s:List UInt8) (hpre:j4 r):spZ 212 [(false,[.mp [j2 r.toks,.i .i64 r.i,.i .i64 r.e,.i .i64 r.code,.i .i64 r.p]]),(false,[.s s])] [(0,(false,[.mp [j2 ((i6 r s).toks),.i .i64 ((i6 r s).i),.i .i64 ((i6 r s).e),.i .i64 ((i6 r s).code),.i .i64 ((i6 r s).p)]]))] (.tup []):=by
 refine sx' false false (some 0) Tryz.func212 (.seq (q' 4 [aM [0,1],ac 111 [4,5],ao (.not (.t 6))] (.cond (.t 7) (q' 8 [am 0,ao (.call 112 [.t 8,.k (.v false [.c (.i .i64 6)])])] .ret) .skip)) (g' 10 [am 0,ao (.nck (.t 10)),aG 1 11,ao (.bin .add (.t 13) (k' 1)),ao (.nck (.t 10)),aF 1,aS 1 16 14])) [] [(111,[],v8),(112,[0],n9)] ?_;intro hb hE;have hw1:=a2I hpre;simp only [go_sem];repeat' first|apply cj'|intro hc|exact om'|fail
 ·exact hpre
 ·exact hpre
 ·rw [a7g hc]
 ·rw [a6P hc,hw1];rfl
noncomputable def a0F:CT:=u9 (fun (x:c4×(List UInt8)) h=>a8x x.1 x.2 h)
@[go_sem] def b8b:=fun x0 x1 x2 x3 x4 s=>nm' (fP' a0F rfl (⟨x0,x1,x2,x3,x4⟩,s))
def c7h {r:c4} (h:a0k r=true):l4 r=false:=by
 simp only [a0k,q0V,q0R] at h;exact h.1
def c4S {r:c4} (h:a0k r=true):o6 r=i3 r r.i:=a1u (c7h h)
def term_n {r:c4} (h:a3E r=false):g9 r false=g8 r 6/\s7 r false=default:=by
 have hb:m8 r=true:=by rw [a3E] at h;simpa using h
 exact ⟨(a1p hb).2,(a1p hb).1⟩
def c1S {r:c4} (h:a0E r) (hy:a3E r=true):g9 r false=i9 r/\s7 r false=bif (o6 r).Kind==2 then ⟨(o6 r).S,default⟩ else bif (o6 r).Kind==3 then ⟨[],⟨(o6 r).N,[]⟩⟩ else ⟨[],⟨0,(o6 r).S⟩⟩:=by
 have hb:m8 r=false:=by rw [a3E] at hy;simpa using hy
 have hn:l4 r=false:=by simp only [m8,q0R] at hb;exact hb.1
 have ht:=b3U h hn;obtain ⟨e1,e2⟩:=b7O hb;refine ⟨e2, ?_⟩;rw [e1,a1u hn];simp only [m8,q0R,beq_eq_false_iff_ne] at hb;have h4:=hb.2.1;simp only [a5G,q1L,W3,beq_iff_eq] at ht;rcases ht with ((⟨ht,h5⟩|ht)|⟨ht,h5⟩)|ht
 ·rw [ht,h5];rfl
 ·rw [ht];rfl
 ·rw [ht,h5];rfl
 ·exact absurd ht h4
def a8w (r:c4) (hpre:j4 r):spZ 211 [(false,[.mp [j2 r.toks,.i .i64 r.i,.i .i64 r.e,.i .i64 r.code,.i .i64 r.p]])] [(0,(false,[.mp [j2 ((i7 r).toks),.i .i64 ((i7 r).i),.i .i64 ((i7 r).e),.i .i64 ((i7 r).code),.i .i64 ((i7 r).p)]]))] (.one (false,[.s (a0b r)])):=by
 refine sx' false false (some 0) Tryz.func211 (q' 2 [ao (.mov (.k (.v false [.c (.s [])])))] (.seq (q' 4 [am 0,ac 110 [4],ao (.not (.t 5))] (.cond (.t 6) (q' 7 [am 0,ao (.call 112 [.t 7,.k (.v false [.c (.i .i64 6)])])] (q' 2 [ao (.mov (.k (.v false [.c (.s [])])))] .ret)) .skip)) (q' 9 [am 0,ac 109 [9],ax (w' 3 [.i .i64,.i .i64,.s,.i .i64]),aS 4 3 10] (q' 11 [am 0,ao (.nck (.t 11)),aG 1 12,ao (.bin .add (.t 14) (k' 1)),ao (.nck (.t 11)),aF 1,aS 1 17 15] (q' 18 [aG 2 3,aV 2] .ret))))) [.t 2] [(110,[],y6),(112,[0],n9),(109,[],k8)] ?_;intro hb hE;have hw1:=a2I hpre;simp only [go_sem,hw1];repeat' first|apply cj'|intro hc|exact om'|fail
 ·exact hpre
 ·exact hpre
 ·rw [a0b,i7,hc];exact ⟨rfl,rfl⟩
 ·exact hpre
 ·rw [c4S hc,a0b,i7,hc];exact ⟨rfl,rfl⟩
noncomputable def a1y:CT:=u9 (fun (x:c4) h=>a8w x h)
@[go_sem] def b8a:=fun x0 x1 x2 x3 x4=>nm' (fP' a1y rfl ⟨x0,x1,x2,x3,x4⟩)
def a8z (r:c4) (hpre:a0E r):spZ 282 [(false,[.mp [j2 r.toks,.i .i64 r.i,.i .i64 r.e,.i .i64 r.code,.i .i64 r.p]])] [(0,(false,[.mp [j2 ((g9 r false).toks),.i .i64 ((g9 r false).i),.i .i64 ((g9 r false).e),.i .i64 ((g9 r false).code),.i .i64 ((g9 r false).p)]]))] (.one (true,[.s ((s7 r false).Var),.i .i64 (((s7 r false).Val).N),.s (((s7 r false).Val).S)])):=by
 refine sx' false true (some 0) Tryz.func282 (q' 2 [aw [.s,.i .i64,.s]] (.seq (q' 4 [am 0,ac 281 [4],ao (.not (.t 5))] (.cond (.t 6) (q' 7 [am 0,ao (.call 112 [.t 7,.k (.v false [.c (.i .i64 6)])])] (q' 9 [ao (.bld [.s,.i .i64,.s] []),aS 3 2 9] .ret)) .skip)) (q' 10 [am 0,ac 109 [10],ax (w' 3 [.i .i64,.i .i64,.s,.i .i64]),aS 4 3 11] (q' 12 [am 0,ao (.nck (.t 12)),aG 1 13,ao (.bin .add (.t 15) (k' 1)),ao (.nck (.t 12)),aF 1,aS 1 18 16] (.seq (q' 19 [aG 0 3] (.block 0 (q' 22 [ao (.bin .eql (.t 20) (k' 2)),aV 21] (.cond (.t 21) (q' 23 [aG 2 3,ao (.bld [.s,.i .i64,.s] [(0,1,.t 24)]),aS 3 2 25] .ret) (q' 27 [ao (.bin .eql (.t 20) (k' 3)),aV 26] (.cond (.t 26) (q' 28 [aG 1 3,ao (.bld [.i .i64,.s] [(0,1,.t 29)]),ao (.bld [.s,.i .i64,.s] [(1,2,.t 30)]),aS 3 2 31] .ret) .skip)))))) (q' 32 [aG 2 3,ao (.bld [.i .i64,.s] [(1,1,.t 33)]),ao (.bld [.s,.i .i64,.s] [(1,2,.t 34)]),aS 3 2 35] .ret)))))) [.c 2 true 3] [(281,[],a0q),(112,[0],n9),(109,[],k8)] ?_;intro hb hE;have hk:=hpre.1;have hw1:=a2I hk;simp only [go_sem,hw1];repeat' first|apply cj'|intro hc|exact om'|fail
 ·exact hpre
 ·exact hk
 ·obtain ⟨e1,e2⟩:=term_n hc;rw [e1,e2];exact ⟨⟨⟨rfl,rfl⟩,rfl⟩,rfl⟩
 ·exact hk
 ·rename_i hy;obtain ⟨e1,e2⟩:=c1S hpre hy;rw [e1,e2,hc];exact ⟨⟨⟨rfl,rfl⟩,rfl⟩,rfl⟩
 ·rename_i hy h2;obtain ⟨e1,e2⟩:=c1S hpre hy;rw [e1,e2,h2,hc];exact ⟨⟨⟨rfl,rfl⟩,rfl⟩,rfl⟩
 ·rename_i hy h2;obtain ⟨e1,e2⟩:=c1S hpre hy;rw [e1,e2,h2,hc];exact ⟨⟨⟨rfl,rfl⟩,rfl⟩,rfl⟩
noncomputable def a1z:CT:=u9 (fun (x:c4) h=>a8z x h)
@[go_sem] def b8d:=fun x0 x1 x2 x3 x4=>nm' (fP' a1z rfl ⟨x0,x1,x2,x3,x4⟩)
def c6o {r:c4} (h:a0E r):(a3E r || (o6 r).Kind==1&&(o6 r).S==a4R)=a5j r:=by
 cases hn:l4 r with
 | true=>rw [a2A hn,a3E,m8,a5j,hn];rfl
 | false=>
   have ht:=b3U h hn;rw [a1u hn,a3E,m8,a5j,hn];simp only [a5G] at ht;generalize i3 r r.i=t at *;simp only [q1L,W3,beq_iff_eq] at ht;rcases ht with ((⟨ht,_⟩|ht)|⟨ht,_⟩)|ht<;>rw [ht]
   ·cases h1:a2b t.S<;>cases h2:t.S==a4R<;>rfl
   all_goals simp
def a4N (r:c4) (hpre:a0E r):spZ 283 [(false,[.p [j2 r.toks,.i .i64 r.i,.i .i64 r.e,.i .i64 r.code,.i .i64 r.p]])] [] (.one (false,[.b (a5j r)])):=by
 refine sy' Tryz.func283 (q' 0 [ab 2 false] (q' 4 [am 0,ac 109 [4],ax (w' 3 [.i .i64,.i .i64,.s,.i .i64]),aS 4 3 5] (q' 6 [am 0,ac 281 [6],am 7,au (.fa 0 (.t 3)) 8 false,au (.ld false 1 (.t 9)) 8 false,au (.bin .eql (.t 10) (k' 1)) 8 false,au (.mov (.t 11)) 8 false,au (.fa 2 (.t 3)) 12 true,au (.ld false 1 (.t 13)) 12 true,au (.bin .eql (.t 14) (.k (.v false [.c (.s [110,111,116])]))) 12 true,au (.pick (.t 12) (.t 15) (bb false)) 8 false,ao (.pick (.t 8) (bb true) (.t 16)),aV 2] .ret))) [.t 2] [(109,[],k8),(281,[],a0q)] ?_;intro hb hE;have hk:=hpre.1;simp only [go_sem];repeat' first|apply cj'|intro hc|exact om'|fail
 ·exact hk
 ·exact hpre
 ·exact c6o hpre
noncomputable def a1E:CT:=u9 (fun (x:c4) h=>a4N x h)
@[go_sem] def b3I:=fun x0 x1 x2 x3 x4=>nm' (fP' a1E rfl ⟨x0,x1,x2,x3,x4⟩)
def at_e {r r1:c4} (e:i6 (i7 r) [40]=r1) (h:isS r1 r1.i [41]=true):(j8 r).1=i9 r1/\a1M r=⟨a0b r,[]⟩:=by
 have e':i6 (i7 r) t7=r1:=e;rw [j8,a1M,e',show isS r1 r1.i a3D=true from h];exact ⟨rfl,rfl⟩
def at_a {r r1:c4} (e:i6 (i7 r) [40]=r1) (h:isS r1 r1.i [41]=false):(j8 r).1=i6 (a6a r1 []).1 [41]/\a1M r=⟨a0b r,(a6a r1 []).2⟩:=by
 have e':i6 (i7 r) t7=r1:=e;rw [j8,a1M,e',show isS r1 r1.i a3D=false from h,a6a,(b6Y (o5 r1) r1 []).1];exact ⟨rfl,rfl⟩
def a8r (r:c4) (hpre:a0E r):spZ 213 [(false,[.mp [j2 r.toks,.i .i64 r.i,.i .i64 r.e,.i .i64 r.code,.i .i64 r.p]])] [(0,(false,[.mp [j2 (((j8 r).1).toks),.i .i64 (((j8 r).1).i),.i .i64 (((j8 r).1).e),.i .i64 (((j8 r).1).code),.i .i64 (((j8 r).1).p)]]))] (.one (true,[.s ((a1M r).Name),c1G ((a1M r).Args)])):=by
 refine sx' true false (some 0) Tryz.func213 (q' 2 [aw [.s,.sl j5]] (q' 3 [ax (o' 5 (.bld [.s,.sl j5] [])),aw [.s,.sl j5],aS 2 3 5] (q' 6 [am 0,ac 211 [6],af 0 3,aS 1 8 7] (q' 9 [am 0,ao (.call 212 [.t 9,.k (.v false [.c (.s [40])])])] (.seq (q' 11 [am 0,ao (.call 111 [.t 11,.k (.v false [.c (.s [41])])])] (.cond (.t 12) (q' 13 [am 0,ao (.nck (.t 13)),aG 1 14,ao (.bin .add (.t 16) (k' 1)),ao (.nck (.t 13)),aF 1,aS 1 19 17] (q' 20 [ae 2 3,aS 2 2 20] .ret)) .skip)) (.seq (.block 0 (.loop (.seq (q' 21 [am 0,ao (.nck (.t 21)),aG 3 22,ao (.bin .eql (.t 24) (k' 0))] (.cond (.t 25) .skip (.exit 0))) (.block 1 (.seq (q' 26 [am 0,ac 281 [26],am 27,au (.fa 1 (.t 3)) 28 true,au (.ld false 1 (.t 29)) 28 true,au (.len (.t 30)) 28 true,au (.bin .eql (.t 31) (k' 6)) 28 true,ao (.pick (.t 28) (.t 32) (bb false))] (.cond (.t 33) (q' 34 [am 0,ao (.call 112 [.t 34,.k (.v false [.c (.i .i64 7)])])] (.exit 0)) .skip)) (q' 36 [am 0,ac 282 [36],ax (w' 4 [.s,.i .i64,.s]),aS 3 4 37] (q' 38 [aG 1 3,ae 3 4,ao (.bsl 3 1 [.s,.i .i64,.s] [(0,.t 40)]),ao (.app 3 40 [.s,.i .i64,.s] (.t 39) (.t 41)),af 1 3,aS 1 43 42] (.seq (q' 44 [am 0,ao (.call 111 [.t 44,.k (.v false [.c (.s [44])])]),ao (.not (.t 45))] (.cond (.t 46) (.exit 0) .skip)) (g' 47 [am 0,ao (.nck (.t 47)),aG 1 48,ao (.bin .add (.t 50) (k' 1)),ao (.nck (.t 47)),aF 1,aS 1 53 51]))))))))) (q' 54 [am 0,ao (.call 212 [.t 54,.k (.v false [.c (.s [41])])])] (q' 56 [ae 2 3,aS 2 2 56] .ret)))))))) [.c 2 true 2] [(211,[0],a1y),(212,[0],a0F),(111,[],v8),(281,[],a0q),(112,[0],n9),(282,[0],a1z)] ?_;intro hb hE;have hk:=hpre.1;have hwo:=b2J hk;have hto:=b2H hwo [40];have hti:a0E (i6 (i7 r) [40]):=a1n ((a5Y r).trans (a1L _ _)) hpre;have hw1:=a2I hto;simp only [go_sem,hw1];repeat' first|apply cj'|intro hc|exact om'|fail
 ·exact hk
 ·exact hwo
 all_goals (try generalize hr1:i6 (i7 r) [40]=r1 at *)
 ·exact hto
 ·obtain ⟨e1,e2⟩:=at_e hr1 hc;rw [e1,e2];exact ⟨⟨rfl,rfl⟩,rfl⟩
 refine lk' true [(true,6,1,200012)] [0,2,3] [4] [] (fun i:{q:c4×List c8 // a0E q.1/\q.1.toks=r1.toks/\(q.2.length:Int)<=q.1.i/\a6a q.1 q.2=a6a r1 []}=>[]) (fun i=>[(6,[.c (.s (a0b r)),.ow 200012]),(1,[.c (j2 i.1.1.toks),.c (.i .i64 i.1.1.i),.c (.i .i64 i.1.1.e),.c (.i .i64 i.1.1.code),.c (.i .i64 i.1.1.p)])]) (fun i=>[(200012,j5,i.1.2.map c8.cells)]) (fun i=>r1.toks.length - i.1.1.i.toNat) (⟨(r1,[]),hti,rfl,hto.1.1,rfl⟩) ?_;intro S0 hS0 i;have hsh:=hc;obtain ⟨⟨q,a⟩,hq,hqt,hal,hqe⟩:=i;simp only at hq hqt hal hqe;have hqo:=hq.1;have hln:a.length<=6000:=by have:=hqo.1.2;have:=hqo.2;omega
 have htk:=a5d hqo false;simp only [go_sem,hw1,hS0];repeat' first|apply cj'|intro hc|exact om'|fail
 ·exact hq
 ·exact hqo
 ·exact a0r hqo 7
 ·rename_i hcd;have hon:=b3t hqo (a:=a) (by simpa using hcd);rw [hc.1,hc.2,q1E,W4] at hon;obtain ⟨e1,e2⟩:=at_a hr1 hsh;rw [e1,e2,<- hqe,hon];exact ⟨⟨rfl,rfl⟩,rfl⟩
 ·exact hq
 ·exact htk
 ·exact htk
 ·rename_i hcd hcf;have hon:=b3t hqo (a:=a) (by simpa using hcd);rw [hcf,W2,show isS (g9 q false) (g9 q false).i n0=false from hc,W2] at hon;obtain ⟨e1,e2⟩:=at_a hr1 hsh;rw [e1,e2,<- hqe,hon];exact ⟨⟨rfl,rfl⟩,rfl⟩
 ·rename_i hcd hcf;have hlt:=(v7 hc).2;have hon:=b3t hqo (a:=a) (by simpa using hcd);rw [hcf,W2,show isS (g9 q false) (g9 q false).i n0=true from hc,W4] at hon;have ht:=a0x q false;have hst:=a1n (ht.trans (p9 hlt)) hq;have h00:=hqo.1.1;have hw3:=a2I htk
  (refine lpK_n2 (⟨(i9 (g9 q false),a++[s7 q false]),hst,ht.t.trans hqt,by show ((a++[_]).length:Int)<=(g9 q false).i+1;rw [W6];have:=ht.i;simp only [W9,q0H];omega,hon.symm.trans hqe⟩) _ (by simp only [go_sem,hw1];try rfl) ?_;simp only [go_sem,hw1,hS0]<;>repeat' first|apply V3|exact on'|fail)
  ·show r1.toks.length - ((g9 q false).i+1).toNat < r1.toks.length - q.i.toNat
   have h1:=ht.i;rw [ht.t,hqt] at hlt;omega
  ·exact hw3
 ·exact hqo
 ·obtain ⟨e1,e2⟩:=at_a hr1 hsh;rw [e1,e2,<- hqe,c3Z (by simpa using hc)];exact ⟨⟨rfl,rfl⟩,rfl⟩
noncomputable def a1x:CT:=u9 (fun (x:c4) h=>a8r x h)
@[go_sem] def b7V:=fun x0 x1 x2 x3 x4=>nm' (fP' a1x rfl ⟨x0,x1,x2,x3,x4⟩)
def opI_arg (s:List UInt8):b0u [(false,[.sl false [.s []] [[.s []],[.s [61]],[.s [33,61]],[.s [60]],[.s [60,61]]]]),(false,[.s s])]=some (True,[],.one (false,[.i .i64 (opI s)])):=b5W [[],[61],[33,61],[60],[60,61]] s
def b9p (s:List UInt8):spZ 322 [(false,[.s s])] [] (.one (false,[.i .i64 (opI s)])):=by
 refine sy' Tryz.func322 (q' 2 [aK 0] (q' 3 [ao (.bsl 1 5 [.s] [(0,.k (.v false [.c (.s [])])),(1,.k (.v false [.c (.s [61])])),(2,.k (.v false [.c (.s [33,61])])),(3,.k (.v false [.c (.s [60])])),(4,.k (.v false [.c (.s [60,61])]))]),am 0,ac 106 [3,4],aV 2] .ret)) [.t 2] [(106,[],b0u)] ?_;intro hb hE;simp only [go_sem,opI_arg];repeat' first|apply cj'|intro hc|exact om'|fail
noncomputable def b1x:CT:=j7 (fun (x:(List UInt8))=>b9p x)
@[go_sem] def c6d:=fun s=>nm' (fQ' b1x rfl s)
def c6p (r:c4):((o6 r).Kind==1&&(o6 r).S==[110,111,116])=a8A r:=by
 cases h:l4 r with
 | true=>
   have e:=a2c r;rw [h] at e;rw [a2A h,a8A,<- e];rfl
 | false=>
   have e:=a2c r;rw [h] at e;rw [a1u h,a8A,<- e,i3];rfl
def here_q (r:c4):(a0k r&&decide (r.i+1 < r.toks.length)&&(r.toks.getD (r.i+1).toNat default).Kind==4&&(r.toks.getD (r.i+1).toNat default).S==[40])=b7E r:=by
 have e:a0k r=(!l4 r&&(i3 r r.i).Kind==1&&!a2b (i3 r r.i).S):=by
  rw [a0k];cases l4 r<;>cases (i3 r r.i).Kind==1<;>cases a2b (i3 r r.i).S<;>rfl
 rw [e,a2c,b7E,isS,i3,i3];cases r.code==0 with
 | false=>rfl
 | true=>simp only [q0I,q1Y]
def lit_b1 {r:c4} (h:a8A r=true):(!l4 r&&((i3 r r.i).Kind==1&&(i3 r r.i).S==a4R))=true:=by rw [a2c,<- q1Y];exact h
def c1J {r:c4} (h:a8A r=false):(!l4 r&&((i3 r r.i).Kind==1&&(i3 r r.i).S==a4R))=false:=by rw [a2c,<- q1Y];exact h
def lit_c {r:c4} {b:Bool} (h:b7E r=b):(!l4 r&&((i3 r r.i).Kind==1&&(!a2b (i3 r r.i).S&&isS r (r.i+1) t7)))=b:=by rw [a2c,<- q1Y,<- q1Y];exact h
def lit_i1 {r:c4} (h:a8A r=true):(j3 r).1=(j8 (i9 r)).1/\a2k r=⟨2,a1M (i9 r),0,default,default⟩:=by
 refine ⟨by rw [lit_1 h], ?_⟩;rw [a2k,lit_b1 h];rfl
def lit_i2 {r:c4} (g:a8A r=false) (h:b7E r=true):(j3 r).1=(j8 r).1/\a2k r=⟨1,a1M r,0,default,default⟩:=by
 refine ⟨by rw [lit_2 g h], ?_⟩;rw [a2k,c1J g,lit_c h];rfl
def c6G {r:c4} (g:a8A r=false) (h:b7E r=false) (ho:opJ (g9 r false) < 1):(j3 r).1=g8 (g9 r false) 6/\a2k r=⟨3,default,opJ (g9 r false),s7 r false,default⟩:=by
 have e:=c1O (g9 r false);rw [W8 ho,W4] at e;refine ⟨?_,by rw [a2k,c1J g,lit_c h,W8 ho];rfl⟩;rw [c3c g h (q:=g8 (g9 r false) 6) (by rw [e];rfl)];exact b9R (p8 (by decide))
def lit_i4 {r:c4} (g:a8A r=false) (h:b7E r=false) (ho:¬ opJ (g9 r false) < 1):(j3 r).1=g9 (i9 (g9 r false)) false/\a2k r=⟨3,default,opJ (g9 r false),s7 r false,s7 (i9 (g9 r false)) false⟩:=by
 have e:=c1O (g9 r false);rw [V1 ho,W2] at e;refine ⟨?_,by rw [a2k,c1J g,lit_c h,V1 ho];rfl⟩;rw [c3c g h (q:=i9 (g9 r false)) (by rw [e,show (opJ (g9 r false)==0)=false from beq_eq_false_iff_ne.2 (by omega)];rfl)]
def c3i {r:c4} (h:((o6 r).Kind==4)=true):opJ r=opI (o6 r).S:=by rw [opJ,h];rfl
def opJ_n {r:c4} (h:((o6 r).Kind==4)=false):opJ r=0:=by rw [opJ,h];rfl
def sign_lt {r:c4} (h:((o6 r).Kind==4)=true):r.i < r.toks.length:=by
 refine a2d ?_;cases hn:l4 r with
 | false=>rfl
 | true=>rw [a2A hn] at h;cases h
def litP_lt {r:c4} (h:a8A r=true):r.i < r.toks.length:=by
 simp only [a8A,W3,V2] at h;exact h.1.1.2
def a9G (r:c4) (hpre:a0E r):spZ 284 [(false,[.mp [j2 r.toks,.i .i64 r.i,.i .i64 r.e,.i .i64 r.code,.i .i64 r.p]])] [(0,(false,[.mp [j2 (((j3 r).1).toks),.i .i64 (((j3 r).1).i),.i .i64 (((j3 r).1).e),.i .i64 (((j3 r).1).code),.i .i64 (((j3 r).1).p)]]))] (.one (true,[.i .i64 ((a2k r).Kind),.s (((a2k r).Atom).Name),c1G (((a2k r).Atom).Args),.i .i64 ((a2k r).Op),.s (((a2k r).A).Var),.i .i64 ((((a2k r).A).Val).N),.s ((((a2k r).A).Val).S),.s (((a2k r).B).Var),.i .i64 ((((a2k r).B).Val).N),.s ((((a2k r).B).Val).S)])):=by
 refine sx' true false (some 0) Tryz.func284 (q' 2 [aw [.i .i64,.s,.sl j5,.i .i64,.s,.i .i64,.s,.s,.i .i64,.s]] (q' 5 [am 0,ac 109 [5],ax (w' 3 [.i .i64,.i .i64,.s,.i .i64]),aS 4 3 6] (.seq (q' 7 [aG 0 3,ao (.bin .eql (.t 8) (k' 1)),am 9,au (.fa 2 (.t 3)) 10 true,au (.ld false 1 (.t 11)) 10 true,au (.bin .eql (.t 12) (.k (.v false [.c (.s [110,111,116])]))) 10 true,ao (.pick (.t 10) (.t 13) (bb false))] (.cond (.t 14) (q' 15 [am 0,ao (.nck (.t 15)),aG 1 16,ao (.bin .add (.t 18) (k' 1)),ao (.nck (.t 15)),aF 1,aS 1 21 19] (q' 22 [am 0,ac 213 [22],ao (.bld [.i .i64,.s,.sl j5,.i .i64,.s,.i .i64,.s,.s,.i .i64,.s] [(0,1,.k (.v false [.c (.i .i64 2)])),(1,2,.t 23)]),aS 10 2 24] .ret)) .skip)) (.seq (.seq (G' 25 [am 0,ac 110 [25],am 26,au (.mov (.t 0)) 27 true,au (.nck (.t 28)) 27 true,au (.fa 1 (.t 29)) 27 true,au (.ld false 1 (.t 30)) 27 true,au (.bin .add (.t 31) (k' 1)) 27 true,au (.mov (.t 0)) 27 true,au (.nck (.t 33)) 27 true,au (.fa 0 (.t 34)) 27 true,au (.ld false 1 (.t 35)) 27 true,au (.len (.t 36)) 27 true,au (.bin .lss (.t 32) (.t 37)) 27 true,ao (.pick (.t 27) (.t 38) (bb false)),am 39,au (.mov (.t 0)) 40 true,au (.nck (.t 41)) 40 true,au (.fa 0 (.t 42)) 40 true,au (.ld false 1 (.t 43)) 40 true,au (.mov (.t 0)) 40 true,au (.nck (.t 45)) 40 true,au (.fa 1 (.t 46)) 40 true,au (.ld false 1 (.t 47)) 40 true,au (.bin .add (.t 48) (k' 1)) 40 true,au (.ia 4 (.t 44) (.t 49)) 40 true,au (.fa 0 (.t 50)) 40 true,au (.ld false 1 (.t 51)) 40 true,au (.bin .eql (.t 52) (k' 4)) 40 true,ao (.pick (.t 40) (.t 53) (bb false)),am 54,au (.mov (.t 0)) 55 true,au (.nck (.t 56)) 55 true,au (.fa 0 (.t 57)) 55 true,au (.ld false 1 (.t 58)) 55 true,au (.mov (.t 0)) 55 true,au (.nck (.t 60)) 55 true,au (.fa 1 (.t 61)) 55 true,au (.ld false 1 (.t 62)) 55 true,au (.bin .add (.t 63) (k' 1)) 55 true,au (.ia 4 (.t 59) (.t 64)) 55 true,au (.fa 2 (.t 65)) 55 true,au (.ld false 1 (.t 66)) 55 true,au (.bin .eql (.t 67) (.k (.v false [.c (.s [40])]))) 55 true,ao (.pick (.t 55) (.t 68) (bb false))]) (.cond (.t 69) (q' 70 [am 0,ac 213 [70],ao (.bld [.i .i64,.s,.sl j5,.i .i64,.s,.i .i64,.s,.s,.i .i64,.s] [(0,1,.k (.v false [.c (.i .i64 1)])),(1,2,.t 71)]),aS 10 2 72] .ret) .skip)) (q' 4 [ax (o' 73 (.bld [.i .i64,.s,.sl j5,.i .i64,.s,.i .i64,.s,.s,.i .i64, .s] [(0,1,.k (.v false [.c (.i .i64 3)]))])),aw [.i .i64,.s,.sl j5,.i .i64,.s,.i .i64,.s,.s,.i .i64,.s],aS 10 4 73] (q' 74 [am 0,ac 282 [74],af 4 4,aS 3 76 75] (q' 77 [am 0,ac 109 [77],aS 4 3 78] (.seq (q' 79 [aG 0 3,ao (.bin .eql (.t 80) (k' 4))] (.cond (.t 81) (g' 82 [aG 2 3,ac 322 [83],af 3 4,aS 1 85 84]) .skip)) (.seq (q' 86 [aG 3 4,ao (.bin .lss (.t 87) (k' 1))] (.cond (.t 88) (q' 89 [am 0,ao (.call 112 [.t 89,.k (.v false [.c (.i .i64 6)])])] (q' 91 [ae 10 4,aS 10 2 91] .ret)) .skip)) (q' 92 [am 0,ao (.nck (.t 92)),aG 1 93,ao (.bin .add (.t 95) (k' 1)),ao (.nck (.t 92)),aF 1,aS 1 98 96] (q' 99 [am 0,ac 282 [99],af 7 4,aS 3 101 100] (q' 102 [ae 10 4,aS 10 2 102] .ret)))))))))))) [.c 2 true 10] [(109,[],k8),(213,[0],a1x),(110,[],y6),(282,[0],a1z),(322,[],b1x),(112,[0],n9)] ?_;intro hb hE;have hk:=hpre.1;have hw1:=a2I hk;have ht:=a5d hk false;have hw2:=a2I ht;have hti:a0E (g9 r false):=a1n (a0x r false) hpre;have hp:=c6p r;have hq:=here_q r;simp only [go_sem,hw1,hw2];repeat' first|apply cj'|intro hc|exact om'|fail
 ·exact hk
 ·exact a1n (p9 (litP_lt (by rw [<- hp,hc.1,hc.2];rfl))) hpre
 ·obtain ⟨e1,e2⟩:=lit_i1 (r:=r) (by rw [<- hp,hc.1,hc.2];rfl);rw [e1,e2];exact ⟨⟨⟨⟨⟨⟨⟨⟨⟨⟨rfl,rfl⟩,rfl⟩,rfl⟩,rfl⟩,rfl⟩,rfl⟩,rfl⟩,rfl⟩,rfl⟩,rfl⟩
 ·exact hk
 ·have:=hk.1.1;exact ⟨by omega,hc.2⟩
 ·have:=hk.1.1;exact ⟨by omega,hc.1.2⟩
 ·exact hpre
 ·rename_i g;obtain ⟨e1,e2⟩:=lit_i2 (r:=r) (hp.symm.trans g) (by rw [<- hq,hc.1.1.1,W8 hc.1.1.2,hc.1.2,hc.2];rfl);rw [e1,e2];exact ⟨⟨⟨⟨⟨⟨⟨⟨⟨⟨rfl,rfl⟩,rfl⟩,rfl⟩,rfl⟩,rfl⟩,rfl⟩,rfl⟩,rfl⟩,rfl⟩,rfl⟩
 ·exact hpre
 ·exact ht
 ·exact ht
 ·rename_i g g2 h4;obtain ⟨e1,e2⟩:=c6G (r:=r) (hp.symm.trans g) (hq.symm.trans g2) (by rw [c3i h4];exact hc);rw [e1,e2,c3i h4];exact ⟨⟨⟨⟨⟨⟨⟨⟨⟨⟨rfl,rfl⟩,rfl⟩,rfl⟩,rfl⟩,rfl⟩,rfl⟩,rfl⟩,rfl⟩,rfl⟩,rfl⟩
 ·rename_i g g2 h4;exact a1n (p9 (sign_lt h4)) hti
 ·rename_i g g2 h4;obtain ⟨e1,e2⟩:=lit_i4 (r:=r) (hp.symm.trans g) (hq.symm.trans g2) (by rw [c3i h4];exact hc);rw [e1,e2,c3i h4];exact ⟨⟨⟨⟨⟨⟨⟨⟨⟨⟨rfl,rfl⟩,rfl⟩,rfl⟩,rfl⟩,rfl⟩,rfl⟩,rfl⟩,rfl⟩,rfl⟩,rfl⟩
 ·exact ht
 ·rename_i g g2 h4;obtain ⟨e1,e2⟩:=c6G (r:=r) (hp.symm.trans g) (hq.symm.trans g2) (by rw [opJ_n h4];decide);rw [e1,e2,opJ_n h4];exact ⟨⟨⟨⟨⟨⟨⟨⟨⟨⟨rfl,rfl⟩,rfl⟩,rfl⟩,rfl⟩,rfl⟩,rfl⟩,rfl⟩,rfl⟩,rfl⟩,rfl⟩
noncomputable def a3Q:CT:=u9 (fun (x:c4) h=>a9G x h)
@[go_sem] def b8G:=fun x0 x1 x2 x3 x4=>nm' (fP' a3Q rfl ⟨x0,x1,x2,x3,x4⟩)
def a3V (r:c4) (k:Int):d3:=
 ⟨k,a0b r,bif a0D (i6 (i7 r) [47])&&!decide (6 < (i3 (i6 (i7 r) [47]) (i6 (i7 r) [47]).i).N) then (i3 (i6 (i7 r) [47]) (i6 (i7 r) [47]).i).N else 0⟩
def c6k {r:c4} {k:Int} (h:(k9 r k).1.code=0):a3V r k=(k9 r k).2:=by
 rw [k9] at h ⊢;have e:i6 (i7 r) m7=i6 (i7 r) [47]:=rfl;simp only [e] at h ⊢;rw [a3V];cases hy:a0D (i6 (i7 r) [47]) with
 | false=>rw [hy] at h;exact absurd h (p8 (by decide))
 | true=>
   rw [hy,W4] at h;rw [W4,q0I];cases hd:decide (6 < (i3 (i6 (i7 r) [47]) (i6 (i7 r) [47]).i).N) with
   | true=>rw [hd] at h;exact absurd h (p8 (by decide))
   | false=>rfl
def c6q (r:c4):((o6 r).Kind != 3)=!a0D r:=by
 cases h:l4 r with
 | true=>rw [a2A h,a0D,h];rfl
 | false=>rw [a1u h,a0D,h,q3O,q3I];rfl
def decl_i1 {r r1:c4} {k:Int} (e:i6 (i7 r) [47]=r1) (h:a0D r1=false):(k9 r k).1=g8 r1 6/\a3V r k=⟨k,a0b r,0⟩:=by
 have e':i6 (i7 r) m7=r1:=e;rw [a3V,e,h,k9];simp only [e',h,W2,Bool.false_and,q1P]
def decl_i2 {r r1:c4} {k:Int} (e:i6 (i7 r) [47]=r1) (h:a0D r1=true) (h2:6 < (o6 r1).N):(k9 r k).1=g8 r1 7/\a3V r k=⟨k,a0b r,0⟩:=by
 have e':i6 (i7 r) m7=r1:=e;have hn:l4 r1=false:=by simp only [a0D,q0V,q0R] at h;exact h.1
 rw [a1u hn] at h2;rw [a3V,e,h,k9];simp only [e',h,W4,q0I,W8 h2,q3N,W2,q1P]
def decl_i3 {r r1:c4} {k:Int} (e:i6 (i7 r) [47]=r1) (h:a0D r1=true) (h2:¬ 6 < (o6 r1).N):(k9 r k).1=i6 (i9 r1) [46]/\a3V r k=⟨k,a0b r,(o6 r1).N⟩:=by
 have e':i6 (i7 r) m7=r1:=e;have hn:l4 r1=false:=by simp only [a0D,q0V,q0R] at h;exact h.1
 rw [a1u hn] at h2 ⊢;rw [a3V,e,h,k9];simp only [e',h,W4,q0I,V1 h2,q3D,W2];exact ⟨rfl,trivial⟩
def a8t (r:c4) (k:Int) (hpre:j4 r/\r.i < r.toks.length):spZ 113 [(false,[.mp [j2 r.toks,.i .i64 r.i,.i .i64 r.e,.i .i64 r.code,.i .i64 r.p]]),(false,[.i .i64 k])] [(0,(false,[.mp [j2 (((k9 (i9 r) k).1).toks),.i .i64 (((k9 (i9 r) k).1).i),.i .i64 (((k9 (i9 r) k).1).e),.i .i64 (((k9 (i9 r) k).1).code),.i .i64 (((k9 (i9 r) k).1).p)]]))] (.one (true,[.i .i64 ((a3V (i9 r) k).Kind),.s ((a3V (i9 r) k).Name),.i .i64 ((a3V (i9 r) k).Arity)])):=by
 refine sx' false true (some 0) Tryz.func113 (q' 4 [aw [.i .i64,.s,.i .i64]] (q' 7 [am 1,ao (.bld [.i .i64,.s,.i .i64] [(0,1,.t 7)]),ax (w' 5 [.i .i64,.s,.i .i64]),aS 3 5 8] (q' 9 [am 0,ao (.nck (.t 9)),aG 1 10,ao (.bin .add (.t 12) (k' 1)),ao (.nck (.t 9)),aF 1,aS 1 15 13] (q' 16 [am 0,ac 211 [16],af 1 5,aS 1 18 17] (q' 19 [am 0,ao (.call 212 [.t 19,.k (.v false [.c (.s [47])])])] (q' 21 [am 0,ac 109 [21],ax (w' 6 [.i .i64,.i .i64,.s,.i .i64]),aS 4 6 22] (.seq (.block 0 (q' 34 [aG 0 6,ao (.bin .neq (.t 35) (k' 3)),aV 33] (.cond (.t 33) (g' 37 [am 0,ao (.call 112 [.t 37,.k (.v false [.c (.i .i64 6)])])]) (q' 40 [aG 1 6,ao (.bin .gtr (.t 41) (k' 6)),aV 39] (.cond (.t 39) (g' 43 [am 0,ao (.call 112 [.t 43,.k (.v false [.c (.i .i64 7)])])]) (q' 23 [aG 1 6,af 2 5,aS 1 25 24] (g' 26 [am 0,ao (.nck (.t 26)),aG 1 27,ao (.bin .add (.t 29) (k' 1)),ao (.nck (.t 26)),aF 1,aS 1 32 30]))))))) (q' 45 [am 0,ao (.call 212 [.t 45,.k (.v false [.c (.s [46])])])] (q' 47 [ae 3 5,aS 3 4 47] .ret))))))))) [.c 4 true 3] [(211,[0],a1y),(212,[0],a0F),(109,[],k8),(112,[0],n9)] ?_;intro hb hE;obtain ⟨hk,hlt⟩:=hpre;have hw1:=a2I hk;have hs:=v5 hk hlt;have hwo:=b2J hs;have hto:=b2H hwo [47];have hw2:=a2I hto;have hst:(⟨r.toks,r.i+1,r.e,r.code,r.p⟩:c4)=i9 r:=rfl;simp only [go_sem,hw1,hw2,hst];repeat' first|apply cj'|intro hc|exact om'|fail
 ·exact hs
 ·exact hwo
 ·exact hto
 all_goals have hn:=c6q (i6 (i7 (i9 r)) [47])
 ·exact hto
 ·exact a0r hto 6
 ·obtain ⟨e1,e2⟩:=decl_i1 (k:=k) rfl (by rw [hc] at hn;simpa using hn.symm);rw [e1,e2,a2g (p8 (by decide))];exact ⟨⟨⟨rfl,rfl⟩,rfl⟩,rfl⟩
 ·exact hto
 ·exact a0r hto 7
 ·rename_i h3;obtain ⟨e1,e2⟩:=decl_i2 (k:=k) rfl (by rw [h3] at hn;simpa using hn.symm) hc;rw [e1,e2,a2g (p8 (by decide))];exact ⟨⟨⟨rfl,rfl⟩,rfl⟩,rfl⟩
 ·rename_i h3;exact v5 hto (b3N (by rw [h3] at hn;simpa using hn.symm))
 ·rename_i h3;obtain ⟨e1,e2⟩:=decl_i3 (k:=k) rfl (by rw [h3] at hn;simpa using hn.symm) hc;rw [e1,e2];exact ⟨⟨⟨rfl,rfl⟩,rfl⟩,rfl⟩
noncomputable def a3n:CT:=u9 (fun (x:c4×Int) h=>a8t x.1 x.2 h)
@[go_sem] def b7X:=fun x0 x1 x2 x3 x4 k=>nm' (fP' a3n rfl (⟨x0,x1,x2,x3,x4⟩,k))
def a8s (r:c4) (hpre:a0E r):spZ 214 [(false,[.mp [j2 r.toks,.i .i64 r.i,.i .i64 r.e,.i .i64 r.code,.i .i64 r.p]])] [(0,(false,[.mp [j2 (((a1N r []).1).toks),.i .i64 (((a1N r []).1).i),.i .i64 (((a1N r []).1).e),.i .i64 (((a1N r []).1).code),.i .i64 (((a1N r []).1).p)]]))] (.one (false,[kDLit ((a1N r []).2)])):=by
 refine sx' true false (some 0) Tryz.func214 (q' 2 [ao (.mov (.k (.v false [.nl a2J])))] (q' 5 [ao (.bsl 10 0 [.i .i64,.s,.sl j5,.i .i64,.s,.i .i64,.s,.s,.i .i64,.s] []),aV 3] (.seq (.block 0 (.loop (.seq (q' 6 [am 0,ao (.nck (.t 6)),aG 3 7,ao (.bin .eql (.t 9) (k' 0))] (.cond (.t 10) .skip (.exit 0))) (.block 1 (.seq (q' 11 [am 0,ac 283 [11],am 12,au (.mov (.t 3)) 13 true,au (.len (.t 14)) 13 true,au (.bin .eql (.t 15) (k' 8)) 13 true,ao (.pick (.t 13) (.t 16) (bb false))] (.cond (.t 17) (q' 18 [am 0,ao (.call 112 [.t 18, .k (.v false [.c (.i .i64 7)])])] (.exit 0)) .skip)) (q' 20 [am 0,ac 284 [20],ax (w' 4 [.i .i64,.s,.sl j5,.i .i64,.s,.i .i64,.s, .s,.i .i64,.s]),aS 10 4 21] (q' 22 [am 3,ae 10 4,ao (.bsl 10 1 [.i .i64,.s,.sl j5,.i .i64,.s,.i .i64,.s,.s,.i .i64,.s] [(0, .t 23)]),ao (.app 10 136 [.i .i64,.s,.sl j5,.i .i64,.s,.i .i64,.s,.s,.i .i64,.s] (.t 22) (.t 24)),aV 3] (.seq (q' 26 [am 0,ao (.call 111 [.t 26,.k (.v false [.c (.s [44])])]),ao (.not (.t 27))] (.cond (.t 28) (.exit 0) .skip)) (g' 29 [am 0,ao (.nck (.t 29)),aG 1 30,ao (.bin .add (.t 32) (k' 1)),ao (.nck (.t 29)),aF 1,aS 1 35 33]))))))))) (q' 36 [am 3,aV 2] .ret)))) [.t 2] [(283,[],a1E),(112,[0],n9),(284,[0],a3Q),(111,[],v8)] ?_;intro hb hE;simp only [go_sem];repeat' first|apply cj'|intro hc|exact om'|fail
 refine lk' true [(false,3,0,100006)] [0] [] [] (fun i:{q:c4×List c7 // a0E q.1/\q.1.toks=r.toks/\(q.2.length:Int)<=q.1.i/\a1N q.1 q.2=a1N r []}=>[(3,.v false [.ow 100006])]) (fun i=>[(1,[.c (j2 i.1.1.toks),.c (.i .i64 i.1.1.i),.c (.i .i64 i.1.1.e),.c (.i .i64 i.1.1.code),.c (.i .i64 i.1.1.p)])]) (fun i=>[(100006,zTLit,i.1.2.map (c7.cells true true))]) (fun i=>r.toks.length - i.1.1.i.toNat) (⟨(r,[]),hpre,rfl,hpre.1.1.1,rfl⟩) ?_;intro S0 hS0 i;obtain ⟨⟨q,a⟩,hq,hqt,hal,hqe⟩:=i;simp only at hq hqt hal hqe;have hqo:=hq.1;have hln:a.length<=6000:=by have:=hqo.1.2;have:=hqo.2;omega
 have hlk:=(a0u q).ok hqo;simp only [go_sem,hS0];repeat' first|apply cj'|intro hc|exact om'|fail
 ·exact hq
 ·exact hqo
 ·rename_i hcd;have hon:=b3y hqo (a:=a) (by simpa using hcd);rw [hc.1,hc.2,q1E,W4] at hon;rw [<- hqe,hon];exact ⟨rfl,rfl⟩
 ·exact hq
 ·exact hlk
 ·rename_i hcd hcf;have hon:=b3y hqo (a:=a) (by simpa using hcd);rw [hcf,W2,show isS (j3 q).1 (j3 q).1.i n0=false from hc,W2] at hon;rw [<- hqe,hon];exact ⟨rfl,rfl⟩
 ·rename_i hcd hcf;have hlt:=(v7 hc).2;have hon:=b3y hqo (a:=a) (by simpa using hcd);rw [hcf,W2,show isS (j3 q).1 (j3 q).1.i n0=true from hc,W4] at hon;have ht:=a0u q;have hst:=a1n (ht.trans (p9 hlt)) hq;have h00:=hqo.1.1;have hw3:=a2I hlk
  (refine lpK_n2 (⟨(i9 (j3 q).1,a++[a2k q]),hst,ht.t.trans hqt,by show ((a++[_]).length:Int)<=(j3 q).1.i+1;rw [W6];have:=ht.i;simp only [W9,q0H];omega,hon.symm.trans hqe⟩) _ (by simp only [go_sem];try rfl) ?_;simp only [go_sem,hS0]<;>repeat' first|apply V3|exact on'|fail)
  ·show r.toks.length - ((j3 q).1.i+1).toNat < r.toks.length - q.i.toNat
   have h1:=ht.i;rw [ht.t,hqt] at hlt;omega
  ·exact hw3
 ·rw [<- hqe,c4b (by simpa using hc)];exact ⟨rfl,rfl⟩
noncomputable def a3m:CT:=u9 (fun (x:c4) h=>a8s x h)
@[go_sem] def b7W:=fun x0 x1 x2 x3 x4=>nm' (fP' a3m rfl ⟨x0,x1,x2,x3,x4⟩)
def rule_i1 {r:c4} {h:c4} (e:(j8 (v6 r)).1=h) (g:isS h h.i [58,45]=true):(v9 r).1=i6 (a1N (i9 h) []).1 [46]/\a4W r=⟨a0T r,a1M (v6 r),(a1N (i9 h) []).2⟩:=by
 rw [a0Z,a2f,a4W,e,show isS h h.i b5D=true from g,a1N,(a9h (o5 (i9 h)) (i9 h) []).1];exact ⟨rfl,rfl⟩
def rule_i2 {r:c4} {h:c4} (e:(j8 (v6 r)).1=h) (g:isS h h.i [58,45]=false):(v9 r).1=i6 h [46]/\a4W r=⟨a0T r,a1M (v6 r),[]⟩:=by
 rw [a0Z,a2f,a4W,e,show isS h h.i b5D=false from g];exact ⟨rfl,rfl⟩
def c5P {r:c4} (h:j4 r) (a:List c7):j4 (a1N r a).1:=by
 rw [a1N,(a9h (o5 r) r a).1];exact (b3q _ _ _).ok h
def a8y (r:c4) (hpre:a0E r):spZ 114 [(false,[.mp [j2 r.toks,.i .i64 r.i,.i .i64 r.e,.i .i64 r.code,.i .i64 r.p]])] [(0,(false,[.mp [j2 (((v9 r).1).toks),.i .i64 (((v9 r).1).i),.i .i64 (((v9 r).1).e),.i .i64 (((v9 r).1).code),.i .i64 (((v9 r).1).p)]]))] (.one (true,[.i .i64 ((a4W r).Kind),.s (((a4W r).Head).Name),c1G (((a4W r).Head).Args),kDLit ((a4W r).Body)])):=by
 refine sx' true false (some 0) Tryz.func114 (q' 2 [aw [.i .i64,.s,.sl j5,.sl a2J]] (q' 3 [ax (o' 4 (.bld [.i .i64,.s,.sl j5,.sl a2J] [(0,1,.k (.v false [.c (.i .i64 1)]))])),aw [.i .i64,.s,.sl j5,.sl a2J],aS 4 3 4] (.seq (.block 0 (q' 6 [am 0,ao (.call 111 [.t 6,.k (.v false [.c (.s [43])])]),aV 5] (.cond (.t 5) (q' 8 [af 0 3,ax (⟨none,.st 1 (.t 8) (k' 2),none⟩)] (g' 9 [am 0,ao (.nck (.t 9)),aG 1 10,ao (.bin .add (.t 12) (k' 1)),ao (.nck (.t 9)),aF 1,aS 1 15 13])) (q' 17 [am 0,ao (.call 111 [.t 17,.k (.v false [.c (.s [45])])]),aV 16] (.cond (.t 16) (q' 19 [af 0 3,ax (⟨none,.st 1 (.t 19) (k' 3),none⟩)] (g' 20 [am 0,ao (.nck (.t 20)),aG 1 21,ao (.bin .add (.t 23) (k' 1)),ao (.nck (.t 20)),aF 1,aS 1 26 24])) .skip))))) (q' 27 [am 0,ac 213 [27],af 1 3,aS 2 29 28] (.seq (q' 30 [am 0,ao (.call 111 [.t 30,.k (.v false [.c (.s [58,45])])])] (.cond (.t 31) (q' 32 [am 0,ao (.nck (.t 32)),aG 1 33,ao (.bin .add (.t 35) (k' 1)),ao (.nck (.t 32)),aF 1,aS 1 38 36] (g' 39 [am 0,ac 214 [39],af 3 3,aS 1 41 40])) .skip)) (q' 42 [am 0,ao (.call 212 [.t 42,.k (.v false [.c (.s [46])])])] (q' 44 [ae 4 3,aS 4 2 44] .ret))))))) [.c 2 true 4] [(111,[],v8),(213,[0],a1x),(214,[0],a3m),(212,[0],a0F)] ?_;intro hb hE;have hk:=hpre.1;have hw1:=a2I hk;obtain ⟨h,hg⟩:∃ h,(j8 (v6 r)).1=h:=⟨_,rfl⟩
 have hti:a0E h:=by rw [<- hg];exact a1n ((a2n r).trans (a3d _)) hpre
 have hsi:a0E (v6 r):=a1n (a2n r) hpre;have hw2:=a2I hti.1;obtain ⟨p,c1⟩:∃ p,isS r r.i [43]=p:=⟨_,rfl⟩
 obtain ⟨m,c2⟩:∃ p,isS r r.i [45]=p:=⟨_,rfl⟩
 obtain ⟨v,hv⟩:∃ v,a1M (v6 r)=v:=⟨_,rfl⟩
 have h3:(p=true/\a0T r=2/\(j8 ⟨r.toks,r.i+1,r.e,r.code,r.p⟩).1=h/\a1M ⟨r.toks,r.i+1,r.e,r.code,r.p⟩=v/\a0E ⟨r.toks,r.i+1,r.e,r.code,r.p⟩)\/((p=false/\m=true)/\a0T r=3/\(j8 ⟨r.toks,r.i+1,r.e,r.code,r.p⟩).1=h/\a1M ⟨r.toks,r.i+1,r.e,r.code,r.p⟩=v/\a0E ⟨r.toks,r.i+1,r.e,r.code,r.p⟩)\/((p=false/\m=false)/\a0T r=1/\(j8 r).1=h/\a1M r=v/\a0E r):=by
  cases p with
  | true=>have e:=c3n c1;rw [e.1] at hg hsi hv;exact .inl ⟨rfl,e.2,hg,hv,hsi⟩
  | false=>
    cases m with
    | true=>have e:=c3o c1 c2;rw [e.1] at hg hsi hv;exact .inr (.inl ⟨⟨rfl,rfl⟩,e.2,hg,hv,hsi⟩)
    | false=>have e:=c3p c1 c2;rw [e.1] at hg hsi hv;exact .inr (.inr ⟨⟨rfl,rfl⟩,e.2,hg,hv,hsi⟩)
 rcases h3 with ⟨rfl,ek,e0,e1,es⟩|⟨⟨rfl,rfl⟩,ek,e0,e1,es⟩|⟨⟨rfl,rfl⟩,ek,e0,e1,es⟩
 all_goals (
  simp only [go_sem,hw1,hw2,c1,c2,e0,e1];repeat' first|apply cj'|intro hc|exact om'|fail)
 all_goals first
  | exact hk
  | exact es
  | exact hti.1
  | exact a1n (p9 (v7 hc).2) hti
  | exact c5P (v5 hti.1 (v7 hc).2) []
  | (obtain ⟨f1,f2⟩:=rule_i1 hg hc;rw [f1,f2,hv,ek];exact ⟨⟨⟨⟨rfl,rfl⟩,rfl⟩,rfl⟩,rfl⟩)
  | (obtain ⟨f1,f2⟩:=rule_i2 hg hc;rw [f1,f2,hv,ek];exact ⟨⟨⟨⟨rfl,rfl⟩,rfl⟩,rfl⟩,rfl⟩)
  | trace_state
noncomputable def a3o:CT:=u9 (fun (x:c4) h=>a8y x h)
@[go_sem] def b8c:=fun x0 x1 x2 x3 x4=>nm' (fP' a3o rfl ⟨x0,x1,x2,x3,x4⟩)
def c6g (a:ByteArray) (c:Int) (w:World):Calls Tryz.prog 320 #[.string a,.int .u8 c] w fun e w'=>e=.returned (.int .i64 (Lib.indexByte a.data.toList c.toNat.toUInt8))/\w' = w:=by
 go_enter Tryz.func320,Tryz.ntmps320
 go_wp2
 rw [run_callFunc_extern Tryz.func352 (by kernel_rfl) (by kernel_rfl) (by kernel_rfl) (e:=Extern.BytealgIndexByte.indexByte) (by kernel_rfl),Lib.run_indexByteString];simp only [Result.andThen];rw [Oper.upon_value]
 go_wp2
 go_ret
 exact ⟨rfl,rfl⟩
def ib_lt (l:List UInt8) (c:UInt8):Lib.indexByte l c<=l.length:=by
 induction l with
 | nil=>show (-1:Int)<=0;decide
 | cons b l ih=>
   rw [Lib.indexByte,W9];split
   ·omega
   ·split<;>omega
def a4Q (s:List UInt8) (c:Int):spZ 320 [(false,[.s s]),(false,[.i .u8 c])] [] (.one (false,[.i .i64 (Lib.indexByte s c.toNat.toUInt8)])):=by
 unfold spZ A0d;refine ⟨by kernel_rfl, ?_⟩;intro F w vs fpa h _ _ hF;simp only [VsRd,VRd,C.RdVals,C.Rd] at h;obtain ⟨_,_,_,_,rfl,rfl,⟨_,hc,hr⟩,_,_,_,_,rfl,rfl,⟨_,hc',hr'⟩,rfl,rfl⟩:=h;simp only [V0,q0G] at hc hc';subst hc;subst hc';simp only [C.Rd] at hr hr';obtain ⟨rfl,h1,rfl⟩:=hr;obtain ⟨rfl,h2,rfl⟩:=hr';refine (c6g ⟨s.toArray⟩ c w).mono ?_;rintro e w' ⟨rfl,rfl⟩;refine ⟨F,_,[],[],rfl, ?_,rfl,⟨fun _ h=>h,fun _ h=>.inl h,hF,q0M,by simp,fun _ _ _=>rfl,V9 _,rfl,Tp.of rfl rfl,rfl⟩⟩;simp only [RRd,VRd];refine ⟨_,rfl, ?_⟩;unfold C.Rd;have h3:=Lib.indexByte_ge s c.toNat.toUInt8;have h4:=ib_lt s c.toNat.toUInt8;refine ⟨rfl, ?_,rfl⟩;simp only [maxLen] at h1;rw [min_i64,max_i64];omega
noncomputable def a1G:CT:=j7 (fun (x:(List UInt8)×Int)=>a4Q x.1 x.2)
@[go_sem] def b3L:=fun s c=>nm' (fQ' a1G rfl (s,c))
def a7A (s:List UInt8) (c:Int):spZ 278 [(false,[.s s]),(false,[.i .u8 c])] [] (.one (false,[.i .i64 (Lib.indexByte s c.toNat.toUInt8)])):=by
 refine sy' Tryz.func278 (q' 4 [aK 0] (q' 5 [aM [0,1],ac 320 [5,6],aV 4] .ret)) [.t 4] [(320,[],a1G)] ?_;intro hb hE;simp only [go_sem];repeat' first|apply cj'|intro hc|exact om'|fail
noncomputable def a1i:CT:=j7 (fun (x:(List UInt8)×Int)=>a7A x.1 x.2)
@[go_sem] def b7e:=fun s c=>nm' (fQ' a1i rfl (s,c))
def b9E (s t:List UInt8):Bool:=decide ((t.length:Int)<=s.length)&&cut s 0 t.length==t
def a4P (s:List UInt8) (t:List UInt8):spZ 321 [(false,[.s s]),(false,[.s t])] [] (.one (false,[.b (b9E s t)])):=by
 refine sy' Tryz.func321 (q' 0 [ab 4 false] (q' 5 [am 0,ao (.lens (.t 5)),am 1,ao (.lens (.t 7)),ao (.bin .geq (.t 6) (.t 8)),am 9,au (.mov (.t 0)) 10 true,au (.mov (.t 1)) 10 true,au (.lens (.t 12)) 10 true,au (.slcs (.t 11) none (some (.t 13))) 10 true,au (.mov (.t 1)) 10 true,au (.bin .eql (.t 14) (.t 15)) 10 true,ao (.pick (.t 10) (.t 16) (bb false)),aV 4] .ret)) [.t 4] [] ?_;intro hb hE;simp only [go_sem];repeat' first|apply cj'|intro hc|exact om'|fail
 all_goals rfl
noncomputable def a1F:CT:=j7 (fun (x:(List UInt8)×(List UInt8))=>a4P x.1 x.2)
@[go_sem] def b3K:=fun s t=>nm' (fQ' a1F rfl (s,t))
def a7z (s:List UInt8) (t:List UInt8):spZ 280 [(false,[.s s]),(false,[.s t])] [] (.one (false,[.b (b9E s t)])):=by
 refine sy' Tryz.func280 (q' 0 [ab 4 false] (q' 5 [aM [0,1],ac 321 [5,6],aV 4] .ret)) [.t 4] [(321,[],a1F)] ?_;intro hb hE;simp only [go_sem];repeat' first|apply cj'|intro hc|exact om'|fail
noncomputable def a2S:CT:=j7 (fun (x:(List UInt8)×(List UInt8))=>a7z x.1 x.2)
@[go_sem] def b7d:=fun s t=>nm' (fQ' a2S rfl (s,t))
def a5c (s:List UInt8):Nat->Nat->Nat
 | 0,i=>i
 | n+1,i=>bif decide (i < s.length) then (bif y9 (s.getD i 0) then a5c s n (i+1) else bif ((s.getD i 0).toNat:Int)==35 then a5c s n (j9 y8 s i) else i) else i
def a0U (s:List UInt8) (i:Nat):Nat:=a5c s (s.length+1 - i) i
def b7H {s:List UInt8} {i:Nat} (hi:i < s.length) (h:(((s.getD i 0).toNat:Int)==35)=true):j9 y8 s i=j9 y8 s (i+1):=a0I hi (by rw [y8,beq_iff_eq.1 h];decide)
def a5m (s:List UInt8):∀ (n m i:Nat),s.length < n+i->s.length < m+i->a5c s n i=a5c s m i
 | 0,0,i,_,_=>rfl
 | 0,m+1,i,h,_=>by rw [a5c,a5c,V1 (by omega)];rfl
 | n+1,0,i,_,h=>by rw [a5c,a5c,V1 (by omega)];rfl
 | n+1,m+1,i,h1,h2=>by
   rw [a5c,a5c];by_cases hi:i < s.length
   ·rw [W8 hi,W4,W4];cases y9 (s.getD i 0) with
    | true=>exact a5m s n m _ (by omega) (by omega)
    | false=>
      rw [W2,W2];cases h35:((s.getD i 0).toNat:Int)==35 with
      | true=>
        have hr:=b7H hi h35;have:=a0l (f:=y8) (s:=s) (i:=i+1) (by omega);exact a5m s n m _ (by omega) (by omega)
      | false=>rfl
   ·rw [V1 hi];rfl
def b9K {s:List UInt8} {i:Nat} (h:i < s.length):a0U s i=bif y9 (s.getD i 0) then a0U s (i+1) else bif ((s.getD i 0).toNat:Int)==35 then a0U s (j9 y8 s i) else i:=by
 have e:s.length+1 - i=(s.length - i)+1:=by omega
 rw [a0U,e,a5c,W8 h,W4];cases y9 (s.getD i 0) with
 | true=>exact a5m s _ _ _ (by omega) (by omega)
 | false=>
   rw [W2,W2];cases h35:((s.getD i 0).toNat:Int)==35 with
   | true=>
     have hr:=b7H h h35;have:=a0l (f:=y8) (s:=s) (i:=i+1) (by omega);exact a5m s _ _ _ (by omega) (by omega)
   | false=>rfl
def a7e {s:List UInt8} {i:Nat} (h:¬ i < s.length):a0U s i=i:=by
 rw [a0U];cases s.length+1 - i with
 | zero=>rfl
 | succ n=>rw [a5c,V1 h];rfl
structure Skp (s:List UInt8) (i:Nat):Prop where
 ge:i<=a0U s i
 le:a0U s i<=s.length
 lx:∀ out,a2D s i out=a2D s (a0U s i) out
 no:a0U s i < s.length->y9 (s.getD (a0U s i) 0)=false/\(((s.getD (a0U s i) 0).toNat:Int)==35)=false
def b7L (s:List UInt8):∀ (k i:Nat),s.length<=i+k->i<=s.length->Skp s i
 | 0,i,h,h2=>by
   have e:=a7e (s:=s) (i:=i) (by omega);exact ⟨by omega,by omega,fun out=>by rw [e],fun h=>by omega⟩
 | k+1,i,h,h2=>by
   by_cases hi:i < s.length
   ·have e:=b9K hi;have el:=fun out=>a0v (s:=s) out hi
    cases hs:y9 (s.getD i 0) with
    | true=>
      rw [hs,W4] at e;have ih:=b7L s k (i+1) (by omega) (by omega);refine ⟨by have:=ih.ge;omega,by rw [e];exact ih.le,fun out=>?_,by rw [e];exact ih.no⟩;rw [el out,hs,W4,e];exact ih.lx out
    | false=>
      rw [hs,W2] at e;cases h35:((s.getD i 0).toNat:Int)==35 with
      | true=>
        rw [h35,W4] at e;have hr:=b7H hi h35;have h3:=a0l (f:=y8) (s:=s) (i:=i+1) (by omega);have ih:=b7L s k (j9 y8 s i) (by omega) (by omega);refine ⟨by have:=ih.ge;omega,by rw [e];exact ih.le,fun out=>?_,by rw [e];exact ih.no⟩;rw [el out,hs,W2,h35,W4,e];exact ih.lx out
      | false=>
        rw [h35,W2] at e;exact ⟨by omega,by omega,fun out=>by rw [e],fun _=>by rw [e];exact ⟨hs,h35⟩⟩
   ·have e:=a7e (s:=s) (i:=i) hi;exact ⟨by omega,by omega,fun out=>by rw [e],fun h=>by omega⟩
def skp {s:List UInt8} {i:Nat} (h:i<=s.length):Skp s i:=b7L s s.length i (by omega) h
def c6r:∀ l:List UInt8,(Lib.indexByte l 10 < 0/\l.takeWhile y8=l)\/Lib.indexByte l 10=(l.takeWhile y8).length
 | []=>.inl ⟨by decide,rfl⟩
 | b::l=>by
   rw [Lib.indexByte,q0Z];by_cases hb:b=10
   ·subst hb;exact .inr rfl
   ·have h1:y8 b=true:=by
     rw [y8,bne_iff_ne];intro e;exact hb (UInt8.toNat_inj.1 (Int.ofNat.inj e))
    rw [beq_eq_false_iff_ne.2 hb,h1];have h2:=Lib.indexByte_ge l 10;simp only [q1J,if_false,if_true];rcases c6r l with ⟨h3,h4⟩|h3
    ·have h5:Lib.indexByte l 10=-1:=by omega
     rw [h5,h4];exact .inl ⟨by decide,rfl⟩
    ·have h5:(Lib.indexByte l 10==-1)=false:=beq_eq_false_iff_ne.2 (by omega);rw [h5];simp only [q1J,if_false];exact .inr (by rw [h3,W9];omega)
def c2Q (s:List UInt8) (i:Nat):cut s i s.length=s.drop i:=by rw [cut,q0T (by rw [q1U];omega)]
def ib_rem {s:List UInt8} {i:Nat} (h:i<=s.length):(Lib.indexByte (cut s i s.length) 10 < 0->j9 y8 s i=s.length)/\(¬ Lib.indexByte (cut s i s.length) 10 < 0->(j9 y8 s i:Int)=i+Lib.indexByte (cut s i s.length) 10):=by
 rw [c2Q,j9];rcases c6r (s.drop i) with ⟨h1,h2⟩|h1
 ·refine ⟨fun _=>by rw [h2,q1U];omega,fun h=>absurd h1 h⟩
 ·refine ⟨fun h=>by omega,fun _=>by rw [h1];omega⟩
def b4i (s:List UInt8) (i:Int) (hpre:0<=i/\i<=s.length/\s.length<=1000000):spZ 205 [(false,[.s s]),(false,[.i .i64 i])] [] (.one (false,[.i .i64 (a0U s i.toNat:Int)])):=by
 refine sy' Tryz.func205 (q' 4 [aK 0] (.seq (.block 0 (.loop (.seq (q' 6 [aM [1,0],ao (.lens (.t 7)),ar 6 8] (.cond (.t 9) .skip (.exit 0))) (.block 1 (q' 10 [aM [0,1],ao (.ixs (.t 10) (.t 11))] (.block 2 (.seq (q' 15 [ao (.bin .eql (.t 12) (bu 9)),aV 14] (.cond (.t 14) .skip (q' 16 [ao (.bin .eql (.t 12) (bu 10)),aV 14] (.cond (.t 14) .skip (q' 17 [ao (.bin .eql (.t 12) (bu 13)),aV 14] (.cond (.t 14) .skip (g' 18 [ao (.bin .eql (.t 12) (bu 32)),aV 14]))))))) (.cond (.t 14) (g' 19 [aB 1]) (q' 22 [ao (.bin .eql (.t 12) (bu 35)),aV 21] (.cond (.t 21) (q' 23 [aM [0,1],ao (.slcs (.t 23) (some (.t 24)) none),ao (.call 278 [.t 25,.k (.v false [.c (.i .u8 10)])]),aV 5] (.seq (q' 27 [am 5,ao (.bin .lss (.t 27) (k' 0))] (.cond (.t 28) (q' 29 [am 0,ao (.lens (.t 29)),aV 4] .ret) .skip)) (g' 31 [aM [1,5],ao (.bin .add (.t 31) (.t 32)),aV 1]))) (q' 13 [am 1,aV 4] .ret))))))))))) (q' 34 [am 1,aV 4] .ret))) [.t 4] [(278,[],a1i)] ?_;intro hb hE;obtain ⟨h0,h1,h2⟩:=hpre;simp only [go_sem];repeat' first|apply cj'|intro hc|exact om'|fail
 refine lq' false [0] [] [] (fun i:{j:Nat // j<=s.length/\a0U s j=a0U s i.toNat}=>[(1,slV (.i .i64 i.1))]) nl' nl' (fun i=>s.length - i.1) (⟨i.toNat,by omega,rfl⟩) ?_;intro S0 hS0 i;obtain ⟨j,hj,hje⟩:=i;have hib:(Lib.indexByte (cut s j s.length) (Nat.toUInt8 10) < 0->j9 y8 s j=s.length)/\(¬ Lib.indexByte (cut s j s.length) (Nat.toUInt8 10) < 0->(j9 y8 s j:Int)=j+Lib.indexByte (cut s j s.length) (Nat.toUInt8 10)):=ib_rem hj;rcases q2Q j s.length with hlt|hlt
 rotate_left
 ·skip
  simp only [go_sem,hS0];repeat' first|apply cj'|intro hc|exact om'|fail
  rw [<- hje,a7e (by omega)]
 have hn:=b9K hlt;obtain ⟨b,hb0⟩:∃ b:Int,((s.getD j 0).toNat:Int)=b:=⟨_,rfl⟩
 have hk:((b==9)=true/\(b==10)=false/\(b==13)=false/\(b==32)=false)\/((b==9)=false/\(b==10)=true/\(b==13)=false/\(b==32)=false)\/((b==9)=false/\(b==10)=false/\(b==13)=true/\(b==32)=false)\/((b==9)=false/\(b==10)=false/\(b==13)=false/\(b==32)=true)\/((b==9)=false/\(b==10)=false/\(b==13)=false/\(b==32)=false):=by
  simp only [beq_iff_eq,beq_eq_false_iff_ne];omega
 rw [y9,hb0] at hn;have hw1:IntKind.i64.wrap ((j:Int)+1)=((j+1:Nat):Int):=IntWalk.i64_in _ ⟨by omega,by omega⟩;rcases hk with ⟨k0,k1,k2,k3⟩|⟨k0,k1,k2,k3⟩|⟨k0,k1,k2,k3⟩|⟨k0,k1,k2,k3⟩|⟨k0,k1,k2,k3⟩
 all_goals rw [k0,k1,k2,k3] at hn
 all_goals (
  simp only [go_sem,hS0,hb0,k0,k1,k2,k3];repeat' first|apply cj'|intro hc|exact om'|fail)
 all_goals (try (
  have h5:a0U s (j+1)=a0U s i.toNat:=by rw [<- hje,hn];rfl
  (refine lpK_n2 (⟨j+1,by omega,h5⟩) _ rfl ?_;simp only [go_sem,hS0,hb0,k0,k1,k2,k3]<;>repeat' first|apply V3|exact on'|fail)))
 ·rename_i h35;rw [h35] at hn;have hr:=hib.1 hc;rw [<- hje,hn,hr];exact congrArg Nat.cast (a7e (i:=s.length) (by omega)).symm
 ·rename_i h35;have hr:=hib.2 hc;have hr1:=b7H hlt (by rw [hb0];exact h35);have hr2:=a0l (f:=y8) (s:=s) (i:=j+1) (by omega);rw [h35] at hn;have hw:IntKind.i64.wrap ((j:Int)+Lib.indexByte (cut s j s.length) (Nat.toUInt8 10))=((j9 y8 s j:Nat):Int):=by rw [<- hr];exact IntWalk.i64_in _ ⟨by omega,by omega⟩
  have h5:a0U s (j9 y8 s j)=a0U s i.toNat:=by rw [<- hje,hn];rfl
  (refine lpK_n2 (⟨j9 y8 s j,by omega,h5⟩) _ rfl ?_;simp only [go_sem,hS0,hb0,k0,k1,k2,k3]<;>repeat' first|apply V3|exact on'|fail)
 ·rw [hc] at hn;rw [<- hje,hn];rfl
noncomputable def a6o:CT:=u9 (fun (x:(List UInt8)×Int) h=>b4i x.1 x.2 h)
@[go_sem] def c2v:=fun s i=>nm' (fP' a6o rfl (s,i))
def a3Z:List (List UInt8):=[[58,45],[33,61],[60,61]]
def b1i (k:Nat):([[C.s [58,45]],[C.s [33,61]],[C.s [60,61]]]:List (List C)).getD k [C.s []]=[C.s (a3Z.getD k [])]:=a3a a3Z k
def c3k {s:List UInt8} {i:Nat} (h:i < s.length) {k:Nat} (hk:k < 3):b9E (cut s i s.length) (a3Z.getD k [])=(decide (i+1 < s.length)&&cut s i (i+2)==a3Z.getD k []):=by
 have hl:(a3Z.getD k []).length=2:=by
  have:∀ k,k < 3->(a3Z.getD k []).length=2:=by decide
  exact this k hk
 rw [b9E,hl,c2Q,q1U];have e:cut (s.drop i) 0 2=cut s i (i+2):=by
  show (s.drop i).take 2=(s.drop i).take (i+2 - i);rw [q4E]
 rw [e];by_cases h2:i+1 < s.length
 ·rw [W8 h2,W8 (by omega)]
 ·rw [V1 h2,V1 (by omega)];try rfl
def b9U (t:List UInt8):twoB t=(t==a3Z.getD 0 [] || t==a3Z.getD 1 [] || t==a3Z.getD 2 []):=by rw [twoB,q4N];rfl
def sym_hit {s:List UInt8} {i:Nat} (h:i < s.length) {k:Nat} (hk:k < 3) (hp:b9E (cut s i s.length) (a3Z.getD k [])=true):a3Z.getD k []=o7 s i:=by
 rw [c3k h hk,W3,beq_iff_eq] at hp;have hA:a1J s i=true:=by
  rw [a1J,hp.1,b9U,hp.2];rcases (by omega:k=0\/k=1\/k=2) with rfl|rfl|rfl<;>rfl
 rw [o7,hA,hp.2];rfl
def b9O {s:List UInt8} {i:Nat} (h:i < s.length) (hp:∀ k,k < 3->b9E (cut s i s.length) (a3Z.getD k [])=false):a1J s i=false:=by
 have h0:=hp 0 (by omega);have h1:=hp 1 (by omega);have h2:=hp 2 (by omega);rw [c3k h (by omega)] at h0 h1 h2;rw [a1J,b9U];cases hd:decide (i+1 < s.length) with
 | false=>rfl
 | true=>
   rw [hd,q0I] at h0 h1 h2;rw [h0,h1,h2];rfl
def c3q (b:UInt8):decide (0<=Lib.indexByte [40,41,44,46,61,60,43,45,47] b)=a0J.any (fun t=>t==[b]):=by
 rw [<- Lib.contains_iff_indexByte];simp only [a0J,q2X,q4T,List.contains_cons,List.contains_nil];have e:∀ x:UInt8,([x]==[b])=(b==x):=fun x=>by
  by_cases h:b=x
  ·subst h;rw [beq_self_eq_true,beq_self_eq_true]
  ·rw [beq_eq_false_iff_ne.2 h,beq_eq_false_iff_ne.2 (fun e=>h (by simpa using e.symm))]
 simp only [e]
def b7R (b:UInt8):((b.toNat:Int)).toNat.toUInt8=b:=by simp
def b2r (s:List UInt8) (i:Int) (hpre:0<=i/\i < s.length/\s.length<=1000000):spZ 210 [(false,[.s s]),(false,[.i .i64 i])] [] (.one (false,[.s (o7 s i.toNat)])):=by
 refine sy' Tryz.func210 (q' 4 [ao (.mov (.k (.v false [.c (.s [])])))] (.seq (q' 7 [ao (.bsl 1 3 [.s] [(0,.k (.v false [.c (.s [58,45])])),(1,.k (.v false [.c (.s [33,61])])),(2, .k (.v false [.c (.s [60,61])]))]),aN,aK 0] (.block 0 (.loop (q' 10 [ar 9 8] (.seq (.cond (.t 10) .skip (.exit 0)) (.seq (.block 1 (q' 11 [ai 1 7 9,aL,aV 6] (q' 13 [aM [0,1],ao (.slcs (.t 13) (some (.t 14)) none),am 6,ac 280 [15,16]] (.cond (.t 17) (q' 18 [am 6,aV 4] .ret) .skip)))) (g' 19 [aA 9]))))))) (.seq (q' 20 [aM [0,1],ao (.ixs (.t 20) (.t 21)),ao (.call 278 [.k (.v false [.c (.s [40,41,44,46,61,60,43,45,47])]),.t 22]),ao (.bin .geq (.t 23) (k' 0))] (.cond (.t 24) (q' 29 [av 25 0,av 26 1,av 27 1,ax (a' 28 27),ao (.slcs (.t 25) (some (.t 26)) (some (.t 28))),aV 4] .ret) .skip)) (q' 4 [ao (.mov (.k (.v false [.c (.s [])])))] .ret)))) [.t 4] [(280,[],a2S),(278,[],a1i)] ?_;intro hb hE;obtain ⟨h0,h1,h2⟩:=hpre;have w1:IntKind.i64.wrap (i+1)=i+1:=IntWalk.i64_in _ ⟨by omega,by omega⟩;have w3:(i+1).toNat=i.toNat+1:=by omega
 simp only [go_sem,b1i,w1,w3,b7R];repeat' first|apply cj'|intro hc|exact om'|fail
 refine a8l 896 ?_;refine lq' false [0,1,7,8] [] [] (fun i:{j:Nat // j<=3/\∀ k,k < j->b9E (cut s i.toNat s.length) (a3Z.getD k [])=false}=>[(9,slV (.i .i64 i.1))]) nl' nl' (fun i=>3 - i.1) (⟨0,by omega,by omega⟩) ?_;intro S0 hS0 i;obtain ⟨j,hj,hn⟩:=i;simp only [go_sem,b1i,w1,w3,b7R,hS0];repeat' first|apply cj'|intro hc|exact om'|fail
 ·exact sym_hit (by omega) (by omega) hc
 ·have hn2:∀ k,k < j+1->b9E (cut s i.toNat s.length) (a3Z.getD k [])=false:=by
   intro k hk;rcases q4B.1 hk with h|rfl
   ·exact hn k h
   ·exact hc
  (refine lpK_n2 (⟨j+1,by omega,hn2⟩) _ rfl ?_;simp only [go_sem,b1i,w1,w3,b7R,hS0]<;>repeat' first|apply V3|exact on'|fail)
 ·have hA:=b9O (s:=s) (i:=i.toNat) (by omega) (fun k hk=>hn k (by omega));have ho:=c3q (s.getD i.toNat 0);have hc':0<=Lib.indexByte [40,41,44,46,61,60,43,45,47] (s.getD i.toNat 0):=by
   have e:(s.getD i.toNat 0).toNat.toUInt8=s.getD i.toNat 0:=by simp
   rw [e] at hc;exact hc
  rw [W8 hc'] at ho;rw [o7,hA,<- ho,cut];have hlt:i.toNat < s.length:=by omega
  rw [q1N hlt,show i.toNat+1 - i.toNat=1 by omega,List.getD,V4 hlt];rfl
 ·have hA:=b9O (s:=s) (i:=i.toNat) (by omega) (fun k hk=>hn k (by omega));have ho:=c3q (s.getD i.toNat 0);have hc':¬ 0<=Lib.indexByte [40,41,44,46,61,60,43,45,47] (s.getD i.toNat 0):=by
   have e:(s.getD i.toNat 0).toNat.toUInt8=s.getD i.toNat 0:=by simp
   rw [e] at hc;exact hc
  rw [V1 hc'] at ho;rw [o7,hA,<- ho];rfl
noncomputable def a5w:CT:=u9 (fun (x:(List UInt8)×Int) h=>b2r x.1 x.2 h)
@[go_sem] def c1k:=fun s i=>nm' (fP' a5w rfl (s,i))
def numB (n:Int):List UInt8:=bif s9 n then a3J n else []
def numB_y {n:Int} (h:s9 n=true):numB n=a3J n:=by rw [numB,h];rfl
def numB_n {n:Int} (h:s9 n=false):numB n=[]:=by rw [numB,h];rfl
def b6h {n:Int} (h:0<=n/\n < 10):IntKind.i32.wrap (IntKind.i64.wrap (48+n))=48+n/\digN n=UInt8.ofNat (48+n).toNat:=by
 have e:IntKind.i64.wrap (48+n)=48+n:=IntWalk.i64_in _ ⟨by omega,by omega⟩;rw [digN,e,IntWalk.u8_in _ ⟨by omega,by omega⟩];exact ⟨IntWalk.i32_in _ ⟨by omega,by omega⟩,rfl⟩
def NumG (n:Int):Prop:=A0d Tryz.prog 63 [(false,[.i .i64 n])] [] (.one (false,[.s (a3J n)]))
@[go_sem] def a5o:ACode:=q' 2 [ao (.mov (.k (.v false [.c (.s [])])))] (.seq (q' 3 [am 0,ac 133 [3],ao (.not (.t 4))] (.cond (.t 5) (q' 2 [ao (.mov (.k (.v false [.c (.s [])])))] .ret)
 .skip)) (.seq (q' 6 [am 0,ao (.bin .lss (.t 6) (k' 10))] (.cond (.t 7) (q' 8 [am 0,ao (.bin .add (k' 48) (.t 8)),ao (.cv .i32 (.t 9)),ao (.i2s (.t 10)),aV 2]
 .ret) .skip)) (q' 12 [am 0,ao (.bin .quo (.t 12) (k' 10)),ac 63 [13],am 0,ao (.bin .rem (.t 15) (k' 10)),ao (.bin .add (k' 48) (.t 16)),ao (.cv .i32 (.t
 17)),ao (.i2s (.t 18)),ao (.bin .add (.t 14) (.t 19)),aV 2] .ret)))
def b0L (n:Int) (hpre:NumG n):spZ 63 [(false,[.i .i64 n])] [] (.one (false,[.s (a3J n)])):=by
 exact hpre
noncomputable def a4y:CT:=u9 (fun (x:Int) h=>b0L x h)
@[go_sem] def c0b:=fun n=>nm' (fP' a4y rfl n)
def a4L (n:Int) (hpre:(0<=n/\n<=281474976710655)/\(10<=n->NumG (a8C n))):spZ 63 [(false,[.i .i64 n])] [] (.one (false,[.s (a3J n)])):=by
 refine sy' Tryz.func63 a5o [.t 2] [(133,[],a1r),(63,[],a4y)] ?_;intro hb hE;obtain ⟨⟨h0,h1⟩,hr⟩:=hpre;have hy:s9 n=true:=by rw [s9,W8 h0,W8 h1];rfl
 simp only [go_sem];repeat' first|apply cj'|intro hc|exact om'|fail
 ·rw [hy] at hc;cases hc
 ·rw [(b6h ⟨h0,hc⟩).1];omega
 ·rw [(b6h ⟨h0,hc⟩).1,c3h hc,(b6h ⟨h0,hc⟩).2]
 ·exact hr (by omega)
 ·have hm:0<=n.tmod 10/\n.tmod 10 < 10:=by rw [Int.tmod_eq_emod_of_nonneg h0];omega
  rw [(b6h hm).1];omega
 ·have:=a6N (a8C n);rw [a8C] at this;omega
 ·have hm:0<=n.tmod 10/\n.tmod 10 < 10:=by rw [Int.tmod_eq_emod_of_nonneg h0];omega
  rw [c3g ⟨h0,h1⟩ hc,(b6h hm).1,(b6h hm).2];rfl
noncomputable def b0w:CT:=u9 (fun (x:Int) h=>a4L x h)
@[go_sem] def c0d:=fun n=>nm' (fP' b0w rfl n)
def a4K (n:Int) (hpre:0<=n/\n<=281474976710655):spZ 63 [(false,[.i .i64 n])] [] (.one (false,[.s (a3J n)])):=by
 exact b4H (H:=NumG) (fun n h=>a4L n h) n.toNat n (V9 _) hpre
noncomputable def b0v:CT:=u9 (fun (x:Int) h=>a4K x h)
@[go_sem] def c0c:=fun n=>nm' (fP' b0v rfl n)
def a4M (n:Int) (hpre:s9 n=false):spZ 63 [(false,[.i .i64 n])] [] (.one (false,[.s ([])])):=by
 refine sy' Tryz.func63 a5o [.t 2] [(133,[],a1r)] ?_;intro hb hE;simp only [go_sem,hpre];repeat' first|apply cj'|intro hc|exact om'|fail
noncomputable def b0x:CT:=u9 (fun (x:Int) h=>a4M x h)
@[go_sem] def c0e:=fun n=>nm' (fP' b0x rfl n)
def b3Z (n:Int):spZ 63 [(false,[.i .i64 n])] [] (.one (false,[.s (numB n)])):=by
 cases h:s9 n with
 | true=>
   rw [numB_y h];simp only [s9,W3,V2] at h;exact a4K n h
 | false=>rw [numB_n h];exact a4M n h
noncomputable def a6k:CT:=j7 (fun (x:Int)=>b3Z x)
@[go_sem] def c2m:=fun n=>nm' (fQ' a6k rfl n)
def dig_i (b:UInt8):a0a b.toNat=a7v b:=by
 rw [a0a,a7v]
 congr 1<;>(rw [decide_eq_decide];omega)
def num_s {s:List UInt8} (h:¬ (s.length:Int) < 1):(numB (a5O s)==s)=(s9 (a5O s)&&a3J (a5O s)==s):=by
 rw [numB];cases s9 (a5O s) with
 | true=>rfl
 | false=>
   cases s with
   | nil=>exact absurd h (by decide)
   | cons a s=>rfl
def b4a (s:List UInt8):spZ 279 [(false,[.s s])] [] (.tup [(false,[.i .i64 ((a6Q s,a1q s).1)]),(false,[.b ((a6Q s,a1q s).2)])]):=by
 refine sy' Tryz.func279 (q' 0 [az 2 0,ab 3 false] (.seq (q' 6 [am 0,ao (.bin .eql (.t 6) (.k (.v false [.c (.s [])]))),am 7,au (.mov (.t 0)) 8 false,au (.lens (.t 9)) 8 false,au (.bin .gtr (.t 10) (k' 15)) 8 false,ao (.pick (.t 8) (bb true) (.t 11))] (.cond (.t 12) (q' 0 [az 2 0,ab 3 false] .ret) .skip)) (q' 4 [aK 0] (.seq (q' 13 [am 0,ao (.lens (.t 13)),aK 0] (.block 0 (.loop (q' 16 [ar 15 14] (.seq (.cond (.t 16) .skip (.exit 0)) (.seq (.block 1 (q' 17 [am 15,aV 5] (.seq (q' 18 [aM [0,5],ao (.ixs (.t 18) (.t 19)),ac 208 [20],ao (.not (.t 21))] (.cond (.t 22) (q' 0 [az 2 0,ab 3 false] .ret) .skip)) (g' 23 [am 4,ao (.bin .mul (k' 10) (.t 23)),aM [0,5],ao (.ixs (.t 25) (.t 26)),ao (.bin .sub (.t 27) (bu 48)),ao (.cv .i64 (.t 28)),ao (.bin .add (.t 24) (.t 29)),aV 4])))) (g' 31 [aA 15]))))))) (.seq (q' 32 [am 4,ac 63 [32],am 0,ao (.bin .neq (.t 33) (.t 34))] (.cond (.t 35) (q' 0 [az 2 0,ab 3 false] .ret) .skip)) (q' 36 [am 4,aV 2,ab 3 true] .ret)))))) [.t 2,.t 3] [(208,[],a0y),(63,[],a6k)] ?_;intro hb hE;simp only [go_sem];repeat' first|apply cj'|intro hc|exact om'|fail
 ·have h2:(s.length:Int) < 1\/15 < (s.length:Int):=by
   rcases hc with h|h
   ·rw [beq_iff_eq] at h;subst h;exact .inl (by decide)
   ·exact .inr h
  rw [a7h (b0b h2),b0b h2];exact ⟨rfl,rfl⟩
 have hlen:¬ (s.length:Int) < 1/\¬ 15 < (s.length:Int):=by
  refine ⟨fun h=>?_,hc.2⟩;have:s=[]:=q1T (by omega);subst this;exact absurd hc.1 (by decide)
 refine lq' false [0,14] [] [] (fun i:{i:Nat // i<=s.length/\(s.take i).all a7v=true}=>[(4,slV (.i .i64 (a5O (s.take i.1)))),(15,slV (.i .i64 i.1))]) nl' nl' (fun i=>s.length - i.1) (⟨0,by omega,rfl⟩) ?_;intro S0 hS0 i;obtain ⟨i,hi,hd⟩:=i;have hv:=c3s (s.take i) hd;have hp:=c6L (s.take i).length (by rw [q0O];omega);simp only [go_sem,hS0];repeat' first|apply cj'|intro hc|exact om'|fail
 ·have hb:=b9S (s:=s) (i:=i) (by omega) (by rw [<- dig_i];exact hc);rw [a7h hb,hb];exact ⟨rfl,rfl⟩
 ·have hil:i < s.length:=by omega
  have ht:=b6G hil;have hdb:a7v (s.getD i 0)=true:=by rw [<- dig_i];exact hc
  have hdr:48<=(s.getD i 0).toNat/\(s.getD i 0).toNat<=57:=by rw [a7v,W3,V2,V2] at hdb;exact hdb
  (refine lpK_n2 (⟨i+1,by omega,by rw [ht,List.all_append,hd,q1I,hdb];rfl⟩) _ rfl ?_;simp only [go_sem,hS0]<;>repeat' first|apply V3|exact on'|fail)
  rw [ht,b6I,IntWalk.u8_in _ ⟨by omega,by omega⟩,IntWalk.i64_in (10 * a5O (List.take i s)) ⟨by omega,by omega⟩,IntWalk.i64_in ((s.getD i 0).toNat - 48:Int) ⟨by omega,by omega⟩,IntWalk.i64_in _ ⟨by omega,by omega⟩];omega
 ·have ee:s.take i=s:=q0T (by omega);rw [ee] at hc hd;have hy:a1q s=false:=by rw [b0a hlen hd,<- num_s hlen.1,hc]
  rw [a7h hy,hy];exact ⟨rfl,rfl⟩
 ·have ee:s.take i=s:=q0T (by omega);rw [ee] at hc hd ⊢;have hy:a1q s=true:=by rw [b0a hlen hd,<- num_s hlen.1,hc]
  rw [a6Q,hy];exact ⟨rfl,rfl⟩
noncomputable def a6l:CT:=j7 (fun (x:(List UInt8))=>b4a x)
@[go_sem] def c2n:=fun s=>nm' (fQ' a6l rfl s)
def a2X (b:UInt8):(u0 b.toNat || (a0M b.toNat || a0a b.toNat))=m9 b:=by
 unfold m9 a0t a0M u0 a0a;repeat' split
 all_goals (simp;try omega)
def a2m (s:List UInt8) (i:Nat):d7×Int×Int:=bif (o9 s i).1==0 then ((o9 s i).2,(j9 m9 s i:Int),0) else (default,0,(o9 s i).1)
def cut_run {s:List UInt8} {i j:Nat} (hk:j9 m9 s i=j):cut s i j=(s.drop i).takeWhile m9:=by
 rw [cut,<- hk,j9,q4E];exact (List.prefix_iff_eq_take.1 (List.takeWhile_prefix _)).symm
def cut_0 {s:List UInt8} {i j:Nat} (h:i < j) (h2:i < s.length):(cut s i j).getD 0 0=s.getD i 0:=by
 rw [cut,q1N h2,show j - i=(j - i - 1)+1 by omega,q0C,q1B,List.getD,V4 h2];rfl
def cut_n {s:List UInt8} {i j:Nat} (h2:j<=s.length):(cut s i j).length=j - i:=by
 rw [cut,q0O,q1U];omega
def c7g {s:List UInt8} {i j:Nat} (hk:j9 m9 s i=j) (hi:i < s.length) (hij:i < j) (hj:j<=s.length) (ha:m9 (s.getD i 0)=true):o9 s i =
  bif a0a (s.getD i 0).toNat then (bif a1q (cut s i j) then (0,⟨3,a6Q (cut s i j),[],i⟩) else (3,default))
  else bif u0 (s.getD i 0).toNat then (bif a0o (cut s i j) then (0,⟨1,0,cut s i j,i⟩) else (4,default))
  else (bif decide (12 < ((cut s i j).length:Int)) then (4,default) else (0,⟨2,0,cut s i j,i⟩)):=by
 have h0:=cut_0 hij hi;have hn:=cut_n (i:=i) hj;have hall:(cut s i j).all b5E=true:=by
  rw [cut_run hk,q0P];intro x hx;have:=q0P.1 (List.all_takeWhile (p:=m9) (l:=s.drop i)) x hx;rw [<- a2X] at this;rw [b5E,q4N];exact this
 have hw:a0o (cut s i j)=true->u0 (s.getD i 0).toNat=true:=fun h=>by
  rw [a0o,h0,W3,W3] at h;exact h.2.2
 have hv:a3G (cut s i j)=(decide ((cut s i j).length<=12)&&a0M (s.getD i 0).toNat):=by
  rw [a3G,hall,h0,W8 (show 1<=(cut s i j).length by omega)];rfl
 have hd:∀ n:Int,(a0t n==3)=a0a n:=by
  intro n;unfold a0t a0a;repeat' split
  all_goals (simp;try omega)
 rw [o9,hk,hd,hv];rw [<- a2X] at ha;cases hD:a0a (s.getD i 0).toNat with
 | true=>rfl
 | false=>
   cases hL:u0 (s.getD i 0).toNat with
   | true=>
     have hU:a0M (s.getD i 0).toNat=false:=by
      rw [u0,W3,V2,V2] at hL;rw [a0M,V1 (show ¬ (((s.getD i 0).toNat:Nat):Int)<=90 by omega),q2L]
     rw [hU,q2L];rfl
   | false=>
     rw [hL,hD,q3O,q3P] at ha;have hW:a0o (cut s i j)=false:=by
      cases h:a0o (cut s i j) with
      | false=>rfl
      | true=>rw [hw h] at hL;cases hL
     rw [hW,ha,q0Y];by_cases h12:(cut s i j).length<=12
     ·rw [W8 h12,V1 (show ¬ 12 < ((cut s i j).length:Int) by omega)];rfl
     ·rw [V1 h12,W8 (show 12 < ((cut s i j).length:Int) by omega)];rfl
def b5r (s:List UInt8) (i:Int) (hpre:(0<=i/\i < s.length/\s.length<=1000000)/\m9 (s.getD i.toNat 0)=true):spZ 209 [(false,[.s s]),(false,[.i .i64 i])] [] (.tup [(true,[.i .i64 (((a2m s i.toNat).1).Kind),.i .i64 (((a2m s i.toNat).1).N),.s (((a2m s i.toNat).1).S),.i .i64 (((a2m s i.toNat).1).At)]),(false,[.i .i64 ((a2m s i.toNat).2.1)]),(false,[.i .i64 ((a2m s i.toNat).2.2)])]):=by
 refine sy' Tryz.func209 (q' 4 [aw [.i .i64,.i .i64,.s,.i .i64],aK 0,aK 0] (q' 11 [am 1,aV 7] (.seq (.block 0 (.loop (.seq (q' 12 [aM [7,0],ao (.lens (.t 13)),ar 12 14,am 15,au (.mov (.t 0)) 16 true,au (.mov (.t 7)) 16 true,au (.ixs (.t 17) (.t 18)) 16 true,au (.call 206 [.t 19]) 16 true,au (.mov (.t 20)) 16 true,au (.mov (.t 0)) 21 false,au (.mov (.t 7)) 21 false,au (.ixs (.t 22) (.t 23)) 21 false,au (.call 207 [.t 24]) 21 false,au (.pick (.t 21) (bb true) (.t 25)) 16 true,au (.mov (.t 26)) 16 true,au (.mov (.t 0)) 27 false,au (.mov (.t 7)) 27 false,au (.ixs (.t 28) (.t 29)) 27 false,au (.call 208 [.t 30]) 27 false,au (.pick (.t 27) (bb true) (.t 31)) 16 true,ao (.pick (.t 16) (.t 32) (bb false))] (.cond (.t 33) .skip (.exit 0))) (.block 1 (g' 34 [aB 7]))))) (q' 36 [aM [0,1,7],ao (.slcs (.t 36) (some (.t 37)) (some (.t 38))),aV 8] (.seq (.block 2 (q' 41 [am 8,ao (.ixs (.t 41) (k' 0)),ac 208 [42],aV 40] (.cond (.t 40) (q' 45 [am 8,ac 279 [45],aV 44,ao (.ext (.t 44) 0),ao (.ext (.t 44) 1),av 9 47,aV 10] (.seq (q' 49 [am 10,ao (.not (.t 49))] (.cond (.t 50) (q' 51 [ao (.bld [.i .i64,.i .i64,.s,.i .i64] []),aS 4 4 51,az 5 0,az 6 3] .ret) .skip)) (q' 52 [aM [9,1],ao (.bld [.i .i64,.i .i64,.s,.i .i64] [(0,1,.k (.v false [.c (.i .i64 3)])),(1,1,.t 52),(3,1,.t 53)]),am 7,aS 4 4 54,aV 5,az 6 0] .ret))) (q' 57 [am 8,ao (.ixs (.t 57) (k' 0)),ac 206 [58],aV 56] (.cond (.t 56) (.seq (q' 60 [am 8,ac 149 [60],ao (.not (.t 61))] (.cond (.t 62) (q' 63 [ao (.bld [.i .i64,.i .i64,.s,.i .i64] []),aS 4 4 63,az 5 0,az 6 4] .ret) .skip)) (q' 64 [aM [8,1],ao (.bld [.i .i64,.i .i64,.s,.i .i64] [(0,1,.k (.v false [.c (.i .i64 1)])),(2,1,.t 64),(3,1,.t 65)]),am 7,aS 4 4 66,aV 5,az 6 0] .ret)) .skip))))) (.seq (q' 68 [am 8,ao (.lens (.t 68)),ao (.bin .gtr (.t 69) (k' 12))] (.cond (.t 70) (q' 71 [ao (.bld [.i .i64,.i .i64,.s,.i .i64] []),aS 4 4 71,az 5 0,az 6 4] .ret) .skip)) (q' 72 [aM [8,1],ao (.bld [.i .i64,.i .i64,.s,.i .i64] [(0,1,.k (.v false [.c (.i .i64 2)])),(2,1,.t 72),(3,1,.t 73)]),am 7,aS 4 4 74,aV 5,az 6 0] .ret))))))) [.c 4 true 4,.t 5,.t 6] [(206,[],a0K),(207,[],a1R),(208,[],a0y),(279,[],a6l),(149,[],a2t)] ?_;intro hb hE;obtain ⟨⟨h0,h1,h2⟩,ha⟩:=hpre;simp only [go_sem];repeat' first|apply cj'|intro hc|exact om'|fail
 refine lq' false [0,1,4] [8] [] (fun i:{j:Nat // i.toNat<=j/\j<=s.length/\j9 m9 s j=j9 m9 s i.toNat}=>[(7,slV (.i .i64 i.1))]) nl' nl' (fun i=>s.length - i.1) (⟨i.toNat,by omega,by omega,rfl⟩) ?_;intro S0 hS0 i;obtain ⟨j,hij,hj,hje⟩:=i;simp only [go_sem,hS0];repeat' first|apply cj'|intro hc|exact om'|fail
 ·have hjx:j9 m9 s (j+1)=j9 m9 s i.toNat:=(a0I (by omega) (by
   rw [<- a2X];rcases hc.2 with (h|h)|h<;>rw [h]<;>simp)).symm.trans hje
  exact nx0 ⟨j+1,by omega,by omega,hjx⟩
 all_goals (
  have hk:j9 m9 s i.toNat=j:=by
   rw [<- hje];refine a3A fun h=>?_
   have h5:(decide ((j:Int) < s.length)&&(u0 (s.getD j 0).toNat || a0M (s.getD j 0).toNat || a0a (s.getD j 0).toNat))=false:=by assumption
   rw [W8 (show (j:Int) < s.length by omega),q0I,q4N,a2X] at h5;exact h5
  have hr:=a0I (f:=m9) (s:=s) (i:=i.toNat) (by omega) ha;have hr2:=a0l (f:=m9) (s:=s) (i:=i.toNat+1) (by omega);have hlt:i.toNat < j:=by omega
  have hn:=cut_n (i:=i.toNat) hj;have e:=c7g hk (by omega) hlt hj ha;rw [<- cut_0 hlt (by omega)] at e)
 all_goals first
  | omega
  | (rename_i h1;rw [h1,W4,hc,W4] at e;rw [a2m,e,hk];exact ⟨⟨⟨⟨⟨rfl,rfl⟩,rfl⟩,(show i=((i.toNat:Nat):Int) by omega)⟩,rfl⟩,rfl⟩)
  | (rename_i h1;rw [h1,W4,hc,W2] at e;rw [a2m,e];exact ⟨⟨⟨⟨⟨rfl,rfl⟩,rfl⟩,rfl⟩,rfl⟩,rfl⟩)
  | (rename_i h1 h2;rw [h1,W2,h2,W4,hc,W4] at e;rw [a2m,e,hk];exact ⟨⟨⟨⟨⟨rfl,rfl⟩,rfl⟩,(show i=((i.toNat:Nat):Int) by omega)⟩,rfl⟩,rfl⟩)
  | (rename_i h1 h2;rw [h1,W2,h2,W4,hc,W2] at e;rw [a2m,e];exact ⟨⟨⟨⟨⟨rfl,rfl⟩,rfl⟩,rfl⟩,rfl⟩,rfl⟩)
  | (rename_i h1 h2;rw [h1,W2,h2,W2,W8 hc,W4] at e;rw [a2m,e];exact ⟨⟨⟨⟨⟨rfl,rfl⟩,rfl⟩,rfl⟩,rfl⟩,rfl⟩)
  | (rename_i h1 h2;rw [h1,W2,h2,W2,V1 hc,W2] at e;rw [a2m,e,hk];exact ⟨⟨⟨⟨⟨rfl,rfl⟩,rfl⟩,(show i=((i.toNat:Nat):Int) by omega)⟩,rfl⟩,rfl⟩)
  | trace_state
noncomputable def a7I:CT:=u9 (fun (x:(List UInt8)×Int) h=>b5r x.1 x.2 h)
@[go_sem] def c4p:=fun s i=>nm' (fP' a7I rfl (s,i))
def a9e (b:UInt8):m9 b=!(a0t b.toNat==0):=by
 rw [m9];unfold a0t;repeat' split
 all_goals (first|rfl|decide)
def c1X {s:List UInt8} {i:Nat} (h:((o9 s i).1==0)=true):a2m s i=((o9 s i).2,(j9 m9 s i:Int),0):=by rw [a2m,h];rfl
def c1W {s:List UInt8} {i:Nat} (h:((o9 s i).1==0)=false):a2m s i=(default,0,(o9 s i).1):=by rw [a2m,h];rfl
def c1H (s:List UInt8):spZ 108 [(false,[.s s])] [] (.tup [(false,[j2 ((a0d s).1)]),(false,[.i .i64 ((a0d s).2.1)]),(false,[.i .i64 ((a0d s).2.2)])]):=by
 refine sx' false true none Tryz.func108 (q' 2 [ao (.mov (.k (.v false [.nl a0w]))),aK 0,aK 0] (.seq (q' 12 [am 0,ao (.lens (.t 12)),ao (.bin .gtr (.t 13) (k' 6000))] (.cond (.t 14) (q' 2 [ao (.mov (.k (.v false [.nl a0w]))),aK 1,aK 0] .ret) .skip)) (q' 15 [ao (.bsl 4 0 [.i .i64, .i .i64,.s,.i .i64] []),aV 5] (.seq (q' 16 [am 0,ao (.call 205 [.t 16,(k' 0)]),aV 6] (.block 0 (.loop (.seq (q' 18 [aM [6,0],ao (.lens (.t 19)),ar 18 20] (.cond (.t 21) .skip (.exit 0))) (.seq (.block 1 (q' 25 [aM [0,6],ao (.ixs (.t 25) (.t 26)),aV 7] (.seq (q' 28 [am 7,ac 206 [28],am 29,au (.mov (.t 7)) 30 false,au (.call 207 [.t 31]) 30 false,ao (.pick (.t 30) (bb true) (.t 32)),am 33,au (.mov (.t 7)) 34 false,au (.call 208 [.t 35]) 34 false,ao (.pick (.t 34) (bb true) (.t 36))] (.cond (.t 37) (q' 39 [aM [0,6],ac 209 [39,40],aV 38,ao (.ext (.t 38) 0),ao (.ext (.t 38) 1),ao (.ext (.t 38) 2),ax (w' 8 [.i .i64,.i .i64,.s,.i .i64]),aS 4 8 42,av 9 43,aV 10] (.seq (q' 45 [am 10,ao (.bin .neq (.t 45) (k' 0))] (.cond (.t 46) (q' 2 [av 47 10,av 48 6,ao (.mov (.k (.v false [.nl a0w]))),aM [47,48]] .ret) .skip)) (q' 49 [am 5,ae 4 8,ao (.bsl 4 1 [.i .i64,.i .i64,.s,.i .i64] [(0,.t 50)]),ao (.app 4 40 [.i .i64,.i .i64,.s,.i .i64] (.t 49) (.t 51)),aV 5] (q' 53 [am 9,aV 6] (.exit 1))))) .skip)) (q' 54 [aM [0,6],ac 210 [54,55],aV 11] (.seq (q' 57 [am 11,ao (.bin .eql (.t 57) (.k (.v false [.c (.s [])])))] (.cond (.t 58) (q' 2 [av 59 6,ao (.mov (.k (.v false [.nl a0w]))),aK 2,am 59] .ret) .skip)) (q' 60 [aM [5,11,6],ao (.bld [.i .i64,.i .i64,.s,.i .i64] [(0,1,.k (.v false [.c (.i .i64 4)])),(2,1,.t 61),(3,1, .t 62)]),ao (.bsl 4 1 [.i .i64,.i .i64,.s,.i .i64] [(0,.t 63)]),ao (.app 4 40 [.i .i64,.i .i64,.s,.i .i64] (.t 60) (.t 64)),aV 5] (g' 66 [aM [6,11],ao (.lens (.t 67)),ao (.bin .add (.t 66) (.t 68)),aV 6]))))))) (g' 22 [aM [0,6],ac 205 [22,23],aV 6])))))) (q' 2 [av 70 5,am 70,aK 0,aK 0] .ret))))) [.t 2,.t 3,.t 4] [(205,[],a6o),(206,[],a0K),(207,[],a1R),(208,[],a0y),(209,[],a7I),(210,[],a5w)] ?_;intro hb hE;simp only [go_sem];repeat' first|apply cj'|intro hc|exact om'|fail
 ·rw [a0d,W8 (by omega)];exact ⟨⟨rfl,rfl⟩,rfl⟩
 have hm:¬ 6000 < s.length:=by omega
 have hlx:a0d s=a2D s 0 []:=by rw [a0d,V1 hm];rfl
 have h0:=skp (s:=s) (i:=0) (by omega);refine lk' false [(false,5,0,100010)] [0] [] [] (fun i:{q:Nat×List d7 // (q.1<=s.length/\q.2.length<=q.1/\a2D s q.1 q.2=a2D s 0 [])/\(q.1 < s.length->y9 (s.getD q.1 0)=false/\(((s.getD q.1 0).toNat:Int)==35)=false)}=>[(5,.v false [.ow 100010]),(6,slV (.i .i64 i.1.1))]) nl' (fun i=>[(100010,a0w,i.1.2.map d7.cells)]) (fun i=>s.length - i.1.1) (⟨(a0U s 0,[]),⟨h0.le,by simp,(h0.lx []).symm⟩,h0.no⟩) ?_;intro S0 hS0 i;obtain ⟨⟨i,a⟩,⟨hi,hal,hle⟩,hno⟩:=i;simp only at hi hal hle hno;simp only [go_sem,hS0];repeat' first|apply cj'|intro hc|exact om'|fail
 ·rename_i hlt;exact ⟨by omega,by
   rw [<- a2X];rcases hc with (h|h)|h<;>rw [h]<;>simp⟩
 ·rename_i hlt hcl;have hi2:i < s.length:=by omega
  have ha:m9 (s.getD i 0)=true:=by
   rw [<- a2X];rcases hcl with (h|h)|h<;>rw [h]<;>simp
  have hn:=a0v a hi2;rw [(hno hi2).1,W2,(hno hi2).2,W2] at hn;rw [a9e] at ha;have hz:(o9 s i).1≠0:=fun e=>by
   rw [c1X (by rw [e];rfl)] at hc;exact absurd hc (show ¬ ((0:Int) != 0)=true by decide)
  have hz2:((o9 s i).1==0)=false:=beq_eq_false_iff_ne.2 hz;rw [show (a0t (s.getD i 0).toNat==0)=false by simpa using ha,W2,hz2,W2] at hn;rw [hlx,<- hle,hn,c1W hz2];exact ⟨⟨rfl,rfl⟩,rfl⟩
 ·rename_i hlt hcl;have hi2:i < s.length:=by omega
  have hr:=a0l (f:=m9) (s:=s) (i:=i) hi;have hz:((o9 s i).1==0)=true:=by
   cases hz:(o9 s i).1==0 with
   | true=>rfl
   | false=>
     rw [c1W hz] at hc;rw [beq_eq_false_iff_ne] at hz;rw [bne_eq_false_iff_eq] at hc;exact absurd hc hz
  rw [c1X hz];exact ⟨⟨q2U _,by show (j9 m9 s i:Int)<=s.length;omega⟩,by omega⟩
 ·rename_i hlt hcl;have hi2:i < s.length:=by omega
  have ha:m9 (s.getD i 0)=true:=by
   rw [<- a2X];rcases hcl with (h|h)|h<;>rw [h]<;>simp
  have hr0:=a0I (f:=m9) hi2 ha;have hr:=a0l (f:=m9) (s:=s) (i:=i+1) (by omega);have hz:((o9 s i).1==0)=true:=by
   cases hz:(o9 s i).1==0 with
   | true=>rfl
   | false=>
     rw [c1W hz] at hc;rw [beq_eq_false_iff_ne] at hz;rw [bne_eq_false_iff_eq] at hc;exact absurd hc hz
  have ew:=c1X hz;have hn:=a0v a hi2;rw [(hno hi2).1,W2,(hno hi2).2,W2] at hn;rw [a9e] at ha;rw [show (a0t (s.getD i 0).toNat==0)=false by simpa using ha,W2,hz,W4] at hn;have hsk:=skp (s:=s) (i:=j9 m9 s i) (by omega);have e5:a2D s (a0U s (j9 m9 s i)) (a++[(o9 s i).2])=a2D s 0 []:=by rw [<- hsk.lx,<- hn];exact hle
  have hg:=hsk.ge;have e6:((a2m s i).2.1).toNat=j9 m9 s i:=by rw [ew];show ((j9 m9 s i:Nat):Int).toNat=_;omega
  have e7:(a2m s i).1=(o9 s i).2:=by rw [ew]
  (refine lpK_n2 (⟨(a0U s (j9 m9 s i),a++[(o9 s i).2]),⟨hsk.le,by show (a++[_]).length<=_;rw [W6,q0E];omega,e5⟩,hsk.no⟩) _ (by simp only [go_sem];try rfl) ?_;simp only [go_sem,hS0,e6,e7]<;>repeat' first|apply V3|exact on'|fail)
 ·rename_i hlt hcl;have hi2:i < s.length:=by omega
  have ha:m9 (s.getD i 0)=false:=by rw [<- a2X,hcl.1.1,hcl.1.2,hcl.2];rfl
  have hn:=a0v a hi2;rw [(hno hi2).1,W2,(hno hi2).2,W2] at hn;rw [a9e] at ha;rw [show (a0t (s.getD i 0).toNat==0)=true by simpa using ha,W4,hc,W4] at hn;rw [hlx,<- hle,hn];exact ⟨⟨rfl,rfl⟩,rfl⟩
 ·have hl:=a5b (show i < s.length by omega);rw [show IntKind.i64.wrap ((i:Int)+(o7 s i).length)=((i+(o7 s i).length:Nat):Int) from IntWalk.i64_in _ ⟨by omega,by omega⟩];omega
 ·rename_i hlt hcl;have hi2:i < s.length:=by omega
  have ha:m9 (s.getD i 0)=false:=by rw [<- a2X,hcl.1.1,hcl.1.2,hcl.2];rfl
  have hn:=a0v a hi2;rw [(hno hi2).1,W2,(hno hi2).2,W2] at hn;rw [a9e] at ha;rw [show (a0t (s.getD i 0).toNat==0)=true by simpa using ha,W4,hc,W2] at hn;have hl:=a5b hi2;have hz:(o7 s i).length≠0:=fun e=>by rw [q1T e] at hc;exact absurd hc (by decide)
  have hsk:=skp (s:=s) (i:=i+(o7 s i).length) hl;have e5:a2D s (a0U s (i+(o7 s i).length)) (a++[⟨4,0,o7 s i,i⟩])=a2D s 0 []:=by rw [<- hsk.lx,<- hn];exact hle
  have hg:=hsk.ge;have w:(IntKind.i64.wrap ((i:Int)+(o7 s i).length)).toNat=i+(o7 s i).length:=by rw [IntWalk.i64_in _ ⟨by omega,by omega⟩];omega
  (refine lpK_n2 (⟨(a0U s (i+(o7 s i).length),a++[⟨4,0,o7 s i,i⟩]),⟨hsk.le,by show (a++[_]).length<=_;rw [W6,q0E];omega,e5⟩,hsk.no⟩) _ (by simp only [go_sem];try rfl) ?_;simp only [go_sem,hS0,w]<;>repeat' first|apply V3|exact on'|fail)
 ·rw [hlx,<- hle,a2E a (by omega)];exact ⟨⟨rfl,rfl⟩,rfl⟩
noncomputable def b3H:CT:=j7 (fun (x:(List UInt8))=>c1H x)
@[go_sem] def c7o:=fun s=>nm' (fQ' b3H rfl s)
end Go.Aw
