/- Levels: the reference's. No condition. -/
import Derived.Test.YtdfnhhecaaaoaaaGreatybT15
import Derived.Test.YtdfnhhecaaaoaaaGreatybT16
namespace Go.Aw
open Go.Proofs
attribute [local irreducible] aft blk lpK retK AW Z9
set_option linter.all false
set_option maxRecDepth 100000
@[go_sem] def b5z:ACode:=q' 4 [aK 0] (.seq (q' 6 [am 0,aN,aK 0] (.block 0 (.loop (q' 9 [ar 8 7] (.seq (.cond (.t 9) .skip (.exit 0)) (.seq (.block 1 (q' 10 [am 8,aV 5] (q' 11 [aM
 [0,5],aI 2,aG 0 13,am 1,ao (.bin .eql (.t 15) (.t 16))] (.cond (.t 17) (q' 18 [aM [0,5],aI 2,aG 1 20,aV 4] .ret) .skip)))) (g' 23 [aA 8]))))))) (q' 4 [ao
 (.mov (.k (.v false [.c (.i .i64 (-1))])))] .ret))
theorem b8y (l:List e7) (v:List UInt8):Z9 Tryz.prog 232 [(false,[.sl false [.s [],.i .i64 0] (l.map e7.cells)]),(false,[.s v])] [] (.one (false,[.i .i64 (z7 l v)])):=by
 refine sx' false false none Tryz.func232 b5z [.t 4] [] ?_
 intro hb hE
 simp only [go_sem];(repeat' first | apply CJ.mk | intro hc);all_goals try exact om'
 refine lq' false [0,1,7] [] [] (fun i:{i:Nat // i≤l.length∧(l.take i).any (fun d=>d.Name==v)=false}=>[(8,slV (.i .i64 i.1))]) nl' nl' (fun i=>l.length - i.1) (⟨0,by simp⟩) ?_
 intro S0 hS0 i
 obtain ⟨i,hi,ha⟩:=i
 simp only [go_sem,hS0];(repeat' first | apply CJ.mk | intro hc);all_goals try exact om'
 ·rw [z7,b7L (d:=default) (i:=i) (by omega) ha hc];rfl
 ·exact nx0 ⟨i+1,by omega,j5 (p:=fun d:e7=>d.Name==v) default (by omega) ha hc⟩
 ·rw [z7,a5n (by rwa [f9 (by omega)] at ha)];rfl
noncomputable def a7N:CT:=i3 (fun (x:(List e7)×(List UInt8))=>b8y x.1 x.2)
@[go_sem] def c6E:=fun l v=>nm' (fQ' a7N rfl (l,v))
def relL (l:List c9):List e7:=l.map fun x=>⟨x.Name,0⟩
theorem c7U (p:c4):relL (p8 (a0v p 3))=lvl p fun _=>0:=by
 have h:=a3t (a0v p 3)
 have e:relL (p8 (a0v p 3))=((p8 (a0v p 3)).map c9.Name).map fun v=>(⟨v,0⟩:e7):=by rw [List.map_map];rfl
 rw [e,h];rfl
theorem c5F (p:c4) (k:Int):(p8 (a0v p k)).length≤p.Decls.length:=by
 have h1:=a6G (a0v p k)
 have h2:=List.length_filter_le (fun d:d7=>d.Kind==k) p.Decls
 exact Nat.le_trans h1 h2
theorem vw_at {p:c4} {n:Nat} (hn:n < (vwS p).length):(vwS p).getD n []∈vwS p∧(∀ g,(lvl p g).getD n default=⟨(vwS p).getD n [],g ((vwS p).getD n [])⟩)∧∀ g x,(lvl p g).set n ⟨(vwS p).getD n [],x⟩=lvl p (upd g ((vwS p).getD n []) x):=
 ⟨A3q hn,fun g=>c0j p g hn,fun g x=>c3L p g hn x⟩
theorem b8B {p:c4} {g:Lev} {l:d5} {x:Int} (h0:∀ v,0≤g v) (hx:((l.Kind==2&&decide (0≤z7 (lvl p g) l.Atom.Name))=true∧x=z7 (lvl p g) l.Atom.Name+1)∨((l.Kind==2&&decide (0≤z7 (lvl p g) l.Atom.Name))=false∧x=z7 (lvl p g) l.Atom.Name)):(l.Atom.Name∈vwS p∧x=g l.Atom.Name+a5e l)∨(¬ l.Atom.Name∈vwS p∧x=-1):=by
 by_cases e:l.Atom.Name∈vwS p
 ·refine .inl ⟨e, ?_⟩
  rw [b6X g e,decide_eq_true (h0 l.Atom.Name),Bool.and_true] at hx
  rcases hx with ⟨h1,h2⟩ | ⟨h1,h2⟩
  ·rw [b4C h1];exact h2
  ·rw [b8C h1];omega
 ·refine .inr ⟨e, ?_⟩
  rw [c0f g e,show decide ((0:Int)≤-1)=false from rfl,Bool.and_false] at hx
  rcases hx with ⟨h1,h2⟩ | ⟨h1,h2⟩
  ·cases h1
  ·exact h2
theorem c0g {p:c4} {g:Lev} {h:List UInt8} {l:d5} {x:Int} (h0:∀ v,0≤g v) (hx:((l.Kind==2&&decide (0≤z7 (lvl p g) l.Atom.Name))=true∧x=z7 (lvl p g) l.Atom.Name+1)∨((l.Kind==2&&decide (0≤z7 (lvl p g) l.Atom.Name))=false∧x=z7 (lvl p g) l.Atom.Name)) (hc:(l.Kind != 3&&decide (g h < x))=false):a1m p g h l:=by
 by_cases hk:(l.Kind==3)=true
 ·exact b6Z hk
 ·have hn:¬ g h < x:=by
   rw [bne,(by simpa using hk:(l.Kind==3)=false),Bool.not_false,Bool.true_and] at hc
   exact of_decide_eq_false hc
  rcases b8B h0 hx with ⟨h1,h2⟩ | ⟨h1,h2⟩
  ·exact c2p h2 hn
  ·exact b7a h1
theorem c0h {p:c4} {g:Lev} {h:List UInt8} {b:List d5} {j:Nat} (hj:j < b.length) (h1:∀ l∈b.take j,a1m p g h l) (h2:a1m p g h (b.getD j default)):∀ l∈b.take (j+1),a1m p g h l:=fun l hl=>by
 rw [i5 default hj,List.mem_append,List.mem_singleton] at hl
 rcases hl with hl | rfl
 ·exact h1 l hl
 ·exact h2
@[go_sem] def b2K:ACode:=q' 1 [ao (.box 2 (.t 0)),ao (.mov (.k (.v false [.nl [.s [],.i .i64 0]]))),ao (.mov (bb false))] (q' 16 [ae 2 1,ac 230 [16],aV 15,ao (.ext (.t 15) 0),ao (.ext
 (.t 15) 1),av 4 18,aV 5] (.seq (q' 20 [am 4,ao (.bin .neq (.t 20) (k' 0))] (.cond (.t 21) (q' 0 [ax (o' 2 (.mov (.k (.v false [.nl [.s [],.i .i64 0]])))),ab
 3 false] .ret) .skip)) (q' 22 [ao (.bsl 2 0 [.s,.i .i64] []),aV 6] (.seq (q' 23 [ae 2 1,ao (.call 208 [.t 23,.k (.v false [.c (.i .i64 3)])]),ao (.fl false
 0 1 (.t 24)),aN,aK 0] (.block 0 (.loop (q' 28 [ar 27 26] (.seq (.cond (.t 28) .skip (.exit 0)) (.seq (.block 1 (q' 29 [ai 3 25 27,aE 3,ax (w' 8 [.s,.i .i64,
 .sl [.sl false [.i .i64 0,.s []] []]]),aS 3 8 30] (g' 31 [am 6,aG 0 8,ao (.bld [.s,.i .i64] [(0,1,.t 33)]),ao (.bsl 2 1 [.s,.i .i64] [(0,.t 34)]),ao
 (.app 2 24 [.s,.i .i64] (.t 31) (.t 35)),aV 6]))) (g' 37 [aA 27]))))))) (.seq (q' 0 [ab 9 true] (.block 2 (.loop (.seq (q' 38 [am 9] (.cond (.t 38) .skip
 (.exit 2))) (.block 3 (q' 0 [ab 9 false] (q' 39 [am 6,aN,aK 0] (.block 4 (.loop (q' 42 [ar 41 40] (.seq (.cond (.t 42) .skip (.exit 4)) (.seq (.block 5 (q' 43
 [am 41,aV 10] (.seq (q' 44 [aG 1 1,aN,aK 0] (.block 6 (.loop (q' 48 [ar 47 46] (.seq (.cond (.t 48) .skip (.exit 6)) (.seq (.block 7 (q' 49 [am 47,aV 11] (q'
 50 [aG 1 1,am 11,aI 4,aE 4,ax (w' 12 [.i .i64,.s,.sl [.s [],.i .i64 0,.s []],.sl [.i .i64 0,.s [],.sl false [.s [],.i .i64 0,.s []] [],.i .i64 0,.s
 [],.i .i64 0,.s [],.s [],.i .i64 0,.s []]]),aS 4 12 54] (.seq (.seq (G' 55 [af 1 12,aG 0 55,aM [6,10],aI 2,aG 0 60,ao (.bin .neq (.t 57) (.t 62))])
 (.cond (.t 63) (.exit 7) .skip)) (q' 64 [aG 3 12,aN,aK 0] (.block 8 (.loop (q' 68 [ar 67 66] (.seq (.cond (.t 68) .skip (.exit 8)) (.seq (.block 9 (q' 69 [am
 67,aV 13] (q' 70 [am 6,aG 3 12,am 13,aI 10,aF 1,aG 0 75,ac 232 [70,77],aV 14] (.seq (q' 79 [aG 3 12,am 13,aI 10,aG 0 82,ao (.bin .eql (.t 84) (k' 2)),am 85,au
 (.mov (.t 14)) 86 true,au (.bin .geq (.t 87) (k' 0)) 86 true,ao (.pick (.t 86) (.t 88) (bb false))] (.cond (.t 89) (g' 90 [aB 14]) .skip)) (q' 92 [aG 3 12,am
 13,aI 10,aG 0 95,ao (.bin .neq (.t 97) (k' 3)),am 98,au (.mov (.t 14)) 99 true,au (.mov (.t 6)) 99 true,au (.mov (.t 10)) 99 true,au (.ia 2 (.t 101) (.t 102))
 99 true,au (.fa 1 (.t 103)) 99 true,au (.ld false 1 (.t 104)) 99 true,au (.bin .gtr (.t 100) (.t 105)) 99 true,ao (.pick (.t 99) (.t 106) (bb false))] (.cond
 (.t 107) (q' 108 [aM [6,10,14],ai 2 108 109,aF 1,aS 1 112 110] (g' 0 [ab 9 true])) .skip)))))) (g' 113 [aA 67]))))))))))) (g' 114 [aA 47]))))))) (q' 115 [aM
 [6,10],aI 2,aG 1 117,am 6,aN,ao (.bin .gtr (.t 119) (.t 121))] (.cond (.t 122) (q' 0 [ax (o' 2 (.mov (.k (.v false [.nl [.s [],.i .i64 0]])))),ab 3 false]
 .ret) .skip))))) (g' 123 [aA 41]))))))))))))) (q' 124 [am 6,aV 2,ab 3 true] .ret))))))
theorem b6q (p:c4):Z9 Tryz.prog 117 [(true,[.sl false [.i .i64 0,.s [],.i .i64 0] (p.Decls.map d7.cells),.sl false [.i .i64 0,.s [],.sl false [.s [],.i .i64 0,.s []] [],.sl false [.i .i64 0,.s [],.sl false [.s [],.i .i64 0,.s []] [],.i .i64 0,.s [],.i .i64 0,.s [],.s [],.i .i64 0,.s []] []] (p.Rules.map (c6.cells false false))])] [] (.tup [(false,[.sl false [.s [],.i .i64 0] (((y4 p).1).map e7.cells)]),(false,[.b ((y4 p).2)])]):=by
 refine sx' false true none Tryz.func117 b2K [.t 2,.t 3] [(230,[],a0E),(208,[],a0n),(232,[],a7N)] ?_
 intro hb hE
 simp only [go_sem];(repeat' first | apply CJ.mk | intro hc);all_goals try exact om'
 ·rw [y4,show ((i4 p).1==0)=false by simpa [bne] using hc];exact ⟨rfl,rfl⟩
 ·have hB:=a1c (p:=p) (by simpa [bne] using hc)
  simp only [m9,Bool.and_eq_true,decide_eq_true_eq] at hB
  omega
 have hN:((i4 p).1==0)=true:=by simpa [bne] using hc
 obtain ⟨hB,hD,hRb⟩:=a8p (by simpa using hN)
 have hdl:p.Decls.length≤16:=by
  have:=hB;simp only [m9,Bool.and_eq_true,decide_eq_true_eq] at this;omega
 have hrl:p.Rules.length≤24:=by
  have:=hB;simp only [m9,Bool.and_eq_true,decide_eq_true_eq] at this;omega
 have hvl:=c3S hB
 have hel:=c5F p 3
 clear hc
 refine lk' false [(false,6,0,100012)] [1,25,26] [2] [] (fun i:{i:Nat // i≤(p8 (a0v p 3)).length}=>[(6,.v false [.ow 100012]),(27,slV (.i .i64 i.1))]) nl' (fun i=>[(100012,[.s [],.i .i64 0],(relL ((p8 (a0v p 3)).take i.1)).map e7.cells)]) (fun i=>(p8 (a0v p 3)).length - i.1) (⟨0,by simp⟩) ?_
 intro S0 hS0 i
 obtain ⟨i,hi⟩:=i
 have hl:(relL ((p8 (a0v p 3)).take i)).length≤16:=by rw [relL,List.length_map,List.length_take];omega
 simp only [go_sem,hS0];(repeat' first | apply CJ.mk | intro hc);all_goals try exact om'
 ·(refine lpK_n2 (⟨i+1,by omega⟩) _ (by simp only [go_sem];try rfl) ?_;simp only [go_sem,hS0];first | done | ((repeat' apply And.intro)<;>try exact on'))
  rw [show relL ((p8 (a0v p 3)).take (i+1))=relL ((p8 (a0v p 3)).take i)++[⟨((p8 (a0v p 3)).getD i default).Name,0⟩] from m_snoc (fun x:c9=>(⟨x.Name,0⟩:e7)) default (by omega)]
  first | done | (rw [List.map_append];rfl) | trace_state
 rw [f9 (by omega),c7U]
 clear hc hl hi
 refine lq' false [1,6] [2] [] (fun i:{q:Bool×Lev // Low p q.2∧(∀ v∈vwS p,q.2 v≤(vwS p).length)∧(q.1=false→Fx p q.2)}=>[(9,slV (.b i.1.1))]) nl' (fun i=>[(100012,[.s [],.i .i64 0],(lvl p i.1.2).map e7.cells)]) (fun i=>2 * a1n p i.1.2+(bif i.1.1 then 1 else 0)) (⟨(true,fun _=>0),Low.zero p,fun v _=>by simp only;omega,by intro h;cases h⟩) ?_
 intro S1 hS1 i
 obtain ⟨⟨ag,g⟩,hL,hle,hF⟩:=i
 simp only at hL hle hF
 have hll:=a8n p
 simp only [go_sem,hS0,hS1,hll];(repeat' first | apply CJ.mk | intro hc);all_goals try exact om'
 ·have hag:=hc
  clear hc
  refine lq' false [1,6,40] [2] [] (fun i:{q:Nat×Bool×Lev // q.1≤(vwS p).length∧Low p q.2.2∧(∀ v∈vwS p,q.2.2 v≤(vwS p).length)∧(q.2.1=false→q.2.2=g∧∀ r∈p.Rules,r.Head.Name∈(vwS p).take q.1→u6 p g r)∧(q.2.1=true→a1n p q.2.2 < a1n p g)}=>[(9,slV (.b i.1.2.1)),(41,slV (.i .i64 i.1.1))]) nl' (fun i=>[(100012,[.s [],.i .i64 0],(lvl p i.1.2.2).map e7.cells)]) (fun i=>(vwS p).length - i.1.1) (⟨(0,false,g),by simp,hL,hle,fun _=>⟨rfl,by simp⟩,by intro h;cases h⟩) ?_
  intro S2 hS2 i
  obtain ⟨⟨n,ag2,g2⟩,hn,hL2,hle2,hF2,hM2⟩:=i
  simp only at hn hL2 hle2 hF2 hM2
  simp only [go_sem,hS0,hS1,hll,hS2];(repeat' first | apply CJ.mk | intro hc);all_goals try exact om'
  ·have hnl:n < (vwS p).length:=by omega
   clear hc
   obtain ⟨hv,hgm,hsm⟩:=vw_at hnl
   refine lq' false [1,6,10,40,41,46] [2] [] (fun i:{q:Nat×Bool×Lev // q.1≤p.Rules.length∧Low p q.2.2∧(∀ v∈vwS p,v≠(vwS p).getD n []→q.2.2 v≤(vwS p).length)∧q.2.2 ((vwS p).getD n [])≤(vwS p).length+(8 * q.1:Nat)∧(q.2.1=false→q.2.2=g∧(∀ r∈p.Rules,r.Head.Name∈(vwS p).take n→u6 p g r)∧∀ r∈p.Rules.take q.1,r.Head.Name=(vwS p).getD n []→u6 p g r)∧(q.2.1=true→a1n p q.2.2 < a1n p g)}=>[(9,slV (.b i.1.2.1)),(47,slV (.i .i64 i.1.1))]) nl' (fun i=>[(100012,[.s [],.i .i64 0],(lvl p i.1.2.2).map e7.cells)]) (fun i=>p.Rules.length - i.1.1) (⟨(0,ag2,g2),by simp,hL2,fun v hv2 _=>hle2 v hv2,by simp only;have:=hle2 _ hv;omega,fun h=>⟨(hF2 h).1,(hF2 h).2,by simp⟩,hM2⟩) ?_
   intro S3 hS3 i
   obtain ⟨⟨k,ag3,g3⟩,hk,hL3,ho3,hh3,hF3,hM3⟩:=i
   simp only at hk hL3 ho3 hh3 hF3 hM3
   simp only [go_sem,hS0,hS1,hll,hS2,hgm,hsm,hS3];(repeat' first | apply CJ.mk | intro hc);all_goals try exact om'
   ·have h3:ag3=false→g3=g∧(∀ r∈p.Rules,r.Head.Name∈(vwS p).take n→u6 p g r)∧∀ r∈p.Rules.take (k+1),r.Head.Name=(vwS p).getD n []→u6 p g r:=fun h=>by
     refine ⟨(hF3 h).1,(hF3 h).2.1,fun r hr he=>?_⟩
     rw [i5 default (by omega),List.mem_append,List.mem_singleton] at hr
     rcases hr with hr | rfl
     ·exact (hF3 h).2.2 r hr he
     ·rw [he] at hc;simp at hc
    (refine lpK_n2 (⟨(k+1,ag3,g3),by simp only;omega,hL3,ho3,by simp only;omega,h3,hM3⟩) _ rfl ?_;simp only [go_sem,hS0,hS1,hll,hS2,hgm,hsm,hS3];first | done | ((repeat' apply And.intro)<;>try exact on'))
   ·have hkl:k < p.Rules.length:=by omega
    have hrh:(p.Rules.getD k default).Head.Name=(vwS p).getD n []:=by simpa using hc
    clear hc
    have hb8:=b9d hB hkl
    have hrm:p.Rules.getD k default∈p.Rules:=A3q hkl
    refine lq' false [1,6,10,12,40,41,46,47,66] [2,24] [] (fun i:{q:Nat×Bool×Lev // q.1≤(p.Rules.getD k default).Body.length∧Low p q.2.2∧(∀ v∈vwS p,v≠(vwS p).getD n []→q.2.2 v≤(vwS p).length)∧q.2.2 ((vwS p).getD n [])≤(vwS p).length+(8 * k+q.1:Nat)∧(q.2.1=false→q.2.2=g∧(∀ r∈p.Rules,r.Head.Name∈(vwS p).take n→u6 p g r)∧(∀ r∈p.Rules.take k,r.Head.Name=(vwS p).getD n []→u6 p g r)∧∀ l∈(p.Rules.getD k default).Body.take q.1,a1m p g ((vwS p).getD n []) l)∧(q.2.1=true→a1n p q.2.2 < a1n p g)}=>[(9,slV (.b i.1.2.1)),(67,slV (.i .i64 i.1.1))]) nl' (fun i=>[(100012,[.s [],.i .i64 0],(lvl p i.1.2.2).map e7.cells)]) (fun i=>(p.Rules.getD k default).Body.length - i.1.1) (⟨(0,ag3,g3),by simp,hL3,ho3,by simp only;omega,fun h=>⟨(hF3 h).1,(hF3 h).2.1,(hF3 h).2.2,by simp⟩,hM3⟩) ?_
    intro S4 hS4 i
    obtain ⟨⟨j,ag4,g4⟩,hj,hL4,ho4,hh4,hF4,hM4⟩:=i
    simp only at hj hL4 ho4 hh4 hF4 hM4
    have hLb:∀ v,-1≤z7 (lvl p g4) v∧z7 (lvl p g4) v≤400:=fun v=>by
     by_cases e:v∈vwS p
     ·rw [b6X g4 e]
      have:=hL4.ge v
      by_cases e2:v=(vwS p).getD n []
      ·rw [e2] at this ⊢;omega
      ·have:=ho4 v e e2;omega
     ·rw [c0f g4 e];omega
    have hw:∀ v,IntKind.i64.wrap (z7 (lvl p g4) v+1)=z7 (lvl p g4) v+1:=fun v=>by have:=hLb v;rw [IntWalk.i64_in _ (by omega)]
    simp only [go_sem,hS0,hS1,hll,hS2,hgm,hsm,hS3,hS4,hw];(repeat' first | apply CJ.mk | intro hc);all_goals try exact om'
    ·rename_i hq
     have hjl:j < (p.Rules.getD k default).Body.length:=by omega
     have hlm:((p.Rules.getD k default).Body.getD j default)∈(p.Rules.getD k default).Body:=A3q hjl
     have hkk:((p.Rules.getD k default).Body.getD j default).Kind≠3:=by simpa using hc.1
     have hx0:=b8B (x:=z7 (lvl p g4) ((p.Rules.getD k default).Body.getD j default).Atom.Name+1) hL4.ge (.inl ⟨by simpa using hq,rfl⟩)
     have hh0:=hL4.ge ((vwS p).getD n [])
     have hc2:=hc.2
     rcases hx0 with ⟨hvv,e⟩ | ⟨hvv,e⟩
     ·have hMM:a1n p g4≤a1n p g:=by
       cases hag4:ag4 with
       | true=>exact Nat.le_of_lt (hM4 hag4)
       | false=>rw [(hF4 hag4).1];exact Nat.le_refl _
      have R:=a5p (j:=8 * k+j) hrm (by rw [hrh];exact hv) hlm hkk hvv hL4 (by rw [hrh];exact ho4) (by rw [hrh];exact hh4) (by omega) e (by rw [hrh];exact hc2) hMM
      rw [hrh] at R
      (refine lpK_n2 (⟨(j+1,true,upd g4 ((vwS p).getD n []) (z7 (lvl p g4) ((p.Rules.getD k default).Body.getD j default).Atom.Name+1)),by simp only;omega,R.1,R.2.1,R.2.2.1,fun h=>(by cases h),fun _=>R.2.2.2⟩) _ rfl ?_;simp only [go_sem,hS0,hS1,hll,hS2,hgm,hsm,hS3,hS4,hw];first | done | ((repeat' apply And.intro)<;>try exact on'))
     ·exfalso;omega
    ·rename_i hq
     have hjl:j < (p.Rules.getD k default).Body.length:=by omega
     have hst:a1m p g4 ((vwS p).getD n []) ((p.Rules.getD k default).Body.getD j default):=c0g hL4.ge (.inl ⟨by simpa using hq,rfl⟩) hc
     have h3:ag4=false→g4=g∧(∀ r∈p.Rules,r.Head.Name∈(vwS p).take n→u6 p g r)∧(∀ r∈p.Rules.take k,r.Head.Name=((vwS p).getD n [])→u6 p g r)∧∀ l∈(p.Rules.getD k default).Body.take (j+1),a1m p g ((vwS p).getD n []) l:=fun h=>by
      have h5:=hF4 h
      refine ⟨h5.1,h5.2.1,h5.2.2.1,c0h hjl h5.2.2.2 ?_⟩
      rw [← h5.1];exact hst
     (refine lpK_n2 (⟨(j+1,ag4,g4),by simp only;omega,hL4,ho4,by simp only;omega,h3,hM4⟩) _ rfl ?_;simp only [go_sem,hS0,hS1,hll,hS2,hgm,hsm,hS3,hS4,hw];first | done | ((repeat' apply And.intro)<;>try exact on'))
    ·rename_i hq
     have hjl:j < (p.Rules.getD k default).Body.length:=by omega
     have hlm:((p.Rules.getD k default).Body.getD j default)∈(p.Rules.getD k default).Body:=A3q hjl
     have hkk:((p.Rules.getD k default).Body.getD j default).Kind≠3:=by simpa using hc.1
     have hx0:=b8B (x:=z7 (lvl p g4) ((p.Rules.getD k default).Body.getD j default).Atom.Name) hL4.ge (.inr ⟨hq,rfl⟩)
     have hh0:=hL4.ge ((vwS p).getD n [])
     have hc2:=hc.2
     rcases hx0 with ⟨hvv,e⟩ | ⟨hvv,e⟩
     ·have hMM:a1n p g4≤a1n p g:=by
       cases hag4:ag4 with
       | true=>exact Nat.le_of_lt (hM4 hag4)
       | false=>rw [(hF4 hag4).1];exact Nat.le_refl _
      have R:=a5p (j:=8 * k+j) hrm (by rw [hrh];exact hv) hlm hkk hvv hL4 (by rw [hrh];exact ho4) (by rw [hrh];exact hh4) (by omega) e (by rw [hrh];exact hc2) hMM
      rw [hrh] at R
      (refine lpK_n2 (⟨(j+1,true,upd g4 ((vwS p).getD n []) (z7 (lvl p g4) ((p.Rules.getD k default).Body.getD j default).Atom.Name)),by simp only;omega,R.1,R.2.1,R.2.2.1,fun h=>(by cases h),fun _=>R.2.2.2⟩) _ rfl ?_;simp only [go_sem,hS0,hS1,hll,hS2,hgm,hsm,hS3,hS4,hw];first | done | ((repeat' apply And.intro)<;>try exact on'))
     ·exfalso;omega
    ·rename_i hq
     have hjl:j < (p.Rules.getD k default).Body.length:=by omega
     have hst:a1m p g4 ((vwS p).getD n []) ((p.Rules.getD k default).Body.getD j default):=c0g hL4.ge (.inr ⟨hq,rfl⟩) hc
     have h3:ag4=false→g4=g∧(∀ r∈p.Rules,r.Head.Name∈(vwS p).take n→u6 p g r)∧(∀ r∈p.Rules.take k,r.Head.Name=((vwS p).getD n [])→u6 p g r)∧∀ l∈(p.Rules.getD k default).Body.take (j+1),a1m p g ((vwS p).getD n []) l:=fun h=>by
      have h5:=hF4 h
      refine ⟨h5.1,h5.2.1,h5.2.2.1,c0h hjl h5.2.2.2 ?_⟩
      rw [← h5.1];exact hst
     (refine lpK_n2 (⟨(j+1,ag4,g4),by simp only;omega,hL4,ho4,by simp only;omega,h3,hM4⟩) _ rfl ?_;simp only [go_sem,hS0,hS1,hll,hS2,hgm,hsm,hS3,hS4,hw];first | done | ((repeat' apply And.intro)<;>try exact on'))
    ·have h3:ag4=false→g4=g∧(∀ r∈p.Rules,r.Head.Name∈(vwS p).take n→u6 p g r)∧∀ r∈p.Rules.take (k+1),r.Head.Name=((vwS p).getD n [])→u6 p g r:=fun h=>by
      have h5:=hF4 h
      refine ⟨h5.1,h5.2.1,fun r hr he=>?_⟩
      rw [i5 default (by omega),List.mem_append,List.mem_singleton] at hr
      rcases hr with hr | rfl
      ·exact h5.2.2.1 r hr he
      ·intro _ l hl
       rw [he]
       refine h5.2.2.2 l ?_
       rw [f9 (by omega)];exact hl
     (refine lpK_n2 (⟨(k+1,ag4,g4),by simp only;omega,hL4,ho4,by simp only;omega,h3,hM4⟩) _ rfl ?_;simp only [go_sem,hS0,hS1,hll,hS2,hgm,hsm,hS3,hS4,hw];first | done | ((repeat' apply And.intro)<;>try exact on'))
   ·rw [b6Y hL3 hv hc];exact ⟨rfl,rfl⟩
   ·have h1:∀ v∈vwS p,g3 v≤(vwS p).length:=fun v hv2=>by
     by_cases e:v=((vwS p).getD n [])
     ·rw [e];omega
     ·exact ho3 v hv2 e
    have h3:ag3=false→g3=g∧∀ r∈p.Rules,r.Head.Name∈(vwS p).take (n+1)→u6 p g r:=fun h=>by
     have h5:=hF3 h
     refine ⟨h5.1,fun r hr he=>?_⟩
     rw [i5 [] (by omega),List.mem_append,List.mem_singleton] at he
     rcases he with he | he
     ·exact h5.2.1 r hr he
     ·exact h5.2.2 r (by rw [f9 (by omega)];exact hr) he
    (refine lpK_n2 (⟨(n+1,ag3,g3),by simp only;omega,hL3,h1,h3,hM3⟩) _ rfl ?_;simp only [go_sem,hS0,hS1,hll,hS2,hgm,hsm,hS3];first | done | ((repeat' apply And.intro)<;>try exact on'))
  ·have h3:ag2=false→Fx p g2:=fun h=>by
    have h5:=hF2 h
    rw [f9 (by omega)] at h5
    rw [h5.1]
    intro r hr hv2
    exact h5.2 r hr hv2 hv2
   have hmm:ag2=false→g2=g:=fun h=>(hF2 h).1
   (refine lpK_n2 (⟨(ag2,g2),hL2,hle2,h3⟩) _ rfl ?_;simp only [go_sem,hS0,hS1,hll,hS2];first | done | ((repeat' apply And.intro)<;>try exact on'))
   cases hag2:ag2 with
   | false=>rw [hmm hag2,hag];simp only [cond_true,cond_false];omega
   | true=>have:=hM2 hag2;rw [hag];simp only [cond_true];omega
 ·rw [b4B hN ⟨hF hc,hL,hle⟩];exact ⟨rfl,rfl⟩
noncomputable def a6b:CT:=i3 (fun (x:c4)=>b6q x)
@[go_sem] def c5i:=fun x0 x1=>nm' (fQ' a6b rfl ⟨x0,x1⟩)
end Go.Aw
