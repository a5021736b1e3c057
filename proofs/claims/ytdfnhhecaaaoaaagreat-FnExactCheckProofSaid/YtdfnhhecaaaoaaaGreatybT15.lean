/- Levels: the program's. No condition. -/
import Derived.Test.YtdfnhhecaaaoaaaGreatybT12
import Derived.Test.YtdfnhhecaaaoaaaGreatybT14
import Derived.Test.YtdfnhhecaaaoaaaGreatybT11
namespace Go.Aw
open Go.Proofs
attribute [local irreducible] aft blk lpK retK AW Z9
set_option linter.all false
set_option maxRecDepth 100000
def a1l (l:List e7) (v:List UInt8):Int:=((l.find? fun x=>x.Name==v).map e7.N).getD 0
def z7 (l:List e7) (v:List UInt8):Int:=((l.find? fun x=>x.Name==v).map e7.N).getD (-1)
theorem a8m {p:c4} (g:Lev) {v:List UInt8}:(v∈vwS p→(lvl p g).find? (fun x=>x.Name==v)=some ⟨v,g v⟩)∧(¬ v∈vwS p→(lvl p g).find? (fun x=>x.Name==v)=none):=by
 unfold lvl
 generalize vwS p=V
 induction V with
 | nil=>exact ⟨fun h=>by simp at h,fun _=>rfl⟩
 | cons x V ih=>
   refine ⟨fun h=>?_,fun h=>?_⟩
   ·by_cases e:x=v
    ·subst e;simp
    ·have hv:v∈V:=by
      rcases List.mem_cons.1 h with h | h
      ·exact absurd h.symm e
      ·exact h
     rw [List.map_cons,List.find?_cons_of_neg (by simpa using e)]
     exact ih.1 hv
   ·simp only [List.mem_cons,not_or] at h
    rw [List.map_cons,List.find?_cons_of_neg (by simpa using fun e=>h.1 e.symm)]
    exact ih.2 h.2
theorem a3c {p:c4} (g:Lev) {v:List UInt8} (h:v∈vwS p):a1l (lvl p g) v=g v:=by rw [a1l,(a8m g).1 h];rfl
theorem b6X {p:c4} (g:Lev) {v:List UInt8} (h:v∈vwS p):z7 (lvl p g) v=g v:=by rw [z7,(a8m g).1 h];rfl
theorem c0f {p:c4} (g:Lev) {v:List UInt8} (h:¬ v∈vwS p):z7 (lvl p g) v=-1:=by rw [z7,(a8m g).2 h];rfl
theorem c7P {p:c4} (g:Lev) {v:List UInt8} (h:¬ v∈vwS p):a1l (lvl p g) v=0:=by rw [a1l,(a8m g).2 h];rfl
theorem lvl_idx {p:c4} {h:List UInt8} (hv:h∈vwS p):∃ m,m < (vwS p).length∧(vwS p).getD m []=h∧(∀ g,a0H (fun y:e7=>y.Name==h) (lvl p g)=(m:Int))∧(∀ g,(lvl p g).getD m default=⟨h,g h⟩)∧∀ g x,(lvl p g).set m ⟨h,x⟩=lvl p (upd g h x):=by
 obtain ⟨m,hm,e⟩:=List.getElem_of_mem hv
 have e0:(vwS p).getD m []=h:=by rw [i6 [] hm,e]
 have hg:∀ g,(lvl p g).getD m default=⟨h,g h⟩:=fun g=>by rw [c0j p g hm,e0]
 refine ⟨m,hm,e0,fun g=>?_,hg,fun g x=>?_⟩
 ·refine o0 (d:=default) (by rw [a8n];exact hm) ?_ (by rw [hg];simp)
  rw [List.any_eq_false]
  intro y hy
  obtain ⟨j,hj,rfl⟩:=List.mem_take_iff_getElem.1 hy
  have hj2:j < (vwS p).length:=by rw [a8n] at hj;omega
  have hne:(vwS p)[j]≠h:=fun e2=>by
   have:=(List.getElem_inj (a9P p)).1 (e2.trans e.symm)
   omega
  simpa [lvl] using hne
 ·have:=c3L p g hm x
  rw [e0] at this
  exact this
theorem c5V {p:c4} (hd:∀ j,j < p.Decls.length→l8 p j=false):(vwN p).Nodup:=by
 have h1:(p.Decls.map d7.Name).Nodup:=by
  rw [List.nodup_iff_pairwise_ne,List.pairwise_map,List.pairwise_iff_getElem]
  intro i j hi hj hij
  have:=a6N hd hj (j:=i) hij
  rw [i6 default hi,i6 default hj] at this
  exact this
 exact h1.sublist (List.filter_sublist.map _)
theorem c3S {p:c4} (h:m9 p=true):(vwS p).length≤16:=by
 have h1:=a0I sLt (vwN p) []
 have h2:=a9q (fun d:d7=>d.Kind==3) d7.Name p.Decls
 simp only [m9,Bool.and_eq_true,decide_eq_true_eq] at h
 simp only [List.length_nil] at h1
 rw [vwS]
 show _≤16
 have h3:(vwN p).length≤p.Decls.length:=h2
 omega
@[go_sem] def b0y:ACode:=q' 4 [aK 0] (.seq (q' 7 [am 0,aN,aK 0] (.block 0 (.loop (q' 10 [ar 9 8] (.seq (.cond (.t 10) .skip (.exit 0)) (.seq (.block 1 (q' 11 [ai 2 7 9,aE 2,ax (w' 6
 [.s,.i .i64]),aS 2 6 12] (q' 13 [aG 0 6,am 1,ao (.bin .eql (.t 14) (.t 15))] (.cond (.t 16) (q' 17 [aG 1 6,aV 4] .ret) .skip)))) (g' 19 [aA 9]))))))) (q' 4
 [aK 0] .ret))
theorem b3N (l:List e7) (v:List UInt8):Z9 Tryz.prog 242 [(false,[.sl false [.s [],.i .i64 0] (l.map e7.cells)]),(false,[.s v])] [] (.one (false,[.i .i64 (a1l l v)])):=by
 refine sx' false false none Tryz.func242 b0y [.t 4] [] ?_
 intro hb hE
 simp only [go_sem];(repeat' first | apply CJ.mk | intro hc);all_goals try exact om'
 refine lq' false [1,7,8] [] [] (fun i:{i:Nat // i≤l.length∧(l.take i).any (fun d=>d.Name==v)=false}=>[(9,slV (.i .i64 i.1))]) nl' nl' (fun i=>l.length - i.1) (⟨0,by simp⟩) ?_
 intro S0 hS0 i
 obtain ⟨i,hi,ha⟩:=i
 simp only [go_sem,hS0];(repeat' first | apply CJ.mk | intro hc);all_goals try exact om'
 ·rw [a1l,b7L (d:=default) (i:=i) (by omega) ha hc];rfl
 ·exact nx0 ⟨i+1,by omega,j5 (p:=fun d:e7=>d.Name==v) default (by omega) ha hc⟩
 ·rw [a1l,a5n (by rwa [f9 (by omega)] at ha)];rfl
noncomputable def a4v:CT:=i3 (fun (x:(List e7)×(List UInt8))=>b3N x.1 x.2)
@[go_sem] def c2Q:=fun l v=>nm' (fQ' a4v rfl (l,v))
@[go_sem] def a8I:ACode:=q' 0 [ax (o' 2 (.box 2 (.t 0))),ab 3 false] (q' 4 [aG 0 2,af 1 1,aG 0 6,ao (.bin .eql (.t 5) (.t 8)),aV 3] .ret)
theorem b1r (x:e7) (r:c6):Z9 Tryz.prog 241 [(true,[.s x.Name,.i .i64 x.N]),(false,[.p [.i .i64 r.Kind,.s r.Head.Name,.sl false [.s [],.i .i64 0,.s []] (r.Head.Args.map c8.cells),.sl false [.i .i64 0,.s [],.sl false [.s [],.i .i64 0,.s []] [],.i .i64 0,.s [],.i .i64 0,.s [],.s [],.i .i64 0,.s []] (r.Body.map (d5.cells false false))]])] [] (.one (false,[.b (x.Name==r.Head.Name)])):=by
 refine sx' false false none Tryz.func241 a8I [.t 3] [] ?_
 intro hb hE
 simp only [go_sem];(repeat' first | apply CJ.mk | intro hc);all_goals try exact om'
 all_goals (first | rfl)
noncomputable def a3D:CT:=i3 (fun (x:e7×c6)=>b1r x.1 x.2)
@[go_sem] def c1C:=fun x0 x1 x2 x3 x4 x5=>nm' (fQ' a3D rfl (⟨x0,x1⟩,⟨x2,⟨x3,x4⟩,x5⟩))
@[go_sem] def b8X:ACode:=q' 4 [aK 0] (.seq (q' 6 [am 0,aN,aK 0] (.block 0 (.loop (q' 9 [ar 8 7] (.seq (.cond (.t 9) .skip (.exit 0)) (.seq (.block 1 (q' 10 [am 8,aV 5] (q' 11 [aM
 [1,0,5],aI 2,aE 2,ao (.callv (.t 11) [.t 15])] (.cond (.t 16) (q' 17 [am 5,aV 4] .ret) .skip)))) (g' 18 [aA 8]))))))) (q' 4 [ao (.mov (.k (.v false [.c (.i
 .i64 (-1))])))] .ret))
theorem b7U (l:List e7) (r:c6):Z9 Tryz.prog 240 [(false,[.sl false [.s [],.i .i64 0] (l.map e7.cells)]),(false,[.f 241 [.p [.i .i64 r.Kind,.s r.Head.Name,.sl false [.s [],.i .i64 0,.s []] (r.Head.Args.map c8.cells),.sl false [.i .i64 0,.s [],.sl false [.s [],.i .i64 0,.s []] [],.i .i64 0,.s [],.i .i64 0,.s [],.s [],.i .i64 0,.s []] (r.Body.map (d5.cells false false))]]])] [] (.one (false,[.i .i64 (a0H (fun y:e7=>y.Name==r.Head.Name) l)])):=by
 refine sx' false false none Tryz.func240 b8X [.t 4] [(241,[],a3D)] ?_
 intro hb hE
 simp only [go_sem];(repeat' first | apply CJ.mk | intro hc);all_goals try exact om'
 refine lq' false [0,1,7] [] [] (fun i:{i:Nat // i≤l.length∧(l.take i).any (fun y:e7=>y.Name==r.Head.Name)=false}=>[(8,slV (.i .i64 i.1))]) nl' nl' (fun i=>l.length - i.1) (⟨0,by simp⟩) ?_
 intro S0 hS0 i
 obtain ⟨i,hi,ha⟩:=i
 simp only [go_sem,hS0];(repeat' first | apply CJ.mk | intro hc);all_goals try exact om'
 ·exact (o0 (p:=fun y:e7=>y.Name==r.Head.Name) (d:=default) (by omega) ha (by simpa [-List.getD_eq_getElem?_getD] using hc)).symm
 ·exact nx0 ⟨i+1,by omega,j5 (p:=fun y:e7=>y.Name==r.Head.Name) default (by omega) ha (by simpa [-List.getD_eq_getElem?_getD] using hc)⟩
 ·exact (n9 (by rwa [f9 (by omega)] at ha)).symm
noncomputable def a7q:CT:=i3 (fun (x:(List e7)×c6)=>b7U x.1 x.2)
@[go_sem] def c6a:=fun l x0 x1 x2 x3=>nm' (fQ' a7q rfl (l,⟨x0,⟨x1,x2⟩,x3⟩))
def b9A (l:List d7):List e7:=(l.filter fun d=>d.Kind==3).map fun d=>⟨d.Name,0⟩
theorem c7D (l:List d7):(b9A l).length≤l.length:=a9q _ _ _
theorem c5t {p:c4} (hd:∀ j,j < p.Decls.length→l8 p j=false):b8G (b9A p.Decls)=lvl p fun _=>0:=by
 have e:b9A p.Decls=(vwN p).map fun v=>(⟨v,0⟩:e7):=by rw [vwN,List.map_map];rfl
 rw [e,c0r (c5V hd)];rfl
theorem a5p {p:c4} {g g3:Lev} {r:c6} {l:d5} {j:Nat} (hr:r∈p.Rules) (hv:r.Head.Name∈vwS p) (hl:l∈r.Body) (hk:l.Kind≠3) (hb:l.Atom.Name∈vwS p) (hL:Low p g3) (ho:∀ v∈vwS p,v≠r.Head.Name→g3 v≤(vwS p).length) (hh:g3 r.Head.Name≤(vwS p).length+j) (hj:j≤300) {x:Int} (hx:x=g3 l.Atom.Name+a5e l) (hlt:g3 r.Head.Name < x) (hM:a1n p g3≤a1n p g):
  Low p (upd g3 r.Head.Name x)∧(∀ v∈vwS p,v≠r.Head.Name→upd g3 r.Head.Name x v≤(vwS p).length)∧upd g3 r.Head.Name x r.Head.Name≤(vwS p).length+(j+1:Nat)∧a1n p (upd g3 r.Head.Name x) < a1n p g:=by
 have hn:a5e l≤1:=by unfold a5e;split<;>omega
 have hb2:g3 l.Atom.Name≤(vwS p).length+j:=by
  by_cases e:l.Atom.Name=r.Head.Name
  ·rw [e];exact hh
  ·have:=ho _ hb e;omega
 refine ⟨by rw [hx];exact hL.up hr hv hl hk hb,fun v hv2 hne=>?_, ?_, ?_⟩
 ·rw [upd,if_neg hne];exact ho v hv2 hne
 ·rw [upd,if_pos rfl];omega
 ·have:=lsum_lt (g:=g3) (n:=x) hv hlt (by omega)
  omega
theorem b6Z {p:c4} {g:Lev} {h:List UInt8} {l:d5} (hk:(l.Kind==3)=true):a1m p g h l:=fun h=>absurd (by simpa using hk) h
theorem b7a {p:c4} {g:Lev} {h:List UInt8} {l:d5} (hk:¬ l.Atom.Name∈vwS p):a1m p g h l:=fun _ h=>absurd h hk
theorem c2p {p:c4} {g:Lev} {h:List UInt8} {l:d5} {x:Int} (hx:x=g l.Atom.Name+a5e l) (hn:¬ g h < x):a1m p g h l:=fun _ _=>by omega
theorem b4C {l:d5} (h:(l.Kind==2)=true):a5e l=1:=by rw [a5e,if_pos (by simpa using h)]
theorem b8C {l:d5} (h:(l.Kind==2)=false):a5e l=0:=by rw [a5e,if_neg (by simpa using h)]
@[go_sem] def b2a:ACode:=q' 1 [ao (.box 2 (.t 0)),ao (.mov (.k (.v false [.nl [.s [],.i .i64 0]]))),ao (.mov (bb false))] (.seq (q' 14 [ae 2 1,ac 236 [14],ao (.not (.t 15))] (.cond (.t
 16) (q' 0 [ax (o' 2 (.mov (.k (.v false [.nl [.s [],.i .i64 0]])))),ab 3 false] .ret) .skip)) (q' 17 [ao (.bsl 2 0 [.s,.i .i64] []),aV 4] (.seq (q' 18 [aG 0
 1,aN,aK 0] (.block 0 (.loop (q' 22 [ar 21 20] (.seq (.cond (.t 22) .skip (.exit 0)) (.seq (.block 1 (q' 23 [ai 3 19 21,aE 3,ax (w' 6 [.i .i64,.s,.i
 .i64]),aS 3 6 24] (q' 25 [aG 0 6,ao (.bin .eql (.t 26) (k' 3))] (.cond (.t 27) (g' 28 [am 4,aG 1 6,ao (.bld [.s,.i .i64] [(0,1,.t 30)]),ao (.bsl 2 1 [.s,
 .i .i64] [(0,.t 31)]),ao (.app 2 24 [.s,.i .i64] (.t 28) (.t 32)),aV 4]) .skip)))) (g' 34 [aA 21]))))))) (q' 35 [am 4,ao (.call 237 [.t 35,.k (.v false [.c
 (.f 238 [])])])] (.seq (q' 0 [ab 7 true] (.block 2 (.loop (.seq (q' 37 [am 7] (.cond (.t 37) .skip (.exit 2))) (.block 3 (q' 0 [ab 7 false] (q' 38 [aG 1
 1,aN,aK 0] (.block 4 (.loop (q' 42 [ar 41 40] (.seq (.cond (.t 42) .skip (.exit 4)) (.seq (.block 5 (q' 43 [ai 4 39 41,aE 4,ax (w' 9 [.i .i64,.s,.sl [.s [],
 .i .i64 0,.s []],.sl [.i .i64 0,.s [],.sl false [.s [],.i .i64 0,.s []] [],.i .i64 0,.s [],.i .i64 0,.s [],.s [],.i .i64 0,.s []]]),aS 4 9 44]
 (.seq (q' 45 [ae 2 1,ae 4 9,ac 222 [45,46],ao (.not (.t 47))] (.cond (.t 48) (.exit 5) .skip)) (q' 49 [am 4,ao (.mf 241 [.t 9]),ac 240 [49,50],aV 10] (.seq
 (q' 52 [aG 3 9,aN,aK 0] (.block 6 (.loop (q' 56 [ar 55 54] (.seq (.cond (.t 56) .skip (.exit 6)) (.seq (.block 7 (q' 57 [ai 10 53 55,aE 10,ax (w' 12 [.i .i64,
 .s,.sl [.s [],.i .i64 0,.s []],.i .i64,.s,.i .i64,.s,.s,.i .i64,.s]),aS 10 12 58] (.seq (q' 59 [aG 0 12,ao (.bin .eql (.t 60) (k' 3)),am 61,au (.ld
 true 2 (.t 1)) 62 false,au (.fa 1 (.t 12)) 62 false,au (.fa 0 (.t 64)) 62 false,au (.ld false 1 (.t 65)) 62 false,au (.call 225 [.t 63,.t 66]) 62 false,au
 (.bin .neq (.t 67) (k' 3)) 62 false,ao (.pick (.t 62) (bb true) (.t 68))] (.cond (.t 69) (.exit 7) .skip)) (q' 70 [am 4,af 1 12,aG 0 71,ac 242 [70,73],aV 13]
 (.seq (q' 75 [aG 0 12,ao (.bin .eql (.t 76) (k' 2))] (.cond (.t 77) (g' 78 [aB 13]) .skip)) (q' 80 [aM [4,10],aI 2,aG 1 82,am 13,ar 84 85] (.cond (.t 86) (q'
 87 [aM [4,10,13],ai 2 87 88,aF 1,aS 1 91 89] (g' 0 [ab 7 true])) .skip))))))) (g' 92 [aA 55]))))))) (q' 93 [aM [4,10],aI 2,aG 1 95,am 4,aN,ao (.bin .gtr (.t
 97) (.t 99))] (.cond (.t 100) (q' 0 [ax (o' 2 (.mov (.k (.v false [.nl [.s [],.i .i64 0]])))),ab 3 false] .ret) .skip))))))) (g' 101 [aA 41]))))))))))))) (q'
 102 [am 4,aV 2,ab 3 true] .ret))))))
theorem b5F (p:c4):Z9 Tryz.prog 121 [(true,[.sl false [.i .i64 0,.s [],.i .i64 0] (p.Decls.map d7.cells),.sl false [.i .i64 0,.s [],.sl false [.s [],.i .i64 0,.s []] [],.sl false [.i .i64 0,.s [],.sl false [.s [],.i .i64 0,.s []] [],.i .i64 0,.s [],.i .i64 0,.s [],.s [],.i .i64 0,.s []] []] (p.Rules.map (c6.cells false false))])] [] (.tup [(false,[.sl true [.s [],.i .i64 0] (((y4 p).1).map e7.cells)]),(false,[.b ((y4 p).2)])]):=by
 refine sx' false false none Tryz.func121 b2a [.t 2,.t 3] [(236,[],a0A),(237,[0],b6O),(222,[],a0z),(240,[],a7q),(225,[],v6),(242,[],a4v)] ?_
 intro hb hE
 simp only [go_sem];(repeat' first | apply CJ.mk | intro hc);all_goals try exact om'
 ·rw [y4,hc];exact ⟨rfl,rfl⟩
 have hN:((i4 p).1==0)=true:=hc
 have hok:=a8p (by simpa using hN)
 obtain ⟨hB,hD,hRb⟩:=hok
 have hdl:p.Decls.length≤16:=by
  have:=hB;simp only [m9,Bool.and_eq_true,decide_eq_true_eq] at this;omega
 have hvl:=c3S hB
 clear hc
 refine lk' false [(false,4,0,100008)] [1,19,20] [2] [] (fun i:{i:Nat // i≤p.Decls.length}=>[(4,.v false [.ow 100008]),(21,slV (.i .i64 i.1))]) nl' (fun i=>[(100008,[.s [],.i .i64 0],(b9A (p.Decls.take i.1)).map e7.cells)]) (fun i=>p.Decls.length - i.1) (⟨0,by simp⟩) ?_
 intro S0 hS0 i
 obtain ⟨i,hi⟩:=i
 have hl:=c7D (p.Decls.take i)
 rw [List.length_take] at hl
 simp only [go_sem,hS0];(repeat' first | apply CJ.mk | intro hc);all_goals try exact om'
 ·(refine lpK_n2 (⟨i+1,by omega⟩) _ (by simp only [go_sem];try rfl) ?_;simp only [go_sem,hS0];first | done | ((repeat' apply And.intro)<;>try exact on'))
  rw [show b9A (p.Decls.take (i+1))=b9A (p.Decls.take i)++[⟨(p.Decls.getD i default).Name,0⟩] from a6J (p:=fun d:d7=>d.Kind==3) (fun d:d7=>(⟨d.Name,0⟩:e7)) default (by omega) hc]
  first | done | (rw [List.map_append];rfl) | trace_state
 ·(refine lpK_n2 (⟨i+1,by omega⟩) _ (by simp only [go_sem];try rfl) ?_;simp only [go_sem,hS0];first | done | ((repeat' apply And.intro)<;>try exact on'))
  rw [show b9A (p.Decls.take (i+1))=b9A (p.Decls.take i) from b3s (p:=fun d:d7=>d.Kind==3) (fun d:d7=>(⟨d.Name,0⟩:e7)) default (by omega) hc]
 rw [f9 (by omega),c5t hD]
 clear hc hl hi
 refine lq' false [1,4] [2] [] (fun i:{q:Bool×Lev // Low p q.2∧(∀ v∈vwS p,q.2 v≤(vwS p).length)∧(q.1=false→Fx p q.2)}=>[(7,slV (.b i.1.1))]) nl' (fun i=>[(100008,[.s [],.i .i64 0],(lvl p i.1.2).map e7.cells)]) (fun i=>2 * a1n p i.1.2+(bif i.1.1 then 1 else 0)) (⟨(true,fun _=>0),Low.zero p,fun v _=>by simp only;omega,by intro h;cases h⟩) ?_
 intro S1 hS1 i
 obtain ⟨⟨ag,g⟩,hL,hle,hF⟩:=i
 simp only at hL hle hF
 simp only [go_sem,hS0,hS1];(repeat' first | apply CJ.mk | intro hc);all_goals try exact om'
 ·have hag:=hc
  clear hc
  refine lq' false [1,4,39,40] [2] [] (fun i:{q:Nat×Bool×Lev // q.1≤p.Rules.length∧Low p q.2.2∧(∀ v∈vwS p,q.2.2 v≤(vwS p).length)∧(q.2.1=false→q.2.2=g∧∀ r∈p.Rules.take q.1,u6 p g r)∧(q.2.1=true→a1n p q.2.2 < a1n p g)}=>[(7,slV (.b i.1.2.1)),(41,slV (.i .i64 i.1.1))]) nl' (fun i=>[(100008,[.s [],.i .i64 0],(lvl p i.1.2.2).map e7.cells)]) (fun i=>p.Rules.length - i.1.1) (⟨(0,false,g),by simp,hL,hle,fun _=>⟨rfl,by simp⟩,by intro h;cases h⟩) ?_
  intro S2 hS2 i
  obtain ⟨⟨n,ag2,g2⟩,hn,hL2,hle2,hF2,hM2⟩:=i
  simp only at hn hL2 hle2 hF2 hM2
  simp only [go_sem,hS0,hS1,hS2];(repeat' first | apply CJ.mk | intro hc);all_goals try exact om'
  ·have h3:ag2=false→g2=g∧∀ r∈p.Rules.take (n+1),u6 p g r:=fun h=>by
    refine ⟨(hF2 h).1,fun r hr=>?_⟩
    rw [i5 default (by omega),List.mem_append,List.mem_singleton] at hr
    rcases hr with hr | rfl
    ·exact (hF2 h).2 r hr
    ·intro hv
     have hk3:=(a1a hD).2 hv
     have hk1:=b3v hRb (by omega) hk3
     rw [hk1,hk3] at hc
     exact absurd hc (by decide)
   (refine lpK_n2 (⟨(n+1,ag2,g2),by simp only;omega,hL2,hle2,h3,hM2⟩) _ rfl ?_;simp only [go_sem,hS0,hS1,hS2];first | done | ((repeat' apply And.intro)<;>try exact on'))
  ·have hk:=hc
   have hnl:n < p.Rules.length:=by omega
   clear hc
   have hb8:=b9d hB hnl
   have hv:(p.Rules.getD n default).Head.Name∈vwS p:=(a1a hD).1 (by simpa using hk.2)
   obtain ⟨m,hm,hme,hix,hgm,hsm⟩:=lvl_idx hv
   have hll:=a8n p
   refine lq' false [1,4,10,39,40,41,53,54] [2] [] (fun i:{q:Nat×Bool×Lev // q.1≤(p.Rules.getD n default).Body.length∧Low p q.2.2∧(∀ v∈vwS p,v≠(p.Rules.getD n default).Head.Name→q.2.2 v≤(vwS p).length)∧q.2.2 (p.Rules.getD n default).Head.Name≤(vwS p).length+(q.1:Nat)∧(q.2.1=false→q.2.2=g∧(∀ r∈p.Rules.take n,u6 p g r)∧∀ l∈(p.Rules.getD n default).Body.take q.1,a1m p g (p.Rules.getD n default).Head.Name l)∧(q.2.1=true→a1n p q.2.2 < a1n p g)}=>[(7,slV (.b i.1.2.1)),(55,slV (.i .i64 i.1.1))]) nl' (fun i=>[(100008,[.s [],.i .i64 0],(lvl p i.1.2.2).map e7.cells)]) (fun i=>(p.Rules.getD n default).Body.length - i.1.1) (⟨(0,ag2,g2),by simp,hL2,fun v hv2 _=>hle2 v hv2,by simp only;have:=hle2 _ hv;omega,fun h=>⟨(hF2 h).1,(hF2 h).2,by simp⟩,hM2⟩) ?_
   intro S3 hS3 i
   obtain ⟨⟨j,ag3,g3⟩,hj,hL3,ho3,hh3,hF3,hM3⟩:=i
   simp only at hj hL3 ho3 hh3 hF3 hM3
   have hLb:∀ v,0≤a1l (lvl p g3) v∧a1l (lvl p g3) v≤40:=fun v=>by
    by_cases e:v∈vwS p
    ·rw [a3c g3 e]
     refine ⟨hL3.ge v, ?_⟩
     by_cases e2:v=(p.Rules.getD n default).Head.Name
     ·rw [e2];omega
     ·have:=ho3 v e e2;omega
    ·rw [c7P g3 e];omega
   have hw:∀ v,IntKind.i64.wrap (a1l (lvl p g3) v+1)=a1l (lvl p g3) v+1:=fun v=>by have:=hLb v;exact w64 (by omega) (by omega) (by omega)
   simp only [go_sem,hS0,hS1,hS2,hix,hgm,hsm,hll,hS3,hw];(repeat' first | apply CJ.mk | intro hc);all_goals try exact om'
   ·have h3:ag3=false→g3=g∧(∀ r∈p.Rules.take n,u6 p g r)∧∀ l∈(p.Rules.getD n default).Body.take (j+1),a1m p g (p.Rules.getD n default).Head.Name l:=fun h=>by
     refine ⟨(hF3 h).1,(hF3 h).2.1,fun l hl=>?_⟩
     rw [i5 default (by omega),List.mem_append,List.mem_singleton] at hl
     rcases hl with hl | rfl
     ·exact (hF3 h).2.2 l hl
     ·rcases hc with hc | hc
      ·exact b6Z hc
      ·refine b7a fun hv3=>?_
       rw [(a1a hD).2 hv3] at hc
       exact absurd hc (by decide)
    (refine lpK_n2 (⟨(j+1,ag3,g3),by simp only;omega,hL3,ho3,by simp only;omega,h3,hM3⟩) _ rfl ?_;simp only [go_sem,hS0,hS1,hS2,hix,hgm,hsm,hll,hS3,hw];first | done | ((repeat' apply And.intro)<;>try exact on'))
   ·have hq:(((p.Rules.getD n default).Body.getD j default).Kind==3)=false∧(p9 p ((p.Rules.getD n default).Body.getD j default).Atom.Name != 3)=false:=by assumption
    have hq2:(((p.Rules.getD n default).Body.getD j default).Kind==2)=true:=by assumption
    have hvv:((p.Rules.getD n default).Body.getD j default).Atom.Name∈vwS p:=(a1a hD).1 (by simpa [bne] using hq.2)
    have hjl:j < (p.Rules.getD n default).Body.length:=by omega
    have hrm:p.Rules.getD n default∈p.Rules:=A3q hnl
    have hlm:((p.Rules.getD n default).Body.getD j default)∈(p.Rules.getD n default).Body:=A3q hjl
    have hkk:((p.Rules.getD n default).Body.getD j default).Kind≠3:=fun e=>by have:=hq.1;rw [e] at this;exact absurd this (by decide)
    have e:a1l (lvl p g3) ((p.Rules.getD n default).Body.getD j default).Atom.Name+1=g3 ((p.Rules.getD n default).Body.getD j default).Atom.Name+a5e ((p.Rules.getD n default).Body.getD j default):=by rw [a3c g3 hvv,b4C hq2]
    have hMM:a1n p g3≤a1n p g:=by
     cases hag3:ag3 with
     | true=>exact Nat.le_of_lt (hM3 hag3)
     | false=>rw [(hF3 hag3).1];exact Nat.le_refl _
    have R:=a5p hrm hv hlm hkk hvv hL3 ho3 hh3 (by omega) e hc hMM
    (refine lpK_n2 (⟨(j+1,true,upd g3 (p.Rules.getD n default).Head.Name (a1l (lvl p g3) ((p.Rules.getD n default).Body.getD j default).Atom.Name+1)),by simp only;omega,R.1,R.2.1,R.2.2.1,fun h=>(by cases h),fun _=>R.2.2.2⟩) _ rfl ?_;simp only [go_sem,hS0,hS1,hS2,hix,hgm,hsm,hll,hS3,hw];first | done | ((repeat' apply And.intro)<;>try exact on'))
   ·have hq:(((p.Rules.getD n default).Body.getD j default).Kind==3)=false∧(p9 p ((p.Rules.getD n default).Body.getD j default).Atom.Name != 3)=false:=by assumption
    have hq2:(((p.Rules.getD n default).Body.getD j default).Kind==2)=true:=by assumption
    have hvv:((p.Rules.getD n default).Body.getD j default).Atom.Name∈vwS p:=(a1a hD).1 (by simpa [bne] using hq.2)
    have hjl:j < (p.Rules.getD n default).Body.length:=by omega
    have hrm:p.Rules.getD n default∈p.Rules:=A3q hnl
    have hlm:((p.Rules.getD n default).Body.getD j default)∈(p.Rules.getD n default).Body:=A3q hjl
    have e:a1l (lvl p g3) ((p.Rules.getD n default).Body.getD j default).Atom.Name+1=g3 ((p.Rules.getD n default).Body.getD j default).Atom.Name+a5e ((p.Rules.getD n default).Body.getD j default):=by rw [a3c g3 hvv,b4C hq2]
    have h3:ag3=false→g3=g∧(∀ r∈p.Rules.take n,u6 p g r)∧∀ l∈(p.Rules.getD n default).Body.take (j+1),a1m p g (p.Rules.getD n default).Head.Name l:=fun h=>by
     refine ⟨(hF3 h).1,(hF3 h).2.1,fun l hl=>?_⟩
     rw [i5 default (by omega),List.mem_append,List.mem_singleton] at hl
     rcases hl with hl | rfl
     ·exact (hF3 h).2.2 l hl
     ·have:=(hF3 h).1
      rw [← this]
      exact c2p e hc
    (refine lpK_n2 (⟨(j+1,ag3,g3),by simp only;omega,hL3,ho3,by simp only;omega,h3,hM3⟩) _ rfl ?_;simp only [go_sem,hS0,hS1,hS2,hix,hgm,hsm,hll,hS3,hw];first | done | ((repeat' apply And.intro)<;>try exact on'))
   ·have hq:(((p.Rules.getD n default).Body.getD j default).Kind==3)=false∧(p9 p ((p.Rules.getD n default).Body.getD j default).Atom.Name != 3)=false:=by assumption
    have hq2:(((p.Rules.getD n default).Body.getD j default).Kind==2)=false:=by assumption
    have hvv:((p.Rules.getD n default).Body.getD j default).Atom.Name∈vwS p:=(a1a hD).1 (by simpa [bne] using hq.2)
    have hjl:j < (p.Rules.getD n default).Body.length:=by omega
    have hrm:p.Rules.getD n default∈p.Rules:=A3q hnl
    have hlm:((p.Rules.getD n default).Body.getD j default)∈(p.Rules.getD n default).Body:=A3q hjl
    have hkk:((p.Rules.getD n default).Body.getD j default).Kind≠3:=fun e=>by have:=hq.1;rw [e] at this;exact absurd this (by decide)
    have e:a1l (lvl p g3) ((p.Rules.getD n default).Body.getD j default).Atom.Name=g3 ((p.Rules.getD n default).Body.getD j default).Atom.Name+a5e ((p.Rules.getD n default).Body.getD j default):=by rw [a3c g3 hvv,b8C hq2];omega
    have hMM:a1n p g3≤a1n p g:=by
     cases hag3:ag3 with
     | true=>exact Nat.le_of_lt (hM3 hag3)
     | false=>rw [(hF3 hag3).1];exact Nat.le_refl _
    have R:=a5p hrm hv hlm hkk hvv hL3 ho3 hh3 (by omega) e hc hMM
    (refine lpK_n2 (⟨(j+1,true,upd g3 (p.Rules.getD n default).Head.Name (a1l (lvl p g3) ((p.Rules.getD n default).Body.getD j default).Atom.Name)),by simp only;omega,R.1,R.2.1,R.2.2.1,fun h=>(by cases h),fun _=>R.2.2.2⟩) _ rfl ?_;simp only [go_sem,hS0,hS1,hS2,hix,hgm,hsm,hll,hS3,hw];first | done | ((repeat' apply And.intro)<;>try exact on'))
   ·have hq:(((p.Rules.getD n default).Body.getD j default).Kind==3)=false∧(p9 p ((p.Rules.getD n default).Body.getD j default).Atom.Name != 3)=false:=by assumption
    have hq2:(((p.Rules.getD n default).Body.getD j default).Kind==2)=false:=by assumption
    have hvv:((p.Rules.getD n default).Body.getD j default).Atom.Name∈vwS p:=(a1a hD).1 (by simpa [bne] using hq.2)
    have hjl:j < (p.Rules.getD n default).Body.length:=by omega
    have hrm:p.Rules.getD n default∈p.Rules:=A3q hnl
    have hlm:((p.Rules.getD n default).Body.getD j default)∈(p.Rules.getD n default).Body:=A3q hjl
    have e:a1l (lvl p g3) ((p.Rules.getD n default).Body.getD j default).Atom.Name=g3 ((p.Rules.getD n default).Body.getD j default).Atom.Name+a5e ((p.Rules.getD n default).Body.getD j default):=by rw [a3c g3 hvv,b8C hq2];omega
    have h3:ag3=false→g3=g∧(∀ r∈p.Rules.take n,u6 p g r)∧∀ l∈(p.Rules.getD n default).Body.take (j+1),a1m p g (p.Rules.getD n default).Head.Name l:=fun h=>by
     refine ⟨(hF3 h).1,(hF3 h).2.1,fun l hl=>?_⟩
     rw [i5 default (by omega),List.mem_append,List.mem_singleton] at hl
     rcases hl with hl | rfl
     ·exact (hF3 h).2.2 l hl
     ·have:=(hF3 h).1
      rw [← this]
      exact c2p e hc
    (refine lpK_n2 (⟨(j+1,ag3,g3),by simp only;omega,hL3,ho3,by simp only;omega,h3,hM3⟩) _ rfl ?_;simp only [go_sem,hS0,hS1,hS2,hix,hgm,hsm,hll,hS3,hw];first | done | ((repeat' apply And.intro)<;>try exact on'))
   ·rw [b6Y hL3 hv hc];exact ⟨rfl,rfl⟩
   ·have h1:∀ v∈vwS p,g3 v≤(vwS p).length:=fun v hv2=>by
     by_cases e:v=(p.Rules.getD n default).Head.Name
     ·rw [e];omega
     ·exact ho3 v hv2 e
    have h3:ag3=false→g3=g∧∀ r∈p.Rules.take (n+1),u6 p g r:=fun h=>by
     refine ⟨(hF3 h).1,fun r hr=>?_⟩
     rw [i5 default (by omega),List.mem_append,List.mem_singleton] at hr
     rcases hr with hr | rfl
     ·exact (hF3 h).2.1 r hr
     ·intro _ l hl
      refine (hF3 h).2.2 l ?_
      rw [f9 (by omega)];exact hl
    (refine lpK_n2 (⟨(n+1,ag3,g3),by simp only;omega,hL3,h1,h3,hM3⟩) _ rfl ?_;simp only [go_sem,hS0,hS1,hS2,hix,hgm,hsm,hll,hS3,hw];first | done | ((repeat' apply And.intro)<;>try exact on'))
  ·have h3:ag2=false→Fx p g2:=fun h=>by
    have h5:=hF2 h
    rw [f9 (by omega)] at h5
    rw [h5.1];exact h5.2
   have hmm:ag2=false→g2=g:=fun h=>(hF2 h).1
   (refine lpK_n2 (⟨(ag2,g2),hL2,hle2,h3⟩) _ rfl ?_;simp only [go_sem,hS0,hS1,hS2];first | done | ((repeat' apply And.intro)<;>try exact on'))
   cases hag2:ag2 with
   | false=>rw [hmm hag2,hag];simp only [cond_true,cond_false];omega
   | true=>have:=hM2 hag2;rw [hag];simp only [cond_true];omega
 ·rw [b4B hN ⟨hF hc,hL,hle⟩];exact ⟨rfl,rfl⟩
noncomputable def a5G:CT:=i3 (fun (x:c4)=>b5F x)
@[go_sem] def c4y:=fun x0 x1=>nm' (fQ' a5G rfl ⟨x0,x1⟩)
end Go.Aw
